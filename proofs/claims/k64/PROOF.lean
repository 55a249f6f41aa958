import PyProof.Rows.All
import Wide.All
import OpenK.AllK
import Wide.FinOn
import HandS.ForMost
import KE.SortData
import PyProof.StrBlock2
import HandS.Wide
import HandS.WideBits
import HandS.TupAny
import HandS.Style
import HandS.IsInst
import HandS.SortInts
import HandS.Codes
import HandS.RaiseMore
import KE.KDictWalk
import KE.KDictList
import KE.KEqDict
import HandS.DictEq
import HandS.DictTup
import HandS.More
import KE.KDictCopyH
import HandS.TupLen
import HandS.Conv
import HandS.WordsDict
import PyProof.Rows.SumAny
import HandS.List
import KE.KDictSum
import KE.KDictOf
import PyProof.DictMoreH
import KE.KSortedM
import PyProof.ReprLen
import PyProof.ReprRoads
import HandS.Text
import HandS.HeadWalk
import HandS.EndBits
import HandS.HeadEnd
import HandS.Exc
import HandS.ExcOwn
import HandS.Small
import HandS.Zip
import HandS.Iter
import HandS.TryOnly
import PyProof.ExcBaseAll.ValueError
import HandS.Base
import HandS.Call
import PyProof.LongRange
import KE.GoesMore
import HandS.Comp
import HandS.ExcIs
import KE.KMinKey
import HandS.TupLe
import HandS.SortKw
import KE.SortKeyHeap
import HandS.Rev
import HandS.Dict
import HandS.Defaults
import HandS.Head0
import HandS.Head1
import HandS.Head2
import HandS.HeadHook1
import HandS.HeadHook2
import KE.KStateDown
import KE.IntTextLaws
import PyProof.StrLawsRepr
import KE.SortLaws
import KE.IntTextText
import PySem.Challenge.RW_peakroll_k64_locks_text
set_option Elab.async false
set_option linter.all false
set_option maxRecDepth 100000
set_option maxHeartbeats 0
set_option exponentiation.threshold 3000
namespace PK
open PySem


inductive D where
  | non | bl (b : Bool) | int (i : Int) | str (s : Str)
  | tup (ds : List D) | lst (ds : List D) | fz (ds : List D)
  | ref (i : Nat) | ins (c : Nat) (ds : List D) | exc (c : Nat)
deriving Inhabited

mutual
def D.beq : D → D → Bool
  | .non, .non => true
  | .bl a, .bl b => a == b
  | .int a, .int b => a == b
  | .str a, .str b => decide (a = b)
  | .tup a, .tup b => D.beqs a b
  | .lst a, .lst b => D.beqs a b
  | .fz a, .fz b => D.beqs a b
  | .ref a, .ref b => a == b
  | .ins c a, .ins d b => c == d && D.beqs a b
  | .exc a, .exc b => a == b
  | _, _ => false
def D.beqs : List D → List D → Bool
  | [], [] => true
  | a :: as, b :: bs => D.beq a b && D.beqs as bs
  | _, _ => false
end
mutual
theorem D.beq_self : ∀ a : D, D.beq a a = true
  | .non => rfl
  | .bl a => by simp [D.beq]
  | .int a => by simp [D.beq]
  | .str a => by simp [D.beq]
  | .tup a => by simp [D.beq, D.beqs_self a]
  | .lst a => by simp [D.beq, D.beqs_self a]
  | .fz a => by simp [D.beq, D.beqs_self a]
  | .ref a => by simp [D.beq]
  | .ins c a => by simp [D.beq, D.beqs_self a]
  | .exc a => by simp [D.beq]
theorem D.beqs_self : ∀ a : List D, D.beqs a a = true
  | [] => rfl
  | a :: as => by simp [D.beqs, D.beq_self a, D.beqs_self as]
end
mutual
theorem D.beq_eq : ∀ a b : D, D.beq a b = true → a = b := fun a b h => by
  cases a <;> cases b <;> simp [D.beq] at h <;> first
    | rfl
    | (subst h; rfl)
    | exact congrArg _ (D.beqs_eq _ _ h)
    | (obtain ⟨rfl, h⟩ := h; exact congrArg _ (D.beqs_eq _ _ h))
theorem D.beqs_eq : ∀ a b : List D, D.beqs a b = true → a = b
  | [], [], _ => rfl
  | a :: as, b :: bs, h => by
    simp [D.beqs] at h
    rw [D.beq_eq a b h.1, D.beqs_eq as bs h.2]
  | [], _ :: _, h => by simp [D.beqs] at h
  | _ :: _, [], h => by simp [D.beqs] at h
end
instance : DecidableEq D := fun a b => if h : D.beq a b = true then .isTrue (D.beq_eq a b h) else .isFalse fun e => h (e ▸ D.beq_self a)

inductive Cell where
  | lst (ds : List D) | dK (kvs : List (L2.Key × D)) | dT (kvs : List (List L2.Key × D)) | ins (c : Nat) (ds : List D)
deriving DecidableEq, Inhabited

abbrev Hp := List Cell
abbrev Env := List (Option D)

inductive R where
  | ok (v : D) (G : Hp) | exc (c : Nat) (G : Hp) | bad
inductive O where
  | nx (s : Env) (G : Hp) | ret (v : D) (G : Hp) | brk (s : Env) (G : Hp) | cnt (s : Env) (G : Hp) | exc (c : Nat) (s : Env) (G : Hp) | bad
inductive Tag {α : Sort u} (f : α) : Type | mk
section
variable {α β : Type}
def R.bind (r : R) (f : D → Hp → R) (_t : Tag f := .mk) : R := match r with
  | .ok v G => f v G
  | .exc c G => .exc c G
  | .bad => .bad
def R.st (s : Env) (r : R) (f : D → Hp → O) (_t : Tag f := .mk) : O := match r with
  | .ok v G => f v G
  | .exc c G => .exc c s G
  | .bad => .bad
def O.then (o : O) (f : Env → Hp → O) (_t : Tag f := .mk) : O := match o with
  | .nx s G => f s G
  | .ret v G => .ret v G
  | .brk s G => .brk s G
  | .cnt s G => .cnt s G
  | .exc c s G => .exc c s G
  | .bad => .bad
def O.turn (o : O) (f : Env → Hp → O) (_t : Tag f := .mk) : O := match o with
  | .nx s G => f s G
  | .cnt s G => f s G
  | .brk s G => .nx s G
  | .ret v G => .ret v G
  | .exc c s G => .exc c s G
  | .bad => .bad
def O.thru (o : O) : O := match o with
  | .exc _ _ _ => .bad
  | .nx s G => .nx s G
  | .ret v G => .ret v G
  | .brk s G => .brk s G
  | .cnt s G => .cnt s G
  | .bad => .bad
def R.safe (r : R) : R := match r with
  | .ok v G => .ok v G
  | .exc _ _ => .bad
  | .bad => .bad
def O.catch (o : O) (f : Nat → Env → Hp → O) (_t : Tag f := .mk) : O := match o with
  | .exc c s G => f c s G
  | .nx s G => .nx s G
  | .ret v G => .ret v G
  | .brk s G => .brk s G
  | .cnt s G => .cnt s G
  | .bad => .bad
def wipeO (n : Option Nat) (s : Env) : Env := match n with
  | none => s
  | some i => s.set i none
def O.clr (n : Option Nat) (o : O) : O := match o with
  | .exc _ _ _ => .bad
  | .nx s G => .nx (wipeO n s) G
  | .ret v G => .ret v G
  | .brk s G => .brk (wipeO n s) G
  | .cnt s G => .cnt (wipeO n s) G
  | .bad => .bad
def iteK (c : Bool) (a b : Unit → α) (_t : Tag a := .mk) (_u : Tag b := .mk) : α := match c with
  | true => a ()
  | false => b ()
def optK (o : Option β) (f : β → α) (d : α) (_t : Tag f := .mk) : α := match o with
  | some x => f x
  | none => d
def tupK (x : D) (f : List D → α) (d : α) (_t : Tag f := .mk) : α := match x with
  | .tup ds => f ds
  | _ => d
def blK (x : D) (f : Bool → α) (d : α) (_t : Tag f := .mk) : α := match x with
  | .bl b => f b
  | _ => d
end

section
variable {α : Type}
def cellK (c : Option Cell) (f : List D → α) (g : List (L2.Key × D) → α) (h : List (List L2.Key × D) → α) (k : Nat → List D → α) (d : α) (_a : Tag f := .mk) (_b : Tag g := .mk) (_c : Tag h := .mk) (_d : Tag k := .mk) : α := match c with
  | some (.lst ds) => f ds
  | some (.dK kvs) => g kvs
  | some (.dT kvs) => h kvs
  | some (.ins c ds) => k c ds
  | none => d
end

mutual
def below (m : Nat) : D → Bool
  | .tup ds => belows m ds
  | .lst ds => belows m ds
  | .fz ds => belows m ds
  | .ins _ ds => belows m ds
  | .ref i => decide (i < m)
  | _ => true
def belows (m : Nat) : List D → Bool
  | [] => true
  | d :: ds => below m d && belows m ds
end
def wok (p : Nat) (m : List Nat) (v : D) : Bool := m.all fun k => below k v || decide (k ≤ p)


inductive Bo where | add | sub | mul | fdiv | mod | pow
deriving DecidableEq
inductive Co where | eq | ne | lt | le | gt | ge | isin | notin | is_ | isnot | inp | notinp
deriving DecidableEq
inductive Bi where
  | abs | len | int | str | repr | sum | min1 | max1 | min2 | max2 | all | any | divmod | tuple | list | sorted | listK | listT | sortD | sortT
deriving DecidableEq
inductive Mt where
  | append | pop0 | pop1 | clear | extend | join | split | startswith | get1 | get2 | popT | reverse
deriving DecidableEq
inductive Ty where
  | int | bool | str | list | tuple | own (c : Nat)
deriving DecidableEq
inductive Ik where | val | range1 | range2 | range3 | enum | zip | items | values | rev
deriving DecidableEq

mutual
inductive L where
  | c (d : D) | v (i : Nat) | g (i : Nat)
  | bin (o : Bo) (w : Bool) (a b : L) | neg (a : L)
  | cmp (o : Co) (a b : L) | chain (o o' : Co) (a b c : L)
  | and_ (a b : L) | or_ (a b : L) | not_ (a : L) | ite (t a b : L)
  | tup (l : Ls) | lst (w : Bool) (l : Ls)
  | ix (a i : L) | sl (w : Bool) (a lo hi : L) | rev (w : Bool) (a : L)
  | call (f : Nat) (l : Ls) | meth (f : Nat) (c : Nat) (o : L) (l : Ls) | new (w : Bool) (c f : Nat) (l : Ls)
  | fld (c j : Nat) (a : L)
  | bi (b : Bi) (w : Bool) (l : Ls) | mt (b : Mt) (w : Bool) (o : L) (l : Ls)
  | isi (ts : List Ty) (a : L)
  | key2 (mx : Bool) (f : Nat) (a b : L) | skey (w : Bool) (f : Nat) (a : L) | dnew (t : Bool) | dlit (l : Ls)
  | comp (w : Bool) (k : Ik) (own : List Nat) (pt : List Nat) (one : Bool) (it : Ls) (cond elt : L)
inductive Ls where
  | nil | cons (a : L) (l : Ls)
end
inductive P where
  | nm (i : Nat) | sb (o i : L) | fld (c j : Nat) (o : L)
inductive M where
  | pass | seq (a b : M) | ex (l : L)
  | set (i : Nat) (l : L) | asg (ps : List P) (l : L) | put (p : P) (l : L) | par (is : List Nat) (l : Ls)
  | ite (t : L) (a b : M) | «for» (k : Ik) (pt : List Nat) (one : Bool) (it : Ls) (b : M) | «while» (n : Nat) (t : L) (b : M)
  | ret (l : L) | retN | raise (c : Nat) | brk | cnt | try_ (b : M)
  | tryc (b : M) (ks os : List Nat) (n : Option Nat) (h : Nat → M)

structure Fn where
  np : Nat
  ns : Nat
  trn : Bool
  frz : Bool
  body : M


def mkl (w : Bool) (ds : List D) (G : Hp) : R := if w then .ok (.ref G.length) (G ++ [.lst ds]) else .ok (.lst ds) G
def lstD (G : Hp) : D → Option (List D)
  | .lst ds => some ds
  | .ref i => match G[i]? with
    | some (.lst ds) => some ds
    | _ => none
  | _ => none
def seqD (G : Hp) : D → Option (List D)
  | .lst ds => some ds
  | .fz ds => some ds
  | .tup ds => some ds
  | .ref i => match G[i]? with
    | some (.lst ds) => some ds
    | _ => none
  | _ => none
def lenD (G : Hp) : D → Option Nat
  | .lst ds => some ds.length
  | .fz ds => some ds.length
  | .tup ds => some ds.length
  | .str s => if s.length ≤ 1000000 then some s.length else none
  | .ref i => match G[i]? with
    | some (.lst ds) => some ds.length
    | some (.dK kvs) => some kvs.length
    | some (.dT kvs) => some kvs.length
    | _ => none
  | _ => none
def mulOk (i j : Int) : Bool := decide ((i.natAbs < 2 ^ 1000 ∧ j.natAbs < 2 ^ 1000) ∨ j.natAbs < 2 ^ 60)
def divOk (j : Int) : Bool := decide (0 < j ∧ j < 2 ^ 1000)
def szOk (n : Nat) : Bool := decide (n ≤ 1000000)
def strOkI (i : Int) : Bool := decide (i.natAbs < 2 ^ 1900)
def nstr (i : Int) : Str := Str.ofString (toString i)
def intsD : List D → Option (List Int)
  | [] => some []
  | .int i :: ds => (intsD ds).map (i :: ·)
  | _ => none
def blsD : List D → Option (List Bool)
  | [] => some []
  | .bl i :: ds => (blsD ds).map (i :: ·)
  | _ => none
def strsD : List D → Option (List Str)
  | [] => some []
  | .str i :: ds => (strsD ds).map (i :: ·)
  | _ => none
def pds (f : D → Option PyData) : List D → Option (List PyData)
  | [] => some []
  | d :: ds => (f d).bind fun x => (pds f ds).bind fun xs => some (x :: xs)
def pd (G : Hp) : Nat → D → Option PyData
  | 0, _ => none
  | _ + 1, .non => some .none
  | _ + 1, .bl b => some (.bool b)
  | _ + 1, .int i => some (.int i)
  | _ + 1, .str s => some (.str s)
  | n + 1, .tup ds => (pds (pd G n) ds).map .tuple
  | n + 1, .lst ds => (pds (pd G n) ds).map .list
  | n + 1, .fz ds => (pds (pd G n) ds).map .list
  | n + 1, .ref i => match G[i]? with
    | some (.lst ds) => (pds (pd G n) ds).map .list
    | _ => none
  | _ + 1, _ => none
mutual
def ub : PyData → Nat
  | .none => 5 | .bool _ => 5
  | .int i => if i.natAbs < 10 ^ 60 then 62 else 700
  | .str x => (reprText x).length
  | .list xs => uba xs + 3 | .tuple xs => uba xs + 3 | .dict _ => 100000000
def uba : List PyData → Nat
  | [] => 0
  | d :: ds => ub d + 2 + uba ds
end
def isSeq : D → Bool
  | .tup _ | .lst _ | .fz _ | .ref _ => true
  | _ => false
def reprD (G : Hp) (x : D) : R := match pd G 8 x with
  | some d => if isSeq x && PyData.showable d && decide (ub d ≤ 10000000) then .ok (.str (PyData.shown d)) G else .bad
  | none => .bad
def scalD : D → D → Option Bool
  | .non, .non => some true
  | .int a, .int b => some (decide (a = b))
  | .bl a, .bl b => some (decide (a = b))
  | .str a, .str b => some (decide (a = b))
  | .non, .int _ => some false | .int _, .non => some false
  | .non, .bl _ => some false | .bl _, .non => some false
  | .non, .str _ => some false | .str _, .non => some false
  | .int _, .str _ => some false | .str _, .int _ => some false
  | .bl _, .str _ => some false | .str _, .bl _ => some false
  | _, _ => none
def dlen : Option Cell → Option Nat
  | some (.dK kvs) => some kvs.length
  | some (.dT kvs) => some kvs.length
  | _ => none
def eqE (G : Hp) (x y : D) : Option Bool := match x, y with
  | .ref i, .ref j => match dlen G[i]?, dlen G[j]? with
    | some n, some 0 => some (n == 0)
    | _, _ => none
  | _, _ => none
def eqD (G : Hp) (x y : D) : Option Bool := match scalD x y with
  | some b => some b
  | none => match pd G 8 x, pd G 8 y with
    | some d, some e => if SeqAt.shaped d && SeqAt.shaped e then some (PyData.eqv d e) else none
    | _, _ => eqE G x y
def flatD : D → Option L2.V
  | .non => some .non
  | .bl b => some (.bl b)
  | .int i => some (.int i)
  | .str s => some (.str s)
  | _ => none
def flats : List D → Option (List L2.V)
  | [] => some []
  | d :: ds => (flatD d).bind fun x => (flats ds).bind fun xs => some (x :: xs)
def keyD : D → Option L2.Key
  | .int i => some (.inl i)
  | .str s => some (.inr s)
  | _ => none
def keysD : List D → Option (List L2.Key)
  | [] => some []
  | d :: ds => (keyD d).bind fun x => (keysD ds).bind fun xs => some (x :: xs)
def valD {κ : Type} [DecidableEq κ] (kvs : List (κ × D)) (k : κ) : Option D := (kvs.find? fun kv => decide (kv.1 = k)).map (·.2)
def putD {κ : Type} [DecidableEq κ] (kvs : List (κ × D)) (k : κ) (v : D) : List (κ × D) :=
  if (kvs.any fun kv => decide (kv.1 = k)) = true then kvs.map (fun kv => if kv.1 = k then (kv.1, v) else kv) else kvs ++ [(k, v)]
def dropD {κ : Type} [DecidableEq κ] (kvs : List (κ × D)) (k : κ) : List (κ × D) := kvs.filter fun kv => decide (kv.1 ≠ k)
def lookD (G : Hp) (d k : D) : Option (Option D) := match d with
  | .ref i => match G[i]? with
    | some (.dK kvs) => (keyD k).map fun q => valD kvs q
    | some (.dT kvs) => match k with
      | .tup ks => (keysD ks).map fun q => valD kvs q
      | _ => none
    | _ => none
  | _ => none
def inD (G : Hp) (x y : D) : Option Bool := match y with
  | .str z => match x with
    | .str ⟨⟨[c]⟩⟩ => some (decide (c ∈ z.cps.toList))
    | _ => none
  | .ref i => match G[i]? with
    | some (.lst ds) => (flatD x).bind fun a => (flats ds).map fun bs => L2.inV a bs
    | _ => (lookD G y x).map Option.isSome
  | _ => (seqD G y).bind fun ds => (flatD x).bind fun a => (flats ds).map fun bs => L2.inV a bs
def inP (G : Hp) (x y : D) : Option Bool := match pd G 8 x, pd G 8 y with
  | some d, some (.list ds) => if SeqAt.shaped d && SeqAt.shaped (.list ds) then some (ds.any fun z => PyData.eqv z d) else none
  | _, _ => none
def cmpD (o : Co) (x y : D) (G : Hp) : R :=
  let b (r : Option Bool) : R := match r with
    | some c => .ok (.bl c) G
    | none => .bad
  match o with
  | .eq => b (eqD G x y)
  | .ne => b ((eqD G x y).map (!·))
  | .isin => b (inD G x y)
  | .notin => b ((inD G x y).map (!·))
  | .is_ => match y with
    | .non => .ok (.bl (decide (x = .non))) G
    | _ => .bad
  | .isnot => match y with
    | .non => .ok (.bl (!decide (x = .non))) G
    | _ => .bad
  | .lt => match x, y with
    | .int i, .int j => .ok (.bl (decide (i < j))) G
    | .str i, .str j => .ok (.bl (decide (i.cps.toList < j.cps.toList))) G
    | .tup [.int a, .int b], .tup [.int c, .int d] => .ok (.bl (if a = c then decide (b < d) else decide (a < c))) G
    | _, _ => .bad
  | .le => match x, y with
    | .int i, .int j => .ok (.bl (decide (i ≤ j))) G
    | _, _ => .bad
  | .gt => match x, y with
    | .int i, .int j => .ok (.bl (decide (j < i))) G
    | _, _ => .bad
  | .ge => match x, y with
    | .int i, .int j => .ok (.bl (decide (j ≤ i))) G
    | _, _ => .bad
  | .inp => b (inP G x y)
  | .notinp => b ((inP G x y).map (!·))
def binD (o : Bo) (w : Bool) (x y : D) (G : Hp) : R := match o with
  | .add => match x, y with
    | .int i, .int j => .ok (.int (i + j)) G
    | .str a, .str b => if szOk (a.length + b.length) then .ok (.str (a ++ b)) G else .bad
    | .tup a, .tup b => if szOk (a.length + b.length) then .ok (.tup (a ++ b)) G else .bad
    | _, _ => match lstD G x, lstD G y with
      | some a, some b => if szOk (a.length + b.length) then mkl w (a ++ b) G else .bad
      | _, _ => .bad
  | .sub => match x, y with
    | .int i, .int j => .ok (.int (i - j)) G
    | _, _ => .bad
  | .mul => match x, y with
    | .int i, .int j => if mulOk i j then .ok (.int (i * j)) G else .bad
    | .str a, .int k => if decide (0 ≤ k ∧ k ≤ 1000) && decide (a.length ≤ 1000) then .ok (.str (Txt.mul a k)) G else .bad
    | _, .int k => match lstD G x with
      | some a => if szOk (a.length * k.toNat) && decide (-(2 ^ 63) ≤ k ∧ k < 2 ^ 63) then mkl w (List.replicate k.toNat a).flatten G else .bad
      | none => .bad
    | _, _ => .bad
  | .fdiv => match x, y with
    | .int i, .int j => if divOk j then .ok (.int (i / j)) G else .bad
    | _, _ => .bad
  | .mod => match x, y with
    | .int i, .int j => if decide (0 < j) then .ok (.int (i % j)) G else .bad
    | _, _ => .bad
  | .pow => match x, y with
    | .int i, .int j => if decide (0 ≤ j ∧ j ≤ 1000 ∧ i.natAbs < 2 ^ 64) then .ok (.int (i ^ j.toNat)) G else .bad
    | _, _ => .bad
def ixL (ds : List D) (y : D) (G : Hp) : R := match y with
  | .int i => match L2.atI ds i with
    | some d => .ok d G
    | none => .bad
  | _ => .bad
def ixK (o : Option (Option D)) (G : Hp) : R := match o with
  | some (some d) => .ok d G
  | _ => .bad
def ixD (x y : D) (G : Hp) : R := match x with
  | .str z => match y with
    | .int i => if szOk z.length then match L2.atI z.cps.toList i with
      | some c => .ok (.str ⟨#[c]⟩) G
      | none => .bad
      else .bad
    | _ => .bad
  | _ => match seqD G x with
    | some ds => ixL ds y G
    | none => ixK (lookD G x y) G
def partD : D → Option (Option Int)
  | .exc _ => some none
  | .int i => some (some i)
  | _ => none
def cutD (xs : List D) (lo hi : Option Int) : List D := (xs.drop (HT.sIx xs.length 0 lo)).take (HT.sIx xs.length xs.length hi - HT.sIx xs.length 0 lo)
def slD (w : Bool) (x lo hi : D) (G : Hp) : R := match partD lo, partD hi with
  | some l, some h => match x with
    | .str z => if szOk z.length then .ok (.str (L2.cutS z l h)) G else .bad
    | .tup ds => .ok (.tup (cutD ds l h)) G
    | _ => match seqD G x with
      | some ds => mkl w (cutD ds l h) G
      | none => .bad
  | _, _ => .bad
def revD (w : Bool) (x : D) (G : Hp) : R := match x with
  | .tup _ => .bad
  | _ => match seqD G x with
    | some ds => mkl w ds.reverse G
    | none => .bad
def minL : List Int → Int
  | [] => 0
  | a :: r => r.foldl (fun a b => if b < a then b else a) a
def maxL : List Int → Int
  | [] => 0
  | a :: r => r.foldl (fun a b => if b > a then b else a) a
def insI (a : Int) : List Int → List Int
  | [] => [a]
  | b :: r => if a ≤ b then a :: b :: r else b :: insI a r
def srtI : List Int → List Int
  | [] => []
  | a :: r => insI a (srtI r)
def kD : L2.Key → D
  | .inl i => .int i
  | .inr s => .str s
def sortB (es : List PyData) : Bool := (es.all fun d => es.all fun e => PySem.W.alike d e) && ((es.all fun d => match d with | .tuple (_ :: _) => true | _ => false) || es.all fun d => match d with | .none => false | .tuple _ => false | _ => true)
def keyPD : L2.Key → PyData
  | .inl i => .int i
  | .inr s => .str s
def keyTD (k : List L2.Key) : PyData := .tuple (k.map keyPD)
def sortDs (ds : List D) (es : List PyData) : List D := ((ds.zip es).mergeSort (PySem.W.dataLe false fun b => b.2)).map (·.1)
def biD (b : Bi) (w : Bool) (xs : List D) (G : Hp) : R := match b, xs with
  | .abs, [.int i] => .ok (.int (if i < 0 then -i else i)) G
  | .len, [x] => match lenD G x with
    | some n => .ok (.int n) G
    | none => .bad
  | .int, [.int i] => .ok (.int i) G
  | .int, [.bl k] => .ok (.int (if k then 1 else 0)) G
  | .int, [.str a] => match PySem.intText? a with
    | some n => if decide (a.length ≤ 640) then .ok (.int n) G else .bad
    | none => .bad
  | .str, [.int i] => if strOkI i then .ok (.str (nstr i)) G else .bad
  | .str, [.str a] => .ok (.str a) G
  | .repr, [x] => reprD G x
  | .sum, [x] => match (seqD G x).bind intsD with
    | some ns => .ok (.int ns.sum) G
    | none => .bad
  | .min1, [x] => match x with
    | .tup _ => .bad
    | _ => match (seqD G x).bind intsD with
      | some ns => if ns.isEmpty then .bad else .ok (.int (minL ns)) G
      | none => .bad
  | .max1, [x] => match x with
    | .tup _ => .bad
    | _ => match (seqD G x).bind intsD with
      | some ns => if ns.isEmpty then .bad else .ok (.int (maxL ns)) G
      | none => .bad
  | .min2, [.int i, .int j] => .ok (.int (if j < i then j else i)) G
  | .max2, [.int i, .int j] => .ok (.int (if j > i then j else i)) G
  | .all, [x] => match x with
    | .tup _ => .bad
    | _ => match (seqD G x).bind blsD with
      | some bs => .ok (.bl (bs.all id)) G
      | none => .bad
  | .any, [x] => match x with
    | .tup _ => .bad
    | _ => match (seqD G x).bind blsD with
      | some bs => .ok (.bl (bs.any id)) G
      | none => .bad
  | .divmod, [.int i, .int j] => if divOk j then .ok (.tup [.int (i / j), .int (i % j)]) G else .bad
  | .tuple, [x] => match seqD G x with
    | some ds => .ok (.tup ds) G
    | none => .bad
  | .list, [x] => match seqD G x with
    | some ds => mkl w ds G
    | none => .bad
  | .sorted, [x] => match x with
    | .tup _ => .bad
    | _ => match (seqD G x).bind intsD with
      | some ns => mkl w ((srtI ns).map .int) G
      | none => .bad
  | .listK, [.ref i] => match G[i]? with
    | some (.dK kvs) => mkl w (kvs.map fun kv => kD kv.1) G
    | _ => .bad
  | .sortD, [x] => match x with
    | .tup _ => .bad
    | _ => match seqD G x with
      | some ds => match pds (pd G 8) ds with
        | some es => if sortB es then mkl w (sortDs ds es) G else .bad
        | none => .bad
      | none => .bad
  | .sortT, [.ref i] => match G[i]? with
    | some (.dT kvs) => if sortB (kvs.map fun kv => keyTD kv.1) then mkl w (sortDs (kvs.map fun kv => .tup (kv.1.map kD)) (kvs.map fun kv => keyTD kv.1)) G else .bad
    | _ => .bad
  | .listT, [.ref i] => match G[i]? with
    | some (.dT kvs) => mkl w (kvs.map fun kv => .tup (kv.1.map kD)) G
    | _ => .bad
  | _, _ => .bad
def setC (G : Hp) (i : Nat) (c : Cell) : Hp := G.set i c
def mtD (b : Mt) (w : Bool) (m : List Nat) (o : D) (xs : List D) (G : Hp) : R := match b, o, xs with
  | .append, .ref i, [v] => match G[i]? with
    | some (.lst ds) => if wok i m v && decide (ds.length < 1000000) then .ok .non (setC G i (.lst (ds ++ [v]))) else .bad
    | _ => .bad
  | .extend, .ref i, [x] => match G[i]? with
    | some (.lst ds) => match lstD G x with
      | some es => if (es.all fun v => wok i m v) && decide (ds.length + es.length < 1000000) then .ok .non (setC G i (.lst (ds ++ es))) else .bad
      | none => .bad
    | _ => .bad
  | .clear, .ref i, [] => match G[i]? with
    | some (.lst _) => .ok .non (setC G i (.lst []))
    | _ => .bad
  | .pop0, .ref i, [] => match G[i]? with
    | some (.lst ds) => match ds.getLast? with
      | some d => .ok d (setC G i (.lst ds.dropLast))
      | none => .bad
    | _ => .bad
  | .pop1, .ref i, [.int k] => match G[i]? with
    | some (.lst ds) => if 0 ≤ k ∧ k < 1000000 then match ds[k.toNat]? with
      | some d => .ok d (setC G i (.lst (ds.eraseIdx k.toNat)))
      | none => .bad
      else .bad
    | _ => .bad
  | .popT, .ref i, [.tup ks] => match G[i]? with
    | some (.dT kvs) => match keysD ks with
      | some k => match valD kvs k with
        | some v => .ok v (setC G i (.dT (dropD kvs k)))
        | none => .bad
      | none => .bad
    | _ => .bad
  | .reverse, .ref i, [] => match G[i]? with
    | some (.lst ds) => .ok .non (setC G i (.lst ds.reverse))
    | _ => .bad
  | .join, .str a, [x] => match (seqD G x).bind strsD with
    | some ys => if decide ((ys.map (·.length)).sum + ys.length * a.length ≤ 1000000) then .ok (.str (Txt.join a ys)) G else .bad
    | none => .bad
  | .split, .str a, [.str s] => if decide (s.length ≠ 0 ∧ a.length ≤ 1000000) then mkl w ((Txt.split a s).map .str) G else .bad
  | .startswith, .str a, [.str s] => .ok (.bl (Txt.startswith a s)) G
  | _, _, _ => .bad
def isLst : Option Cell → Bool
  | some (.lst _) => true
  | _ => false
def isDT : Option Cell → Bool
  | some (.dT _) => true
  | _ => false
def mtOk (b : Mt) (G : Hp) (y : D) : Bool := match b, y with
  | .append, .ref i => isLst G[i]?
  | .clear, .ref i => isLst G[i]?
  | .extend, .ref i => isLst G[i]?
  | .pop0, .ref i => isLst G[i]?
  | .pop1, .ref i => isLst G[i]?
  | .popT, .ref i => isDT G[i]?
  | .reverse, .ref i => isLst G[i]?
  | .join, .str _ => true
  | .split, .str _ => true
  | .startswith, .str _ => true
  | _, _ => false
def isTy (G : Hp) (x : D) : Ty → Bool
  | .int => match x with | .int _ => true | .bl _ => true | _ => false
  | .bool => match x with | .bl _ => true | _ => false
  | .str => match x with | .str _ => true | _ => false
  | .list => match x with
    | .lst _ => true | .fz _ => true
    | .ref i => match G[i]? with
      | some (.lst _) => true
      | _ => false
    | _ => false
  | .tuple => match x with | .tup _ => true | _ => false
  | .own _ => false
def typed (G : Hp) : D → Bool
  | .non | .bl _ | .int _ | .str _ | .tup _ | .lst _ | .fz _ => true
  | .ref i => match G[i]? with
    | some (.ins _ _) => false
    | some _ => true
    | none => false
  | _ => false
def fldD (G : Hp) (c j : Nat) : D → Option D
  | .ins c' ds => if c' = c then ds[j]? else none
  | .ref i => match G[i]? with
    | some (.ins c' ds) => if c' = c then ds[j]? else none
    | _ => none
  | _ => none
def clsD (G : Hp) : D → Option Nat
  | .ins c _ => some c
  | .ref i => match G[i]? with
    | some (.ins c _) => some c
    | _ => none
  | _ => none


def frzD (G : Hp) (m : Nat) (v : D) : D := match v with
  | .ref i => if i < m then v else match G[i]? with
    | some (.lst ds) => .lst ds
    | some (.ins c ds) => .ins c ds
    | _ => v
  | _ => v
def leave (trn frz : Bool) (m : Nat) (v : D) (G : Hp) : R :=
  if trn then
    let v' := if frz then frzD G m v else v
    if below m v' then .ok v' (G.take m) else .ok v G
  else .ok v G
def fin (trn frz : Bool) (m : Nat) : O → R
  | .ret v G => leave trn frz m v G
  | .nx _ G => leave trn frz m .non G
  | .exc c _ G => .exc c (if trn then G.take m else G)
  | _ => .bad


def seti (s : Env) (i : Nat) (v : D) : Env := s.set i (some v)
def bindT (pt : List Nat) (one : Bool) (s : Env) (x : D) : Option Env :=
  if one then (match pt with
    | [i] => some (seti s i x)
    | _ => none)
  else match x with
    | .tup ds => if ds.length = pt.length then some ((pt.zip ds).foldl (fun s p => seti s p.1 p.2) s) else none
    | _ => none
def zipD : List D → List D → List D
  | a :: as, b :: bs => .tup [a, b] :: zipD as bs
  | _, _ => []
def enumD (k : Int) : List D → List D
  | [] => []
  | a :: as => .tup [.int k, a] :: enumD (k + 1) as
def rangeD (lo : Int) : Nat → List D
  | 0 => []
  | n + 1 => .int lo :: rangeD (lo + 1) n
def downD (hi : Int) : Nat → List D
  | 0 => []
  | n + 1 => .int hi :: downD (hi - 1) n
def signs (s : Str) : List D := s.cps.toList.map fun c => .str ⟨#[c]⟩
def fixedS : D → Option (Bool × List D)
  | .lst a => some (false, a)
  | .fz a => some (false, a)
  | .tup a => some (true, a)
  | _ => none
def itD (k : Ik) (xs : List D) (G : Hp) : Option (List D × Option (Nat × Cell)) := match k, xs with
  | .val, [.str s] => some (signs s, none)
  | .val, [.ref i] => match G[i]? with
    | some (.lst ds) => some (ds, some (i, .lst ds))
    | _ => none
  | .val, [x] => (seqD G x).map fun ds => (ds, none)
  | .range1, [.int n] => if decide (-(2 ^ 62) ≤ n ∧ n < 2 ^ 62) then some (rangeD 0 n.toNat, none) else none
  | .range2, [.int a, .int b] => if decide (-(2 ^ 62) ≤ a ∧ a < 2 ^ 62 ∧ -(2 ^ 62) ≤ b ∧ b < 2 ^ 62) then some (rangeD a (b - a).toNat, none) else some (rangeD a (b - a).toNat, none)
  | .range3, [.int a, .int b, .int c] => if decide (-(2 ^ 62) ≤ a ∧ a < 2 ^ 62 ∧ -(2 ^ 62) ≤ b ∧ b < 2 ^ 62 ∧ c = -1) then some (downD a (a - b).toNat, none) else none
  | .enum, [x] => match x with
    | .tup ds => some (enumD 0 ds, none)
    | .ref i => match G[i]? with
      | some (.lst ds) => some (enumD 0 ds, some (i, .lst ds))
      | _ => none
    | _ => (seqD G x).map fun ds => (enumD 0 ds, none)
  | .rev, [x] => match x with
    | .tup _ => none
    | .ref i => match G[i]? with
      | some (.lst ds) => some (ds.reverse, some (i, .lst ds))
      | _ => none
    | _ => (seqD G x).map fun ds => (ds.reverse, none)
  | .zip, [x, y] => match fixedS x, fixedS y with
    | some (t, a), some (u, b) => if t = u then some (zipD a b, none) else none
    | none, some (false, b) => match x with
      | .ref i => match G[i]? with
        | some (.lst a) => some (zipD a b, some (i, .lst a))
        | _ => none
      | _ => none
    | _, _ => none
  | _, _ => none
def still (G : Hp) : Option (Nat × Cell) → Bool
  | none => true
  | some (i, c) => decide (G[i]? = some c)
def wipes (s : Env) (is : List Nat) : Env := is.foldl (fun s i => s.set i none) s

def stepK (x : D) (f : D → R) (g : Unit → R) (_t : Tag f := .mk) (_u : Tag g := .mk) : R := match x with
  | .tup [y] => f y
  | .non => g ()
  | _ => .bad
def ltK (mx : Bool) (k l : D) : Option Bool := match k, l with
  | .tup [.int i, .str z], .tup [.int j, .str u] =>
    some (if mx then decide (i < j) || (decide (i = j) && decide (z.cps.toList < u.cps.toList)) else decide (j < i) || (decide (j = i) && decide (u.cps.toList < z.cps.toList)))
  | _, _ => none
def keyS : D → Option (Int × Str)
  | .tup [.int i, .str z] => some (i, z)
  | _ => none
def ltKS (a b : Int × Str) : Bool := decide (a.1 < b.1) || (decide (a.1 = b.1) && decide (a.2.cps.toList < b.2.cps.toList))
def leKV {α : Type} (a b : (Int × Str) × α) : Bool := !ltKS b.1 a.1
def sortKV {α : Type} (is : List (Int × Str)) (xs : List α) : List α := ((is.zip xs).mergeSort leKV).map (·.2)
def keysF (step : D → Hp → R) : List D → Hp → List (Int × Str) → (List (Int × Str) → Hp → R) → R
  | [], G, acc, k => k acc G
  | d :: ds, G, acc, k => (step d G).safe.bind fun x G1 => optK (keyS x) (fun i => keysF step ds G1 (acc ++ [i]) k) .bad
def negD (x : D) (G : Hp) : R := match x with
  | .int i => .ok (.int (-i)) G
  | _ => .bad
def madeD (w : Bool) (n : Nat) (G : Hp) : R := if w then .ok (.ref n) G else
  let v := frzD G n (.ref n)
  if below n v then .ok v (G.take n) else .bad
def putL (q : Nat) (m : List Nat) (ds : List D) (y v : D) (s : Env) (G : Hp) : O := match y with
  | .int k => match L2.ixN ds.length k with
    | some j => if wok q m v then .nx s (setC G q (.lst (ds.set j v))) else .bad
    | none => .bad
  | _ => .bad
def putDK (q : Nat) (m : List Nat) (kvs : List (L2.Key × D)) (y v : D) (s : Env) (G : Hp) : O := match keyD y with
  | some k => if wok q m v && decide (kvs.length < 1000000) then .nx s (setC G q (.dK (putD kvs k v))) else .bad
  | none => .bad
def putDT (q : Nat) (m : List Nat) (kvs : List (List L2.Key × D)) (y v : D) (s : Env) (G : Hp) : O := match y with
  | .tup ks => match keysD ks with
    | some k => if wok q m v && decide (kvs.length < 1000000) then .nx s (setC G q (.dT (putD kvs k v))) else .bad
    | none => .bad
  | _ => .bad
def putV (m : List Nat) (x y v : D) (s : Env) (G : Hp) : O := match x with
  | .ref q => cellK G[q]? (fun ds => putL q m ds y v s G) (fun ds => putDK q m ds y v s G) (fun ds => putDT q m ds y v s G) (fun _ _ => .bad) .bad
  | _ => .bad
def putF (m : List Nat) (c j : Nat) (x v : D) (s : Env) (G : Hp) : O := match x with
  | .ref q => match G[q]? with
    | some (.ins c' ds) => if c' = c ∧ wok q m v = true then (if j < ds.length then .nx s (setC G q (.ins c (ds.set j v))) else if j = ds.length then .nx s (setC G q (.ins c (ds ++ [v]))) else .bad) else .bad
    | _ => .bad
  | _ => .bad
def pars (is : List Nat) (ds : List D) (s : Env) : Env := (is.zip ds).foldl (fun s p => seti s p.1 p.2) s

def atomL : L → Env → Option D
  | .c d, _ => some d
  | .v i, s => s[i]?.join
  | _, _ => none
def pairsL : Ls → Env → Option (List (D × D))
  | .nil, _ => some []
  | .cons a (.cons b l), s => (atomL a s).bind fun x => (atomL b s).bind fun y => (pairsL l s).bind fun r => some ((x, y) :: r)
  | _, _ => none
def keyP : List (D × D) → Option (List (L2.Key × D))
  | [] => some []
  | (x, y) :: r => (keyD x).bind fun k => (keyP r).bind fun r => some ((k, y) :: r)
def dlitD (ps : List (D × D)) (G : Hp) : R := match keyP ps with
  | some kvs => .ok (.ref G.length) (G ++ [.dK (kvs.foldl (fun acc kv => putD acc kv.1 kv.2) [])])
  | none => .bad
section
variable (cl : List Nat → Nat → List D → Hp → R) (gl : Nat → Option D) (m : List Nat)
def compF (step : D → Hp → R) (g : Option (Nat × Cell)) : List D → Hp → List D → (List D → Hp → R) → R
  | [], G, acc, k => iteK (still G g) (fun _ => k acc G) fun _ => .bad
  | x :: xs, G, acc, k => iteK (still G g) (fun _ => (step x G).bind fun r G1 => stepK r (fun y => compF step g xs G1 (acc ++ [y]) k) (fun _ => compF step g xs G1 acc k)) fun _ => .bad
mutual
def eval : L → Env → Hp → R
  | .c d, _, G => .ok d G
  | .v i, s, G => optK (s[i]?.join) (fun d => .ok d G) .bad
  | .g i, _, G => optK (gl i) (fun d => .ok d G) .bad
  | .bin o w a b, s, G => (eval a s G).bind fun x G1 => (eval b s G1).bind fun y G2 => binD o w x y G2
  | .neg a, s, G => (eval a s G).bind fun x G1 => negD x G1
  | .cmp o a b, s, G => (eval a s G).bind fun x G1 => (eval b s G1).bind fun y G2 => cmpD o x y G2
  | .chain o o' a b c, s, G => (eval a s G).bind fun x G1 => (eval b s G1).bind fun y G2 => (cmpD o x y G2).bind fun z G3 =>
    blK z (fun t => iteK t (fun _ => (eval c s G3).bind fun u G4 => cmpD o' y u G4) fun _ => .ok (.bl false) G3) .bad
  | .and_ a b, s, G => (eval a s G).bind fun x G1 => blK x (fun t => iteK t (fun _ => eval b s G1) fun _ => .ok (.bl false) G1) .bad
  | .or_ a b, s, G => (eval a s G).bind fun x G1 => blK x (fun t => iteK t (fun _ => .ok (.bl true) G1) fun _ => eval b s G1) .bad
  | .not_ a, s, G => (eval a s G).bind fun x G1 => blK x (fun t => .ok (.bl (!t)) G1) .bad
  | .ite t a b, s, G => (eval t s G).bind fun x G1 => blK x (fun t => iteK t (fun _ => eval a s G1) fun _ => eval b s G1) .bad
  | .tup l, s, G => evals l s G
  | .lst w l, s, G => (evals l s G).bind fun x G1 => tupK x (fun ds => mkl w ds G1) .bad
  | .ix a i, s, G => (eval a s G).bind fun x G1 => (eval i s G1).bind fun y G2 => ixD x y G2
  | .sl w a lo hi, s, G => (eval a s G).bind fun x G1 => (eval lo s G1).bind fun l G2 => optK (partD l) (fun _ => (eval hi s G2).bind fun h G3 => slD w x l h G3) .bad
  | .rev w a, s, G => (eval a s G).bind fun x G1 => revD w x G1
  | .call f l, s, G => (evals l s G).bind fun x G1 => tupK x (fun ds => cl m f ds G1) .bad
  | .meth f c o l, s, G => (eval o s G).bind fun y G1 => iteK (decide (clsD G1 y = some c)) (fun _ => (evals l s G1).bind fun x G2 => tupK x (fun ds => cl m f (y :: ds) G2) .bad) fun _ => .bad
  | .new w c f l, s, G => (evals l s G).bind fun x G1 => tupK x (fun ds => (cl (if w then m else G1.length :: m) f (.ref G1.length :: ds) (G1 ++ [.ins c []])).bind fun r G2 => iteK (decide (r = .non)) (fun _ => madeD w G1.length G2) fun _ => .bad) .bad
  | .fld c j a, s, G => (eval a s G).bind fun x G1 => optK (fldD G1 c j x) (fun d => .ok d G1) .bad
  | .bi b w l, s, G => (evals l s G).bind fun x G1 => tupK x (fun ds => biD b w ds G1) .bad
  | .mt b w o l, s, G => (eval o s G).bind fun y G1 => iteK (mtOk b G1 y) (fun _ => (evals l s G1).bind fun x G2 => tupK x (fun ds => mtD b w m y ds G2) .bad) fun _ => .bad
  | .isi ts a, s, G => (eval a s G).bind fun x G1 => iteK (typed G1 x) (fun _ => .ok (.bl (ts.any (isTy G1 x))) G1) fun _ => .bad
  | .key2 mx f a b, s, G => (eval a s G).bind fun x G1 => (eval b s G1).bind fun y G2 => (cl m f [x] G2).safe.bind fun k G3 => (cl m f [y] G3).safe.bind fun l G4 =>
    optK (ltK mx k l) (fun t => .ok (if t then y else x) G4) .bad
  | .skey w f a, s, G => (eval a s G).bind fun x G1 => optK (lstD G1 x) (fun ds => keysF (fun d G => cl m f [d] G) ds G1 [] fun is G2 => mkl w (sortKV is ds) G2) .bad
  | .dnew t, _, G => .ok (.ref G.length) (G ++ [if t then .dT [] else .dK []])
  | .dlit l, s, G => optK (pairsL l s) (fun ps => dlitD ps G) .bad
  | .comp w k own pt one it cond elt, s, G => (evals it s G).bind fun x G1 => tupK x (fun ds => optK (itD k ds G1) (fun xg => iteK (szOk xg.1.length) (fun _ =>
      (compF (fun x G => optK (bindT pt one (wipes s own) x) (fun s' => (eval cond s' G).bind fun c G2 => blK c (fun t => iteK t (fun _ => (eval elt s' G2).bind fun y G3 => .ok (.tup [y]) G3) fun _ => .ok .non G2) .bad) .bad) xg.2 xg.1 G1 [] (mkl w)).safe) fun _ => .bad) .bad) .bad
def evals : Ls → Env → Hp → R
  | .nil, _, G => .ok (.tup []) G
  | .cons a l, s, G => (eval a s G).bind fun x G1 => (evals l s G1).bind fun xs G2 => tupK xs (fun ds => .ok (.tup (x :: ds)) G2) .bad
end
def putP (p : P) (v : D) (s : Env) (G : Hp) : O := match p with
  | .nm i => .nx (seti s i v) G
  | .sb o i => R.st s (eval cl gl m o s G) fun x G1 => R.st s (eval cl gl m i s G1) fun y G2 => putV m x y v s G2
  | .fld c j o => R.st s (eval cl gl m o s G) fun x G1 => putF m c j x v s G1
def putPs : List P → List D → Env → Hp → O
  | [], [], s, G => .nx s G
  | p :: ps, v :: vs, s, G => (putP cl gl m p v s G).then fun s1 G1 => putPs ps vs s1 G1
  | _, _, _, _ => .bad
def forF (pt : List Nat) (one : Bool) (step : Env → Hp → O) (g : Option (Nat × Cell)) : List D → Env → Hp → O
  | [], s, G => iteK (still G g) (fun _ => .nx s G) fun _ => .bad
  | x :: xs, s, G => iteK (still G g) (fun _ => optK (bindT pt one s x) (fun s' => (step s' G).turn fun s1 G1 => forF pt one step g xs s1 G1) .bad) fun _ => .bad
def whlF (test : Env → Hp → R) (step : Env → Hp → O) : Nat → Env → Hp → O
  | 0, _, _ => .bad
  | n + 1, s, G => R.st s (test s G) fun c G1 => blK c (fun t => iteK t (fun _ => (step s G1).turn fun s1 G2 => whlF test step n s1 G2) fun _ => .nx s G1) .bad
def exec : M → Env → Hp → O
  | .pass, s, G => .nx s G
  | .seq a b, s, G => (exec a s G).then fun s1 G1 => exec b s1 G1
  | .ex l, s, G => R.st s (eval cl gl m l s G) fun _ G1 => .nx s G1
  | .set i l, s, G => R.st s (eval cl gl m l s G) fun v G1 => .nx (seti s i v) G1
  | .asg ps l, s, G => R.st s (eval cl gl m l s G) fun v G1 => optK (seqD G1 v) (fun ds => iteK (decide (ds.length = ps.length)) (fun _ => putPs cl gl m ps ds s G1) fun _ => .bad) .bad
  | .put p l, s, G => R.st s (eval cl gl m l s G) fun v G1 => putP cl gl m p v s G1
  | .par is l, s, G => R.st s (evals cl gl m l s G) fun x G1 => tupK x (fun ds => iteK (decide (ds.length = is.length)) (fun _ => .nx (pars is ds s) G1) fun _ => .bad) .bad
  | .ite t a b, s, G => R.st s (eval cl gl m t s G) fun c G1 => blK c (fun t => iteK t (fun _ => exec a s G1) fun _ => exec b s G1) .bad
  | .«for» k pt one it b, s, G => R.st s (evals cl gl m it s G) fun x G1 => tupK x (fun ds => optK (itD k ds G1) (fun xg => forF pt one (fun s G => exec b s G) xg.2 xg.1 s G1) .bad) .bad
  | .«while» n t b, s, G => whlF (fun s G => eval cl gl m t s G) (fun s G => exec b s G) n s G
  | .ret l, s, G => R.st s (eval cl gl m l s G) fun v G1 => .ret v G1
  | .retN, _, G => .ret .non G
  | .raise c, s, G => .exc c s G
  | .brk, s, G => .brk s G
  | .cnt, s, G => .cnt s G
  | .try_ b, s, G => (exec b s G).thru
  | .tryc b ks os n h, s, G => (exec b s G).catch fun c s1 G1 => iteK (decide (c ∈ ks)) (fun _ => (exec (h c) (wipeO n s1) G1).clr n) fun _ => iteK (decide (c ∈ os)) (fun _ => .exc c s1 G1) fun _ => .bad
end
def run (cl : List Nat → Nat → List D → Hp → R) (gl : Nat → Option D) (m : List Nat) (f : Fn) (args : List D) (G : Hp) : R :=
  if args.length = f.np then fin f.trn f.frz G.length (exec cl gl (if f.trn then G.length :: m else m) f.body (args.map some ++ List.replicate (f.ns - f.np) none) G) else .bad
def call (T : Nat → Option Fn) (gl : Nat → Option D) : Nat → List Nat → Nat → List D → Hp → R
  | 0, _, _, _, _ => .bad
  | n + 1, m, f, args, G => optK (T f) (fun fn => run (call T gl n) gl m fn args G) .bad
end PK
namespace PK
section
end
end PK
namespace PKS
open PySem PySem.Spec PyProof.Rows L2

structure Lk where
  CA : Nat → Addr
  FN : Nat → List Str
  EA : Nat → Addr
  /-- objects of no value: a comprehension's list under way -/
  Z : Addr → Prop
def Lk.w (lk : Lk) (Z : Addr → Prop) : Lk := { lk with Z := Z }
section
end
section
end
section
variable {K : PySem.W.Frag} {lk : Lk} {ρ ρ' ρ1 ρ2 : Nm} {n n' n1 n2 m : Nat} {H H' H1 H2 : Hp} {p : Addr} {o : HO} {G : Cells}
def Lk.add (lk : Lk) (A : Addr) : Lk := lk.w fun a => lk.Z a ∨ a = A
end
end PKS
namespace PKS
open PySem PySem.Spec PyProof.Rows L2
section
end
section
end
end PKS
namespace PKS
open PySem PySem.Spec PyProof.Rows L2
section
end
end PKS
namespace PKS
open PySem PySem.Spec PyProof.Rows L2
section
end
end PKS
namespace PKS
open PySem PySem.Spec PyProof.Rows L2
section
end
end PKS
namespace PKS
open PySem PySem.Spec PyProof.Rows L2
section
end
end PKS
namespace PKS
open PySem PySem.Spec PyProof.Rows L2
section
end
end PKS
namespace PKS
open PySem PySem.Spec PyProof.Rows L2
section
end
end PKS
namespace PKS
open PySem PySem.Spec PyProof.Rows L2
end PKS
namespace PKS
open PySem PySem.Spec PyProof.Rows L2

end PKS
namespace PKS
open PySem PySem.Spec PyProof.Rows L2
section
end
end PKS
namespace PKS
open PySem PySem.Spec PyProof.Rows L2
section
end
end PKS
namespace PKS
open PySem PySem.Spec PyProof.Rows L2
section
end

end PKS
namespace PKS
open PySem PySem.Spec PyProof.Rows L2
section
end
end PKS
namespace PKS
open PySem PySem.Spec PyProof.Rows L2
section
end
section
end
end PKS
namespace PKS
open PySem PySem.Spec PyProof.Rows L2
section
end
section
end
end PKS
namespace PKS
open PySem PySem.Spec PyProof.Rows L2
section
end
end PKS
namespace PySem
open Sem (wp)
open AutoSeq1 (wpAny_loadPart')
section
end
end PySem
namespace PKS
open PySem PySem.Spec PyProof.Rows L2
end PKS
namespace PKS
open PySem PySem.Spec PyProof.Rows L2 RZ
section
end
section
end
end PKS
namespace PKS
open PySem PySem.Spec PyProof.Rows L2
section
end
section
end
end PKS
namespace PKS
open PySem PySem.Spec PyProof.Rows L2
section
end
section
end

section
end

section
end
end PKS
namespace PKS
open PySem PySem.Spec PyProof.Rows L2
section
end
end PKS
namespace PKS
open PySem PySem.Spec PyProof.Rows L2
section
end
end PKS
namespace PKS
open PySem PySem.Spec PyProof.Rows L2
open PySem.W (EachIs)
open PK (leKV sortKV)
section
end
end PKS
namespace PKS
open PySem PySem.Spec PyProof.Rows L2
section
end
section
end
end PKS
namespace PKS
open PySem PySem.Spec PyProof.Rows L2
section
end
section
end
section
end
end PKS
namespace PKS
open PySem PySem.Spec PyProof.Rows L2
def initN : Str := "__init__"
section
end
end PKS
namespace PKS
open PySem PySem.Spec PyProof.Rows L2
section
end
section
end
end PKS
namespace PKS
open PySem PySem.Spec PyProof.Rows L2
section
end
end PKS
namespace PKS
open PySem PySem.Spec PyProof.Rows L2
section
end
end PKS
namespace PKS
open PySem PySem.Spec PyProof.Rows L2
section
end
end PKS
namespace PKS
open PySem PySem.Spec PyProof.Rows L2
section
section
end
end
end PKS
namespace PKS
open PySem PySem.Spec PyProof.Rows L2
section
end

structure Ent where
  name : Str
  qual : Str
  cn : Option (Nat × Str)
  st : Stmt
  N : List Str
  ps : List Str
  fn : PK.Fn
abbrev Clss := List (Str × List Str)
abbrev Exs := List (Str × List Nat)
def Ent.at_ (e : Ent) : Str × Option Str := match e.cn with
  | none => (e.name, none)
  | some (_, x) => (x, some e.name)
def Ent.dd (e : Ent) : He.DefD := ⟨e.at_, e.name, e.qual, defArgs e.st, defBody e.st, defScope e.st, [], []⟩
section
end

end PKS
namespace PKS
open PySem PySem.Spec PyProof.Rows L2
def conF : Str × PK.D → He.Fa
  | (x, .int i) => .int x i
  | (x, .str s) => .str x s
  | (x, _) => .glo x
def dvO : PK.D → Option He.Dv
  | .non => some .non
  | .bl b => some (.bl b)
  | .int i => some (.int i)
  | .str s => some (.str s)
  | _ => none
def dvs : List PK.D → Option (List He.Dv)
  | [] => some []
  | d :: ds => (dvO d).bind fun x => (dvs ds).bind fun xs => some (x :: xs)
def exC (K : PySem.W.Frag) : Str × PK.D → Bool
  | (x, .tup ds) => match dvs ds with
    | some vs => He.tupB K x vs
    | none => false
  | _ => true
def excB (K : PySem.W.Frag) (x : Str) : Bool :=
  He.eqO (PySem.W.findIn K (.ref (He.ga K x)) "__getattribute__") (some (some (.builtin "BaseException.__getattribute__"))) && (He.eqO (PySem.W.findIn K (.ref (He.ga K x)) "__getattr__") (some none) &&
  (decide (PySem.W.subIn K (.ref (He.ga K x)) (.type "BaseException") = some true) && (PySem.W.hasDictIn K (He.ga K x) && (He.eqO (PySem.W.findIn K (.ref (He.ga K x)) "__class__") (some (some (.builtin "object.__class__"))) &&
  (He.eqO (PySem.W.specialIn K (.builtin "object.__class__") "__get__") (some (some (.builtin "getset_descriptor.__get__"))) && (decide (PySem.W.takesIn K (.builtin "object.__class__") = some true) && decide (PySem.W.mroIn K (He.ga K x) (.type "object") = some true)))))))
def exmB (K : PySem.W.Frag) (xs : Exs) (i j : Nat) : Bool :=
  decide (PySem.W.exmOne K (.ref (He.ga K ((xs.map (·.1)).getD i Str.empty))) (.ref (He.ga K ((xs.map (·.1)).getD j Str.empty))) = some (decide (i ∈ (xs.map (·.2)).getD j []))) &&
  decide (PySem.W.kitOne K (.ref (He.ga K ((xs.map (·.1)).getD i Str.empty))) (.ref (He.ga K ((xs.map (·.1)).getD j Str.empty))) = some (decide (i ∈ (xs.map (·.2)).getD j [])))
def exX (xs : Exs) (K : PySem.W.Frag) : Bool := xs.all (fun p => excB K p.1) && (List.range xs.length).all fun i => (List.range xs.length).all fun j => exmB K xs i j
def exF (cons : List (Str × PK.D)) (xs : Exs) (K : PySem.W.Frag) : Bool := cons.all (exC K) && exX xs K
abbrev AlP : Type := He.AlD × Bool
def obsP (n : Nat) (fa : List He.Fa) (fn : List He.DefD) (ex : PySem.W.Frag → Bool) (g : Addr → Option Obj) : AlP := (He.obsD fa fn (He.frG g (He.asD g n)), ex (He.frG g (He.asD g n)))
def hookP (n : Nat) (fa : List He.Fa) (fn : List He.DefD) (ex : PySem.W.Frag → Bool) : PySem.W.Hook where
  α := AlP
  obs := fun s => obsP n fa fn ex s.heap.get?
  val := fun _ => (He.valD fn, true)
  says := fun _ h => ∃ K : PySem.W.Frag, K.In h ∧ He.SaysD fa fn K ∧ ex K = true
  of := fun _ _ e => ⟨_, He.frG_in, congrArg (fun z : AlP => z.1) e, congrArg (fun z : AlP => z.2) e⟩
  keeps := fun _ _ _ ⟨K, hK, c⟩ k => ⟨K, PySem.W.Frag.In.keeps hK k, c⟩
def entF (e : Ent) : He.Fa := match e.cn with
  | none => .glo e.name
  | some (_, x) => if e.name = initN then .mkr x else .meth x e.name
def clsF (p : Str × List Str) : List He.Fa := .glo p.1 :: .cls p.1 :: p.2.map (.noat p.1)
def errF (p : Str × List Nat) : List He.Fa := [.glo p.1, .exc p.1]
def faOf (ents : List Ent) (free : List Str) (cons : List (Str × PK.D)) (cs : Clss) (xs : Exs) : List He.Fa := ents.map entF ++ (free.map .free ++ (cons.map conF ++ (cs.flatMap clsF ++ xs.flatMap errF)))
def glOf (cons : List (Str × PK.D)) : Nat → Option PK.D := fun i => (cons[i]?).map (·.2)
section
end
end PKS
namespace Tk64
open PK
def f_wall : Fn := ⟨1, 1, true, true, (.while 4096 (.c (.bl true)) .pass)⟩
def f_Locks___init : Fn := ⟨2, 2, false, true, (.seq (.put (.fld 1 0 (.v 0)) (.v 1))
  (.put (.fld 1 1 (.v 0)) (.dnew true)))⟩
def f_Locks_is_shut : Fn := ⟨3, 3, true, true, (.seq (.ex (.meth 36 0 (.fld 1 0 (.v 0)) (.cons (.v 1) (.cons (.v 2) .nil))))
  (.ret (.cmp .isin (.tup (.cons (.v 1) (.cons (.v 2) .nil))) (.fld 1 1 (.v 0)))))⟩
def f_Locks_shut : Fn := ⟨3, 3, true, true, (.seq (.ite (.meth 2 1 (.v 0) (.cons (.v 1) (.cons (.v 2) .nil))) (.raise 5)
  .pass)
  (.put (.sb (.fld 1 1 (.v 0)) (.tup (.cons (.v 1) (.cons (.v 2) .nil)))) (.c (.bl true))))⟩
def f_Locks_open_bar : Fn := ⟨3, 3, true, true, (.ex (.call 0 (.cons (.c (.int 0)) .nil)))⟩
def f_Locks_shut_bars : Fn := ⟨1, 1, true, true, (.ret (.bi .sortT false (.cons (.fld 1 1 (.v 0)) .nil)))⟩
def f_Locks_held_by : Fn := ⟨2, 2, true, true, (.ex (.call 0 (.cons (.c (.int 1)) .nil)))⟩
def f_Locks_bar_in : Fn := ⟨4, 4, true, true, (.ex (.call 0 (.cons (.c (.int 2)) .nil)))⟩
def f_Locks_broken : Fn := ⟨3, 3, true, true, (.ex (.call 0 (.cons (.c (.int 3)) .nil)))⟩
def f_Locks_written : Fn := ⟨1, 3, true, true, (.ret (.mt .join false (.c (.str (PySem.Str.ofString " "))) (.cons (.comp false .val [1, 2] [1, 2] false (.cons (.meth 5 1 (.v 0) .nil) .nil) (.c (.bl true)) (.bin .add false (.bin .add false (.bi .str false (.cons (.v 1) .nil)) (.c (.str (PySem.Str.ofString "/")))) (.bi .str false (.cons (.v 2) .nil)))) .nil)))⟩
def f_Locks_copied : Fn := ⟨1, 1, true, true, (.ex (.call 0 (.cons (.c (.int 4)) .nil)))⟩
def f_number_in : Fn := ⟨1, 3, true, true, (.seq (.set 1 (.v 0))
  (.seq (.ite (.cmp .eq (.sl false (.v 0) (.c (.exc 0)) (.c (.int 1))) (.c (.str (PySem.Str.ofString "-")))) (.set 1 (.sl false (.v 0) (.c (.int 1)) (.c (.exc 0))))
  .pass)
  (.seq (.ite (.or_ (.not_ (.chain .le .le (.c (.int 1)) (.bi .len false (.cons (.v 1) .nil)) (.g 0))) (.not_ (.bi .all false (.cons (.comp false .val [2] [2] true (.cons (.v 1) .nil) (.c (.bl true)) (.cmp .isin (.v 2) (.c (.str (PySem.Str.ofString "0123456789"))))) .nil)))) (.ret (.c .non))
  .pass)
  (.seq (.ite (.cmp .ne (.bi .str false (.cons (.bi .int false (.cons (.v 0) .nil)) .nil)) (.v 0)) (.ret (.c .non))
  .pass)
  (.ret (.bi .int false (.cons (.v 0) .nil)))))))⟩
def f_bar_in_word : Fn := ⟨2, 5, true, true, (.seq (.set 2 (.mt .split false (.v 1) (.cons (.c (.str (PySem.Str.ofString "/"))) .nil)))
  (.seq (.ite (.cmp .ne (.bi .len false (.cons (.v 2) .nil)) (.c (.int 2))) (.ret (.c .non))
  .pass)
  (.seq (.par [3, 4] (.cons (.call 11 (.cons (.ix (.v 2) (.c (.int 0))) .nil)) (.cons (.call 11 (.cons (.ix (.v 2) (.c (.int 1))) .nil)) .nil)))
  (.seq (.ite (.or_ (.cmp .is_ (.v 3) (.c .non)) (.or_ (.cmp .is_ (.v 4) (.c .non)) (.not_ (.chain .le .lt (.c (.int 0)) (.v 3) (.meth 27 0 (.v 0) .nil))))) (.ret (.c .non))
  .pass)
  (.ret (.tup (.cons (.v 3) (.cons (.v 4) .nil))))))))⟩
def f_read_locks : Fn := ⟨2, 10, true, true, (.seq (.ite (.not_ (.isi [.str] (.v 1))) (.raise 4)
  .pass)
  (.seq (.set 2 (.lst false .nil))
  (.seq (.ite (.cmp .ne (.v 1) (.c (.str (PySem.Str.ofString "")))) (.set 2 (.mt .split false (.v 1) (.cons (.c (.str (PySem.Str.ofString " "))) .nil)))
  .pass)
  (.seq (.set 3 (.comp false .val [7] [7] true (.cons (.v 2) .nil) (.c (.bl true)) (.call 12 (.cons (.v 0) (.cons (.v 7) .nil)))))
  (.seq (.ite (.or_ (.cmp .inp (.c .non) (.v 3)) (.not_ (.bi .all false (.cons (.comp false .zip [8, 9] [8, 9] false (.cons (.v 3) (.cons (.sl false (.v 3) (.c (.int 1)) (.c (.exc 0))) .nil)) (.c (.bl true)) (.cmp .lt (.v 8) (.v 9))) .nil)))) (.raise 4)
  .pass)
  (.seq (.set 4 (.new true 1 1 (.cons (.v 0) .nil)))
  (.seq (.for .val [5, 6] false (.cons (.v 3) .nil) (.ex (.meth 3 1 (.v 4) (.cons (.v 5) (.cons (.v 6) .nil)))))
  (.ret (.v 4)))))))))⟩
def f_is_whole : Fn := ⟨1, 1, true, true, (.ret (.and_ (.isi [.int] (.v 0)) (.not_ (.isi [.bool] (.v 0)))))⟩
def f_is_wide : Fn := ⟨1, 1, true, true, (.ret (.and_ (.call 14 (.cons (.v 0) .nil)) (.cmp .lt (.bi .abs false (.cons (.v 0) .nil)) (.g 1))))⟩
def f_is_list : Fn := ⟨1, 1, true, true, (.ret (.isi [.list, .tuple] (.v 0)))⟩
def f_is_part : Fn := ⟨1, 1, true, true, (.ret (.and_ (.call 14 (.cons (.v 0) .nil)) (.and_ (.cmp .ne (.v 0) (.c (.int 0))) (.cmp .le (.bi .abs false (.cons (.v 0) .nil)) (.g 4)))))⟩
def f_are_parts : Fn := ⟨1, 2, true, true, (.seq (.ite (.or_ (.not_ (.call 16 (.cons (.v 0) .nil))) (.not_ (.chain .le .le (.c (.int 1)) (.bi .len false (.cons (.v 0) .nil)) (.g 3)))) (.ret (.c (.bl false)))
  .pass)
  (.ret (.and_ (.bi .all false (.cons (.comp false .val [1] [1] true (.cons (.v 0) .nil) (.c (.bl true)) (.call 17 (.cons (.v 1) .nil))) .nil)) (.cmp .gt (.ix (.v 0) (.c (.int 0))) (.c (.int 0))))))⟩
def f_are_sizes : Fn := ⟨1, 2, true, true, (.seq (.ite (.or_ (.not_ (.call 16 (.cons (.v 0) .nil))) (.not_ (.chain .le .le (.c (.int 1)) (.bi .len false (.cons (.v 0) .nil)) (.g 6)))) (.ret (.c (.bl false)))
  .pass)
  (.ret (.bi .all false (.cons (.comp false .val [1] [1] true (.cons (.v 0) .nil) (.c (.bl true)) (.and_ (.call 14 (.cons (.v 1) .nil)) (.chain .le .le (.c (.int 1)) (.v 1) (.g 7)))) .nil))))⟩
def f_is_row : Fn := ⟨1, 1, true, true, (.ret (.and_ (.call 16 (.cons (.v 0) .nil)) (.and_ (.cmp .eq (.bi .len false (.cons (.v 0) .nil)) (.c (.int 2))) (.and_ (.call 15 (.cons (.ix (.v 0) (.c (.int 0))) .nil)) (.call 19 (.cons (.ix (.v 0) (.c (.int 1))) .nil))))))⟩
def f_are_rows : Fn := ⟨1, 2, true, true, (.ret (.and_ (.call 16 (.cons (.v 0) .nil)) (.and_ (.cmp .le (.bi .len false (.cons (.v 0) .nil)) (.g 5)) (.bi .all false (.cons (.comp false .val [1] [1] true (.cons (.v 0) .nil) (.c (.bl true)) (.call 20 (.cons (.v 1) .nil))) .nil)))))⟩
def f_ahead_of : Fn := ⟨2, 2, true, true, (.ret (.bi .sum false (.cons (.sl false (.v 0) (.c (.exc 0)) (.v 1)) .nil)))⟩
def f_Ladder___init : Fn := ⟨4, 8, true, true, (.seq (.ite (.or_ (.not_ (.call 15 (.cons (.v 1) .nil))) (.or_ (.not_ (.call 18 (.cons (.v 2) .nil))) (.not_ (.call 21 (.cons (.v 3) .nil))))) (.raise 1)
  .pass)
  (.seq (.put (.fld 0 0 (.v 0)) (.v 1))
  (.seq (.put (.fld 0 1 (.v 0)) (.bi .list false (.cons (.v 2) .nil)))
  (.seq (.put (.fld 0 2 (.v 0)) (.comp false .val [5] [5] true (.cons (.v 3) .nil) (.c (.bl true)) (.tup (.cons (.ix (.v 5) (.c (.int 0))) (.cons (.bi .tuple false (.cons (.ix (.v 5) (.c (.int 1))) .nil)) .nil)))))
  (.seq (.set 4 (.comp false .val [6] [6] true (.cons (.v 2) .nil) (.c (.bl true)) (.bi .abs false (.cons (.v 6) .nil))))
  (.seq (.put (.fld 0 3 (.v 0)) (.comp false .enum [6, 7] [7, 6] false (.cons (.v 2) .nil) (.cmp .gt (.v 6) (.c (.int 0))) (.call 22 (.cons (.v 4) (.cons (.v 7) .nil)))))
  (.seq (.put (.fld 0 4 (.v 0)) (.comp false .val [6] [6] true (.cons (.v 2) .nil) (.cmp .gt (.v 6) (.c (.int 0))) (.v 6)))
  (.put (.fld 0 5 (.v 0)) (.bi .sum false (.cons (.v 4) .nil))))))))))⟩
def f_Ladder_begin : Fn := ⟨1, 1, true, true, (.ret (.fld 0 0 (.v 0)))⟩
def f_Ladder_parts : Fn := ⟨1, 1, true, true, (.ret (.bi .list false (.cons (.fld 0 1 (.v 0)) .nil)))⟩
def f_Ladder_rows : Fn := ⟨1, 1, true, true, (.ret (.bi .list false (.cons (.fld 0 2 (.v 0)) .nil)))⟩
def f_Ladder_rolls : Fn := ⟨1, 1, true, true, (.ret (.bin .add false (.bi .len false (.cons (.fld 0 2 (.v 0)) .nil)) (.c (.int 1))))⟩
def f_Ladder_want_roll : Fn := ⟨4, 4, true, true, (.ite (.or_ (.not_ (.call 14 (.cons (.v 1) .nil))) (.or_ (.cmp .lt (.v 1) (.v 2)) (.cmp .gt (.v 1) (.v 3)))) (.raise 2)
  .pass)⟩
def f_Ladder_want_any_roll : Fn := ⟨2, 2, true, true, (.ex (.meth 28 0 (.v 0) (.cons (.v 1) (.cons (.c (.int 0)) (.cons (.bi .len false (.cons (.fld 0 2 (.v 0)) .nil)) .nil)))))⟩
def f_Ladder_open_at : Fn := ⟨2, 2, true, true, (.ex (.call 0 (.cons (.c (.int 5)) .nil)))⟩
def f_Ladder_lowest : Fn := ⟨2, 2, true, true, (.ex (.call 0 (.cons (.c (.int 6)) .nil)))⟩
def f_Ladder_raised : Fn := ⟨3, 3, true, true, (.ex (.call 0 (.cons (.c (.int 7)) .nil)))⟩
def f_Ladder_lowered : Fn := ⟨3, 7, true, true, (.seq (.asg [(.nm 3), (.nm 4)] (.ix (.fld 0 2 (.v 0)) (.bin .sub false (.v 1) (.c (.int 1)))))
  (.seq (.asg [(.nm 5), (.nm 6)] (.bi .divmod false (.cons (.v 2) (.cons (.bi .len false (.cons (.v 4) .nil)) .nil))))
  (.ret (.tup (.cons (.bin .add false (.bin .add false (.v 3) (.bin .mul false (.v 5) (.bi .sum false (.cons (.v 4) .nil)))) (.call 22 (.cons (.v 4) (.cons (.v 6) .nil)))) (.cons (.ix (.v 4) (.v 6)) .nil))))))⟩
def f_Ladder_first_moment : Fn := ⟨3, 6, true, true, (.seq (.for .range3 [3] true (.cons (.v 1) (.cons (.c (.int 0)) (.cons (.neg (.c (.int 1))) .nil))) (.set 2 (.ix (.meth 33 0 (.v 0) (.cons (.v 3) (.cons (.v 2) .nil))) (.c (.int 0)))))
  (.seq (.asg [(.nm 4), (.nm 5)] (.bi .divmod false (.cons (.v 2) (.cons (.bi .len false (.cons (.fld 0 4 (.v 0)) .nil)) .nil))))
  (.ret (.bin .add false (.bin .add false (.fld 0 0 (.v 0)) (.bin .mul false (.v 4) (.fld 0 5 (.v 0)))) (.ix (.fld 0 3 (.v 0)) (.v 5))))))⟩
def f_Ladder_bar_at : Fn := ⟨3, 3, true, true, (.ex (.call 0 (.cons (.c (.int 8)) .nil)))⟩
def f_Ladder_stretch : Fn := ⟨3, 3, true, true, (.seq (.ex (.meth 29 0 (.v 0) (.cons (.v 1) .nil)))
  (.seq (.ex (.call 40 (.cons (.v 2) .nil)))
  (.ret (.tup (.cons (.meth 34 0 (.v 0) (.cons (.v 1) (.cons (.v 2) .nil))) (.cons (.meth 34 0 (.v 0) (.cons (.v 1) (.cons (.bin .add false (.v 2) (.c (.int 1))) .nil))) .nil))))))⟩
def f_Ladder_lesser : Fn := ⟨3, 3, true, true, (.seq (.ex (.meth 28 0 (.v 0) (.cons (.v 1) (.cons (.c (.int 1)) (.cons (.bi .len false (.cons (.fld 0 2 (.v 0)) .nil)) .nil)))))
  (.seq (.ex (.call 40 (.cons (.v 2) .nil)))
  (.ret (.meth 33 0 (.v 0) (.cons (.v 1) (.cons (.v 2) .nil))))))⟩
def f_Ladder_greater : Fn := ⟨3, 3, true, true, (.ex (.call 0 (.cons (.c (.int 9)) .nil)))⟩
def f_Ladder_is_open : Fn := ⟨2, 2, true, true, (.ex (.call 0 (.cons (.c (.int 10)) .nil)))⟩
def f_want_number : Fn := ⟨1, 1, true, true, (.ite (.or_ (.not_ (.call 14 (.cons (.v 0) .nil))) (.cmp .ge (.bi .abs false (.cons (.v 0) .nil)) (.g 2))) (.raise 3)
  .pass)⟩
def f_law_pot : Fn := ⟨2, 3, true, false, (.seq (.set 2 (.ix (.bin .add false (.bi .list false (.cons (.v 0) .nil)) (.lst false (.cons (.c (.int 0)) .nil))) (.bi .min2 false (.cons (.v 1) (.cons (.bi .len false (.cons (.v 0) .nil)) .nil)))))
  (.ret (.lst true (.cons (.bin .mul false (.v 2) (.bi .int false (.cons (.cmp .ge (.v 2) (.bin .pow false (.c (.int 10)) (.c (.int 18)))) .nil))) (.cons (.bin .mod false (.bin .add false (.bin .add false (.bin .mul false (.bin .mod false (.v 2) (.c (.int 2147483629))) (.c (.int 39373))) (.bin .mul false (.c (.int 101)) (.v 1))) (.c (.int 7))) (.c (.int 2147483629))) .nil)))))⟩
def f_law_digit : Fn := ⟨2, 3, true, true, (.seq (.ite (.cmp .gt (.ix (.v 0) (.c (.int 0))) (.c (.int 0))) (.seq (.set 2 (.bin .mod false (.ix (.v 0) (.c (.int 0))) (.v 1)))
  (.seq (.put (.sb (.v 0) (.c (.int 0))) (.bin .fdiv false (.ix (.v 0) (.c (.int 0))) (.v 1)))
  (.ret (.v 2))))
  .pass)
  (.seq (.put (.sb (.v 0) (.c (.int 1))) (.bin .mod false (.bin .add false (.bin .mul false (.ix (.v 0) (.c (.int 1))) (.c (.int 39373))) (.c (.int 7919))) (.c (.int 2147483629))))
  (.ret (.bin .mod false (.bin .fdiv false (.ix (.v 0) (.c (.int 1))) (.c (.int 16))) (.v 1)))))⟩
def f_law_ladder : Fn := ⟨1, 4, true, true, (.seq (.set 1 (.lst true .nil))
  (.seq (.for .range1 [2] true (.cons (.call 42 (.cons (.v 0) (.cons (.c (.int 5)) .nil))) .nil) (.ex (.mt .append false (.v 1) (.cons (.tup (.cons (.bin .sub false (.call 42 (.cons (.v 0) (.cons (.c (.int 9)) .nil))) (.c (.int 4))) (.cons (.comp false .range1 [3] [3] true (.cons (.bin .add false (.c (.int 1)) (.call 42 (.cons (.v 0) (.cons (.c (.int 12)) .nil)))) .nil) (.c (.bl true)) (.bin .add false (.c (.int 1)) (.call 42 (.cons (.v 0) (.cons (.c (.int 1000)) .nil))))) .nil))) .nil))))
  (.ret (.new false 0 23 (.cons (.bin .sub false (.call 42 (.cons (.v 0) (.cons (.c (.int 99)) .nil))) (.c (.int 49))) (.cons (.lst false (.cons (.bin .add false (.c (.int 1)) (.call 42 (.cons (.v 0) (.cons (.c (.int 9)) .nil)))) (.cons (.bin .sub false (.neg (.c (.int 1))) (.call 42 (.cons (.v 0) (.cons (.c (.int 9)) .nil)))) .nil))) (.cons (.v 1) .nil)))))))⟩
def f_law_bars : Fn := ⟨2, 7, true, true, (.seq (.set 2 (.dnew true))
  (.seq (.for .range1 [3] true (.cons (.call 42 (.cons (.v 0) (.cons (.c (.int 9)) .nil))) .nil) (.seq (.set 4 (.bin .sub false (.call 42 (.cons (.v 0) (.cons (.c (.int 23)) .nil))) (.c (.int 11))))
  (.seq (.set 5 (.bin .add false (.bin .sub false (.call 42 (.cons (.v 0) (.cons (.bin .sub false (.bin .mul false (.c (.int 2)) (.bin .pow false (.c (.int 10)) (.c (.int 40)))) (.c (.int 1))) .nil))) (.bin .pow false (.c (.int 10)) (.c (.int 40)))) (.c (.int 1))))
  (.seq (.set 6 (.lst false (.cons (.v 4) (.cons (.v 4) (.cons (.v 5) (.cons (.bin .sub false (.bin .sub false (.bin .pow false (.c (.int 10)) (.c (.int 40))) (.c (.int 1))) (.bi .abs false (.cons (.v 4) .nil))) (.cons (.bin .add false (.bin .sub false (.bi .abs false (.cons (.v 4) .nil)) (.bin .pow false (.c (.int 10)) (.c (.int 40)))) (.c (.int 1))) .nil)))))))
  (.put (.sb (.v 2) (.tup (.cons (.call 42 (.cons (.v 0) (.cons (.v 1) .nil))) (.cons (.ix (.v 6) (.call 42 (.cons (.v 0) (.cons (.c (.int 5)) .nil)))) .nil)))) (.c (.bl true)))))))
  (.ret (.bi .sortT false (.cons (.v 2) .nil)))))⟩
def f_law_text : Fn := ⟨1, 3, true, true, (.ret (.mt .join false (.c (.str (PySem.Str.ofString " "))) (.cons (.comp false .val [1, 2] [1, 2] false (.cons (.v 0) .nil) (.c (.bl true)) (.bin .add false (.bin .add false (.bi .str false (.cons (.v 1) .nil)) (.c (.str (PySem.Str.ofString "/")))) (.bi .str false (.cons (.v 2) .nil)))) .nil)))⟩
def f_law_sign_spoilt : Fn := ⟨2, 5, true, true, (.seq (.set 2 (.call 42 (.cons (.v 0) (.cons (.bin .add false (.bi .len false (.cons (.v 1) .nil)) (.c (.int 1))) .nil))))
  (.seq (.set 3 (.ix (.c (.str (PySem.Str.ofString "0123456789-/ +_.ab\n\t"))) (.call 42 (.cons (.v 0) (.cons (.c (.int 20)) .nil)))))
  (.seq (.set 4 (.call 42 (.cons (.v 0) (.cons (.c (.int 3)) .nil))))
  (.seq (.ite (.cmp .eq (.v 4) (.c (.int 0))) (.ret (.bin .add false (.bin .add false (.sl false (.v 1) (.c (.exc 0)) (.v 2)) (.v 3)) (.sl false (.v 1) (.v 2) (.c (.exc 0)))))
  .pass)
  (.seq (.ite (.cmp .eq (.v 4) (.c (.int 1))) (.ret (.bin .add false (.sl false (.v 1) (.c (.exc 0)) (.v 2)) (.sl false (.v 1) (.bin .add false (.v 2) (.c (.int 1))) (.c (.exc 0)))))
  .pass)
  (.ret (.bin .add false (.bin .add false (.sl false (.v 1) (.c (.exc 0)) (.v 2)) (.v 3)) (.sl false (.v 1) (.bin .add false (.v 2) (.c (.int 1))) (.c (.exc 0))))))))))⟩
def f_law_spoilt : Fn := ⟨3, 6, true, true, (.seq (.set 3 (.call 42 (.cons (.v 0) (.cons (.c (.int 7)) .nil))))
  (.seq (.set 4 (.mt .split false (.v 1) (.cons (.c (.str (PySem.Str.ofString " "))) .nil)))
  (.seq (.set 5 (.call 42 (.cons (.v 0) (.cons (.bi .len false (.cons (.v 4) .nil)) .nil))))
  (.seq (.ite (.cmp .lt (.v 3) (.c (.int 3))) (.ret (.call 46 (.cons (.v 0) (.cons (.v 1) .nil))))
  .pass)
  (.seq (.ite (.cmp .eq (.v 3) (.c (.int 3))) (.ret (.mt .join false (.c (.str (PySem.Str.ofString " "))) (.cons (.bin .add false (.bin .add false (.sl false (.v 4) (.c (.exc 0)) (.v 5)) (.lst false (.cons (.ix (.v 4) (.v 5)) .nil))) (.sl false (.v 4) (.v 5) (.c (.exc 0)))) .nil)))
  .pass)
  (.seq (.ite (.cmp .eq (.v 3) (.c (.int 4))) (.ret (.mt .join false (.c (.str (PySem.Str.ofString " "))) (.cons (.bin .add false (.sl false (.v 4) (.v 5) (.c (.exc 0))) (.sl false (.v 4) (.c (.exc 0)) (.v 5))) .nil)))
  .pass)
  (.seq (.ite (.cmp .eq (.v 3) (.c (.int 5))) (.ret (.mt .join false (.c (.str (PySem.Str.ofString " "))) (.cons (.bin .add false (.sl false (.v 4) (.c (.exc 0)) (.v 5)) (.lst false (.cons (.bin .add false (.bi .str false (.cons (.bin .add false (.v 2) (.call 42 (.cons (.v 0) (.cons (.c (.int 2)) .nil)))) .nil)) (.c (.str (PySem.Str.ofString "/0")))) .nil))) .nil)))
  .pass)
  (.ret (.mt .join false (.c (.str (PySem.Str.ofString " "))) (.cons (.bin .add false (.sl false (.v 4) (.c (.exc 0)) (.v 5)) (.lst false (.cons (.bin .add false (.bin .add false (.c (.str (PySem.Str.ofString "0/"))) (.c (.str (PySem.Str.ofString "1")))) (.bin .mul false (.c (.str (PySem.Str.ofString "0"))) (.bin .add false (.c (.int 40)) (.call 42 (.cons (.v 0) (.cons (.c (.int 2)) .nil)))))) .nil))) .nil))))))))))⟩
def f_law_number : Fn := ⟨1, 3, true, true, (.seq (.set 1 (.sl false (.v 0) (.bi .int false (.cons (.cmp .eq (.sl false (.v 0) (.c (.exc 0)) (.c (.int 1))) (.c (.str (PySem.Str.ofString "-")))) .nil)) (.c (.exc 0))))
  (.seq (.ite (.or_ (.not_ (.chain .le .le (.c (.int 1)) (.bi .len false (.cons (.v 1) .nil)) (.c (.int 40)))) (.not_ (.bi .all false (.cons (.comp false .val [2] [2] true (.cons (.v 1) .nil) (.c (.bl true)) (.cmp .isin (.v 2) (.c (.str (PySem.Str.ofString "0123456789"))))) .nil)))) (.ret (.c .non))
  .pass)
  (.seq (.ite (.and_ (.cmp .eq (.ix (.v 1) (.c (.int 0))) (.c (.str (PySem.Str.ofString "0")))) (.cmp .ne (.v 0) (.c (.str (PySem.Str.ofString "0"))))) (.ret (.c .non))
  .pass)
  (.ret (.bi .int false (.cons (.v 0) .nil))))))⟩
def f_law_read : Fn := ⟨2, 8, true, true, (.seq (.set 2 (.lst true .nil))
  (.seq (.for .val [3] true (.cons (.mt .split false (.v 0) (.cons (.c (.str (PySem.Str.ofString " "))) .nil)) .nil) (.seq (.set 4 (.comp false .val [5] [5] true (.cons (.mt .split false (.v 3) (.cons (.c (.str (PySem.Str.ofString "/"))) .nil)) .nil) (.c (.bl true)) (.call 48 (.cons (.v 5) .nil))))
  (.seq (.ite (.or_ (.cmp .ne (.bi .len false (.cons (.v 4) .nil)) (.c (.int 2))) (.or_ (.cmp .inp (.c .non) (.v 4)) (.not_ (.chain .le .lt (.c (.int 0)) (.ix (.v 4) (.c (.int 0))) (.v 1))))) (.ret (.c .non))
  .pass)
  (.ex (.mt .append false (.v 2) (.cons (.tup (.cons (.ix (.v 4) (.c (.int 0))) (.cons (.ix (.v 4) (.c (.int 1))) .nil))) .nil))))))
  (.seq (.ite (.not_ (.bi .all false (.cons (.comp false .zip [6, 7] [6, 7] false (.cons (.v 2) (.cons (.sl false (.v 2) (.c (.int 1)) (.c (.exc 0))) .nil)) (.c (.bl true)) (.cmp .lt (.v 6) (.v 7))) .nil))) (.ret (.c .non))
  .pass)
  (.ret (.v 2)))))⟩
def f_law_told : Fn := ⟨2, 3, true, true, (.seq (.set 2 (.c .non))
  (.seq (.tryc (.set 2 (.call 13 (.cons (.v 0) (.cons (.v 1) .nil)))) [4] [0, 1, 2, 3, 5] none (fun k => (.set 2 (.c .non))))
  (.ret (.v 2))))⟩
def f_law_agrees : Fn := ⟨2, 6, true, true, (.seq (.set 2 (.lst false .nil))
  (.seq (.ite (.cmp .ne (.v 1) (.c (.str (PySem.Str.ofString "")))) (.set 2 (.call 49 (.cons (.v 1) (.cons (.meth 27 0 (.v 0) .nil) .nil))))
  .pass)
  (.seq (.set 3 (.call 50 (.cons (.v 0) (.cons (.v 1) .nil))))
  (.seq (.ite (.or_ (.cmp .is_ (.v 2) (.c .non)) (.cmp .is_ (.v 3) (.c .non))) (.ret (.and_ (.cmp .is_ (.v 2) (.c .non)) (.cmp .is_ (.v 3) (.c .non))))
  .pass)
  (.ret (.and_ (.cmp .eq (.meth 9 1 (.v 3) .nil) (.v 1)) (.bi .all false (.cons (.comp false .val [4, 5] [4, 5] false (.cons (.v 2) .nil) (.c (.bl true)) (.meth 2 1 (.v 3) (.cons (.v 4) (.cons (.v 5) .nil)))) .nil))))))))⟩
def f_law : Fn := ⟨1, 13, true, true, (.seq (.set 1 (.lst false (.cons (.c .non) (.cons (.c (.int 0)) (.cons (.c (.bl true)) (.cons (.lst false .nil) (.cons (.lst false (.cons (.c (.str (PySem.Str.ofString "0/0"))) .nil)) (.cons (.tup (.cons (.c (.str (PySem.Str.ofString "0/0"))) .nil)) (.cons (.dlit (.cons (.c (.str (PySem.Str.ofString "0/0"))) (.cons (.c (.bl true)) .nil))) (.cons (.c (.int 7)) .nil))))))))))
  (.seq (.for .range1 [2] true (.cons (.bi .max2 false (.cons (.c (.int 1)) (.cons (.bi .min2 false (.cons (.bi .len false (.cons (.v 0) .nil)) (.cons (.c (.int 10)) .nil))) .nil))) .nil) (.seq (.set 3 (.call 41 (.cons (.v 0) (.cons (.v 2) .nil))))
  (.seq (.set 4 (.call 43 (.cons (.v 3) .nil)))
  (.seq (.set 5 (.call 44 (.cons (.v 3) (.cons (.meth 27 0 (.v 4) .nil) .nil))))
  (.seq (.set 6 (.new true 1 1 (.cons (.v 4) .nil)))
  (.seq (.for .rev [7, 8] false (.cons (.v 5) .nil) (.ex (.meth 3 1 (.v 6) (.cons (.v 7) (.cons (.v 8) .nil)))))
  (.seq (.set 9 (.meth 9 1 (.v 6) .nil))
  (.seq (.ite (.or_ (.cmp .ne (.v 9) (.call 45 (.cons (.v 5) .nil))) (.cmp .ne (.meth 9 1 (.call 50 (.cons (.v 4) (.cons (.v 9) .nil))) .nil) (.v 9))) (.ret (.c (.bl false)))
  .pass)
  (.seq (.for .range1 [10] true (.cons (.c (.int 4)) .nil) (.seq (.set 11 (.v 9))
  (.seq (.for .range1 [12] true (.cons (.bin .add false (.c (.int 1)) (.call 42 (.cons (.v 3) (.cons (.c (.int 3)) .nil)))) .nil) (.set 11 (.call 47 (.cons (.v 3) (.cons (.v 11) (.cons (.meth 27 0 (.v 4) .nil) .nil))))))
  (.ite (.or_ (.not_ (.call 51 (.cons (.v 4) (.cons (.v 11) .nil)))) (.not_ (.call 51 (.cons (.v 4) (.cons (.v 9) .nil))))) (.ret (.c (.bl false)))
  .pass))))
  (.ite (.cmp .isnot (.call 50 (.cons (.v 4) (.cons (.ix (.v 1) (.call 42 (.cons (.v 3) (.cons (.c (.int 8)) .nil)))) .nil))) (.c .non)) (.ret (.c (.bl false)))
  .pass))))))))))
  (.ret (.c (.bl true)))))⟩
open PySem PKS
def st (i : Nat) : Stmt := PySem.Challenge.pw_peakroll_k64_locks_text.main.body.getD i (.Pass ⟨0, 0, 0, 0⟩)
def stm (i j : Nat) : Stmt := match st i with
  | .ClassDef _ _ _ body .. => body.getD j (.Pass ⟨0, 0, 0, 0⟩)
  | _ => .Pass ⟨0, 0, 0, 0⟩
def e_wall : Ent := ⟨PySem.Str.ofString "_wall", PySem.Str.ofString "_wall", none, st 0, [PySem.Str.ofString "k"], [PySem.Str.ofString "k"], f_wall⟩
def e_Locks___init : Ent := ⟨PySem.Str.ofString "__init__", PySem.Str.ofString "Locks.__init__", some (1, PySem.Str.ofString "Locks"), stm 10 0, [PySem.Str.ofString "self", PySem.Str.ofString "ladder"], [PySem.Str.ofString "self", PySem.Str.ofString "ladder"], f_Locks___init⟩
def e_Locks_is_shut : Ent := ⟨PySem.Str.ofString "is_shut", PySem.Str.ofString "Locks.is_shut", some (1, PySem.Str.ofString "Locks"), stm 10 1, [PySem.Str.ofString "self", PySem.Str.ofString "roll", PySem.Str.ofString "number"], [PySem.Str.ofString "self", PySem.Str.ofString "roll", PySem.Str.ofString "number"], f_Locks_is_shut⟩
def e_Locks_shut : Ent := ⟨PySem.Str.ofString "shut", PySem.Str.ofString "Locks.shut", some (1, PySem.Str.ofString "Locks"), stm 10 2, [PySem.Str.ofString "self", PySem.Str.ofString "roll", PySem.Str.ofString "number"], [PySem.Str.ofString "self", PySem.Str.ofString "roll", PySem.Str.ofString "number"], f_Locks_shut⟩
def e_Locks_open_bar : Ent := ⟨PySem.Str.ofString "open_bar", PySem.Str.ofString "Locks.open_bar", some (1, PySem.Str.ofString "Locks"), stm 10 3, [PySem.Str.ofString "self", PySem.Str.ofString "roll", PySem.Str.ofString "number"], [PySem.Str.ofString "self", PySem.Str.ofString "roll", PySem.Str.ofString "number"], f_Locks_open_bar⟩
def e_Locks_shut_bars : Ent := ⟨PySem.Str.ofString "shut_bars", PySem.Str.ofString "Locks.shut_bars", some (1, PySem.Str.ofString "Locks"), stm 10 4, [PySem.Str.ofString "self"], [PySem.Str.ofString "self"], f_Locks_shut_bars⟩
def e_Locks_held_by : Ent := ⟨PySem.Str.ofString "held_by", PySem.Str.ofString "Locks.held_by", some (1, PySem.Str.ofString "Locks"), stm 10 5, [PySem.Str.ofString "self", PySem.Str.ofString "moment"], [PySem.Str.ofString "self", PySem.Str.ofString "moment"], f_Locks_held_by⟩
def e_Locks_bar_in : Ent := ⟨PySem.Str.ofString "bar_in", PySem.Str.ofString "Locks.bar_in", some (1, PySem.Str.ofString "Locks"), stm 10 6, [PySem.Str.ofString "self", PySem.Str.ofString "roll", PySem.Str.ofString "number", PySem.Str.ofString "entries"], [PySem.Str.ofString "self", PySem.Str.ofString "roll", PySem.Str.ofString "number", PySem.Str.ofString "entries"], f_Locks_bar_in⟩
def e_Locks_broken : Ent := ⟨PySem.Str.ofString "broken", PySem.Str.ofString "Locks.broken", some (1, PySem.Str.ofString "Locks"), stm 10 7, [PySem.Str.ofString "self", PySem.Str.ofString "one", PySem.Str.ofString "other"], [PySem.Str.ofString "self", PySem.Str.ofString "one", PySem.Str.ofString "other"], f_Locks_broken⟩
def e_Locks_written : Ent := ⟨PySem.Str.ofString "written", PySem.Str.ofString "Locks.written", some (1, PySem.Str.ofString "Locks"), stm 10 8, [PySem.Str.ofString "self", PySem.Str.ofString "roll", PySem.Str.ofString "number"], [PySem.Str.ofString "self"], f_Locks_written⟩
def e_Locks_copied : Ent := ⟨PySem.Str.ofString "copied", PySem.Str.ofString "Locks.copied", some (1, PySem.Str.ofString "Locks"), stm 10 9, [PySem.Str.ofString "self"], [PySem.Str.ofString "self"], f_Locks_copied⟩
def e_number_in : Ent := ⟨PySem.Str.ofString "number_in", PySem.Str.ofString "number_in", none, st 11, [PySem.Str.ofString "word", PySem.Str.ofString "figures", PySem.Str.ofString "sign"], [PySem.Str.ofString "word"], f_number_in⟩
def e_bar_in_word : Ent := ⟨PySem.Str.ofString "bar_in_word", PySem.Str.ofString "bar_in_word", none, st 12, [PySem.Str.ofString "ladder", PySem.Str.ofString "word", PySem.Str.ofString "words", PySem.Str.ofString "roll", PySem.Str.ofString "number"], [PySem.Str.ofString "ladder", PySem.Str.ofString "word"], f_bar_in_word⟩
def e_read_locks : Ent := ⟨PySem.Str.ofString "read_locks", PySem.Str.ofString "read_locks", none, st 13, [PySem.Str.ofString "ladder", PySem.Str.ofString "text", PySem.Str.ofString "words", PySem.Str.ofString "bars", PySem.Str.ofString "found", PySem.Str.ofString "roll", PySem.Str.ofString "number", PySem.Str.ofString "word", PySem.Str.ofString "one", PySem.Str.ofString "other"], [PySem.Str.ofString "ladder", PySem.Str.ofString "text"], f_read_locks⟩
def e_is_whole : Ent := ⟨PySem.Str.ofString "is_whole", PySem.Str.ofString "is_whole", none, st 22, [PySem.Str.ofString "thing"], [PySem.Str.ofString "thing"], f_is_whole⟩
def e_is_wide : Ent := ⟨PySem.Str.ofString "is_wide", PySem.Str.ofString "is_wide", none, st 23, [PySem.Str.ofString "thing"], [PySem.Str.ofString "thing"], f_is_wide⟩
def e_is_list : Ent := ⟨PySem.Str.ofString "is_list", PySem.Str.ofString "is_list", none, st 24, [PySem.Str.ofString "thing"], [PySem.Str.ofString "thing"], f_is_list⟩
def e_is_part : Ent := ⟨PySem.Str.ofString "is_part", PySem.Str.ofString "is_part", none, st 25, [PySem.Str.ofString "thing"], [PySem.Str.ofString "thing"], f_is_part⟩
def e_are_parts : Ent := ⟨PySem.Str.ofString "are_parts", PySem.Str.ofString "are_parts", none, st 26, [PySem.Str.ofString "thing", PySem.Str.ofString "part"], [PySem.Str.ofString "thing"], f_are_parts⟩
def e_are_sizes : Ent := ⟨PySem.Str.ofString "are_sizes", PySem.Str.ofString "are_sizes", none, st 27, [PySem.Str.ofString "thing", PySem.Str.ofString "size"], [PySem.Str.ofString "thing"], f_are_sizes⟩
def e_is_row : Ent := ⟨PySem.Str.ofString "is_row", PySem.Str.ofString "is_row", none, st 28, [PySem.Str.ofString "thing"], [PySem.Str.ofString "thing"], f_is_row⟩
def e_are_rows : Ent := ⟨PySem.Str.ofString "are_rows", PySem.Str.ofString "are_rows", none, st 29, [PySem.Str.ofString "thing", PySem.Str.ofString "row"], [PySem.Str.ofString "thing"], f_are_rows⟩
def e_ahead_of : Ent := ⟨PySem.Str.ofString "ahead_of", PySem.Str.ofString "ahead_of", none, st 30, [PySem.Str.ofString "sizes", PySem.Str.ofString "k"], [PySem.Str.ofString "sizes", PySem.Str.ofString "k"], f_ahead_of⟩
def e_Ladder___init : Ent := ⟨PySem.Str.ofString "__init__", PySem.Str.ofString "Ladder.__init__", some (0, PySem.Str.ofString "Ladder"), stm 31 0, [PySem.Str.ofString "self", PySem.Str.ofString "begin", PySem.Str.ofString "parts", PySem.Str.ofString "rows", PySem.Str.ofString "lengths", PySem.Str.ofString "row", PySem.Str.ofString "part", PySem.Str.ofString "k"], [PySem.Str.ofString "self", PySem.Str.ofString "begin", PySem.Str.ofString "parts", PySem.Str.ofString "rows"], f_Ladder___init⟩
def e_Ladder_begin : Ent := ⟨PySem.Str.ofString "begin", PySem.Str.ofString "Ladder.begin", some (0, PySem.Str.ofString "Ladder"), stm 31 1, [PySem.Str.ofString "self"], [PySem.Str.ofString "self"], f_Ladder_begin⟩
def e_Ladder_parts : Ent := ⟨PySem.Str.ofString "parts", PySem.Str.ofString "Ladder.parts", some (0, PySem.Str.ofString "Ladder"), stm 31 2, [PySem.Str.ofString "self"], [PySem.Str.ofString "self"], f_Ladder_parts⟩
def e_Ladder_rows : Ent := ⟨PySem.Str.ofString "rows", PySem.Str.ofString "Ladder.rows", some (0, PySem.Str.ofString "Ladder"), stm 31 3, [PySem.Str.ofString "self"], [PySem.Str.ofString "self"], f_Ladder_rows⟩
def e_Ladder_rolls : Ent := ⟨PySem.Str.ofString "rolls", PySem.Str.ofString "Ladder.rolls", some (0, PySem.Str.ofString "Ladder"), stm 31 4, [PySem.Str.ofString "self"], [PySem.Str.ofString "self"], f_Ladder_rolls⟩
def e_Ladder_want_roll : Ent := ⟨PySem.Str.ofString "want_roll", PySem.Str.ofString "Ladder.want_roll", some (0, PySem.Str.ofString "Ladder"), stm 31 5, [PySem.Str.ofString "self", PySem.Str.ofString "roll", PySem.Str.ofString "least", PySem.Str.ofString "most"], [PySem.Str.ofString "self", PySem.Str.ofString "roll", PySem.Str.ofString "least", PySem.Str.ofString "most"], f_Ladder_want_roll⟩
def e_Ladder_want_any_roll : Ent := ⟨PySem.Str.ofString "want_any_roll", PySem.Str.ofString "Ladder.want_any_roll", some (0, PySem.Str.ofString "Ladder"), stm 31 6, [PySem.Str.ofString "self", PySem.Str.ofString "roll"], [PySem.Str.ofString "self", PySem.Str.ofString "roll"], f_Ladder_want_any_roll⟩
def e_Ladder_open_at : Ent := ⟨PySem.Str.ofString "open_at", PySem.Str.ofString "Ladder.open_at", some (0, PySem.Str.ofString "Ladder"), stm 31 7, [PySem.Str.ofString "self", PySem.Str.ofString "moment"], [PySem.Str.ofString "self", PySem.Str.ofString "moment"], f_Ladder_open_at⟩
def e_Ladder_lowest : Ent := ⟨PySem.Str.ofString "lowest", PySem.Str.ofString "Ladder.lowest", some (0, PySem.Str.ofString "Ladder"), stm 31 8, [PySem.Str.ofString "self", PySem.Str.ofString "moment"], [PySem.Str.ofString "self", PySem.Str.ofString "moment"], f_Ladder_lowest⟩
def e_Ladder_raised : Ent := ⟨PySem.Str.ofString "raised", PySem.Str.ofString "Ladder.raised", some (0, PySem.Str.ofString "Ladder"), stm 31 9, [PySem.Str.ofString "self", PySem.Str.ofString "roll", PySem.Str.ofString "number"], [PySem.Str.ofString "self", PySem.Str.ofString "roll", PySem.Str.ofString "number"], f_Ladder_raised⟩
def e_Ladder_lowered : Ent := ⟨PySem.Str.ofString "lowered", PySem.Str.ofString "Ladder.lowered", some (0, PySem.Str.ofString "Ladder"), stm 31 10, [PySem.Str.ofString "self", PySem.Str.ofString "roll", PySem.Str.ofString "number", PySem.Str.ofString "first", PySem.Str.ofString "sizes", PySem.Str.ofString "turns", PySem.Str.ofString "place"], [PySem.Str.ofString "self", PySem.Str.ofString "roll", PySem.Str.ofString "number"], f_Ladder_lowered⟩
def e_Ladder_first_moment : Ent := ⟨PySem.Str.ofString "first_moment", PySem.Str.ofString "Ladder.first_moment", some (0, PySem.Str.ofString "Ladder"), stm 31 11, [PySem.Str.ofString "self", PySem.Str.ofString "roll", PySem.Str.ofString "number", PySem.Str.ofString "below", PySem.Str.ofString "turns", PySem.Str.ofString "place"], [PySem.Str.ofString "self", PySem.Str.ofString "roll", PySem.Str.ofString "number"], f_Ladder_first_moment⟩
def e_Ladder_bar_at : Ent := ⟨PySem.Str.ofString "bar_at", PySem.Str.ofString "Ladder.bar_at", some (0, PySem.Str.ofString "Ladder"), stm 31 12, [PySem.Str.ofString "self", PySem.Str.ofString "roll", PySem.Str.ofString "moment"], [PySem.Str.ofString "self", PySem.Str.ofString "roll", PySem.Str.ofString "moment"], f_Ladder_bar_at⟩
def e_Ladder_stretch : Ent := ⟨PySem.Str.ofString "stretch", PySem.Str.ofString "Ladder.stretch", some (0, PySem.Str.ofString "Ladder"), stm 31 13, [PySem.Str.ofString "self", PySem.Str.ofString "roll", PySem.Str.ofString "number"], [PySem.Str.ofString "self", PySem.Str.ofString "roll", PySem.Str.ofString "number"], f_Ladder_stretch⟩
def e_Ladder_lesser : Ent := ⟨PySem.Str.ofString "lesser", PySem.Str.ofString "Ladder.lesser", some (0, PySem.Str.ofString "Ladder"), stm 31 14, [PySem.Str.ofString "self", PySem.Str.ofString "roll", PySem.Str.ofString "number"], [PySem.Str.ofString "self", PySem.Str.ofString "roll", PySem.Str.ofString "number"], f_Ladder_lesser⟩
def e_Ladder_greater : Ent := ⟨PySem.Str.ofString "greater", PySem.Str.ofString "Ladder.greater", some (0, PySem.Str.ofString "Ladder"), stm 31 15, [PySem.Str.ofString "self", PySem.Str.ofString "roll", PySem.Str.ofString "number"], [PySem.Str.ofString "self", PySem.Str.ofString "roll", PySem.Str.ofString "number"], f_Ladder_greater⟩
def e_Ladder_is_open : Ent := ⟨PySem.Str.ofString "is_open", PySem.Str.ofString "Ladder.is_open", some (0, PySem.Str.ofString "Ladder"), stm 31 16, [PySem.Str.ofString "self", PySem.Str.ofString "moment"], [PySem.Str.ofString "self", PySem.Str.ofString "moment"], f_Ladder_is_open⟩
def e_want_number : Ent := ⟨PySem.Str.ofString "want_number", PySem.Str.ofString "want_number", none, st 32, [PySem.Str.ofString "thing"], [PySem.Str.ofString "thing"], f_want_number⟩
def e_law_pot : Ent := ⟨PySem.Str.ofString "_law_pot", PySem.Str.ofString "_law_pot", none, st 34, [PySem.Str.ofString "_law_script", PySem.Str.ofString "_law_k", PySem.Str.ofString "_law_cell"], [PySem.Str.ofString "_law_script", PySem.Str.ofString "_law_k"], f_law_pot⟩
def e_law_digit : Ent := ⟨PySem.Str.ofString "_law_digit", PySem.Str.ofString "_law_digit", none, st 35, [PySem.Str.ofString "_law_pot_here", PySem.Str.ofString "_law_many", PySem.Str.ofString "_law_digit_here"], [PySem.Str.ofString "_law_pot_here", PySem.Str.ofString "_law_many"], f_law_digit⟩
def e_law_ladder : Ent := ⟨PySem.Str.ofString "_law_ladder", PySem.Str.ofString "_law_ladder", none, st 36, [PySem.Str.ofString "_law_pot_here", PySem.Str.ofString "_law_rows", PySem.Str.ofString "_law_k", PySem.Str.ofString "_law_j"], [PySem.Str.ofString "_law_pot_here"], f_law_ladder⟩
def e_law_bars : Ent := ⟨PySem.Str.ofString "_law_bars", PySem.Str.ofString "_law_bars", none, st 37, [PySem.Str.ofString "_law_pot_here", PySem.Str.ofString "_law_rolls", PySem.Str.ofString "_law_found", PySem.Str.ofString "_law_k", PySem.Str.ofString "_law_near", PySem.Str.ofString "_law_far", PySem.Str.ofString "_law_some"], [PySem.Str.ofString "_law_pot_here", PySem.Str.ofString "_law_rolls"], f_law_bars⟩
def e_law_text : Ent := ⟨PySem.Str.ofString "_law_text", PySem.Str.ofString "_law_text", none, st 38, [PySem.Str.ofString "_law_bars_here", PySem.Str.ofString "_law_roll", PySem.Str.ofString "_law_number_here"], [PySem.Str.ofString "_law_bars_here"], f_law_text⟩
def e_law_sign_spoilt : Ent := ⟨PySem.Str.ofString "_law_sign_spoilt", PySem.Str.ofString "_law_sign_spoilt", none, st 39, [PySem.Str.ofString "_law_pot_here", PySem.Str.ofString "_law_text_here", PySem.Str.ofString "_law_at", PySem.Str.ofString "_law_sign", PySem.Str.ofString "_law_way"], [PySem.Str.ofString "_law_pot_here", PySem.Str.ofString "_law_text_here"], f_law_sign_spoilt⟩
def e_law_spoilt : Ent := ⟨PySem.Str.ofString "_law_spoilt", PySem.Str.ofString "_law_spoilt", none, st 40, [PySem.Str.ofString "_law_pot_here", PySem.Str.ofString "_law_text_here", PySem.Str.ofString "_law_rolls", PySem.Str.ofString "_law_way", PySem.Str.ofString "_law_words", PySem.Str.ofString "_law_at"], [PySem.Str.ofString "_law_pot_here", PySem.Str.ofString "_law_text_here", PySem.Str.ofString "_law_rolls"], f_law_spoilt⟩
def e_law_number : Ent := ⟨PySem.Str.ofString "_law_number", PySem.Str.ofString "_law_number", none, st 41, [PySem.Str.ofString "_law_word", PySem.Str.ofString "_law_figures", PySem.Str.ofString "_law_sign"], [PySem.Str.ofString "_law_word"], f_law_number⟩
def e_law_read : Ent := ⟨PySem.Str.ofString "_law_read", PySem.Str.ofString "_law_read", none, st 42, [PySem.Str.ofString "_law_text_here", PySem.Str.ofString "_law_rolls", PySem.Str.ofString "_law_found", PySem.Str.ofString "_law_word", PySem.Str.ofString "_law_numbers", PySem.Str.ofString "_law_part", PySem.Str.ofString "_law_one", PySem.Str.ofString "_law_other"], [PySem.Str.ofString "_law_text_here", PySem.Str.ofString "_law_rolls"], f_law_read⟩
def e_law_told : Ent := ⟨PySem.Str.ofString "_law_told", PySem.Str.ofString "_law_told", none, st 43, [PySem.Str.ofString "_law_ladder_here", PySem.Str.ofString "_law_text_here", PySem.Str.ofString "_law_found"], [PySem.Str.ofString "_law_ladder_here", PySem.Str.ofString "_law_text_here"], f_law_told⟩
def e_law_agrees : Ent := ⟨PySem.Str.ofString "_law_agrees", PySem.Str.ofString "_law_agrees", none, st 44, [PySem.Str.ofString "_law_ladder_here", PySem.Str.ofString "_law_text_here", PySem.Str.ofString "_law_due", PySem.Str.ofString "_law_found", PySem.Str.ofString "_law_roll", PySem.Str.ofString "_law_number_here"], [PySem.Str.ofString "_law_ladder_here", PySem.Str.ofString "_law_text_here"], f_law_agrees⟩
def e_law : Ent := ⟨PySem.Str.ofString "law", PySem.Str.ofString "law", none, st 45, [PySem.Str.ofString "_law_script", PySem.Str.ofString "_law_things", PySem.Str.ofString "_law_k", PySem.Str.ofString "_law_pot_here", PySem.Str.ofString "_law_ladder_here", PySem.Str.ofString "_law_bars_here", PySem.Str.ofString "_law_locks", PySem.Str.ofString "_law_roll", PySem.Str.ofString "_law_number_here", PySem.Str.ofString "_law_text_here", PySem.Str.ofString "_law_j", PySem.Str.ofString "_law_spoilt_here", PySem.Str.ofString "_law_i"], [PySem.Str.ofString "_law_script"], f_law⟩
def ents0 : List Ent := [e_wall, e_Locks___init, e_Locks_is_shut, e_Locks_shut, e_Locks_open_bar, e_Locks_shut_bars, e_Locks_held_by, e_Locks_bar_in, e_Locks_broken, e_Locks_written, e_Locks_copied, e_number_in, e_bar_in_word, e_read_locks, e_is_whole, e_is_wide, e_is_list, e_is_part, e_are_parts, e_are_sizes, e_is_row, e_are_rows, e_ahead_of, e_Ladder___init, e_Ladder_begin, e_Ladder_parts, e_Ladder_rows, e_Ladder_rolls, e_Ladder_want_roll, e_Ladder_want_any_roll]
def ents1 : List Ent := [e_Ladder_open_at, e_Ladder_lowest, e_Ladder_raised, e_Ladder_lowered, e_Ladder_first_moment, e_Ladder_bar_at, e_Ladder_stretch, e_Ladder_lesser, e_Ladder_greater, e_Ladder_is_open, e_want_number, e_law_pot, e_law_digit, e_law_ladder, e_law_bars, e_law_text, e_law_sign_spoilt, e_law_spoilt, e_law_number, e_law_read, e_law_told, e_law_agrees, e_law]
abbrev ents : List Ent := ents0 ++ ents1
def free0 : List Str := [PySem.Str.ofString "sorted", PySem.Str.ofString "str", PySem.Str.ofString "int", PySem.Str.ofString "all", PySem.Str.ofString "len", PySem.Str.ofString "isinstance", PySem.Str.ofString "zip", PySem.Str.ofString "bool", PySem.Str.ofString "abs", PySem.Str.ofString "list", PySem.Str.ofString "tuple", PySem.Str.ofString "sum", PySem.Str.ofString "enumerate", PySem.Str.ofString "divmod", PySem.Str.ofString "range", PySem.Str.ofString "min", PySem.Str.ofString "max", PySem.Str.ofString "reversed"]
abbrev free : List Str := free0
def cons0 : List (Str × D) := [(PySem.Str.ofString "MOST_FIGURES", (.int 40)), (PySem.Str.ofString "WIDEST", (.int 1000000000000000000000000000000)), (PySem.Str.ofString "WIDEST_NUMBER", (.int 10000000000000000000000000000000000000000)), (PySem.Str.ofString "MOST_PARTS", (.int 12)), (PySem.Str.ofString "LONGEST_PART", (.int 1000000000)), (PySem.Str.ofString "MOST_ROWS", (.int 4)), (PySem.Str.ofString "MOST_SIZES", (.int 12)), (PySem.Str.ofString "GREATEST_SIZE", (.int 1000))]
abbrev cons : List (Str × D) := cons0
def clss : Clss := [(PySem.Str.ofString "Ladder", [PySem.Str.ofString "from_where", PySem.Str.ofString "own_parts", PySem.Str.ofString "own_rows", PySem.Str.ofString "starts", PySem.Str.ofString "opens", PySem.Str.ofString "turn"]), (PySem.Str.ofString "Locks", [PySem.Str.ofString "ladder", PySem.Str.ofString "kept"])]
def exs : Exs := [(PySem.Str.ofString "PeakError", [0, 1, 2, 3, 4, 5]), (PySem.Str.ofString "NoLadder", [1]), (PySem.Str.ofString "NoRoll", [2]), (PySem.Str.ofString "NoNumber", [3]), (PySem.Str.ofString "NoText", [4]), (PySem.Str.ofString "NoLock", [5])]
abbrev gl : Nat → Option D := glOf cons
abbrev hk : PySem.W.Hook := hookP 4 (faOf ents free cons clss exs) (ents.map Ent.dd) (exF cons exs)
def ob (s : PySem.W.SharedT) : AlP := obsP 4 (faOf ents free cons clss exs) (ents.map Ent.dd) (exF cons exs) (HandSHeadRun.getT s)
def loose0 : List Str := [PySem.Str.ofString "_wall", PySem.Str.ofString "__name__", PySem.Str.ofString "PeakError", PySem.Str.ofString "NoLadder", PySem.Str.ofString "NoRoll", PySem.Str.ofString "NoNumber", PySem.Str.ofString "NoText", PySem.Str.ofString "NoLock", PySem.Str.ofString "MOST_FIGURES", PySem.Str.ofString "Locks", PySem.Str.ofString "number_in", PySem.Str.ofString "bar_in_word", PySem.Str.ofString "read_locks", PySem.Str.ofString "WIDEST", PySem.Str.ofString "WIDEST_NUMBER", PySem.Str.ofString "MOST_PARTS", PySem.Str.ofString "LONGEST_PART", PySem.Str.ofString "MOST_ROWS", PySem.Str.ofString "MOST_SIZES", PySem.Str.ofString "GREATEST_SIZE", PySem.Str.ofString "is_whole", PySem.Str.ofString "is_wide", PySem.Str.ofString "is_list", PySem.Str.ofString "is_part", PySem.Str.ofString "are_parts", PySem.Str.ofString "are_sizes", PySem.Str.ofString "is_row", PySem.Str.ofString "are_rows", PySem.Str.ofString "ahead_of", PySem.Str.ofString "Ladder"]
def loose1 : List Str := [PySem.Str.ofString "want_number", PySem.Str.ofString "_law_pot", PySem.Str.ofString "_law_digit", PySem.Str.ofString "_law_ladder", PySem.Str.ofString "_law_bars", PySem.Str.ofString "_law_text", PySem.Str.ofString "_law_sign_spoilt", PySem.Str.ofString "_law_spoilt", PySem.Str.ofString "_law_number", PySem.Str.ofString "_law_read", PySem.Str.ofString "_law_told", PySem.Str.ofString "_law_agrees"]
abbrev loose : List Str := loose0 ++ loose1
theorem run (w : World) : HandSHeadRun.RunEq (PySem.W.OpenLaw.row PySem.Challenge.rw_peakroll_k64_locks_text) (PySem.W.view (PySem.W.OpenLaw.row PySem.Challenge.rw_peakroll_k64_locks_text).prog [45]) hk ob 12000 loose w := by
  intro os
  kernel_rfl
end Tk64
set_option Elab.async false
set_option linter.all false
set_option maxRecDepth 100000
set_option maxHeartbeats 0
set_option exponentiation.threshold 3000
namespace PK
open PySem


section
variable {α β : Type}
theorem R.bind_ok {v G f t} : (R.ok v G).bind f t = f v G := rfl
theorem R.st_ok {s v G f t} : R.st s (R.ok v G) f t = f v G := rfl
theorem O.then_nx {s G f t} : (O.nx s G).then f t = f s G := rfl
theorem iteK_true {a b : Unit → α} {t u} : iteK true a b t u = a () := rfl
theorem iteK_false {a b : Unit → α} {t u} : iteK false a b t u = b () := rfl
theorem optK_some {x : β} {f : β → α} {d t} : optK (some x) f d t = f x := rfl
theorem tupK_tup {ds} {f : List D → α} {d t} : tupK (.tup ds) f d t = f ds := rfl
theorem blK_bl {b} {f : Bool → α} {d t} : blK (.bl b) f d t = f b := rfl
end

section
variable {α : Type}
end

theorem stepK_item {y f g t u} : stepK (.tup [y]) f g t u = f y := rfl
theorem stepK_none {f g t u} : stepK .non f g t u = g () := rfl
section
variable (cl : List Nat → Nat → List D → Hp → R) (gl : Nat → Option D) (m : List Nat)
end
end PK
namespace PK
def cBel (k : Nat) : Cell → Prop
  | .lst ds => belows k ds = true
  | .dK kvs => belows k (kvs.map (·.2)) = true
  | .dT kvs => belows k (kvs.map (·.2)) = true
  | .ins _ ds => belows k ds = true
def WF (k : Nat) (G : Hp) : Prop := k ≤ G.length ∧ ∀ i c, i < k → G[i]? = some c → cBel k c
def KR (k : Nat) : R → Prop
  | .ok _ G => WF k G
  | .exc _ G => WF k G
  | .bad => True
def KO (k : Nat) : O → Prop
  | .nx _ G => WF k G
  | .ret _ G => WF k G
  | .brk _ G => WF k G
  | .cnt _ G => WF k G
  | .exc _ _ G => WF k G
  | .bad => True
section
variable {k : Nat} {G : Hp} {m : List Nat}
theorem belows_append : ∀ {a b : List D}, belows k a = true → belows k b = true → belows k (a ++ b) = true
  | [], b, _, h => h
  | x :: a, b, h, h' => by
    obtain ⟨h1, h2⟩ := Bool.and_eq_true_iff.mp (show (below k x && belows k a) = true from h)
    show (below k x && belows k (a ++ b)) = true
    rw [h1, belows_append h2 h']; rfl
theorem belows_mem : ∀ {a : List D}, belows k a = true ↔ ∀ x ∈ a, below k x = true
  | [] => ⟨(fun _ _ h => nomatch h), fun _ => rfl⟩
  | x :: a => by
    show (below k x && belows k a) = true ↔ _
    rw [Bool.and_eq_true_iff, belows_mem (a := a)]
    simp
theorem WF.app (h : WF k G) (c : Cell) : WF k (G ++ [c]) := ⟨by rw [List.length_append]; exact Nat.le_trans h.1 (Nat.le_add_right _ _), fun i d hi e => h.2 i d hi (by rw [List.getElem?_append_left (Nat.lt_of_lt_of_le hi h.1)] at e; exact e)⟩
theorem WF.set {i : Nat} {c : Cell} (h : WF k G) (hc : i < k → cBel k c) : WF k (setC G i c) := ⟨by unfold setC; rw [List.length_set]; exact h.1, fun j d hj e => by
  unfold setC at e
  by_cases q : i = j
  · subst q
    rw [List.getElem?_set_self (Nat.lt_of_lt_of_le hj h.1)] at e
    cases e; exact hc hj
  · rw [List.getElem?_set_ne q] at e; exact h.2 j d hj e⟩
theorem WF.take {n : Nat} (h : WF k G) (hn : k ≤ n) : WF k (G.take n) := ⟨by rw [List.length_take]; exact Nat.le_min.mpr ⟨hn, h.1⟩, fun i c hi e => h.2 i c hi (by rw [List.getElem?_take_of_lt (Nat.lt_of_lt_of_le hi hn)] at e; exact e)⟩
theorem wok_of {i : Nat} {v : D} (hk : k ∈ m) (h : wok i m v = true) (hi : i < k) : below k v = true := by
  have := List.all_eq_true.mp h k hk
  rcases Bool.or_eq_true_iff.mp this with z | z
  · exact z
  · have := of_decide_eq_true z; omega
theorem KR.bind {r : R} {f : D → Hp → R} {t} (h : KR k r) (hf : ∀ v G', WF k G' → KR k (f v G')) : KR k (r.bind f t) := by
  cases r with
  | ok v G' => exact hf v G' h
  | exc c G' => exact h
  | bad => exact h
theorem KO.st {s : Env} {r : R} {f : D → Hp → O} {t} (h : KR k r) (hf : ∀ v G', WF k G' → KO k (f v G')) : KO k (R.st s r f t) := by
  cases r with
  | ok v G' => exact hf v G' h
  | exc c G' => exact h
  | bad => exact h
theorem KO.then {o : O} {f : Env → Hp → O} {t} (h : KO k o) (hf : ∀ s G', WF k G' → KO k (f s G')) : KO k (o.then f t) := by
  cases o with
  | nx s G' => exact hf s G' h
  | _ => exact h
theorem KO.turn {o : O} {f : Env → Hp → O} {t} (h : KO k o) (hf : ∀ s G', WF k G' → KO k (f s G')) : KO k (o.turn f t) := by
  cases o with
  | nx s G' => exact hf s G' h
  | cnt s G' => exact hf s G' h
  | _ => exact h
theorem KR.ite {c : Bool} {a b : Unit → R} {t u} (ha : KR k (a ())) (hb : KR k (b ())) : KR k (iteK c a b t u) := by cases c <;> assumption
theorem KO.ite {c : Bool} {a b : Unit → O} {t u} (ha : KO k (a ())) (hb : KO k (b ())) : KO k (iteK c a b t u) := by cases c <;> assumption
theorem KR.bl {x : D} {f : Bool → R} {t} (h : ∀ b, KR k (f b)) : KR k (blK x f .bad t) := by cases x <;> first | exact h _ | trivial
theorem KO.bl {x : D} {f : Bool → O} {t} (h : ∀ b, KO k (f b)) : KO k (blK x f .bad t) := by cases x <;> first | exact h _ | trivial
theorem KR.tup {x : D} {f : List D → R} {t} (h : ∀ b, KR k (f b)) : KR k (tupK x f .bad t) := by cases x <;> first | exact h _ | trivial
theorem KO.tup {x : D} {f : List D → O} {t} (h : ∀ b, KO k (f b)) : KO k (tupK x f .bad t) := by cases x <;> first | exact h _ | trivial
theorem KR.opt {β : Type} {x : Option β} {f : β → R} {t} (h : ∀ b, KR k (f b)) : KR k (optK x f .bad t) := by cases x <;> first | exact h _ | trivial
theorem KO.opt {β : Type} {x : Option β} {f : β → O} {t} (h : ∀ b, KO k (f b)) : KO k (optK x f .bad t) := by cases x <;> first | exact h _ | trivial
theorem k_mkl {w : Bool} {ds : List D} (h : WF k G) : KR k (mkl w ds G) := by cases w; exact h; exact h.app _
theorem KR.if {c : Prop} [Decidable c] {a b : R} (ha : KR k a) (hb : KR k b) : KR k (if c then a else b) := by split <;> assumption
theorem KO.if {c : Prop} [Decidable c] {a b : O} (ha : KO k a) (hb : KO k b) : KO k (if c then a else b) := by split <;> assumption
theorem k_cmp {o : Co} {x y : D} (h : WF k G) : KR k (cmpD o x y G) := by
  unfold cmpD
  cases o <;> dsimp only <;> (repeat' split) <;> first | exact h | trivial
theorem k_bin {o : Bo} {w : Bool} {x y : D} (h : WF k G) : KR k (binD o w x y G) := by
  unfold binD
  cases o <;> dsimp only <;> (repeat' split) <;> first | exact h | trivial | exact k_mkl h
theorem k_ixL {ds : List D} {y : D} (h : WF k G) : KR k (ixL ds y G) := by
  unfold ixL
  (repeat' split) <;> first | exact h | trivial
theorem k_ixK {o : Option (Option D)} (h : WF k G) : KR k (ixK o G) := by
  unfold ixK
  (repeat' split) <;> first | exact h | trivial
theorem k_ix {x y : D} (h : WF k G) : KR k (ixD x y G) := by
  unfold ixD
  (repeat' split) <;> first | exact h | trivial | exact k_ixL h | exact k_ixK h
theorem k_sl {w : Bool} {x l u : D} (h : WF k G) : KR k (slD w x l u G) := by
  unfold slD
  (repeat' split) <;> first | exact h | trivial | exact k_mkl h
theorem k_rev {w : Bool} {x : D} (h : WF k G) : KR k (revD w x G) := by
  unfold revD
  (repeat' split) <;> first | exact h | trivial | exact k_mkl h
theorem k_repr {x : D} (h : WF k G) : KR k (reprD G x) := by
  unfold reprD
  (repeat' split) <;> first | exact h | trivial
theorem k_bi {b : Bi} {w : Bool} {xs : List D} (h : WF k G) : KR k (biD b w xs G) := by
  unfold biD
  (repeat' split) <;> first | exact h | trivial | exact k_mkl h | exact k_repr h
theorem cell_of {i : Nat} {c : Cell} (h : WF k G) (e : G[i]? = some c) (hi : i < k) : cBel k c := h.2 i c hi e
theorem dropD_mem {κ : Type} [DecidableEq κ] {kvs : List (κ × D)} {q : κ} (h : belows k (kvs.map (·.2)) = true) : belows k ((dropD kvs q).map (·.2)) = true :=
  belows_mem.mpr fun x hx => by
    obtain ⟨kv, h1, h2⟩ := List.mem_map.mp hx
    exact belows_mem.mp h x (List.mem_map.mpr ⟨kv, (List.mem_filter.mp h1).1, h2⟩)
theorem k_mt {b : Mt} {w : Bool} {o : D} {xs : List D} (hk : k ∈ m) (h : WF k G) : KR k (mtD b w m o xs G) := by
  unfold mtD
  split
  · split
    · rename_i i v _ ds e
      split
      · rename_i c
        obtain ⟨c1, c2⟩ := Bool.and_eq_true_iff.mp c
        exact h.set fun hi => belows_append (cell_of h e hi) (by show (below k v && true) = true; rw [wok_of hk c1 hi]; rfl)
      · trivial
    · trivial
  · split
    · rename_i i x _ ds e
      split
      · rename_i es e2
        split
        · rename_i c
          obtain ⟨c1, c2⟩ := Bool.and_eq_true_iff.mp c
          exact h.set fun hi => belows_append (cell_of h e hi) (belows_mem.mpr fun y hy => wok_of hk (List.all_eq_true.mp c1 y hy) hi)
        · trivial
      · trivial
    · trivial
  · split
    · exact h.set fun _ => rfl
    · trivial
  · split
    · rename_i i ds e
      split
      · exact h.set fun hi => belows_mem.mpr fun x hx => belows_mem.mp (cell_of h e hi) x (List.dropLast_subset _ hx)
      · trivial
    · trivial
  · split
    · rename_i i ki ds e
      split
      · split
        · exact h.set fun hi => belows_mem.mpr fun x hx => belows_mem.mp (cell_of h e hi) x (List.eraseIdx_subset hx)
        · trivial
      · trivial
    · trivial
  · split
    · rename_i i ks kvs e
      split
      · rename_i q e2
        split
        · exact h.set fun hi => dropD_mem (cell_of h e hi)
        · trivial
      · trivial
    · trivial
  · split
    · rename_i i ds e
      exact h.set fun hi => belows_mem.mpr fun x hx => belows_mem.mp (cell_of h e hi) x (List.mem_reverse.mp hx)
    · trivial
  all_goals ((repeat' split) <;> first | exact h | trivial | exact k_mkl h)
theorem k_made {w : Bool} {n : Nat} (h : WF k G) (hn : k ≤ n) : KR k (madeD w n G) := by
  unfold madeD
  cases w
  · rw [if_neg Bool.false_ne_true]
    dsimp only
    split
    · exact h.take hn
    · trivial
  · rw [if_pos rfl]; exact h
theorem putD_mem {κ : Type} [DecidableEq κ] {kvs : List (κ × D)} {q : κ} {v : D} (h : belows k (kvs.map (·.2)) = true) (hv : below k v = true) : belows k ((putD kvs q v).map (·.2)) = true := by
  unfold putD
  split
  · refine belows_mem.mpr fun x hx => ?_
    obtain ⟨p, hp, e⟩ := List.mem_map.mp hx
    obtain ⟨p', hp', e'⟩ := List.mem_map.mp hp
    subst e
    subst e'
    split
    · exact hv
    · exact belows_mem.mp h _ (List.mem_map.mpr ⟨p', hp', rfl⟩)
  · rw [List.map_append]
    exact belows_append h (by show (below k v && true) = true; rw [hv]; rfl)
theorem k_putV {x y v : D} {s : Env} (hk : k ∈ m) (h : WF k G) : KO k (putV m x y v s G) := by
  unfold putV
  split
  · rename_i q
    cases e : G[q]? with
    | none => trivial
    | some c =>
      cases c with
      | lst ds =>
        show KO k (putL q m ds y v s G)
        unfold putL
        split
        · split
          · split
            · rename_i c
              exact h.set fun hi => belows_mem.mpr fun x hx => by
                rcases List.mem_or_eq_of_mem_set hx with z | z
                · exact belows_mem.mp (cell_of h e hi) x z
                · rw [z]; exact wok_of hk c hi
            · trivial
          · trivial
        · trivial
      | dK kvs =>
        show KO k (putDK q m kvs y v s G)
        unfold putDK
        split
        · split
          · rename_i c
            exact h.set fun hi => putD_mem (cell_of h e hi) (wok_of hk (Bool.and_eq_true_iff.mp c).1 hi)
          · trivial
        · trivial
      | dT kvs =>
        show KO k (putDT q m kvs y v s G)
        unfold putDT
        split
        · split
          · split
            · rename_i c
              exact h.set fun hi => putD_mem (cell_of h e hi) (wok_of hk (Bool.and_eq_true_iff.mp c).1 hi)
            · trivial
          · trivial
        · trivial
      | ins c ds => trivial
  · trivial
theorem k_putF {c j : Nat} {x v : D} {s : Env} (hk : k ∈ m) (h : WF k G) : KO k (putF m c j x v s G) := by
  unfold putF
  split
  · rename_i q
    split
    · rename_i c' ds e
      split
      · rename_i hc
        split
        · exact h.set fun hi => belows_mem.mpr fun x hx => by
            rcases List.mem_or_eq_of_mem_set hx with z | z
            · exact belows_mem.mp (cell_of h e hi) x z
            · rw [z]; exact wok_of hk hc.2 hi
        · split
          · exact h.set fun hi => belows_append (cell_of h e hi) (by show (below k v && true) = true; rw [wok_of hk hc.2 hi]; rfl)
          · trivial
      · trivial
    · trivial
  · trivial
variable {cl : List Nat → Nat → List D → Hp → R} {gl : Nat → Option D}
theorem k_comp {step : D → Hp → R} {g : Option (Nat × Cell)} {fin : List D → Hp → R} (hs : ∀ x G, WF k G → KR k (step x G)) (hf : ∀ acc G, WF k G → KR k (fin acc G)) : ∀ (xs : List D) (G : Hp) (acc : List D), WF k G → KR k (compF step g xs G acc fin)
  | [], G, acc, h => KR.ite (hf acc G h) trivial
  | x :: xs, G, acc, h => KR.ite (KR.bind (hs x G h) fun r G1 h1 => by
      unfold stepK
      split
      · exact k_comp hs hf xs _ _ h1
      · exact k_comp hs hf xs _ _ h1
      · trivial) trivial
theorem k_dnew {t : Bool} {G : Hp} (h : WF k G) : KR k (.ok (.ref G.length) (G ++ [if t then .dT [] else .dK []])) := h.app _
theorem k_safe {r : R} (h : KR k r) : KR k r.safe := by cases r <;> first | exact h | trivial
theorem k_keys {step : D → Hp → R} {f : List (Int × PySem.Str) → Hp → R} (hs : ∀ d G, WF k G → KR k (step d G)) (hf : ∀ is G, WF k G → KR k (f is G)) : ∀ (ds : List D) (acc : List (Int × PySem.Str)) (G : Hp), WF k G → KR k (keysF step ds G acc f)
  | [], acc, G, h => hf acc G h
  | d :: ds, acc, G, h => KR.bind (k_safe (hs d G h)) fun x G1 h1 => KR.opt fun i => k_keys hs hf ds (acc ++ [i]) G1 h1
mutual
theorem k_eval (hk : k ∈ m) (hcl : ∀ m' f args G, k ∈ m' → WF k G → KR k (cl m' f args G)) : ∀ (l : L) (s : Env) (G : Hp), WF k G → KR k (eval cl gl m l s G)
  | .c d, s, G, h => h
  | .v i, s, G, h => KR.opt fun _ => h
  | .g i, s, G, h => KR.opt fun _ => h
  | .bin o w a b, s, G, h => KR.bind (k_eval hk hcl a s G h) fun x G1 h1 => KR.bind (k_eval hk hcl b s G1 h1) fun y G2 h2 => k_bin h2
  | .neg a, s, G, h => KR.bind (k_eval hk hcl a s G h) fun x G1 h1 => by unfold negD; split <;> first | exact h1 | trivial
  | .cmp o a b, s, G, h => KR.bind (k_eval hk hcl a s G h) fun x G1 h1 => KR.bind (k_eval hk hcl b s G1 h1) fun y G2 h2 => k_cmp h2
  | .chain o o' a b c, s, G, h => KR.bind (k_eval hk hcl a s G h) fun x G1 h1 => KR.bind (k_eval hk hcl b s G1 h1) fun y G2 h2 => KR.bind (k_cmp h2) fun z G3 h3 =>
      KR.bl fun t => KR.ite (KR.bind (k_eval hk hcl c s G3 h3) fun u G4 h4 => k_cmp h4) h3
  | .and_ a b, s, G, h => KR.bind (k_eval hk hcl a s G h) fun x G1 h1 => KR.bl fun t => KR.ite (k_eval hk hcl b s G1 h1) h1
  | .or_ a b, s, G, h => KR.bind (k_eval hk hcl a s G h) fun x G1 h1 => KR.bl fun t => KR.ite h1 (k_eval hk hcl b s G1 h1)
  | .not_ a, s, G, h => KR.bind (k_eval hk hcl a s G h) fun x G1 h1 => KR.bl fun t => h1
  | .ite t a b, s, G, h => KR.bind (k_eval hk hcl t s G h) fun x G1 h1 => KR.bl fun t => KR.ite (k_eval hk hcl a s G1 h1) (k_eval hk hcl b s G1 h1)
  | .tup l, s, G, h => k_evals hk hcl l s G h
  | .lst w l, s, G, h => KR.bind (k_evals hk hcl l s G h) fun x G1 h1 => KR.tup fun ds => k_mkl h1
  | .ix a i, s, G, h => KR.bind (k_eval hk hcl a s G h) fun x G1 h1 => KR.bind (k_eval hk hcl i s G1 h1) fun y G2 h2 => k_ix h2
  | .sl w a lo hi, s, G, h => KR.bind (k_eval hk hcl a s G h) fun x G1 h1 => KR.bind (k_eval hk hcl lo s G1 h1) fun l G2 h2 => KR.opt fun _ => KR.bind (k_eval hk hcl hi s G2 h2) fun u G3 h3 => k_sl h3
  | .rev w a, s, G, h => KR.bind (k_eval hk hcl a s G h) fun x G1 h1 => k_rev h1
  | .call f l, s, G, h => KR.bind (k_evals hk hcl l s G h) fun x G1 h1 => KR.tup fun ds => hcl _ _ _ _ hk h1
  | .meth f c o l, s, G, h => KR.bind (k_eval hk hcl o s G h) fun y G1 h1 => KR.ite (KR.bind (k_evals hk hcl l s G1 h1) fun x G2 h2 => KR.tup fun ds => hcl _ _ _ _ hk h2) trivial
  | .new w c f l, s, G, h => KR.bind (k_evals hk hcl l s G h) fun x G1 h1 => KR.tup fun ds => KR.bind (hcl _ _ _ _ (by cases w; exact List.mem_cons_of_mem _ hk; exact hk) (h1.app _)) fun r G2 h2 => KR.ite (k_made h2 h1.1) trivial
  | .fld c j a, s, G, h => KR.bind (k_eval hk hcl a s G h) fun x G1 h1 => KR.opt fun d => h1
  | .bi b w l, s, G, h => KR.bind (k_evals hk hcl l s G h) fun x G1 h1 => KR.tup fun ds => k_bi h1
  | .mt b w o l, s, G, h => KR.bind (k_eval hk hcl o s G h) fun y G1 h1 => KR.ite (KR.bind (k_evals hk hcl l s G1 h1) fun x G2 h2 => KR.tup fun ds => k_mt hk h2) trivial
  | .isi ts a, s, G, h => KR.bind (k_eval hk hcl a s G h) fun x G1 h1 => KR.ite h1 trivial
  | .key2 mx f a b, s, G, h => KR.bind (k_eval hk hcl a s G h) fun x G1 h1 => KR.bind (k_eval hk hcl b s G1 h1) fun y G2 h2 => KR.bind (k_safe (hcl _ _ _ _ hk h2)) fun u G3 h3 => KR.bind (k_safe (hcl _ _ _ _ hk h3)) fun l G4 h4 => KR.opt fun t => h4
  | .skey w f a, s, G, h => KR.bind (k_eval hk hcl a s G h) fun x G1 h1 => KR.opt fun ds => k_keys (fun d G h => hcl _ _ _ _ hk h) (fun is G h => k_mkl h) ds [] G1 h1
  | .dnew t, s, G, h => k_dnew h
  | .dlit l, s, G, h => KR.opt fun ps => by
      unfold dlitD
      split
      · exact h.app _
      · trivial
  | .comp w k' own pt one it cond elt, s, G, h => KR.bind (k_evals hk hcl it s G h) fun x G1 h1 => KR.tup fun ds => KR.opt fun xg => KR.ite (k_safe (k_comp (fun x G h => KR.opt fun s' => KR.bind (k_eval hk hcl cond s' G h) fun c G2 h2 => KR.bl fun t =>
      KR.ite (KR.bind (k_eval hk hcl elt s' G2 h2) fun y G3 h3 => (show KR k (.ok (.tup [y]) G3) from h3)) (show KR k (.ok .non G2) from h2)) (fun acc G h => k_mkl h) _ _ _ h1)) trivial
theorem k_evals (hk : k ∈ m) (hcl : ∀ m' f args G, k ∈ m' → WF k G → KR k (cl m' f args G)) : ∀ (l : Ls) (s : Env) (G : Hp), WF k G → KR k (evals cl gl m l s G)
  | .nil, s, G, h => h
  | .cons a l, s, G, h => KR.bind (k_eval hk hcl a s G h) fun x G1 h1 => KR.bind (k_evals hk hcl l s G1 h1) fun xs G2 h2 => KR.tup fun ds => h2
end
theorem k_putP (hk : k ∈ m) (hcl : ∀ m' f args G, k ∈ m' → WF k G → KR k (cl m' f args G)) (p : P) (v : D) (s : Env) (G : Hp) (h : WF k G) : KO k (putP cl gl m p v s G) := by
  cases p with
  | nm i => exact h
  | sb o i => exact KO.st (t := .mk) (k_eval hk hcl o s G h) fun x G1 h1 => KO.st (t := .mk) (k_eval hk hcl i s G1 h1) fun y G2 h2 => k_putV hk h2
  | fld c j o => exact KO.st (t := .mk) (k_eval hk hcl o s G h) fun x G1 h1 => k_putF hk h1
theorem k_putPs (hk : k ∈ m) (hcl : ∀ m' f args G, k ∈ m' → WF k G → KR k (cl m' f args G)) : ∀ (ps : List P) (vs : List D) (s : Env) (G : Hp), WF k G → KO k (putPs cl gl m ps vs s G)
  | [], [], s, G, h => h
  | p :: ps, v :: vs, s, G, h => KO.then (k_putP hk hcl p v s G h) fun s1 G1 h1 => k_putPs hk hcl ps vs s1 G1 h1
  | [], _ :: _, s, G, h => trivial
  | _ :: _, [], s, G, h => trivial
theorem k_for {pt : List Nat} {one : Bool} {step : Env → Hp → O} {g : Option (Nat × Cell)} (hs : ∀ s G, WF k G → KO k (step s G)) : ∀ (xs : List D) (s : Env) (G : Hp), WF k G → KO k (forF pt one step g xs s G)
  | [], s, G, h => KO.ite h trivial
  | x :: xs, s, G, h => KO.ite (KO.opt fun s' => KO.turn (hs s' G h) fun s1 G1 h1 => k_for hs xs s1 G1 h1) trivial
theorem k_whl {test : Env → Hp → R} {step : Env → Hp → O} (ht : ∀ s G, WF k G → KR k (test s G)) (hs : ∀ s G, WF k G → KO k (step s G)) : ∀ (n : Nat) (s : Env) (G : Hp), WF k G → KO k (whlF test step n s G)
  | 0, s, G, h => trivial
  | n + 1, s, G, h => KO.st (ht s G h) fun c G1 h1 => KO.bl fun t => KO.ite (KO.turn (hs s G1 h1) fun s1 G2 h2 => k_whl ht hs n s1 G2 h2) h1
theorem k_exec (hk : k ∈ m) (hcl : ∀ m' f args G, k ∈ m' → WF k G → KR k (cl m' f args G)) : ∀ (a : M) (s : Env) (G : Hp), WF k G → KO k (exec cl gl m a s G)
  | .pass, s, G, h => h
  | .seq a b, s, G, h => KO.then (k_exec hk hcl a s G h) fun s1 G1 h1 => k_exec hk hcl b s1 G1 h1
  | .ex l, s, G, h => KO.st (k_eval hk hcl l s G h) fun _ G1 h1 => h1
  | .set i l, s, G, h => KO.st (k_eval hk hcl l s G h) fun _ G1 h1 => h1
  | .asg ps l, s, G, h => KO.st (k_eval hk hcl l s G h) fun v G1 h1 => KO.opt fun ds => KO.ite (k_putPs hk hcl ps ds s G1 h1) trivial
  | .put p l, s, G, h => KO.st (k_eval hk hcl l s G h) fun v G1 h1 => k_putP hk hcl p v s G1 h1
  | .par is l, s, G, h => KO.st (k_evals hk hcl l s G h) fun x G1 h1 => KO.tup fun ds => KO.ite h1 trivial
  | .ite t a b, s, G, h => KO.st (k_eval hk hcl t s G h) fun c G1 h1 => KO.bl fun t => KO.ite (k_exec hk hcl a s G1 h1) (k_exec hk hcl b s G1 h1)
  | .for k' pt one it b, s, G, h => KO.st (k_evals hk hcl it s G h) fun x G1 h1 => KO.tup fun ds => KO.opt fun xg => k_for (fun s G h => k_exec hk hcl b s G h) _ _ _ h1
  | .while n t b, s, G, h => k_whl (fun s G h => k_eval hk hcl t s G h) (fun s G h => k_exec hk hcl b s G h) n s G h
  | .ret l, s, G, h => KO.st (k_eval hk hcl l s G h) fun v G1 h1 => h1
  | .retN, s, G, h => h
  | .raise c, s, G, h => h
  | .brk, s, G, h => h
  | .cnt, s, G, h => h
  | .try_ b, s, G, h => by
    have q := k_exec hk hcl b s G h
    show KO k (exec cl gl m b s G).thru
    cases e : exec cl gl m b s G <;> rw [e] at q <;> first | exact q | trivial
  | .tryc b ks os n hs, s, G, h => by
    have q := k_exec hk hcl b s G h
    show KO k ((exec cl gl m b s G).catch _)
    cases e : exec cl gl m b s G with
    | exc c s1 G1 =>
      rw [e] at q
      show KO k (iteK (decide (c ∈ ks)) (fun _ => (exec cl gl m (hs c) (wipeO n s1) G1).clr n) (fun _ => iteK (decide (c ∈ os)) (fun _ => .exc c s1 G1) fun _ => .bad))
      cases decide (c ∈ ks) with
      | false =>
        show KO k (iteK (decide (c ∈ os)) (fun _ => .exc c s1 G1) fun _ => .bad)
        cases decide (c ∈ os) with
        | false => trivial
        | true => exact q
      | true =>
        have q2 := k_exec hk hcl (hs c) (wipeO n s1) G1 q
        show KO k ((exec cl gl m (hs c) (wipeO n s1) G1).clr n)
        cases e2 : exec cl gl m (hs c) (wipeO n s1) G1 <;> rw [e2] at q2 <;> first | exact q2 | trivial
    | _ => rw [e] at q; exact q
theorem k_leave {trn frz : Bool} {n : Nat} {v : D} (h : WF k G) (hn : k ≤ n) : KR k (leave trn frz n v G) := by
  unfold leave
  cases trn
  · exact h
  · cases frz
    · show KR k (if below n v = true then _ else _)
      split
      · exact h.take hn
      · exact h
    · show KR k (if below n (frzD G n v) = true then _ else _)
      split
      · exact h.take hn
      · exact h
theorem k_run (hk : k ∈ m) (hcl : ∀ m' f args G, k ∈ m' → WF k G → KR k (cl m' f args G)) (f : Fn) (args : List D) (G : Hp) (h : WF k G) : KR k (run cl gl m f args G) := by
  unfold run
  split
  · have hm : k ∈ (if f.trn then G.length :: m else m) := by
      cases f.trn
      · exact hk
      · exact List.mem_cons_of_mem _ hk
    have q := k_exec (gl := gl) hm hcl f.body (args.map some ++ List.replicate (f.ns - f.np) none) G h
    cases e : exec cl gl (if f.trn then G.length :: m else m) f.body (args.map some ++ List.replicate (f.ns - f.np) none) G with
    | nx s G' => rw [e] at q; exact k_leave q h.1
    | ret v G' => rw [e] at q; exact k_leave q h.1
    | exc c s G' =>
      rw [e] at q
      unfold fin
      dsimp only
      cases f.trn
      · exact q
      · exact WF.take q h.1
    | _ => trivial
  · trivial
theorem k_call {T : Nat → Option Fn} : ∀ (n : Nat) (m : List Nat) (f : Nat) (args : List D) (G : Hp), k ∈ m → WF k G → KR k (call T gl n m f args G)
  | 0, _, _, _, _, _, _ => trivial
  | n + 1, m, f, args, G, hk, h => KR.opt fun fn => k_run hk (fun m' f' a' G' h1 h2 => k_call n m' f' a' G' h1 h2) fn args G h
end
end PK
namespace PKS
open PySem PySem.Spec PyProof.Rows L2

abbrev Cells := PK.Hp
abbrev Nm := Nat → Addr
def TupAt (K : PySem.W.Frag) (H : Hp) (ds : List PK.D) (a : Addr) (vs : List V) : Prop := H a = some (.tup vs) ∨ (SqT K H a vs ∧ PK.keysD ds = none)
theorem TupAt.sq {K : PySem.W.Frag} {H : Hp} {ds : List PK.D} {a : Addr} {vs : List V} (h : TupAt K H ds a vs) : SqT K H a vs := by
  rcases h with h | h
  · exact .inl (.inl h)
  · exact h.1
def Off (lk : Lk) (ρ : Nm) (n : Nat) (a : Addr) : Prop := (∀ i, i < n → ρ i ≠ a) ∧ ¬ lk.Z a
section
variable (K : PySem.W.Frag) (lk : Lk)
mutual
def Rep (ρ : Nm) (n : Nat) (H : Hp) : PK.D → V → Prop
  | .non, v => v = .non
  | .bl b, v => v = .bl b
  | .int i, v => v = .int i
  | .str s, v => v = .str s
  | .tup ds, v => ∃ a vs, v = .ref a ∧ TupAt K H ds a vs ∧ Reps ρ n H ds vs
  | .lst ds, v => ∃ a vs, v = .ref a ∧ H a = some (.lst vs) ∧ Off lk ρ n a ∧ Reps ρ n H ds vs
  | .fz ds, v => ∃ a vs, v = .ref a ∧ ((∃ o, H a = some (.frz o (.lst vs))) ∨ ∃ (o : Obj) (its : Array Value) (n : Nat), K.lookup a = some o ∧ o.cls = .type "list" ∧ o.dict = none ∧ o.data = .seq its n ∧ its.size ≤ sizeLine ∧ Vals vs its.toList) ∧ Reps ρ n H ds vs
  | .ref i, v => i < n ∧ v = .ref (ρ i)
  | .ins c ds, v => ∃ a dx fs vs, v = .ref a ∧ H a = some (.ins (lk.CA c) dx fs) ∧ Off lk ρ n a ∧ fs = (lk.FN c).zip vs ∧ vs.length ≤ (lk.FN c).length ∧ Reps ρ n H ds vs
  | .exc _, _ => False
def Reps (ρ : Nm) (n : Nat) (H : Hp) : List PK.D → List V → Prop
  | [], vs => vs = []
  | d :: ds, vs => ∃ x xs, vs = x :: xs ∧ Rep ρ n H d x ∧ Reps ρ n H ds xs
end
def RepK {κ : Type} (ρ : Nm) (n : Nat) (H : Hp) (kvs : List (κ × PK.D)) (zs : List (κ × V)) : Prop := zs.map (·.1) = kvs.map (·.1) ∧ Reps K lk ρ n H (kvs.map (·.2)) (zs.map (·.2))
def RepC (ρ : Nm) (n : Nat) (H : Hp) : PK.Cell → HO → Prop
  | .lst ds, o => ∃ vs, o = .lst vs ∧ Reps K lk ρ n H ds vs
  | .dK kvs, o => ∃ zs, o = .dK zs ∧ RepK K lk ρ n H kvs zs
  | .dT kvs, o => ∃ zs, o = .dT zs ∧ RepK K lk ρ n H kvs zs
  | .ins c ds, o => ∃ dx fs vs, o = .ins (lk.CA c) dx fs ∧ fs = (lk.FN c).zip vs ∧ vs.length ≤ (lk.FN c).length ∧ Reps K lk ρ n H ds vs
structure Rel (ρ : Nm) (G : Cells) (H : Hp) : Prop where
  cell : ∀ i c, G[i]? = some c → ∃ o, H (ρ i) = some o ∧ RepC K lk ρ G.length H c o
  inj : ∀ i j, i < G.length → j < G.length → ρ i = ρ j → i = j
  zs : ∀ a, lk.Z a → H a ≠ none
  zc : ∀ i, i < G.length → ¬ lk.Z (ρ i)
structure REnv (ρ : Nm) (n : Nat) (H : Hp) (s : PK.Env) (σ : L2.St) : Prop where
  len : s.length = σ.length
  at_ : ∀ (i : Nat) d, s[i]? = some (some d) → ∃ v, σ[i]? = some (some v) ∧ Rep K lk ρ n H d v
end
structure Ext (ρ : Nm) (n : Nat) (H : Hp) (ρ' : Nm) (n' : Nat) (H' : Hp) : Prop where
  le : n ≤ n'
  agr : ∀ i, i < n → ρ' i = ρ i
  pres : ∀ a o, H a = some o → (∀ i, i < n → ρ i ≠ a) → H' a = some o
  tups : ∀ a xs, H a = some (.tup xs) → H' a = some (.tup xs)
  frzs : ∀ a o u, H a = some (.frz o u) → H' a = some (.frz o u)
  keep : ∀ a, H' a = none → H a = none
  new : ∀ i, n ≤ i → i < n' → H (ρ' i) = none
section
variable {ρ ρ' ρ1 ρ2 : Nm} {n n' n1 n2 m : Nat} {H H' H1 H2 : Hp} {p : Addr} {o : HO}
theorem Ext.refl : Ext ρ n H ρ n H := ⟨Nat.le_refl _, fun _ _ => rfl, fun _ _ h _ => h, fun _ _ h => h, fun _ _ _ h => h, fun _ h => h, fun i h1 h2 => absurd h2 (by omega)⟩
theorem Ext.trans (a : Ext ρ n H ρ1 n1 H1) (b : Ext ρ1 n1 H1 ρ2 n2 H2) : Ext ρ n H ρ2 n2 H2 where
  le := Nat.le_trans a.le b.le
  agr := fun i h => (b.agr i (Nat.lt_of_lt_of_le h a.le)).trans (a.agr i h)
  pres := fun c o h hc => b.pres c o (a.pres c o h hc) fun i hi => by
    by_cases q : i < n
    · rw [a.agr i q]; exact hc i q
    · intro e
      have := a.new i (by omega) hi
      rw [e, h] at this; cases this
  tups := fun c xs h => b.tups c xs (a.tups c xs h)
  frzs := fun c o u h => b.frzs c o u (a.frzs c o u h)
  keep := fun c h => a.keep c (b.keep c h)
  new := fun i h1 h2 => by
    by_cases q : i < n1
    · rw [b.agr i q]; exact a.new i h1 q
    · exact a.keep _ (b.new i (by omega) h2)
theorem Ext.cut (a : Ext ρ n H ρ1 n1 H1) (h1 : n ≤ m) (h2 : m ≤ n1) : Ext ρ n H ρ1 m H1 := ⟨h1, a.agr, a.pres, a.tups, a.frzs, a.keep, fun i q1 q2 => a.new i q1 (by omega)⟩
theorem Ext.laid (h : H p = none) : Ext ρ n H ρ n (upd H p o) where
  le := Nat.le_refl _
  agr := fun _ _ => rfl
  pres := fun a u e _ => by rw [upd_ne (ne_of_none e h)]; exact e
  tups := fun a u e => by rw [upd_ne (ne_of_none e h)]; exact e
  frzs := fun a u v e => by rw [upd_ne (ne_of_none e h)]; exact e
  keep := fun a e => by
    by_cases q : a = p
    · rw [q]; exact h
    · rw [upd_ne q] at e; exact e
  new := fun i h1 h2 => absurd h2 (by omega)
def nset (ρ : Nm) (n : Nat) (p : Addr) : Nm := fun i => if i = n then p else ρ i
theorem nset_same : nset ρ n p n = p := by unfold nset; rw [if_pos rfl]
theorem nset_ne {i : Nat} (h : i ≠ n) : nset ρ n p i = ρ i := by unfold nset; rw [if_neg h]
theorem Ext.celled (h : H p = none) : Ext ρ n H (nset ρ n p) (n + 1) (upd H p o) where
  le := Nat.le_succ _
  agr := fun i h => nset_ne (by omega)
  pres := fun a u e _ => by rw [upd_ne (ne_of_none e h)]; exact e
  tups := fun a u e => by rw [upd_ne (ne_of_none e h)]; exact e
  frzs := fun a u v e => by rw [upd_ne (ne_of_none e h)]; exact e
  keep := fun a e => by
    by_cases q : a = p
    · rw [q]; exact h
    · rw [upd_ne q] at e; exact e
  new := fun i h1 h2 => by
    have : i = n := by omega
    rw [this, nset_same]; exact h
theorem Ext.written {i : Nat} {u : HO} (hi : i < n) (h : H (ρ i) = some u) (ht : ∀ xs, u ≠ .tup xs) (hf : ∀ a b, u ≠ .frz a b) : Ext ρ n H ρ n (upd H (ρ i) o) where
  le := Nat.le_refl _
  agr := fun _ _ => rfl
  pres := fun a v e na => by rw [upd_ne (na i hi).symm]; exact e
  tups := fun a xs e => by
    rw [upd_ne]; exact e
    intro q; rw [q, h] at e; cases e; exact ht xs rfl
  frzs := fun a v w e => by
    rw [upd_ne]; exact e
    intro q; rw [q, h] at e; cases e; exact hf v w rfl
  keep := fun a e => by
    by_cases q : a = ρ i
    · rw [q, upd_same] at e; cases e
    · rw [upd_ne q] at e; exact e
  new := fun i h1 h2 => absurd h2 (by omega)
end
section
variable {K : PySem.W.Frag} {lk : Lk} {ρ ρ' ρ1 ρ2 : Nm} {n n' n1 n2 m : Nat} {H H' H1 H2 : Hp} {p : Addr} {o : HO} {G : Cells}
theorem SqT.ext {a : Addr} {vs : List V} (e : Ext ρ n H ρ' n' H') (h : SqT K H a vs) : SqT K H' a vs := by
  rcases h with (h | ⟨o, h⟩) | h
  · exact .inl (.inl (e.tups _ _ h))
  · exact .inl (.inr ⟨o, e.frzs _ _ _ h⟩)
  · exact .inr h
theorem notcell {a : Addr} {u : HO} (e : Ext ρ n H ρ' n' H') (h : H a = some u) (na : Off lk ρ n a) : Off lk ρ' n' a := by
  refine ⟨fun i hi q => ?_, na.2⟩
  by_cases z : i < n
  · rw [e.agr i z] at q; exact na.1 i z q
  · have := e.new i (by omega) hi
    rw [q, h] at this; cases this
mutual
theorem Rep.ext (e : Ext ρ n H ρ' n' H') : ∀ (d : PK.D) (v : V), Rep K lk ρ n H d v → Rep K lk ρ' n' H' d v
  | .non, _, h => h
  | .bl _, _, h => h
  | .int _, _, h => h
  | .str _, _, h => h
  | .tup ds, v, h => by
    obtain ⟨a, vs, h1, h2, h3⟩ := h
    refine ⟨a, vs, h1, ?_, Reps.ext e ds vs h3⟩
    rcases h2 with h2 | h2
    · exact .inl (e.tups _ _ h2)
    · exact .inr ⟨SqT.ext e h2.1, h2.2⟩
  | .lst ds, v, h => by
    obtain ⟨a, vs, h1, h2, h3, h4⟩ := h
    exact ⟨a, vs, h1, e.pres _ _ h2 h3.1, notcell e h2 h3, Reps.ext e ds vs h4⟩
  | .fz ds, v, h => by
    obtain ⟨a, vs, h1, h2, h3⟩ := h
    refine ⟨a, vs, h1, ?_, Reps.ext e ds vs h3⟩
    rcases h2 with ⟨o, h2⟩ | h2
    · exact .inl ⟨o, e.frzs _ _ _ h2⟩
    · exact .inr h2
  | .ref i, v, h => by
    obtain ⟨h1, h2⟩ := h
    exact ⟨Nat.lt_of_lt_of_le h1 e.le, by rw [e.agr i h1]; exact h2⟩
  | .ins c ds, v, h => by
    obtain ⟨a, dx, fs, vs, h1, h2, h3, h4, h5, h6⟩ := h
    exact ⟨a, dx, fs, vs, h1, e.pres _ _ h2 h3.1, notcell e h2 h3, h4, h5, Reps.ext e ds vs h6⟩
  | .exc _, _, h => h
theorem Reps.ext (e : Ext ρ n H ρ' n' H') : ∀ (ds : List PK.D) (vs : List V), Reps K lk ρ n H ds vs → Reps K lk ρ' n' H' ds vs
  | [], _, h => h
  | d :: ds, vs, h => by
    obtain ⟨x, xs, h1, h2, h3⟩ := h
    exact ⟨x, xs, h1, Rep.ext e d x h2, Reps.ext e ds xs h3⟩
end
mutual
theorem Rep.cut (hm : m ≤ n) : ∀ (d : PK.D) (v : V), PK.below m d = true → Rep K lk ρ n H d v → Rep K lk ρ m H d v
  | .non, _, _, h => h
  | .bl _, _, _, h => h
  | .int _, _, _, h => h
  | .str _, _, _, h => h
  | .tup ds, v, b, h => by
    obtain ⟨a, vs, h1, h2, h3⟩ := h
    exact ⟨a, vs, h1, h2, Reps.cut hm ds vs b h3⟩
  | .lst ds, v, b, h => by
    obtain ⟨a, vs, h1, h2, h3, h4⟩ := h
    exact ⟨a, vs, h1, h2, ⟨fun i hi => h3.1 i (Nat.lt_of_lt_of_le hi hm), h3.2⟩, Reps.cut hm ds vs b h4⟩
  | .fz ds, v, b, h => by
    obtain ⟨a, vs, h1, h2, h3⟩ := h
    exact ⟨a, vs, h1, h2, Reps.cut hm ds vs b h3⟩
  | .ref i, v, b, h => ⟨of_decide_eq_true b, h.2⟩
  | .ins c ds, v, b, h => by
    obtain ⟨a, dx, fs, vs, h1, h2, h3, h4, h5, h6⟩ := h
    exact ⟨a, dx, fs, vs, h1, h2, ⟨fun i hi => h3.1 i (Nat.lt_of_lt_of_le hi hm), h3.2⟩, h4, h5, Reps.cut hm ds vs b h6⟩
  | .exc _, _, _, h => h
theorem Reps.cut (hm : m ≤ n) : ∀ (ds : List PK.D) (vs : List V), PK.belows m ds = true → Reps K lk ρ n H ds vs → Reps K lk ρ m H ds vs
  | [], _, _, h => h
  | d :: ds, vs, b, h => by
    obtain ⟨x, xs, h1, h2, h3⟩ := h
    obtain ⟨b1, b2⟩ := Bool.and_eq_true_iff.mp b
    exact ⟨x, xs, h1, Rep.cut hm d x b1 h2, Reps.cut hm ds xs b2 h3⟩
end
mutual
theorem Rep.below : ∀ (d : PK.D) (v : V), Rep K lk ρ n H d v → PK.below n d = true
  | .non, _, _ => rfl
  | .bl _, _, _ => rfl
  | .int _, _, _ => rfl
  | .str _, _, _ => rfl
  | .tup ds, v, h => by
    obtain ⟨a, vs, h1, h2, h3⟩ := h
    exact Reps.below ds vs h3
  | .lst ds, v, h => by
    obtain ⟨a, vs, h1, h2, h3, h4⟩ := h
    exact Reps.below ds vs h4
  | .fz ds, v, h => by
    obtain ⟨a, vs, h1, h2, h3⟩ := h
    exact Reps.below ds vs h3
  | .ref i, v, h => decide_eq_true h.1
  | .ins c ds, v, h => by
    obtain ⟨a, dx, fs, vs, h1, h2, h3, h4, h5, h6⟩ := h
    exact Reps.below ds vs h6
  | .exc _, _, h => rfl
theorem Reps.below : ∀ (ds : List PK.D) (vs : List V), Reps K lk ρ n H ds vs → PK.belows n ds = true
  | [], _, _ => rfl
  | d :: ds, vs, h => by
    obtain ⟨x, xs, h1, h2, h3⟩ := h
    show (PK.below n d && PK.belows n ds) = true
    rw [Rep.below d x h2, Reps.below ds xs h3]; rfl
end
theorem Reps.length : ∀ {ds : List PK.D} {vs : List V}, Reps K lk ρ n H ds vs → ds.length = vs.length
  | [], vs, h => by rw [show vs = [] from h]; rfl
  | d :: ds, vs, h => by
    obtain ⟨x, xs, h1, h2, h3⟩ := h
    rw [h1, List.length_cons, List.length_cons, Reps.length h3]
theorem Reps.get : ∀ {ds : List PK.D} {vs : List V} {i : Nat} {d : PK.D}, Reps K lk ρ n H ds vs → ds[i]? = some d → ∃ v, vs[i]? = some v ∧ Rep K lk ρ n H d v
  | [], vs, i, d, h, e => by simp at e
  | d :: ds, vs, 0, d', h, e => by
    obtain ⟨x, xs, h1, h2, h3⟩ := h
    simp at e; subst e
    exact ⟨x, by rw [h1]; rfl, h2⟩
  | d :: ds, vs, i + 1, d', h, e => by
    obtain ⟨x, xs, h1, h2, h3⟩ := h
    obtain ⟨v, q1, q2⟩ := Reps.get (i := i) h3 (by simpa using e)
    exact ⟨v, by rw [h1]; simpa using q1, q2⟩
theorem Reps.append : ∀ {ds es : List PK.D} {vs ws : List V}, Reps K lk ρ n H ds vs → Reps K lk ρ n H es ws → Reps K lk ρ n H (ds ++ es) (vs ++ ws)
  | [], es, vs, ws, h, q => by rw [show vs = [] from h]; exact q
  | d :: ds, es, vs, ws, h, q => by
    obtain ⟨x, xs, h1, h2, h3⟩ := h
    rw [h1]
    exact ⟨x, xs ++ ws, rfl, h2, Reps.append h3 q⟩
theorem Reps.one {d : PK.D} {v : V} (h : Rep K lk ρ n H d v) : Reps K lk ρ n H [d] [v] := ⟨v, [], rfl, h, rfl⟩
theorem Reps.set : ∀ {ds : List PK.D} {vs : List V} {i : Nat} {d : PK.D} {v : V}, Reps K lk ρ n H ds vs → Rep K lk ρ n H d v → Reps K lk ρ n H (ds.set i d) (vs.set i v)
  | [], vs, i, d, v, h, q => by rw [show vs = [] from h]; rfl
  | d :: ds, vs, 0, d', v, h, q => by
    obtain ⟨x, xs, h1, h2, h3⟩ := h
    rw [h1]; exact ⟨v, xs, rfl, q, h3⟩
  | d :: ds, vs, i + 1, d', v, h, q => by
    obtain ⟨x, xs, h1, h2, h3⟩ := h
    rw [h1]; exact ⟨x, xs.set i v, rfl, h2, Reps.set h3 q⟩
theorem Reps.drop : ∀ {ds : List PK.D} {vs : List V} (i : Nat), Reps K lk ρ n H ds vs → Reps K lk ρ n H (ds.drop i) (vs.drop i)
  | _, _, 0, h => by simpa using h
  | [], vs, i + 1, h => by rw [show vs = [] from h]; rfl
  | d :: ds, vs, i + 1, h => by
    obtain ⟨x, xs, h1, h2, h3⟩ := h
    rw [h1]; exact Reps.drop i h3
theorem Reps.take : ∀ {ds : List PK.D} {vs : List V} (i : Nat), Reps K lk ρ n H ds vs → Reps K lk ρ n H (ds.take i) (vs.take i)
  | ds, vs, 0, h => by simp only [List.take_zero]; rfl
  | [], vs, i + 1, h => by rw [show vs = [] from h]; rfl
  | d :: ds, vs, i + 1, h => by
    obtain ⟨x, xs, h1, h2, h3⟩ := h
    rw [h1]; exact ⟨x, xs.take i, rfl, h2, Reps.take i h3⟩
theorem Reps.reverse : ∀ {ds : List PK.D} {vs : List V}, Reps K lk ρ n H ds vs → Reps K lk ρ n H ds.reverse vs.reverse
  | [], vs, h => by rw [show vs = [] from h]; rfl
  | d :: ds, vs, h => by
    obtain ⟨x, xs, h1, h2, h3⟩ := h
    rw [h1, List.reverse_cons, List.reverse_cons]
    exact (Reps.reverse h3).append (Reps.one h2)
theorem Reps.flatten_replicate {ds : List PK.D} {vs : List V} (h : Reps K lk ρ n H ds vs) : ∀ k : Nat, Reps K lk ρ n H (List.replicate k ds).flatten (List.replicate k vs).flatten
  | 0 => rfl
  | k + 1 => by
    rw [List.replicate_succ, List.replicate_succ, List.flatten_cons, List.flatten_cons]
    exact h.append (Reps.flatten_replicate h k)
theorem RepK.ext {κ : Type} {kvs : List (κ × PK.D)} {zs : List (κ × V)} (e : Ext ρ n H ρ' n' H') (h : RepK K lk ρ n H kvs zs) : RepK K lk ρ' n' H' kvs zs := ⟨h.1, Reps.ext e _ _ h.2⟩
theorem RepC.ext {c : PK.Cell} {o : HO} (e : Ext ρ n H ρ' n' H') (h : RepC K lk ρ n H c o) : RepC K lk ρ' n' H' c o := by
  cases c with
  | lst ds => obtain ⟨vs, h1, h2⟩ := h; exact ⟨vs, h1, Reps.ext e _ _ h2⟩
  | dK kvs => obtain ⟨vs, h1, h2⟩ := h; exact ⟨vs, h1, h2.ext e⟩
  | dT kvs => obtain ⟨vs, h1, h2⟩ := h; exact ⟨vs, h1, h2.ext e⟩
  | ins c ds => obtain ⟨dx, fs, vs, h1, h2, h3, h4⟩ := h; exact ⟨dx, fs, vs, h1, h2, h3, Reps.ext e _ _ h4⟩
theorem RepC.nt {c : PK.Cell} {o : HO} (h : RepC K lk ρ n H c o) : (∀ xs, o ≠ .tup xs) ∧ ∀ a b, o ≠ .frz a b := by
  cases c with
  | lst ds => obtain ⟨vs, rfl, h2⟩ := h; exact ⟨fun _ z => (nomatch z), fun _ _ z => (nomatch z)⟩
  | dK kvs => obtain ⟨vs, rfl, h2⟩ := h; exact ⟨fun _ z => (nomatch z), fun _ _ z => (nomatch z)⟩
  | dT kvs => obtain ⟨vs, rfl, h2⟩ := h; exact ⟨fun _ z => (nomatch z), fun _ _ z => (nomatch z)⟩
  | ins c ds => obtain ⟨dx, fs, vs, rfl, h2, h3⟩ := h; exact ⟨fun _ z => (nomatch z), fun _ _ z => (nomatch z)⟩
theorem REnv.ext {s : PK.Env} {σ : L2.St} (e : Ext ρ n H ρ' n' H') (h : REnv K lk ρ n H s σ) : REnv K lk ρ' n' H' s σ := ⟨h.len, fun i d q => by
  obtain ⟨v, h1, h2⟩ := h.at_ i d q
  exact ⟨v, h1, Rep.ext e _ _ h2⟩⟩
theorem REnv.set {s : PK.Env} {σ : L2.St} {i : Nat} {d : PK.D} {v : V} (h : REnv K lk ρ n H s σ) (r : Rep K lk ρ n H d v) : REnv K lk ρ n H (PK.seti s i d) (σ.set i (some v)) := ⟨by simp [PK.seti, h.len], fun j e q => by
  unfold PK.seti at q
  by_cases z : i = j
  · subst z
    by_cases y : i < s.length
    · rw [List.getElem?_set_self y] at q
      cases q
      exact ⟨v, by rw [List.getElem?_set_self (by rw [← h.len]; exact y)], r⟩
    · rw [List.getElem?_eq_none (by simpa using y)] at q; cases q
  · rw [List.getElem?_set_ne z] at q ⊢
    exact h.at_ j e q⟩
theorem upd_some {H : Hp} {a p : Addr} {o : HO} (h : H a ≠ none) : upd H p o a ≠ none := by
  by_cases q : a = p
  · rw [q, upd_same]; exact fun z => nomatch z
  · rw [upd_ne q]; exact h
theorem Rel.other (r : Rel K lk ρ G H) (h : H p = none) : Rel K lk ρ G (upd H p o) := ⟨fun i c q => by
  obtain ⟨u, h1, h2⟩ := r.cell i c q
  exact ⟨u, by rw [upd_ne (ne_of_none h1 h)]; exact h1, h2.ext (Ext.laid h)⟩, r.inj, fun a z => upd_some (r.zs a z), r.zc⟩
theorem Rel.laid {c : PK.Cell} (r : Rel K lk ρ G H) (h : H p = none) (rc : RepC K lk ρ G.length H c o) : Rel K lk (nset ρ G.length p) (G ++ [c]) (upd H p o) := by
  have ex : Ext ρ G.length H (nset ρ G.length p) (G ++ [c]).length (upd H p o) := by rw [List.length_append]; exact Ext.celled h
  refine ⟨fun i d q => ?_, fun i j hi hj e => ?_, fun a z => upd_some (r.zs a z), fun i hi z => ?_⟩
  rotate_right
  · rw [List.length_append] at hi
    by_cases c : i < G.length
    · rw [nset_ne (by omega)] at z; exact r.zc i c z
    · have : i = G.length := by simp at hi; omega
      rw [this, nset_same] at z; exact r.zs p z h
  · by_cases z : i < G.length
    · rw [List.getElem?_append_left z] at q
      obtain ⟨u, h1, h2⟩ := r.cell i d q
      exact ⟨u, by rw [nset_ne (by omega), upd_ne (ne_of_none h1 h)]; exact h1, h2.ext ex⟩
    · have hi : i < (G ++ [c]).length := (List.getElem?_eq_some_iff.mp q).1
      rw [List.length_append] at hi
      have hi : i = G.length := by simp at hi; omega
      subst hi
      rw [List.getElem?_append_right (Nat.le_refl _), Nat.sub_self] at q
      cases q
      exact ⟨o, by rw [nset_same, upd_same], rc.ext ex⟩
  · have lt : ∀ k, k < G.length → ρ k ≠ p := fun k hk z => by
      obtain ⟨u, h1, _⟩ := r.cell k G[k] (by simp [hk])
      rw [z, h] at h1; cases h1
    rw [List.length_append] at hi hj
    simp at hi hj
    by_cases z : i = G.length
    · by_cases y : j = G.length
      · omega
      · rw [z, nset_same, nset_ne y] at e
        exact absurd e.symm (lt j (by omega))
    · by_cases y : j = G.length
      · rw [y, nset_same, nset_ne z] at e
        exact absurd e (lt i (by omega))
      · rw [nset_ne z, nset_ne y] at e
        exact r.inj i j (by omega) (by omega) e
theorem Rel.at_ {i : Nat} {c : PK.Cell} (r : Rel K lk ρ G H) (q : G[i]? = some c) : i < G.length ∧ ∃ u, H (ρ i) = some u ∧ RepC K lk ρ G.length H c u ∧ Ext ρ G.length H ρ G.length H := by
  obtain ⟨u, h1, h2⟩ := r.cell i c q
  exact ⟨(List.getElem?_eq_some_iff.mp q).1, u, h1, h2, Ext.refl⟩
theorem Rel.exw {i : Nat} {c : PK.Cell} (r : Rel K lk ρ G H) (q : G[i]? = some c) : Ext ρ G.length H ρ G.length (upd H (ρ i) o) := by
  obtain ⟨u, h1, h2⟩ := r.cell i c q
  exact Ext.written (List.getElem?_eq_some_iff.mp q).1 h1 h2.nt.1 h2.nt.2
theorem Rel.written {i : Nat} {c c' : PK.Cell} (r : Rel K lk ρ G H) (q : G[i]? = some c) (rc : RepC K lk ρ G.length H c' o) : Rel K lk ρ (G.set i c') (upd H (ρ i) o) := by
  have hi := (List.getElem?_eq_some_iff.mp q).1
  have ex : Ext ρ G.length H ρ (G.set i c').length (upd H (ρ i) o) := by rw [List.length_set]; exact r.exw q
  refine ⟨fun j d z => ?_, fun j k hj hk e => r.inj j k (by simpa using hj) (by simpa using hk) e, fun a z => upd_some (r.zs a z), fun j hj => r.zc j (by simpa using hj)⟩
  by_cases y : i = j
  · subst y
    rw [List.getElem?_set_self hi] at z
    cases z
    exact ⟨o, upd_same, rc.ext ex⟩
  · rw [List.getElem?_set_ne y] at z
    obtain ⟨v, h3, h4⟩ := r.cell j d z
    have hj : j < G.length := (List.getElem?_eq_some_iff.mp z).1
    exact ⟨v, by rw [upd_ne fun e => y (r.inj i j hi hj e.symm)]; exact h3, h4.ext ex⟩

mutual
theorem Rep.add {A : Addr} (hA : H A = none) : ∀ (d : PK.D) (v : V), Rep K lk ρ n H d v → Rep K (lk.add A) ρ n H d v
  | .non, _, h => h
  | .bl _, _, h => h
  | .int _, _, h => h
  | .str _, _, h => h
  | .tup ds, v, h => by obtain ⟨a, vs, h1, h2, h3⟩ := h; exact ⟨a, vs, h1, h2, Reps.add hA ds vs h3⟩
  | .lst ds, v, h => by
    obtain ⟨a, vs, h1, h2, h3, h4⟩ := h
    exact ⟨a, vs, h1, h2, ⟨h3.1, fun z => z.elim h3.2 fun e => by rw [e, hA] at h2; cases h2⟩, Reps.add hA ds vs h4⟩
  | .fz ds, v, h => by obtain ⟨a, vs, h1, h2, h3⟩ := h; exact ⟨a, vs, h1, h2, Reps.add hA ds vs h3⟩
  | .ref i, v, h => h
  | .ins c ds, v, h => by
    obtain ⟨a, dx, fs, vs, h1, h2, h3, h4, h5, h6⟩ := h
    exact ⟨a, dx, fs, vs, h1, h2, ⟨h3.1, fun z => z.elim h3.2 fun e => by rw [e, hA] at h2; cases h2⟩, h4, h5, Reps.add hA ds vs h6⟩
  | .exc _, _, h => h
theorem Reps.add {A : Addr} (hA : H A = none) : ∀ (ds : List PK.D) (vs : List V), Reps K lk ρ n H ds vs → Reps K (lk.add A) ρ n H ds vs
  | [], _, h => h
  | d :: ds, vs, h => by obtain ⟨x, xs, h1, h2, h3⟩ := h; exact ⟨x, xs, h1, Rep.add hA d x h2, Reps.add hA ds xs h3⟩
end
mutual
theorem Rep.sub {A : Addr} : ∀ (d : PK.D) (v : V), Rep K (lk.add A) ρ n H d v → Rep K lk ρ n H d v
  | .non, _, h => h
  | .bl _, _, h => h
  | .int _, _, h => h
  | .str _, _, h => h
  | .tup ds, v, h => by obtain ⟨a, vs, h1, h2, h3⟩ := h; exact ⟨a, vs, h1, h2, Reps.sub ds vs h3⟩
  | .lst ds, v, h => by
    obtain ⟨a, vs, h1, h2, h3, h4⟩ := h
    exact ⟨a, vs, h1, h2, ⟨h3.1, fun z => h3.2 (.inl z)⟩, Reps.sub ds vs h4⟩
  | .fz ds, v, h => by obtain ⟨a, vs, h1, h2, h3⟩ := h; exact ⟨a, vs, h1, h2, Reps.sub ds vs h3⟩
  | .ref i, v, h => h
  | .ins c ds, v, h => by
    obtain ⟨a, dx, fs, vs, h1, h2, h3, h4, h5, h6⟩ := h
    exact ⟨a, dx, fs, vs, h1, h2, ⟨h3.1, fun z => h3.2 (.inl z)⟩, h4, h5, Reps.sub ds vs h6⟩
  | .exc _, _, h => h
theorem Reps.sub {A : Addr} : ∀ (ds : List PK.D) (vs : List V), Reps K (lk.add A) ρ n H ds vs → Reps K lk ρ n H ds vs
  | [], _, h => h
  | d :: ds, vs, h => by obtain ⟨x, xs, h1, h2, h3⟩ := h; exact ⟨x, xs, h1, Rep.sub d x h2, Reps.sub ds xs h3⟩
end
theorem TupAt.upd {A a : Addr} {ds : List PK.D} {xs vs : List V} (hA : H A = some (.lst xs)) (h : TupAt K H ds a vs) : TupAt K (upd H A o) ds a vs := by
  have ne : ∀ {u}, H a = some u → (∀ xs, u ≠ .lst xs) → a ≠ A := fun {u} h z e => by rw [e, hA] at h; cases h; exact z _ rfl
  rcases h with h | ⟨h, hk⟩
  · exact .inl (by rw [upd_ne (ne h (fun _ z => nomatch z))]; exact h)
  · refine .inr ⟨?_, hk⟩
    rcases h with (h | ⟨o, h⟩) | h
    · exact .inl (.inl (by rw [upd_ne (ne h (fun _ z => nomatch z))]; exact h))
    · exact .inl (.inr ⟨o, by rw [upd_ne (ne h (fun _ z => nomatch z))]; exact h⟩)
    · exact .inr h
mutual
theorem Rep.push {A : Addr} {xs : List V} (hA : H A = some (.lst xs)) : ∀ (d : PK.D) (v : V), Rep K (lk.add A) ρ n H d v → Rep K (lk.add A) ρ n (upd H A o) d v
  | .non, _, h => h
  | .bl _, _, h => h
  | .int _, _, h => h
  | .str _, _, h => h
  | .tup ds, v, h => by obtain ⟨a, vs, h1, h2, h3⟩ := h; exact ⟨a, vs, h1, h2.upd hA, Reps.push hA ds vs h3⟩
  | .lst ds, v, h => by
    obtain ⟨a, vs, h1, h2, h3, h4⟩ := h
    exact ⟨a, vs, h1, by rw [upd_ne fun e => h3.2 (.inr e)]; exact h2, h3, Reps.push hA ds vs h4⟩
  | .fz ds, v, h => by
    obtain ⟨a, vs, h1, h2, h3⟩ := h
    refine ⟨a, vs, h1, ?_, Reps.push hA ds vs h3⟩
    rcases h2 with ⟨o, h2⟩ | h2
    · exact .inl ⟨o, by rw [upd_ne fun e => by rw [e, hA] at h2; cases h2]; exact h2⟩
    · exact .inr h2
  | .ref i, v, h => h
  | .ins c ds, v, h => by
    obtain ⟨a, dx, fs, vs, h1, h2, h3, h4, h5, h6⟩ := h
    exact ⟨a, dx, fs, vs, h1, by rw [upd_ne fun e => h3.2 (.inr e)]; exact h2, h3, h4, h5, Reps.push hA ds vs h6⟩
  | .exc _, _, h => h
theorem Reps.push {A : Addr} {xs : List V} (hA : H A = some (.lst xs)) : ∀ (ds : List PK.D) (vs : List V), Reps K (lk.add A) ρ n H ds vs → Reps K (lk.add A) ρ n (upd H A o) ds vs
  | [], _, h => h
  | d :: ds, vs, h => by obtain ⟨x, xs', h1, h2, h3⟩ := h; exact ⟨x, xs', h1, Rep.push hA d x h2, Reps.push hA ds xs' h3⟩
end
theorem RepC.map {lk lk' : Lk} {n n' : Nat} {H H' : Hp} {ρ ρ' : Nm} (e : lk'.CA = lk.CA) (e2 : lk'.FN = lk.FN) (f : ∀ ds vs, Reps K lk ρ n H ds vs → Reps K lk' ρ' n' H' ds vs) {c : PK.Cell} {o : HO} (h : RepC K lk ρ n H c o) : RepC K lk' ρ' n' H' c o := by
  cases c with
  | lst ds => obtain ⟨vs, h1, h2⟩ := h; exact ⟨vs, h1, f _ _ h2⟩
  | dK kvs => obtain ⟨vs, h1, h2⟩ := h; exact ⟨vs, h1, h2.1, f _ _ h2.2⟩
  | dT kvs => obtain ⟨vs, h1, h2⟩ := h; exact ⟨vs, h1, h2.1, f _ _ h2.2⟩
  | ins c ds => obtain ⟨dx, fs, vs, h1, h2, h3, h4⟩ := h; exact ⟨dx, fs, vs, by rw [e]; exact h1, by rw [e2]; exact h2, by rw [e2]; exact h3, f _ _ h4⟩
theorem Rel.add {A : Addr} (r : Rel K lk ρ G H) (hA : H A = none) : Rel K (lk.add A) ρ G (upd H A o) := by
  refine ⟨fun i c q => ?_, r.inj, fun a z => ?_, fun i hi z => ?_⟩
  · obtain ⟨u, h1, h2⟩ := r.cell i c q
    have h3 : RepC K (lk.add A) ρ G.length H c u := RepC.map (lk := lk) (lk' := lk.add A) rfl rfl (fun _ _ => Reps.add hA _ _) h2
    exact ⟨u, by rw [upd_ne (ne_of_none h1 hA)]; exact h1, h3.ext (Ext.laid hA)⟩
  · rcases z with z | z
    · exact upd_some (r.zs a z)
    · rw [z, upd_same]; exact fun z => by cases z
  · rcases z with z | z
    · exact r.zc i hi z
    · obtain ⟨u, h1, _⟩ := r.cell i G[i] (by simp [hi])
      rw [z, hA] at h1; cases h1
theorem Rel.sub {A : Addr} (r : Rel K (lk.add A) ρ G H) : Rel K lk ρ G H := by
  refine ⟨fun i c q => ?_, r.inj, fun a z => r.zs a (.inl z), fun i hi z => r.zc i hi (.inl z)⟩
  obtain ⟨u, h1, h2⟩ := r.cell i c q
  exact ⟨u, h1, RepC.map (lk := lk.add A) (lk' := lk) rfl rfl (fun _ _ => Reps.sub _ _) h2⟩
theorem Rel.push {A : Addr} {xs : List V} (r : Rel K (lk.add A) ρ G H) (hA : H A = some (.lst xs)) : Rel K (lk.add A) ρ G (upd H A o) := by
  refine ⟨fun i c q => ?_, r.inj, fun a z => upd_some (r.zs a z), r.zc⟩
  obtain ⟨u, h1, h2⟩ := r.cell i c q
  refine ⟨u, ?_, RepC.map (lk := lk.add A) (lk' := lk.add A) rfl rfl (fun _ _ => Reps.push hA _ _) h2⟩
  rw [upd_ne fun e => r.zc i (List.getElem?_eq_some_iff.mp q).1 (.inr e)]
  exact h1
theorem REnv.add {A : Addr} {s : PK.Env} {σ : L2.St} (h : REnv K lk ρ n H s σ) (hA : H A = none) : REnv K (lk.add A) ρ n (upd H A o) s σ := ⟨h.len, fun i d q => by
  obtain ⟨v, h1, h2⟩ := h.at_ i d q
  exact ⟨v, h1, Rep.ext (Ext.laid hA) _ _ (Rep.add hA _ _ h2)⟩⟩
theorem REnv.push {A : Addr} {xs : List V} {s : PK.Env} {σ : L2.St} (h : REnv K (lk.add A) ρ n H s σ) (hA : H A = some (.lst xs)) : REnv K (lk.add A) ρ n (upd H A o) s σ := ⟨h.len, fun i d q => by
  obtain ⟨v, h1, h2⟩ := h.at_ i d q
  exact ⟨v, h1, Rep.push hA _ _ h2⟩⟩
theorem REnv.wipe {s : PK.Env} {σ : L2.St} : ∀ (is : List Nat), REnv K lk ρ n H s σ → REnv K lk ρ n H (PK.wipes s is) (L2.wipe σ is) := fun is h => by
  have hw : ∀ (is : List Nat) (s : PK.Env), (PK.wipes s is).length = s.length ∧ ∀ i d, (PK.wipes s is)[i]? = some (some d) → s[i]? = some (some d) ∧ i ∉ is := fun is => by
    induction is with
    | nil => intro s; exact ⟨rfl, fun i d q => ⟨q, by simp⟩⟩
    | cons k is ih =>
      intro s
      obtain ⟨h1, h2⟩ := ih (s.set k none)
      refine ⟨h1.trans (by simp), fun i d q => ?_⟩
      obtain ⟨h3, h4⟩ := h2 i d q
      by_cases z : k = i
      · subst z
        by_cases y : k < s.length
        · rw [List.getElem?_set_self y] at h3; cases h3
        · rw [List.getElem?_eq_none (by simpa using y)] at h3; cases h3
      · rw [List.getElem?_set_ne z] at h3
        exact ⟨h3, by simp only [List.mem_cons, not_or]; exact ⟨fun e => z e.symm, h4⟩⟩
  have hv : ∀ (is : List Nat) (i : Nat), i ∉ is → (L2.wipe σ is)[i]? = σ[i]? := fun is => by
    induction is with
    | nil => intro i _; rfl
    | cons k is ih =>
      intro i hi
      simp only [List.mem_cons, not_or] at hi
      unfold L2.wipe
      rw [List.getElem?_set_ne fun e => hi.1 e.symm]
      exact ih i hi.2
  obtain ⟨h1, h2⟩ := hw is s
  refine ⟨by rw [h1, h.len, L2.wipe_length], fun i d q => ?_⟩
  obtain ⟨h3, h4⟩ := h2 i d q
  obtain ⟨v, h5, h6⟩ := h.at_ i d h3
  exact ⟨v, by rw [hv is i h4]; exact h5, h6⟩
theorem REnv.addH {A : Addr} {s : PK.Env} {σ : L2.St} (h : REnv K lk ρ n H s σ) (hA : H A = none) : REnv K (lk.add A) ρ n H s σ := ⟨h.len, fun i d q => by
  obtain ⟨v, h1, h2⟩ := h.at_ i d q
  exact ⟨v, h1, Rep.add hA _ _ h2⟩⟩
theorem Ext.over {A : Addr} (e : Ext ρ n H ρ' n' H') (hA : H A = none) : Ext ρ n H ρ' n' (upd H' A o) where
  le := e.le
  agr := e.agr
  pres := fun a u h z => by rw [upd_ne (ne_of_none h hA)]; exact e.pres a u h z
  tups := fun a u h => by rw [upd_ne (ne_of_none h hA)]; exact e.tups a u h
  frzs := fun a u v h => by rw [upd_ne (ne_of_none h hA)]; exact e.frzs a u v h
  keep := fun a h => by
    by_cases q : a = A
    · rw [q]; exact hA
    · rw [upd_ne q] at h; exact e.keep a h
  new := e.new
theorem Rel.off {A : Addr} (r : Rel K (lk.add A) ρ G H) : ∀ i, i < G.length → ρ i ≠ A := fun i hi e => r.zc i hi (.inr e)
theorem Off.name {A a : Addr} (h : Off (lk.add A) ρ n a) : Off lk (nset ρ n A) (n + 1) a := ⟨fun i hi e => by
  by_cases q : i = n
  · rw [q, nset_same] at e; exact h.2 (.inr e.symm)
  · rw [nset_ne q] at e; exact h.1 i (by omega) e, fun z => h.2 (.inl z)⟩
mutual
theorem Rep.name {A : Addr} : ∀ (d : PK.D) (v : V), Rep K (lk.add A) ρ n H d v → Rep K lk (nset ρ n A) (n + 1) H d v
  | .non, _, h => h
  | .bl _, _, h => h
  | .int _, _, h => h
  | .str _, _, h => h
  | .tup ds, v, h => by obtain ⟨a, vs, h1, h2, h3⟩ := h; exact ⟨a, vs, h1, h2, Reps.name ds vs h3⟩
  | .lst ds, v, h => by
    obtain ⟨a, vs, h1, h2, h3, h4⟩ := h
    exact ⟨a, vs, h1, h2, h3.name, Reps.name ds vs h4⟩
  | .fz ds, v, h => by obtain ⟨a, vs, h1, h2, h3⟩ := h; exact ⟨a, vs, h1, h2, Reps.name ds vs h3⟩
  | .ref i, v, h => ⟨Nat.lt_succ_of_lt h.1, by rw [nset_ne (Nat.ne_of_lt h.1)]; exact h.2⟩
  | .ins c ds, v, h => by
    obtain ⟨a, dx, fs, vs, h1, h2, h3, h4, h5, h6⟩ := h
    exact ⟨a, dx, fs, vs, h1, h2, h3.name, h4, h5, Reps.name ds vs h6⟩
  | .exc _, _, h => h
theorem Reps.name {A : Addr} : ∀ (ds : List PK.D) (vs : List V), Reps K (lk.add A) ρ n H ds vs → Reps K lk (nset ρ n A) (n + 1) H ds vs
  | [], _, h => h
  | d :: ds, vs, h => by obtain ⟨x, xs, h1, h2, h3⟩ := h; exact ⟨x, xs, h1, Rep.name d x h2, Reps.name ds xs h3⟩
end
theorem Rel.name {A : Addr} {ds : List PK.D} {vs : List V} (r : Rel K (lk.add A) ρ G H) (hA : H A = some (.lst vs)) (p : Reps K (lk.add A) ρ G.length H ds vs) (hz : ¬ lk.Z A) : Rel K lk (nset ρ G.length A) (G ++ [.lst ds]) H := by
  have lt : ∀ k, k < (G ++ [PK.Cell.lst ds]).length → k = G.length ∨ k < G.length := fun k hk => by rw [List.length_append] at hk; simp at hk; omega
  refine ⟨fun i c q => ?_, fun i j hi hj e => ?_, fun a z => r.zs a (.inl z), fun i hi z => ?_⟩
  · rw [List.length_append]
    rcases lt i (List.getElem?_eq_some_iff.mp q).1 with e | e
    · subst e
      rw [List.getElem?_append_right (Nat.le_refl _), Nat.sub_self] at q
      cases q
      exact ⟨_, by rw [nset_same]; exact hA, vs, rfl, Reps.name _ _ p⟩
    · rw [List.getElem?_append_left e] at q
      obtain ⟨u, h1, h2⟩ := r.cell i c q
      exact ⟨u, by rw [nset_ne (Nat.ne_of_lt e)]; exact h1, RepC.map (lk := lk.add A) (lk' := lk) rfl rfl (fun _ _ => Reps.name _ _) h2⟩
  · rcases lt i hi with e1 | e1 <;> rcases lt j hj with e2 | e2
    · omega
    · rw [e1, nset_same, nset_ne (Nat.ne_of_lt e2)] at e
      exact absurd e.symm (r.off j e2)
    · rw [e2, nset_same, nset_ne (Nat.ne_of_lt e1)] at e
      exact absurd e (r.off i e1)
    · rw [nset_ne (Nat.ne_of_lt e1), nset_ne (Nat.ne_of_lt e2)] at e
      exact r.inj i j e1 e2 e
  · rcases lt i hi with e | e
    · rw [e, nset_same] at z; exact hz z
    · rw [nset_ne (Nat.ne_of_lt e)] at z; exact r.zc i e (.inl z)
theorem Ext.named {A : Addr} (e : Ext ρ n H ρ' n' H') (hA : H A = none) : Ext ρ n H (nset ρ' n' A) (n' + 1) H' where
  le := Nat.le_succ_of_le e.le
  agr := fun i h => by rw [nset_ne (Nat.ne_of_lt (Nat.lt_of_lt_of_le h e.le))]; exact e.agr i h
  pres := e.pres
  tups := e.tups
  frzs := e.frzs
  keep := e.keep
  new := fun i h1 h2 => by
    by_cases q : i = n'
    · rw [q, nset_same]; exact hA
    · rw [nset_ne q]; exact e.new i h1 (by omega)
end
end PKS
namespace PKS
open PySem PySem.Spec PyProof.Rows L2
section
variable (K : PySem.W.Frag) (lk : Lk)
def OutE (W : WX) (σ : L2.St) (ρ : Nm) (G : Cells) (H : Hp) (r : PK.R) (Q : VK) : Prop := match r with
  | .ok v G' => ∀ ρ' H' x, Ext ρ G.length H ρ' G'.length H' → Rel K lk ρ' G' H' → Rep K lk ρ' G'.length H' v x → Q x H'
  | .exc c G' => ∀ ρ' H', Ext ρ G.length H ρ' G'.length H' → Rel K lk ρ' G' H' → W (.ref (lk.EA c)) none σ H'
  | .bad => False
def OutA (W : WX) (σ : L2.St) (ρ : Nm) (G : Cells) (H : Hp) (r : PK.R) (Q : List V → Hp → Prop) : Prop := match r with
  | .ok v G' => ∀ ρ' H' xs, Ext ρ G.length H ρ' G'.length H' → Rel K lk ρ' G' H' → (∃ ds, v = .tup ds ∧ Reps K lk ρ' G'.length H' ds xs) → Q xs H'
  | .exc c G' => ∀ ρ' H', Ext ρ G.length H ρ' G'.length H' → Rel K lk ρ' G' H' → W (.ref (lk.EA c)) none σ H'
  | .bad => False
def lift (W : WX) (ev : PK.Env → Cells → PK.R) : TE := fun σ H Q => ∃ ρ G s, Rel K lk ρ G H ∧ REnv K lk ρ G.length H s σ ∧ OutE K lk W σ ρ G H (ev s G) Q
def liftA (W : WX) (ev : PK.Env → Cells → PK.R) : TA := fun σ H Q => ∃ ρ G s, Rel K lk ρ G H ∧ REnv K lk ρ G.length H s σ ∧ OutA K lk W σ ρ G H (ev s G) Q
def OutT (W : WX) (σ : L2.St) (ρ : Nm) (G : Cells) (H : Hp) (r : PK.R) (Q : Bool → Hp → Prop) : Prop := match r with
  | .ok v G' => ∃ b, v = .bl b ∧ ∀ ρ' H', Ext ρ G.length H ρ' G'.length H' → Rel K lk ρ' G' H' → Q b H'
  | .exc c G' => ∀ ρ' H', Ext ρ G.length H ρ' G'.length H' → Rel K lk ρ' G' H' → W (.ref (lk.EA c)) none σ H'
  | .bad => False
def liftT (W : WX) (ev : PK.Env → Cells → PK.R) : TT := fun σ H Q => ∃ ρ G s, Rel K lk ρ G H ∧ REnv K lk ρ G.length H s σ ∧ OutT K lk W σ ρ G H (ev s G) Q
end
section
variable {K : PySem.W.Frag} {lk : Lk} {W : WX} {σ : L2.St} {ρ ρ1 : Nm} {G G1 : Cells} {H H1 : Hp} {Q Q1 : VK}
theorem OutE.ext {r : PK.R} (e : Ext ρ G.length H ρ1 G1.length H1) (h : OutE K lk W σ ρ G H r Q) : OutE K lk W σ ρ1 G1 H1 r Q := by
  cases r with
  | ok v G' => exact fun ρ' H' x e' r' p' => h ρ' H' x (e.trans e') r' p'
  | exc c G' => exact fun ρ' H' e' r' => h ρ' H' (e.trans e') r'
  | bad => exact h
theorem OutA.ext {r : PK.R} {Q : List V → Hp → Prop} (e : Ext ρ G.length H ρ1 G1.length H1) (h : OutA K lk W σ ρ G H r Q) : OutA K lk W σ ρ1 G1 H1 r Q := by
  cases r with
  | ok v G' => exact fun ρ' H' x e' r' p' => h ρ' H' x (e.trans e') r' p'
  | exc c G' => exact fun ρ' H' e' r' => h ρ' H' (e.trans e') r'
  | bad => exact h
theorem OutT.ext {r : PK.R} {Q : Bool → Hp → Prop} (e : Ext ρ G.length H ρ1 G1.length H1) (h : OutT K lk W σ ρ G H r Q) : OutT K lk W σ ρ1 G1 H1 r Q := by
  cases r with
  | ok v G' => obtain ⟨b, e1, h⟩ := h; exact ⟨b, e1, fun ρ' H' e' r' => h ρ' H' (e.trans e') r'⟩
  | exc c G' => exact fun ρ' H' e' r' => h ρ' H' (e.trans e') r'
  | bad => exact h
theorem OutE.bind {r : PK.R} {f : PK.D → Cells → PK.R} {t} (h : OutE K lk W σ ρ G H (r.bind f t) Q)
    (k : ∀ v G1, r = .ok v G1 → ∀ ρ1 H1 x, Ext ρ G.length H ρ1 G1.length H1 → Rel K lk ρ1 G1 H1 → Rep K lk ρ1 G1.length H1 v x → OutE K lk W σ ρ1 G1 H1 (f v G1) Q → Q1 x H1) : OutE K lk W σ ρ G H r Q1 := by
  cases r with
  | ok v G1 => exact fun ρ1 H1 x e1 r1 p1 => k v G1 rfl ρ1 H1 x e1 r1 p1 (OutE.ext e1 h)
  | exc c G' => exact h
  | bad => exact h
theorem OutT.bind {r : PK.R} {f : PK.D → Cells → PK.R} {t} {Q : Bool → Hp → Prop} (h : OutT K lk W σ ρ G H (r.bind f t) Q)
    (k : ∀ v G1, r = .ok v G1 → ∀ ρ1 H1 x, Ext ρ G.length H ρ1 G1.length H1 → Rel K lk ρ1 G1 H1 → Rep K lk ρ1 G1.length H1 v x → OutT K lk W σ ρ1 G1 H1 (f v G1) Q → Q1 x H1) : OutE K lk W σ ρ G H r Q1 := by
  cases r with
  | ok v G1 => exact fun ρ1 H1 x e1 r1 p1 => k v G1 rfl ρ1 H1 x e1 r1 p1 (OutT.ext e1 h)
  | exc c G' => exact h
  | bad => exact h
theorem OutE.bindT {r : PK.R} {f : PK.D → Cells → PK.R} {t} {Q1 : Bool → Hp → Prop} (h : OutE K lk W σ ρ G H (r.bind f t) Q) (hf : ∀ v G1, (∀ b, v ≠ .bl b) → f v G1 = .bad)
    (k : ∀ b G1, r = .ok (.bl b) G1 → ∀ ρ1 H1, Ext ρ G.length H ρ1 G1.length H1 → Rel K lk ρ1 G1 H1 → OutE K lk W σ ρ1 G1 H1 (f (.bl b) G1) Q → Q1 b H1) : OutT K lk W σ ρ G H r Q1 := by
  cases r with
  | ok v G1 =>
    cases v with
    | bl b => exact ⟨b, rfl, fun ρ1 H1 e1 r1 => k b G1 rfl ρ1 H1 e1 r1 (OutE.ext e1 h)⟩
    | _ => exact absurd (show OutE K lk W σ ρ G H (f _ G1) Q from h) (by rw [hf _ _ (fun b z => by cases z)]; exact id)
  | exc c G' => exact h
  | bad => exact h
theorem OutE.here {v : PK.D} {x : V} (h : OutE K lk W σ ρ G H (.ok v G) Q) (r : Rel K lk ρ G H) (p : Rep K lk ρ G.length H v x) : Q x H := h ρ H x Ext.refl r p
theorem OutE.imp {W' : WX} {r : PK.R} {σ' : L2.St} (h : OutE K lk W σ ρ G H r Q) (hW : ∀ c H', W (.ref (lk.EA c)) none σ H' → W' (.ref (lk.EA c)) none σ' H') : OutE K lk W' σ' ρ G H r Q := by
  cases r with
  | ok v G' => exact h
  | exc c G' => exact fun ρ' H' e r => hW _ _ (h ρ' H' e r)
  | bad => exact h
theorem OutT.imp {W' : WX} {r : PK.R} {σ' : L2.St} {Q : Bool → Hp → Prop} (h : OutT K lk W σ ρ G H r Q) (hW : ∀ c H', W (.ref (lk.EA c)) none σ H' → W' (.ref (lk.EA c)) none σ' H') : OutT K lk W' σ' ρ G H r Q := by
  cases r with
  | ok v G' => exact h
  | exc c G' => exact fun ρ' H' e r => hW _ _ (h ρ' H' e r)
  | bad => exact h
theorem OutE.safe {W' : WX} {r : PK.R} {σ' : L2.St} (h : OutE K lk W σ ρ G H r.safe Q) : OutE K lk W' σ' ρ G H r Q := by
  cases r with
  | ok v G' => exact h
  | exc c G' => exact False.elim h
  | bad => exact h
theorem OutE.mkl {w : Bool} {ds : List PK.D} {vs : List V} (h : OutE K lk W σ ρ G H (PK.mkl w ds G) Q) (r : Rel K lk ρ G H) (p : Reps K lk ρ G.length H ds vs) : ∀ a, H a = none → Q (.ref a) (upd H a (.lst vs)) := fun a ha => by
  cases w with
  | true =>
    have h : OutE K lk W σ ρ G H (.ok (.ref G.length) (G ++ [.lst ds])) Q := h
    refine h (nset ρ G.length a) _ _ ?_ (r.laid ha ⟨vs, rfl, p⟩) ⟨by simp, by rw [nset_same]⟩
    rw [List.length_append]
    exact Ext.celled ha
  | false =>
    have h : OutE K lk W σ ρ G H (.ok (.lst ds) G) Q := h
    refine h ρ _ _ (Ext.laid ha) (r.other ha) ⟨a, vs, rfl, upd_same, ⟨fun i hi z => ?_, fun z => r.zs a z ha⟩, Reps.ext (Ext.laid ha) _ _ p⟩
    obtain ⟨u, h1, _⟩ := r.cell i G[i] (by simp [hi])
    rw [z, ha] at h1; cases h1
theorem OutE.tup {ds : List PK.D} {vs : List V} (h : OutE K lk W σ ρ G H (.ok (.tup ds) G) Q) (r : Rel K lk ρ G H) (p : Reps K lk ρ G.length H ds vs) : ∀ a, H a = none → Q (.ref a) (upd H a (.tup vs)) := fun a ha =>
  h ρ _ _ (Ext.laid ha) (r.other ha) ⟨a, vs, rfl, .inl upd_same, Reps.ext (Ext.laid ha) _ _ p⟩
theorem OutE.put {i : Nat} {c c' : PK.Cell} {o : HO} {v : PK.D} {x : V} (h : OutE K lk W σ ρ G H (.ok v (PK.setC G i c')) Q) (r : Rel K lk ρ G H) (q : G[i]? = some c) (rc : RepC K lk ρ G.length H c' o) (p : Rep K lk ρ G.length H v x) : Q x (upd H (ρ i) o) := by
  have e : Ext ρ G.length H ρ (PK.setC G i c').length (upd H (ρ i) o) := by
    show Ext ρ G.length H ρ (G.set i c').length _
    rw [List.length_set]
    exact r.exw q
  exact h ρ _ x e (r.written q rc) (Rep.ext e _ _ p)

theorem seq_of {x : PK.D} {v : V} {ds : List PK.D} (e : PK.seqD G x = some ds) (r : Rel K lk ρ G H) (p : Rep K lk ρ G.length H x v) : ∃ a vs, v = .ref a ∧ (SqL K H a vs ∨ SqT K H a vs) ∧ Reps K lk ρ G.length H ds vs ∧ ((∀ es, x ≠ .tup es) → SqL K H a vs) ∧ ((∃ es, x = .tup es) → SqT K H a vs) := by
  cases x with
  | tup es =>
    cases e
    obtain ⟨a, vs, h1, h2, h3⟩ := p
    exact ⟨a, vs, h1, .inr h2.sq, h3, fun z => absurd rfl (z _), fun _ => h2.sq⟩
  | lst es =>
    cases e
    obtain ⟨a, vs, h1, h2, _, h3⟩ := p
    exact ⟨a, vs, h1, .inl (SqL.of h2), h3, fun _ => SqL.of h2, fun ⟨_, z⟩ => nomatch z⟩
  | fz es =>
    cases e
    obtain ⟨a, vs, h1, h2, h3⟩ := p
    have q : SqL K H a vs := by
      rcases h2 with ⟨o, h2⟩ | h2
      · exact .inl (.inr ⟨o, h2⟩)
      · exact .inr h2
    exact ⟨a, vs, h1, .inl q, h3, fun _ => q, fun ⟨_, z⟩ => nomatch z⟩
  | ref i =>
    obtain ⟨hi, hv⟩ := p
    unfold PK.seqD at e
    cases q : G[i]? with
    | none => simp [q] at e
    | some c =>
      cases c with
      | lst es =>
        simp only [q] at e
        cases e
        obtain ⟨u, h1, vs, h2, h3⟩ := r.cell i _ q
        subst h2
        exact ⟨ρ i, vs, hv, .inl (SqL.of h1), h3, fun _ => SqL.of h1, fun ⟨_, z⟩ => nomatch z⟩
      | _ => simp [q] at e
  | _ => cases e
theorem lst_of {x : PK.D} {v : V} {ds : List PK.D} (e : PK.lstD G x = some ds) (r : Rel K lk ρ G H) (p : Rep K lk ρ G.length H x v) : ∃ a vs, v = .ref a ∧ H a = some (.lst vs) ∧ Reps K lk ρ G.length H ds vs := by
  cases x with
  | lst es =>
    cases e
    obtain ⟨a, vs, h1, h2, _, h3⟩ := p
    exact ⟨a, vs, h1, h2, h3⟩
  | ref i =>
    obtain ⟨hi, hv⟩ := p
    unfold PK.lstD at e
    cases q : G[i]? with
    | none => simp [q] at e
    | some c =>
      cases c with
      | lst es =>
        simp only [q] at e
        cases e
        obtain ⟨u, h1, vs, h2, h3⟩ := r.cell i _ q
        subst h2
        exact ⟨ρ i, vs, hv, h1, h3⟩
      | _ => simp [q] at e
  | _ => cases e
theorem ints_of : ∀ {ds : List PK.D} {vs : List V} {ns : List Int} {n : Nat}, PK.intsD ds = some ns → Reps K lk ρ n H ds vs → vs = ns.map V.int
  | [], vs, ns, n, e, p => by cases e; exact p
  | d :: ds, vs, ns, n, e, p => by
    obtain ⟨x, xs, h1, h2, h3⟩ := p
    cases d with
    | int i =>
      have e : (PK.intsD ds).map (i :: ·) = some ns := e
      cases q : PK.intsD ds with
      | none => rw [q] at e; cases e
      | some ms =>
        rw [q] at e; cases e
        rw [h1, show x = V.int i from h2, ints_of q h3]; rfl
    | _ => cases e
theorem bls_of : ∀ {ds : List PK.D} {vs : List V} {ns : List Bool} {n : Nat}, PK.blsD ds = some ns → Reps K lk ρ n H ds vs → vs = ns.map V.bl
  | [], vs, ns, n, e, p => by cases e; exact p
  | d :: ds, vs, ns, n, e, p => by
    obtain ⟨x, xs, h1, h2, h3⟩ := p
    cases d with
    | bl i =>
      have e : (PK.blsD ds).map (i :: ·) = some ns := e
      cases q : PK.blsD ds with
      | none => rw [q] at e; cases e
      | some ms =>
        rw [q] at e; cases e
        rw [h1, show x = V.bl i from h2, bls_of q h3]; rfl
    | _ => cases e
theorem strs_of : ∀ {ds : List PK.D} {vs : List V} {ns : List Str} {n : Nat}, PK.strsD ds = some ns → Reps K lk ρ n H ds vs → vs = ns.map V.str
  | [], vs, ns, n, e, p => by cases e; exact p
  | d :: ds, vs, ns, n, e, p => by
    obtain ⟨x, xs, h1, h2, h3⟩ := p
    cases d with
    | str i =>
      have e : (PK.strsD ds).map (i :: ·) = some ns := e
      cases q : PK.strsD ds with
      | none => rw [q] at e; cases e
      | some ms =>
        rw [q] at e; cases e
        rw [h1, show x = V.str i from h2, strs_of q h3]; rfl
    | _ => cases e
theorem of_ints : ∀ (ns : List Int) {n : Nat}, Reps K lk ρ n H (ns.map .int) (ns.map V.int)
  | [], _ => rfl
  | i :: ns, _ => ⟨_, _, rfl, rfl, of_ints ns⟩
theorem of_strs : ∀ (ns : List Str) {n : Nat}, Reps K lk ρ n H (ns.map .str) (ns.map V.str)
  | [], _ => rfl
  | i :: ns, _ => ⟨_, _, rfl, rfl, of_strs ns⟩

mutual
theorem dp_of (r : Rel K lk ρ G H) : ∀ (n : Nat) (x : PK.D) (v : V) (d : PyData), PK.pd G n x = some d → Rep K lk ρ G.length H x v → Dp K H v d
  | 0, x, v, d, e, _ => by cases x <;> cases e
  | n + 1, .non, v, d, e, p => by cases e; rw [show v = .non from p]; exact .non
  | n + 1, .bl b, v, d, e, p => by cases e; rw [show v = .bl b from p]; exact .bl b
  | n + 1, .int i, v, d, e, p => by cases e; rw [show v = .int i from p]; exact .int i
  | n + 1, .str b, v, d, e, p => by cases e; rw [show v = .str b from p]; exact .str b
  | n + 1, .tup ds, v, d, e, p => by
    have e : (PK.pds (PK.pd G n) ds).map .tuple = some d := e
    obtain ⟨a, vs, h1, h2, h3⟩ := p
    cases q : PK.pds (PK.pd G n) ds with
    | none => rw [q] at e; cases e
    | some xs => rw [q] at e; cases e; rw [h1]; exact .tup h2.sq (dps_of r n ds vs xs q h3)
  | n + 1, .lst ds, v, d, e, p => by
    have e : (PK.pds (PK.pd G n) ds).map .list = some d := e
    obtain ⟨a, vs, h1, h2, _, h3⟩ := p
    cases q : PK.pds (PK.pd G n) ds with
    | none => rw [q] at e; cases e
    | some xs => rw [q] at e; cases e; rw [h1]; exact .lst (SqL.of h2) (dps_of r n ds vs xs q h3)
  | n + 1, .fz ds, v, d, e, p => by
    have e : (PK.pds (PK.pd G n) ds).map .list = some d := e
    obtain ⟨a, vs, h1, h2, h3⟩ := p
    cases q : PK.pds (PK.pd G n) ds with
    | none => rw [q] at e; cases e
    | some xs =>
      rw [q] at e; cases e; rw [h1]
      refine .lst ?_ (dps_of r n ds vs xs q h3)
      rcases h2 with ⟨o, h2⟩ | h2
      · exact .inl (.inr ⟨o, h2⟩)
      · exact .inr h2
  | n + 1, .ref i, v, d, e, p => by
    obtain ⟨hi, hv⟩ := p
    unfold PK.pd at e
    cases q : G[i]? with
    | none => simp [q] at e
    | some c =>
      cases c with
      | lst es =>
        simp only [q] at e
        obtain ⟨u, h1, vs, h2, h3⟩ := r.cell i _ q
        subst h2
        cases q2 : PK.pds (PK.pd G n) es with
        | none => rw [q2] at e; cases e
        | some xs => rw [q2] at e; cases e; rw [hv]; exact .lst (SqL.of h1) (dps_of r n es vs xs q2 h3)
      | _ => simp [q] at e
  | n + 1, .ins c ds, v, d, e, p => by cases e
  | n + 1, .exc c, v, d, e, p => by cases e
termination_by n => (n, 0)
theorem dps_of (r : Rel K lk ρ G H) : ∀ (n : Nat) (xs : List PK.D) (vs : List V) (ds : List PyData), PK.pds (PK.pd G n) xs = some ds → Reps K lk ρ G.length H xs vs → DpAll K H vs ds
  | n, [], vs, ds, e, p => by cases e; rw [show vs = [] from p]; exact .nil
  | n, x :: xs, vs, ds, e, p => by
    obtain ⟨y, ys, h1, h2, h3⟩ := p
    have e : ((PK.pd G n x).bind fun x => (PK.pds (PK.pd G n) xs).bind fun xs => some (x :: xs)) = some ds := e
    cases q1 : PK.pd G n x with
    | none => rw [q1] at e; cases e
    | some d =>
      cases q2 : PK.pds (PK.pd G n) xs with
      | none => rw [q1, q2] at e; cases e
      | some es =>
        rw [q1, q2] at e; cases e
        rw [h1]
        exact .cons (dp_of r n x y d q1 h2) (dps_of r n xs ys es q2 h3)
termination_by n xs => (n, xs.length + 1)
end
end
end PKS
namespace PKS
open PySem PySem.Spec PyProof.Rows L2
section
variable {prog : Program} {w : World} {A : Around} {E : Value → Shared → Prop} {s : Shared}
theorem same_empty {nm : String} {a b : Addr} {es : Array DictEntry} {ea eb : Nat} {Q : Bool → Shared → Prop} (ha : (a == sysModules) = false) (hb : (b == sysModules) = false)
    (da : s.heap.DictRaw a es ea) (db : s.heap.DictRaw b #[] eb) (h : Q (es.size == 0) s) : wpAny (model prog w) A (Builtin.Dict.samePairs nm a b) Q E s := by
  obtain ⟨oa, hoa, _, hda⟩ := da
  obtain ⟨ob, hob, _, hdb⟩ := db
  unfold Builtin.Dict.samePairs Builtin.Dict.showsAll
  rw [if_neg (show ¬ (a == sysModules) = true by rw [ha]; exact Bool.false_ne_true), if_neg (show ¬ (b == sysModules) = true by rw [hb]; exact Bool.false_ne_true)]
  refine wpAny_bind (wpAny_pure (wpAny_bind (wpAny_pure ?_)))
  refine wpAny_bind (wpAny_dictEntries hoa hda ?_)
  dsimp only
  refine wpAny_bind (wpAny_dictEntries hob hdb ?_)
  by_cases hsz : es.size = 0
  case neg =>
    rw [if_pos (by simpa using hsz)]
    have hbf : (es.size == 0) = false := by simpa using hsz
    rw [hbf] at h
    exact wpAny_bind (wpAny_rule (wpAny_pure h))
  case pos =>
    have h' : Q true s := by simpa [hsz] using h
    rw [if_neg (by rw [hsz]; simp)]
    refine wpAny_bind (wpAny_dictEpoch hoa hda ?_)
    refine wpAny_bind ?_
    rw [hsz, Std.Legacy.Range.forIn_eq_forIn_range']
    simp only [Std.Legacy.Range.size, Nat.sub_zero, Nat.add_sub_cancel, Nat.div_one]
    exact wpAny_pure (wpAny_pure h')
theorem rc_empty {a b : Addr} {es : Array DictEntry} {ea eb : Nat} {Q : Value → Shared → Prop} (ha : (a == sysModules) = false) (hb : (b == sysModules) = false)
    (da : s.heap.DictRaw a es ea) (db : s.heap.DictRaw b #[] eb) (hu : A.units < cLine) (h : Q (.bool (es.size == 0)) s) : wpAny (model prog w) A (richCompare .Eq (.ref a) (.ref b)) Q E s := by
  refine wpAny_richCompare_same_room (op := .Eq) da.typeIs db.typeIs PySem.F.slot_dict_eq (wpAny_call_entry PySem.F.slot_dict_eq da.typeIs PySem.F.entry_dict_eq ?_ (PySem.F.args_dict_eq_2 _ _)) hu
  show wpAny _ _ (Builtin.Dict.dictSlotArgs "__eq__" ⟨[.ref a, .ref b], []⟩ >>= _) _ _ s
  refine wpAny_bind ?_
  unfold Builtin.Dict.dictSlotArgs
  refine wpAny_bind (wpAny_notOrdered_dict da.typeIs ?_)
  show wpAny _ _ (pure (Value.ref a, Value.ref b)) _ _ s
  refine wpAny_pure ?_
  refine wpAny_bind (wpAny_isInstance (T := "dict") db.typeIs PySem.F.sub_dict_dict ?_)
  simp only [Bool.not_true, Bool.false_eq_true, if_false]
  refine wpAny_bind (wpAny_pure (wpAny_bind (wpAny_pure ?_)))
  refine wpAny_bind (same_empty ha hb da db ?_)
  refine wpAny_pure ⟨_, rfl, ?_, ?_⟩
  · exact fun x => nomatch x
  · simpa using h
theorem rn_empty {a b : Addr} {es : Array DictEntry} {ea eb : Nat} {Q : Value → Shared → Prop} (ha : (a == sysModules) = false) (hb : (b == sysModules) = false)
    (da : s.heap.DictRaw a es ea) (db : s.heap.DictRaw b #[] eb) (hu : A.units < cLine) (h : Q (.bool (!(es.size == 0))) s) : wpAny (model prog w) A (richCompare .NotEq (.ref a) (.ref b)) Q E s := by
  refine wpAny_richCompare_same_room (op := .NotEq) da.typeIs db.typeIs PySem.F.slot_dict_ne (wpAny_call_entry PySem.F.slot_dict_ne da.typeIs PySem.F.entry_dict_ne ?_ (PySem.F.args_dict_ne_2 _ _)) hu
  show wpAny _ _ (Builtin.Dict.dictSlotArgs "__ne__" ⟨[.ref a, .ref b], []⟩ >>= _) _ _ s
  refine wpAny_bind ?_
  unfold Builtin.Dict.dictSlotArgs
  refine wpAny_bind (wpAny_notOrdered_dict da.typeIs ?_)
  show wpAny _ _ (pure (Value.ref a, Value.ref b)) _ _ s
  refine wpAny_pure ?_
  refine wpAny_bind (wpAny_isInstance (T := "dict") db.typeIs PySem.F.sub_dict_dict ?_)
  simp only [Bool.not_true, Bool.false_eq_true, if_false]
  refine wpAny_bind (wpAny_pure (wpAny_bind (wpAny_pure ?_)))
  refine wpAny_bind (same_empty ha hb da db ?_)
  refine wpAny_pure ⟨_, rfl, ?_, ?_⟩
  · exact fun x => nomatch x
  · simpa using h
end
def DLen (H : Hp) (a : Addr) (n : Nat) : Prop := (∃ kvs, H a = some (.dK kvs) ∧ kvs.length = n) ∨ ∃ kvs, H a = some (.dT kvs) ∧ kvs.length = n
theorem raw_of {X : Cx} {pins : List (Addr × Obj)} {σ : L2.St} {H : Hp} {s : Shared} {a : Addr} {n : Nat} (I : Inv X pins σ H s) (h : DLen H a n) : (a == sysModules) = false ∧ ∃ es ep, s.heap.DictRaw a es ep ∧ es.size = n := by
  rcases h with ⟨kvs, h, e⟩ | ⟨kvs, h, e⟩
  · obtain ⟨z, lo, vs, rel, o, es, ep, ho, hx, hd, hk, hp, nd⟩ := (show ObjOk X.prog X.w H s.heap a (.dK kvs) from I.hok a _ h)
    refine ⟨lo, es, ep, ⟨o, ho, hx, hd⟩, ?_⟩
    have h1 : vs.length = es.size := by rw [← hp.length]; exact Array.length_toList
    rw [← h1, ← rel.length]; exact e
  · obtain ⟨z, lo, ys, rk, o, es, ep, ho, hx, hd, he, nd⟩ := (show ObjOk X.prog X.w H s.heap a (.dT kvs) from I.hok a _ h)
    refine ⟨lo, es, ep, ⟨o, ho, hx, hd⟩, ?_⟩
    have hsz : es.size = ys.length := by
      have := congrArg List.length he
      simpa using this
    rw [hsz, ← Paired.length rk]; exact e
def rEqE (neg : Bool) : R2 := fun x y H Q => ∃ a b n, x = .ref a ∧ y = .ref b ∧ DLen H a n ∧ DLen H b 0 ∧ Q (.bl (if neg then !(n == 0) else n == 0)) H
theorem op_eqE {X : Cx} (hu : X.A.units + 64 < cLine) : OpR X (compareOp .Eq) (rEqE false) := by
  intro pins s σ H x y v u Q I rx ry h
  obtain ⟨a, b, n, rfl, rfl, h1, h2, q⟩ := h
  cases rx
  cases ry
  obtain ⟨l1, es, ep, d1, e1⟩ := raw_of I h1
  obtain ⟨l2, es2, ep2, d2, e2⟩ := raw_of I h2
  have e3 : es2 = #[] := Array.eq_empty_of_size_eq_zero e2
  subst e3
  exact rc_empty l1 l2 d1 d2 (by omega) ⟨.bl _, H, I, rfl, by rw [e1]; exact q⟩
theorem op_neE {X : Cx} (hu : X.A.units + 64 < cLine) : OpR X (compareOp .NotEq) (rEqE true) := by
  intro pins s σ H x y v u Q I rx ry h
  obtain ⟨a, b, n, rfl, rfl, h1, h2, q⟩ := h
  cases rx
  cases ry
  obtain ⟨l1, es, ep, d1, e1⟩ := raw_of I h1
  obtain ⟨l2, es2, ep2, d2, e2⟩ := raw_of I h2
  have e3 : es2 = #[] := Array.eq_empty_of_size_eq_zero e2
  subst e3
  exact rn_empty l1 l2 d1 d2 (by omega) ⟨.bl _, H, I, rfl, by rw [e1]; exact q⟩
end PKS
namespace PKS
open PySem PySem.Spec PyProof.Rows L2
section
variable {K : PySem.W.Frag} {lk : Lk} {W : WX} {σ : L2.St} {ρ : Nm} {G : Cells} {H : Hp} {Q : VK} {X : Cx}

theorem log_of {i : Int} (h : i.natAbs < 2 ^ 1000) : i.natAbs.log2 < 1000 := PySem.Flt.log2_lt_of (by decide) h
def CMulZ (i j : Int) : Prop := CMulW i j ∨ j.natAbs < 2 ^ 60
theorem CMulZ.ok {i j : Int} (h : CMulZ i j) : IntMulOk i j := by
  rcases h with h | h
  · exact h.ok
  · exact .of_right (intBits_le_64 (by omega) (by omega))
def rMulS : R2 := fun x y H Q => ∃ (a : Str) (k : Int), x = .str a ∧ y = .int k ∧ (0 ≤ k ∧ k ≤ 1000) ∧ a.length ≤ 1000 ∧ Q (.str (Txt.mul a k)) H
theorem op_mulS {X : Cx} : OpR X (binaryOp .Mult) rMulS := by
  intro pins s σ H x y v u Q I rx ry h
  obtain ⟨a, k, rfl, rfl, ⟨h1, h2⟩, h3, q⟩ := h
  obtain ⟨t, rfl⟩ := rx
  obtain ⟨t2, rfl⟩ := ry
  refine SB.mul ⟨?_, fun hk _ => ?_, fun hk _ => ?_⟩ fun t' k' => ⟨.str (Txt.mul a k), H, I.kept (h' := s.heap) (t' := k') fun _ _ e => e, ⟨t', rfl⟩, q⟩
  · rw [decide_eq_false (by omega), decide_eq_false (by omega)]; rfl
  · have m1 : (a.length : Int) * k ≤ 1000 * 1000 := Int.mul_le_mul (by omega) h2 (by omega) (by omega)
    have m2 : (a.length : Int) ≤ (2 ^ 63 - 1) / k := (Int.le_ediv_iff_mul_le (by omega)).mpr (by omega)
    omega
  · have m1 : a.length * k.toNat ≤ 1000 * 1000 := Nat.mul_le_mul h3 (by omega)
    unfold Builtin.Str.tooLong
    rw [decide_eq_false]
    rw [sizeLine_eq]
    omega
theorem op_mulZ {X : Cx} : OpR X (binaryOp .Mult) (rI CMulZ fun i j => .int (i * j)) := opI fun _ _ _ _ _ _ _ hc q => mul_int q hc.ok
def rBin (K : PySem.W.Frag) : PK.Bo → R2
  | .add => fun x y H Q => rI0 (fun i j => .int (i + j)) x y H Q ∨ (∃ i j, x = .str i ∧ y = .str j ∧ i.length + j.length ≤ sizeLine ∧ Q (.str (i ++ j)) H) ∨ rCatA K x y H Q ∨ rCat x y H Q
  | .sub => rI0 fun i j => .int (i - j)
  | .mul => fun x y H Q => rI CMulZ (fun i j => .int (i * j)) x y H Q ∨ rRep x y H Q ∨ rMulS x y H Q
  | .fdiv => rI CDivW fun i j => .int (i / j)
  | .mod => rI (fun _ j => 0 < j) fun i j => .int (i % j)
  | .pow => rI CPow fun i j => .int (i ^ j.toNat)
def opOf : PK.Bo → Operator
  | .add => .Add | .sub => .Sub | .mul => .Mult | .fdiv => .FloorDiv | .mod => .Mod | .pow => .Pow
theorem op_bin (o : PK.Bo) : OpR X (binaryOp (opOf o)) (rBin X.K o) := by
  cases o with
  | add => exact op_add.or (op_add_str.or (op_catA.or op_cat))
  | sub => exact op_sub
  | mul => exact op_mulZ.or (op_rep.or op_mulS)
  | fdiv => exact op_fdivW
  | mod => exact op_mod
  | pow => exact op_pow
theorem szOk_le {n : Nat} (h : PK.szOk n = true) : n ≤ sizeLine := Nat.le_trans (of_decide_eq_true h) (by rw [sizeLine_eq]; decide)
theorem bin_lists {w : Bool} {v u : PK.D} {x y : V} {a b : List PK.D} (r : Rel K lk ρ G H) (e1 : PK.lstD G v = some a) (e2 : PK.lstD G u = some b) (p : Rep K lk ρ G.length H v x) (p' : Rep K lk ρ G.length H u y)
    (hs : PK.szOk (a.length + b.length) = true) (h : OutE K lk W σ ρ G H (PK.mkl w (a ++ b) G) Q) : rBin K .add x y H Q := by
  obtain ⟨A, vs, h1, h2, h3⟩ := lst_of e1 r p
  obtain ⟨B, ws, h4, h5, h6⟩ := lst_of e2 r p'
  exact .inr (.inr (.inr ⟨A, B, vs, ws, h1, h4, h2, h5, by rw [← h3.length, ← h6.length]; exact szOk_le hs, h.mkl r (h3.append h6)⟩))
theorem bin_val (o : PK.Bo) {w : Bool} {v u : PK.D} {x y : V} (r : Rel K lk ρ G H) (p : Rep K lk ρ G.length H v x) (p' : Rep K lk ρ G.length H u y) (h : OutE K lk W σ ρ G H (PK.binD o w v u G) Q) : rBin K o x y H Q := by
  cases o with
  | add =>
    have lists : (∀ i j, ¬ (v = .int i ∧ u = .int j)) → (∀ i j, ¬ (v = .str i ∧ u = .str j)) → (∀ i j, ¬ (v = .tup i ∧ u = .tup j)) → rBin K .add x y H Q := fun n1 n2 n3 => by
      have e : PK.binD .add w v u G = match PK.lstD G v, PK.lstD G u with
          | some a, some b => if PK.szOk (a.length + b.length) then PK.mkl w (a ++ b) G else .bad
          | _, _ => .bad := by
        cases v <;> cases u <;> first | rfl | exact absurd ⟨rfl, rfl⟩ (n1 _ _) | exact absurd ⟨rfl, rfl⟩ (n2 _ _) | exact absurd ⟨rfl, rfl⟩ (n3 _ _)
      rw [e] at h
      cases q1 : PK.lstD G v with
      | none => rw [q1] at h; exact h.elim
      | some a =>
        cases q2 : PK.lstD G u with
        | none => rw [q1, q2] at h; exact h.elim
        | some b =>
          rw [q1, q2] at h
          simp only at h
          split at h
          · exact bin_lists r q1 q2 p p' (by assumption) h
          · exact h.elim
    cases v with
    | int i =>
      cases u with
      | int j => exact .inl ⟨i, j, p, p', h.here r rfl⟩
      | _ => exact lists (by intro _ _ z; cases z.2) (by intro _ _ z; cases z.1) (by intro _ _ z; cases z.1)
    | str i =>
      cases u with
      | str j =>
        have h : OutE K lk W σ ρ G H (if PK.szOk (i.length + j.length) then .ok (.str (i ++ j)) G else .bad) Q := h
        split at h
        · exact .inr (.inl ⟨i, j, p, p', szOk_le (by assumption), h.here r rfl⟩)
        · exact h.elim
      | _ => exact lists (by intro _ _ z; cases z.1) (by intro _ _ z; cases z.2) (by intro _ _ z; cases z.1)
    | tup i =>
      cases u with
      | tup j =>
        have h : OutE K lk W σ ρ G H (if PK.szOk (i.length + j.length) then .ok (.tup (i ++ j)) G else .bad) Q := h
        split at h
        · obtain ⟨A, vs, h1, h2, h3⟩ := p
          obtain ⟨B, ws, h4, h5, h6⟩ := p'
          have ha := h3.append h6
          refine .inr (.inr (.inl ⟨A, B, vs, ws, h1, h4, h2.sq, h5.sq, by rw [← h3.length, ← h6.length]; exact szOk_le (by assumption), fun e => ?_, fun e1 e2 => ?_, fun _ _ => h.tup r ha⟩))
          · subst e
            have ei : i = [] := List.length_eq_zero_iff.mp h3.length
            subst ei
            exact h.here r ⟨B, ws, rfl, h5, ha⟩
          · subst e2
            have ei : j = [] := List.length_eq_zero_iff.mp h6.length
            subst ei
            exact h.here r ⟨A, vs, rfl, by rw [List.append_nil]; exact h2, by simpa using ha⟩
        · exact h.elim
      | _ => exact lists (by intro _ _ z; cases z.1) (by intro _ _ z; cases z.1) (by intro _ _ z; cases z.2)
    | _ => exact lists (by intro _ _ z; cases z.1) (by intro _ _ z; cases z.1) (by intro _ _ z; cases z.1)
  | sub =>
    cases v <;> cases u <;> first | exact h.elim | exact ⟨_, _, p, p', OutE.here h r rfl⟩
  | mul =>
    have lists : ∀ k, u = .int k → (∀ i, v ≠ .int i) → (∀ i, v ≠ .str i) → rBin K .mul x y H Q := fun k hk nv ns => by
      subst hk
      have e : PK.binD .mul w v (.int k) G = match PK.lstD G v with
          | some a => if PK.szOk (a.length * k.toNat) && decide (-(2 ^ 63) ≤ k ∧ k < 2 ^ 63) then PK.mkl w (List.replicate k.toNat a).flatten G else .bad
          | none => .bad := by
        cases v <;> first | rfl | exact absurd rfl (nv _) | exact absurd rfl (ns _)
      rw [e] at h
      cases q1 : PK.lstD G v with
      | none => rw [q1] at h; exact h.elim
      | some a =>
        rw [q1] at h
        simp only at h
        split at h
        · rename_i hc
          obtain ⟨c1, c2⟩ := Bool.and_eq_true_iff.mp hc
          have c2 := of_decide_eq_true c2
          obtain ⟨A, vs, h1, h2, h3⟩ := lst_of q1 r p
          exact .inr (.inl ⟨A, k, vs, h1, p', h2, c2.1, c2.2, by rw [← h3.length]; exact szOk_le c1, h.mkl r (h3.flatten_replicate k.toNat)⟩)
        · exact h.elim
    cases v with
    | int i =>
      cases u with
      | int j =>
        have h : OutE K lk W σ ρ G H (if PK.mulOk i j then .ok (.int (i * j)) G else .bad) Q := h
        split at h
        · rename_i hc
          have hc := of_decide_eq_true hc
          exact .inl ⟨i, j, p, p', by
            rcases hc with hc | hc
            · have a1 := log_of hc.1
              have a2 := log_of hc.2
              exact .inl (by unfold CMulW; omega)
            · exact .inr hc, h.here r rfl⟩
        · exact h.elim
      | _ => exact h.elim
    | str i => cases u with
      | int k =>
        have h : OutE K lk W σ ρ G H (if (decide (0 ≤ k ∧ k ≤ 1000) && decide (i.length ≤ 1000)) = true then .ok (.str (Txt.mul i k)) G else .bad) Q := h
        split at h
        · rename_i hc
          obtain ⟨c1, c2⟩ := Bool.and_eq_true_iff.mp hc
          exact .inr (.inr ⟨i, k, p, p', of_decide_eq_true c1, of_decide_eq_true c2, h.here r rfl⟩)
        · exact h.elim
      | _ => exact False.elim h
    | _ => cases u with
      | int k => exact lists k rfl (by intro _ z; cases z) (by intro _ z; cases z)
      | _ => exact False.elim h
  | fdiv =>
    cases v with
    | int i =>
      cases u with
      | int j =>
        have h : OutE K lk W σ ρ G H (if PK.divOk j then .ok (.int (i / j)) G else .bad) Q := h
        split at h
        · rename_i hc
          have hc := of_decide_eq_true hc
          refine ⟨i, j, p, p', ⟨hc.1, ?_⟩, h.here r rfl⟩
          have : j.natAbs < 2 ^ 1000 := by omega
          exact Nat.lt_trans (log_of this) (by decide)
        · exact h.elim
      | _ => exact h.elim
    | _ => cases u <;> exact h.elim
  | mod =>
    cases v with
    | int i =>
      cases u with
      | int j =>
        have h : OutE K lk W σ ρ G H (if decide (0 < j) then .ok (.int (i % j)) G else .bad) Q := h
        split at h
        · rename_i hc
          exact ⟨i, j, p, p', of_decide_eq_true hc, h.here r rfl⟩
        · exact h.elim
      | _ => exact h.elim
    | _ => cases u <;> exact h.elim
  | pow =>
    cases v with
    | int i =>
      cases u with
      | int j =>
        have h : OutE K lk W σ ρ G H (if decide (0 ≤ j ∧ j ≤ 1000 ∧ i.natAbs < 2 ^ 64) then .ok (.int (i ^ j.toNat)) G else .bad) Q := h
        split at h
        · rename_i hc
          have hc := of_decide_eq_true hc
          exact ⟨i, j, p, p', ⟨hc.1, by omega, hc.2.2⟩, h.here r rfl⟩
        · exact h.elim
      | _ => exact h.elim
    | _ => cases u <;> exact h.elim

def rInDk : R2 := fun y x H Q => ∃ a o, x = .ref a ∧ DGet H a y o ∧ Q (.bl o.isSome) H
def rNotInDk : R2 := fun y x H Q => ∃ a o, x = .ref a ∧ DGet H a y o ∧ Q (.bl (!o.isSome)) H
theorem op_inDk (hu : X.A.units + 1 < cLine) : OpR X (compareOp .In) rInDk := by
  intro pins s σ H y x iv u Q I ry rx h
  obtain ⟨a, ov, ex, g, q⟩ := h
  subst ex
  obtain rfl : u = Value.ref a := rx
  exact d_in hu I g ry fun s3 I3 => ⟨.bl ov.isSome, H, I3, rfl, q⟩
theorem op_notInDk (hu : X.A.units + 1 < cLine) : OpR X (compareOp .NotIn) rNotInDk := by
  intro pins s σ H y x iv u Q I ry rx h
  obtain ⟨a, ov, ex, g, q⟩ := h
  subst ex
  obtain rfl : u = Value.ref a := rx
  exact d_notIn hu I g ry fun s3 I3 => ⟨.bl (!ov.isSome), H, I3, rfl, q⟩
def rInP (K : PySem.W.Frag) (neg : Bool) : R2 := fun x y H Q => ∃ d ds, Dp K H x d ∧ Dp K H y (.list ds) ∧ SeqAt.shaped d = true ∧ SeqAt.shaped (.list ds) = true ∧ d.depth ≤ 8 ∧ Q (.bl (if neg then !(ds.any fun z => PyData.eqv z d) else ds.any fun z => PyData.eqv z d)) H
theorem op_inP (hu : X.A.units + 64 < cLine) : OpR X (compareOp .In) (rInP X.K false) := by
  intro pins s σ H x y v u Q I rx ry h
  obtain ⟨d, ds, hd, he, sd, se, dp, q⟩ := h
  obtain ⟨as, r1⟩ := Dp.reads I d x v hd rx
  obtain ⟨bs, r2⟩ := Dp.reads I (.list ds) y u he ry
  exact SeqAt.in_list_reads r2 r1 (SeqAt.canLay_of_shaped se) (SeqAt.canLay_of_shaped sd) (by have := Nat.min_le_right (PyData.depthAll ds) d.depth; omega) ⟨.bl _, H, I, rfl, q⟩
theorem op_notInP (hu : X.A.units + 64 < cLine) : OpR X (compareOp .NotIn) (rInP X.K true) := by
  intro pins s σ H x y v u Q I rx ry h
  obtain ⟨d, ds, hd, he, sd, se, dp, q⟩ := h
  obtain ⟨as, r1⟩ := Dp.reads I d x v hd rx
  obtain ⟨bs, r2⟩ := Dp.reads I (.list ds) y u he ry
  exact SeqAt.notIn_list_reads r2 r1 (SeqAt.canLay_of_shaped se) (SeqAt.canLay_of_shaped sd) (by have := Nat.min_le_right (PyData.depthAll ds) d.depth; omega) ⟨.bl _, H, I, rfl, q⟩
mutual
theorem pd_depth : ∀ (n : Nat) (x : PK.D) (d : PyData), PK.pd G n x = some d → d.depth ≤ n ∧ d.hasDict = false
  | 0, x, d, e => by cases x <;> cases e
  | n + 1, .non, d, e => by cases e; simp [PyData.depth, PyData.hasDict]
  | n + 1, .bl b, d, e => by cases e; simp [PyData.depth, PyData.hasDict]
  | n + 1, .int i, d, e => by cases e; simp [PyData.depth, PyData.hasDict]
  | n + 1, .str b, d, e => by cases e; simp [PyData.depth, PyData.hasDict]
  | n + 1, .tup ds, d, e => by
    have e : (PK.pds (PK.pd G n) ds).map .tuple = some d := e
    cases q : PK.pds (PK.pd G n) ds with
    | none => rw [q] at e; cases e
    | some xs =>
      rw [q] at e; cases e
      obtain ⟨a, b⟩ := pds_depth n ds xs q
      simp only [PyData.depth, PyData.hasDict]; exact ⟨by omega, b⟩
  | n + 1, .lst ds, d, e => by
    have e : (PK.pds (PK.pd G n) ds).map .list = some d := e
    cases q : PK.pds (PK.pd G n) ds with
    | none => rw [q] at e; cases e
    | some xs =>
      rw [q] at e; cases e
      obtain ⟨a, b⟩ := pds_depth n ds xs q
      simp only [PyData.depth, PyData.hasDict]; exact ⟨by omega, b⟩
  | n + 1, .fz ds, d, e => by
    have e : (PK.pds (PK.pd G n) ds).map .list = some d := e
    cases q : PK.pds (PK.pd G n) ds with
    | none => rw [q] at e; cases e
    | some xs =>
      rw [q] at e; cases e
      obtain ⟨a, b⟩ := pds_depth n ds xs q
      simp only [PyData.depth, PyData.hasDict]; exact ⟨by omega, b⟩
  | n + 1, .ref i, d, e => by
    unfold PK.pd at e
    cases q : G[i]? with
    | none => simp [q] at e
    | some c =>
      cases c with
      | lst es =>
        simp only [q] at e
        cases q2 : PK.pds (PK.pd G n) es with
        | none => rw [q2] at e; cases e
        | some xs =>
          rw [q2] at e; cases e
          obtain ⟨a, b⟩ := pds_depth n es xs q2
          simp only [PyData.depth, PyData.hasDict]; exact ⟨by omega, b⟩
      | _ => simp [q] at e
  | n + 1, .ins c ds, d, e => by cases e
  | n + 1, .exc c, d, e => by cases e
termination_by n => (n, 0)
theorem pds_depth : ∀ (n : Nat) (xs : List PK.D) (ds : List PyData), PK.pds (PK.pd G n) xs = some ds → PyData.depthAll ds ≤ n ∧ PyData.hasDictAll ds = false
  | n, [], ds, e => by cases e; simp [PyData.depthAll, PyData.hasDictAll]
  | n, x :: xs, ds, e => by
    have e : ((PK.pd G n x).bind fun x => (PK.pds (PK.pd G n) xs).bind fun xs => some (x :: xs)) = some ds := e
    cases q1 : PK.pd G n x with
    | none => rw [q1] at e; cases e
    | some d =>
      cases q2 : PK.pds (PK.pd G n) xs with
      | none => rw [q1, q2] at e; cases e
      | some es =>
        rw [q1, q2] at e; cases e
        obtain ⟨a, b⟩ := pd_depth n x d q1
        obtain ⟨a2, b2⟩ := pds_depth n xs es q2
        simp only [PyData.depthAll, PyData.hasDictAll, b, b2]
        exact ⟨by omega, rfl⟩
termination_by n xs => (n, xs.length + 1)
end
def rCmp (K : PySem.W.Frag) (w : World) : PK.Co → R2
  | .eq => fun x y H Q => rEq x y H Q ∨ rEqD K x y H Q ∨ rEqE false x y H Q
  | .ne => fun x y H Q => rNe x y H Q ∨ rNeD K x y H Q ∨ rEqE true x y H Q
  | .lt => fun x y H Q => rI0 (fun i j => .bl (decide (i < j))) x y H Q ∨ (∃ i j, x = .str i ∧ y = .str j ∧ Q (.bl (decide (i.cps.toList < j.cps.toList))) H) ∨ rLtT K x y H Q
  | .le => rI0 fun i j => .bl (decide (i ≤ j))
  | .gt => rI0 fun i j => .bl (decide (j < i))
  | .ge => rI0 fun i j => .bl (decide (j ≤ i))
  | .isin => fun x y H Q => (∃ (c : Nat) (z : Str), x = .str ⟨#[c]⟩ ∧ y = .str z ∧ Q (.bl (decide (c ∈ z.cps.toList))) H) ∨ rIn K false x y H Q ∨ rInDk x y H Q
  | .notin => fun x y H Q => (∃ (c : Nat) (z : Str), x = .str ⟨#[c]⟩ ∧ y = .str z ∧ Q (.bl (!decide (c ∈ z.cps.toList))) H) ∨ rIn K true x y H Q ∨ rNotInDk x y H Q
  | .is_ => fun x y H Q => y = .non ∧ Q (.bl (decide (x = .non))) H
  | .isnot => fun x y H Q => y = .non ∧ Q (.bl (!decide (x = .non))) H
  | .inp => rInP K false
  | .notinp => rInP K true
def cmOf : PK.Co → CmpOp
  | .eq => .Eq | .ne => .NotEq | .lt => .Lt | .le => .LtE | .gt => .Gt | .ge => .GtE | .isin => .In | .notin => .NotIn | .is_ => .Is | .isnot => .IsNot | .inp => .In | .notinp => .NotIn
theorem op_cmp (hu : X.A.units + 64 < cLine) (o : PK.Co) : OpR X (compareOp (cmOf o)) (rCmp X.K X.w o) := by
  cases o with
  | eq => exact op_eq.or ((op_eqD hu).or (op_eqE hu))
  | ne => exact op_ne.or ((op_neD hu).or (op_neE hu))
  | lt => exact op_lt.or (op_lt_str.or (op_ltT (by omega)))
  | le => exact op_le
  | gt => exact op_gt
  | ge => exact op_ge
  | isin => exact op_in_sign.or (op_in_seq.or (op_inDk (by omega)))
  | notin => exact op_notIn_sign.or (op_notIn_seq.or (op_notInDk (by omega)))
  | is_ => exact op_isN
  | isnot => exact op_notN
  | inp => exact op_inP hu
  | notinp => exact op_notInP hu
theorem scal_of {v u : PK.D} {x y : V} {n : Nat} {b : Bool} (p : Rep K lk ρ n H v x) (p' : Rep K lk ρ n H u y) (e : PK.scalD v u = some b) : scal x y = true ∧ decide (x = y) = b := by
  cases v <;> cases u <;> first
    | (cases e; done)
    | (rw [show x = _ from p, show y = _ from p']; cases e; refine ⟨rfl, ?_⟩; simp; done)
    | (rw [show x = _ from p, show y = _ from p']; cases e; refine ⟨rfl, ?_⟩; rfl)
theorem dlen_of {i : Nat} {n : Nat} {x : V} (r : Rel K lk ρ G H) (p : Rep K lk ρ G.length H (.ref i) x) (e : PK.dlen G[i]? = some n) : ∃ a, x = .ref a ∧ DLen H a n := by
  obtain ⟨hi, hv⟩ := p
  cases q : G[i]? with
  | none => rw [q] at e; cases e
  | some c =>
    obtain ⟨u, h1, h2⟩ := r.cell i c q
    rw [q] at e
    cases c with
    | dK kvs =>
      cases e
      obtain ⟨zs, rfl, h3⟩ := h2
      exact ⟨ρ i, hv, .inl ⟨zs, h1, by have := congrArg List.length h3.1; simpa using this⟩⟩
    | dT kvs =>
      cases e
      obtain ⟨zs, rfl, h3⟩ := h2
      exact ⟨ρ i, hv, .inr ⟨zs, h1, by have := congrArg List.length h3.1; simpa using this⟩⟩
    | _ => cases e
theorem eqE_val {v u : PK.D} {x y : V} {b : Bool} (r : Rel K lk ρ G H) (p : Rep K lk ρ G.length H v x) (p' : Rep K lk ρ G.length H u y) (e : PK.eqE G v u = some b) :
    ∃ a c n, x = .ref a ∧ y = .ref c ∧ DLen H a n ∧ DLen H c 0 ∧ (n == 0) = b := by
  cases v with
  | ref i => cases u with
    | ref j =>
      have e : (match PK.dlen G[i]?, PK.dlen G[j]? with | some n, some 0 => some (n == 0) | _, _ => none) = some b := e
      cases q1 : PK.dlen G[i]? with
      | none => rw [q1] at e; cases e
      | some n => cases q2 : PK.dlen G[j]? with
        | none => rw [q1, q2] at e; cases e
        | some m => cases m with
          | succ m => rw [q1, q2] at e; cases e
          | zero =>
            rw [q1, q2] at e
            cases e
            obtain ⟨a, h1, h2⟩ := dlen_of r p q1
            obtain ⟨c, h3, h4⟩ := dlen_of r p' q2
            exact ⟨a, c, n, h1, h3, h2, h4, rfl⟩
    | _ => cases e
  | _ => cases e
theorem eq_val {v u : PK.D} {x y : V} {b : Bool} (r : Rel K lk ρ G H) (p : Rep K lk ρ G.length H v x) (p' : Rep K lk ρ G.length H u y) (e : PK.eqD G v u = some b) :
    (scal x y = true ∧ decide (x = y) = b) ∨ (∃ d e, Dp K H x d ∧ Dp K H y e ∧ SeqAt.shaped d = true ∧ SeqAt.shaped e = true ∧ PyData.eqv d e = b) ∨ ∃ a c n, x = .ref a ∧ y = .ref c ∧ DLen H a n ∧ DLen H c 0 ∧ (n == 0) = b := by
  unfold PK.eqD at e
  cases q : PK.scalD v u with
  | some c => rw [q] at e; cases e; exact .inl (scal_of p p' q)
  | none =>
    rw [q] at e
    simp only at e
    cases q1 : PK.pd G 8 v with
    | none => rw [q1] at e; exact .inr (.inr (eqE_val r p p' e))
    | some d =>
      cases q2 : PK.pd G 8 u with
      | none => rw [q1, q2] at e; exact .inr (.inr (eqE_val r p p' e))
      | some d' =>
        rw [q1, q2] at e
        simp only at e
        split at e
        · rename_i hc
          obtain ⟨c1, c2⟩ := Bool.and_eq_true_iff.mp hc
          cases e
          exact .inr (.inl ⟨d, d', dp_of r 8 v x d q1 p, dp_of r 8 u y d' q2 p', c1, c2, rfl⟩)
        · cases e
theorem flat_of {v : PK.D} {x a : V} {n : Nat} (p : Rep K lk ρ n H v x) (e : PK.flatD v = some a) : x = a ∧ flatV a = true := by
  cases v <;> cases e <;> exact ⟨p, rfl⟩
theorem flats_of : ∀ {ds : List PK.D} {vs as : List V} {n : Nat}, Reps K lk ρ n H ds vs → PK.flats ds = some as → vs = as ∧ as.all flatV = true
  | [], vs, as, n, p, e => by cases e; exact ⟨p, rfl⟩
  | d :: ds, vs, as, n, p, e => by
    obtain ⟨x, xs, h1, h2, h3⟩ := p
    have e : ((PK.flatD d).bind fun x => (PK.flats ds).bind fun xs => some (x :: xs)) = some as := e
    cases q1 : PK.flatD d with
    | none => rw [q1] at e; cases e
    | some a =>
      cases q2 : PK.flats ds with
      | none => rw [q1, q2] at e; cases e
      | some bs =>
        rw [q1, q2] at e; cases e
        obtain ⟨f1, f2⟩ := flat_of h2 q1
        obtain ⟨g1, g2⟩ := flats_of h3 q2
        subst f1 g1
        refine ⟨h1, ?_⟩
        rw [List.all_cons, f2, g2]; rfl
theorem key_of {v : PK.D} {x : V} {n : Nat} {k : Key} (p : Rep K lk ρ n H v x) (e : PK.keyD v = some k) : x = kV k := by
  cases v <;> cases e <;> exact p
theorem keys_of : ∀ {ds : List PK.D} {vs : List V} {n : Nat} {ks : List Key}, Reps K lk ρ n H ds vs → PK.keysD ds = some ks → vs = ks.map kV
  | [], vs, n, ks, p, e => by cases e; exact p
  | d :: ds, vs, n, ks, p, e => by
    obtain ⟨x, xs, h1, h2, h3⟩ := p
    have e : ((PK.keyD d).bind fun x => (PK.keysD ds).bind fun xs => some (x :: xs)) = some ks := e
    cases q1 : PK.keyD d with
    | none => rw [q1] at e; cases e
    | some a =>
      cases q2 : PK.keysD ds with
      | none => rw [q1, q2] at e; cases e
      | some bs =>
        rw [q1, q2] at e; cases e
        rw [h1, key_of h2 q1, keys_of h3 q2]; rfl
theorem valD_of {κ : Type} [DecidableEq κ] : ∀ {kvs : List (κ × PK.D)} {zs : List (κ × V)} {n : Nat} (k : κ), RepK K lk ρ n H kvs zs →
    (PK.valD kvs k = none ∧ valV zs k = none) ∨ ∃ d v, PK.valD kvs k = some d ∧ valV zs k = some v ∧ Rep K lk ρ n H d v
  | [], zs, n, k, h => by
    have : zs = [] := by have := h.1; simpa using this
    subst this
    exact .inl ⟨rfl, rfl⟩
  | (k', d) :: kvs, zs, n, k, h => by
    obtain ⟨h1, x, xs, h2, h3, h4⟩ := h
    cases zs with
    | nil => cases h1
    | cons z zs =>
      obtain ⟨kz, vz⟩ := z
      simp only [List.map_cons, List.cons.injEq] at h1 h2
      obtain ⟨h1a, h1b⟩ := h1
      obtain ⟨h2a, h2b⟩ := h2
      subst h1a h2a
      by_cases q : kz = k
      · refine .inr ⟨d, vz, ?_, valV_pos q, h3⟩
        simp [PK.valD, q]
      · have ih := valD_of (kvs := kvs) (zs := zs) k ⟨h1b, by rw [h2b]; exact h4⟩
        rw [valV_neg q]
        have e : PK.valD ((kz, d) :: kvs) k = PK.valD kvs k := by simp [PK.valD, q]
        rw [e]
        exact ih
theorem look_of {d k : PK.D} {x y : V} {o : Option PK.D} (r : Rel K lk ρ G H) (p : Rep K lk ρ G.length H d x) (p' : Rep K lk ρ G.length H k y) (e : PK.lookD G d k = some o) :
    ∃ a z, x = .ref a ∧ DGet H a y z ∧ ((o = none ∧ z = none) ∨ ∃ d' v, o = some d' ∧ z = some v ∧ Rep K lk ρ G.length H d' v) := by
  cases d with
  | ref i =>
    obtain ⟨hi, hv⟩ := p
    unfold PK.lookD at e
    simp only at e
    cases q : G[i]? with
    | none => rw [q] at e; cases e
    | some c =>
      rw [q] at e
      cases c with
      | dK kvs =>
        obtain ⟨u, h1, zs, h2, h3⟩ := r.cell i _ q
        subst h2
        simp only at e
        cases q1 : PK.keyD k with
        | none => rw [q1] at e; cases e
        | some kk =>
          rw [q1] at e; cases e
          refine ⟨ρ i, valV zs kk, hv, ?_, ?_⟩
          · rw [key_of p' q1]; exact DGet.k h1
          · rcases valD_of kk h3 with ⟨a, b⟩ | ⟨d', v, a, b, c⟩
            · exact .inl ⟨a, b⟩
            · exact .inr ⟨d', v, a, b, c⟩
      | dT kvs =>
        obtain ⟨u, h1, zs, h2, h3⟩ := r.cell i _ q
        subst h2
        simp only at e
        cases k with
        | tup es =>
          obtain ⟨a, vs, e1, e2, e3⟩ := p'
          simp only at e
          cases q1 : PK.keysD es with
          | none => rw [q1] at e; cases e
          | some kk =>
            rw [q1] at e; cases e
            refine ⟨ρ i, valV zs kk, hv, ?_, ?_⟩
            · rw [e1]
              refine DGet.t h1 ?_
              rw [← keys_of e3 q1]
              rcases e2 with e2 | e2
              · exact e2
              · rw [e2.2] at q1; cases q1
            · rcases valD_of kk h3 with ⟨a, b⟩ | ⟨d', v, a, b, c⟩
              · exact .inl ⟨a, b⟩
              · exact .inr ⟨d', v, a, b, c⟩
        | _ => cases e
      | _ => cases e
  | _ => cases e
theorem in_val {v u : PK.D} {x y : V} {b : Bool} (r : Rel K lk ρ G H) (p : Rep K lk ρ G.length H v x) (p' : Rep K lk ρ G.length H u y) (e : PK.inD G v u = some b) :
    (∃ (c : Nat) (z : Str), x = .str ⟨#[c]⟩ ∧ y = .str z ∧ decide (c ∈ z.cps.toList) = b) ∨ (∃ a xs, y = .ref a ∧ (SqL K H a xs ∨ SqT K H a xs) ∧ flatV x = true ∧ xs.all flatV = true ∧ inV x xs = b) ∨ ∃ a o, y = .ref a ∧ DGet H a x o ∧ o.isSome = b := by
  have sq : ∀ {ds}, PK.seqD G u = some ds → ((PK.flatD v).bind fun a => (PK.flats ds).map fun bs => L2.inV a bs) = some b → ∃ a xs, y = .ref a ∧ (SqL K H a xs ∨ SqT K H a xs) ∧ flatV x = true ∧ xs.all flatV = true ∧ inV x xs = b := by
    intro ds q e
    cases q1 : PK.flatD v with
    | none => rw [q1] at e; cases e
    | some a =>
      cases q2 : PK.flats ds with
      | none => rw [q1, q2] at e; cases e
      | some bs =>
        rw [q1, q2] at e; cases e
        obtain ⟨A, vs, h1, h2, h3, _⟩ := seq_of q r p'
        obtain ⟨f1, f2⟩ := flat_of p q1
        obtain ⟨g1, g2⟩ := flats_of h3 q2
        subst f1 g1
        exact ⟨A, _, h1, h2, f2, g2, rfl⟩
  cases u with
  | str z =>
    cases v with
    | str s =>
      obtain ⟨⟨l⟩⟩ := s
      match l, e, p with
      | [c], e, p => exact .inl ⟨c, z, p, p', Option.some.inj e⟩
      | [], e, _ => cases e
      | _ :: _ :: _, e, _ => cases e
    | _ => cases e
  | tup ds => exact .inr (.inl (sq rfl e))
  | lst ds => exact .inr (.inl (sq rfl e))
  | fz ds => exact .inr (.inl (sq rfl e))
  | ref i =>
    unfold PK.inD at e
    simp only at e
    have dk : (PK.lookD G (.ref i) v).map Option.isSome = some b → ∃ a o, y = .ref a ∧ DGet H a x o ∧ o.isSome = b := fun e => by
      cases q2 : PK.lookD G (.ref i) v with
      | none => rw [q2] at e; cases e
      | some o =>
        rw [q2] at e
        obtain ⟨a, z, h1, h2, h3⟩ := look_of r p' p q2
        refine ⟨a, z, h1, h2, ?_⟩
        cases e
        rcases h3 with ⟨e1, e2⟩ | ⟨d', v', e1, e2, _⟩ <;> rw [e1, e2] <;> rfl
    cases q : G[i]? with
    | none => rw [q] at e; exact .inr (.inr (dk e))
    | some c =>
      cases c with
      | lst ds =>
        rw [q] at e
        exact .inr (.inl (sq (by unfold PK.seqD; simp only [q]) e))
      | _ => rw [q] at e; exact .inr (.inr (dk e))
  | _ => cases e
end
end PKS
namespace PKS
open PySem PySem.Spec PyProof.Rows L2
section
variable {K : PySem.W.Frag} {lk : Lk} {W : WX} {σ : L2.St} {ρ : Nm} {G : Cells} {H : Hp} {Q : VK} {X : Cx}
theorem inP_val {v u : PK.D} {x y : V} {b : Bool} (r : Rel K lk ρ G H) (p : Rep K lk ρ G.length H v x) (p' : Rep K lk ρ G.length H u y) (e : PK.inP G v u = some b) :
    ∃ d ds, Dp K H x d ∧ Dp K H y (.list ds) ∧ SeqAt.shaped d = true ∧ SeqAt.shaped (.list ds) = true ∧ d.depth ≤ 8 ∧ (ds.any fun z => PyData.eqv z d) = b := by
  unfold PK.inP at e
  split at e
  · rename_i d ds e1 e2
    split at e
    · rename_i c
      obtain ⟨c1, c2⟩ := Bool.and_eq_true_iff.mp c
      exact ⟨d, ds, dp_of r 8 v x d e1 p, dp_of r 8 u y _ e2 p', c1, c2, (pd_depth 8 v d e1).1, Option.some.inj e⟩
    · cases e
  · cases e
theorem lt_tup (ds : List PK.D) (u : PK.D) (G : Cells) : PK.cmpD .lt (.tup ds) u G = .bad ∨ ∃ a b c d, ds = [.int a, .int b] ∧ u = .tup [.int c, .int d] := by
  unfold PK.cmpD
  dsimp only
  split
  · rename_i q; cases q
  · rename_i q; cases q
  · rename_i a b c d q1
    cases q1
    exact .inr ⟨_, _, _, _, rfl, rfl⟩
  · exact .inl rfl
theorem cmp_val (o : PK.Co) {w : World} {v u : PK.D} {x y : V} (r : Rel K lk ρ G H) (p : Rep K lk ρ G.length H v x) (p' : Rep K lk ρ G.length H u y) (h : OutE K lk W σ ρ G H (PK.cmpD o v u G) Q) : rCmp K w o x y H Q := by
  have ans : ∀ {ob : Option Bool} , OutE K lk W σ ρ G H (match ob with | some c => .ok (.bl c) G | none => .bad) Q → ∃ b, ob = some b ∧ Q (.bl b) H := fun {ob} h => by
    cases ob with
    | none => exact h.elim
    | some b => exact ⟨b, rfl, OutE.here h r rfl⟩
  cases o with
  | eq =>
    obtain ⟨b, e, q⟩ := ans h
    rcases eq_val r p p' e with ⟨a, c⟩ | ⟨d, d', h1, h2, h3, h4, h5⟩ | ⟨a, c, n, h1, h2, h3, h4, h5⟩
    · exact .inl ⟨a, by rw [c]; exact q⟩
    · exact .inr (.inl ⟨d, d', h1, h2, h3, h4, by rw [h5]; exact q⟩)
    · exact .inr (.inr ⟨a, c, n, h1, h2, h3, h4, by rw [h5]; exact q⟩)
  | ne =>
    obtain ⟨b, e, q⟩ := ans h
    cases e2 : PK.eqD G v u with
    | none => rw [e2] at e; cases e
    | some b' =>
      rw [e2] at e; cases e
      rcases eq_val r p p' e2 with ⟨a, c⟩ | ⟨d, d', h1, h2, h3, h4, h5⟩ | ⟨a, c, n, h1, h2, h3, h4, h5⟩
      · exact .inl ⟨a, by rw [c]; exact q⟩
      · exact .inr (.inl ⟨d, d', h1, h2, h3, h4, by rw [h5]; exact q⟩)
      · exact .inr (.inr ⟨a, c, n, h1, h2, h3, h4, by rw [h5]; exact q⟩)
  | isin =>
    obtain ⟨b, e, q⟩ := ans h
    rcases in_val r p p' e with ⟨c, z, h1, h2, h3⟩ | ⟨a, xs, h1, h2, h3, h4, h5⟩ | ⟨a, o, h1, h2, h3⟩
    · exact .inl ⟨c, z, h1, h2, by rw [h3]; exact q⟩
    · exact .inr (.inl ⟨a, xs, h1, h2, h3, h4, by rw [← h5] at q; exact q⟩)
    · exact .inr (.inr ⟨a, o, h1, h2, by rw [h3]; exact q⟩)
  | notin =>
    obtain ⟨b, e, q⟩ := ans h
    cases e2 : PK.inD G v u with
    | none => rw [e2] at e; cases e
    | some b' =>
      rw [e2] at e; cases e
      rcases in_val r p p' e2 with ⟨c, z, h1, h2, h3⟩ | ⟨a, xs, h1, h2, h3, h4, h5⟩ | ⟨a, o, h1, h2, h3⟩
      · exact .inl ⟨c, z, h1, h2, by rw [h3]; exact q⟩
      · exact .inr (.inl ⟨a, xs, h1, h2, h3, h4, by rw [← h5] at q; exact q⟩)
      · exact .inr (.inr ⟨a, o, h1, h2, by rw [h3]; exact q⟩)
  | inp =>
    obtain ⟨b, e, q⟩ := ans h
    obtain ⟨d, ds, h1, h2, h3, h4, h5, h6⟩ := inP_val r p p' e
    exact ⟨d, ds, h1, h2, h3, h4, h5, by rw [← h6] at q; exact q⟩
  | notinp =>
    obtain ⟨b, e, q⟩ := ans h
    cases e2 : PK.inP G v u with
    | none => rw [e2] at e; cases e
    | some b' =>
      rw [e2] at e; cases e
      obtain ⟨d, ds, h1, h2, h3, h4, h5, h6⟩ := inP_val r p p' e2
      exact ⟨d, ds, h1, h2, h3, h4, h5, by rw [← h6] at q; exact q⟩
  | is_ =>
    cases u with
    | non =>
      refine ⟨p', ?_⟩
      have q : Q (.bl (decide (v = .non))) H := OutE.here h r rfl
      have e : decide (x = .non) = decide (v = .non) := by
        cases v with
        | non => rw [show x = .non from p]; simp
        | bl _ => rw [show x = _ from p]; rfl
        | int _ => rw [show x = _ from p]; rfl
        | str _ => rw [show x = _ from p]; rfl
        | tup _ => obtain ⟨_, _, z, _⟩ := p; rw [z]; rfl
        | lst _ => obtain ⟨_, _, z, _⟩ := p; rw [z]; rfl
        | fz _ => obtain ⟨_, _, z, _⟩ := p; rw [z]; rfl
        | ref _ => rw [p.2]; rfl
        | ins _ _ => obtain ⟨_, _, _, _, z, _⟩ := p; rw [z]; rfl
        | exc _ => exact p.elim
      rw [e]; exact q
    | _ => exact h.elim
  | isnot =>
    cases u with
    | non =>
      refine ⟨p', ?_⟩
      have q : Q (.bl (!decide (v = .non))) H := OutE.here h r rfl
      have e : decide (x = .non) = decide (v = .non) := by
        cases v with
        | non => rw [show x = .non from p]; simp
        | bl _ => rw [show x = _ from p]; rfl
        | int _ => rw [show x = _ from p]; rfl
        | str _ => rw [show x = _ from p]; rfl
        | tup _ => obtain ⟨_, _, z, _⟩ := p; rw [z]; rfl
        | lst _ => obtain ⟨_, _, z, _⟩ := p; rw [z]; rfl
        | fz _ => obtain ⟨_, _, z, _⟩ := p; rw [z]; rfl
        | ref _ => rw [p.2]; rfl
        | ins _ _ => obtain ⟨_, _, _, _, z, _⟩ := p; rw [z]; rfl
        | exc _ => exact p.elim
      rw [e]; exact q
    | _ => exact h.elim
  | lt =>
    have tups : ∀ ds, v = .tup ds → rCmp K w .lt x y H Q := fun ds e1 => by
      subst e1
      rcases lt_tup ds u G with z | ⟨a, b, c, d, q1, q2⟩
      · rw [z] at h; exact False.elim h
      · subst q1 q2
        obtain ⟨A, vs, h1, h2, h3⟩ := p
        obtain ⟨B, ws, h4, h5, h6⟩ := p'
        obtain ⟨y1, _, rfl, t1, y2, _, rfl, t2, rfl⟩ := h3
        obtain ⟨z1, _, rfl, t3, z2, _, rfl, t4, rfl⟩ := h6
        cases (show y1 = V.int a from t1); cases (show y2 = V.int b from t2); cases (show z1 = V.int c from t3); cases (show z2 = V.int d from t4)
        refine .inr (.inr ⟨A, B, [a, b], [c, d], h1, h4, h2.sq, h5.sq, ?_⟩)
        have e : HT.lexLt [a, b] [c, d] = if a = c then decide (b < d) else decide (a < c) := by
          rw [HT.lexLt_cons, HT.lexLt_cons]
          by_cases q : a = c
          · rw [if_pos q, if_pos q]
            by_cases q2 : b = d
            · rw [if_pos q2, q2, HT.lexLt_nil_nil, decide_eq_false (by omega)]
            · rw [if_neg q2]
          · rw [if_neg q, if_neg q]
        rw [e]
        exact OutE.here h r rfl
    cases v <;> cases u <;> first
      | exact tups _ rfl
      | exact False.elim h
      | exact .inl ⟨_, _, p, p', OutE.here h r rfl⟩
      | exact .inr (.inl ⟨_, _, p, p', OutE.here h r rfl⟩)
  | le => cases v <;> cases u <;> first | exact h.elim | exact ⟨_, _, p, p', OutE.here h r rfl⟩
  | gt => cases v <;> cases u <;> first | exact h.elim | exact ⟨_, _, p, p', OutE.here h r rfl⟩
  | ge => cases v <;> cases u <;> first | exact h.elim | exact ⟨_, _, p, p', OutE.here h r rfl⟩

def rDk : R2 := fun x y H Q => ∃ a v, x = .ref a ∧ DGet H a y (some v) ∧ Q v H
theorem ix_dk (hu : X.A.units + 1 < cLine) : IxR X rDk := by
  intro value slice pins s σ H x y v u Q I rx ry h hs
  obtain ⟨a, z, rfl, g, q⟩ := h
  obtain rfl : v = Value.ref a := rx
  have hT := dict_typeIs I g
  unfold subscriptTail
  refine wpAny_bind ?_
  rw [getitemInPython_of_ne hT.not_modules]
  refine wpAny_bind (wpAny_specialOf hT PySem.F.slot_dict_getitem.lookup ?_)
  have fin : wpAny (model X.prog X.w) X.A (subscripted slice false (.ref a) u) (fun r s₃ => wpAny (model X.prog X.w) X.A (letTemporaryGo value (.ref a) r >>= fun _ => pure r) (EP X pins σ Q) X.xe s₃) X.xe s := by
    rw [hs]
    exact wpAny_operating (d_getItem hu I g ry fun w' s3 I3 rw' => wpAny_bind (wpAny_letTemporaryGo (wpAny_pure ⟨z, H, I3, rw', q⟩)))
  first
    | exact wpAny_pure (wpAny_bind fin)
    | exact wpAny_bind (wpAny_pure (wpAny_bind fin))
    | exact wpAny_bind fin
def rIxA (K : PySem.W.Frag) : R2 := fun x y H Q => rIxL K x y H Q ∨ rIxT K x y H Q ∨ rIxS x y H Q ∨ rDk x y H Q
theorem ix_all (hu : X.A.units + 1 < cLine) : IxR X (rIxA X.K) := ix_list.or (ix_tup.or (ix_str.or (ix_dk hu)))
theorem at_of {ds : List PK.D} {vs : List V} {i : Int} {d : PK.D} {n : Nat} (p : Reps K lk ρ n H ds vs) (e : L2.atI ds i = some d) : ∃ v, L2.atI vs i = some v ∧ Rep K lk ρ n H d v := by
  unfold L2.atI at e ⊢
  rw [← p.length]
  cases q : L2.ixN ds.length i with
  | none => rw [q] at e; cases e
  | some j =>
    rw [q] at e
    exact p.get e
theorem ix_val {v u : PK.D} {x y : V} (r : Rel K lk ρ G H) (p : Rep K lk ρ G.length H v x) (p' : Rep K lk ρ G.length H u y) (h : OutE K lk W σ ρ G H (PK.ixD v u G) Q) : rIxA K x y H Q := by
  have gen : (∀ z, v ≠ .str z) → rIxA K x y H Q := fun nz => by
    have e : PK.ixD v u G = match PK.seqD G v with
        | some ds => PK.ixL ds u G
        | none => PK.ixK (PK.lookD G v u) G := by
      cases v <;> first | rfl | (exfalso; exact nz _ rfl)
    rw [e] at h
    cases q : PK.seqD G v with
    | some ds =>
      rw [q] at h
      cases u with
      | int i =>
        simp only [PK.ixL] at h
        cases q1 : L2.atI ds i with
        | none => rw [q1] at h; exact h.elim
        | some d =>
          rw [q1] at h
          obtain ⟨A, vs, h1, h2, h3, h4, h5⟩ := seq_of q r p
          obtain ⟨z, h6, h7⟩ := at_of h3 q1
          rcases h2 with h2 | h2
          · exact .inl ⟨A, vs, i, z, h1, p', h2, h6, OutE.here h r h7⟩
          · exact .inr (.inl ⟨A, vs, i, z, h1, p', h2, h6, OutE.here h r h7⟩)
      | _ => exact h.elim
    | none =>
      rw [q] at h
      simp only at h
      cases q1 : PK.lookD G v u with
      | none => rw [q1] at h; exact h.elim
      | some o =>
        rw [q1] at h
        cases o with
        | none => exact h.elim
        | some d =>
          obtain ⟨a, z, h1, h2, h3⟩ := look_of r p p' q1
          rcases h3 with ⟨e1, _⟩ | ⟨d', v', e1, e2, e3⟩
          · cases e1
          · cases e1; subst e2
            exact .inr (.inr (.inr ⟨a, v', h1, h2, OutE.here h r e3⟩))
  cases v with
  | str z =>
    cases u with
    | int i =>
      have h : OutE K lk W σ ρ G H (if PK.szOk z.length then match L2.atI z.cps.toList i with
          | some c => .ok (.str ⟨#[c]⟩) G
          | none => .bad else .bad) Q := h
      split at h
      · rename_i hc
        cases q1 : L2.atI z.cps.toList i with
        | none => rw [q1] at h; exact h.elim
        | some c =>
          rw [q1] at h
          exact .inr (.inr (.inl ⟨z, i, c, p, p', szOk_le hc, q1, OutE.here h r rfl⟩))
      · exact h.elim
    | _ => exact h.elim
  | _ => exact gen (by intro _ z; cases z)

def rSlAll (K : PySem.W.Frag) : V → Option Int → Option Int → Hp → VK → Prop := fun x lo hi H Q => rSlL K x lo hi H Q ∨ rSlA K x lo hi H Q ∨ rSlS x lo hi H Q
theorem sl_all : SlR X (rSlAll X.K) := sl_list.or (sl_tupA.or sl_str)
theorem cut_of {ds : List PK.D} {vs : List V} {n : Nat} (p : Reps K lk ρ n H ds vs) (lo hi : Option Int) : Reps K lk ρ n H (PK.cutD ds lo hi) (cutV vs lo hi) := by
  unfold PK.cutD cutV
  rw [← p.length]
  exact Reps.take _ (Reps.drop _ p)
theorem sl_val {w : Bool} {v : PK.D} {x : V} {lo hi : PK.D} {l h' : Option Int} (r : Rel K lk ρ G H) (p : Rep K lk ρ G.length H v x) (e1 : PK.partD lo = some l) (e2 : PK.partD hi = some h') (h : OutE K lk W σ ρ G H (PK.slD w v lo hi G) Q) : rSlAll K x l h' H Q := by
  unfold PK.slD at h
  rw [e1, e2] at h
  simp only at h
  have gen : (∀ z, v ≠ .tup z) → OutE K lk W σ ρ G H (match PK.seqD G v with
      | some ds => PK.mkl w (PK.cutD ds l h') G
      | none => .bad) Q → rSlAll K x l h' H Q := fun nz h => by
    cases q : PK.seqD G v with
    | none => rw [q] at h; exact h.elim
    | some ds =>
      rw [q] at h
      obtain ⟨A, vs, h1, _, h3, h4, _⟩ := seq_of q r p
      exact .inl ⟨A, vs, h1, h4 nz, h.mkl r (cut_of h3 l h')⟩
  cases v with
  | str z =>
    have h : OutE K lk W σ ρ G H (if PK.szOk z.length then .ok (.str (L2.cutS z l h')) G else .bad) Q := h
    split at h
    · rename_i hc
      exact .inr (.inr ⟨z, p, szOk_le hc, OutE.here h r rfl⟩)
    · exact h.elim
  | tup ds =>
    obtain ⟨A, vs, h1, h2, h3⟩ := p
    have hc := cut_of h3 l h'
    refine .inr (.inl ⟨A, vs, h1, h2.sq, fun ⟨c1, c2⟩ => OutE.here h r ⟨A, vs, rfl, ?_, ?_⟩, fun _ => OutE.tup h r hc⟩)
    · have : PK.cutD ds l h' = ds := by
        unfold PK.cutD
        rw [h3.length, c1, c2]
        simp [← h3.length]
      rw [this]; exact h2
    · have : PK.cutD ds l h' = ds := by
        unfold PK.cutD
        rw [h3.length, c1, c2]
        simp [← h3.length]
      rw [this]; exact h3
  | lst ds => exact gen (by intro _ z; cases z) h
  | fz ds => exact gen (by intro _ z; cases z) h
  | ref i => exact gen (by intro _ z; cases z) h
  | _ => exact h.elim
theorem rev_val {w : Bool} {v : PK.D} {x : V} (r : Rel K lk ρ G H) (p : Rep K lk ρ G.length H v x) (h : OutE K lk W σ ρ G H (PK.revD w v G) Q) : ∃ a xs, x = .ref a ∧ SqL K H a xs ∧ ∀ p, H p = none → Q (.ref p) (upd H p (.lst xs.reverse)) := by
  have gen : (∀ z, v ≠ .tup z) → ∃ a xs, x = .ref a ∧ SqL K H a xs ∧ ∀ p, H p = none → Q (.ref p) (upd H p (.lst xs.reverse)) := fun nz => by
    have e : PK.revD w v G = match PK.seqD G v with
        | some ds => PK.mkl w ds.reverse G
        | none => .bad := by
      cases v <;> first | rfl | exact absurd rfl (nz _)
    rw [e] at h
    cases q : PK.seqD G v with
    | none => rw [q] at h; exact h.elim
    | some ds =>
      rw [q] at h
      obtain ⟨A, vs, h1, _, h3, h4, _⟩ := seq_of q r p
      exact ⟨A, vs, h1, h4 nz, h.mkl r h3.reverse⟩
  cases v with
  | tup _ => exact h.elim
  | _ => exact gen (by intro _ z; cases z)
end
end PKS
namespace PKS
open PySem PySem.Spec PyProof.Rows L2
section
variable {prog : Program} {w : World} {d : Addr}
theorem kdl_raw {K : Type} {xs : List (K × Addr × Value)} {es : Array DictEntry} {ep : Nat} (lo : (d == sysModules) = false) (hx : ∀ i (hi : i < es.size), ∃ y, xs[i]? = some y ∧ es[i].key = .ref y.2.1 ∧ es[i].val = y.2.2) :
    PySem.W.KdlSrc prog w "dict" d d es.size (fun i v => ∃ y, xs[i]? = some y ∧ v = .ref y.2.1) (fun h => h.DictRaw d es ep) where
  type := fun _ hm => hm.typeIs
  there := fun _ hm => ⟨hm.lt_size, hm.lt_size⟩
  keep := fun _ _ hm hk => hm.at fun o e => hk d (.inl rfl) o e
  notList := by decide
  notTuple := by decide
  hint := fun _ _ _ _ hm hq => PySem.W.kdl_hint_dict hm.typeIs hq
  iter := fun _ _ hh hm => ⟨_, _, (fun _ _ hq => wpAny_pyIter_dict_raw lo hm hq), Walks.keysH hh _ d (Nat.ne_of_lt hm.lt_size) es ep hx, ⟨⟨_, Heap.get?_push_size _ rfl, rfl, rfl⟩, hm.push _⟩⟩
end
def KeysAt (H : Hp) : List Addr → List (List L2.Key × V) → Prop
  | [], [] => True
  | a :: as, kv :: kvs => H a = some (.tup (kv.1.map kV)) ∧ KeysAt H as kvs
  | _, _ => False
def rListT : List V → Hp → VK → Prop := fun xs H Q => ∃ p kvs, xs = [.ref p] ∧ H p = some (.dT kvs) ∧ ∀ q as, H q = none → KeysAt H as kvs → Q (.ref q) (upd H q (.lst (as.map V.ref)))
theorem keysAt_of {H : Hp} : ∀ {kvs : List (List L2.Key × V)} {xs : List (List L2.Key × Addr × Value)}, Paired (fun (p : List L2.Key × V) (q : List L2.Key × Addr × Value) => p.1 = q.1 ∧ H q.2.1 = some (.tup (p.1.map kV)) ∧ RelV p.2 q.2.2) kvs xs → KeysAt H (xs.map (·.2.1)) kvs
  | _, _, .nil => trivial
  | _, _, .cons h t => ⟨h.2.1, keysAt_of t⟩
theorem cr_listT {X : Cx} (hc : X.calm = true) : CallR X (.type "list") rListT := by
  intro pins s σ H xs us Q I r h
  obtain ⟨p, kvs, rfl, hk, q⟩ := h
  rw [Vals.ref1 r]
  obtain ⟨z, lo, ys, rk, o, es, ep, ho, hx, hd, he, nd⟩ := (show ObjOk X.prog X.w H s.heap p (.dT kvs) from I.hok p _ hk)
  have hl : kvs.length = ys.length := Paired.length rk
  have hsz : es.size = ys.length := by
    have := congrArg List.length he
    simpa using this
  have hes : ∀ i (hi : i < es.size), ∃ y, ys[i]? = some y ∧ es[i].key = .ref y.2.1 ∧ es[i].val = y.2.2 := fun i hi => by
    have e1 : es.toList[i]? = some es[i] := by simp [hi]
    rw [he, List.getElem?_map] at e1
    cases e2 : ys[i]? with
    | none => rw [e2] at e1; cases e1
    | some y =>
      rw [e2] at e1
      have e1 : some (entryOfKey (tupleKind (mixKind X.prog X.w)) y) = some es[i] := e1
      have := Option.some.inj e1
      exact ⟨y, rfl, by rw [← this]; rfl, by rw [← this]; rfl⟩
  have raw : s.heap.DictRaw p es ep := ⟨o, ho, hx, hd⟩
  refine PySem.W.kdl_call (kdl_raw (prog := X.prog) (w := X.w) lo hes) (I.ok.hd hc) raw (by rw [hsz, ← hl]; exact z) fun h' tk acc c hkeep hS hacc => ?_
  have ka := keysAt_of rk
  have hal : acc.toList = (ys.map (·.2.1)).map Value.ref := by
    refine List.ext_getElem? fun j => ?_
    obtain ⟨n1, n2⟩ := hacc
    rw [List.map_map, List.getElem?_map, Array.getElem?_toList]
    cases e : acc[j]? with
    | none =>
      have : acc.size ≤ j := Array.getElem?_eq_none_iff.mp e
      rw [List.getElem?_eq_none (by rw [← hsz, ← n1]; exact this)]; rfl
    | some v =>
      obtain ⟨y, h1, h2⟩ := n2 j v e
      rw [h1, h2]; rfl
  refine ⟨.ref s.heap.objs.size, upd H s.heap.objs.size (.lst ((ys.map (·.2.1)).map V.ref)), I.laid hkeep (Nat.le_refl _) (show ObjOk X.prog X.w _ _ _ (.lst ((ys.map (·.2.1)).map V.ref)) from ⟨?_, acc.toList, c, ?_, ?_⟩), rfl, q _ _ (I.hok.fresh (Nat.le_refl _)) ka⟩
  · rw [List.length_map, List.length_map, ← hl]; exact z
  · rw [hal]
    have : ∀ l : List Addr, Vals (l.map V.ref) (l.map Value.ref) := fun l => by
      induction l with
      | nil => exact .nil
      | cons a l ih => exact .cons rfl ih
    exact this _
  · rw [Array.toArray_toList]; exact hS
end PKS
namespace PKS
open PySem PySem.Spec PyProof.Rows L2
section
variable {prog : Program} {w : World} {A : Around} {E : Value → Shared → Prop} {s : Shared} {l : Addr} {its : List Value} {ns : List Int} {Q : Value → Shared → Prop}
theorem sum_rawT (hh : A.handled = none) (hl : s.heap.IsTuple l its.toArray) (hi : IntsAre its ns)
    (h : ∀ h' tk t', (∀ b o, s.heap.get? b = some o → h'.get? b = some o) → Q (.int ns.sum t') { s with heap := h', toks := tk }) : wpAny (model prog w) A (call (.builtin "sum") [.ref l]) Q E s := by
  obtain ⟨xs, e⟩ := hi.allInts.items
  have hn : numsOf (intItems xs).toList = ns := by rw [← e]; exact hi.numsOf
  rw [nums_intItems] at hn
  rw [e] at hl
  have hlt : l < s.heap.objs.size := let ⟨_, ho, _⟩ := hl; Heap.lt_size ho
  refine call_sum_walkG (wpAny_pyIter_tuple hl ?_)
  refine ⟨s.heap.objs.size, [s.heap.objs.size, l], [s.heap.objs.size], _, _, _, numAt xs, rfl, Walks.tuple (A := A.in1) hh _ l (Nat.ne_of_lt hlt) (intItems xs), ⟨⟨_, Heap.get?_push_size _ rfl, rfl, rfl⟩, hl.at fun o e => Heap.get?_push_of_some _ e⟩, fun b hb => ?_, (fun _ _ => intItems_at), fun h' tk t' hk => ?_⟩
  · have hb : b = s.heap.objs.size ∨ b = l := by simpa using hb
    show b < (s.heap.push _).objs.size
    rw [Heap.size_push]
    rcases hb with rfl | rfl
    · exact Nat.lt_succ_self _
    · exact Nat.lt_succ_of_lt hlt
  · have := h h' tk t' fun b o eb => hk b o (by simpa using Nat.ne_of_lt (Heap.lt_size eb)) (Heap.get?_push_of_some _ eb)
    have e2 : preSum (numAt xs) (intItems xs).size = ns.sum := by
      rw [show (intItems xs).size = xs.size by simp [intItems], preSum_eq, List.take_of_length_le (by simp), hn]
    rw [e2]
    exact this
end
def rSumT (K : PySem.W.Frag) : List V → Hp → VK → Prop := fun vs H Q => ∃ (a : Addr) (ns : List Int), vs = [V.ref a] ∧ SqT K H a (ns.map V.int) ∧ Q (.int ns.sum) H
theorem cr_sumT {X : Cx} (hc : X.calm = true) : CallR X (.builtin "sum") (rSumT X.K) := by
  intro pins s σ H vs us Q I r h
  obtain ⟨a, ns, rfl, hs, q⟩ := h
  obtain ⟨its, rv, ⟨o, ho, hcl, n, hd⟩, _⟩ := I.tuple hs
  rw [Vals.ref1 r]
  exact sum_rawT (I.ok.hd hc) ⟨o, ho, hcl, n, hd⟩ rv.ints fun h' tk t' hk => ⟨.int _, H, I.kept hk, ⟨_, rfl⟩, q⟩
end PKS
namespace PKS
open PySem PySem.Spec PyProof.Rows L2
def rSortD (K : PySem.W.Frag) : List V → Hp → VK → Prop := fun vs H Q => ∃ (a : Addr) (bs : List (V × PyData)), vs = [V.ref a] ∧ SqL K H a (bs.map (·.1)) ∧ (∀ b ∈ bs, Dp K H b.1 b.2) ∧ PK.sortB (bs.map (·.2)) = true ∧ (∀ b ∈ bs, b.2.depth ≤ 8) ∧
  ∀ p, H p = none → Q (.ref p) (upd H p (.lst ((bs.mergeSort (PySem.W.dataLe false fun b => b.2)).map (·.1))))
theorem each_vals : ∀ {bs : List (V × PyData)} {its : List Value}, Vals (bs.map (·.1)) its → PySem.W.EachIs (fun v (b : V × PyData) => RelV b.1 v) its bs
  | [], [], _ => .nil
  | b :: bs, i :: its, h => by
    cases h with
    | cons h t => exact .cons h (each_vals t)
  | [], _ :: _, h => by cases h
  | _ :: _, [], h => by cases h
theorem vals_each : ∀ {bs : List (V × PyData)} {its : List Value}, PySem.W.EachIs (fun v (b : V × PyData) => RelV b.1 v) its bs → Vals (bs.map (·.1)) its
  | [], _, h => by cases h; exact .nil
  | b :: bs, _, h => by
    cases h with
    | cons h t => exact .cons h (vals_each t)
theorem each_and {α β : Type} {R S : α → β → Prop} : ∀ {as : List α} {bs : List β}, PySem.W.EachIs R as bs → (∀ a b, b ∈ bs → R a b → S a b) → PySem.W.EachIs S as bs
  | _, _, .nil, _ => .nil
  | _, _, .cons r t, h => .cons (h _ _ List.mem_cons_self r) (each_and t fun a b hb => h a b (List.mem_cons_of_mem _ hb))
theorem cr_sortD {X : Cx} (hu : X.A.units + 64 < cLine) : CallR X (.builtin "sorted") (rSortD X.K) := by
  intro pins s σ H vs us Q I r h
  obtain ⟨a, bs, rfl, hs, hd, hb, h7, q⟩ := h
  obtain ⟨its, rv, hl, hz⟩ := I.list hs
  rw [Vals.ref1 r]
  have hz' : bs.length ≤ sizeLine := by rw [List.length_map] at hz; exact hz
  have e := each_vals rv
  obtain ⟨hb1, hb2⟩ := Bool.and_eq_true_iff.mp hb
  have hal : PySem.W.AllAlike (bs.map fun b => b.2) := fun d hd d' hd' => List.all_eq_true.mp (List.all_eq_true.mp hb1 d hd) d' hd'
  have hk : PySem.W.Sortable (bs.map fun b => b.2) := by
    rcases Bool.or_eq_true_iff.mp hb2 with z | z
    · refine .inl fun d hd => ?_
      have := List.all_eq_true.mp z d hd
      match d, this with
      | .tuple (x :: r), _ => exact ⟨x, r, rfl⟩
    · refine .inr fun d hd => ?_
      have := List.all_eq_true.mp z d hd
      constructor
      · intro e; rw [e] at this; cases this
      · intro xs e; rw [e] at this; cases this
  refine PySem.W.sorted_data (enc := fun b : V × PyData => b.2) (R := fun v b => RelV b.1 v) hl.isList e (each_and e fun v b hb rb => Dp.reads I b.2 b.1 v (hd b hb) rb) hal hk hz' (fun b hb => by have := h7 b hb; omega) fun out h1 h2 => ?_
  obtain ⟨ep, he'⟩ := PyProof.Rows.sortedAll_at s.heap its out.toArray
  have hlen : ((bs.mergeSort (PySem.W.dataLe false fun b => b.2)).map (·.1)).length ≤ sizeLine := by
    rw [List.length_map, List.length_mergeSort]; exact hz'
  exact ⟨.ref _, upd H (s.heap.objs.size + 1) (.lst ((bs.mergeSort (PySem.W.dataLe false fun b => b.2)).map (·.1))), I.laid (t' := s.toks) (fun _ _ => PyProof.Rows.sortedAll_old) (Nat.le_succ _) ⟨hlen, out, ep, vals_each h2, he'⟩, rfl, q _ (I.hok.fresh (Nat.le_succ _))⟩
section
variable {K : PySem.W.Frag} {lk : Lk} {ρ : Nm} {G : Cells} {H : Hp}
theorem dpz_of {n : Nat} (r : Rel K lk ρ G H) : ∀ {ds : List PK.D} {es : List PyData} {vs : List V}, PK.pds (PK.pd G n) ds = some es → Reps K lk ρ G.length H ds vs → es.length = ds.length ∧ vs.length = ds.length ∧ (∀ b ∈ vs.zip es, Dp K H b.1 b.2) ∧ (∀ d ∈ es, d.depth ≤ n) ∧ ∀ c ∈ ds.zip (vs.zip es), Rep K lk ρ G.length H c.1 c.2.1
  | [], es, vs, e, p => by
    cases e
    rw [show vs = [] from p]
    exact ⟨rfl, rfl, fun b hb => (nomatch hb), fun d hd => (nomatch hd), fun c hc => (nomatch hc)⟩
  | d :: ds, es, vs, e, p => by
    have e : (PK.pd G n d).bind (fun x => (PK.pds (PK.pd G n) ds).bind fun xs => some (x :: xs)) = some es := e
    cases q : PK.pd G n d with
    | none => rw [q] at e; cases e
    | some x =>
      cases q2 : PK.pds (PK.pd G n) ds with
      | none => rw [q, q2] at e; cases e
      | some xs =>
        rw [q, q2] at e
        cases e
        obtain ⟨v, us, rfl, p1, p2⟩ := p
        obtain ⟨h1, h2, h3, h4, h5⟩ := dpz_of r q2 p2
        refine ⟨by rw [List.length_cons, List.length_cons, h1], by rw [List.length_cons, List.length_cons, h2], fun b hb => ?_, fun d' hd => ?_, fun c hc => ?_⟩
        · rw [List.zip_cons_cons] at hb
          rcases List.mem_cons.mp hb with rfl | hb
          · exact dp_of r n d v x q p1
          · exact h3 b hb
        · rcases List.mem_cons.mp hd with rfl | hd
          · exact (pd_depth n d _ q).1
          · exact h4 _ hd
        · rw [List.zip_cons_cons, List.zip_cons_cons] at hc
          rcases List.mem_cons.mp hc with rfl | hc
          · exact p1
          · exact h5 c hc
theorem reps_of {n : Nat} : ∀ {cs : List (PK.D × (V × PyData))}, (∀ c ∈ cs, Rep K lk ρ n H c.1 c.2.1) → Reps K lk ρ n H (cs.map (·.1)) (cs.map (·.2.1))
  | [], _ => rfl
  | c :: cs, h => ⟨c.2.1, cs.map (·.2.1), rfl, h c List.mem_cons_self, reps_of fun d hd => h d (List.mem_cons_of_mem _ hd)⟩
theorem reps_zip {n : Nat} : ∀ {ds : List PK.D} {vs : List V} {es : List PyData}, Reps K lk ρ n H ds vs → ∀ c ∈ ds.zip (vs.zip es), Rep K lk ρ n H c.1 c.2.1
  | [], _, _, _, c, hc => nomatch hc
  | d :: ds, vs, es, p, c, hc => by
    obtain ⟨v, us, rfl, p1, p2⟩ := p
    match es, hc with
    | [], hc => exact absurd hc (by simp)
    | e :: es, hc =>
      rw [List.zip_cons_cons, List.zip_cons_cons] at hc
      rcases List.mem_cons.mp hc with rfl | hc
      · exact p1
      · exact reps_zip p2 c hc
theorem zip_fst {α β : Type} : ∀ {as : List α} {bs : List β}, as.length = bs.length → (as.zip bs).map (·.1) = as
  | [], _, _ => rfl
  | a :: as, b :: bs, h => by rw [List.zip_cons_cons, List.map_cons, zip_fst (by simpa using h)]
  | _ :: _, [], h => by cases h
theorem zip_snd {α β : Type} : ∀ {as : List α} {bs : List β}, as.length = bs.length → (as.zip bs).map (·.2) = bs
  | [], [], _ => rfl
  | [], _ :: _, h => by cases h
  | a :: as, b :: bs, h => by rw [List.zip_cons_cons, List.map_cons, zip_snd (by simpa using h)]
  | _ :: _, [], h => by cases h
theorem sort_reps {n : Nat} {ds : List PK.D} {vs : List V} {es : List PyData} (h1 : es.length = ds.length) (h2 : vs.length = ds.length) (h : ∀ c ∈ ds.zip (vs.zip es), Rep K lk ρ n H c.1 c.2.1) :
    Reps K lk ρ n H (PK.sortDs ds es) (((vs.zip es).mergeSort (PySem.W.dataLe false fun b => b.2)).map (·.1)) := by
  have hl : (vs.zip es).length = ds.length := by rw [List.length_zip]; omega
  have a1 : ((ds.zip (vs.zip es)).mergeSort (PySem.W.dataLe false fun c => c.2.2)).map (fun c => (c.1, c.2.2)) = (ds.zip es).mergeSort (PySem.W.dataLe false fun b => b.2) := by
    rw [List.map_mergeSort (r := PySem.W.dataLe false fun c : PK.D × (V × PyData) => c.2.2) (s := PySem.W.dataLe false fun b : PK.D × PyData => b.2) (f := fun c : PK.D × (V × PyData) => (c.1, c.2.2)) fun a _ b _ => rfl]
    congr 1
    clear h hl
    induction ds generalizing vs es with
    | nil => rfl
    | cons d ds ih =>
      match vs, es, h1, h2 with
      | v :: vs, e :: es, h1, h2 =>
        rw [List.zip_cons_cons, List.zip_cons_cons, List.map_cons, List.zip_cons_cons, ih (by simpa using h1) (by simpa using h2)]
  have a2 : ((ds.zip (vs.zip es)).mergeSort (PySem.W.dataLe false fun c => c.2.2)).map (fun c => c.2) = (vs.zip es).mergeSort (PySem.W.dataLe false fun b => b.2) := by
    rw [List.map_mergeSort (r := PySem.W.dataLe false fun c : PK.D × (V × PyData) => c.2.2) (s := PySem.W.dataLe false fun b : V × PyData => b.2) (f := fun c : PK.D × (V × PyData) => c.2) fun a _ b _ => rfl, zip_snd hl.symm]
  unfold PK.sortDs
  rw [← a1, ← a2, List.map_map, List.map_map]
  exact reps_of fun c hc => h c (List.mem_mergeSort.mp hc)
end
end PKS
namespace PKS
open PySem PySem.Spec PyProof.Rows L2
def rPopT1 : V → List V → Hp → VK → Prop := fun x xs H Q => ∃ (a : Addr) (kvs : List (List L2.Key × V)) (k : List L2.Key) (b : Addr) (v : V), x = .ref a ∧ xs = [.ref b] ∧ H a = some (.dT kvs) ∧ H b = some (.tup (k.map kV)) ∧
  valV kvs k = some v ∧ Q v (upd H a (.dT (dropK kvs k)))
theorem mt_popT1 {X : Cx} (hu : X.A.units + 1 < cLine) : MtR X "dict.pop" rPopT1 := by
  intro pins s σ H x xs v us Q I rx rxs h
  obtain ⟨a, kvs, k, b, d, rfl, rfl, ha, hb, hk, q⟩ := h
  cases rx
  obtain ⟨u1, rfl, r1⟩ := vals1 rxs
  cases r1
  obtain ⟨z, lo, ys, rel, dd⟩ := dt_of I.hok ha
  have hz : ys.length ≤ sizeLine := by rw [← Paired.length rel]; exact z
  have rv := rel.val k
  rw [hk] at rv
  cases e : atKey ys k with
  | none => rw [e] at rv; exact False.elim rv
  | some p =>
    rw [e] at rv
    refine call_pop_heap (knd := tupleKind (mixKind X.prog X.w)) (.inl rfl) (PySem.F.args_dict_pop_2 _ _) (tupleKind_room_in1 hu) (L2.key_of I.hok hb) lo dd e (fun h' dd' hs => ?_) hz
    obtain ⟨o, es, ep, hq, h2, h3, h4, h6, h5⟩ := dd'
    have kt : L2.KT H (dropK kvs k) (withoutH ys k) := L2.DX.KT_drop k rel
    have J : Inv X pins σ (upd H a (.dT (dropK kvs k))) { s with heap := h', toks := s.toks + (tupleKind (mixKind X.prog X.w)).draws k } :=
      d_write I (by rw [ha]; exact True.intro) hs ⟨o, hq⟩ ⟨Nat.le_trans (dropK_le kvs k) z, lo, withoutH ys k, kt.keeps (fun c zs ec => by rw [upd_ne (ne_of ec ha (fun z => nomatch z))]; exact ec), o, es, ep, hq, h2, h3, h4, h5⟩
    exact ⟨d, _, J, rv, q⟩

theorem dp_key {K : PySem.W.Frag} {H : Hp} : ∀ (k : List L2.Key), DpAll K H (k.map kV) (k.map PK.keyPD)
  | [] => .nil
  | .inl i :: k => .cons (.int i) (dp_key k)
  | .inr s :: k => .cons (.str s) (dp_key k)
theorem depth_key : ∀ (k : List L2.Key), PyData.depthAll (k.map PK.keyPD) ≤ 1
  | [] => by simp [PyData.depthAll]
  | .inl i :: k => by have := depth_key k; simp only [List.map_cons, PK.keyPD, PyData.depthAll, PyData.depth]; omega
  | .inr i :: k => by have := depth_key k; simp only [List.map_cons, PK.keyPD, PyData.depthAll, PyData.depth]; omega
theorem depth_keyT (k : List L2.Key) : (PK.keyTD k).depth ≤ 2 := by
  have := depth_key k
  simp only [PK.keyTD, PyData.depth]; omega
theorem reads_flat {h : Heap} : ∀ (k : List L2.Key) {vs : List Value} {as : List Addr}, ReadsAll h vs (k.map PK.keyPD) as → as = []
  | [], _, _, r => by cases r; rfl
  | .inl i :: k, _, _, r => by
    cases r with
    | cons h1 h2 =>
      cases h1
      rw [reads_flat k h2]; rfl
  | .inr i :: k, _, _, r => by
    cases r with
    | cons h1 h2 =>
      cases h1
      rw [reads_flat k h2]; rfl
theorem reads_keyT {h : Heap} {k : List L2.Key} {v : Value} {as : List Addr} (r : Reads h v (PK.keyTD k) as) : as = [] := by
  cases r with
  | tuple h1 h2 h3 h4 => exact reads_flat k h4
def rSortT : List V → Hp → VK → Prop := fun xs H Q => ∃ p kvs, xs = [.ref p] ∧ H p = some (.dT kvs) ∧ PK.sortB (kvs.map fun kv => PK.keyTD kv.1) = true ∧
  ∀ q as, H q = none → KeysAt H as kvs → Q (.ref q) (upd H q (.lst ((((as.map V.ref).zip (kvs.map fun kv => PK.keyTD kv.1)).mergeSort (PySem.W.dataLe false fun b => b.2)).map (·.1))))
theorem keysAt_get {H : Hp} : ∀ {as : List Addr} {kvs : List (List L2.Key × V)}, KeysAt H as kvs → as.length = kvs.length ∧ ∀ b ∈ (as.map V.ref).zip (kvs.map fun kv => PK.keyTD kv.1), ∃ a k, b = (V.ref a, PK.keyTD k) ∧ H a = some (.tup (k.map kV))
  | [], [], _ => ⟨rfl, fun b h => (nomatch h)⟩
  | a :: as, kv :: kvs, h => by
    obtain ⟨h1, h2⟩ := keysAt_get h.2
    refine ⟨by rw [List.length_cons, List.length_cons, h1], fun b hb => ?_⟩
    rw [List.map_cons, List.map_cons, List.zip_cons_cons] at hb
    rcases List.mem_cons.mp hb with rfl | hb
    · exact ⟨a, kv.1, rfl, h.1⟩
    · exact h2 b hb
  | [], _ :: _, h => h.elim
  | _ :: _, [], h => h.elim
theorem each_refs : ∀ {as : List Addr} {es : List PyData}, as.length = es.length → PySem.W.EachIs (fun v (b : V × PyData) => RelV b.1 v) (as.map Value.ref) ((as.map V.ref).zip es)
  | [], [], _ => .nil
  | a :: as, e :: es, h => .cons rfl (each_refs (by simpa using h))
  | [], _ :: _, h => by cases h
  | _ :: _, [], h => by cases h
theorem cr_sortT {X : Cx} (hc : X.calm = true) (hu : X.A.units + 64 < cLine) : CallR X (.builtin "sorted") rSortT := by
  intro pins s σ H xs us Q I r h
  obtain ⟨p, kvs, rfl, hk, hsb, q⟩ := h
  rw [Vals.ref1 r]
  obtain ⟨z, lo, ys, rk, o, es, ep, ho, hx, hd, he, nd⟩ := (show ObjOk X.prog X.w H s.heap p (.dT kvs) from I.hok p _ hk)
  have hl : kvs.length = ys.length := Paired.length rk
  have hsz : es.size = ys.length := by
    have := congrArg List.length he
    simpa using this
  have hes : ∀ i (hi : i < es.size), ∃ y, ys[i]? = some y ∧ es[i].key = .ref y.2.1 ∧ es[i].val = y.2.2 := fun i hi => by
    have e1 : es.toList[i]? = some es[i] := by simp [hi]
    rw [he, List.getElem?_map] at e1
    cases e2 : ys[i]? with
    | none => rw [e2] at e1; cases e1
    | some y =>
      rw [e2] at e1
      have e1 : some (entryOfKey (tupleKind (mixKind X.prog X.w)) y) = some es[i] := e1
      have := Option.some.inj e1
      exact ⟨y, rfl, by rw [← this]; rfl, by rw [← this]; rfl⟩
  have raw : s.heap.DictRaw p es ep := ⟨o, ho, hx, hd⟩
  have ka := keysAt_of rk
  obtain ⟨kl, kg⟩ := keysAt_get ka
  refine Calls.call_function_entry PyProof.Rows.kind_sorted PyProof.Rows.plain_sorted PyProof.Rows.entry_sorted (PyProof.Rows.args_sorted1 _) ?_
  unfold Builtin.«sorted»
  refine wpAny_bind (m := checkCount "sorted" 1 1 _) (wpAny_pure ?_)
  refine wpAny_bind (PySem.W.kdu_collect (A := X.A.in1) (kdl_raw (prog := X.prog) (w := X.w) lo hes) (I.ok.hd hc) raw (by rw [hsz, ← hl]; exact z) fun h' tk acc hkeep hacc => ?_)
  have hal : acc.toList = (ys.map (·.2.1)).map Value.ref := by
    refine List.ext_getElem? fun j => ?_
    obtain ⟨n1, n2⟩ := hacc
    rw [List.map_map, List.getElem?_map, Array.getElem?_toList]
    cases e : acc[j]? with
    | none =>
      have : acc.size ≤ j := Array.getElem?_eq_none_iff.mp e
      rw [List.getElem?_eq_none (by rw [← hsz, ← n1]; exact this)]; rfl
    | some v =>
      obtain ⟨y, h1, h2⟩ := n2 j v e
      rw [h1, h2]; rfl
  generalize hys : ys.map (·.2.1) = as at hal ka kl kg
  have I1 : Inv X pins σ H { s with heap := h', toks := tk } := I.kept hkeep
  have hll : acc.toList.length = kvs.length := by rw [hal, List.length_map, kl]
  refine wpAny_bind (wpAny_newList ?_ (by rw [hll]; exact z))
  have hoL : (h'.push (seqObj "list" acc.toList.toArray 0)).get? h'.objs.size = some (seqObj "list" acc.toList.toArray 0) := Heap.get?_push_size _ rfl
  show wpAny _ _ _ _ _ { s with heap := h'.push (seqObj "list" acc.toList.toArray 0), toks := tk }
  have hlen : as.length = (kvs.map fun kv => PK.keyTD kv.1).length := by rw [kl, List.length_map]
  have hEa : PySem.W.EachIs (fun v (b : V × PyData) => RelV b.1 v) acc.toList ((as.map V.ref).zip (kvs.map fun kv => PK.keyTD kv.1)) := by
    rw [hal]; exact each_refs hlen
  have hz2 : ((as.map V.ref).zip (kvs.map fun kv => PK.keyTD kv.1)).map (fun b => b.2) = kvs.map fun kv => PK.keyTD kv.1 := zip_snd (by rw [List.length_map, List.length_map, kl])
  have hzl : ((as.map V.ref).zip (kvs.map fun kv => PK.keyTD kv.1)).length = kvs.length := by rw [List.length_zip, List.length_map, List.length_map, kl]; omega
  obtain ⟨hb1, hb2⟩ := Bool.and_eq_true_iff.mp hsb
  have hall : PySem.W.AllAlike (((as.map V.ref).zip (kvs.map fun kv => PK.keyTD kv.1)).map fun b => b.2) := by
    rw [hz2]; exact fun d hd d' hd' => List.all_eq_true.mp (List.all_eq_true.mp hb1 d hd) d' hd'
  have hsrt : PySem.W.Sortable (((as.map V.ref).zip (kvs.map fun kv => PK.keyTD kv.1)).map fun b => b.2) := by
    rw [hz2]
    rcases Bool.or_eq_true_iff.mp hb2 with z | z
    · refine .inl fun d hd => ?_
      have := List.all_eq_true.mp z d hd
      match d, this with
      | .tuple (x :: r), _ => exact ⟨x, r, rfl⟩
    · refine .inr fun d hd => ?_
      have := List.all_eq_true.mp z d hd
      constructor
      · intro e; rw [e] at this; cases this
      · intro xs e; rw [e] at this; cases this
  have hr : PySem.W.EachIs (fun v (b : V × PyData) => ∃ bs, Reads (h'.push (seqObj "list" acc.toList.toArray 0)) v b.2 bs ∧ h'.objs.size ∉ bs) acc.toList ((as.map V.ref).zip (kvs.map fun kv => PK.keyTD kv.1)) :=
    each_and hEa fun v b hb rb => by
      obtain ⟨a, k, rfl, ha⟩ := kg b hb
      obtain ⟨bs, rd⟩ := Dp.reads I1 (PK.keyTD k) (.ref a) v (.tup (.inl (.inl ha)) (dp_key k)) rb
      refine ⟨bs, PyProof.Rows.Reads.keeps (fun _ _ e => Heap.get?_push_of_some _ e) rd, ?_⟩
      rw [reads_keyT rd]
      exact List.not_mem_nil
  refine wpAny_bind (wpAny_holding (PySem.W.list_sort_data (s := { s with heap := h'.push (seqObj "list" acc.toList.toArray 0), toks := tk }) (enc := fun b : V × PyData => b.2) (R := fun v b => RelV b.1 v) hoL hEa hr hall hsrt (by rw [hzl]; exact z) (fun b hb => ?_) fun out h1 h2 => ?_))
  · obtain ⟨a, k, rfl, ha⟩ := kg b hb
    have := depth_keyT k
    show X.A.units + 1 + 1 + (PK.keyTD k).depth < cLine
    omega
  · obtain ⟨e', he'⟩ := PyProof.Rows.sortedHeap_at (vs := acc.toList) (out := out.toArray) hoL
    have hlen2 : ((((as.map V.ref).zip (kvs.map fun kv => PK.keyTD kv.1)).mergeSort (PySem.W.dataLe false fun b => b.2)).map (·.1)).length ≤ sizeLine := by
      rw [List.length_map, List.length_mergeSort, hzl]; exact z
    refine wpAny_pure ⟨_, rfl, .ref h'.objs.size, upd H h'.objs.size (.lst ((((as.map V.ref).zip (kvs.map fun kv => PK.keyTD kv.1)).mergeSort (PySem.W.dataLe false fun b => b.2)).map (·.1))), I1.laid (t' := tk) (fun b u e => ?_) (Nat.le_refl _)
      (show ObjOk X.prog X.w _ _ _ (.lst _) from ⟨hlen2, out, e', vals_each h2, he'⟩), rfl, q _ as (I1.hok.fresh (Nat.le_refl _)) ka⟩
    have hb : b < h'.objs.size := Heap.lt_size e
    show (PyProof.Rows.sortedHeap _ _ _ _).get? b = _
    rw [PyProof.Rows.sortedHeap_old (Nat.ne_of_lt hb) (by rw [size_push']; exact Nat.lt_succ_of_lt hb)]
    exact Heap.get?_push_of_some _ e
end PKS
namespace PKS
open PySem PySem.Spec PyProof.Rows L2

theorem toString_len (i : Int) : (PyData.shown (.int i)).length ≤ (Nat.toDigits 10 i.natAbs).length + 1 := by
  have e : PyData.shown (.int i) = Str.ofString (toString i) := by simp only [PyData.shown]
  rw [e]
  have h2 : (Str.ofString (toString i)).length = (toString i).toList.length := by
    rw [Str.ofString_eq_toList]
    show ((toString i).toList.map Char.toNat).toArray.size = _
    simp
  rw [h2]
  cases i with
  | ofNat n =>
    show (Nat.repr n).toList.length ≤ _
    simp [Nat.repr]
  | negSucc n =>
    show (("-" : String) ++ Nat.repr (n + 1)).toList.length ≤ (Nat.toDigits 10 (n + 1)).length + 1
    simp [Nat.repr]
theorem digits_len {n k : Nat} (hk : 0 < k) (h : n < 10 ^ k) : (Nat.toDigits 10 n).length ≤ k := by
  have := TL.numL_len hk h
  unfold TL.numL at this
  simpa using this
mutual
theorem shown_ub : ∀ d : PyData, PyData.showable d = true → PyData.hasDict d = false → (PyData.shown d).length ≤ PK.ub d
  | .none, _, _ => by simp only [PyData.shown, PK.ub]; decide
  | .bool b, _, _ => by cases b <;> (simp only [PyData.shown, PK.ub]; decide)
  | .int i, h, _ => by
    have hs : i.natAbs.log2 < 1920 := of_decide_eq_true (by simpa [PyData.showable] using h)
    have h1 := toString_len i
    unfold PK.ub
    split
    · rename_i hc
      have := digits_len (by decide) hc
      omega
    · have hb : i.natAbs < 2 ^ 1920 := by
        by_cases z : i.natAbs = 0
        · rw [z]; exact Nat.two_pow_pos _
        · exact (Nat.log2_lt z).mp hs
      have : i.natAbs < 10 ^ 600 := Nat.lt_of_lt_of_le hb (by decide)
      have := digits_len (by decide) this
      omega
  | .str x, _, _ => by simp only [PyData.shown, PK.ub]; exact Nat.le_refl _
  | .list xs, h, hd => by
    have := shownAll_ub xs (by simpa [PyData.showable] using h) (by simpa [PyData.hasDict] using hd)
    simp only [PyData.shown, PK.ub]
    have := listText_len_le (PyData.shownAll xs)
    omega
  | .tuple xs, h, hd => by
    have := shownAll_ub xs (by simpa [PyData.showable] using h) (by simpa [PyData.hasDict] using hd)
    simp only [PyData.shown, PK.ub]
    have := tupleText_len_le (PyData.shownAll xs)
    omega
  | .dict _, _, hd => by simp [PyData.hasDict] at hd
theorem shownAll_ub : ∀ ds : List PyData, PyData.showableAll ds = true → PyData.hasDictAll ds = false → ((PyData.shownAll ds).map (·.length)).sum + 2 * (PyData.shownAll ds).length ≤ PK.uba ds
  | [], _, _ => by simp [PyData.shownAll, PK.uba]
  | d :: ds, h, hd => by
    simp only [PyData.showableAll, Bool.and_eq_true] at h
    simp only [PyData.hasDictAll, Bool.or_eq_false_iff] at hd
    have h1 := shown_ub d h.1 hd.1
    have h2 := shownAll_ub ds h.2 hd.2
    simp only [PyData.shownAll, PK.uba, List.map_cons, List.sum_cons, List.length_cons]
    omega
end
end PKS
namespace PKS
open PySem PySem.Spec PyProof.Rows L2
section
variable {K : PySem.W.Frag} {lk : Lk} {W : WX} {σ : L2.St} {ρ : Nm} {G : Cells} {H : Hp} {Q : VK} {X : Cx}
def rRepr (K : PySem.W.Frag) : List V → Hp → VK → Prop := fun xs H Q => ∃ a d, xs = [.ref a] ∧ Dp K H (.ref a) d ∧ PyData.showable d = true ∧ PyData.hasDict d = false ∧ d.depth ≤ 8 ∧ (PyData.shown d).length ≤ sizeLine ∧ Q (.str (PyData.shown d)) H
theorem cr_repr (hg : X.A.guards = some []) (hu : X.A.units + 64 < cLine) : CallR X (.builtin "repr") (rRepr X.K) := by
  intro pins s σ H xs us Q I r h
  obtain ⟨a, d, rfl, hd, hs, hn, h8, hz, q⟩ := h
  obtain ⟨u, rfl, rx⟩ := vals1 r
  obtain ⟨as, rd⟩ := Dp.reads I d _ u hd rx
  cases rx
  refine repr_of_reads' (h₀ := s.heap) rd hs (fun z => by rw [hn] at z; cases z) hg (by omega) (fun _ _ e => e) (fun h' u tk hk => ?_) hz
  exact ⟨.str _, H, I.kept (t' := tk) hk, ⟨_, rfl⟩, q⟩
theorem divP {i j : Int} (h : PK.divOk j = true) : CDivP i j := by
  have hc := of_decide_eq_true h
  refine ⟨hc.1, PyProof.noPylong_of_log2 ?_⟩
  have : j.natAbs < 2 ^ 1000 := by omega
  exact Nat.lt_trans (log_of this) (by decide)
theorem fold_min : ∀ (r : List Int) (a : Int), (r.foldl (fun a b => if b < a then b else a) a = a ∨ r.foldl (fun a b => if b < a then b else a) a ∈ r) ∧ r.foldl (fun a b => if b < a then b else a) a ≤ a ∧ ∀ y ∈ r, r.foldl (fun a b => if b < a then b else a) a ≤ y
  | [], a => ⟨.inl rfl, Int.le_refl _, fun _ h => nomatch h⟩
  | b :: r, a => by
    obtain ⟨h1, h2, h3⟩ := fold_min r (if b < a then b else a)
    simp only [List.foldl_cons]
    refine ⟨?_, ?_, fun y hy => ?_⟩
    · rcases h1 with h1 | h1
      · rw [h1]; split
        · exact .inr List.mem_cons_self
        · exact .inl rfl
      · exact .inr (List.mem_cons_of_mem _ h1)
    · exact Int.le_trans h2 (by split <;> omega)
    · rcases List.mem_cons.mp hy with e | e
      · rw [e]; exact Int.le_trans h2 (by split <;> omega)
      · exact h3 y e
theorem fold_max : ∀ (r : List Int) (a : Int), (r.foldl (fun a b => if b > a then b else a) a = a ∨ r.foldl (fun a b => if b > a then b else a) a ∈ r) ∧ a ≤ r.foldl (fun a b => if b > a then b else a) a ∧ ∀ y ∈ r, y ≤ r.foldl (fun a b => if b > a then b else a) a
  | [], a => ⟨.inl rfl, Int.le_refl _, fun _ h => nomatch h⟩
  | b :: r, a => by
    obtain ⟨h1, h2, h3⟩ := fold_max r (if b > a then b else a)
    simp only [List.foldl_cons]
    refine ⟨?_, ?_, fun y hy => ?_⟩
    · rcases h1 with h1 | h1
      · rw [h1]; split
        · exact .inr List.mem_cons_self
        · exact .inl rfl
      · exact .inr (List.mem_cons_of_mem _ h1)
    · exact Int.le_trans (by split <;> omega) h2
    · rcases List.mem_cons.mp hy with e | e
      · rw [e]; exact Int.le_trans (by split <;> omega) h2
      · exact h3 y e
theorem minL_is {ns : List Int} {m : Int} (h : m ∈ ns) (hl : ∀ y, y ∈ ns → m ≤ y) : PK.minL ns = m := by
  cases ns with
  | nil => cases h
  | cons a r =>
    obtain ⟨h1, h2, h3⟩ := fold_min r a
    have z : PK.minL (a :: r) ∈ a :: r := by
      rcases h1 with h1 | h1
      · exact List.mem_cons.mpr (.inl h1)
      · exact List.mem_cons_of_mem _ h1
    have le : PK.minL (a :: r) ≤ m := by
      rcases List.mem_cons.mp h with e | e
      · rw [e]; exact h2
      · exact h3 m e
    have := hl _ z
    omega
theorem maxL_is {ns : List Int} {m : Int} (h : m ∈ ns) (hl : ∀ y, y ∈ ns → y ≤ m) : PK.maxL ns = m := by
  cases ns with
  | nil => cases h
  | cons a r =>
    obtain ⟨h1, h2, h3⟩ := fold_max r a
    have z : PK.maxL (a :: r) ∈ a :: r := by
      rcases h1 with h1 | h1
      · exact List.mem_cons.mpr (.inl h1)
      · exact List.mem_cons_of_mem _ h1
    have le : m ≤ PK.maxL (a :: r) := by
      rcases List.mem_cons.mp h with e | e
      · rw [e]; exact h2
      · exact h3 m e
    have := hl _ z
    omega
theorem insI_perm (a : Int) : ∀ l : List Int, (PK.insI a l).Perm (a :: l)
  | [] => .refl _
  | b :: r => by
    unfold PK.insI
    split
    · exact .refl _
    · exact ((insI_perm a r).cons b).trans (.swap a b r)
theorem insI_mem {a y : Int} {l : List Int} (h : y ∈ PK.insI a l) : y = a ∨ y ∈ l := List.mem_cons.mp ((insI_perm a l).mem_iff.mp h)
theorem insI_pw (a : Int) : ∀ l : List Int, l.Pairwise (· ≤ ·) → (PK.insI a l).Pairwise (· ≤ ·)
  | [], _ => by simp [PK.insI]
  | b :: r, h => by
    unfold PK.insI
    obtain ⟨h1, h2⟩ := List.pairwise_cons.mp h
    split
    · refine List.pairwise_cons.mpr ⟨fun y hy => ?_, h⟩
      rcases List.mem_cons.mp hy with e | e
      · rw [e]; assumption
      · have := h1 y e; omega
    · refine List.pairwise_cons.mpr ⟨fun y hy => ?_, insI_pw a r h2⟩
      rcases insI_mem hy with e | e
      · rw [e]; omega
      · exact h1 y e
theorem srtI_perm : ∀ l : List Int, (PK.srtI l).Perm l
  | [] => .refl _
  | a :: r => (insI_perm a (PK.srtI r)).trans ((srtI_perm r).cons a)
theorem srtI_pw : ∀ l : List Int, (PK.srtI l).Pairwise (· ≤ ·)
  | [] => .nil
  | a :: r => insI_pw a _ (srtI_pw r)
def biVal : PK.Bi → Value
  | .abs => .builtin "abs" | .len => .builtin "len" | .int => .type "int" | .str => .type "str" | .repr => .builtin "repr" | .sum => .builtin "sum" | .min1 => .builtin "min" | .max1 => .builtin "max" | .min2 => .builtin "min" | .max2 => .builtin "max"
  | .all => .builtin "all" | .any => .builtin "any" | .divmod => .builtin "divmod" | .tuple => .type "tuple" | .list => .type "list" | .sorted => .builtin "sorted" | .listK => .type "list" | .listT => .type "list" | .sortD => .builtin "sorted" | .sortT => .builtin "sorted"
def biName : PK.Bi → String
  | .abs => "abs" | .len => "len" | .int => "int" | .str => "str" | .repr => "repr" | .sum => "sum" | .min1 => "min" | .max1 => "max" | .min2 => "min" | .max2 => "max"
  | .all => "all" | .any => "any" | .divmod => "divmod" | .tuple => "tuple" | .list => "list" | .sorted => "sorted" | .listK => "list" | .listT => "list" | .sortD => "sorted" | .sortT => "sorted"
def rBi (K : PySem.W.Frag) : PK.Bi → List V → Hp → VK → Prop
  | .abs => fun xs H Q => ∃ i, xs = [.int i] ∧ Q (.int (if i < 0 then -i else i)) H
  | .len => fun xs H Q => (∃ x n, xs = [x] ∧ LenV K x H n ∧ Q (.int n) H) ∨ (∃ a kvs, xs = [V.ref a] ∧ H a = some (.dK kvs) ∧ Q (.int kvs.length) H) ∨ rLenT xs H Q
  | .int => fun xs H Q => ((∃ i, xs = [.int i] ∧ Q (.int i) H) ∨ ∃ k, xs = [.bl k] ∧ Q (.int (if k then 1 else 0)) H) ∨ ∃ a n, xs = [.str a] ∧ PySem.intText? a = some n ∧ a.length ≤ 640 ∧ Q (.int n) H
  | .str => fun xs H Q => (∃ i, xs = [.int i] ∧ i.natAbs.log2 < 1920 ∧ Q (.str (toString i)) H) ∨ ∃ a, xs = [.str a] ∧ Q (.str a) H
  | .repr => rRepr K
  | .sum => fun vs H Q => rSum K vs H Q ∨ rSumT K vs H Q
  | .min1 => rMin K
  | .max1 => rMax K
  | .min2 => fun xs H Q => ∃ i j, xs = [.int i, .int j] ∧ Q (.int (if j < i then j else i)) H
  | .max2 => fun xs H Q => ∃ i j, xs = [.int i, .int j] ∧ Q (.int (if j > i then j else i)) H
  | .all => rAll K
  | .any => rAny K
  | .divmod => fun xs H Q => ∃ i j, xs = [.int i, .int j] ∧ CDivP i j ∧ ∀ p, H p = none → Q (.ref p) (upd H p (.tup [.int (i / j), .int (i % j)]))
  | .tuple => fun xs H Q => ∃ p ys, xs = [.ref p] ∧ ((SqL K H p ys ∧ ∀ l, H l = none → Q (.ref l) (upd H l (.tup ys))) ∨ (SqT K H p ys ∧ Q (.ref p) H))
  | .list => fun xs H Q => ∃ p ys, xs = [.ref p] ∧ (SqL K H p ys ∨ SqT K H p ys) ∧ ∀ l, H l = none → Q (.ref l) (upd H l (.lst ys))
  | .sorted => rSortedI K
  | .listK => rListD
  | .listT => rListT
  | .sortD => rSortD K
  | .sortT => rSortT
theorem cr_bi (hc : X.calm = true) (hg : X.A.guards = some []) (hu : X.A.units + 64 < cLine) (b : PK.Bi) : CallR X (biVal b) (rBi X.K b) := by
  cases b with
  | abs => exact call_abs
  | len => exact call_len.or (call_lenD.or call_len_dT)
  | int => exact call_int1.or call_int_str
  | str => exact call_str_int.or SkE.call_str_str
  | repr => exact cr_repr hg hu
  | sum => exact (cr_sum hc).or (cr_sumT hc)
  | min1 => exact cr_min hc
  | max1 => exact cr_max hc
  | min2 => exact call_min2 hc
  | max2 => exact call_max2 hc
  | all => exact cr_all hc
  | any => exact cr_any hc
  | divmod => exact call_divmodW
  | tuple => exact call_tuple_of
  | list => exact call_list_of
  | sorted => exact cr_sortedI
  | listK => exact call_list_dK hc
  | listT => exact cr_listT hc
  | sortD => exact cr_sortD hu
  | sortT => exact cr_sortT hc hu
theorem Reps.one_of {d : PK.D} {vs : List V} {n : Nat} (p : Reps K lk ρ n H [d] vs) : ∃ x, vs = [x] ∧ Rep K lk ρ n H d x := by
  obtain ⟨x, xs, h1, h2, h3⟩ := p
  rw [show xs = [] from h3] at h1
  exact ⟨x, h1, h2⟩
theorem Reps.two_of {d e : PK.D} {vs : List V} {n : Nat} (p : Reps K lk ρ n H [d, e] vs) : ∃ x y, vs = [x, y] ∧ Rep K lk ρ n H d x ∧ Rep K lk ρ n H e y := by
  obtain ⟨x, xs, h1, h2, h3⟩ := p
  obtain ⟨y, h4, h5⟩ := h3.one_of
  rw [h4] at h1
  exact ⟨x, y, h1, h2, h5⟩
theorem ints_at {x : PK.D} {v : V} {ns : List Int} (r : Rel K lk ρ G H) (p : Rep K lk ρ G.length H x v) (nt : ∀ ds, x ≠ .tup ds) (e : (PK.seqD G x).bind PK.intsD = some ns) : ∃ a, v = .ref a ∧ SqL K H a (ns.map V.int) := by
  cases q : PK.seqD G x with
  | none => rw [q] at e; cases e
  | some ds =>
    rw [q] at e
    obtain ⟨A, vs, h1, _, h3, h4, _⟩ := seq_of q r p
    rw [ints_of e h3] at h4
    exact ⟨A, h1, h4 nt⟩
theorem bls_at {x : PK.D} {v : V} {ns : List Bool} (r : Rel K lk ρ G H) (p : Rep K lk ρ G.length H x v) (nt : ∀ ds, x ≠ .tup ds) (e : (PK.seqD G x).bind PK.blsD = some ns) : ∃ a, v = .ref a ∧ SqL K H a (ns.map V.bl) := by
  cases q : PK.seqD G x with
  | none => rw [q] at e; cases e
  | some ds =>
    rw [q] at e
    obtain ⟨A, vs, h1, _, h3, h4, _⟩ := seq_of q r p
    rw [bls_of e h3] at h4
    exact ⟨A, h1, h4 nt⟩
theorem len_val {v : PK.D} {x : V} {n : Nat} (r : Rel K lk ρ G H) (p : Rep K lk ρ G.length H v x) (e : PK.lenD G v = some n) (q : Q (.int n) H) : rBi K .len [x] H Q := by
  cases v with
  | tup ds => cases e; obtain ⟨A, vs, h1, h2, h3⟩ := p; exact .inl ⟨x, _, rfl, by rw [h1]; exact .inr ⟨vs, h2.sq, h3.length⟩, q⟩
  | lst ds => cases e; obtain ⟨A, vs, h1, h2, _, h3⟩ := p; exact .inl ⟨x, _, rfl, by rw [h1]; exact .inl ⟨vs, SqL.of h2, h3.length⟩, q⟩
  | fz ds =>
    cases e; obtain ⟨A, vs, h1, h2, h3⟩ := p
    have h2' : SqL K H A vs := by
      rcases h2 with ⟨o, h2⟩ | h2
      · exact .inl (.inr ⟨o, h2⟩)
      · exact .inr h2
    exact .inl ⟨x, _, rfl, by rw [h1]; exact .inl ⟨vs, h2', h3.length⟩, q⟩
  | str s =>
    have e : (if s.length ≤ 1000000 then some s.length else none) = some n := e
    split at e
    · cases e
      exact .inl ⟨x, _, rfl, by rw [show x = .str s from p]; exact ⟨Nat.le_trans (by assumption) (by rw [sizeLine_eq]; decide), rfl⟩, q⟩
    · cases e
  | ref i =>
    obtain ⟨hi, hv⟩ := p
    unfold PK.lenD at e
    cases z : G[i]? with
    | none => simp [z] at e
    | some c =>
      obtain ⟨u, h1, h2⟩ := r.cell i c z
      cases c with
      | lst ds => simp only [z] at e; cases e; obtain ⟨vs, e1, h3⟩ := h2; subst e1; exact .inl ⟨x, _, rfl, by rw [hv]; exact .inl ⟨vs, SqL.of h1, h3.length⟩, q⟩
      | dK kvs =>
        simp only [z] at e; cases e; obtain ⟨zs, e1, h3⟩ := h2; subst e1
        have hl : kvs.length = zs.length := by have := congrArg List.length h3.1; simpa using this.symm
        exact .inr (.inl ⟨ρ i, zs, by rw [hv], h1, by rw [← hl]; exact q⟩)
      | dT kvs =>
        simp only [z] at e; cases e; obtain ⟨zs, e1, h3⟩ := h2; subst e1
        have hl : kvs.length = zs.length := by have := congrArg List.length h3.1; simpa using this.symm
        exact .inr (.inr ⟨ρ i, zs, by rw [hv], h1, by rw [← hl]; exact q⟩)
      | ins c ds => simp [z] at e
  | _ => cases e
theorem reps_keys {n : Nat} : ∀ ks : List L2.Key, Reps K lk ρ n H (ks.map PK.kD) (ks.map kV)
  | [] => rfl
  | .inl i :: ks => ⟨.int i, ks.map kV, rfl, rfl, reps_keys ks⟩
  | .inr z :: ks => ⟨.str z, ks.map kV, rfl, rfl, reps_keys ks⟩
theorem reps_tkeys {n : Nat} : ∀ {as : List Addr} {kvs : List (List L2.Key × V)}, KeysAt H as kvs → Reps K lk ρ n H (kvs.map fun kv => PK.D.tup (kv.1.map PK.kD)) (as.map V.ref)
  | [], [], _ => rfl
  | a :: as, kv :: kvs, h => ⟨.ref a, as.map V.ref, rfl, ⟨a, kv.1.map kV, rfl, .inl h.1, reps_keys _⟩, reps_tkeys h.2⟩
  | [], _ :: _, h => h.elim
  | _ :: _, [], h => h.elim
theorem bi_val (b : PK.Bi) {w : Bool} {ds : List PK.D} {vs : List V} (r : Rel K lk ρ G H) (p : Reps K lk ρ G.length H ds vs) (h : OutE K lk W σ ρ G H (PK.biD b w ds G) Q) : rBi K b vs H Q := by
  match ds, p, h with
  | [], _, h => cases b <;> exact h.elim
  | [d], p, h =>
    obtain ⟨x, rfl, px⟩ := p.one_of
    cases b with
    | abs => cases d <;> first | exact h.elim | exact ⟨_, by rw [show x = _ from px], OutE.here h r rfl⟩
    | len =>
      have h : OutE K lk W σ ρ G H (match PK.lenD G d with | some n => .ok (.int n) G | none => .bad) Q := h
      cases e : PK.lenD G d with
      | none => rw [e] at h; exact h.elim
      | some n => rw [e] at h; exact len_val r px e (OutE.here h r rfl)
    | int =>
      cases d with
      | int i => exact .inl (.inl ⟨i, by rw [show x = _ from px], OutE.here h r rfl⟩)
      | bl i => exact .inl (.inr ⟨i, by rw [show x = _ from px], OutE.here h r rfl⟩)
      | str a =>
        have h : OutE K lk W σ ρ G H (match PySem.intText? a with | some n => if decide (a.length ≤ 640) then .ok (.int n) G else .bad | none => .bad) Q := h
        cases e : PySem.intText? a with
        | none => rw [e] at h; exact h.elim
        | some n =>
          rw [e] at h
          simp only at h
          split at h
          · rename_i hc
            exact .inr ⟨a, n, by rw [show x = _ from px], e, of_decide_eq_true hc, OutE.here h r rfl⟩
          · exact h.elim
      | _ => exact h.elim
    | str =>
      cases d with
      | int i =>
        have h : OutE K lk W σ ρ G H (if PK.strOkI i then .ok (.str (PK.nstr i)) G else .bad) Q := h
        split at h
        · rename_i hc
          have hc : i.natAbs < 2 ^ 1900 := of_decide_eq_true hc
          exact .inl ⟨i, by rw [show x = _ from px], Nat.lt_trans (PySem.Flt.log2_lt_of (by decide) hc) (by decide), OutE.here h r rfl⟩
        · exact h.elim
      | str a => exact .inr ⟨a, by rw [show x = _ from px], OutE.here h r rfl⟩
      | _ => exact h.elim
    | repr =>
      have h : OutE K lk W σ ρ G H (PK.reprD G d) Q := h
      unfold PK.reprD at h
      cases e : PK.pd G 8 d with
      | none => rw [e] at h; exact h.elim
      | some y =>
        rw [e] at h
        simp only at h
        split at h
        · rename_i hc
          simp only [Bool.and_eq_true, decide_eq_true_eq] at hc
          obtain ⟨⟨c1, c2⟩, c3⟩ := hc
          obtain ⟨d1, d2⟩ := pd_depth 8 d y e
          have hx : ∃ a, x = .ref a := by
            cases d <;> first | (cases c1; done) | skip
            · obtain ⟨a, _, z, _⟩ := px; exact ⟨a, z⟩
            · obtain ⟨a, _, z, _⟩ := px; exact ⟨a, z⟩
            · obtain ⟨a, _, z, _⟩ := px; exact ⟨a, z⟩
            · exact ⟨_, px.2⟩
          obtain ⟨a, ha⟩ := hx
          have hp := dp_of r 8 d x y e px
          rw [ha] at hp
          exact ⟨a, y, by rw [ha], hp, c2, d2, d1, Nat.le_trans (shown_ub y c2 d2) (Nat.le_trans c3 (by rw [sizeLine_eq]; decide)), OutE.here h r rfl⟩
        · exact h.elim
    | sum =>
      have h : OutE K lk W σ ρ G H (match (PK.seqD G d).bind PK.intsD with | some ns => .ok (.int ns.sum) G | none => .bad) Q := h
      have e : (∃ ds, d = .tup ds) ∨ ∀ ds, d ≠ .tup ds := by cases d <;> first | exact .inl ⟨_, rfl⟩ | exact .inr (by intro _ z; cases z)
      cases e2 : (PK.seqD G d).bind PK.intsD with
      | none => rw [e2] at h; exact h.elim
      | some ns =>
        rw [e2] at h
        have q : Q (.int ns.sum) H := OutE.here (v := .int ns.sum) h r rfl
        rcases e with ⟨ds, rfl⟩ | nt
        · obtain ⟨A, us, h1, h2, h3⟩ := px
          have e3 : PK.intsD ds = some ns := e2
          rw [ints_of e3 h3] at h2
          exact .inr ⟨A, ns, by rw [h1], h2.sq, q⟩
        · obtain ⟨a, h1, h2⟩ := ints_at r px nt e2
          exact .inl ⟨a, ns, by rw [h1], h2, q⟩
    | min1 =>
      have e : (∃ ds, d = .tup ds) ∨ ∀ ds, d ≠ .tup ds := by cases d <;> first | exact .inl ⟨_, rfl⟩ | exact .inr (by intro _ z; cases z)
      rcases e with ⟨ds, rfl⟩ | nt
      · exact h.elim
      · have h : OutE K lk W σ ρ G H (match (PK.seqD G d).bind PK.intsD with | some ns => if ns.isEmpty then .bad else .ok (.int (PK.minL ns)) G | none => .bad) Q := by
          cases d <;> first | exact h | exact absurd rfl (nt _)
        cases e : (PK.seqD G d).bind PK.intsD with
        | none => rw [e] at h; exact h.elim
        | some ns =>
          rw [e] at h
          simp only at h
          split at h
          · exact h.elim
          · rename_i hn
            obtain ⟨a, h1, h2⟩ := ints_at r px nt e
            refine ⟨a, ns, by rw [h1], h2, ?_, fun m hm hl => ?_⟩
            · cases ns with
              | nil => exact absurd rfl hn
              | cons _ _ => simp
            · have q : Q (.int (PK.minL ns)) H := OutE.here h r rfl
              rw [minL_is hm hl] at q; exact q
    | max1 =>
      have e : (∃ ds, d = .tup ds) ∨ ∀ ds, d ≠ .tup ds := by cases d <;> first | exact .inl ⟨_, rfl⟩ | exact .inr (by intro _ z; cases z)
      rcases e with ⟨ds, rfl⟩ | nt
      · exact h.elim
      · have h : OutE K lk W σ ρ G H (match (PK.seqD G d).bind PK.intsD with | some ns => if ns.isEmpty then .bad else .ok (.int (PK.maxL ns)) G | none => .bad) Q := by
          cases d <;> first | exact h | exact absurd rfl (nt _)
        cases e : (PK.seqD G d).bind PK.intsD with
        | none => rw [e] at h; exact h.elim
        | some ns =>
          rw [e] at h
          simp only at h
          split at h
          · exact h.elim
          · rename_i hn
            obtain ⟨a, h1, h2⟩ := ints_at r px nt e
            refine ⟨a, ns, by rw [h1], h2, ?_, fun m hm hl => ?_⟩
            · cases ns with
              | nil => exact absurd rfl hn
              | cons _ _ => simp
            · have q : Q (.int (PK.maxL ns)) H := OutE.here h r rfl
              rw [maxL_is hm hl] at q; exact q
    | all =>
      have e : (∃ ds, d = .tup ds) ∨ ∀ ds, d ≠ .tup ds := by cases d <;> first | exact .inl ⟨_, rfl⟩ | exact .inr (by intro _ z; cases z)
      rcases e with ⟨ds, rfl⟩ | nt
      · exact h.elim
      · have h : OutE K lk W σ ρ G H (match (PK.seqD G d).bind PK.blsD with | some ns => .ok (.bl (ns.all id)) G | none => .bad) Q := by
          cases d <;> first | exact h | exact absurd rfl (nt _)
        cases e : (PK.seqD G d).bind PK.blsD with
        | none => rw [e] at h; exact h.elim
        | some ns =>
          rw [e] at h
          obtain ⟨a, h1, h2⟩ := bls_at r px nt e
          exact ⟨a, ns, by rw [h1], h2, OutE.here h r rfl⟩
    | any =>
      have e : (∃ ds, d = .tup ds) ∨ ∀ ds, d ≠ .tup ds := by cases d <;> first | exact .inl ⟨_, rfl⟩ | exact .inr (by intro _ z; cases z)
      rcases e with ⟨ds, rfl⟩ | nt
      · exact h.elim
      · have h : OutE K lk W σ ρ G H (match (PK.seqD G d).bind PK.blsD with | some ns => .ok (.bl (ns.any id)) G | none => .bad) Q := by
          cases d <;> first | exact h | exact absurd rfl (nt _)
        cases e : (PK.seqD G d).bind PK.blsD with
        | none => rw [e] at h; exact h.elim
        | some ns =>
          rw [e] at h
          obtain ⟨a, h1, h2⟩ := bls_at r px nt e
          exact ⟨a, ns, by rw [h1], h2, OutE.here h r rfl⟩
    | tuple =>
      have h : OutE K lk W σ ρ G H (match PK.seqD G d with | some ds => .ok (.tup ds) G | none => .bad) Q := h
      cases e : PK.seqD G d with
      | none => rw [e] at h; exact h.elim
      | some es =>
        rw [e] at h
        obtain ⟨A, vs, h1, _, h3, h4, h5⟩ := seq_of e r px
        have c : (∃ ds, d = .tup ds) ∨ ∀ ds, d ≠ .tup ds := by cases d <;> first | exact .inl ⟨_, rfl⟩ | exact .inr (by intro _ z; cases z)
        rcases c with ⟨ds, rfl⟩ | nt
        · cases e
          exact ⟨A, vs, by rw [h1], .inr ⟨h5 ⟨_, rfl⟩, by rw [← h1]; exact OutE.here h r px⟩⟩
        · exact ⟨A, vs, by rw [h1], .inl ⟨h4 nt, OutE.tup h r h3⟩⟩
    | list =>
      have h : OutE K lk W σ ρ G H (match PK.seqD G d with | some ds => PK.mkl w ds G | none => .bad) Q := h
      cases e : PK.seqD G d with
      | none => rw [e] at h; exact h.elim
      | some es =>
        rw [e] at h
        obtain ⟨A, vs, h1, h2, h3, h4, h5⟩ := seq_of e r px
        exact ⟨A, vs, by rw [h1], h2, h.mkl r h3⟩
    | sorted =>
      have e : (∃ ds, d = .tup ds) ∨ ∀ ds, d ≠ .tup ds := by cases d <;> first | exact .inl ⟨_, rfl⟩ | exact .inr (by intro _ z; cases z)
      rcases e with ⟨ds, rfl⟩ | nt
      · exact h.elim
      · have h : OutE K lk W σ ρ G H (match (PK.seqD G d).bind PK.intsD with | some ns => PK.mkl w ((PK.srtI ns).map .int) G | none => .bad) Q := by
          cases d <;> first | exact h | exact absurd rfl (nt _)
        cases e : (PK.seqD G d).bind PK.intsD with
        | none => rw [e] at h; exact h.elim
        | some ns =>
          rw [e] at h
          obtain ⟨a, h1, h2⟩ := ints_at r px nt e
          refine ⟨a, ns, by rw [h1], h2, fun ns' p hp hs hn => ?_⟩
          have : ns' = PK.srtI ns := PySem.W.ksm_same (hp.trans (srtI_perm ns).symm) hs (srtI_pw ns)
          rw [this]
          exact h.mkl r (of_ints _) p hn
    | listK =>
      cases d with
      | ref i =>
        have h : OutE K lk W σ ρ G H (match G[i]? with | some (.dK kvs) => PK.mkl w (kvs.map fun kv => PK.kD kv.1) G | _ => .bad) Q := h
        obtain ⟨hi, hv⟩ := px
        cases q : G[i]? with
        | none => rw [q] at h; exact h.elim
        | some c =>
          obtain ⟨u, h1, h2⟩ := r.cell i c q
          cases c with
          | dK kvs =>
            rw [q] at h
            obtain ⟨zs, rfl, h3⟩ := h2
            refine ⟨ρ i, zs, by rw [hv], h1, fun p hp => OutE.mkl h r ?_ p hp⟩
            have e : (kvs.map fun kv => PK.kD kv.1) = (kvs.map (·.1)).map PK.kD := by rw [List.map_map]; rfl
            have e' : (zs.map fun kv => kV kv.1) = (zs.map (·.1)).map kV := by rw [List.map_map]; rfl
            rw [e, e', h3.1]
            exact reps_keys _
          | _ => rw [q] at h; exact h.elim
      | _ => exact h.elim
    | listT =>
      cases d with
      | ref i =>
        have h : OutE K lk W σ ρ G H (match G[i]? with | some (.dT kvs) => PK.mkl w (kvs.map fun kv => .tup (kv.1.map PK.kD)) G | _ => .bad) Q := h
        obtain ⟨hi, hv⟩ := px
        cases q : G[i]? with
        | none => rw [q] at h; exact h.elim
        | some c =>
          obtain ⟨u, h1, h2⟩ := r.cell i c q
          cases c with
          | dT kvs =>
            rw [q] at h
            obtain ⟨zs, rfl, h3⟩ := h2
            refine ⟨ρ i, zs, by rw [hv], h1, fun p as hp hk => OutE.mkl h r ?_ p hp⟩
            have e : (kvs.map fun kv => PK.D.tup (kv.1.map PK.kD)) = (zs.map fun kv => PK.D.tup (kv.1.map PK.kD)) := by
              have e1 : (kvs.map fun kv => PK.D.tup (kv.1.map PK.kD)) = (kvs.map (·.1)).map fun k => PK.D.tup (k.map PK.kD) := by rw [List.map_map]; rfl
              have e2 : (zs.map fun kv => PK.D.tup (kv.1.map PK.kD)) = (zs.map (·.1)).map fun k => PK.D.tup (k.map PK.kD) := by rw [List.map_map]; rfl
              rw [e1, e2, h3.1]
            rw [e]
            exact reps_tkeys hk
          | _ => rw [q] at h; exact h.elim
      | _ => exact h.elim
    | sortT =>
      cases d with
      | ref i =>
        have h : OutE K lk W σ ρ G H (match G[i]? with | some (.dT kvs) => (if PK.sortB (kvs.map fun kv => PK.keyTD kv.1) then PK.mkl w (PK.sortDs (kvs.map fun kv => .tup (kv.1.map PK.kD)) (kvs.map fun kv => PK.keyTD kv.1)) G else .bad) | _ => .bad) Q := h
        obtain ⟨hi, hv⟩ := px
        cases q : G[i]? with
        | none => rw [q] at h; exact h.elim
        | some c =>
          obtain ⟨u, h1, h2⟩ := r.cell i c q
          cases c with
          | dT kvs =>
            rw [q] at h
            dsimp only at h
            split at h
            · rename_i hb
              obtain ⟨zs, rfl, h3⟩ := h2
              have e1 : (kvs.map fun kv => PK.D.tup (kv.1.map PK.kD)) = (kvs.map (·.1)).map fun k => PK.D.tup (k.map PK.kD) := by rw [List.map_map]; rfl
              have e2 : (zs.map fun kv => PK.D.tup (kv.1.map PK.kD)) = (zs.map (·.1)).map fun k => PK.D.tup (k.map PK.kD) := by rw [List.map_map]; rfl
              have e3 : (kvs.map fun kv => PK.keyTD kv.1) = (kvs.map (·.1)).map fun k => PK.keyTD k := by rw [List.map_map]; rfl
              have e4 : (zs.map fun kv => PK.keyTD kv.1) = (zs.map (·.1)).map fun k => PK.keyTD k := by rw [List.map_map]; rfl
              have e0 : (kvs.map fun kv => PK.keyTD kv.1) = zs.map fun kv => PK.keyTD kv.1 := by rw [e3, e4, h3.1]
              refine ⟨ρ i, zs, by rw [hv], h1, by rw [← e0]; exact hb, fun p as hp hk => OutE.mkl h r ?_ p hp⟩
              rw [e0, e1, ← h3.1, ← e2]
              have rp := reps_tkeys (K := K) (lk := lk) (ρ := ρ) (n := G.length) hk
              have l1 := rp.length
              refine sort_reps (by rw [List.length_map, List.length_map]) (by rw [l1]) fun c hc => reps_zip rp c hc
            · exact h.elim
          | _ => rw [q] at h; exact h.elim
      | _ => exact h.elim
    | sortD =>
      have e : (∃ ds, d = .tup ds) ∨ ∀ ds, d ≠ .tup ds := by cases d <;> first | exact .inl ⟨_, rfl⟩ | exact .inr (by intro _ z; cases z)
      rcases e with ⟨ds, rfl⟩ | nt
      · exact h.elim
      · have h : OutE K lk W σ ρ G H (match PK.seqD G d with | some ds => (match PK.pds (PK.pd G 8) ds with | some es => if PK.sortB es then PK.mkl w (PK.sortDs ds es) G else .bad | none => .bad) | none => .bad) Q := by
          cases d <;> first | exact h | exact absurd rfl (nt _)
        cases e : PK.seqD G d with
        | none => rw [e] at h; exact h.elim
        | some ds =>
          rw [e] at h
          dsimp only at h
          cases e2 : PK.pds (PK.pd G 8) ds with
          | none => rw [e2] at h; exact h.elim
          | some es =>
            rw [e2] at h
            dsimp only at h
            split at h
            · rename_i hb
              obtain ⟨A, vs, h1, _, h3, h4, _⟩ := seq_of e r px
              obtain ⟨k1, k2, k3, k4, k5⟩ := dpz_of r e2 h3
              refine ⟨A, vs.zip es, by rw [h1], by rw [zip_fst (by omega)]; exact h4 nt, k3, by rw [zip_snd (by omega)]; exact hb, fun b hm => ?_, h.mkl r (sort_reps k1 k2 k5)⟩
              exact k4 _ (List.of_mem_zip hm).2
            · exact h.elim
    | min2 => cases d <;> exact h.elim
    | max2 => cases d <;> exact h.elim
    | divmod => cases d <;> exact h.elim
  | [d, e], p, h =>
    obtain ⟨x, y, rfl, px, py⟩ := p.two_of
    cases b with
    | min2 => cases d <;> cases e <;> first | exact h.elim | exact ⟨_, _, by rw [show x = _ from px, show y = _ from py], OutE.here h r rfl⟩
    | max2 => cases d <;> cases e <;> first | exact h.elim | exact ⟨_, _, by rw [show x = _ from px, show y = _ from py], OutE.here h r rfl⟩
    | divmod =>
      cases d with
      | int i =>
        cases e with
        | int j =>
          have h : OutE K lk W σ ρ G H (if PK.divOk j then .ok (.tup [.int (i / j), .int (i % j)]) G else .bad) Q := h
          split at h
          · rename_i hc
            exact ⟨i, j, by rw [show x = _ from px, show y = _ from py], divP hc, OutE.tup h r ⟨_, _, rfl, rfl, ⟨_, _, rfl, rfl, rfl⟩⟩⟩
          · exact h.elim
        | _ => exact h.elim
      | _ => exact h.elim
    | _ => cases d <;> cases e <;> exact h.elim
  | d :: e :: f :: ds, p, h => cases b <;> cases d <;> first | exact False.elim h | (cases e <;> exact False.elim h)
end
end PKS
namespace PKS
open PySem PySem.Spec PyProof.Rows L2
abbrev W0 : WX := fun _ _ _ _ => False
def WXo (X : Cx) : WX := fun cls d σ H => ∀ u s', XE X (fun c' d' σ' H' => c' = cls ∧ d' = d ∧ σ' = σ ∧ H' = H) u s' → X.xe u s'
theorem takes_wx (X : Cx) : Takes X (WXo X) := fun u s' ⟨a, B, sI, pins, σ, H, cls, d, e, I, nb, up, sky, na, os, ag, w⟩ => w u s' ⟨a, B, sI, pins, σ, H, cls, d, e, I, nb, up, sky, na, os, ag, rfl, rfl, rfl, rfl⟩
theorem wx_of {X : Cx} {W : WX} (tk : Takes X W) {cls : Value} {d : Option Addr} {σ : L2.St} {H : Hp} (h : W cls d σ H) : WXo X cls d σ H := fun u s' x => tk.imp (W' := fun c' d' σ' H' => c' = cls ∧ d' = d ∧ σ' = σ ∧ H' = H) (fun c d' σ' H' ⟨e1, e2, e3, e4⟩ => by rw [e1, e2, e3, e4]; exact h) u s' x
abbrev Ev := PK.Env → Cells → PK.R
abbrev LE (X : Cx) (lk : Lk) (e : Expr) (ev : Ev) : Prop := PE X e (lift X.K lk (WXo X) ev)
abbrev LA (X : Cx) (lk : Lk) (es : List Expr) (ev : Ev) : Prop := PA X es (liftA X.K lk (WXo X) ev)
abbrev LT (X : Cx) (lk : Lk) (e : Expr) (ev : Ev) : Prop := PT X e (liftT X.K lk (WXo X) ev)
abbrev LW (X : Cx) (lk : Lk) (e : Expr) (ev : Ev) : Prop := PW X e (liftT X.K lk (WXo X) ev)
section
variable {X : Cx} {lk : Lk} {W : WX} {a b c e o : Expr} {es : List Expr} {ea eb ec ev : Ev} {pos p p1 p2 p3 apos : Pos} {t t' : TE} {k : Nat}
theorem pe_imp (h : PE X e t) (hi : ∀ σ H Q, t' σ H Q → t σ H Q) : PE X e t' := ⟨fun pins s σ H Q I q => h.run pins s σ H Q I (hi σ H Q q)⟩
theorem pt_imp {t t' : TT} (h : PT X e t) (hi : ∀ σ H Q, t' σ H Q → t σ H Q) : PT X e t' := ⟨fun pins s σ H Q I q => h.run pins s σ H Q I (hi σ H Q q)⟩
theorem pw_imp {t t' : TT} (h : PW X e t) (hi : ∀ σ H Q, t' σ H Q → t σ H Q) : PW X e t' := ⟨fun w pins s σ H Q I q => h.run w pins s σ H Q I (hi σ H Q q)⟩
theorem pa_imp {t t' : TA} (h : PA X es t) (hi : ∀ σ H Q, t' σ H Q → t σ H Q) : PA X es t' := ⟨fun p pins s σ H Q I q => h.run p pins s σ H Q I (hi σ H Q q)⟩
theorem le_of {ev ev' : Ev} (h : LE X lk e ev) (hi : ∀ s G, ev' s G = ev s G) : LE X lk e ev' := by
  have : ev' = ev := funext fun s => funext fun G => hi s G
  rw [this]; exact h

theorem le_int {i : Int} : LE X lk (.Constant (.int i) k pos) (fun _ G => .ok (.int i) G) := pe_imp pe_int fun _ _ _ ⟨_, _, _, r, _, h⟩ => h.here r rfl
theorem le_bl {i : Bool} : LE X lk (.Constant (.bool i) k pos) (fun _ G => .ok (.bl i) G) := pe_imp pe_bl fun _ _ _ ⟨_, _, _, r, _, h⟩ => h.here r rfl
theorem le_str {i : Str} : LE X lk (.Constant (.str i) k pos) (fun _ G => .ok (.str i) G) := pe_imp pe_str fun _ _ _ ⟨_, _, _, r, _, h⟩ => h.here r rfl
theorem le_non : LE X lk (.Constant .none k pos) (fun _ G => .ok .non G) := pe_imp pe_non fun _ _ _ ⟨_, _, _, r, _, h⟩ => h.here r rfl
theorem le_var {i : Nat} {x : Str} (hN : X.N[i]? = some x) (hv : Vis X.env.scope x) (hd : (x == ("__debug__" : Str)) = false) (hcd : (x == ("__classdict__" : Str)) = false) :
    LE X lk (.Name x pos) (fun s G => PK.optK (s[i]?.join) (fun d => .ok d G) .bad) := by
  refine pe_imp (pe_var hN hv hd hcd) fun σ H Q ⟨ρ, G, s, r, en, h⟩ => ?_
  cases q : s[i]? with
  | none => simp [q, PK.optK] at h; exact h.elim
  | some z =>
    cases z with
    | none => simp [q, PK.optK] at h; exact h.elim
    | some d =>
      obtain ⟨v, h1, h2⟩ := en.at_ i d q
      simp [q, PK.optK] at h
      exact ⟨v, h1, h.here r h2⟩
theorem le_glob {x : Str} {i : Nat} {gl : Nat → Option PK.D} (hg : Gl X x) (hd : (x == ("__debug__" : Str)) = false) (h : ∀ d, gl i = some d → ∃ v u, X.mg x = some u ∧ RelV v u ∧ ∀ ρ n H, Rep X.K lk ρ n H d v) :
    LE X lk (.Name x pos) (fun _ G => PK.optK (gl i) (fun d => .ok d G) .bad) := by
  cases q : gl i with
  | none => exact ⟨fun _ _ _ _ _ _ ⟨_, _, _, _, _, h⟩ => h.elim⟩
  | some d =>
    obtain ⟨v, u, h1, h2, h3⟩ := h d q
    exact pe_imp (pe_glob hg h1 h2 hd) fun σ H Q ⟨ρ, G, s, r, en, h⟩ => h.here r (h3 _ _ _)

theorem le_bin (o : PK.Bo) (w : Bool) (ha : LE X lk a ea) (hb : LE X lk b eb) : LE X lk (.BinOp a (opOf o) b pos) (fun s G => (ea s G).bind fun x G1 => (eb s G1).bind fun y G2 => PK.binD o w x y G2) :=
  pe_imp (pe_op (op_bin o) ha hb) fun σ H Q ⟨ρ, G, s, r, en, h⟩ => ⟨ρ, G, s, r, en, h.bind fun v G1 _ ρ1 H1 x e1 r1 p1 h1 => ⟨ρ1, G1, s, r1, en.ext e1, h1.bind fun u G2 _ ρ2 H2 y e2 r2 p2 h2 =>
    bin_val o r2 (Rep.ext e2 _ _ p1) p2 h2⟩⟩
theorem le_neg (ha : LE X lk a ea) : LE X lk (.UnaryOp .USub a pos) (fun s G => (ea s G).bind fun x G1 => PK.negD x G1) :=
  pe_imp (pe_un un_neg ha) fun σ H Q ⟨ρ, G, s, r, en, h⟩ => ⟨ρ, G, s, r, en, h.bind fun v G1 _ ρ1 H1 x e1 r1 p1 h1 => by
    cases v with
    | int i => exact ⟨i, p1, OutE.here h1 r1 rfl⟩
    | _ => exact False.elim h1⟩
theorem le_cmp (hu : X.A.units + 64 < cLine) (o : PK.Co) (hm : behindInMarks (cmOf o) b = false) (ha : LE X lk a ea) (hb : LE X lk b eb) :
    LE X lk (.Compare a [cmOf o] [b] pos) (fun s G => (ea s G).bind fun x G1 => (eb s G1).bind fun y G2 => PK.cmpD o x y G2) :=
  pe_imp (pe_cmpR (op_cmp hu o) ha hb hm) fun σ H Q ⟨ρ, G, s, r, en, h⟩ => ⟨ρ, G, s, r, en, h.bind fun v G1 _ ρ1 H1 x e1 r1 p1 h1 => ⟨ρ1, G1, s, r1, en.ext e1, h1.bind fun u G2 _ ρ2 H2 y e2 r2 p2 h2 =>
    cmp_val o r2 (Rep.ext e2 _ _ p1) p2 h2⟩⟩
theorem OutT.cmp {K : PySem.W.Frag} {σ : L2.St} {ρ : Nm} {G : Cells} {H : Hp} {o : PK.Co} {w : World} {v u : PK.D} {x y : V} {Q : Bool → Hp → Prop} (r : Rel K lk ρ G H) (p : Rep K lk ρ G.length H v x) (p' : Rep K lk ρ G.length H u y)
    (h : OutT K lk W σ ρ G H (PK.cmpD o v u G) Q) : rCmp K w o x y H (fun z H' => ∃ k, z = .bl k ∧ Q k H') := by
  refine cmp_val (W := W) (σ := σ) o r p p' ?_
  cases q : PK.cmpD o v u G with
  | ok z G' =>
    rw [q] at h
    obtain ⟨b, rfl, h⟩ := h
    exact fun ρ' H' x e r' p' => ⟨b, p', h ρ' H' e r'⟩
  | exc c G' => rw [q] at h; exact h
  | bad => rw [q] at h; exact h
theorem lt_cmp (hu : X.A.units + 64 < cLine) (o : PK.Co) (hm : behindInMarks (cmOf o) b = false) (ha : LE X lk a ea) (hb : LE X lk b eb) :
    LT X lk (.Compare a [cmOf o] [b] pos) (fun s G => (ea s G).bind fun x G1 => (eb s G1).bind fun y G2 => PK.cmpD o x y G2) :=
  pt_imp (pt_cmpR (op_cmp hu o) ha hb hm) fun σ H Q ⟨ρ, G, s, r, en, h⟩ => ⟨ρ, G, s, r, en, h.bind fun v G1 _ ρ1 H1 x e1 r1 p1 h1 => ⟨ρ1, G1, s, r1, en.ext e1, h1.bind fun u G2 _ ρ2 H2 y e2 r2 p2 h2 =>
    OutT.cmp r2 (Rep.ext e2 _ _ p1) p2 h2⟩⟩
def chainE (o o' : PK.Co) (ea eb ec : Ev) : Ev := fun s G => (ea s G).bind fun x G1 => (eb s G1).bind fun y G2 => (PK.cmpD o x y G2).bind fun z G3 =>
    PK.blK z (fun t => PK.iteK t (fun _ => (ec s G3).bind fun u G4 => PK.cmpD o' y u G4) fun _ => .ok (.bl false) G3) .bad
theorem blK_bad {v : PK.D} {f : Bool → PK.R} {t} (h : ∀ b, v ≠ .bl b) : PK.blK v f .bad t = .bad := by cases v <;> first | rfl | exact absurd rfl (h _)
theorem cmp_then {K : PySem.W.Frag} {σ : L2.St} {ρ : Nm} {G : Cells} {H : Hp} {o : PK.Co} {w : World} {v u : PK.D} {x y : V} {f : PK.D → Cells → PK.R} {Q Q1 : VK} (r : Rel K lk ρ G H) (p : Rep K lk ρ G.length H v x) (p' : Rep K lk ρ G.length H u y)
    (h : OutE K lk W σ ρ G H ((PK.cmpD o v u G).bind f) Q) (hf : ∀ z G1, (∀ b, z ≠ .bl b) → f z G1 = .bad)
    (k : ∀ b G1 ρ1 H1, Ext ρ G.length H ρ1 G1.length H1 → Rel K lk ρ1 G1 H1 → OutE K lk W σ ρ1 G1 H1 (f (.bl b) G1) Q → Q1 (.bl b) H1) : rCmp K w o x y H Q1 := by
  refine cmp_val (W := W) (σ := σ) o r p p' (h.bind fun z G1 _ ρ1 H1 x e1 r1 p1 h1 => ?_)
  cases z with
  | bl b => rw [show x = V.bl b from p1]; exact k b G1 ρ1 H1 e1 r1 h1
  | _ => rw [hf _ _ (fun _ z => by cases z)] at h1; exact h1.elim
theorem le_chain (hu : X.A.units + 64 < cLine) (o o' : PK.Co) (hm : lastMarks [cmOf o, cmOf o'] [b, c] = false) (ha : LE X lk a ea) (hb : LE X lk b eb) (hc : LE X lk c ec) :
    LE X lk (.Compare a [cmOf o, cmOf o'] [b, c] pos) (chainE o o' ea eb ec) :=
  pe_imp (pe_chain (op_cmp hu o) (op_cmp hu o') ha hb hc hm) fun σ H Q ⟨ρ, G, s, r, en, h⟩ => ⟨ρ, G, s, r, en, OutE.bind h fun v G1 _ ρ1 H1 x e1 r1 p1 h1 => ⟨ρ1, G1, s, r1, en.ext e1, h1.bind fun u G2 _ ρ2 H2 y e2 r2 p2 h2 => by
    refine cmp_then r2 (Rep.ext e2 _ _ p1) p2 h2 (fun _ _ z => blK_bad z) fun b G3 ρ3 H3 e3 r3 h3 => ⟨b, rfl, ?_⟩
    cases b with
    | true => exact ⟨ρ3, G3, s, r3, (en.ext e1).ext (e2.trans e3), OutE.bind (t := .mk) h3 fun u' G4 _ ρ4 H4 y' e4 r4 p4 h4 => cmp_val o' r4 (Rep.ext (e3.trans e4) _ _ p2) p4 h4⟩
    | false => exact OutE.here h3 r3 rfl⟩⟩
theorem OutT.toE {K : PySem.W.Frag} {σ : L2.St} {ρ : Nm} {G : Cells} {H : Hp} {r : PK.R} {Q : Bool → Hp → Prop} (h : OutT K lk W σ ρ G H r Q) : OutE K lk W σ ρ G H r (fun z H' => ∃ k, z = .bl k ∧ Q k H') := by
  cases r with
  | ok z G' =>
    obtain ⟨b, rfl, h⟩ := h
    exact fun ρ' H' x e r' p' => ⟨b, p', h ρ' H' e r'⟩
  | exc c G' => exact h
  | bad => exact h
theorem lt_chain (hu : X.A.units + 64 < cLine) (o o' : PK.Co) (hm : lastMarks [cmOf o, cmOf o'] [b, c] = false) (ha : LE X lk a ea) (hb : LE X lk b eb) (hc : LE X lk c ec) :
    LT X lk (.Compare a [cmOf o, cmOf o'] [b, c] pos) (chainE o o' ea eb ec) :=
  pt_imp (pt_chain (op_cmp hu o) (op_cmp hu o') ha hb hc hm) fun σ H Q ⟨ρ, G, s, r, en, h⟩ => ⟨ρ, G, s, r, en, OutE.bind (OutT.toE h) fun v G1 _ ρ1 H1 x e1 r1 p1 h1 => ⟨ρ1, G1, s, r1, en.ext e1, h1.bind fun u G2 _ ρ2 H2 y e2 r2 p2 h2 => by
    refine cmp_then r2 (Rep.ext e2 _ _ p1) p2 h2 (fun _ _ z => blK_bad z) fun b G3 ρ3 H3 e3 r3 h3 => ⟨b, rfl, ?_⟩
    cases b with
    | true => exact ⟨ρ3, G3, s, r3, (en.ext e1).ext (e2.trans e3), OutE.bind (t := .mk) h3 fun u' G4 _ ρ4 H4 y' e4 r4 p4 h4 => cmp_val o' r4 (Rep.ext (e3.trans e4) _ _ p2) p4 h4⟩
    | false => exact OutE.here h3 r3 rfl⟩⟩

def andE (ea eb : Ev) : Ev := fun s G => (ea s G).bind fun x G1 => PK.blK x (fun t => PK.iteK t (fun _ => eb s G1) fun _ => .ok (.bl false) G1) .bad
def orE (ea eb : Ev) : Ev := fun s G => (ea s G).bind fun x G1 => PK.blK x (fun t => PK.iteK t (fun _ => .ok (.bl true) G1) fun _ => eb s G1) .bad
def notE (ea : Ev) : Ev := fun s G => (ea s G).bind fun x G1 => PK.blK x (fun t => .ok (.bl (!t)) G1) .bad
def iteE (et ea eb : Ev) : Ev := fun s G => (et s G).bind fun x G1 => PK.blK x (fun t => PK.iteK t (fun _ => ea s G1) fun _ => eb s G1) .bad
theorem bl_of {K : PySem.W.Frag} {σ : L2.St} {ρ : Nm} {G : Cells} {H : Hp} {v : PK.D} {x : V} {f : Bool → PK.R} {Q : VK} {t} (p : Rep K lk ρ G.length H v x) (h : OutE K lk W σ ρ G H (PK.blK v f .bad t) Q) : ∃ b, x = .bl b ∧ OutE K lk W σ ρ G H (f b) Q := by
  cases v with
  | bl b => exact ⟨b, p, h⟩
  | _ => exact False.elim h
theorem le_and {rest : List Expr} (ha : LE X lk a ea) (hb : LE X lk (.BoolOp .And (b :: rest) pos) eb) : LE X lk (.BoolOp .And (a :: b :: rest) pos) (andE ea eb) :=
  pe_imp (pe_and ha hb) fun σ H Q ⟨ρ, G, s, r, en, h⟩ => ⟨ρ, G, s, r, en, OutE.bind h fun v G1 _ ρ1 H1 x e1 r1 p1 h1 => by
    obtain ⟨b, hx, h1⟩ := bl_of p1 h1
    refine ⟨b, hx, ?_⟩
    cases b with
    | true => rw [if_pos rfl]; exact ⟨ρ1, G1, s, r1, en.ext e1, h1⟩
    | false => rw [if_neg Bool.false_ne_true]; exact OutE.here h1 r1 rfl⟩
theorem le_or {rest : List Expr} (ha : LE X lk a ea) (hb : LE X lk (.BoolOp .Or (b :: rest) pos) eb) : LE X lk (.BoolOp .Or (a :: b :: rest) pos) (orE ea eb) :=
  pe_imp (pe_or ha hb) fun σ H Q ⟨ρ, G, s, r, en, h⟩ => ⟨ρ, G, s, r, en, OutE.bind h fun v G1 _ ρ1 H1 x e1 r1 p1 h1 => by
    obtain ⟨b, hx, h1⟩ := bl_of p1 h1
    refine ⟨b, hx, ?_⟩
    cases b with
    | true => rw [if_pos rfl]; exact OutE.here h1 r1 rfl
    | false => rw [if_neg Bool.false_ne_true]; exact ⟨ρ1, G1, s, r1, en.ext e1, h1⟩⟩
theorem le_not (ha : LE X lk a ea) : LE X lk (.UnaryOp .Not a pos) (notE ea) :=
  pe_imp (pe_not ha) fun σ H Q ⟨ρ, G, s, r, en, h⟩ => ⟨ρ, G, s, r, en, OutE.bind h fun v G1 _ ρ1 H1 x e1 r1 p1 h1 => by
    obtain ⟨b, hx, h1⟩ := bl_of p1 h1
    exact ⟨b, hx, OutE.here h1 r1 rfl⟩⟩
theorem le_ite (hc : LT X lk c ec) (ha : LE X lk a ea) (hb : LE X lk b eb) : LE X lk (.IfExp c a b pos) (iteE ec ea eb) :=
  pe_imp (pe_ifExp hc ha hb) fun σ H Q ⟨ρ, G, s, r, en, h⟩ => ⟨ρ, G, s, r, en, OutE.bindT h (fun _ _ z => blK_bad z) fun b G1 _ ρ1 H1 e1 r1 h1 => by
    cases b with
    | true => exact ⟨ρ1, G1, s, r1, en.ext e1, h1⟩
    | false => exact ⟨ρ1, G1, s, r1, en.ext e1, h1⟩⟩
theorem OutT.bindT {K : PySem.W.Frag} {σ : L2.St} {ρ : Nm} {G : Cells} {H : Hp} {r : PK.R} {f : Bool → Cells → PK.R} {Q Q1 : Bool → Hp → Prop} (h : OutT K lk W σ ρ G H (r.bind (fun x G1 => PK.blK x (fun b => f b G1) .bad)) Q)
    (k : ∀ b G1, ∀ ρ1 H1, Ext ρ G.length H ρ1 G1.length H1 → Rel K lk ρ1 G1 H1 → OutT K lk W σ ρ1 G1 H1 (f b G1) Q → Q1 b H1) : OutT K lk W σ ρ G H r Q1 := by
  cases r with
  | ok v G1 =>
    cases v with
    | bl b => exact ⟨b, rfl, fun ρ1 H1 e1 r1 => k b G1 ρ1 H1 e1 r1 (OutT.ext e1 h)⟩
    | _ => exact False.elim h
  | exc c G' => exact h
  | bad => exact h
theorem OutT.here {K : PySem.W.Frag} {σ : L2.St} {ρ : Nm} {G : Cells} {H : Hp} {b : Bool} {Q : Bool → Hp → Prop} (h : OutT K lk W σ ρ G H (.ok (.bl b) G) Q) (r : Rel K lk ρ G H) : Q b H := by
  obtain ⟨b', e, h⟩ := h
  cases e
  exact h ρ H Ext.refl r
theorem lw_and {rest : List Expr} (ha : LT X lk a ea) (hb : LW X lk (.BoolOp .And (b :: rest) pos) eb) : LW X lk (.BoolOp .And (a :: b :: rest) pos) (andE ea eb) :=
  pw_imp (pw_and ha hb) fun σ H Q ⟨ρ, G, s, r, en, h⟩ => ⟨ρ, G, s, r, en, OutT.bindT h fun b G1 ρ1 H1 e1 r1 h1 => by
    cases b with
    | true => rw [if_pos rfl]; exact ⟨ρ1, G1, s, r1, en.ext e1, h1⟩
    | false => rw [if_neg Bool.false_ne_true]; exact OutT.here h1 r1⟩
theorem lw_or {rest : List Expr} (ha : LT X lk a ea) (hb : LW X lk (.BoolOp .Or (b :: rest) pos) eb) : LW X lk (.BoolOp .Or (a :: b :: rest) pos) (orE ea eb) :=
  pw_imp (pw_or ha hb) fun σ H Q ⟨ρ, G, s, r, en, h⟩ => ⟨ρ, G, s, r, en, OutT.bindT h fun b G1 ρ1 H1 e1 r1 h1 => by
    cases b with
    | true => rw [if_pos rfl]; exact OutT.here h1 r1
    | false => rw [if_neg Bool.false_ne_true]; exact ⟨ρ1, G1, s, r1, en.ext e1, h1⟩⟩
theorem lt_not (ha : LT X lk a ea) : LT X lk (.UnaryOp .Not a pos) (notE ea) :=
  pt_imp (pt_not ha) fun σ H Q ⟨ρ, G, s, r, en, h⟩ => ⟨ρ, G, s, r, en, OutT.bindT (f := fun t G1 => .ok (.bl (!t)) G1) h fun b G1 ρ1 H1 e1 r1 h1 => OutT.here h1 r1⟩
theorem lt_val (ha : LE X lk a ea) (he : ∀ whole, isTrue a X.env whole = (do let v ← whole; standAt a.pos; holding [v] (truthy v))) : LT X lk a ea :=
  pt_imp (pt_val ha he) fun σ H Q ⟨ρ, G, s, r, en, h⟩ => ⟨ρ, G, s, r, en, OutT.toE h⟩

theorem la_nil : LA X lk [] (fun _ G => .ok (.tup []) G) := pa_imp pa_nil fun σ H Q ⟨ρ, G, s, r, en, h⟩ => h ρ H [] Ext.refl r ⟨[], rfl, rfl⟩
theorem la_cons {er : Ev} (ha : LE X lk a ea) (hr : LA X lk es er) (hs : starEach (a :: es) X.env = (false, eval a X.env) :: starEach es X.env) :
    LA X lk (a :: es) (fun s G => (ea s G).bind fun x G1 => (er s G1).bind fun xs G2 => PK.tupK xs (fun ds => .ok (.tup (x :: ds)) G2) .bad) :=
  pa_imp (pa_cons ha hr hs) fun σ H Q ⟨ρ, G, s, r, en, h⟩ => by
    refine ⟨ρ, G, s, r, en, ?_⟩
    have h : OutA X.K lk (WXo X) σ ρ G H ((ea s G).bind fun x G1 => (er s G1).bind fun xs G2 => PK.tupK xs (fun ds => .ok (.tup (x :: ds)) G2) .bad) Q := h
    cases q : ea s G with
    | ok v G1 =>
      rw [q] at h
      intro ρ1 H1 x e1 r1 p1
      refine ⟨ρ1, G1, s, r1, en.ext e1, ?_⟩
      have h : OutA X.K lk (WXo X) σ ρ G H ((er s G1).bind fun xs G2 => PK.tupK xs (fun ds => .ok (.tup (v :: ds)) G2) .bad) Q := h
      have h := OutA.ext e1 h
      cases q2 : er s G1 with
      | ok u G2 =>
        rw [q2] at h
        intro ρ2 H2 xs e2 r2 ⟨ds, eu, p2⟩
        subst eu
        exact h ρ2 H2 (x :: xs) e2 r2 ⟨v :: ds, rfl, x, xs, rfl, Rep.ext e2 _ _ p1, p2⟩
      | exc c G' => rw [q2] at h; exact h
      | bad => rw [q2] at h; exact h
    | exc c G' => rw [q] at h; exact h
    | bad => rw [q] at h; exact h
def thenA (er : Ev) (f : List PK.D → Cells → PK.R) : Ev := fun s G => (er s G).bind fun x G1 => PK.tupK x (fun ds => f ds G1) .bad
theorem OutE.args {K : PySem.W.Frag} {σ : L2.St} {ρ : Nm} {G : Cells} {H : Hp} {r : PK.R} {f : List PK.D → Cells → PK.R} {Q : VK} {Q1 : List V → Hp → Prop} (h : OutE K lk W σ ρ G H (r.bind (fun x G1 => PK.tupK x (fun ds => f ds G1) .bad)) Q)
    (k : ∀ ds G1, ∀ ρ1 H1 xs, Ext ρ G.length H ρ1 G1.length H1 → Rel K lk ρ1 G1 H1 → Reps K lk ρ1 G1.length H1 ds xs → OutE K lk W σ ρ1 G1 H1 (f ds G1) Q → Q1 xs H1) : OutA K lk W σ ρ G H r Q1 := by
  cases r with
  | ok v G1 =>
    intro ρ1 H1 xs e1 r1 ⟨ds, hv, p1⟩
    subst hv
    exact k ds G1 ρ1 H1 xs e1 r1 p1 (OutE.ext e1 h)
  | exc c G' => exact h
  | bad => exact h
theorem len_of {K : PySem.W.Frag} {ρ : Nm} {G : Cells} {H : Hp} {ds : List PK.D} {xs : List V} (p : Reps K lk ρ G.length H ds xs) (h : ds.length ≤ 1000000) : xs.length ≤ sizeLine := by
  rw [← p.length]; exact Nat.le_trans h (by rw [sizeLine_eq]; decide)
theorem le_tup {er : Ev} (ha : LA X lk es er) (hl : ∀ s G ds G', er s G = .ok (.tup ds) G' → ds.length ≤ 1000000) (hv : ∀ s G v G', er s G = .ok v G' → ∃ ds, v = .tup ds) : LE X lk (.Tuple es k pos) er :=
  pe_imp (pe_tup ha) fun σ H Q ⟨ρ, G, s, r, en, h⟩ => by
    refine ⟨ρ, G, s, r, en, ?_⟩
    cases q : er s G with
    | ok v G1 =>
      rw [q] at h
      obtain ⟨ds, rfl⟩ := hv _ _ _ _ q
      intro ρ1 H1 xs e1 r1 ⟨ds', e, p1⟩
      cases e
      exact ⟨len_of p1 (hl _ _ _ _ q), OutE.tup (OutE.ext e1 h) r1 p1⟩
    | exc c G' => rw [q] at h; exact h
    | bad => rw [q] at h; exact h
theorem le_lst {er : Ev} (w : Bool) (ha : LA X lk es er) (hl : ∀ s G ds G', er s G = .ok (.tup ds) G' → ds.length ≤ 1000000) : LE X lk (.List es pos) (thenA er fun ds G => PK.mkl w ds G) :=
  pe_imp (pe_lst ha) fun σ H Q ⟨ρ, G, s, r, en, h⟩ => by
    refine ⟨ρ, G, s, r, en, ?_⟩
    have h : OutE X.K lk (WXo X) σ ρ G H ((er s G).bind fun x G1 => PK.tupK x (fun ds => PK.mkl w ds G1) .bad) Q := h
    cases q : er s G with
    | ok v G1 =>
      rw [q] at h
      intro ρ1 H1 xs e1 r1 ⟨ds', e, p1⟩
      subst e
      exact ⟨len_of p1 (hl _ _ _ _ q), OutE.mkl (OutE.ext e1 h) r1 p1⟩
    | exc c G' => rw [q] at h; exact h
    | bad => rw [q] at h; exact h
theorem le_ix (hu : X.A.units + 1 < cLine) (hs : PlainIx b) (ha : LE X lk a ea) (hb : LE X lk b eb) : LE X lk (.Subscript a b pos) (fun s G => (ea s G).bind fun x G1 => (eb s G1).bind fun y G2 => PK.ixD x y G2) :=
  pe_imp (pe_ix (ix_all hu) ha hb hs) fun σ H Q ⟨ρ, G, s, r, en, h⟩ => ⟨ρ, G, s, r, en, h.bind fun v G1 _ ρ1 H1 x e1 r1 p1 h1 => ⟨ρ1, G1, s, r1, en.ext e1, h1.bind fun u G2 _ ρ2 H2 y e2 r2 p2 h2 =>
    ix_val r2 (Rep.ext e2 _ _ p1) p2 h2⟩⟩
theorem le_rev (w : Bool) (ha : LE X lk a ea) : LE X lk (.Subscript a (.Slice none none (some (.UnaryOp .USub (.Constant (.int 1) k p1) p2)) p3) pos) (fun s G => (ea s G).bind fun x G1 => PK.revD w x G1) :=
  pe_imp (pe_revL ha) fun σ H Q ⟨ρ, G, s, r, en, h⟩ => ⟨ρ, G, s, r, en, h.bind fun v G1 _ ρ1 H1 x e1 r1 p1 h1 => rev_val r1 p1 h1⟩
def OutP (K : PySem.W.Frag) (lk : Lk) (W : WX) (σ : L2.St) (ρ : Nm) (G : Cells) (H : Hp) (r : PK.R) (Q : Option Int → Hp → Prop) : Prop := match r with
  | .ok (.exc _) G' => ∀ ρ' H', Ext ρ G.length H ρ' G'.length H' → Rel K lk ρ' G' H' → Q none H'
  | .ok (.int i) G' => ∀ ρ' H', Ext ρ G.length H ρ' G'.length H' → Rel K lk ρ' G' H' → Q (some i) H'
  | .exc c G' => ∀ ρ' H', Ext ρ G.length H ρ' G'.length H' → Rel K lk ρ' G' H' → W (.ref (lk.EA c)) none σ H'
  | _ => False
def tPo (K : PySem.W.Frag) (lk : Lk) (W : WX) (el : Ev) : TO := fun σ H Q => ∃ ρ G s, Rel K lk ρ G H ∧ REnv K lk ρ G.length H s σ ∧ OutP K lk W σ ρ G H (el s G) Q
def PoL (X : Cx) (lk : Lk) (lo : Option Expr) (el : Ev) : Prop := (lo = none ∧ el = fun _ G => .ok (.exc 0) G) ∨ ∃ e, lo = some e ∧ LE X lk e el
theorem po_of {lo : Option Expr} {el : Ev} (h : PoL X lk lo el) : PO X lo (tPo X.K lk (WXo X) el) := by
  rcases h with ⟨rfl, rfl⟩ | ⟨e, rfl, h⟩
  · refine ⟨fun pins s σ H Q I hw => (po_none (X := X)).run pins s σ H Q I ?_⟩
    obtain ⟨ρ, G, s', r, en, h⟩ := hw
    exact h ρ H Ext.refl r
  · refine ⟨fun pins s σ H Q I hw => (po_some (X := X) h).run pins s σ H Q I ?_⟩
    obtain ⟨ρ, G, s', r, en, h⟩ := hw
    refine ⟨ρ, G, s', r, en, ?_⟩
    cases q : el s' G with
    | ok v G1 =>
      rw [q] at h
      cases v with
      | int i => exact fun ρ' H' x e' r' p' => ⟨i, p', h ρ' H' e' r'⟩
      | exc c => exact fun ρ' H' x e' r' p' => False.elim p'
      | _ => exact False.elim h
    | exc c G' => rw [q] at h; exact h
    | bad => rw [q] at h; exact h
theorem OutP.of {K : PySem.W.Frag} {σ : L2.St} {ρ : Nm} {G : Cells} {H : Hp} {r : PK.R} {f : PK.D → Cells → PK.R} {Q : VK} {Q1 : Option Int → Hp → Prop} (h : OutE K lk W σ ρ G H (r.bind f) Q) (hf : ∀ v G1, PK.partD v = none → f v G1 = .bad)
    (k : ∀ v l G1, PK.partD v = some l → ∀ ρ1 H1, Ext ρ G.length H ρ1 G1.length H1 → Rel K lk ρ1 G1 H1 → OutE K lk W σ ρ1 G1 H1 (f v G1) Q → Q1 l H1) : OutP K lk W σ ρ G H r Q1 := by
  cases r with
  | ok v G1 =>
    cases v with
    | int i => exact fun ρ1 H1 e1 r1 => k _ _ G1 rfl ρ1 H1 e1 r1 (OutE.ext e1 h)
    | exc c => exact fun ρ1 H1 e1 r1 => k _ _ G1 rfl ρ1 H1 e1 r1 (OutE.ext e1 h)
    | _ =>
      have h : OutE K lk W σ ρ G H (f _ G1) Q := h
      rw [hf _ _ rfl] at h; exact h.elim
  | exc c G' => exact h
  | bad => exact h
theorem slD_bad {w : Bool} {x l h : PK.D} {G : Cells} (q : PK.partD l = none ∨ PK.partD h = none) : PK.slD w x l h G = .bad := by
  unfold PK.slD
  rcases q with q | q
  · rw [q]
  · rw [q]; split <;> first | rfl | contradiction
theorem le_sl {lo hi : Option Expr} {el eh : Ev} (w : Bool) (ha : LE X lk a ea) (hl : PoL X lk lo el) (hh : PoL X lk hi eh) :
    LE X lk (.Subscript a (.Slice lo hi none p2) pos) (fun s G => (ea s G).bind fun x G1 => (el s G1).bind fun l G2 => PK.optK (PK.partD l) (fun _ => (eh s G2).bind fun h G3 => PK.slD w x l h G3) .bad) :=
  pe_imp (pe_slice (sl_all) ha (po_of hl) (po_of hh)) fun σ H Q ⟨ρ, G, s, r, en, h⟩ => ⟨ρ, G, s, r, en, h.bind fun v G1 _ ρ1 H1 x e1 r1 p1 h1 => ⟨ρ1, G1, s, r1, en.ext e1, by
    cases q : el s G1 with
    | ok l G2 =>
      rw [q] at h1
      have go : ∀ l' ρ2 H2, PK.partD l = some l' → OutE X.K lk (WXo X) σ ρ1 G1 H1 ((eh s G2).bind fun h G3 => PK.slD w v l h G3) Q → Ext ρ1 G1.length H1 ρ2 G2.length H2 → Rel X.K lk ρ2 G2 H2 → tPo X.K lk (WXo X) eh σ H2 fun u H3 => rSlAll X.K x l' u H3 Q := fun l' ρ2 H2 pl h1 e2 r2 =>
        ⟨ρ2, G2, s, r2, en.ext (e1.trans e2), OutP.of (OutE.ext e2 h1) (fun v G z => slD_bad (.inr z)) fun h' u G3 ph ρ3 H3 e3 r3 h3 => sl_val r3 (Rep.ext (e2.trans e3) _ _ p1) pl ph h3⟩
      cases l with
      | int i => exact fun ρ2 H2 e2 r2 => go _ ρ2 H2 rfl h1 e2 r2
      | exc c => exact fun ρ2 H2 e2 r2 => go _ ρ2 H2 rfl h1 e2 r2
      | _ => exact False.elim h1
    | exc c G' => rw [q] at h1; exact h1
    | bad => rw [q] at h1; exact h1⟩⟩
theorem le_dnew (t : Bool) : LE X lk (.Dict [] [] pos) (fun _ G => .ok (.ref G.length) (G ++ [if t then .dT [] else .dK []])) := by
  cases t with
  | true =>
    refine pe_imp pe_dnewT fun σ H Q ⟨ρ, G, s, r, en, h⟩ p hp => ?_
    have h : OutE X.K lk (WXo X) σ ρ G H (.ok (.ref G.length) (G ++ [.dT []])) Q := h
    refine h (nset ρ G.length p) _ _ ?_ (r.laid hp ⟨[], rfl, rfl, rfl⟩) ⟨by simp, by rw [nset_same]⟩
    rw [List.length_append]
    exact Ext.celled hp
  | false =>
    refine pe_imp pe_dnewK fun σ H Q ⟨ρ, G, s, r, en, h⟩ p hp => ?_
    have h : OutE X.K lk (WXo X) σ ρ G H (.ok (.ref G.length) (G ++ [.dK []])) Q := h
    refine h (nset ρ G.length p) _ _ ?_ (r.laid hp ⟨[], rfl, rfl, rfl⟩) ⟨by simp, by rw [nset_same]⟩
    rw [List.length_append]
    exact Ext.celled hp
end
end PKS
namespace PKS
open PySem PySem.Spec PyProof.Rows L2
structure RoomG (k : Nat) (A : Around) : Prop where
  r : Room k A
  g : A.guards = some []
theorem RoomG.mono {j k : Nat} {A : Around} (r : RoomG k A) (h : j ≤ k) : RoomG j A := ⟨r.r.mono h, r.g⟩
theorem RoomG.deeper {k : Nat} {A : Around} (r : RoomG (k + 1) A) (env : Env) : RoomG k (A.deeper env) := ⟨r.r.deeper env, r.g⟩
theorem make_guards {A : Around} {C : Addr} {us : List Value} {kw : List (Str × Value)} (h : A.guards = some []) : (A.under (.builtin "type.__call__" ⟨.ref C :: us, kw⟩)).guards = some [] := by
  first | exact h | simp [Around.under, Code.weight, Code.isCreation, Code.isGuard, Code.isCaller, Code.frames, Code.isFrame, guardIds, h]
theorem RoomG.make {k : Nat} {A : Around} (r : RoomG (k + 1) A) (C : Addr) (us : List Value) (kw : List (Str × Value)) : RoomG k (A.under (.builtin "type.__call__" ⟨.ref C :: us, kw⟩)) := ⟨r.r.make C us kw, make_guards r.g⟩
structure FnG (P : Program) (w : World) (K : PySem.W.Frag) (mg : Str → Option Value) (base : Heap) (k : Nat) (f : Addr) (fd : FuncData) (ps : List Str) (sp : Sp) : Prop where
  len : ∀ vs H Q E, sp vs H Q E → vs.length = ps.length
  run : ∀ (A : Around) (outer : List Env) (s : Shared) (H : Hp) (args : Args) (us : List Value) (vs : List V) (Q : VK) (E : XK), RoomG k A → Env0 P w K mg base A outer s H → BindsTo s fd args (ps.zip us) → Vals vs us → sp vs H Q E →
    codeAny (model P w) A (.call (.ref f) args) (CR (L2.CX P w) outer P w H s Q E) s
section
variable {X : Cx} {k : Nat} {f C : Addr} {fd : FuncData} {ps : List Str} {sp : Sp} {x m : Str} {p pos apos : Pos} {e o : Expr} {es : List Expr} {ta : TE} {t : TA} {E : XK}
theorem CR_back {pins : List (Addr × Obj)} {σ : L2.St} {H : Hp} {s : Shared} {Q : VK} {r : Result} {s' : Shared} (I : Inv X pins σ H s) (hq : CR (L2.CX X.prog X.w) X.stack X.prog X.w H s Q E0 r s') : match r with
    | .ok (.ret u) => EP X pins σ Q u s'
    | _ => False := by
  cases r with
  | error e =>
    obtain ⟨_, _, _, _, _, _, _, _, _, _, _, _, z⟩ := hq
    exact False.elim z
  | ok fl =>
    cases fl with
    | ret u => exact I.after hq
    | _ => exact hq
theorem run_G {pins : List (Addr × Obj)} {σ : L2.St} {H : Hp} {s : Shared} {Q : VK} {us : List Value} {vs : List V} (F : FnG X.prog X.w X.K X.mg X.base k f fd ps sp) (hr : RoomG k X.A) (hb : Binds X.K fd ps [])
    (I : Inv X pins σ H s) (r : Vals vs us) (h : sp vs H Q (WE (WXo X) σ)) : wpAny (model X.prog X.w) X.A (call (.ref f) us) (EP X pins σ Q) X.xe s := by
  have hl : (us ++ []).length = ps.length := by rw [List.append_nil, ← r.length]; exact F.len _ _ _ _ h
  refine wpAny_call (codeAny_mono (F.run X.A X.stack s H ⟨us, []⟩ (us ++ []) vs Q _ hr I.env0 (hb s us I.kIn hl) (by rw [List.append_nil]; exact r) h) fun r' s' hq => ?_)
  cases r' with
  | error e => exact passAt (takes_wx X) σ pins H s e s' I hq
  | ok fl =>
    cases fl with
    | ret u => exact I.after hq
    | _ => exact False.elim hq
def tCl (X : Cx) (sp : Sp) (t : TA) : TE := fun σ H Q => t σ H fun vs H1 => sp vs H1 Q (WE (WXo X) σ)
theorem pe_callG (F : FnG X.prog X.w X.K X.mg X.base k f fd ps sp) (hr : RoomG k X.A) (hg : Gl X x) (hm : X.mg x = some (.ref f)) (hk : PySem.W.keepIn X.K (.ref f) = true) (hb : Binds X.K fd ps [])
    (ha : PA X (e :: es) t) (hdb : (x == ("__debug__" : Str)) = false) (he : starEach (e :: es) X.env = (false, eval e X.env) :: starEach es X.env) (hpl : (backTo pos (starEach es X.env)).any (·.1) = false) :
    PE X (.Call (.Name x p) (e :: es) [] pos) (tCl X sp t) := by
  refine ⟨fun pins s σ H Q I h => wpAny_Call_Name_kw (ld_glob I hg hm ?_ hdb)⟩
  refine PySem.W.callWith_K (h₀ := X.base) I.ok.mod.kin hk (thn (ha.run pos pins s σ H _ I h) fun us s1 ⟨vs, H1, I1, r, q⟩ => ⟨I1.kIn, ?_⟩) he hpl
  exact run_G F hr hb I1 r q
theorem pe_callG0 (F : FnG X.prog X.w X.K X.mg X.base k f fd ps sp) (hr : RoomG k X.A) (hg : Gl X x) (hm : X.mg x = some (.ref f)) (hk : PySem.W.keepIn X.K (.ref f) = true) (hb : Binds X.K fd ps [])
    (hdb : (x == ("__debug__" : Str)) = false) : PE X (.Call (.Name x p) [] [] pos) (tCl X sp tNil) :=
  ⟨fun pins s σ H Q I h => wpAny_Call_Name_kw (ld_glob I hg hm (PySem.W.callWith_K0 I.kIn hk (run_G (us := []) F hr hb I .nil h)) hdb)⟩
def tMe (X : Cx) (C : Addr) (m : Str) (sp : Sp) (ta : TE) (t : TA) : TE := fun σ H Q => ta σ H fun x H1 => ∃ a dx fs, x = .ref a ∧ H1 a = some (.ins C dx fs) ∧ fs.lookup m = none ∧ t σ H1 fun vs H2 => sp (x :: vs) H2 Q (WE (WXo X) σ)
theorem pe_methG (he : PE X o ta) (c : Cls X.K C) (hm : Meth X.K C m f) (F : FnG X.prog X.w X.K X.mg X.base k f fd ps sp) (hr : RoomG k X.A) (hb : Binds X.K fd ps []) (ha : PA X (e :: es) t)
    (hst : starEach (e :: es) X.env = (false, eval e X.env) :: starEach es X.env) (hpl : (backTo pos (starEach es X.env)).any (·.1) = false)
    (ht : eval (.Call (.Attribute o m apos) (e :: es) [] pos) X.env = (do
      let ov ← eval o X.env
      standAt apos.atName
      let (f, first) ← holding [ov] (getMethod ov m (plainOf o X.env))
      callWith pos f first (backTo pos (starEach (e :: es) X.env)) (backToKw pos (keywordEach [] X.env)))) :
    PE X (.Call (.Attribute o m apos) (e :: es) [] pos) (tMe X C m sp ta t) := by
  refine ⟨fun pins s σ H Q I h => PySem.W.methodCall_KW (pl := plainOf o X.env) (thn (he.run pins s σ H _ I h) fun u s1 ⟨x, H1, I1, rx, a, dx, fs, ex, ea, l, q⟩ => ?_) ht⟩
  subst ex
  obtain rfl : u = Value.ref a := rx
  refine getmeth_ok I1 ea c hm l (PySem.W.callWith_K (first := [.ref a]) (h₀ := X.base) I.ok.mod.kin hm.kp (thn (ha.run pos pins s1 σ H1 _ I1 q) fun us s2 ⟨vs, H2, I2, r, q2⟩ => ⟨I2.kIn, ?_⟩) hst hpl)
  exact run_G (us := .ref a :: us) (vs := .ref a :: vs) F hr hb I2 (.cons rfl r) q2
theorem pe_methG0 (he : PE X o ta) (c : Cls X.K C) (hm : Meth X.K C m f) (F : FnG X.prog X.w X.K X.mg X.base k f fd ps sp) (hr : RoomG k X.A) (hb : Binds X.K fd ps [])
    (ht : eval (.Call (.Attribute o m apos) [] [] pos) X.env = (do
      let ov ← eval o X.env
      standAt apos.atName
      let (f, first) ← holding [ov] (getMethod ov m (plainOf o X.env))
      callWith pos f first (backTo pos (starEach [] X.env)) (backToKw pos (keywordEach [] X.env)))) :
    PE X (.Call (.Attribute o m apos) [] [] pos) (tMe X C m sp ta tNil) := by
  refine ⟨fun pins s σ H Q I h => PySem.W.methodCall_KW (pl := plainOf o X.env) (thn (he.run pins s σ H _ I h) fun u s1 ⟨x, H1, I1, rx, a, dx, fs, ex, ea, l, q⟩ => ?_) ht⟩
  subst ex
  obtain rfl : u = Value.ref a := rx
  exact getmeth_ok I1 ea c hm l (PySem.W.callWith_K0 (first := [.ref a]) I1.kIn hm.kp (run_G (us := [.ref a]) (vs := [.ref a]) F hr hb I1 (.cons rfl .nil) q))
def tMk (X : Cx) (C : Addr) (sp : Sp) (t : TA) : TE := fun σ H Q => t σ H fun vs H1 => ∀ x dx, H1 x = none → H1 dx = none → dx ≠ x → sp (.ref x :: vs) (upd (upd H1 dx (.own x)) x (.ins C dx [])) (fun v H2 => v = .non ∧ Q (.ref x) H2) (WE (WXo X) σ)
theorem run_mkG {pins : List (Addr × Obj)} {σ : L2.St} {H : Hp} {s : Shared} {Q : VK} {us : List Value} {vs : List V} (M : Mk X.K C f) (F : FnG X.prog X.w X.K X.mg X.base k f fd ps sp) (hr : RoomG (k + 1) X.A) (hb : Binds X.K fd ps [])
    (I : Inv X pins σ H s) (r : Vals vs us)
    (h : ∀ x dx, H x = none → H dx = none → dx ≠ x → sp (.ref x :: vs) (upd (upd H dx (.own x)) x (.ins C dx [])) (fun v H2 => v = .non ∧ Q (.ref x) H2) (WE (WXo X) σ)) :
    wpAny (model X.prog X.w) X.A (call (.ref C) us) (EP X pins σ Q) X.xe s := by
  let n := s.heap.objs.size
  have hq := h (n + 1) n (I.hok.fresh (Nat.le_succ _)) (I.hok.fresh (Nat.le_refl _)) (Nat.ne_of_lt (Nat.lt_succ_self _))
  have I2 := Inv.made (C := C) I
  have r2 : Vals (V.ref (n + 1) :: vs) (Value.ref (n + 1) :: us) := .cons rfl r
  have hl : (Value.ref (n + 1) :: us ++ []).length = ps.length := by
    rw [List.append_nil]
    exact r2.length.symm.trans (F.len _ _ _ _ hq)
  have hb2 := hb _ (Value.ref (n + 1) :: us) I2.kIn hl
  rw [List.append_nil] at hb2
  refine wpAny_call (make_map (f := f) I.kIn M.makes M.init (beq_iff_eq.mp M.fn) (codeAny_mono (F.run _ X.stack _ _ ⟨Value.ref (n + 1) :: us, []⟩ (Value.ref (n + 1) :: us) _ _ _ (hr.make C us []) (I2.env0.make C us []) hb2 r2 hq) fun r' s' hq' => ?_))
  cases r' with
  | error e => exact passAt (takes_wx X) σ _ _ _ e s' I2 hq'
  | ok fl =>
    cases fl with
    | ret u =>
      obtain ⟨v, H', I3, rv, ev, q3⟩ := I2.after hq'
      subst ev
      exact ⟨rv, ⟨V.ref (n + 1), H', I3, rfl, q3⟩⟩
    | _ => exact False.elim hq'
theorem pe_mkG (M : Mk X.K C f) (F : FnG X.prog X.w X.K X.mg X.base k f fd ps sp) (hr : RoomG (k + 1) X.A) (hg : Gl X x) (hm : X.mg x = some (.ref C)) (hb : Binds X.K fd ps [])
    (ha : PA X (e :: es) t) (hdb : (x == ("__debug__" : Str)) = false) (he : starEach (e :: es) X.env = (false, eval e X.env) :: starEach es X.env) (hpl : (backTo pos (starEach es X.env)).any (·.1) = false) :
    PE X (.Call (.Name x p) (e :: es) [] pos) (tMk X C sp t) := by
  refine ⟨fun pins s σ H Q I h => wpAny_Call_Name_kw (ld_glob I hg hm ?_ hdb)⟩
  exact PySem.W.callWith_K (h₀ := X.base) I.ok.mod.kin M.kp (thn (ha.run pos pins s σ H _ I h) fun us s1 ⟨vs, H1, I1, r, q⟩ => ⟨I1.kIn, run_mkG M F hr hb I1 r q⟩) he hpl
theorem pe_mkG0 (M : Mk X.K C f) (F : FnG X.prog X.w X.K X.mg X.base k f fd ps sp) (hr : RoomG (k + 1) X.A) (hg : Gl X x) (hm : X.mg x = some (.ref C)) (hb : Binds X.K fd ps [])
    (hdb : (x == ("__debug__" : Str)) = false) : PE X (.Call (.Name x p) [] [] pos) (tMk X C sp tNil) :=
  ⟨fun pins s σ H Q I h => wpAny_Call_Name_kw (ld_glob I hg hm (PySem.W.callWith_K0 I.kIn M.kp (run_mkG (us := []) M F hr hb I .nil h)) hdb)⟩
end

theorem fn_G {P : Program} {w : World} {K : PySem.W.Frag} {mg : Str → Option Value} {base : Heap} {k : Nat} {f : Addr} {name qual : Str} {params : Arguments} {body : List Stmt} {scope : Scope} {dV kV doc pm cdv ct oc : Value} {an od : Option Addr}
    {osl : Array (Option Value)} {N ps : List Str} {sp : Sp} (lk : K.lookup f = some ⟨oc, od, .func (PySem.W.fnOf name qual params body scope dV kV doc pm an cdv ct), osl⟩) (hcd : PySem.W.codeIn K cdv qual = true) (S : FnScope N ps scope)
    (len : ∀ vs H Q E, sp vs H Q E → vs.length = ps.length)
    (hbody : ∀ (A : Around) (outer : List Env) (s : Shared) (H : Hp) (vs : List V) (Q : VK) (E : XK), RoomG k (A.deeper (envOfC qual scope s.heap.objs.size f cdv)) → sp vs H Q E →
      ∃ t, PSs (cxOf (L2.CX P w) P w K mg base N qual scope f cdv A outer s H E) body t ∧ t { nx := fun _ H' => Q .non H', rt := Q } (start N vs) H) :
    FnG P w K mg base (k + 1) f (PySem.W.fnOf name qual params body scope dV kV doc pm an cdv ct) ps sp := by
  refine ⟨len, fun A outer s H args us vs Q E hr e0 hb r hsp => ?_⟩
  have kept := fun b o e => (e0.bs b o e).1
  have KX : K.In s.heap := e0.mod.kin.keeps kept
  have lim : s.heap.NoLimit := e0.mod.nolimit.keeps kept
  refine codeAny_call_function hr.r.depth (KX _ _ lk) rfl S.co S.gen rfl (PySem.W.codeRec_of KX hcd) (hb _ _ _ _ (wpAny_newFunctionEnv_cells S.kind (fun ⟨n, v⟩ hy => ?_) fun env he s1 x => ?_))
  · rcases S.par n (List.of_mem_zip hy).1 with q | q
    · exact .inl q
    · exact .inr ⟨q, PySem.W.cellsFrom_some _ _ _ (.inl q)⟩
  subst he
  refine ⟨lim.keeps x.toInCall.keep, codeAny_func ?_⟩
  obtain ⟨t, ht, hq⟩ := hbody A outer s H vs Q E (hr.deeper _) hsp
  have I : Inv (cxOf (L2.CX P w) P w K mg base N qual scope f cdv A outer s H E) [] (start N vs) H s1 := inv_start S hr.r.hd e0 (len _ _ _ _ hsp) r x
  refine wpAny_mono (ht.run [] s1 (start N vs) H _ I hq) (fun fl s' hs => ?_) fun e s' hs => hs
  have close : ∀ {σ' : L2.St} {H' : Hp} {v : V} {u : Value}, Inv (cxOf (L2.CX P w) P w K mg base N qual scope f cdv A outer s H E) [] σ' H' s' → RelV v u → Q v H' → CE outer P w H s Q u s' :=
    fun {σ' H' v u} J rv q => ⟨v, H', J.os, J.bare, J.base, J.hok, rv, q⟩
  cases fl with
  | ret u => obtain ⟨v, σ', H', J, rv, q⟩ := hs; exact close J rv q
  | next => obtain ⟨σ', H', J, q⟩ := hs; exact close (v := V.non) (u := Value.none) J rfl q
  | brk => obtain ⟨_, _, _, q⟩ := hs; exact False.elim q
  | cont => obtain ⟨_, _, _, q⟩ := hs; exact False.elim q
end PKS
namespace PKS
open PySem PySem.Spec PyProof.Rows L2
abbrev Cl := List Nat → List PK.D → Cells → PK.R
def spC (K : PySem.W.Frag) (lk : Lk) (c : Cl) : Sp := fun vs H Q E => ∃ Z m ρ G ds, Rel K (lk.w Z) ρ G H ∧ Reps K (lk.w Z) ρ G.length H ds vs ∧ OutE K (lk.w Z) (fun cls d _ H => E cls d H) [] ρ G H (c m ds G) Q
theorem OutE.st {K : PySem.W.Frag} {lk : Lk} {W : WX} {σ σ' : L2.St} {ρ : Nm} {G : Cells} {H : Hp} {r : PK.R} {Q : VK} (h : OutE K lk W σ ρ G H r Q) : OutE K lk (fun cls d _ H => WE W σ cls d H) σ' ρ G H r Q := h.imp fun _ _ z => z
section
variable {X : Cx} {lk : Lk} {a b c e o : Expr} {es : List Expr} {ea eb ec ev eo er : Ev} {pos p p1 p2 p3 apos : Pos} {k : Nat} {f : Addr} {fd : FuncData} {ps : List Str} {x : Str} {cl : Cl} {m : List Nat}
theorem le_call (F : FnG X.prog X.w X.K X.mg X.base k f fd ps (spC X.K lk cl)) (hr : RoomG k X.A) (hg : Gl X x) (hm : X.mg x = some (.ref f)) (hk : PySem.W.keepIn X.K (.ref f) = true) (hb : Binds X.K fd ps [])
    (ha : LA X lk (e :: es) er) (hdb : (x == ("__debug__" : Str)) = false) (he : starEach (e :: es) X.env = (false, eval e X.env) :: starEach es X.env) (hpl : (backTo pos (starEach es X.env)).any (·.1) = false) :
    LE X lk (.Call (.Name x p) (e :: es) [] pos) (thenA er fun ds G => cl m ds G) :=
  pe_imp (pe_callG F hr hg hm hk hb ha hdb he hpl) fun σ H Q ⟨ρ, G, s, r, en, h⟩ => ⟨ρ, G, s, r, en, OutE.args h fun ds G1 ρ1 H1 xs e1 r1 p1 h1 => ⟨lk.Z, m, ρ1, G1, ds, r1, p1, OutE.st h1⟩⟩
theorem le_call0 (F : FnG X.prog X.w X.K X.mg X.base k f fd ps (spC X.K lk cl)) (hr : RoomG k X.A) (hg : Gl X x) (hm : X.mg x = some (.ref f)) (hk : PySem.W.keepIn X.K (.ref f) = true) (hb : Binds X.K fd ps [])
    (hdb : (x == ("__debug__" : Str)) = false) : LE X lk (.Call (.Name x p) [] [] pos) (thenA (fun _ G => .ok (.tup []) G) fun ds G => cl m ds G) :=
  pe_imp (pe_callG0 F hr hg hm hk hb hdb) fun σ H Q ⟨ρ, G, s, r, en, h⟩ => ⟨lk.Z, m, ρ, G, [], r, rfl, OutE.st h⟩

theorem boot_bi (b : PK.Bi) : bootBuiltins (Str.ofString (biName b)) = some (biVal b) := by cases b <;> decide +kernel
theorem bi_ne (b : PK.Bi) : Str.ofString (biName b) ≠ "__name__" := by cases b <;> decide +kernel
theorem bi_nd (b : PK.Bi) : (Str.ofString (biName b) == ("__debug__" : Str)) = false := by cases b <;> decide +kernel
theorem le_bi (b : PK.Bi) (w : Bool) (hc : X.calm = true) (hgd : X.A.guards = some []) (hu : X.A.units + 64 < cLine) (hg : Gl X (Str.ofString (biName b))) (hm : X.mg (Str.ofString (biName b)) = none)
    (ha : LA X lk (e :: es) er) (he : starEach (e :: es) X.env = (false, eval e X.env) :: starEach es X.env) (hpl : (backTo pos (starEach es X.env)).any (·.1) = false) :
    LE X lk (.Call (.Name (Str.ofString (biName b)) p) (e :: es) [] pos) (thenA er fun ds G => PK.biD b w ds G) := by
  have R := cr_bi hc hgd hu b
  have hv := boot_bi b
  have T : PE X (.Call (.Name (Str.ofString (biName b)) p) (e :: es) [] pos) (tCB (rBi X.K b) (liftA X.K lk (WXo X) er)) := by
    generalize hB : biVal b = B at R hv
    cases B with
    | builtin id => exact pe_callB R hg hm hv ha (bi_ne b) (bi_nd b) he hpl
    | type T => exact pe_callTy R hg hm hv ha (bi_ne b) (bi_nd b) he hpl
    | _ => cases b <;> cases hB
  exact pe_imp T fun σ H Q ⟨ρ, G, s, r, en, h⟩ => ⟨ρ, G, s, r, en, OutE.args h fun ds G1 ρ1 H1 xs e1 r1 p1 h1 => bi_val b r1 p1 h1⟩

def tyS : PK.Ty → String
  | .int => "int" | .bool => "bool" | .str => "str" | .list => "list" | .tuple => "tuple" | .own _ => ""
def tyOwn : PK.Ty → Bool
  | .own _ => true
  | _ => false
theorem kb_of {n : String} {b1 b2 b3 b4 b5 : Bool} {G : Cells} {v : PK.D} (h1 : kitB n "int" = some b1) (h2 : kitB n "bool" = some b2) (h3 : kitB n "str" = some b3) (h4 : kitB n "list" = some b4) (h5 : kitB n "tuple" = some b5)
    (e1 : PK.isTy G v .int = b1) (e2 : PK.isTy G v .bool = b2) (e3 : PK.isTy G v .str = b3) (e4 : PK.isTy G v .list = b4) (e5 : PK.isTy G v .tuple = b5) : ∀ y, tyOwn y = false → kitB n (tyS y) = some (PK.isTy G v y) := fun y h => by
  cases y with
  | int => rw [e1]; exact h1
  | bool => rw [e2]; exact h2
  | str => rw [e3]; exact h3
  | list => rw [e4]; exact h4
  | tuple => rw [e5]; exact h5
  | own c => cases h
theorem typed_is {K : PySem.W.Frag} {ρ : Nm} {G : Cells} {H : Hp} {v : PK.D} {x : V} (r : Rel K lk ρ G H) (p : Rep K lk ρ G.length H v x) (t : PK.typed G v = true) : ∃ n : String, TyX K H x (.type n) ∧ ∀ y, tyOwn y = false → kitB n (tyS y) = some (PK.isTy G v y) := by
  cases v with
  | non => rw [show x = V.non from p]; exact ⟨_, .base .non, kb_of (b1 := false) (b2 := false) (b3 := false) (b4 := false) (b5 := false) (by decide +kernel) (by decide +kernel) (by decide +kernel) (by decide +kernel) (by decide +kernel) rfl rfl rfl rfl rfl⟩
  | bl b => rw [show x = V.bl b from p]; exact ⟨_, .base (.bl b), kb_of (b1 := true) (b2 := true) (b3 := false) (b4 := false) (b5 := false) (by decide +kernel) (by decide +kernel) (by decide +kernel) (by decide +kernel) (by decide +kernel) rfl rfl rfl rfl rfl⟩
  | int b => rw [show x = V.int b from p]; exact ⟨_, .base (.int b), kb_of (b1 := true) (b2 := false) (b3 := false) (b4 := false) (b5 := false) (by decide +kernel) (by decide +kernel) (by decide +kernel) (by decide +kernel) (by decide +kernel) rfl rfl rfl rfl rfl⟩
  | str b => rw [show x = V.str b from p]; exact ⟨_, .base (.str b), kb_of (b1 := false) (b2 := false) (b3 := true) (b4 := false) (b5 := false) (by decide +kernel) (by decide +kernel) (by decide +kernel) (by decide +kernel) (by decide +kernel) rfl rfl rfl rfl rfl⟩
  | tup ds =>
    obtain ⟨a, vs, h1, h2, h3⟩ := p
    refine ⟨"tuple", ?_, kb_of (b1 := false) (b2 := false) (b3 := false) (b4 := false) (b5 := true) (by decide +kernel) (by decide +kernel) (by decide +kernel) (by decide +kernel) (by decide +kernel) rfl rfl rfl rfl rfl⟩
    rw [h1]
    rcases h2.sq with (h2 | ⟨o, h2⟩) | ⟨o, its, n, h2, h3, _⟩
    · exact .base (.tup h2)
    · exact .fTuple h2
    · exact .kTuple h2 h3
  | lst ds =>
    obtain ⟨a, vs, h1, h2, h3, h4⟩ := p
    rw [h1]
    exact ⟨"list", .base (.lst h2), kb_of (b1 := false) (b2 := false) (b3 := false) (b4 := true) (b5 := false) (by decide +kernel) (by decide +kernel) (by decide +kernel) (by decide +kernel) (by decide +kernel) rfl rfl rfl rfl rfl⟩
  | fz ds =>
    obtain ⟨a, vs, h1, h2, h3⟩ := p
    refine ⟨"list", ?_, kb_of (b1 := false) (b2 := false) (b3 := false) (b4 := true) (b5 := false) (by decide +kernel) (by decide +kernel) (by decide +kernel) (by decide +kernel) (by decide +kernel) rfl rfl rfl rfl rfl⟩
    rw [h1]
    rcases h2 with ⟨o, h2⟩ | ⟨o, its, n, h2, h3, _⟩
    · exact .base (.frz h2)
    · exact .kList h2 h3
  | ref i =>
    obtain ⟨hi, hv⟩ := p
    unfold PK.typed at t
    cases q : G[i]? with
    | none => simp [q] at t
    | some c =>
      obtain ⟨u, h1, h2⟩ := r.cell i _ q
      cases c with
      | lst es =>
        obtain ⟨vs, rfl, h3⟩ := h2
        refine ⟨"list", by rw [hv]; exact .base (.lst h1), kb_of (b1 := false) (b2 := false) (b3 := false) (b4 := true) (b5 := false) (by decide +kernel) (by decide +kernel) (by decide +kernel) (by decide +kernel) (by decide +kernel) (by simp [PK.isTy, q]) (by simp [PK.isTy, q]) (by simp [PK.isTy, q]) (by simp [PK.isTy, q]) (by simp [PK.isTy, q]) ⟩
      | dK es =>
        obtain ⟨vs, rfl, h3⟩ := h2
        refine ⟨"dict", by rw [hv]; exact .base (.dK h1), kb_of (b1 := false) (b2 := false) (b3 := false) (b4 := false) (b5 := false) (by decide +kernel) (by decide +kernel) (by decide +kernel) (by decide +kernel) (by decide +kernel) (by simp [PK.isTy, q]) (by simp [PK.isTy, q]) (by simp [PK.isTy, q]) (by simp [PK.isTy, q]) (by simp [PK.isTy, q]) ⟩
      | dT es =>
        obtain ⟨vs, rfl, h3⟩ := h2
        refine ⟨"dict", by rw [hv]; exact .base (.dT h1), kb_of (b1 := false) (b2 := false) (b3 := false) (b4 := false) (b5 := false) (by decide +kernel) (by decide +kernel) (by decide +kernel) (by decide +kernel) (by decide +kernel) (by simp [PK.isTy, q]) (by simp [PK.isTy, q]) (by simp [PK.isTy, q]) (by simp [PK.isTy, q]) (by simp [PK.isTy, q]) ⟩
      | ins c es => simp [q] at t
  | _ => cases t
theorem boot_ty (y : PK.Ty) (h : tyOwn y = false) : bootBuiltins (Str.ofString (tyS y)) = some (.type (tyS y)) := by
  cases y with
  | own c => cases h
  | _ => decide +kernel
theorem ty_ne (y : PK.Ty) : Str.ofString (tyS y) ≠ "__name__" := by
  cases y with
  | own c => exact (by decide +kernel : Str.ofString "" ≠ "__name__")
  | _ => decide +kernel
theorem ty_nd (y : PK.Ty) : (Str.ofString (tyS y) == ("__debug__" : Str)) = false := by
  cases y with
  | own c => exact (by decide +kernel : (Str.ofString "" == ("__debug__" : Str)) = false)
  | _ => decide +kernel
theorem pe_ty (y : PK.Ty) (h : tyOwn y = false) (hg : Gl X (Str.ofString (tyS y))) (hm : X.mg (Str.ofString (tyS y)) = none) : PE X (.Name (Str.ofString (tyS y)) p) (tC (.ty (tyS y))) :=
  pe_bltn hg hm (boot_ty y h) rfl (ty_ne y) (ty_nd y)
def isiE (ts : List PK.Ty) (ea : Ev) : Ev := fun s G => (ea s G).bind fun x G1 => PK.iteK (PK.typed G1 x) (fun _ => .ok (.bl (ts.any (PK.isTy G1 x))) G1) fun _ => .bad
theorem le_isi1 (y : PK.Ty) (hy : tyOwn y = false) (hg : Gl X "isinstance") (hm : X.mg "isinstance" = none) (hg2 : Gl X (Str.ofString (tyS y))) (hm2 : X.mg (Str.ofString (tyS y)) = none) (ha : LE X lk a ea)
    (hs : starEach [a, .Name (Str.ofString (tyS y)) p1] X.env = (false, eval a X.env) :: starEach [.Name (Str.ofString (tyS y)) p1] X.env) :
    LE X lk (.Call (.Name "isinstance" p) [a, .Name (Str.ofString (tyS y)) p1] [] pos) (isiE [y] ea) :=
  pe_imp (pe_callB call_isi hg hm (by decide +kernel) (pa_cons ha (pa_cons (pe_ty y hy hg2 hm2) pa_nil rfl) hs) (by decide) (by decide) hs rfl) fun σ H Q ⟨ρ, G, s, r, en, h⟩ => ⟨ρ, G, s, r, en, OutE.bind h fun v G1 _ ρ1 H1 x e1 r1 p1 h1 => by
    cases q : PK.typed G1 v with
    | false => rw [q] at h1; exact h1.elim
    | true =>
      rw [q] at h1
      obtain ⟨n, h2, h3⟩ := typed_is r1 p1 q
      refine ⟨x, .ty (tyS y), _, _, _, rfl, .ty _, h2, kit_ty (h3 y hy), ?_⟩
      have := OutE.here h1 r1 rfl
      simpa using this⟩
theorem paired_ty : ∀ ts : List PK.Ty, Paired ClsV (ts.map fun y => V.ty (tyS y)) (ts.map fun y => Value.type (tyS y))
  | [] => .nil
  | y :: ts => .cons (.ty _) (paired_ty ts)
theorem any_ty {K : PySem.W.Frag} {G : Cells} {v : PK.D} {n : String} (h : ∀ y, tyOwn y = false → kitB n (tyS y) = some (PK.isTy G v y)) : ∀ ts : List PK.Ty, ts.all (fun y => !tyOwn y) = true → PySem.W.kitAny K (.type n) (ts.map fun y => Value.type (tyS y)) = some (ts.any (PK.isTy G v))
  | [], _ => rfl
  | y :: ts, z => by
    simp only [List.all_cons, Bool.and_eq_true, Bool.not_eq_true'] at z
    have k := kit_ty (K := K) (h y z.1)
    have ih := any_ty (K := K) h ts z.2
    show PySem.W.kitAny K _ (Value.type (tyS y) :: _) = some (PK.isTy G v y || ts.any (PK.isTy G v))
    unfold PySem.W.kitAny
    rw [k]
    cases PK.isTy G v y with
    | true => rfl
    | false => exact ih
inductive TyEs (X : Cx) : List PK.Ty → List Expr → Prop where
  | nil : TyEs X [] []
  | cons {y ts p es} (hy : tyOwn y = false) (hg : Gl X (Str.ofString (tyS y))) (hm : X.mg (Str.ofString (tyS y)) = none) (t : TyEs X ts es) : TyEs X (y :: ts) (.Name (Str.ofString (tyS y)) p :: es)
def tTys (ts : List PK.Ty) : TA := fun _ H Q => Q (ts.map fun y => V.ty (tyS y)) H
theorem pa_tys : ∀ {ts : List PK.Ty} {es : List Expr}, TyEs X ts es → PA X es (tTys ts)
  | _, _, .nil => pa_nil
  | _, _, .cons hy hg hm t => pa_imp (pa_cons (pe_ty _ hy hg hm) (pa_tys t) rfl) fun σ H Q h => h
theorem TyEs.own : ∀ {ts : List PK.Ty} {es : List Expr}, TyEs X ts es → ts.all (fun y => !tyOwn y) = true
  | _, _, .nil => rfl
  | _, _, .cons hy _ _ t => by simp [hy]; simpa using t.own
theorem le_isiT {ts : List PK.Ty} (hts : TyEs X ts es) (hl : ts.length ≤ 1000) (hg : Gl X "isinstance") (hm : X.mg "isinstance" = none) (ha : LE X lk a ea)
    (hs : starEach [a, .Tuple es k p1] X.env = (false, eval a X.env) :: starEach [.Tuple es k p1] X.env) :
    LE X lk (.Call (.Name "isinstance" p) [a, .Tuple es k p1] [] pos) (isiE ts ea) :=
  pe_imp (pe_callB call_isiT hg hm (by decide +kernel) (pa_cons ha (pa_cons (pe_tup (pa_tys hts)) pa_nil rfl) hs) (by decide) (by decide) hs rfl) fun σ H Q ⟨ρ, G, s, r, en, h⟩ => ⟨ρ, G, s, r, en, OutE.bind h fun v G1 _ ρ1 H1 x e1 r1 p1 h1 => by
    cases q : PK.typed G1 v with
    | false => rw [q] at h1; exact h1.elim
    | true =>
      rw [q] at h1
      refine ⟨by rw [List.length_map, sizeLine_eq]; exact Nat.le_trans hl (by decide), fun a ha => ?_⟩
      have e2 : Ext ρ1 G1.length H1 ρ1 G1.length (upd H1 a (.tup (ts.map fun y => V.ty (tyS y)))) := Ext.laid ha
      have r2 := r1.other (o := .tup (ts.map fun y => V.ty (tyS y))) ha
      obtain ⟨n, h2, h3⟩ := typed_is r2 (Rep.ext e2 _ _ p1) q
      refine ⟨x, a, _, _, _, _, rfl, upd_same, paired_ty ts, h2, any_ty h3 ts hts.own, ?_⟩
      exact OutE.here (OutE.ext e2 h1) r2 rfl⟩
end
end PKS
namespace PKS
open PySem PySem.Spec PyProof.Rows L2
def mtT : PK.Mt → String
  | .append | .clear | .pop0 | .pop1 | .extend | .reverse => "list"
  | .join | .split | .startswith => "str"
  | .get1 | .get2 | .popT => "dict"
def mtN : PK.Mt → String
  | .append => "append" | .clear => "clear" | .pop0 | .pop1 | .popT => "pop" | .reverse => "reverse" | .extend => "extend" | .join => "join" | .split => "split" | .startswith => "startswith" | .get1 | .get2 => "get"
def rMt (K : PySem.W.Frag) : PK.Mt → V → List V → Hp → VK → Prop
  | .append => rAppend
  | .extend => rExtend
  | .clear => rClear
  | .pop0 => rPop
  | .pop1 => rPopAt
  | .popT => rPopT1
  | .reverse => rReverse
  | .join => fun x xs H Q => ∃ a p, ∃ ys : List Str, x = .str a ∧ xs = [.ref p] ∧ (SqL K H p (ys.map V.str) ∨ SqT K H p (ys.map V.str)) ∧ (ys.map (·.length)).sum + ys.length * a.length ≤ 16777216 ∧ Q (.str (Txt.join a ys)) H
  | .split => fun x xs H Q => ∃ a b, x = .str a ∧ xs = [.str b] ∧ (b.length == 0) = false ∧ a.length + 2 ≤ sizeLine ∧ rNewStrs (Txt.split a b) H Q
  | .startswith => fun x xs H Q => ∃ a b, x = .str a ∧ xs = [.str b] ∧ Q (.bl (Txt.startswith a b)) H
  | _ => fun _ _ _ _ => False
section
variable {K : PySem.W.Frag} {lk : Lk} {W : WX} {σ : L2.St} {ρ : Nm} {G G' : Cells} {H H' : Hp} {Q : VK} {X : Cx}
theorem mtOk_is {b : PK.Mt} {v : PK.D} {x : V} (r : Rel K lk ρ G H) (p : Rep K lk ρ G.length H v x) (h : PK.mtOk b G v = true) : tyV K (mtT b) x H := by
  have L : ∀ i, v = .ref i → PK.isLst G[i]? = true → ∃ a xs, x = .ref a ∧ SqL K H a xs := fun i e z => by
    subst e
    obtain ⟨hi, hv⟩ := p
    cases q : G[i]? with
    | none => rw [q] at z; cases z
    | some c =>
      obtain ⟨u, h1, h2⟩ := r.cell i _ q
      cases c with
      | lst es => obtain ⟨vs, rfl, h3⟩ := h2; exact ⟨_, vs, hv, SqL.of h1⟩
      | _ => rw [q] at z; cases z
  cases b with
  | append => cases v with
    | ref i => obtain ⟨a, xs, h1, h2⟩ := L i rfl h; rw [h1]; exact .inl ⟨rfl, xs, h2⟩
    | _ => cases h
  | clear => cases v with
    | ref i => obtain ⟨a, xs, h1, h2⟩ := L i rfl h; rw [h1]; exact .inl ⟨rfl, xs, h2⟩
    | _ => cases h
  | extend => cases v with
    | ref i => obtain ⟨a, xs, h1, h2⟩ := L i rfl h; rw [h1]; exact .inl ⟨rfl, xs, h2⟩
    | _ => cases h
  | pop0 => cases v with
    | ref i => obtain ⟨a, xs, h1, h2⟩ := L i rfl h; rw [h1]; exact .inl ⟨rfl, xs, h2⟩
    | _ => cases h
  | pop1 => cases v with
    | ref i => obtain ⟨a, xs, h1, h2⟩ := L i rfl h; rw [h1]; exact .inl ⟨rfl, xs, h2⟩
    | _ => cases h
  | reverse => cases v with
    | ref i => obtain ⟨a, xs, h1, h2⟩ := L i rfl h; rw [h1]; exact .inl ⟨rfl, xs, h2⟩
    | _ => cases h
  | popT => cases v with
    | ref i =>
      obtain ⟨hi, hv⟩ := p
      have h : PK.isDT G[i]? = true := h
      cases q : G[i]? with
      | none => rw [q] at h; cases h
      | some c =>
        obtain ⟨u, h1, h2⟩ := r.cell i _ q
        cases c with
        | dT es => obtain ⟨vs, rfl, h3⟩ := h2; rw [hv]; exact .inr (.inr (.inl ⟨rfl, .inr ⟨vs, h1⟩⟩))
        | _ => rw [q] at h; cases h
    | _ => cases h
  | join => cases v with
    | str i => rw [show x = V.str i from p]; rfl
    | _ => cases h
  | split => cases v with
    | str i => rw [show x = V.str i from p]; rfl
    | _ => cases h
  | startswith => cases v with
    | str i => rw [show x = V.str i from p]; rfl
    | _ => cases h
  | _ => cases v <;> cases h
theorem last_of {n : Nat} : ∀ {ds : List PK.D} {vs : List V} {d : PK.D}, Reps K lk ρ n H ds vs → ds.getLast? = some d → ∃ v, vs[vs.length - 1]? = some v ∧ Rep K lk ρ n H d v := fun {ds vs d} p e => by
  rw [List.getLast?_eq_getElem?] at e
  obtain ⟨v, h1, h2⟩ := p.get e
  rw [p.length] at h1
  exact ⟨v, h1, h2⟩
theorem dropLast_of {n : Nat} {ds : List PK.D} {vs : List V} (p : Reps K lk ρ n H ds vs) : Reps K lk ρ n H ds.dropLast vs.dropLast := by
  rw [List.dropLast_eq_take, List.dropLast_eq_take, p.length]
  exact p.take _
theorem reverse_of {n : Nat} : ∀ {ds : List PK.D} {vs : List V}, Reps K lk ρ n H ds vs → Reps K lk ρ n H ds.reverse vs.reverse
  | [], vs, p => by rw [show vs = [] from p]; rfl
  | d :: ds, vs, p => by
    obtain ⟨v, us, rfl, p1, p2⟩ := p
    rw [List.reverse_cons, List.reverse_cons]
    exact (reverse_of p2).append (Reps.one p1)
theorem drop_rep {κ : Type} [DecidableEq κ] {n : Nat} {k : κ} : ∀ {kvs : List (κ × PK.D)} {zs : List (κ × V)}, RepK K lk ρ n H kvs zs → RepK K lk ρ n H (PK.dropD kvs k) (dropK zs k)
  | [], [], h => h
  | [], _ :: _, h => by have := h.1; simp at this
  | _ :: _, [], h => by have := h.1; simp at this
  | kv :: kvs, z :: zs, h => by
    obtain ⟨h1, h2⟩ := h
    obtain ⟨x, xs, e, h3, h4⟩ := h2
    simp only [List.map_cons, List.cons.injEq] at h1 e
    obtain ⟨i1, i2⟩ := drop_rep (k := k) (kvs := kvs) (zs := zs) ⟨h1.2, by rw [e.2]; exact h4⟩
    by_cases c : kv.1 = k
    · have c2 : z.1 = k := h1.1.trans c
      have e1 : PK.dropD (kv :: kvs) k = PK.dropD kvs k := by unfold PK.dropD; rw [List.filter_cons_of_neg (by simp [c])]
      have e2 : dropK (z :: zs) k = dropK zs k := by unfold dropK; rw [List.filter_cons_of_neg (by simp [c2])]
      rw [e1, e2]; exact ⟨i1, i2⟩
    · have c2 : ¬ z.1 = k := fun h => c (h1.1.symm.trans h)
      have e1 : PK.dropD (kv :: kvs) k = kv :: PK.dropD kvs k := by unfold PK.dropD; rw [List.filter_cons_of_pos (by simp [c])]
      have e2 : dropK (z :: zs) k = z :: dropK zs k := by unfold dropK; rw [List.filter_cons_of_pos (by simp [c2])]
      rw [e1, e2]
      refine ⟨by rw [List.map_cons, List.map_cons, i1, h1.1], ?_⟩
      rw [List.map_cons, List.map_cons]
      exact ⟨_, _, rfl, by rw [e.1]; exact h3, i2⟩
theorem val_rep {κ : Type} [DecidableEq κ] {n : Nat} {k : κ} {d : PK.D} {kvs : List (κ × PK.D)} {zs : List (κ × V)} (h : RepK K lk ρ n H kvs zs) (e : PK.valD kvs k = some d) : ∃ v, valV zs k = some v ∧ Rep K lk ρ n H d v := by
  rcases valD_of k h with ⟨a, _⟩ | ⟨d', v, a, b, c⟩
  · rw [e] at a; cases a
  · rw [e] at a; cases a; exact ⟨v, b, c⟩
theorem erase_of {n : Nat} : ∀ {ds : List PK.D} {vs : List V} (k : Nat), Reps K lk ρ n H ds vs → Reps K lk ρ n H (ds.eraseIdx k) (vs.eraseIdx k)
  | [], vs, k, p => by rw [show vs = [] from p]; rfl
  | d :: ds, vs, 0, p => by obtain ⟨v, us, rfl, p1, p2⟩ := p; exact p2
  | d :: ds, vs, k + 1, p => by obtain ⟨v, us, rfl, p1, p2⟩ := p; exact ⟨v, us.eraseIdx k, rfl, p1, erase_of k p2⟩
theorem lst_at {d : PK.D} {y : V} {fs : List PK.D} (r : Rel K lk ρ G H) (p : Rep K lk ρ G.length H d y) (e : PK.lstD G d = some fs) : ∃ b us, y = .ref b ∧ H b = some (.lst us) ∧ Reps K lk ρ G.length H fs us := by
  cases d with
  | lst ds => cases e; obtain ⟨a, vs, h1, h2, _, h3⟩ := p; exact ⟨a, vs, h1, h2, h3⟩
  | ref i =>
    obtain ⟨hi, hv⟩ := p
    unfold PK.lstD at e
    cases z : G[i]? with
    | none => simp [z] at e
    | some c =>
      obtain ⟨u, h1, h2⟩ := r.cell i c z
      cases c with
      | lst ds => simp only [z] at e; cases e; obtain ⟨vs, e1, h3⟩ := h2; subst e1; exact ⟨_, vs, hv, h1, h3⟩
      | _ => simp [z] at e
  | _ => cases e
theorem mt_val (b : PK.Mt) {w : Bool} {m : List Nat} {v : PK.D} {x : V} {ds : List PK.D} {vs : List V} (r : Rel K lk ρ G H) (p : Rep K lk ρ G.length H v x) (ps : Reps K lk ρ G.length H ds vs)
    (h : OutE K lk W σ ρ G H (PK.mtD b w m v ds G) Q) : rMt K b x vs H Q := by
  cases b with
  | append => cases v with
    | ref i => match ds, ps, h with
      | [], _, h => exact False.elim h
      | _ :: _ :: _, _, h => exact False.elim h
      | [d], ps, h =>
        obtain ⟨y, rfl, py⟩ := ps.one_of
        obtain ⟨hi, hv⟩ := p
        unfold PK.mtD at h
        cases q : G[i]? with
        | none => simp only [q] at h; exact False.elim h
        | some c =>
          obtain ⟨u, h1, h2⟩ := r.cell i _ q
          cases c with
          | lst es =>
            simp only [q] at h
            obtain ⟨zs, rfl, h3⟩ := h2
            split at h
            · rename_i hc
              simp only [Bool.and_eq_true, decide_eq_true_eq] at hc
              refine ⟨ρ i, zs, y, hv, rfl, h1, ?_, OutE.put h r q ⟨_, rfl, h3.append (Reps.one py)⟩ rfl⟩
              rw [← h3.length, sizeLine_eq]; exact Nat.lt_of_lt_of_le hc.2 (by decide)
            · exact False.elim h
          | _ => simp only [q] at h; exact False.elim h
    | _ => exact False.elim h
  | extend => cases v with
    | ref i => match ds, ps, h with
      | [], _, h => exact False.elim h
      | _ :: _ :: _, _, h => exact False.elim h
      | [d], ps, h =>
        obtain ⟨y, rfl, py⟩ := ps.one_of
        obtain ⟨hi, hv⟩ := p
        unfold PK.mtD at h
        cases q : G[i]? with
        | none => simp only [q] at h; exact False.elim h
        | some c =>
          obtain ⟨u, h1, h2⟩ := r.cell i _ q
          cases c with
          | lst es =>
            simp only [q] at h
            obtain ⟨zs, rfl, h3⟩ := h2
            cases q2 : PK.lstD G d with
            | none => simp only [q2] at h; exact False.elim h
            | some fs =>
              simp only [q2] at h
              split at h
              · rename_i hc
                simp only [Bool.and_eq_true, decide_eq_true_eq] at hc
                obtain ⟨b, us, h4, h5, h6⟩ := lst_at r py q2
                refine ⟨ρ i, b, zs, us, hv, by rw [h4], h1, h5, ?_, OutE.put h r q ⟨_, rfl, h3.append h6⟩ rfl⟩
                rw [← h3.length, ← h6.length, sizeLine_eq]; exact Nat.le_trans (Nat.le_of_lt hc.2) (by decide)
              · exact False.elim h
          | _ => simp only [q] at h; exact False.elim h
    | _ => exact False.elim h
  | clear => cases v with
    | ref i => match ds, ps, h with
      | _ :: _, _, h => exact False.elim h
      | [], ps, h =>
        have e : vs = [] := ps
        obtain ⟨hi, hv⟩ := p
        unfold PK.mtD at h
        cases q : G[i]? with
        | none => simp only [q] at h; exact False.elim h
        | some c =>
          obtain ⟨u, h1, h2⟩ := r.cell i _ q
          cases c with
          | lst es =>
            simp only [q] at h
            obtain ⟨zs, rfl, h3⟩ := h2
            exact ⟨ρ i, zs, hv, e, h1, OutE.put (o := .lst []) h r q ⟨_, rfl, rfl⟩ rfl⟩
          | _ => simp only [q] at h; exact False.elim h
    | _ => exact False.elim h
  | pop0 => cases v with
    | ref i => match ds, ps, h with
      | _ :: _, _, h => exact False.elim h
      | [], ps, h =>
        have e : vs = [] := ps
        obtain ⟨hi, hv⟩ := p
        unfold PK.mtD at h
        cases q : G[i]? with
        | none => simp only [q] at h; exact False.elim h
        | some c =>
          obtain ⟨u, h1, h2⟩ := r.cell i _ q
          cases c with
          | lst es =>
            simp only [q] at h
            obtain ⟨zs, rfl, h3⟩ := h2
            cases q2 : es.getLast? with
            | none => simp only [q2] at h; exact False.elim h
            | some d =>
              simp only [q2] at h
              obtain ⟨y, h4, h5⟩ := last_of h3 q2
              exact ⟨ρ i, zs, y, hv, e, h1, h4, OutE.put h r q ⟨_, rfl, dropLast_of h3⟩ h5⟩
          | _ => simp only [q] at h; exact False.elim h
    | _ => exact False.elim h
  | pop1 => cases v with
    | ref i => match ds, ps, h with
      | [], _, h => exact False.elim h
      | d :: _ :: _, _, h => cases d <;> exact False.elim h
      | [d], ps, h =>
        obtain ⟨y, rfl, py⟩ := ps.one_of
        obtain ⟨hi, hv⟩ := p
        cases d with
        | int k =>
          rw [show y = V.int k from py]
          have h : OutE K lk W σ ρ G H (match G[i]? with | some (.lst ds) => (if 0 ≤ k ∧ k < 1000000 then match ds[k.toNat]? with | some d => .ok d (PK.setC G i (.lst (ds.eraseIdx k.toNat))) | none => .bad else .bad) | _ => .bad) Q := h
          cases q : G[i]? with
          | none => simp only [q] at h; exact False.elim h
          | some c =>
            obtain ⟨u, h1, h2⟩ := r.cell i _ q
            cases c with
            | lst es =>
              simp only [q] at h
              obtain ⟨zs, rfl, h3⟩ := h2
              split at h
              · rename_i hk
                cases q2 : es[k.toNat]? with
                | none => simp only [q2] at h; exact False.elim h
                | some d =>
                  simp only [q2] at h
                  obtain ⟨y, h4, h5⟩ := h3.get q2
                  have hlt := (List.getElem?_eq_some_iff.mp q2).1
                  have hlz := h3.length
                  have six : seqIndex? k zs.length = some k.toNat := by
                    have k0 : ¬ k < 0 := by omega
                    have k1 : k < (zs.length : Int) := by omega
                    simp [seqIndex?, k0, hk.1, k1]
                  exact ⟨ρ i, zs, k, k.toNat, y, hv, rfl, h1, by omega, by omega, six, h4, OutE.put h r q ⟨_, rfl, erase_of _ h3⟩ h5⟩
              · exact False.elim h
            | _ => simp only [q] at h; exact False.elim h
        | _ => exact False.elim h
    | _ => exact False.elim h
  | reverse => cases v with
    | ref i => match ds, ps, h with
      | _ :: _, _, h => exact False.elim h
      | [], ps, h =>
        have e : vs = [] := ps
        obtain ⟨hi, hv⟩ := p
        have h : OutE K lk W σ ρ G H (match G[i]? with | some (.lst ds) => .ok .non (PK.setC G i (.lst ds.reverse)) | _ => .bad) Q := h
        cases q : G[i]? with
        | none => simp only [q] at h; exact False.elim h
        | some c =>
          obtain ⟨u, h1, h2⟩ := r.cell i _ q
          cases c with
          | lst es =>
            simp only [q] at h
            obtain ⟨zs, rfl, h3⟩ := h2
            exact ⟨ρ i, zs, hv, e, h1, OutE.put h r q ⟨_, rfl, reverse_of h3⟩ rfl⟩
          | _ => simp only [q] at h; exact False.elim h
    | _ => exact False.elim h
  | popT => cases v with
    | ref i => match ds, ps, h with
      | [], _, h => exact False.elim h
      | d :: _ :: _, _, h => cases d <;> exact False.elim h
      | [d], ps, h =>
        obtain ⟨y, rfl, py⟩ := ps.one_of
        obtain ⟨hi, hv⟩ := p
        cases d with
        | tup ks =>
          have h : OutE K lk W σ ρ G H (match G[i]? with | some (.dT kvs) => (match PK.keysD ks with | some k => (match PK.valD kvs k with | some v => .ok v (PK.setC G i (.dT (PK.dropD kvs k))) | none => .bad) | none => .bad) | _ => .bad) Q := h
          cases q : G[i]? with
          | none => simp only [q] at h; exact False.elim h
          | some c =>
            obtain ⟨u, h1, h2⟩ := r.cell i _ q
            cases c with
            | dT kvs =>
              simp only [q] at h
              obtain ⟨zs, rfl, h3⟩ := h2
              cases e3 : PK.keysD ks with
              | none => simp only [e3] at h; exact False.elim h
              | some k =>
                simp only [e3] at h
                cases e4 : PK.valD kvs k with
                | none => simp only [e4] at h; exact False.elim h
                | some d =>
                  simp only [e4] at h
                  obtain ⟨b, ws, hb, ht, hks⟩ := py
                  have ht : H b = some (.tup ws) := by
                    rcases ht with ht | ht
                    · exact ht
                    · rw [e3] at ht; cases ht.2
                  rw [keys_of hks e3] at ht
                  obtain ⟨z, h4, h5⟩ := val_rep h3 e4
                  exact ⟨ρ i, zs, k, b, z, hv, by rw [hb], h1, ht, h4, OutE.put h r q ⟨_, rfl, drop_rep h3⟩ h5⟩
            | _ => simp only [q] at h; exact False.elim h
        | _ => exact False.elim h
    | _ => exact False.elim h
  | join => cases v with
    | str a => match ds, ps, h with
      | [], _, h => exact False.elim h
      | _ :: _ :: _, _, h => exact False.elim h
      | [d], ps, h =>
        obtain ⟨y, rfl, py⟩ := ps.one_of
        have h : OutE K lk W σ ρ G H (match (PK.seqD G d).bind PK.strsD with | some ys => if decide ((ys.map (·.length)).sum + ys.length * a.length ≤ 1000000) then .ok (.str (Txt.join a ys)) G else .bad | none => .bad) Q := h
        cases q : PK.seqD G d with
        | none => rw [q] at h; exact False.elim h
        | some es =>
          rw [q] at h
          have h : OutE K lk W σ ρ G H (match PK.strsD es with | some ys => if decide ((ys.map (·.length)).sum + ys.length * a.length ≤ 1000000) then .ok (.str (Txt.join a ys)) G else .bad | none => .bad) Q := h
          cases q2 : PK.strsD es with
          | none => rw [q2] at h; exact False.elim h
          | some ys =>
            rw [q2] at h
            simp only at h
            obtain ⟨A, zs, h1, h2, h3, _⟩ := seq_of q r py
            rw [strs_of q2 h3] at h2
            split at h
            · rename_i hc
              exact ⟨a, A, ys, p, by rw [h1], h2, Nat.le_trans (of_decide_eq_true hc) (by decide), OutE.here h r rfl⟩
            · exact False.elim h
    | _ => exact False.elim h
  | split => cases v with
    | str a => match ds, ps, h with
      | [], _, h => exact False.elim h
      | d1 :: _ :: _, _, h => cases d1 <;> exact False.elim h
      | [d], ps, h =>
        obtain ⟨y, rfl, py⟩ := ps.one_of
        cases d with
        | str s =>
          have h : OutE K lk W σ ρ G H (if decide (s.length ≠ 0 ∧ a.length ≤ 1000000) then PK.mkl w ((Txt.split a s).map .str) G else .bad) Q := h
          split at h
          · rename_i hc
            obtain ⟨c1, c2⟩ := of_decide_eq_true hc
            exact ⟨a, s, p, by rw [show y = V.str s from py], by simpa using c1, Nat.le_trans (Nat.add_le_add_right c2 2) (by rw [sizeLine_eq]; decide), OutE.mkl h r (of_strs _)⟩
          · exact False.elim h
        | _ => exact False.elim h
    | _ => exact False.elim h
  | startswith => cases v with
    | str a => match ds, ps, h with
      | [], _, h => exact False.elim h
      | d1 :: _ :: _, _, h => cases d1 <;> exact False.elim h
      | [d], ps, h =>
        obtain ⟨y, rfl, py⟩ := ps.one_of
        cases d with
        | str s => exact ⟨a, s, p, by rw [show y = V.str s from py], OutE.here h r rfl⟩
        | _ => exact False.elim h
    | _ => exact False.elim h
  | _ => cases v <;> exact False.elim h
end
section
variable {X : Cx} {lk : Lk} {o e : Expr} {es : List Expr} {eo er : Ev} {pos apos : Pos} {m : List Nat}
def mtE (b : PK.Mt) (w : Bool) (m : List Nat) (eo er : Ev) : Ev := fun s G => (eo s G).bind fun y G1 => PK.iteK (PK.mtOk b G1 y) (fun _ => (er s G1).bind fun x G2 => PK.tupK x (fun ds => PK.mtD b w m y ds G2) .bad) fun _ => .bad
theorem few_of {pos : Pos} {env : Env} {e : Expr} {es : List Expr} (he : starEach (e :: es) env = (false, eval e env) :: starEach es env) (hpl : (backTo pos (starEach es env)).any (·.1) = false) (hl : es.length < 20) :
    ((backTo pos (starEach (e :: es) env)).all (fun x => !x.1) && (backToKw pos (keywordEach [] env)).all (fun x => x.1.isSome)
      && decide ((e :: es).length + ([] : List Keyword).length + (if ([] : List Keyword).isEmpty then 0 else 1) < 30)) = true := by
  rw [he]
  have h1 : (backTo pos ((false, eval e env) :: starEach es env)).all (fun x => !x.1) = true := by
    show (!false && (backTo pos (starEach es env)).all (fun x => !x.1)) = true
    have : (backTo pos (starEach es env)).all (fun x => !x.1) = true := by
      rw [List.all_eq_not_any_not]
      simpa using hpl
    rw [this]; rfl
  rw [h1]
  show (true && true && decide (es.length + 1 + 0 + 0 < 30)) = true
  simp; omega
theorem tBM_of {X : Cx} {b : PK.Mt} {w : Bool} {t : TA} (ht : ∀ σ H Q, liftA X.K lk (WXo X) er σ H Q → t σ H Q) : ∀ σ H Q, lift X.K lk (WXo X) (mtE b w m eo er) σ H Q → tBM X.K (mtT b) (rMt X.K b) (lift X.K lk (WXo X) eo) t σ H Q := fun σ H Q ⟨ρ, G, s, r, en, h⟩ => ⟨ρ, G, s, r, en, OutE.bind h fun v G1 _ ρ1 H1 x e1 r1 p1 h1 => by
  cases q : PK.mtOk b G1 v with
  | false => rw [q] at h1; exact False.elim h1
  | true =>
    rw [q] at h1
    refine ⟨mtOk_is r1 p1 q, ht _ _ _ ⟨ρ1, G1, s, r1, en.ext e1, ?_⟩⟩
    exact OutE.args h1 fun ds G2 ρ2 H2 xs e2 r2 p2 h2 => mt_val b r2 (Rep.ext e2 _ _ p1) p2 h2⟩
theorem le_m1 (hu : X.A.units + 1 < cLine) (b : PK.Mt) (w : Bool) (hb : b = .append ∨ b = .join ∨ b = .split ∨ b = .startswith ∨ b = .extend ∨ b = .pop1 ∨ b = .popT) (ho : LE X lk o eo) (ha : LA X lk (e :: es) er) (hbase : attributeBase o (Str.ofString (mtN b)) X.env (eval o X.env) = eval o X.env) (hline : (apos.endLine == pos.line) = true)
    (he : starEach (e :: es) X.env = (false, eval e X.env) :: starEach es X.env) (hpl : (backTo pos (starEach es X.env)).any (·.1) = false) (hl : es.length < 20) :
    LE X lk (.Call (.Attribute o (Str.ofString (mtN b)) apos) (e :: es) [] pos) (mtE b w m eo er) := by
  have few := few_of he hpl hl
  have T : PE X (.Call (.Attribute o (Str.ofString (mtN b)) apos) (e :: es) [] pos) (tBM X.K (mtT b) (rMt X.K b) (lift X.K lk (WXo X) eo) (liftA X.K lk (WXo X) er)) := by
    rcases hb with rfl | rfl | rfl | rfl | rfl | rfl | rfl
    · exact pe_bm F.plainAttrs_list F.slot_list_append F.type_list_append mt_append ho ha hbase few hline he hpl
    · exact pe_bm F.plainAttrs_str F.slot_str_join F.type_str_join mt_join ho ha hbase few hline he hpl
    · exact pe_bm F.plainAttrs_str F.slot_str_split F.type_str_split mt_split ho ha hbase few hline he hpl
    · exact pe_bm F.plainAttrs_str F.slot_str_startswith F.type_str_startswith mt_startswith ho ha hbase few hline he hpl
    · exact pe_bm F.plainAttrs_list F.slot_list_extend F.type_list_extend mt_extend ho ha hbase few hline he hpl
    · exact pe_bm F.plainAttrs_list F.slot_list_pop F.type_list_pop mt_popAt ho ha hbase few hline he hpl
    · exact pe_bm F.plainAttrs_dict F.slot_dict_pop F.type_dict_pop (mt_popT1 hu) ho ha hbase few hline he hpl
  exact pe_imp T (tBM_of fun _ _ _ h => h)
theorem le_m0 (b : PK.Mt) (w : Bool) (hb : b = .clear ∨ b = .pop0 ∨ b = .reverse) (ho : LE X lk o eo) (hbase : attributeBase o (Str.ofString (mtN b)) X.env (eval o X.env) = eval o X.env) (hline : (apos.endLine == pos.line) = true) :
    LE X lk (.Call (.Attribute o (Str.ofString (mtN b)) apos) [] [] pos) (mtE b w m eo fun _ G => .ok (.tup []) G) := by
  have T : PE X (.Call (.Attribute o (Str.ofString (mtN b)) apos) [] [] pos) (tBM0 X.K (mtT b) (rMt X.K b) (lift X.K lk (WXo X) eo)) := by
    rcases hb with rfl | rfl | rfl
    · exact pe_bm0 F.plainAttrs_list F.slot_list_clear F.type_list_clear mt_clear ho hbase hline
    · exact pe_bm0 F.plainAttrs_list F.slot_list_pop F.type_list_pop mt_pop ho hbase hline
    · exact pe_bm0 F.plainAttrs_list F.slot_list_reverse F.type_list_reverse mt_reverse ho hbase hline
  exact pe_imp T fun σ H Q h => tBM_of (er := fun _ G => .ok (.tup []) G) (t := tNil) (fun σ H Q ⟨ρ, G, s, r, en, h⟩ => h ρ H [] Ext.refl r ⟨[], rfl, rfl⟩) σ H Q h
end
end PKS
namespace PKS
open PySem PySem.Spec PyProof.Rows L2
abbrev Ex := PK.Env → Cells → PK.O
def OutS (K : PySem.W.Frag) (lk : Lk) (W : WX) (ρ : Nm) (G : Cells) (H : Hp) (D : Ends) (r : PK.O) : Prop := match r with
  | .nx s G' => ∀ ρ' H' σ', Ext ρ G.length H ρ' G'.length H' → Rel K lk ρ' G' H' → REnv K lk ρ' G'.length H' s σ' → D.nx σ' H'
  | .brk s G' => ∀ ρ' H' σ', Ext ρ G.length H ρ' G'.length H' → Rel K lk ρ' G' H' → REnv K lk ρ' G'.length H' s σ' → D.bk σ' H'
  | .cnt s G' => ∀ ρ' H' σ', Ext ρ G.length H ρ' G'.length H' → Rel K lk ρ' G' H' → REnv K lk ρ' G'.length H' s σ' → D.ct σ' H'
  | .ret v G' => ∀ ρ' H' x, Ext ρ G.length H ρ' G'.length H' → Rel K lk ρ' G' H' → Rep K lk ρ' G'.length H' v x → D.rt x H'
  | .exc c s G' => ∀ ρ' H' σ', Ext ρ G.length H ρ' G'.length H' → Rel K lk ρ' G' H' → REnv K lk ρ' G'.length H' s σ' → W (.ref (lk.EA c)) none σ' H'
  | .bad => False
def liftS (K : PySem.W.Frag) (lk : Lk) (W : WX) (ex : Ex) : TS := fun D σ H => ∃ ρ G s, Rel K lk ρ G H ∧ REnv K lk ρ G.length H s σ ∧ OutS K lk W ρ G H D (ex s G)
abbrev LS (X : Cx) (lk : Lk) (st : Stmt) (ex : Ex) : Prop := PS X st (liftS X.K lk (WXo X) ex)
abbrev LSs (X : Cx) (lk : Lk) (sts : List Stmt) (ex : Ex) : Prop := PSs X sts (liftS X.K lk (WXo X) ex)
section
variable {K : PySem.W.Frag} {lk : Lk} {W : WX} {σ : L2.St} {ρ ρ1 : Nm} {G G1 : Cells} {H H1 : Hp} {s : PK.Env} {D : Ends}
theorem OutS.ext {r : PK.O} (e : Ext ρ G.length H ρ1 G1.length H1) (h : OutS K lk W ρ G H D r) : OutS K lk W ρ1 G1 H1 D r := by
  cases r with
  | nx s G' => exact fun ρ' H' x e' r' p' => h ρ' H' x (e.trans e') r' p'
  | brk s G' => exact fun ρ' H' x e' r' p' => h ρ' H' x (e.trans e') r' p'
  | cnt s G' => exact fun ρ' H' x e' r' p' => h ρ' H' x (e.trans e') r' p'
  | ret v G' => exact fun ρ' H' x e' r' p' => h ρ' H' x (e.trans e') r' p'
  | exc c s G' => exact fun ρ' H' σ' e' r' => h ρ' H' σ' (e.trans e') r'
  | bad => exact h
theorem OutS.seq {r : PK.O} {f : PK.Env → Cells → PK.O} (h : OutS K lk W ρ G H D (r.then f)) : OutS K lk W ρ G H { D with nx := liftS K lk W f D } r := by
  cases r with
  | nx s G' => exact fun ρ' H' σ' e' r' p' => ⟨ρ', G', s, r', p', OutS.ext e' h⟩
  | brk s G' => exact h
  | cnt s G' => exact h
  | ret v G' => exact h
  | exc c s G' => exact h
  | bad => exact h
theorem OutS.bind {r : PK.R} {f : PK.D → Cells → PK.O} {Q1 : VK} (en : REnv K lk ρ G.length H s σ) (h : OutS K lk W ρ G H D (PK.R.st s r f))
    (k : ∀ v G1, ∀ ρ1 H1 x, Ext ρ G.length H ρ1 G1.length H1 → Rel K lk ρ1 G1 H1 → Rep K lk ρ1 G1.length H1 v x → OutS K lk W ρ1 G1 H1 D (f v G1) → Q1 x H1) : OutE K lk W σ ρ G H r Q1 := by
  cases r with
  | ok v G1 => exact fun ρ1 H1 x e1 r1 p1 => k v G1 ρ1 H1 x e1 r1 p1 (OutS.ext e1 h)
  | exc c G' => exact fun ρ1 H1 e1 r1 => h ρ1 H1 σ e1 r1 (en.ext e1)
  | bad => exact h
theorem OutS.bindT {r : PK.R} {f : Bool → Cells → PK.O} {Q1 : Bool → Hp → Prop} (en : REnv K lk ρ G.length H s σ) (h : OutS K lk W ρ G H D (PK.R.st s r fun c G1 => PK.blK c (fun t => f t G1) .bad))
    (k : ∀ b G1, ∀ ρ1 H1, Ext ρ G.length H ρ1 G1.length H1 → Rel K lk ρ1 G1 H1 → OutS K lk W ρ1 G1 H1 D (f b G1) → Q1 b H1) : OutT K lk W σ ρ G H r Q1 := by
  cases r with
  | ok v G1 =>
    cases v with
    | bl b => exact ⟨b, rfl, fun ρ1 H1 e1 r1 => k b G1 ρ1 H1 e1 r1 (OutS.ext e1 h)⟩
    | _ => exact False.elim h
  | exc c G' => exact fun ρ1 H1 e1 r1 => h ρ1 H1 σ e1 r1 (en.ext e1)
  | bad => exact h
theorem OutS.here {s : PK.Env} (h : OutS K lk W ρ G H D (.nx s G)) (r : Rel K lk ρ G H) (en : REnv K lk ρ G.length H s σ) : D.nx σ H := h ρ H σ Ext.refl r en
end
section
variable {X : Cx} {lk : Lk} {a b c e o : Expr} {es : List Expr} {st : Stmt} {sts : List Stmt} {ea eb ec er : Ev} {ex ex1 ex2 : Ex} {pos p p1 p2 tpos : Pos} {t t' : TS} {x y : Str} {i j : Nat}
theorem ps_imp (h : PS X st t) (hi : ∀ D σ H, t' D σ H → t D σ H) : PS X st t' := ⟨fun pins s σ H D I q => h.run pins s σ H D I (hi D σ H q)⟩
theorem pss_imp (h : PSs X sts t) (hi : ∀ D σ H, t' D σ H → t D σ H) : PSs X sts t' := ⟨fun pins s σ H D I q => h.run pins s σ H D I (hi D σ H q)⟩
theorem ls_pass : LS X lk (.Pass pos) (fun s G => .nx s G) := ps_imp ps_pass fun D σ H ⟨ρ, G, s, r, en, h⟩ => OutS.here h r en
theorem lss_nil : LSs X lk [] (fun s G => .nx s G) := pss_imp pss_nil fun D σ H ⟨ρ, G, s, r, en, h⟩ => OutS.here h r en
theorem ls_brk : LS X lk (.Break pos) (fun s G => .brk s G) := ps_imp ps_break fun D σ H ⟨ρ, G, s, r, en, h⟩ => h ρ H σ Ext.refl r en
theorem ls_cnt : LS X lk (.Continue pos) (fun s G => .cnt s G) := ps_imp ps_continue fun D σ H ⟨ρ, G, s, r, en, h⟩ => h ρ H σ Ext.refl r en
structure ExcK (K : PySem.W.Frag) (C : Addr) : Prop where
  ex : PySem.W.excIn K C [.type "ValueError", .type "Exception", .type "BaseException", .type "object"] "ValueError.__new__" = true
  kp : PySem.W.keepIn K (.ref C) = true
  sb : PySem.W.subIn K (.ref C) (.type "BaseException") = some true
  ty : PySem.W.typeIn K (.ref C) = some (.type "type")
theorem ls_raise {n j : Nat} {m : Str} (hc : X.calm = true) (hg : Gl X x) (hm : X.mg x = some (.ref (lk.EA n))) (E : ExcK X.K (lk.EA n)) (hd : (x == ("__debug__" : Str)) = false) :
    LS X lk (.Raise (some (.Call (.Name x p) [.Constant (.str m) j p1] [] p2)) none pos) (fun s G => .exc n s G) :=
  ps_imp (ps_raise hc (takes_wx X) (pmk_own PySem.F.excBase_ValueError E.ex hm E.kp (raises_own E.sb E.ty) hg hd)) fun D σ H ⟨ρ, G, s, r, en, h⟩ => h ρ H σ Ext.refl r en
theorem ls_try {body : List Stmt} {h₀ : ExceptHandler} {hs : List ExceptHandler} {pos : Pos} {ex : Ex} (h : LSs X.nox lk body ex) : LS X lk (.Try body (h₀ :: hs) [] [] pos) (fun s G => (ex s G).thru) :=
  ps_imp (ps_try_thru0 h) fun D σ H ⟨ρ, G, s, r, en, q⟩ => ⟨ρ, G, s, r, en, by
    have q : OutS X.K lk (WXo X) ρ G H D (ex s G).thru := q
    show OutS X.K lk (WXo X.nox) ρ G H D (ex s G)
    cases e : ex s G with
    | exc c s' G' => rw [e] at q; exact False.elim q
    | nx s' G' => rw [e] at q; exact q
    | ret v G' => rw [e] at q; exact q
    | brk s' G' => rw [e] at q; exact q
    | cnt s' G' => rw [e] at q; exact q
    | bad => rw [e] at q; exact q⟩
theorem lss_one (h : LS X lk st ex) : LSs X lk [st] ex := pss_one h
theorem lss_cons (h1 : LS X lk st ex1) (h2 : LSs X lk sts ex2) : LSs X lk (st :: sts) (fun s G => (ex1 s G).then fun s1 G1 => ex2 s1 G1) :=
  pss_imp (pss_cons h1 h2) fun D σ H ⟨ρ, G, s, r, en, h⟩ => ⟨ρ, G, s, r, en, OutS.seq h⟩
theorem ls_ex (hs : swapsWith e none pos.line X.env = pure false) (he : LE X lk e ea) : LS X lk (.Expr e pos) (fun s G => PK.R.st s (ea s G) fun _ G1 => .nx s G1) :=
  ps_imp (ps_expr he hs) fun D σ H ⟨ρ, G, s, r, en, h⟩ => ⟨ρ, G, s, r, en, OutS.bind en h fun v G1 ρ1 H1 x e1 r1 p1 h1 => OutS.here h1 r1 (en.ext e1)⟩
theorem ls_ret (he : LE X lk e ea) : LS X lk (.Return (some e) pos) (fun s G => PK.R.st s (ea s G) fun v G1 => .ret v G1) :=
  ps_imp (ps_ret he) fun D σ H ⟨ρ, G, s, r, en, h⟩ => ⟨ρ, G, s, r, en, OutS.bind en h fun v G1 ρ1 H1 x e1 r1 p1 h1 => h1 ρ1 H1 x Ext.refl r1 p1⟩
theorem ls_retN : LS X lk (.Return none pos) (fun s G => .ret .non G) :=
  ps_imp ps_retN fun D σ H ⟨ρ, G, s, r, en, h⟩ => h ρ H .non Ext.refl r rfl
theorem ls_set (hN : X.N.Nodup) (hi : X.N[i]? = some x) (hx : Loc X.env.scope x) (hf : X.fn x = true ∨ X.env.scope.names.lookup x = some .local) (hs : swapsWith e (some (.Name x p)) pos.line X.env = pure false) (he : LE X lk e ea) :
    LS X lk (.Assign [.Name x p] e pos) (fun s G => PK.R.st s (ea s G) fun v G1 => .nx (PK.seti s i v) G1) :=
  ps_imp (ps_set hN hi hx he hs hf) fun D σ H ⟨ρ, G, s, r, en, h⟩ => ⟨ρ, G, s, r, en, OutS.bind en h fun v G1 ρ1 H1 x e1 r1 p1 h1 => OutS.here h1 r1 ((en.ext e1).set p1)⟩
theorem ls_if {sa sb : List Stmt} (hc : LT X lk c ec) (ha : LSs X lk sa ex1) (hb : LSs X lk sb ex2) :
    LS X lk (.If c sa sb pos) (fun s G => PK.R.st s (ec s G) fun c G1 => PK.blK c (fun t => PK.iteK t (fun _ => ex1 s G1) fun _ => ex2 s G1) .bad) :=
  ps_imp (ps_if hc ha hb) fun D σ H ⟨ρ, G, s, r, en, h⟩ => ⟨ρ, G, s, r, en, OutS.bindT (f := fun t G1 => PK.iteK t (fun _ => ex1 s G1) fun _ => ex2 s G1) en h fun b G1 ρ1 H1 e1 r1 h1 => by
    cases b with
    | true => rw [if_pos rfl]; exact ⟨ρ1, G1, s, r1, en.ext e1, h1⟩
    | false => rw [if_neg Bool.false_ne_true]; exact ⟨ρ1, G1, s, r1, en.ext e1, h1⟩⟩

def LG (X : Cx) (lk : Lk) (tg : Expr) (f : PK.D → PK.Env → Cells → PK.O) : Prop :=
  PG X tg (fun v σ H Q => ∃ ρ G s d, Rel X.K lk ρ G H ∧ REnv X.K lk ρ G.length H s σ ∧ Rep X.K lk ρ G.length H d v ∧ OutS X.K lk (WXo X) ρ G H { nx := Q, rt := fun _ _ => False } (f d s G))
theorem lg_nm (hN : X.N.Nodup) (hi : X.N[i]? = some x) (hx : Loc X.env.scope x) (hf : X.fn x = true ∨ X.env.scope.names.lookup x = some .local) : LG X lk (.Name x p) (fun d s G => .nx (PK.seti s i d) G) :=
  ⟨fun pins s' σ H v u Q I ru ⟨ρ, G, s, d, r, en, pv, h⟩ => (pg_name (pos := p) hN hi hx hf).run pins s' σ H v u Q I ru (OutS.here h r (en.set pv))⟩
theorem put_rep {κ : Type} [DecidableEq κ] {K : PySem.W.Frag} {ρ : Nm} {n : Nat} {H : Hp} {k : κ} {d : PK.D} {v : V} (q : Rep K lk ρ n H d v) : ∀ {kvs : List (κ × PK.D)} {zs : List (κ × V)}, RepK K lk ρ n H kvs zs → RepK K lk ρ n H (PK.putD kvs k d) (putK zs k v) := by
  intro kvs zs h
  obtain ⟨h1, h2⟩ := h
  have any : ∀ {α β : Type} (f : κ → Bool) (l : List (κ × α)) (l' : List (κ × β)), l.map (·.1) = l'.map (·.1) → (l.any fun kv => f kv.1) = l'.any fun kv => f kv.1 := fun f l l' e => by
    have e1 : (l.any fun kv => f kv.1) = (l.map (·.1)).any f := by rw [List.any_map]; rfl
    have e2 : (l'.any fun kv => f kv.1) = (l'.map (·.1)).any f := by rw [List.any_map]; rfl
    rw [e1, e2, e]
  have ea := any (fun z => decide (z = k)) zs kvs h1
  unfold PK.putD putK
  by_cases c : (kvs.any fun kv => decide (kv.1 = k)) = true
  · rw [if_pos c, if_pos (ea.trans c)]
    clear ea c
    have go : ∀ (kvs : List (κ × PK.D)) (zs : List (κ × V)), zs.map (·.1) = kvs.map (·.1) → Reps K lk ρ n H (kvs.map (·.2)) (zs.map (·.2)) →
        RepK K lk ρ n H (kvs.map fun kv => if kv.1 = k then (kv.1, d) else kv) (zs.map fun kv => if kv.1 = k then (kv.1, v) else kv) := by
      intro kvs
      induction kvs with
      | nil =>
        intro zs h1 h2
        cases zs with
        | nil => exact ⟨rfl, rfl⟩
        | cons z zs => simp at h1
      | cons kv kvs ih =>
        intro zs h1 h2
        cases zs with
        | nil => simp at h1
        | cons z zs =>
          obtain ⟨x, xs, e, h3, h4⟩ := h2
          simp only [List.map_cons, List.cons.injEq] at h1 e
          obtain ⟨i1, i2⟩ := ih zs h1.2 (by rw [e.2]; exact h4)
          refine ⟨?_, ?_⟩
          · simp only [List.map_cons, List.cons.injEq]
            refine ⟨?_, i1⟩
            rw [h1.1]
            split <;> simp [h1.1]
          · rw [List.map_cons, List.map_cons, List.map_cons, List.map_cons]
            refine ⟨_, _, rfl, ?_, i2⟩
            rw [h1.1]
            split
            · exact q
            · rw [e.1]; exact h3
    exact go kvs zs h1 h2
  · rw [if_neg c, if_neg (by rw [ea]; exact c)]
    exact ⟨by rw [List.map_append, List.map_append, h1]; rfl, by rw [List.map_append, List.map_append]; exact h2.append (Reps.one q)⟩
def rPut (K : PySem.W.Frag) : TSet := fun o i v H Q => rSetL o i v H Q ∨ rSetD o i v H Q
theorem set_all (hu : X.A.units + 1 < cLine) : PSet X (rPut X.K) := fun pins s σ H o i v ov iv u Q I ro ri rv h => h.elim (set_list pins s σ H o i v ov iv u Q I ro ri rv) (set_dict hu pins s σ H o i v ov iv u Q I ro ri rv)
theorem ix_len {l n : Nat} {k : Int} {j : Nat} (e : l = n) (h : L2.ixN l k = some j) : L2.ixN n k = some j := e ▸ h
theorem put_val {K : PySem.W.Frag} {σ : L2.St} {ρ : Nm} {G : Cells} {H : Hp} {m : List Nat} {x y v : PK.D} {xo xi xv : V} {s : PK.Env} {D : Ends} (r : Rel K lk ρ G H) (en : REnv K lk ρ G.length H s σ) (p1 : Rep K lk ρ G.length H x xo) (p2 : Rep K lk ρ G.length H y xi) (p3 : Rep K lk ρ G.length H v xv)
    (h : OutS K lk W ρ G H D (PK.putV m x y v s G)) : rPut K xo xi xv H (D.nx σ) := by
  cases x with
  | ref q =>
    obtain ⟨hq, ho⟩ := p1
    cases e : G[q]? with
    | none => unfold PK.putV at h; simp only [e] at h; exact False.elim h
    | some cl =>
      obtain ⟨u, h1, h2⟩ := r.cell q _ e
      have fin : ∀ {c' : PK.Cell} {o : HO}, OutS K lk W ρ G H D (.nx s (PK.setC G q c')) → RepC K lk ρ G.length H c' o → D.nx σ (upd H (ρ q) o) := fun {c' o} h rc => by
        have e2 : Ext ρ G.length H ρ (PK.setC G q c').length (upd H (ρ q) o) := by
          show Ext ρ G.length H ρ (G.set q c').length _
          rw [List.length_set]; exact r.exw e
        exact h ρ _ σ e2 (r.written e rc) (en.ext e2)
      cases cl with
      | lst ds =>
        obtain ⟨zs, rfl, h3⟩ := h2
        have h : OutS K lk W ρ G H D (PK.putL q m ds y v s G) := by unfold PK.putV at h; simp only [e] at h; exact h
        cases y with
        | int k =>
          have h : OutS K lk W ρ G H D (match L2.ixN ds.length k with | some j => if PK.wok q m v then .nx s (PK.setC G q (.lst (ds.set j v))) else .bad | none => .bad) := h
          cases e3 : L2.ixN ds.length k with
          | none => rw [e3] at h; exact False.elim h
          | some j =>
            rw [e3] at h
            simp only at h
            split at h
            · exact .inl ⟨ρ q, zs, k, j, ho, p2, h1, ix_len h3.length e3, fin h ⟨_, rfl, h3.set p3⟩⟩
            · exact False.elim h
        | _ => exact False.elim h
      | dK kvs =>
        obtain ⟨zs, rfl, h3⟩ := h2
        have h : OutS K lk W ρ G H D (PK.putDK q m kvs y v s G) := by unfold PK.putV at h; simp only [e] at h; exact h
        unfold PK.putDK at h
        cases e3 : PK.keyD y with
        | none => rw [e3] at h; exact False.elim h
        | some k =>
          rw [e3] at h
          simp only at h
          split at h
          · rename_i hc
            simp only [Bool.and_eq_true, decide_eq_true_eq] at hc
            have hl : zs.length < sizeLine := by
              have : zs.length = kvs.length := by have := congrArg List.length h3.1; simpa using this
              rw [this, sizeLine_eq]; exact Nat.lt_of_lt_of_le hc.2 (by decide)
            exact .inr ⟨ρ q, _, ho, .inl ⟨zs, k, h1, key_of p2 e3, hl, rfl⟩, fin h ⟨_, rfl, put_rep p3 h3⟩⟩
          · exact False.elim h
      | dT kvs =>
        obtain ⟨zs, rfl, h3⟩ := h2
        have h : OutS K lk W ρ G H D (PK.putDT q m kvs y v s G) := by unfold PK.putV at h; simp only [e] at h; exact h
        cases y with
        | tup ks =>
          have h : OutS K lk W ρ G H D (match PK.keysD ks with | some k => if PK.wok q m v && decide (kvs.length < 1000000) then .nx s (PK.setC G q (.dT (PK.putD kvs k v))) else .bad | none => .bad) := h
          cases e3 : PK.keysD ks with
          | none => rw [e3] at h; exact False.elim h
          | some k =>
            rw [e3] at h
            simp only at h
            split at h
            · rename_i hc
              simp only [Bool.and_eq_true, decide_eq_true_eq] at hc
              have hl : zs.length < sizeLine := by
                have : zs.length = kvs.length := by have := congrArg List.length h3.1; simpa using this
                rw [this, sizeLine_eq]; exact Nat.lt_of_lt_of_le hc.2 (by decide)
              obtain ⟨b, ws, hb, ht, hks⟩ := p2
              have ht : H b = some (.tup ws) := by
                rcases ht with ht | ht
                · exact ht
                · rw [e3] at ht; cases ht.2
              rw [keys_of hks e3] at ht
              exact .inr ⟨ρ q, _, ho, .inr ⟨zs, k, b, h1, hb, ht, hl, rfl⟩, fin h ⟨_, rfl, put_rep p3 h3⟩⟩
            · exact False.elim h
        | _ => exact False.elim h
      | ins c ds => unfold PK.putV at h; simp only [e] at h; exact False.elim h
  | _ => exact False.elim h
theorem lg_sub {m : List Nat} {eo ei : Ev} (hu : X.A.units + 1 < cLine) (hs : ∀ lo hi st q, b ≠ .Slice lo hi st q) (ho : LE X lk a eo) (hi : LE X lk b ei)
    (ha : ∀ v, assign (.Subscript a b pos) X.env v = (do
      let ov ← holding [v] (eval a X.env)
      let iv ← holding [v, ov] (eval b X.env)
      standAt pos
      holding [v, ov, iv] (setItem ov iv v)
      release [v, ov, iv] [])) :
    LG X lk (.Subscript a b pos) (fun v s G => PK.R.st s (eo s G) fun x G1 => PK.R.st s (ei s G1) fun y G2 => PK.putV m x y v s G2) :=
  ⟨fun pins s' σ H v u Q I ru ⟨ρ, G, s, d, r, en, pv, h⟩ => (pg_sub ho hi (set_all hu) ha).run pins s' σ H v u Q I ru
    ⟨ρ, G, s, r, en, OutS.bind en h fun x G1 ρ1 H1 xo e1 r1 p1 h1 => ⟨ρ1, G1, s, r1, en.ext e1, OutS.bind (en.ext e1) h1 fun y G2 ρ2 H2 xi e2 r2 p2 h2 =>
      put_val r2 (en.ext (e1.trans e2)) (Rep.ext e2 _ _ p1) p2 (Rep.ext (e1.trans e2) _ _ pv) h2⟩⟩⟩
theorem ls_put {f : PK.D → PK.Env → Cells → PK.O} {tg : Expr} (hg : LG X lk tg f) (hv : ∀ v s G, match f v s G with | .nx _ _ => True | .exc _ _ _ => True | .bad => True | _ => False) (he : LE X lk e ea) (hs : swapsWithSole [tg] e pos.line X.env = pure false) (hw : swappedStores [tg] e X.env = pure none)
    (h1 : (assignEach [tg] X.env).map (·.2) = [assign tg X.env]) : LS X lk (.Assign [tg] e pos) (fun s G => PK.R.st s (ea s G) fun v G1 => f v s G1) :=
  ps_imp (ps_asg he hg hs hw h1) fun D σ H ⟨ρ, G, s, r, en, h⟩ => ⟨ρ, G, s, r, en, OutS.bind en h fun v G1 ρ1 H1 x e1 r1 p1 h1 => ⟨ρ1, G1, s, v, r1, en.ext e1, p1, by
    have z := hv v s G1
    cases q : f v s G1 with
    | nx s' G' => rw [q] at h1; exact h1
    | exc c s' G' => rw [q] at h1; exact h1
    | bad => rw [q] at h1; exact h1
    | ret v G' => rw [q] at z; exact z.elim
    | brk v G' => rw [q] at z; exact z.elim
    | cnt v G' => rw [q] at z; exact z.elim⟩⟩

inductive Nms (X : Cx) : List Nat → List Expr → Prop where
  | nil : Nms X [] []
  | cons {i : Nat} {is : List Nat} {x : Str} {p : Pos} {es : List Expr} (hi : X.N[i]? = some x) (hx : Loc X.env.scope x) (hf : X.fn x = true ∨ X.env.scope.names.lookup x = some .local) (t : Nms X is es) : Nms X (i :: is) (.Name x p :: es)
def gNms : List Nat → TGs
  | [] => gNil
  | i :: is => gCons (gName i) (gNms is)
theorem assignEach_name {x : Str} {p : Pos} {es : List Expr} {env : Env} : assignEach (.Name x p :: es) env = (false, assign (.Name x p) env) :: assignEach es env := by
  first | rfl | (unfold assignEach; rfl)
theorem pgs_nms (hN : X.N.Nodup) : ∀ {is : List Nat} {es : List Expr}, Nms X is es → PGs X es (gNms is)
  | _, _, .nil => pgs_nil
  | _, _, .cons hi hx hf t => pgs_cons (pg_name hN hi hx hf) (pgs_nms hN t) (by rw [assignEach_name]; rfl)
theorem nms_len : ∀ {is : List Nat} {es : List Expr}, Nms X is es → (assignEach es X.env).length = is.length ∧ (assignEach es X.env).findIdx? (·.1) = none
  | _, _, .nil => ⟨rfl, rfl⟩
  | _, _, .cons hi hx hf t => by
    obtain ⟨h1, h2⟩ := nms_len t
    rw [assignEach_name]
    exact ⟨by rw [List.length_cons, List.length_cons, h1], by rw [List.findIdx?_cons, h2]; rfl⟩
theorem pg_nms {k : Nat} {is : List Nat} (hc : X.calm = true) (hN : X.N.Nodup) (h : Nms X is es) : PG X (.Tuple es k pos) (gTup X.K is.length (gNms is)) :=
  pg_tup hc (pgs_nms hN h) (nms_len h).1 (nms_len h).2
def setAll (is : List Nat) (vs : List V) (σ : L2.St) : L2.St := (is.zip vs).foldl (fun σ p => σ.set p.1 (some p.2)) σ
theorem gNms_of {is : List Nat} : ∀ {vs : List V} {σ : L2.St} {H : Hp} {Q : L2.St → Hp → Prop}, vs.length = is.length → Q (setAll is vs σ) H → gNms is vs σ H Q := by
  induction is with
  | nil =>
    intro vs σ H Q hl h
    cases vs with
    | nil => exact ⟨rfl, h⟩
    | cons _ _ => simp at hl
  | cons i is ih =>
    intro vs σ H Q hl h
    cases vs with
    | nil => simp at hl
    | cons v vs => exact ⟨v, vs, rfl, ih (by simpa using hl) h⟩
theorem pars_rel {K : PySem.W.Frag} {ρ : Nm} {n : Nat} {H : Hp} : ∀ {is : List Nat} {ds : List PK.D} {vs : List V} {s : PK.Env} {σ : L2.St}, Reps K lk ρ n H ds vs → REnv K lk ρ n H s σ → REnv K lk ρ n H ((is.zip ds).foldl (fun s p => PK.seti s p.1 p.2) s) (setAll is vs σ)
  | [], ds, vs, s, σ, p, en => en
  | i :: is, [], vs, s, σ, p, en => by rw [show vs = [] from p]; exact en
  | i :: is, d :: ds, vs, s, σ, p, en => by
    obtain ⟨x, xs, h1, h2, h3⟩ := p
    rw [h1]
    exact pars_rel (is := is) h3 (en.set h2)
inductive Pat (X : Cx) (tg : Expr) (pt : List Nat) : Bool → Prop where
  | one {i : Nat} {x : Str} {p : Pos} (h : tg = .Name x p) (hp : pt = [i]) (hi : X.N[i]? = some x) (hx : Loc X.env.scope x) (hf : X.fn x = true ∨ X.env.scope.names.lookup x = some .local) : Pat X tg pt true
  | tup {es : List Expr} {k : Nat} {p : Pos} (h : tg = .Tuple es k p) (hn : Nms X pt es) : Pat X tg pt false
def gPat (K : PySem.W.Frag) (pt : List Nat) : Bool → TG
  | true => fun v σ H Q => ∃ i, pt = [i] ∧ Q (σ.set i (some v)) H
  | false => fun v σ H Q => ∃ a xs, v = .ref a ∧ SqT K H a xs ∧ xs.length = pt.length ∧ Q (setAll pt xs σ) H
theorem pg_pat {tg : Expr} {pt : List Nat} {one : Bool} (hc : X.calm = true) (hN : X.N.Nodup) (h : Pat X tg pt one) : PG X tg (gPat X.K pt one) := by
  cases h with
  | one h hp hi hx hf =>
    subst h
    subst hp
    refine ⟨fun pins s σ H v u Q I ru ⟨i', e, h⟩ => (pg_name hN hi hx hf).run pins s σ H v u Q I ru ?_⟩
    cases e
    exact h
  | tup h hn =>
    subst h
    exact ⟨fun pins s σ H v u Q I ru ⟨a, xs, h1, h2, h3, h4⟩ => (pg_nms hc hN hn).run pins s σ H v u Q I ru ⟨a, xs, h1, h2, h3, gNms_of h3 h4⟩⟩
theorem pat_of {K : PySem.W.Frag} {ρ : Nm} {n : Nat} {H : Hp} {pt : List Nat} {one : Bool} {s s' : PK.Env} {σ : L2.St} {d : PK.D} {v : V} {Q : L2.St → Hp → Prop} (e : PK.bindT pt one s d = some s') (p : Rep K lk ρ n H d v) (en : REnv K lk ρ n H s σ)
    (h : ∀ σ', REnv K lk ρ n H s' σ' → (∀ vs, (∀ i ∈ pt, i ∈ vs) → L2.wipe σ' vs = L2.wipe σ vs) → Q σ' H) : gPat K pt one v σ H Q := by
  have wset : ∀ (i : Nat) (w : V) (vs : List Nat) (σ : L2.St), i ∈ vs → L2.wipe (σ.set i (some w)) vs = L2.wipe σ vs := fun i w vs => by
    induction vs with
    | nil => intro σ h; cases h
    | cons u us ih =>
      intro σ h
      unfold L2.wipe
      by_cases c : i = u
      · subst c
        by_cases c2 : i ∈ us
        · rw [ih σ c2]
        · have : ∀ (us : List Nat), i ∉ us → L2.wipe (σ.set i (some w)) us = (L2.wipe σ us).set i (some w) := fun us => by
            induction us with
            | nil => intro _; rfl
            | cons z zs ih2 =>
              intro hz
              simp only [List.mem_cons, not_or] at hz
              unfold L2.wipe
              rw [ih2 hz.2, List.set_comm _ _ hz.1]
          rw [this us c2, List.set_set]
      · rw [ih σ (by rcases List.mem_cons.mp h with e | e; exact absurd e c; exact e)]
  cases one with
  | true =>
    unfold PK.bindT at e
    rw [if_pos rfl] at e
    match pt, e with
    | [i], e =>
      cases e
      exact ⟨i, rfl, h _ (en.set p) fun vs hv => wset i v vs σ (hv i (by simp))⟩
  | false =>
    unfold PK.bindT at e
    rw [if_neg Bool.false_ne_true] at e
    cases d with
    | tup ds =>
      simp only at e
      split at e
      · rename_i hl
        cases e
        obtain ⟨a, xs, h1, h2, h3⟩ := p
        refine ⟨a, xs, h1, h2.sq, by rw [← h3.length]; exact hl, h _ (pars_rel h3 en) fun vs hv => ?_⟩
        have go : ∀ (pt : List Nat) (xs : List V) (σ : L2.St), (∀ i ∈ pt, i ∈ vs) → L2.wipe (setAll pt xs σ) vs = L2.wipe σ vs := fun pt => by
          induction pt with
          | nil => intro xs σ _; rfl
          | cons i pt ih =>
            intro xs σ hv
            cases xs with
            | nil => rfl
            | cons x xs =>
              have := ih xs (σ.set i (some x)) fun j hj => hv j (List.mem_cons_of_mem _ hj)
              exact this.trans (wset i x vs σ (hv i List.mem_cons_self))
        exact go pt xs σ hv
      · cases e
    | _ => cases e
theorem ls_asg {is : List Nat} {k : Nat} (hc : X.calm = true) (hN : X.N.Nodup) (hn : Nms X is es) (he : LE X lk e ea) (hs : swapsWithSole [.Tuple es k p] e pos.line X.env = pure false) (hw : swappedStores [.Tuple es k p] e X.env = pure none) (h1 : (assignEach [.Tuple es k p] X.env).map (·.2) = [assign (.Tuple es k p) X.env])
    {f : PK.D → Cells → PK.Env → PK.O} (hf : ∀ v G s, (f v G s = .bad ∨ ∃ ds, v = .tup ds ∧ ds.length = is.length ∧ f v G s = .nx (PK.pars is ds s) G)) :
    LS X lk (.Assign [.Tuple es k p] e pos) (fun s G => PK.R.st s (ea s G) fun v G1 => f v G1 s) :=
  ps_imp (ps_asg he (pg_nms hc hN hn) hs hw h1) fun D σ H ⟨ρ, G, s, r, en, h⟩ => ⟨ρ, G, s, r, en, OutS.bind en h fun v G1 ρ1 H1 x e1 r1 p1 h1 => by
    rcases hf v G1 s with q | ⟨ds, rfl, hl, q⟩
    · rw [q] at h1; exact False.elim h1
    · rw [q] at h1
      obtain ⟨a, xs, h2, h3, h4⟩ := p1
      have hx : xs.length = is.length := by rw [← h4.length]; exact hl
      exact ⟨a, xs, h2, h3.sq, hx, gNms_of hx (OutS.here h1 r1 (pars_rel h4 (en.ext e1)))⟩⟩
def LGs (X : Cx) (lk : Lk) (es : List Expr) (f : List PK.D → PK.Env → Cells → PK.O) : Prop :=
  PGs X es (fun vs σ H Q => ∃ ρ G s ds, Rel X.K lk ρ G H ∧ REnv X.K lk ρ G.length H s σ ∧ Reps X.K lk ρ G.length H ds vs ∧ ds.length = es.length ∧ OutS X.K lk (WXo X) ρ G H { nx := Q, rt := fun _ _ => False } (f ds s G))
theorem lgs_nil : LGs X lk [] (fun _ s G => .nx s G) := ⟨fun pins s' σ H vs us Q I ru ⟨ρ, G, s, ds, r, en, pv, hl, h⟩ => by
  cases ds with
  | nil => exact pgs_nil.run pins s' σ H vs us Q I ru ⟨pv, OutS.here h r en⟩
  | cons _ _ => simp at hl⟩
theorem lgs_cons {f : PK.D → PK.Env → Cells → PK.O} {g : List PK.D → PK.Env → Cells → PK.O} (h1 : LG X lk e f) (h2 : LGs X lk es g) (hs : (assignEach (e :: es) X.env).map (·.2) = assign e X.env :: (assignEach es X.env).map (·.2)) :
    LGs X lk (e :: es) (fun ds s G => match ds with | d :: ds => (f d s G).then fun s1 G1 => g ds s1 G1 | [] => .bad) := ⟨fun pins s' σ H vs us Q I ru ⟨ρ, G, s, ds, r, en, pv, hl, h⟩ => by
  cases ds with
  | nil => exact False.elim h
  | cons d ds =>
    obtain ⟨x, xs, hx, px, pxs⟩ := pv
    refine (pgs_cons h1 h2 hs).run pins s' σ H vs us Q I ru ⟨x, xs, hx, ρ, G, s, d, r, en, px, ?_⟩
    have h : OutS X.K lk (WXo X) ρ G H { nx := Q, rt := fun _ _ => False } ((f d s G).then fun s1 G1 => g ds s1 G1) := h
    cases q : f d s G with
    | nx s1 G1 => rw [q] at h; exact fun ρ1 H1 σ1 e1 r1 en1 => ⟨ρ1, G1, s1, ds, r1, en1, Reps.ext e1 _ _ pxs, by simpa using hl, OutS.ext e1 h⟩
    | ret v G1 => rw [q] at h; exact h
    | brk s1 G1 => rw [q] at h; exact h
    | cnt s1 G1 => rw [q] at h; exact h
    | exc c s1 G1 => rw [q] at h; exact h
    | bad => rw [q] at h; exact h⟩
theorem ls_asgG {k : Nat} {f : List PK.D → PK.Env → Cells → PK.O} (hc : X.calm = true) (hg : LGs X lk es f) (hv : ∀ v s G, match f v s G with | .nx _ _ => True | .exc _ _ _ => True | .bad => True | _ => False) (hn : (assignEach es X.env).length = es.length) (hst : (assignEach es X.env).findIdx? (·.1) = none) (he : LE X lk e ea)
    (hs : swapsWithSole [.Tuple es k p] e pos.line X.env = pure false) (hw : swappedStores [.Tuple es k p] e X.env = pure none) (h1 : (assignEach [.Tuple es k p] X.env).map (·.2) = [assign (.Tuple es k p) X.env]) :
    LS X lk (.Assign [.Tuple es k p] e pos) (fun s G => PK.R.st s (ea s G) fun v G1 => PK.optK (PK.seqD G1 v) (fun ds => PK.iteK (decide (ds.length = es.length)) (fun _ => f ds s G1) fun _ => .bad) .bad) :=
  ps_imp (ps_asg (g := fun v σ H Q => gTup X.K es.length _ v σ H Q ∨ gLst X.K es.length _ v σ H Q) he ⟨fun pins s' σ H v u Q I ru h => h.elim ((pg_tup hc hg hn hst).run pins s' σ H v u Q I ru) ((pg_lst hc hg hn hst).run pins s' σ H v u Q I ru)⟩ hs hw h1) fun D σ H ⟨ρ, G, s, r, en, h⟩ => ⟨ρ, G, s, r, en, OutS.bind en h fun v G1 ρ1 H1 x e1 r1 p1 h1 => by
    cases e : PK.seqD G1 v with
    | none => rw [e] at h1; exact False.elim h1
    | some ds =>
      rw [e] at h1
      have h1 : OutS X.K lk (WXo X) ρ1 G1 H1 D (PK.iteK (decide (ds.length = es.length)) (fun _ => f ds s G1) fun _ => .bad) := h1
      by_cases c : ds.length = es.length
      · rw [decide_eq_true c] at h1
        obtain ⟨a, xs, h2, h3, h4, h5, h6⟩ := seq_of e r1 p1
        have h1 : OutS X.K lk (WXo X) ρ1 G1 H1 D (f ds s G1) := h1
        have z := hv ds s G1
        have last : OutS X.K lk (WXo X) ρ1 G1 H1 { nx := D.nx, rt := fun _ _ => False } (f ds s G1) := by
          cases q : f ds s G1 with
          | nx s' G' => rw [q] at h1; exact h1
          | exc c s' G' => rw [q] at h1; exact h1
          | bad => rw [q] at h1; exact h1
          | ret v G' => rw [q] at z; exact z.elim
          | brk v G' => rw [q] at z; exact z.elim
          | cnt v G' => rw [q] at z; exact z.elim
        have hx : xs.length = es.length := by rw [← h4.length]; exact c
        rcases h3 with h3 | h3
        · exact .inr ⟨a, xs, h2, h3, hx, ρ1, G1, s, ds, r1, en.ext e1, h4, c, last⟩
        · exact .inl ⟨a, xs, h2, h3, hx, ρ1, G1, s, ds, r1, en.ext e1, h4, c, last⟩
      · rw [decide_eq_false c] at h1; exact False.elim h1⟩
theorem ls_par2 {k k2 : Nat} {px py pt pt2 : Pos} (hc : X.calm = true) (hN : X.N.Nodup) (hi : X.N[i]? = some x) (hj : X.N[j]? = some y) (hij : i ≠ j)
    (hx : X.env.scope.names.lookup x = some .local) (hy : X.env.scope.names.lookup y = some .local) (ha : LA X lk [a, b] er)
    (hw : swappedStores [.Tuple [.Name x px, .Name y py] k pt] (.Tuple [a, b] k2 pt2) X.env = pure (some [x, y])) :
    LS X lk (.Assign [.Tuple [.Name x px, .Name y py] k pt] (.Tuple [a, b] k2 pt2) pos) (fun s G => PK.R.st s (er s G) fun v G1 => PK.tupK v (fun ds => PK.iteK (decide (ds.length = [i, j].length)) (fun _ => .nx (PK.pars [i, j] ds s) G1) fun _ => .bad) .bad) :=
  ps_imp (ps_par hc hN hi hj hij hx hy ha hw) fun D σ H ⟨ρ, G, s, r, en, h⟩ => ⟨ρ, G, s, r, en, by
    dsimp only at h
    cases q : er s G with
    | ok v G1 =>
      rw [q] at h
      intro ρ1 H1 xs e1 r1 ⟨ds, hv, p1⟩
      subst hv
      have h : OutS X.K lk (WXo X) ρ G H D (PK.iteK (decide (ds.length = [i, j].length)) (fun _ => .nx (PK.pars [i, j] ds s) G1) fun _ => .bad) := h
      by_cases c : ds.length = [i, j].length
      · rw [decide_eq_true c] at h
        have hl := p1.length
        rw [c] at hl
        match xs, hl with
        | [v, w], _ => exact ⟨v, w, rfl, OutS.here (OutS.ext e1 h) r1 (pars_rel (is := [i, j]) p1 (en.ext e1))⟩
      · rw [decide_eq_false c] at h; exact False.elim h
    | exc c G' => rw [q] at h; exact fun ρ1 H1 e1 r1 => h ρ1 H1 σ e1 r1 (en.ext e1)
    | bad => rw [q] at h; exact h⟩
theorem ls_par3 {l k k2 : Nat} {z : Str} {px py pz pt pt2 : Pos} (hc : X.calm = true) (hN : X.N.Nodup) (hi : X.N[i]? = some x) (hj : X.N[j]? = some y) (hl : X.N[l]? = some z) (hij : i ≠ j) (hil : i ≠ l) (hjl : j ≠ l)
    (hx : X.env.scope.names.lookup x = some .local) (hy : X.env.scope.names.lookup y = some .local) (hz : X.env.scope.names.lookup z = some .local) (ha : LA X lk [a, b, c] er)
    (hw : swappedStores [.Tuple [.Name x px, .Name y py, .Name z pz] k pt] (.Tuple [a, b, c] k2 pt2) X.env = pure (some [x, y, z])) (hs : swapsWithSole [.Tuple [.Name x px, .Name y py, .Name z pz] k pt] (.Tuple [a, b, c] k2 pt2) pos.line X.env = pure false) :
    LS X lk (.Assign [.Tuple [.Name x px, .Name y py, .Name z pz] k pt] (.Tuple [a, b, c] k2 pt2) pos) (fun s G => PK.R.st s (er s G) fun v G1 => PK.tupK v (fun ds => PK.iteK (decide (ds.length = [i, j, l].length)) (fun _ => .nx (PK.pars [i, j, l] ds s) G1) fun _ => .bad) .bad) :=
  ps_imp (ps_par3 hc hN hi hj hl hij hil hjl hx hy hz ha hw hs) fun D σ H ⟨ρ, G, s, r, en, h⟩ => ⟨ρ, G, s, r, en, by
    dsimp only at h
    cases q : er s G with
    | ok v G1 =>
      rw [q] at h
      intro ρ1 H1 xs e1 r1 ⟨ds, hv, p1⟩
      subst hv
      have h : OutS X.K lk (WXo X) ρ G H D (PK.iteK (decide (ds.length = [i, j, l].length)) (fun _ => .nx (PK.pars [i, j, l] ds s) G1) fun _ => .bad) := h
      by_cases c : ds.length = [i, j, l].length
      · rw [decide_eq_true c] at h
        have hl := p1.length
        rw [c] at hl
        match xs, hl with
        | [v, w, z], _ => exact ⟨v, w, z, rfl, OutS.here (OutS.ext e1 h) r1 (pars_rel (is := [i, j, l]) p1 (en.ext e1))⟩
      · rw [decide_eq_false c] at h; exact False.elim h
    | exc c G' => rw [q] at h; exact fun ρ1 H1 e1 r1 => h ρ1 H1 σ e1 r1 (en.ext e1)
    | bad => rw [q] at h; exact h⟩
end
end PKS
namespace PKS
open PySem PySem.Spec PyProof.Rows L2
theorem turn_long {P : Program} {w : World} {K : PySem.W.Frag} {tg : Expr} (it : Addr) (lo : Int) (n : Nat) : Turn P w K tg (Itr lo n) [it] it (fun i h => IsLongIter h it (lo + (i : Nat) * 1) ((n : Int) - (i : Nat)) 1) where
  mem := by simp
  obj := fun i h st b hb => by
    have e : b = it := by simpa using hb
    subst e
    exact ⟨_, st, fun v z => by
      have z' : Data.fields _ = Data.cell v := z
      cases z'⟩
  keep := fun i h h' st k => k it (by simp) _ st
  item := by
    intro X hP hw hK hc i pins s σ H E I hf st hg
    subst hP hw hK
    obtain ⟨f0, f1, f2, f3, f4, f5⟩ := hf it (by simp)
    have W := Walks.longrange (prog := X.prog) (w := X.w) (I.ok.hd hc) it lo 1 n
    refine W.item i s _ _ hg st fun v h' tk hv st' kk => ?_
    obtain ⟨t, rfl⟩ := hv
    have I1 : Inv X pins σ H { s with heap := h', toks := tk } := I.turned (fun b o hb e => kk b o (by simpa using hb) e) f0 f1 f3 f4 f5
    refine ⟨_, rfl, go_of (s := { s with heap := h', toks := tk }) (n := "longrange_iterator") st' rfl rfl (by decide) ⟨.int (lo + i), H, I1, ⟨t, ?_⟩, ⟨rfl, rfl⟩, st', fun b hb => (hf b hb).1⟩⟩
    rw [Int.mul_one]
  done := by
    intro X hP hw hK hc i pins s σ H E I hf st hg
    subst hP hw hK
    obtain ⟨f0, f1, f2, f3, f4, f5⟩ := hf it (by simp)
    exact wpAny_pyNext_long_end (I.ok.hd hc) st (by have : n ≤ i := hg; omega) fun h' eb => ⟨rfl, I.turned (t' := s.toks) (fun b o hb e => eb b o hb e) f0 f1 f3 f4 f5⟩
  self := fun _ _ _ _ _ st h => wpAny_pyIter_longiter st h
section
variable {X : Cx} {tg : Expr}
theorem range_itA {pins : List (Addr × Obj)} {σ : L2.St} {H : Hp} {s : Shared} {R : It → Hp → Prop} {E : Value → Shared → Prop} {lo hi : Int} {t u v : Tok} {tk : Nat} (I : Inv X pins σ H s)
    (q : R (Itr lo (hi - lo).toNat) H) : wpAny (model X.prog X.w) X.A (pyIter (.ref s.heap.objs.size)) (PIE X pins σ tg R) E { s with heap := s.heap.push { cls := .type "range", data := .fields #[.int lo t, .int hi u, .int 1 v] }, toks := tk } := by
  have I1 : Inv X pins σ H { s with heap := s.heap.push { cls := .type "range", data := .fields #[.int lo t, .int hi u, .int 1 v] }, toks := tk } := I.kept fun b o e => Heap.get?_push_of_some _ e
  have e1 : lo + ((0 : Nat) : Int) * 1 = lo := by simp
  have e2 : (((hi - lo).toNat : Nat) : Int) - ((0 : Nat) : Int) = Builtin.Range.rangeSize lo hi 1 := by rw [rangeSize_one]; split <;> omega
  cases sm : Builtin.Range.small lo hi 1 with
  | true =>
    refine wpAny_pyIter_range (IsRange.new ..) sm ?_
    refine ⟨(s.heap.push { cls := .type "range", data := .fields #[.int lo t, .int hi u, .int 1 v] }).objs.size, [(s.heap.push { cls := .type "range", data := .fields #[.int lo t, .int hi u, .int 1 v] }).objs.size], _, _, H, rfl,
      I1.kept (t' := tk) fun b o e => Heap.get?_push_of_some _ e, turn_range _ lo (hi - lo).toNat, ?_, fun b hb => ?_, q⟩
    · show IsRangeIter _ _ (lo + ((0 : Nat) : Int) * 1) ((((hi - lo).toNat : Nat) : Int) - ((0 : Nat) : Int)) 1
      rw [e1, e2]
      exact Heap.get?_push_size _ rfl
    · have e : b = (s.heap.push { cls := .type "range", data := .fields #[.int lo t, .int hi u, .int 1 v] }).objs.size := by simpa using hb
      subst e
      exact I1.fpOk (Nat.le_refl _) (I1.hok.fresh (Nat.le_refl _))
  | false =>
    refine wpAny_pyIter_longrange (IsRange.new ..) sm ?_
    refine ⟨(s.heap.push { cls := .type "range", data := .fields #[.int lo t, .int hi u, .int 1 v] }).objs.size, [(s.heap.push { cls := .type "range", data := .fields #[.int lo t, .int hi u, .int 1 v] }).objs.size], _, _, H, rfl,
      I1.kept (t' := tk) fun b o e => Heap.get?_push_of_some _ e, turn_long _ lo (hi - lo).toNat, ?_, fun b hb => ?_, q⟩
    · show IsLongIter _ _ (lo + ((0 : Nat) : Int) * 1) ((((hi - lo).toNat : Nat) : Int) - ((0 : Nat) : Int)) 1
      rw [e1, e2]
      exact Heap.get?_push_size _ rfl
    · have e : b = (s.heap.push { cls := .type "range", data := .fields #[.int lo t, .int hi u, .int 1 v] }).objs.size := by simpa using hb
      subst e
      exact I1.fpOk (Nat.le_refl _) (I1.hok.fresh (Nat.le_refl _))
def iRng2A (ta : TA) : TI := fun σ H R => ta σ H fun vs H1 => ∃ i j : Int, vs = [.int i, .int j] ∧ R (Itr i (j - i).toNat) H1
theorem pi_range2A {a b : Expr} {ta : TA} {p pos : Pos} (hg : Gl X "range") (hm : X.mg "range" = none) (ha : PA X [a, b] ta) (hs : starEach [a, b] X.env = [(false, eval a X.env), (false, eval b X.env)]) (hs2 : starEach [b] X.env = [(false, eval b X.env)]) :
    PI X tg (.Call (.Name "range" p) [a, b] [] pos) (iRng2A ta) := by
  refine ⟨fun pins s σ H R I h => ?_⟩
  refine Call_ (ld_blt I hg hm boot_range (PyProof.Rows.callWith_type1 (thn (ha.run pos pins s σ H _ I h) fun us s1 ⟨vs, H1, I1, r1, q1⟩ => ?_) (by rw [hs, hs2]) (by rw [hs2]; rfl)))
  obtain ⟨i, j, e, q⟩ := q1
  subst e
  cases r1 with
  | cons r rr =>
    cases rr with
    | cons r' rr =>
      cases rr
      obtain ⟨t, rfl⟩ := r
      obtain ⟨t', rfl⟩ := r'
      exact call_range_2 (range_itA I1 q)
end
end PKS
namespace PySem
open Sem (wp)
open AutoSeq1 (wpAny_loadPart')
theorem meets_enumerate_newT9 (l : Addr) (items : Array Value) (n : Nat) (dct : Option Addr) (sl : Array (Option Value)) :
    Meets (Builtin.«enumerate.__new__» ⟨[.type "enumerate", .ref l], []⟩) (fun _ R s => s.heap.get? l = some { cls := .type "tuple", dict := dct, data := .seq items n, slots := sl } ∧
      R (.ok (.ret (.ref (s.heap.push { cls := .type "tuple_iterator", data := .fields #[.ref l, .int 0 0] }).objs.size)))
        { s with heap := (s.heap.push { cls := .type "tuple_iterator", data := .fields #[.ref l, .int 0 0] }).push { cls := .type "enumerate", data := .fields #[.none, .bool false, .ref s.heap.objs.size, rawInt 0, .none, .none] } }) :=
  .of_wp fun prog w A R s h => by
    obtain ⟨hp, g, d, tk, os⟩ := s; obtain ⟨hl, h⟩ := h
    have hsub := sub_enumerate
    have hL : Heap.IsTuple (Shared.heap ⟨hp, g, d, tk, os⟩) l items := ⟨_, hl, rfl, n, rfl⟩
    wp_walk using wpAny_loadPart' hl
    refine wpAny_stack_any fun st => wpAny_pure ?_
    split
    · rename_i c _ _ _ _ _
      cases (c == Value.type "enumerate")
      · wp_walk using wpAny_loadPart' hl, wpAny_pyIter_tuple hL
        exact ⟨_, rfl, h⟩
      · wp_walk using wpAny_loadPart' hl, wpAny_pyIter_tuple hL
        exact ⟨_, rfl, h⟩
    · wp_walk using wpAny_loadPart' hl, wpAny_pyIter_tuple hL
      exact ⟨_, rfl, h⟩
section
variable {prog : Program} {w : World} {A : Around} {E : Value → Shared → Prop} {s : Shared}
theorem call_enumerate_tuple9 {l : Addr} {items : Array Value} {Q : Value → Shared → Prop} (hL : s.heap.IsTuple l items)
    (h : ∀ h', IsEnum h' (s.heap.objs.size + 1) s.heap.objs.size 0 .none → h'.IsTupleIter s.heap.objs.size l 0 → h'.objs.size = s.heap.objs.size + 2 →
      (∀ b o, s.heap.get? b = some o → h'.get? b = some o) → Q (.ref (s.heap.objs.size + 1)) { s with heap := h' }) :
    wpAny (model prog w) A (call (.type "enumerate") [.ref l]) Q E s := by
  obtain ⟨⟨c, dct, dt, sl⟩, hl, hc, n, hd⟩ := hL
  replace hc : c = .type "tuple" := hc
  replace hd : dt = .seq items n := hd
  subst hc hd
  refine callType_new F.called_enumerate (by decide) (F.typeCall_enumerate_1 _) (F.newCall_enumerate_1 _) (fun obj => F.args_object_init_2 obj _) F.entry_enumerate_new
    (meets_enumerate_newT9 l items n dct sl) ⟨hl, ?_⟩
  have hz : (s.heap.push { cls := .type "tuple_iterator", data := .fields #[.ref l, .int 0 0] }).objs.size = s.heap.objs.size + 1 := Heap.size_push ..
  show _ ∧ _
  rw [hz]
  have he : IsEnum ((s.heap.push { cls := .type "tuple_iterator", data := .fields #[.ref l, .int 0 0] }).push
      { cls := .type "enumerate", data := .fields #[.none, .bool false, .ref s.heap.objs.size, rawInt 0, .none, .none] }) (s.heap.objs.size + 1) s.heap.objs.size 0 .none := by
    have := Heap.get?_push_size (s.heap.push { cls := .type "tuple_iterator", data := .fields #[.ref l, .int 0 0] })
      (o := { cls := .type "enumerate", data := .fields #[.none, .bool false, .ref s.heap.objs.size, rawInt 0, .none, .none] }) rfl
    rw [hz] at this; exact this
  refine ⟨⟨_, he, rfl⟩, h _ he ⟨_, Heap.get?_push_of_some _ (Heap.get?_push_size _ rfl), rfl, rfl⟩ (by rw [Heap.size_push, hz]) fun b o x => Heap.get?_push_of_some _ (Heap.get?_push_of_some _ x)⟩
theorem wpAny_pyNext_enumT_end9 {e it l : Addr} {i : Nat} {items : Array Value} {old : Value} {Q : Option Value → Shared → Prop} (hh : A.handled = none)
    (he : IsEnum s.heap e it i old) (hit : s.heap.IsTupleIter it l i) (hl : s.heap.IsTuple l items) (hx : items[i]? = none)
    (hQ : ∀ h', Heap.ExtBut it s.heap h' → Q none { s with heap := h' }) : wpAny (model prog w) A (pyNext (.ref e)) Q E s := by
  have hT : s.TypeIs (.ref e) "enumerate" := ⟨_, he, rfl⟩
  unfold pyNext
  refine wpAny_bind (wpAny_attempt (wpAny_callSpecial?_slot (name := Str.ofString "__next__") hT F.slot_enumerate_next
    (wpAny_call_entry F.slot_enumerate_next hT F.entry_enumerate_next ?_ (F.args_enumerate_next_1 _))))
  show wpAny _ _ (field (.ref e) 2 >>= _) _ _ _
  refine wpAny_bind (wpAny_field he rfl (x := .ref it) rfl ?_)
  refine wpAny_bind (wpAny_nextOf_tuple_end hh hit hl hx fun h' x he' hx' => ?_)
  obtain ⟨o, ho, hc⟩ := hx'
  refine wpAny_bind (wpAny_isInstance (T := "StopIteration") (b := true) ⟨o, ho, hc⟩ isSubtype_stop ?_)
  exact wpAny_pure (hQ _ he')
end
end PySem
namespace PKS
open PySem PySem.Spec PyProof.Rows L2
def IteT (K : PySem.W.Frag) (a : Addr) : It :=
  ⟨fun i H => ∃ (xs : List V) (x : V), SqT K H a xs ∧ xs[i]? = some x, fun i H v H' => ∃ T x, v = .ref T ∧ H T = none ∧ H' = upd H T (.tup [.int (i : Nat), x]) ∧ ∀ xs, SqT K H a xs → xs[i]? = some x, fun i H => ∃ xs : List V, SqT K H a xs ∧ xs.length ≤ i⟩
theorem turn_enumT {P : Program} {w : World} {K : PySem.W.Frag} {elts : List Expr} {kk : Nat} {tpos : Pos} (a e it : Addr) :
    Turn P w K (.Tuple elts kk tpos) (IteT K a) [e, it] e (fun i h => (∃ old, IsEnum h e it ((i : Nat) : Int) old) ∧ h.IsTupleIter it a i ∧ e ≠ it ∧ a ≠ it) where
  mem := by simp
  obj := fun i h st b hb => by
    obtain ⟨⟨old, he⟩, ⟨o, ho, hc, hd⟩, _⟩ := st
    have e' : b = e ∨ b = it := by simpa using hb
    rcases e' with z | z
    · rw [z]; exact ⟨_, he, fun v q => nomatch q⟩
    · rw [z]; exact ⟨o, ho, fun v q => by rw [hd] at q; cases q⟩
  keep := fun i h h' st k => let ⟨⟨old, he⟩, hi, hne⟩ := st; ⟨⟨old, k e (by simp) _ he⟩, hi.at fun o q => k it (by simp) o q, hne⟩
  item := by
    intro X hP hw hK hc i pins s σ H E I hf st hg
    subst hP hw hK
    obtain ⟨⟨old, he⟩, hit, hne, hna⟩ := st
    obtain ⟨xs, x, hq, hx⟩ := hg
    obtain ⟨its, rv, p, hz⟩ := I.tuple hq
    obtain ⟨u, hu, ru⟩ := rv.get hx
    have hel : e < s.heap.objs.size := Heap.lt_size he
    have hil : it < s.heap.objs.size := by obtain ⟨_, q, _⟩ := hit; exact Heap.lt_size q
    have D := Draws.tuple (prog := X.prog) (w := X.w) (A := X.A.in1) (I.ok.hd hc) it a hna its.toArray
    have hlt : i < its.toArray.size := by have := (List.getElem?_eq_some_iff.mp hu).1; simpa using this
    have hne2 : e ≠ a := fun z => by
      obtain ⟨o, ho, hcl, _⟩ := id p
      rw [← z, he] at ho
      cases ho
      have z2 : Value.type "enumerate" = Value.type "tuple" := hcl
      injection z2 with z3
      exact absurd z3 (by decide)
    refine wpAny_pyNext_enum_itemD D he ⟨hit, p⟩ hlt hne (by simp [hne, hne2]) fun u' h' tk hP ho hit' hT hsz hk => ?_
    have hP : its.toArray[i]? = some u' := hP
    obtain rfl : u' = u := by
      have : its[i]? = some u' := by simpa using hP
      rw [hu] at this; injection this with this; exact this.symm
    refine ⟨_, rfl, wpAny_letOwnedTupleGo_enum (s := { s with heap := h', toks := tk + 1 }) ho fun h'' he' sb => ?_⟩
    have hT2 : h''.get? s.heap.objs.size = some { cls := .type "tuple", data := .seq #[.int i tk, u'] } := (sb.2 _ (Nat.ne_of_gt hel)).trans hT
    have new : ObjOk X.prog X.w (upd H s.heap.objs.size (.tup [.int (i : Nat), x])) h'' s.heap.objs.size (.tup [.int (i : Nat), x]) :=
      ⟨by show 2 ≤ sizeLine; decide, [.int i tk, u'], .cons ⟨_, rfl⟩ (.cons ru .nil), ⟨_, hT2, rfl, _, rfl⟩⟩
    have I1 : Inv X pins σ (upd H s.heap.objs.size (.tup [.int (i : Nat), x])) { s with heap := h'', toks := tk + 1 } :=
      I.turnedNew (ch := [e, it]) (fun b ob hb q => (sb.2 b (fun z => hb (by simp [z]))).trans (hk b ob (fun z => hb (by simp [z])) (fun z => hb (by simp [z])) q)) hf (Nat.le_refl _) new
    refine ⟨.ref s.heap.objs.size, _, I1, rfl, ⟨_, x, rfl, I.hok.fresh (Nat.le_refl _), rfl, fun ys hy => by rw [I.tuple_inj hy hq]; exact hx⟩, ⟨⟨u', ?_⟩, hit'.1.at fun o q => (sb.2 it (Ne.symm hne)).trans q, hne, hna⟩, fun b hb => ?_⟩
    · have e1 : ((i + 1 : Nat) : Int) = (i : Int) + 1 := by omega
      rw [e1]; exact he'
    · have hb' : b < s.heap.objs.size := by
        have e' : b = e ∨ b = it := by simpa using hb
        rcases e' with z | z
        · rw [z]; exact hel
        · rw [z]; exact hil
      rw [upd_ne (Nat.ne_of_lt hb')]
      exact (hf b hb).1
  done := by
    intro X hP hw hK hc i pins s σ H E I hf st hg
    subst hP hw hK
    obtain ⟨⟨old, he⟩, hit, hne, hna⟩ := st
    obtain ⟨xs, hq, hx⟩ := hg
    obtain ⟨its, rv, p, hz⟩ := I.tuple hq
    obtain ⟨f0, f1, f2, f3, f4, f5⟩ := hf it (by simp)
    have hl := rv.length
    exact wpAny_pyNext_enumT_end9 (I.ok.hd hc) he hit (show s.heap.IsTuple a its.toArray from p) (by simp; omega) fun h' eb => ⟨rfl, I.turned (t' := s.toks) (fun b o hb q => eb b o hb q) f0 f1 f3 f4 f5⟩
  self := fun A i s Q E st h => let ⟨⟨_, he⟩, _⟩ := st; wpAny_pyIter_enum he h
def iEnumT (K : PySem.W.Frag) (ta : TA) : TI := fun σ H R => ta σ H fun vs H1 => ∃ a xs, vs = [.ref a] ∧ ((SqL K H1 a xs ∧ R (Ite K a) H1) ∨ (SqT K H1 a xs ∧ R (IteT K a) H1))
theorem pi_enumT {X : Cx} {e : Expr} {ta : TA} {p pos tpos : Pos} {elts : List Expr} {kk : Nat} (hg : Gl X "enumerate") (hm : X.mg "enumerate" = none) (ha : PA X [e] ta) (hs : starEach [e] X.env = [(false, eval e X.env)] := by rfl) :
    PI X (.Tuple elts kk tpos) (.Call (.Name "enumerate" p) [e] [] pos) (iEnumT X.K ta) := by
  refine ⟨fun pins s σ H R I h => ?_⟩
  refine Call_ (ld_blt I hg hm boot_enumerate (PyProof.Rows.callWith_type1 (thn (ha.run pos pins s σ H _ I h) fun us s1 ⟨vs, H1, I1, r1, q1⟩ => ?_) hs rfl))
  obtain ⟨a, xs, ex, q1⟩ := q1
  subst ex
  cases r1 with
  | cons r rr =>
    cases rr
    cases r
    have fp : ∀ b ∈ [s1.heap.objs.size + 1, s1.heap.objs.size], FpOk X pins H1 b := fun b hb => by
      have e' : b = s1.heap.objs.size + 1 ∨ b = s1.heap.objs.size := by simpa using hb
      have hle : s1.heap.objs.size ≤ b := by
        rcases e' with z | z
        · rw [z]; exact Nat.le_add_right _ _
        · rw [z]; exact Nat.le_refl _
      exact I1.fpOk hle (I1.hok.fresh hle)
    rcases q1 with ⟨hq, q⟩ | ⟨hq, q⟩
    · obtain ⟨its, rv, p', hz⟩ := I1.list hq
      refine call_enumerate_list p'.isList fun h' he hit hsz hk => wpAny_pyIter_enum he ?_
      have I2 : Inv X pins σ H1 { s1 with heap := h' } := I1.kept (t' := s1.toks) hk
      exact ⟨s1.heap.objs.size + 1, [s1.heap.objs.size + 1, s1.heap.objs.size], _, _, H1, rfl, I2, turn_enum a (s1.heap.objs.size + 1) s1.heap.objs.size, ⟨⟨.none, he⟩, hit, Nat.succ_ne_self _⟩, fp, q⟩
    · obtain ⟨its, rv, p', hz⟩ := I1.tuple hq
      have ht : s1.heap.IsTuple a its.toArray := p'
      obtain ⟨o1, ho1, _⟩ := id ht
      refine call_enumerate_tuple9 ht fun h' he hit hsz hk => wpAny_pyIter_enum he ?_
      have I2 : Inv X pins σ H1 { s1 with heap := h' } := I1.kept (t' := s1.toks) hk
      exact ⟨s1.heap.objs.size + 1, [s1.heap.objs.size + 1, s1.heap.objs.size], _, _, H1, rfl, I2, turn_enumT a (s1.heap.objs.size + 1) s1.heap.objs.size, ⟨⟨.none, he⟩, hit, Nat.succ_ne_self _, Nat.ne_of_lt (Heap.lt_size ho1)⟩, fp, q⟩
end PKS
namespace PKS
open PySem PySem.Spec PyProof.Rows L2 RZ
def Src (K : PySem.W.Frag) (lk : Lk) (J : It) (xs : List PK.D) (g : Option (Nat × PK.Cell)) (ρ0 : Nm) (n0 : Nat) (H0 : Hp) : Prop := ∀ ρ G H, Ext ρ0 n0 H0 ρ G.length H → Rel K lk ρ G H → PK.still G g = true →
  ∀ i, (∀ d, xs[i]? = some d → J.go i H ∧ ∀ x H', J.yld i H x H' → Ext ρ G.length H ρ G.length H' ∧ Rel K lk ρ G H' ∧ Rep K lk ρ G.length H' d x) ∧ (xs.length ≤ i → J.stop i H)
def OutI (K : PySem.W.Frag) (lk : Lk) (W : WX) (σ : L2.St) (ρ : Nm) (G : Cells) (H : Hp) (k : PK.Ik) (r : PK.R) (R : It → Hp → Prop) : Prop := match r with
  | .ok (.tup ds) G1 => ∃ xg, PK.itD k ds G1 = some xg ∧ ∀ J ρ1 H1, Ext ρ G.length H ρ1 G1.length H1 → Rel K lk ρ1 G1 H1 → (∀ A, H1 A = none → Src K (lk.add A) J xg.1 xg.2 ρ1 G1.length H1) → Src K lk J xg.1 xg.2 ρ1 G1.length H1 → R J H1
  | .exc c G1 => ∀ ρ1 H1, Ext ρ G.length H ρ1 G1.length H1 → Rel K lk ρ1 G1 H1 → W (.ref (lk.EA c)) none σ H1
  | _ => False
def liftI (K : PySem.W.Frag) (lk : Lk) (W : WX) (k : PK.Ik) (er : Ev) : TI := fun σ H R => ∃ ρ G s, Rel K lk ρ G H ∧ REnv K lk ρ G.length H s σ ∧ OutI K lk W σ ρ G H k (er s G) R
abbrev LI (X : Cx) (lk : Lk) (tg it : Expr) (k : PK.Ik) (er : Ev) : Prop := PI X tg it (liftI X.K lk (WXo X) k er)
section
variable {K : PySem.W.Frag} {lk : Lk} {ρ0 : Nm} {n0 : Nat} {H0 : Hp} {xs : List PK.D} {g : Option (Nat × PK.Cell)}
theorem src_list {a : Addr} (h : ∀ ρ G H, Ext ρ0 n0 H0 ρ G.length H → Rel K lk ρ G H → PK.still G g = true → ∃ vs, SqL K H a vs ∧ Reps K lk ρ G.length H xs vs) : Src K lk (Itl K a) xs g ρ0 n0 H0 := fun ρ G H e r st i => by
  obtain ⟨vs, h1, h2⟩ := h ρ G H e r st
  refine ⟨fun d q => ?_, fun hl => ⟨vs, h1, by rw [← h2.length]; exact hl⟩⟩
  obtain ⟨v, h3, h4⟩ := h2.get q
  refine ⟨⟨vs, v, h1, h3⟩, fun x H' ⟨e1, e2⟩ => ?_⟩
  subst e1
  have := e2 vs h1
  rw [h3] at this; cases this
  exact ⟨Ext.refl, r, h4⟩
theorem src_tup {a : Addr} (h : ∀ ρ G H, Ext ρ0 n0 H0 ρ G.length H → Rel K lk ρ G H → PK.still G g = true → ∃ vs, SqT K H a vs ∧ Reps K lk ρ G.length H xs vs) : Src K lk (Itt K a) xs g ρ0 n0 H0 := fun ρ G H e r st i => by
  obtain ⟨vs, h1, h2⟩ := h ρ G H e r st
  refine ⟨fun d q => ?_, fun hl => ⟨vs, h1, by rw [← h2.length]; exact hl⟩⟩
  obtain ⟨v, h3, h4⟩ := h2.get q
  refine ⟨⟨vs, v, h1, h3⟩, fun x H' ⟨e1, e2⟩ => ?_⟩
  subst e1
  have := e2 vs h1
  rw [h3] at this; cases this
  exact ⟨Ext.refl, r, h4⟩
theorem enum_get : ∀ {xs : List PK.D} {k : Int} {i : Nat}, (PK.enumD k xs)[i]? = (xs[i]?).map fun d => .tup [.int (k + i), d]
  | [], k, i => by simp [PK.enumD]
  | x :: xs, k, 0 => by simp [PK.enumD]
  | x :: xs, k, i + 1 => by
    show (PK.enumD (k + 1) xs)[i]? = _
    rw [enum_get]
    have : k + 1 + (i : Int) = k + ((i + 1 : Nat) : Int) := by omega
    rw [this]; rfl
theorem enum_len : ∀ {xs : List PK.D} {k : Int}, (PK.enumD k xs).length = xs.length
  | [], _ => rfl
  | x :: xs, k => by show (PK.enumD (k + 1) xs).length + 1 = _; rw [enum_len]; rfl
theorem src_enum {a : Addr} (h : ∀ ρ G H, Ext ρ0 n0 H0 ρ G.length H → Rel K lk ρ G H → PK.still G g = true → ∃ vs, SqL K H a vs ∧ Reps K lk ρ G.length H xs vs) : Src K lk (Ite K a) (PK.enumD 0 xs) g ρ0 n0 H0 := fun ρ G H e r st i => by
  obtain ⟨vs, h1, h2⟩ := h ρ G H e r st
  refine ⟨fun d q => ?_, fun hl => ⟨vs, h1, by rw [← h2.length]; rw [enum_len] at hl; exact hl⟩⟩
  rw [enum_get] at q
  cases q2 : xs[i]? with
  | none => rw [q2] at q; cases q
  | some d0 =>
    rw [q2] at q
    cases q
    obtain ⟨v, h3, h4⟩ := h2.get q2
    refine ⟨⟨vs, v, h1, h3⟩, fun x H' ⟨T, y, e1, e2, e3, e4⟩ => ?_⟩
    have := e4 vs h1
    rw [h3] at this; cases this
    subst e3
    have ex : Ext ρ G.length H ρ G.length (upd H T (.tup [.int (i : Nat), v])) := Ext.laid e2
    refine ⟨ex, r.other e2, T, _, e1, .inl upd_same, _, _, rfl, ?_, _, _, rfl, Rep.ext ex _ _ h4, rfl⟩
    show V.int _ = V.int _
    simp
theorem src_enumT {a : Addr} (h : ∀ ρ G H, Ext ρ0 n0 H0 ρ G.length H → Rel K lk ρ G H → PK.still G g = true → ∃ vs, SqT K H a vs ∧ Reps K lk ρ G.length H xs vs) : Src K lk (IteT K a) (PK.enumD 0 xs) g ρ0 n0 H0 := fun ρ G H e r st i => by
  obtain ⟨vs, h1, h2⟩ := h ρ G H e r st
  refine ⟨fun d q => ?_, fun hl => ⟨vs, h1, by rw [← h2.length]; rw [enum_len] at hl; exact hl⟩⟩
  rw [enum_get] at q
  cases q2 : xs[i]? with
  | none => rw [q2] at q; cases q
  | some d0 =>
    rw [q2] at q
    cases q
    obtain ⟨v, h3, h4⟩ := h2.get q2
    refine ⟨⟨vs, v, h1, h3⟩, fun x H' ⟨T, y, e1, e2, e3, e4⟩ => ?_⟩
    have := e4 vs h1
    rw [h3] at this; cases this
    subst e3
    have ex : Ext ρ G.length H ρ G.length (upd H T (.tup [.int (i : Nat), v])) := Ext.laid e2
    refine ⟨ex, r.other e2, T, _, e1, .inl upd_same, _, _, rfl, ?_, _, _, rfl, Rep.ext ex _ _ h4, rfl⟩
    show V.int _ = V.int _
    simp
theorem zip_get : ∀ {xs ys : List PK.D} {i : Nat} {d : PK.D}, (PK.zipD xs ys)[i]? = some d → ∃ a b, xs[i]? = some a ∧ ys[i]? = some b ∧ d = .tup [a, b]
  | [], ys, i, d, h => by simp [PK.zipD] at h
  | x :: xs, [], i, d, h => by simp [PK.zipD] at h
  | x :: xs, y :: ys, 0, d, h => by
    simp [PK.zipD] at h
    exact ⟨x, y, rfl, rfl, h.symm⟩
  | x :: xs, y :: ys, i + 1, d, h => by
    obtain ⟨a, b, h1, h2, h3⟩ := zip_get (xs := xs) (ys := ys) (i := i) h
    exact ⟨a, b, h1, h2, h3⟩
theorem zip_len : ∀ {xs ys : List PK.D} {i : Nat}, (PK.zipD xs ys).length ≤ i → xs.length ≤ i ∨ ys.length ≤ i
  | [], ys, i, h => .inl (Nat.zero_le _)
  | x :: xs, [], i, h => .inr (Nat.zero_le _)
  | x :: xs, y :: ys, 0, h => by simp [PK.zipD] at h
  | x :: xs, y :: ys, i + 1, h => by
    rcases zip_len (xs := xs) (ys := ys) (i := i) (by simpa [PK.zipD] using h) with z | z
    · exact .inl (by simpa using z)
    · exact .inr (by simpa using z)
theorem zip_item {ρ : Nm} {G : Cells} {H : Hp} {T : Addr} {x y : V} {a b : PK.D} (r : Rel K lk ρ G H) (e2 : H T = none) (h1 : Rep K lk ρ G.length H a x) (h2 : Rep K lk ρ G.length H b y) :
    Ext ρ G.length H ρ G.length (upd H T (.tup [x, y])) ∧ Rel K lk ρ G (upd H T (.tup [x, y])) ∧ Rep K lk ρ G.length (upd H T (.tup [x, y])) (.tup [a, b]) (.ref T) :=
  ⟨Ext.laid e2, r.other e2, T, _, rfl, .inl upd_same, _, _, rfl, Rep.ext (Ext.laid e2) _ _ h1, _, _, rfl, Rep.ext (Ext.laid e2) _ _ h2, rfl⟩
theorem src_zip {a b : Addr} {ys : List PK.D} (h : ∀ ρ G H, Ext ρ0 n0 H0 ρ G.length H → Rel K lk ρ G H → PK.still G g = true → ∃ vs, SqL K H a vs ∧ Reps K lk ρ G.length H xs vs) (h' : ∀ ρ G H, Ext ρ0 n0 H0 ρ G.length H → Rel K lk ρ G H → ∃ vs, SqL K H b vs ∧ Reps K lk ρ G.length H ys vs) :
    Src K lk (Itz K a b) (PK.zipD xs ys) g ρ0 n0 H0 := fun ρ G H e r st i => by
  obtain ⟨vs, h1, h2⟩ := h ρ G H e r st
  obtain ⟨us, h3, h4⟩ := h' ρ G H e r
  refine ⟨fun d q => ?_, fun hl => ⟨vs, us, h1, h3, by rw [← h2.length, ← h4.length]; exact zip_len hl⟩⟩
  obtain ⟨d1, d2, q1, q2, rfl⟩ := zip_get q
  obtain ⟨v, h5, h6⟩ := h2.get q1
  obtain ⟨u, h7, h8⟩ := h4.get q2
  refine ⟨⟨vs, us, v, u, h1, h3, h5, h7⟩, fun x H' ⟨T, x1, x2, e1, e2, e3, e4, e5⟩ => ?_⟩
  have t1 := e4 vs h1
  have t2 := e5 us h3
  rw [h5] at t1; cases t1
  rw [h7] at t2; cases t2
  rw [e3, e1]
  exact zip_item r e2 h6 h8
theorem src_zipT {a b : Addr} {ys : List PK.D} (h : ∀ ρ G H, Ext ρ0 n0 H0 ρ G.length H → Rel K lk ρ G H → ∃ vs, SqT K H a vs ∧ Reps K lk ρ G.length H xs vs) (h' : ∀ ρ G H, Ext ρ0 n0 H0 ρ G.length H → Rel K lk ρ G H → ∃ vs, SqT K H b vs ∧ Reps K lk ρ G.length H ys vs) :
    Src K lk (ItzT K a b) (PK.zipD xs ys) g ρ0 n0 H0 := fun ρ G H e r st i => by
  obtain ⟨vs, h1, h2⟩ := h ρ G H e r
  obtain ⟨us, h3, h4⟩ := h' ρ G H e r
  refine ⟨fun d q => ?_, fun hl => ⟨vs, us, h1, h3, by rw [← h2.length, ← h4.length]; exact zip_len hl⟩⟩
  obtain ⟨d1, d2, q1, q2, rfl⟩ := zip_get q
  obtain ⟨v, h5, h6⟩ := h2.get q1
  obtain ⟨u, h7, h8⟩ := h4.get q2
  refine ⟨⟨vs, us, v, u, h1, h3, h5, h7⟩, fun x H' ⟨T, x1, x2, e1, e2, e3, e4, e5⟩ => ?_⟩
  have t1 := e4 vs h1
  have t2 := e5 us h3
  rw [h5] at t1; cases t1
  rw [h7] at t2; cases t2
  rw [e3, e1]
  exact zip_item r e2 h6 h8
theorem range_get : ∀ {n : Nat} {lo : Int} {i : Nat}, (PK.rangeD lo n)[i]? = if i < n then some (.int (lo + i)) else none
  | 0, lo, i => by simp [PK.rangeD]
  | n + 1, lo, 0 => by simp [PK.rangeD]
  | n + 1, lo, i + 1 => by
    show (PK.rangeD (lo + 1) n)[i]? = _
    rw [range_get]
    have : lo + 1 + (i : Int) = lo + ((i + 1 : Nat) : Int) := by omega
    rw [this]
    by_cases c : i < n
    · rw [if_pos c, if_pos (by omega)]
    · rw [if_neg c, if_neg (by omega)]
theorem range_len : ∀ {n : Nat} {lo : Int}, (PK.rangeD lo n).length = n
  | 0, _ => rfl
  | n + 1, lo => by show (PK.rangeD (lo + 1) n).length + 1 = _; rw [range_len]
theorem src_range {lo : Int} {n : Nat} : Src K lk (Itr lo n) (PK.rangeD lo n) g ρ0 n0 H0 := fun ρ G H e r st i => by
  refine ⟨fun d q => ?_, fun hl => by rw [range_len] at hl; exact hl⟩
  rw [range_get] at q
  split at q
  · rename_i c
    cases q
    refine ⟨c, fun x H' ⟨e1, e2⟩ => ?_⟩
    subst e1
    exact ⟨Ext.refl, r, e2⟩
  · cases q
theorem down_get : ∀ {n : Nat} {hi : Int} {i : Nat}, (PK.downD hi n)[i]? = if i < n then some (.int (hi + (i : Int) * (-1))) else none
  | 0, hi, i => by simp [PK.downD]
  | n + 1, hi, 0 => by simp [PK.downD]
  | n + 1, hi, i + 1 => by
    show (PK.downD (hi - 1) n)[i]? = _
    rw [down_get]
    have : hi - 1 + (i : Int) * (-1) = hi + ((i + 1 : Nat) : Int) * (-1) := by omega
    rw [this]
    by_cases c : i < n
    · rw [if_pos c, if_pos (by omega)]
    · rw [if_neg c, if_neg (by omega)]
theorem down_len : ∀ {n : Nat} {hi : Int}, (PK.downD hi n).length = n
  | 0, _ => rfl
  | n + 1, hi => by show (PK.downD (hi - 1) n).length + 1 = _; rw [down_len]
theorem src_down {hi : Int} {n : Nat} : Src K lk (Itc hi (-1) n) (PK.downD hi n) g ρ0 n0 H0 := fun ρ G H e r st i => by
  refine ⟨fun d q => ?_, fun hl => by rw [down_len] at hl; exact hl⟩
  rw [down_get] at q
  split at q
  · rename_i c
    cases q
    refine ⟨c, fun x H' ⟨e1, e2⟩ => ?_⟩
    subst e1
    exact ⟨Ext.refl, r, e2⟩
  · cases q
theorem src_str {z : Str} : Src K lk (Its z) (PK.signs z) g ρ0 n0 H0 := fun ρ G H e r st i => by
  have hl : (PK.signs z).length = z.cps.size := by unfold PK.signs; rw [List.length_map]; rfl
  refine ⟨fun d q => ?_, fun h => by rw [hl] at h; exact h⟩
  have hi : i < z.cps.size := by rw [← hl]; exact (List.getElem?_eq_some_iff.mp q).1
  refine ⟨hi, fun x H' ⟨e1, c, e2, e3⟩ => ?_⟩
  subst e1
  unfold PK.signs at q
  rw [List.getElem?_map, Array.getElem?_toList, e2] at q
  cases q
  exact ⟨Ext.refl, r, e3⟩
end
section
variable {X : Cx} {lk : Lk} {tg e e2 : Expr} {es elts : List Expr} {ev ev2 er : Ev} {pos p tpos : Pos} {kk : Nat}
theorem itv_out {K : PySem.W.Frag} {W : WX} {σ : L2.St} {ρ : Nm} {G : Cells} {H : Hp} {r : PK.R} {v : PK.D} {G1 : Cells} {Q : VK} (q : r = .ok v G1) (h : ∀ ρ1 H1 x, Ext ρ G.length H ρ1 G1.length H1 → Rel K lk ρ1 G1 H1 → Rep K lk ρ1 G1.length H1 v x → Q x H1) : OutE K lk W σ ρ G H r Q := by
  rw [q]; exact h
theorem seq_later {K : PySem.W.Frag} {lk : Lk} {v : PK.D} {a : Addr} {ds : List PK.D} {ρ0 : Nm} {n0 : Nat} {H0 : Hp} {g : Option (Nat × PK.Cell)} (hs : ∀ G, PK.still G g = true → PK.seqD G v = some ds) (nt : ∀ es, v ≠ .tup es) (p : Rep K lk ρ0 n0 H0 v (.ref a)) :
    ∀ ρ G H, Ext ρ0 n0 H0 ρ G.length H → Rel K lk ρ G H → PK.still G g = true → ∃ vs, SqL K H a vs ∧ Reps K lk ρ G.length H ds vs := fun ρ G H e r st => by
  obtain ⟨a', vs, h1, _, h3, h4, _⟩ := seq_of (hs G st) r (Rep.ext e _ _ p)
  cases h1
  exact ⟨vs, h4 nt, h3⟩
theorem seq_laterT {K : PySem.W.Frag} {lk : Lk} {a : Addr} {ds : List PK.D} {ρ0 : Nm} {n0 : Nat} {H0 : Hp} {g : Option (Nat × PK.Cell)} (p : Rep K lk ρ0 n0 H0 (.tup ds) (.ref a)) :
    ∀ ρ G H, Ext ρ0 n0 H0 ρ G.length H → Rel K lk ρ G H → PK.still G g = true → ∃ vs, SqT K H a vs ∧ Reps K lk ρ G.length H ds vs := fun ρ G H e r st => by
  obtain ⟨a', vs, h1, h2, h3⟩ := Rep.ext e _ _ p
  cases h1
  exact ⟨vs, h2.sq, h3⟩
theorem li_val (he : LE X lk e ev) : LI X lk tg e .val (fun s G => (ev s G).bind fun x G1 => .ok (.tup [x]) G1) := by
  refine ⟨fun pins s' σ H R I ⟨ρ, G, s, r, en, h⟩ => ?_⟩
  dsimp only at h
  cases q : ev s G with
  | bad => rw [q] at h; exact False.elim h
  | exc c G1 => rw [q] at h; exact (pi_list (tg := tg) he).run pins s' σ H R I ⟨ρ, G, s, r, en, by rw [q]; exact h⟩
  | ok v G1 =>
    rw [q] at h
    obtain ⟨⟨xs, g⟩, e1, h⟩ := h
    have goL : ∀ ds, (∀ es, v ≠ .tup es) → (∀ z, v ≠ .str z) → xs = ds → (∀ G, PK.still G g = true → PK.seqD G v = some ds) → PK.still G1 g = true → wpAny (model X.prog X.w) X.A (eval e X.env) (fun v s1 => wpAny (model X.prog X.w) X.A (pyIter v) (PIE X pins σ tg R) X.xe s1) X.xe s' := fun ds nt ns ex hs st =>
      (pi_list (tg := tg) he).run pins s' σ H R I ⟨ρ, G, s, r, en, itv_out q fun ρ1 H1 x e1 r1 p1 => by
        obtain ⟨a, vs, h1, _, h3, h4, _⟩ := seq_of (hs G1 st) r1 p1
        subst h1
        subst ex
        exact ⟨a, rfl, ⟨vs, h4 nt⟩, h _ ρ1 H1 e1 r1 (fun A hA => src_list (seq_later hs nt (Rep.add hA _ _ p1))) (src_list (seq_later hs nt p1))⟩⟩
    cases v with
    | str z =>
      cases e1
      exact (pi_str (tg := tg) he).run pins s' σ H R I ⟨ρ, G, s, r, en, itv_out q fun ρ1 H1 x e1 r1 p1 => ⟨z, p1, h _ ρ1 H1 e1 r1 (fun A hA => src_str) src_str⟩⟩
    | tup ds =>
      cases e1
      exact (pi_tup (tg := tg) he).run pins s' σ H R I ⟨ρ, G, s, r, en, itv_out q fun ρ1 H1 x e1 r1 p1 => by
        have p2 := p1
        obtain ⟨a, vs, h1, h2, h3⟩ := p1
        subst h1
        exact ⟨a, rfl, ⟨vs, h2.sq⟩, h _ ρ1 H1 e1 r1 (fun A hA => src_tup (seq_laterT (Rep.add hA _ _ p2))) (src_tup (seq_laterT p2))⟩⟩
    | lst ds => cases e1; exact goL _ (fun _ z => by cases z) (fun _ z => by cases z) rfl (fun _ _ => rfl) rfl
    | fz ds => cases e1; exact goL _ (fun _ z => by cases z) (fun _ z => by cases z) rfl (fun _ _ => rfl) rfl
    | ref i =>
      have e1 : (match G1[i]? with | some (.lst ds) => some (ds, some (i, PK.Cell.lst ds)) | _ => none) = some (xs, g) := e1
      cases q2 : G1[i]? with
      | none => rw [q2] at e1; cases e1
      | some c =>
        cases c with
        | lst ds =>
          rw [q2] at e1
          cases e1
          refine goL xs (fun _ z => by cases z) (fun _ z => by cases z) rfl (fun G st => ?_) (decide_eq_true q2)
          have : G[i]? = some (.lst xs) := of_decide_eq_true st
          show (match G[i]? with | some (.lst ds) => some ds | _ => none) = some xs
          rw [this]
        | _ => rw [q2] at e1; cases e1
    | _ => cases e1
theorem OutI.bind {K : PySem.W.Frag} {W : WX} {σ : L2.St} {ρ : Nm} {G : Cells} {H : Hp} {k : PK.Ik} {r : PK.R} {R : It → Hp → Prop} {Q : List V → Hp → Prop} (h : OutI K lk W σ ρ G H k r R)
    (f : ∀ ds G1 xg, PK.itD k ds G1 = some xg → ∀ ρ1 H1 xs, Ext ρ G.length H ρ1 G1.length H1 → Rel K lk ρ1 G1 H1 → Reps K lk ρ1 G1.length H1 ds xs → (∀ J, (∀ A, H1 A = none → Src K (lk.add A) J xg.1 xg.2 ρ1 G1.length H1) → Src K lk J xg.1 xg.2 ρ1 G1.length H1 → R J H1) → Q xs H1) : OutA K lk W σ ρ G H r Q := by
  cases r with
  | ok v G1 =>
    intro ρ1 H1 xs e1 r1 ⟨ds, hv, p1⟩
    subst hv
    obtain ⟨xg, e2, h⟩ := h
    exact f ds G1 xg e2 ρ1 H1 xs e1 r1 p1 fun J s1 s2 => h J ρ1 H1 e1 r1 s1 s2
  | exc c G1 => exact h
  | bad => exact h
theorem li_range1 (hg : Gl X "range") (hm : X.mg "range" = none) (ha : LA X lk [e] er) (hs : starEach [e] X.env = [(false, eval e X.env)]) : LI X lk tg (.Call (.Name "range" p) [e] [] pos) .range1 er := by
  refine ⟨fun pins s' σ H R I ⟨ρ, G, s, r, en, h⟩ => (pi_range1 hg hm ha hs).run pins s' σ H R I ⟨ρ, G, s, r, en, OutI.bind h fun ds G1 xg e1 ρ1 H1 xs ex r1 p1 hR => ?_⟩⟩
  match ds, e1, p1 with
  | [], e1, _ => cases e1
  | d1 :: _ :: _, e1, _ => cases d1 <;> cases e1
  | [d], e1, p1 =>
    cases d with
    | int n =>
      have e1 : (if decide (-(2 ^ 62) ≤ n ∧ n < 2 ^ 62) then some (PK.rangeD 0 n.toNat, none) else none) = some xg := e1
      split at e1
      · rename_i c
        cases e1
        obtain ⟨c1, c2⟩ := of_decide_eq_true c
        obtain ⟨x, rfl, px⟩ := p1.one_of
        exact ⟨n, by rw [show x = V.int n from px], c1, c2, hR _ (fun A hA => src_range) src_range⟩
      · cases e1
    | _ => cases e1
theorem li_range2 (hg : Gl X "range") (hm : X.mg "range" = none) (ha : LA X lk [e, e2] er) (hs : starEach [e, e2] X.env = [(false, eval e X.env), (false, eval e2 X.env)]) (hs2 : starEach [e2] X.env = [(false, eval e2 X.env)]) : LI X lk tg (.Call (.Name "range" p) [e, e2] [] pos) .range2 er := by
  refine ⟨fun pins s' σ H R I ⟨ρ, G, s, r, en, h⟩ => (pi_range2A hg hm ha hs hs2).run pins s' σ H R I ⟨ρ, G, s, r, en, OutI.bind h fun ds G1 xg e1 ρ1 H1 xs ex r1 p1 hR => ?_⟩⟩
  match ds, e1, p1 with
  | [], e1, _ => cases e1
  | [d], e1, _ => cases d <;> cases e1
  | d :: d' :: _ :: _, e1, _ => cases d <;> first | cases e1 | (cases d' <;> cases e1)
  | [d, d'], e1, p1 =>
    cases d with
    | int a =>
      cases d' with
      | int b =>
        have e1 : (if decide (-(2 ^ 62) ≤ a ∧ a < 2 ^ 62 ∧ -(2 ^ 62) ≤ b ∧ b < 2 ^ 62) then some (PK.rangeD a (b - a).toNat, none) else some (PK.rangeD a (b - a).toNat, none)) = some xg := e1
        have e1 : some (PK.rangeD a (b - a).toNat, none) = some xg := by
          split at e1 <;> exact e1
        cases e1
        obtain ⟨x, y, rfl, px, py⟩ := p1.two_of
        exact ⟨a, b, by rw [show x = V.int a from px, show y = V.int b from py], hR _ (fun A hA => src_range) src_range⟩
      | _ => cases e1
    | _ => cases e1
theorem li_range3 {e3 : Expr} (hg : Gl X "range") (hm : X.mg "range" = none) (ha : LA X lk [e, e2, e3] er) (hs : starEach [e, e2, e3] X.env = (false, eval e X.env) :: starEach [e2, e3] X.env) (hpl : (backTo pos (starEach [e2, e3] X.env)).any (·.1) = false) : LI X lk tg (.Call (.Name "range" p) [e, e2, e3] [] pos) .range3 er := by
  refine ⟨fun pins s' σ H R I ⟨ρ, G, s, r, en, h⟩ => (pi_range3 hg hm ha hs hpl).run pins s' σ H R I ⟨ρ, G, s, r, en, OutI.bind h fun ds G1 xg e1 ρ1 H1 xs ex r1 p1 hR => ?_⟩⟩
  match ds, e1, p1 with
  | [], e1, _ => cases e1
  | [d], e1, _ => cases d <;> cases e1
  | [d, d'], e1, _ => cases d <;> first | cases e1 | (cases d' <;> cases e1)
  | d :: d' :: d'' :: _ :: _, e1, _ => cases d <;> first | cases e1 | (cases d' <;> first | cases e1 | (cases d'' <;> cases e1))
  | [d, d', d''], e1, p1 =>
    cases d with
    | int a =>
      cases d' with
      | int b =>
        cases d'' with
        | int c =>
          have e1 : (if decide (-(2 ^ 62) ≤ a ∧ a < 2 ^ 62 ∧ -(2 ^ 62) ≤ b ∧ b < 2 ^ 62 ∧ c = -1) then some (PK.downD a (a - b).toNat, none) else none) = some xg := e1
          split at e1
          · rename_i k
            cases e1
            obtain ⟨k1, k2, k3, k4, rfl⟩ := of_decide_eq_true k
            obtain ⟨x, xs', h1, px, p2⟩ := p1
            subst h1
            obtain ⟨y, z, rfl, py, pz⟩ := Reps.two_of p2
            exact ⟨a, b, -1, _, by rw [show x = V.int a from px, show y = V.int b from py, show z = V.int (-1) from pz], RgC.neg (by omega) (by omega) (by omega) (by omega), hR _ (fun A hA => src_down) src_down⟩
          · cases e1
        | _ => cases e1
      | _ => cases e1
    | _ => cases e1
theorem li_enum (hg : Gl X "enumerate") (hm : X.mg "enumerate" = none) (ha : LA X lk [e] er) (hs : starEach [e] X.env = [(false, eval e X.env)]) : LI X lk (.Tuple elts kk tpos) (.Call (.Name "enumerate" p) [e] [] pos) .enum er := by
  refine ⟨fun pins s' σ H R I ⟨ρ, G, s, r, en, h⟩ => (pi_enumT hg hm ha hs).run pins s' σ H R I ⟨ρ, G, s, r, en, OutI.bind h fun ds G1 xg e1 ρ1 H1 xs ex r1 p1 hR => ?_⟩⟩
  match ds, e1, p1 with
  | [], e1, _ => cases e1
  | _ :: _ :: _, e1, _ => cases e1
  | [d], e1, p1 =>
    obtain ⟨x, rfl, px⟩ := p1.one_of
    obtain ⟨zs, g⟩ := xg
    have goL : ∀ es, (∀ us, d ≠ .tup us) → zs = PK.enumD 0 es → (∀ G, PK.still G g = true → PK.seqD G d = some es) → PK.still G1 g = true → ∃ a xs, [x] = [V.ref a] ∧ ((SqL X.K H1 a xs ∧ R (Ite X.K a) H1) ∨ (SqT X.K H1 a xs ∧ R (IteT X.K a) H1)) := fun es nt ez hs st => by
      obtain ⟨a, vs, h1, _, h3, h4, _⟩ := seq_of (hs G1 st) r1 px
      subst h1
      subst ez
      exact ⟨a, vs, rfl, .inl ⟨h4 nt, hR _ (fun A hA => src_enum (seq_later hs nt (Rep.add hA _ _ px))) (src_enum (seq_later hs nt px))⟩⟩
    cases d with
    | tup ds =>
      cases e1
      have p2 := px
      obtain ⟨a, vs, h1, h2, h3⟩ := px
      subst h1
      exact ⟨a, vs, rfl, .inr ⟨h2.sq, hR _ (fun A hA => src_enumT (seq_laterT (Rep.add hA _ _ p2))) (src_enumT (seq_laterT p2))⟩⟩
    | lst ds => cases e1; exact goL _ (fun _ z => by cases z) rfl (fun _ _ => rfl) rfl
    | fz ds => cases e1; exact goL _ (fun _ z => by cases z) rfl (fun _ _ => rfl) rfl
    | ref i =>
      have e1 : (match G1[i]? with | some (.lst ds) => some (PK.enumD 0 ds, some (i, PK.Cell.lst ds)) | _ => none) = some (zs, g) := e1
      cases q2 : G1[i]? with
      | none => rw [q2] at e1; cases e1
      | some c =>
        cases c with
        | lst ds =>
          rw [q2] at e1
          cases e1
          refine goL ds (fun _ z => by cases z) rfl (fun G st => ?_) (decide_eq_true q2)
          have : G[i]? = some (.lst ds) := of_decide_eq_true st
          show (match G[i]? with | some (.lst ds) => some ds | _ => none) = some ds
          rw [this]
        | _ => rw [q2] at e1; cases e1
    | _ => cases e1
theorem src_rev {K : PySem.W.Frag} {ρ0 : Nm} {n0 : Nat} {H0 : Hp} {zs : List PK.D} {g : Option (Nat × PK.Cell)} {a : Addr} (h : ∀ ρ G H, Ext ρ0 n0 H0 ρ G.length H → Rel K lk ρ G H → PK.still G g = true → ∃ vs, SqL K H a vs ∧ Reps K lk ρ G.length H zs vs) : Src K lk (Itv K a zs.length) zs.reverse g ρ0 n0 H0 := fun ρ G H e r st i => by
  obtain ⟨vs, h1, h2⟩ := h ρ G H e r st
  refine ⟨fun d q => ?_, fun hl => by rw [List.length_reverse] at hl; exact hl⟩
  have hi : i < zs.length := by have := (List.getElem?_eq_some_iff.mp q).1; rwa [List.length_reverse] at this
  rw [List.getElem?_reverse hi] at q
  obtain ⟨v, h3, h4⟩ := h2.get q
  refine ⟨⟨hi, vs, v, h1, h3⟩, fun x H' ⟨e1, e2⟩ => ?_⟩
  subst e1
  have := e2 vs h1
  rw [h3] at this; cases this
  exact ⟨Ext.refl, r, h4⟩
theorem li_rev (hg : Gl X "reversed") (hm : X.mg "reversed" = none) (ha : LA X lk [e] er) (hs : starEach [e] X.env = [(false, eval e X.env)]) : LI X lk tg (.Call (.Name "reversed" p) [e] [] pos) .rev er := by
  refine ⟨fun pins s' σ H R I ⟨ρ, G, s, r, en, h⟩ => (pi_reversed hg hm ha hs).run pins s' σ H R I ⟨ρ, G, s, r, en, OutI.bind h fun ds G1 xg e1 ρ1 H1 xs ex r1 p1 hR => ?_⟩⟩
  match ds, e1, p1 with
  | [], e1, _ => cases e1
  | _ :: _ :: _, e1, _ => cases e1
  | [d], e1, p1 =>
    obtain ⟨x, rfl, px⟩ := p1.one_of
    obtain ⟨zs, g⟩ := xg
    have goL : ∀ es, (∀ us, d ≠ .tup us) → zs = es.reverse → (∀ G, PK.still G g = true → PK.seqD G d = some es) → PK.still G1 g = true → ∃ (a : Addr) (xs : List V), [x] = [V.ref a] ∧ SqL X.K H1 a xs ∧ R (Itv X.K a xs.length) H1 := fun es nt ez hs st => by
      obtain ⟨a, vs, h1, _, h3, h4, _⟩ := seq_of (hs G1 st) r1 px
      subst h1
      subst ez
      refine ⟨a, vs, rfl, h4 nt, ?_⟩
      rw [← h3.length]
      exact hR _ (fun A hA => src_rev (seq_later hs nt (Rep.add hA _ _ px))) (src_rev (seq_later hs nt px))
    cases d with
    | tup ds => cases e1
    | lst ds => cases e1; exact goL _ (fun _ z => by cases z) rfl (fun _ _ => rfl) rfl
    | fz ds => cases e1; exact goL _ (fun _ z => by cases z) rfl (fun _ _ => rfl) rfl
    | ref i =>
      have e1 : (match G1[i]? with | some (.lst ds) => some (ds.reverse, some (i, PK.Cell.lst ds)) | _ => none) = some (zs, g) := e1
      cases q2 : G1[i]? with
      | none => rw [q2] at e1; cases e1
      | some c =>
        cases c with
        | lst ds =>
          rw [q2] at e1
          cases e1
          refine goL ds (fun _ z => by cases z) rfl (fun G st => ?_) (decide_eq_true q2)
          have : G[i]? = some (.lst ds) := of_decide_eq_true st
          show (match G[i]? with | some (.lst ds) => some ds | _ => none) = some ds
          rw [this]
        | _ => rw [q2] at e1; cases e1
    | _ => cases e1
theorem fixed_of {v : PK.D} {t : Bool} {ds : List PK.D} (h : PK.fixedS v = some (t, ds)) : (t = true ∧ v = .tup ds) ∨ (t = false ∧ (∀ es, v ≠ .tup es) ∧ ∀ G, PK.seqD G v = some ds) := by
  cases v with
  | tup es => cases h; exact .inl ⟨rfl, rfl⟩
  | lst es => cases h; exact .inr ⟨rfl, (fun _ z => by cases z), fun _ => rfl⟩
  | fz es => cases h; exact .inr ⟨rfl, (fun _ z => by cases z), fun _ => rfl⟩
  | _ => cases h
theorem li_zip (hg : Gl X "zip") (hm : X.mg "zip" = none) (ha : LA X lk [e, e2] er) (hs : starEach [e, e2] X.env = (false, eval e X.env) :: starEach [e2] X.env) (hpl : (backTo pos (starEach [e2] X.env)).any (·.1) = false) :
    LI X lk (.Tuple elts kk tpos) (.Call (.Name "zip" p) [e, e2] [] pos) .zip er := by
  refine ⟨fun pins s' σ H R I ⟨ρ, G, s, r, en, h⟩ => (pi_zipA hg hm ha hs hpl).run pins s' σ H R I ⟨ρ, G, s, r, en, OutI.bind h fun ds G1 xg e1 ρ1 H1 xs ex r1 p1 hR => ?_⟩⟩
  match ds, e1, p1 with
  | [], e1, _ => cases e1
  | [d], e1, _ => cases e1
  | _ :: _ :: _ :: _, e1, _ => cases e1
  | [d, d'], e1, p1 =>
    obtain ⟨x, y, rfl, px, py⟩ := p1.two_of
    have e1 : PK.itD .zip [d, d'] G1 = some xg := e1
    unfold PK.itD at e1
    dsimp only at e1
    cases q1 : PK.fixedS d with
    | none =>
      rw [q1] at e1
      cases q2 : PK.fixedS d' with
      | none => rw [q2] at e1; cases e1
      | some ub =>
        rw [q2] at e1
        obtain ⟨u, b⟩ := ub
        cases u with
        | true => cases e1
        | false =>
          rcases fixed_of q2 with ⟨z, _⟩ | ⟨_, n2, s2⟩
          · cases z
          · cases d with
            | ref i =>
              have e1 : (match G1[i]? with | some (.lst a) => some (PK.zipD a b, some (i, PK.Cell.lst a)) | _ => none) = some xg := e1
              cases q3 : G1[i]? with
              | none => rw [q3] at e1; cases e1
              | some c =>
                cases c with
                | lst a =>
                  rw [q3] at e1
                  cases e1
                  have s1 : ∀ G, PK.still G (some (i, PK.Cell.lst a)) = true → PK.seqD G (.ref i) = some a := fun G st => by
                    have : G[i]? = some (.lst a) := of_decide_eq_true st
                    show (match G[i]? with | some (.lst ds) => some ds | _ => none) = some a
                    rw [this]
                  have n1 : ∀ es, PK.D.ref i ≠ .tup es := fun _ z => by cases z
                  obtain ⟨A, vs, hx, _, h3, h4, _⟩ := seq_of (s1 G1 (decide_eq_true q3)) r1 px
                  obtain ⟨B, us, hy, _, h5, h6, _⟩ := seq_of (s2 G1) r1 py
                  subst hx
                  subst hy
                  exact ⟨A, B, vs, us, rfl, .inl ⟨h4 n1, h6 n2, hR _ (fun Z hZ => src_zip (seq_later s1 n1 (Rep.add hZ _ _ px)) (fun ρ G H e r => seq_later (g := none) (fun G _ => s2 G) n2 (Rep.add hZ _ _ py) ρ G H e r rfl))
                    (src_zip (seq_later s1 n1 px) (fun ρ G H e r => seq_later (g := none) (fun G _ => s2 G) n2 py ρ G H e r rfl))⟩⟩
                | _ => rw [q3] at e1; cases e1
            | _ => cases e1
    | some ta =>
      cases q2 : PK.fixedS d' with
      | none => rw [q1, q2] at e1; cases e1
      | some ub =>
        obtain ⟨t, a⟩ := ta
        obtain ⟨u, b⟩ := ub
        rw [q1, q2] at e1
        simp only at e1
        split at e1
        · rename_i c
          subst c
          cases e1
          rcases fixed_of q1 with ⟨rfl, rfl⟩ | ⟨rfl, n1, s1⟩
          · rcases fixed_of q2 with ⟨_, rfl⟩ | ⟨z, _⟩
            · have px2 := px
              have py2 := py
              obtain ⟨A, vs, hx, h2, h3⟩ := px
              obtain ⟨B, us, hy, h4, h5⟩ := py
              subst hx
              subst hy
              exact ⟨A, B, vs, us, rfl, .inr ⟨h2.sq, h4.sq, hR _ (fun Z hZ => src_zipT (fun ρ G H e r => seq_laterT (g := none) (Rep.add hZ _ _ px2) ρ G H e r rfl) (fun ρ G H e r => seq_laterT (g := none) (Rep.add hZ _ _ py2) ρ G H e r rfl))
                (src_zipT (fun ρ G H e r => seq_laterT (g := none) px2 ρ G H e r rfl) (fun ρ G H e r => seq_laterT (g := none) py2 ρ G H e r rfl))⟩⟩
            · cases z
          · rcases fixed_of q2 with ⟨z, _⟩ | ⟨_, n2, s2⟩
            · cases z
            · obtain ⟨A, vs, hx, _, h3, h4, _⟩ := seq_of (s1 G1) r1 px
              obtain ⟨B, us, hy, _, h5, h6, _⟩ := seq_of (s2 G1) r1 py
              subst hx
              subst hy
              exact ⟨A, B, vs, us, rfl, .inl ⟨h4 n1, h6 n2, hR _ (fun Z hZ => src_zip (fun ρ G H e r _ => seq_later (g := none) (fun G _ => s1 G) n1 (Rep.add hZ _ _ px) ρ G H e r rfl) (fun ρ G H e r => seq_later (g := none) (fun G _ => s2 G) n2 (Rep.add hZ _ _ py) ρ G H e r rfl))
                (src_zip (fun ρ G H e r _ => seq_later (g := none) (fun G _ => s1 G) n1 px ρ G H e r rfl) (fun ρ G H e r => seq_later (g := none) (fun G _ => s2 G) n2 py ρ G H e r rfl))⟩⟩
        · cases e1
end
end PKS
namespace PKS
open PySem PySem.Spec PyProof.Rows L2
section
variable {K : PySem.W.Frag} {lk : Lk} {W : WX} {ρ : Nm} {G : Cells} {H : Hp} {D : Ends} {N : L2.St → Hp → Prop}
theorem OutS.turn {r : PK.O} {f : PK.Env → Cells → PK.O} (h : OutS K lk W ρ G H D (r.turn f)) (k : ∀ s G' ρ' H' σ', Ext ρ G.length H ρ' G'.length H' → Rel K lk ρ' G' H' → REnv K lk ρ' G'.length H' s σ' → OutS K lk W ρ' G' H' D (f s G') → N σ' H') :
    OutS K lk W ρ G H { D with nx := N, ct := N, bk := D.nx } r := by
  cases r with
  | nx s G' => exact fun ρ' H' σ' e' r' p' => k s G' ρ' H' σ' e' r' p' (OutS.ext e' h)
  | cnt s G' => exact fun ρ' H' σ' e' r' p' => k s G' ρ' H' σ' e' r' p' (OutS.ext e' h)
  | brk s G' => exact h
  | ret v G' => exact h
  | exc c s G' => exact h
  | bad => exact h
end
section
variable {X : Cx} {lk : Lk} {c tg iter elt : Expr} {body : List Stmt} {ec er eb : Ev} {exb : Ex} {pos : Pos} {k : PK.Ik} {pt : List Nat} {one : Bool}
theorem drop_get {α : Type} {l l' : List α} {x : α} {i : Nat} (h : l.drop i = x :: l') : l[i]? = some x ∧ l.drop (i + 1) = l' ∧ i < l.length := by
  have hi : i < l.length := by
    rcases Nat.lt_or_ge i l.length with c | c
    · exact c
    · rw [List.drop_of_length_le c] at h; cases h
  rw [List.drop_eq_getElem_cons hi] at h
  cases h
  exact ⟨by simp [hi], rfl, hi⟩
theorem ls_for (hp : PassesOwn (model X.prog X.w) X.A X.env X.xe) (hc : X.calm = true) (hN : X.N.Nodup) (hi : LI X lk tg iter k er) (hg : Pat X tg pt one) (hb : LSs X lk body exb) (hs : ∀ x, foldedSetIterable iter X.env x = pure x) :
    LS X lk (.For tg iter body [] pos) (fun s G => PK.R.st s (er s G) fun x G1 => PK.tupK x (fun ds => PK.optK (PK.itD k ds G1) (fun xg => PK.forF pt one exb xg.2 xg.1 s G1) .bad) .bad) :=
  ps_imp (ps_for hp hc hi (pg_pat hc hN hg) hb hs) fun D σ H ⟨ρ, G, s, r, en, h⟩ => ⟨ρ, G, s, r, en, by
    dsimp only at h
    cases q : er s G with
    | bad => rw [q] at h; exact False.elim h
    | exc c G1 => rw [q] at h; exact fun ρ1 H1 e1 r1 => h ρ1 H1 σ e1 r1 (en.ext e1)
    | ok v G1 =>
      rw [q] at h
      cases v with
      | tup ds =>
        have h : OutS X.K lk (WXo X) ρ G H D (PK.optK (PK.itD k ds G1) (fun xg => PK.forF pt one exb xg.2 xg.1 s G1) .bad) := h
        cases e1 : PK.itD k ds G1 with
        | none => rw [e1] at h; exact False.elim h
        | some xg =>
          rw [e1] at h
          have h : OutS X.K lk (WXo X) ρ G H D (PK.forF pt one exb xg.2 xg.1 s G1) := h
          refine ⟨xg, e1, fun J ρ1 H1 ex1 r1 _ src => ⟨fun i m σ' H' => m = xg.1.length - i ∧ ∃ ρ' G' s', Ext ρ1 G1.length H1 ρ' G'.length H' ∧ Rel X.K lk ρ' G' H' ∧ REnv X.K lk ρ' G'.length H' s' σ' ∧ OutS X.K lk (WXo X) ρ' G' H' D (PK.forF pt one exb xg.2 (xg.1.drop i) s' G'),
            ⟨_, rfl, ρ1, G1, s, Ext.refl, r1, en.ext ex1, OutS.ext ex1 h⟩, fun i m σ' H' ⟨hm, ρ', G', s', e', r', en', h'⟩ => ?_⟩⟩
          cases hd : xg.1.drop i with
          | nil =>
            rw [hd] at h'
            have h' : OutS X.K lk (WXo X) ρ' G' H' D (PK.iteK (PK.still G' xg.2) (fun _ => .nx s' G') fun _ => .bad) := h'
            cases st : PK.still G' xg.2 with
            | false => rw [st] at h'; exact False.elim h'
            | true =>
              rw [st] at h'
              have hl : xg.1.length ≤ i := List.drop_eq_nil_iff.mp hd
              exact .inl ⟨(src ρ' G' H' e' r' st i).2 hl, OutS.here h' r' en'⟩
          | cons x xs =>
            rw [hd] at h'
            obtain ⟨g1, g2, g3⟩ := drop_get hd
            have h' : OutS X.K lk (WXo X) ρ' G' H' D (PK.iteK (PK.still G' xg.2) (fun _ => PK.optK (PK.bindT pt one s' x) (fun s'' => (exb s'' G').turn fun s1 G1 => PK.forF pt one exb xg.2 xs s1 G1) .bad) fun _ => .bad) := h'
            cases st : PK.still G' xg.2 with
            | false => rw [st] at h'; exact False.elim h'
            | true =>
              rw [st] at h'
              have h' : OutS X.K lk (WXo X) ρ' G' H' D (PK.optK (PK.bindT pt one s' x) (fun s'' => (exb s'' G').turn fun s1 G1 => PK.forF pt one exb xg.2 xs s1 G1) .bad) := h'
              cases eb : PK.bindT pt one s' x with
              | none => rw [eb] at h'; exact False.elim h'
              | some s'' =>
                rw [eb] at h'
                obtain ⟨j1, j2⟩ := (src ρ' G' H' e' r' st i).1 x g1
                refine .inr ⟨j1, fun σ2 H2 => ∃ ρ2 G2 s2, Ext ρ1 G1.length H1 ρ2 G2.length H2 ∧ Rel X.K lk ρ2 G2 H2 ∧ REnv X.K lk ρ2 G2.length H2 s2 σ2 ∧ OutS X.K lk (WXo X) ρ2 G2 H2 D (PK.forF pt one exb xg.2 xs s2 G2),
                  fun σ2 H2 ⟨ρ2, G2, s2, a1, a2, a3, a4⟩ => ⟨m - 1, by omega, by omega, ρ2, G2, s2, a1, a2, a3, by rw [g2]; exact a4⟩, fun xv H'' y => ?_⟩
                obtain ⟨y1, y2, y3⟩ := j2 xv H'' y
                refine pat_of eb y3 (en'.ext y1) fun σ2 en2 _ => ⟨ρ', G', s'', y2, en2, OutS.turn (OutS.ext y1 h') fun s2 G2 ρ2 H2 σ3 b1 b2 b3 b4 => ⟨ρ2, G2, s2, (e'.trans y1).trans b1, b2, b3, b4⟩⟩
      | _ => exact False.elim h⟩
theorem ls_while (n : Nat) (hp : PassesOwn (model X.prog X.w) X.A X.env X.xe) (hc : LT X lk c ec) (hb : LSs X lk body exb) : LS X lk (.While c body [] pos) (fun s G => PK.whlF ec exb n s G) :=
  ps_imp (ps_while hp hc hb) fun D σ H ⟨ρ, G, s, r, en, h⟩ => ⟨fun m σ' H' => ∃ ρ' G' s', Rel X.K lk ρ' G' H' ∧ REnv X.K lk ρ' G'.length H' s' σ' ∧ OutS X.K lk (WXo X) ρ' G' H' D (PK.whlF ec exb m s' G'), ⟨n, ρ, G, s, r, en, h⟩, fun m σ' H' ⟨ρ', G', s', r', en', h'⟩ => by
    cases m with
    | zero => exact False.elim h'
    | succ m =>
      refine ⟨ρ', G', s', r', en', OutS.bindT (f := fun t G1 => PK.iteK t (fun _ => (exb s' G1).turn fun s1 G2 => PK.whlF ec exb m s1 G2) fun _ => .nx s' G1) en' h' fun b G1 ρ1 H1 e1 r1 h1 => ?_⟩
      cases b with
      | true =>
        rw [if_pos rfl]
        exact ⟨fun σ2 H2 => ∃ ρ2 G2 s2, Rel X.K lk ρ2 G2 H2 ∧ REnv X.K lk ρ2 G2.length H2 s2 σ2 ∧ OutS X.K lk (WXo X) ρ2 G2 H2 D (PK.whlF ec exb m s2 G2), fun σ2 H2 x => ⟨m, Nat.lt_succ_self _, x⟩,
          ρ1, G1, s', r1, en'.ext e1, OutS.turn h1 fun s2 G2 ρ2 H2 σ3 b1 b2 b3 b4 => ⟨ρ2, G2, s2, b2, b3, b4⟩⟩
      | false => rw [if_neg Bool.false_ne_true]; exact OutS.here h1 r1 (en'.ext e1)⟩

theorem wipe_twice (σ : L2.St) (vs : List Nat) : L2.wipe (L2.wipe σ vs) vs = L2.wipe σ vs := by
  refine List.ext_getElem? fun i => ?_
  have hv : ∀ (vs : List Nat) (σ : L2.St), (L2.wipe σ vs)[i]? = if i ∈ vs ∧ i < σ.length then some none else σ[i]? := fun vs => by
    induction vs with
    | nil => intro σ; rw [if_neg (by simp)]; rfl
    | cons u us ih =>
      intro σ
      unfold L2.wipe
      by_cases c : u = i
      · subst c
        by_cases l : u < σ.length
        · rw [if_pos ⟨List.mem_cons_self, l⟩, List.getElem?_set_self (by rw [L2.wipe_length]; exact l)]
        · rw [if_neg (fun z => l z.2), List.getElem?_eq_none (by simpa [L2.wipe_length] using l), List.getElem?_eq_none (by simpa using l)]
      · rw [List.getElem?_set_ne c, ih]
        have : (i ∈ u :: us ∧ i < σ.length) ↔ (i ∈ us ∧ i < σ.length) := by
          simp only [List.mem_cons]
          constructor
          · rintro ⟨h1 | h1, h2⟩
            · exact absurd h1.symm c
            · exact ⟨h1, h2⟩
          · exact fun ⟨h1, h2⟩ => ⟨.inr h1, h2⟩
        by_cases d : i ∈ us ∧ i < σ.length
        · rw [if_pos d, if_pos (this.mpr d)]
        · rw [if_neg d, if_neg (fun z => d (this.mp z))]
  rw [hv, hv, L2.wipe_length]
  split <;> rfl
theorem OutE.sub {K : PySem.W.Frag} {lk : Lk} {A : Addr} {σ σ' : L2.St} {ρ ρ' : Nm} {G G' : Cells} {H H' : Hp} {r : PK.R} {Q Q' : VK} (e : Ext ρ G.length H ρ' G'.length H') (h : OutE K lk W0 σ ρ G H r Q)
    (k : ∀ v G1 ρ1 H1 x, r = .ok v G1 → Ext ρ' G'.length H' ρ1 G1.length H1 → Rel K (lk.add A) ρ1 G1 H1 → Rep K (lk.add A) ρ1 G1.length H1 v x → Q' x H1) : OutE K (lk.add A) W0 σ' ρ' G' H' r Q' := by
  cases r with
  | ok v G1 => exact fun ρ1 H1 x e1 r1 p1 => k v G1 ρ1 H1 x rfl e1 r1 p1
  | exc c G1 => exact fun ρ1 H1 e1 r1 => h ρ1 H1 (e.trans e1) r1.sub
  | bad => exact h
theorem OutE.first {K : PySem.W.Frag} {lk : Lk} {σ : L2.St} {ρ : Nm} {G : Cells} {H : Hp} {r : PK.R} {f : PK.D → Cells → PK.R} {Q : VK} (h : OutE K lk W0 σ ρ G H (r.bind f) Q) : OutE K lk W0 σ ρ G H r (fun _ _ => True) := by
  cases r with
  | ok v G1 => exact fun _ _ _ _ _ _ => trivial
  | exc c G1 => exact h
  | bad => exact h
def stepE (pt : List Nat) (one : Bool) (own : List Nat) (s : PK.Env) (ec eb : Ev) : PK.D → Cells → PK.R := fun x G => PK.optK (PK.bindT pt one (PK.wipes s own) x) (fun s' => (ec s' G).bind fun c G2 => PK.blK c (fun t => PK.iteK t (fun _ => (eb s' G2).bind fun y G3 => .ok (.tup [y]) G3) fun _ => .ok .non G2) .bad) .bad
def compE (w : Bool) (k : PK.Ik) (own pt : List Nat) (one : Bool) (er ec eb : Ev) : Ev := fun s G => (er s G).bind fun x G1 => PK.tupK x (fun ds => PK.optK (PK.itD k ds G1) (fun xg => PK.iteK (PK.szOk xg.1.length) (fun _ =>
      (PK.compF (stepE pt one own s ec eb) xg.2 xg.1 G1 [] (PK.mkl w)).safe) fun _ => .bad) .bad) .bad
abbrev BX (X : Cx) (scope : Scope) (s : Shared) (H : Hp) (C : Addr) (cl : List (Str × Addr)) (fp : List Addr) : Cx := X.blk s H scope (compEnvC scope cl C X.env) fp
def TTc (K : PySem.W.Frag) (lk : Lk) (ec : Ev) : TT := fun σ H Q => ∃ A, liftT K (lk.add A) W0 ec σ H Q
def TEc (K : PySem.W.Frag) (lk : Lk) (eb : Ev) : TE := fun σ H Q => ∃ A, lift K (lk.add A) W0 eb σ H Q
theorem comp_of {w : Bool} {own : List Nat} (hpt : ∀ i ∈ pt, i ∈ own) (σ : L2.St) (H : Hp) (Q : VK) (h : lift X.K lk (WXo X) (compE w k own pt one er ec eb) σ H Q) : tLc (liftI X.K lk (WXo X) k er) (gPat X.K pt one) (TTc X.K lk ec) (TEc X.K lk eb) own σ H Q := by
  obtain ⟨ρ, G, s, r, en, h⟩ := h
  refine ⟨ρ, G, s, r, en, ?_⟩
  have h : OutE X.K lk (WXo X) σ ρ G H ((er s G).bind fun x G1 => PK.tupK x (fun ds => PK.optK (PK.itD k ds G1) (fun xg => PK.iteK (PK.szOk xg.1.length) (fun _ => (PK.compF (stepE pt one own s ec eb) xg.2 xg.1 G1 [] (PK.mkl w)).safe) fun _ => .bad) .bad) .bad) Q := h
  cases q : er s G with
  | bad => rw [q] at h; exact False.elim h
  | exc c G1 => rw [q] at h; exact h
  | ok v G1 =>
    rw [q] at h
    cases v with
    | tup ds =>
      have h : OutE X.K lk (WXo X) σ ρ G H (PK.optK (PK.itD k ds G1) (fun xg => PK.iteK (PK.szOk xg.1.length) (fun _ => (PK.compF (stepE pt one own s ec eb) xg.2 xg.1 G1 [] (PK.mkl w)).safe) fun _ => .bad) .bad) Q := h
      cases e1 : PK.itD k ds G1 with
      | none => rw [e1] at h; exact False.elim h
      | some xg =>
        rw [e1] at h
        have h : OutE X.K lk (WXo X) σ ρ G H (PK.iteK (PK.szOk xg.1.length) (fun _ => (PK.compF (stepE pt one own s ec eb) xg.2 xg.1 G1 [] (PK.mkl w)).safe) fun _ => .bad) Q := h
        cases z : PK.szOk xg.1.length with
        | false => rw [z] at h; exact False.elim h
        | true =>
          rw [z] at h
          have hsz : xg.1.length < sizeLine := Nat.lt_of_le_of_lt (of_decide_eq_true z) (by rw [sizeLine_eq]; decide)
          refine ⟨xg, e1, fun J ρ1 H1 ex1 r1 srcA _ => fun A hA => ?_⟩
          have h : OutE X.K lk W0 σ ρ1 G1 H1 (PK.compF (stepE pt one own s ec eb) xg.2 xg.1 G1 [] (PK.mkl w)) Q := OutE.ext ex1 (OutE.safe (W := WXo X) (σ := σ) h)
          have src := srcA A hA
          refine ⟨fun i m H' => m = xg.1.length - i ∧ ∃ ρ' G' acc vs, Ext ρ1 G1.length H1 ρ' G'.length H' ∧ Rel X.K (lk.add A) ρ' G' H' ∧ H' A = some (.lst vs) ∧ Reps X.K (lk.add A) ρ' G'.length H' acc vs ∧ acc.length ≤ i ∧
            OutE X.K lk W0 σ ρ1 G1 H1 (PK.compF (stepE pt one own s ec eb) xg.2 (xg.1.drop i) G' acc (PK.mkl w)) Q,
            ⟨_, rfl, ρ1, G1, [], [], Ext.laid hA, r1.add hA, upd_same, rfl, Nat.le_refl _, h⟩, fun i m H' ⟨hm, ρ', G', acc, vs, e', r', hA', pa, hl, h'⟩ => ?_⟩
          cases hd : xg.1.drop i with
          | nil =>
            rw [hd] at h'
            have h' : OutE X.K lk W0 σ ρ1 G1 H1 (PK.iteK (PK.still G' xg.2) (fun _ => PK.mkl w acc G') fun _ => .bad) Q := h'
            cases st : PK.still G' xg.2 with
            | false => rw [st] at h'; exact False.elim h'
            | true =>
              rw [st] at h'
              refine .inl ⟨(src ρ' G' H' e' r' st i).2 (List.drop_eq_nil_iff.mp hd), ?_⟩
              have hz : ¬ lk.Z A := fun z => r1.zs A z hA
              cases w with
              | false =>
                have h' : OutE X.K lk W0 σ ρ1 G1 H1 (.ok (.lst acc) G') Q := h'
                exact h' ρ' H' (.ref A) e' r'.sub ⟨A, vs, rfl, hA', ⟨r'.off, hz⟩, Reps.sub _ _ pa⟩
              | true =>
                have h' : OutE X.K lk W0 σ ρ1 G1 H1 (.ok (.ref G'.length) (G' ++ [.lst acc])) Q := h'
                exact h' (nset ρ' G'.length A) H' (.ref A) (by rw [List.length_append]; exact e'.named hA) (r'.name hA' pa hz) ⟨by simp, by rw [nset_same]⟩
          | cons x xs =>
            rw [hd] at h'
            obtain ⟨g1, g2, g3⟩ := drop_get hd
            have h' : OutE X.K lk W0 σ ρ1 G1 H1 (PK.iteK (PK.still G' xg.2) (fun _ => (stepE pt one own s ec eb x G').bind fun r G1 => PK.stepK r (fun y => PK.compF (stepE pt one own s ec eb) xg.2 xs G1 (acc ++ [y]) (PK.mkl w)) (fun _ => PK.compF (stepE pt one own s ec eb) xg.2 xs G1 acc (PK.mkl w))) fun _ => .bad) Q := h'
            cases st : PK.still G' xg.2 with
            | false => rw [st] at h'; exact False.elim h'
            | true =>
              rw [st] at h'
              have h' : OutE X.K lk W0 σ ρ1 G1 H1 ((stepE pt one own s ec eb x G').bind fun r G1 => PK.stepK r (fun y => PK.compF (stepE pt one own s ec eb) xg.2 xs G1 (acc ++ [y]) (PK.mkl w)) (fun _ => PK.compF (stepE pt one own s ec eb) xg.2 xs G1 acc (PK.mkl w))) Q := h'
              cases eb1 : PK.bindT pt one (PK.wipes s own) x with
              | none =>
                have z : stepE pt one own s ec eb x G' = .bad := by unfold stepE; rw [eb1]; rfl
                rw [z] at h'; exact False.elim h'
              | some s'' =>
                have z : stepE pt one own s ec eb x G' = (ec s'' G').bind fun c G2 => PK.blK c (fun t => PK.iteK t (fun _ => (eb s'' G2).bind fun y G3 => .ok (.tup [y]) G3) fun _ => .ok .non G2) .bad := by
                  unfold stepE; rw [eb1]; rfl
                rw [z] at h'
                obtain ⟨j1, j2⟩ := (src ρ' G' H' e' r' st i).1 x g1
                refine .inr ⟨j1, fun H2 => ∃ ρ2 G2 acc2 vs2, Ext ρ1 G1.length H1 ρ2 G2.length H2 ∧ Rel X.K (lk.add A) ρ2 G2 H2 ∧ H2 A = some (.lst vs2) ∧ Reps X.K (lk.add A) ρ2 G2.length H2 acc2 vs2 ∧ acc2.length ≤ i + 1 ∧
                  OutE X.K lk W0 σ ρ1 G1 H1 (PK.compF (stepE pt one own s ec eb) xg.2 xs G2 acc2 (PK.mkl w)) Q,
                  fun H2 ⟨ρ2, G2, acc2, vs2, a1, a2, a3, a4, a5, a6⟩ => ⟨m - 1, by omega, by omega, ρ2, G2, acc2, vs2, a1, a2, a3, a4, a5, by rw [g2]; exact a6⟩, fun xv H'' y => ?_⟩
                obtain ⟨y1, y2, y3⟩ := j2 xv H'' y
                have ey := e'.trans y1
                have en1 : REnv X.K (lk.add A) ρ' G'.length H'' (PK.wipes s own) (L2.wipe σ own) := REnv.wipe _ (((en.ext ex1).addH hA).ext ey)
                have hA2 : H'' A = some (.lst vs) := y1.pres A _ hA' r'.off
                refine pat_of eb1 y3 en1 fun σ2 en2 hw => ⟨(hw _ hpt).trans (wipe_twice _ _), A, ρ', G', s'', y2, en2, ?_⟩
                cases q1 : ec s'' G' with
                | bad => rw [q1] at h'; exact False.elim h'
                | exc c G2 => rw [q1] at h'; exact fun ρ3 H3 e3 r3 => h' ρ3 H3 (ey.trans e3) r3.sub
                | ok v G2 =>
                  rw [q1] at h'
                  cases v with
                  | bl b =>
                    refine ⟨b, rfl, fun ρ3 H3 e3 r3 => ?_⟩
                    have hA3 : H3 A = some (.lst vs) := e3.pres A _ hA2 y2.off
                    cases b with
                    | false =>
                      dsimp only; rw [if_neg Bool.false_ne_true]
                      exact ⟨ρ3, G2, acc, vs, ey.trans e3, r3, hA3, Reps.ext (y1.trans e3) _ _ pa, Nat.le_succ_of_le hl, h'⟩
                    | true =>
                      dsimp only; rw [if_pos rfl]
                      refine ⟨A, ρ3, G2, s'', r3, en2.ext e3, ?_⟩
                      have h' : OutE X.K lk W0 σ ρ1 G1 H1 (((eb s'' G2).bind fun y G3 => .ok (.tup [y]) G3).bind fun r G1 => PK.stepK r (fun y => PK.compF (stepE pt one own s ec eb) xg.2 xs G1 (acc ++ [y]) (PK.mkl w)) (fun _ => PK.compF (stepE pt one own s ec eb) xg.2 xs G1 acc (PK.mkl w))) Q := h'
                      cases q2 : eb s'' G2 with
                      | bad => rw [q2] at h'; exact False.elim h'
                      | exc c G3 => rw [q2] at h'; exact fun ρ4 H4 e4 r4 => h' ρ4 H4 ((ey.trans e3).trans e4) r4.sub
                      | ok yd G3 =>
                        rw [q2] at h'
                        intro ρ4 H4 yv e4 r4 p4
                        have hA4 : H4 A = some (.lst vs) := e4.pres A _ hA3 r3.off
                        have pa4 : Reps X.K (lk.add A) ρ4 G3.length H4 acc vs := Reps.ext ((y1.trans e3).trans e4) _ _ pa
                        refine ⟨vs, hA4, by rw [← pa.length]; omega, ρ4, G3, acc ++ [yd], vs ++ [yv], ((ey.trans e3).trans e4).over hA, r4.push hA4, upd_same, Reps.push hA4 _ _ (pa4.append (Reps.one p4)), ?_, h'⟩
                        rw [List.length_append, List.length_singleton]; omega
                  | _ => exact False.elim h'
    | _ => exact False.elim h
structure CompOk (X : Cx) (lk : Lk) (tg iter elt : Expr) (ifs : List Expr) (scope : Scope) (own : List (Str × Nat)) (k : PK.Ik) (pt : List Nat) (one : Bool) (er ec eb : Ev) : Prop where
  hi : LI X lk tg iter k er
  ok : BlkOk X.N X.env.scope scope own
  hpt : ∀ i ∈ pt, i ∈ own.map (·.2)
  hg : ∀ (s : Shared) (H : Hp) (C : Addr) (cl : List (Str × Addr)) (fp : List Addr), Pat (BX X scope s H C cl fp) tg pt one
  ht : ∀ (A : Addr) (s : Shared) (H : Hp) (C : Addr) (cl : List (Str × Addr)) (fp : List Addr), PTs (BX X scope s H C cl fp) ifs (liftT X.K (lk.add A) W0 ec)
  he : ∀ (A : Addr) (s : Shared) (H : Hp) (C : Addr) (cl : List (Str × Addr)) (fp : List Addr), LE (BX X scope s H C cl fp) (lk.add A) elt eb
  hs : ∀ x, foldedSetIterable iter X.env x = pure x
theorem lift_w0 {K : PySem.W.Frag} {lk : Lk} {W : WX} {ev : Ev} {σ : L2.St} {H : Hp} {Q : VK} (h : lift K lk W0 ev σ H Q) : lift K lk W ev σ H Q := by
  obtain ⟨ρ, G, s, r, en, h⟩ := h
  exact ⟨ρ, G, s, r, en, h.imp fun _ _ z => z.elim⟩
theorem liftT_w0 {K : PySem.W.Frag} {lk : Lk} {W : WX} {ev : Ev} {σ : L2.St} {H : Hp} {Q : Bool → Hp → Prop} (h : liftT K lk W0 ev σ H Q) : liftT K lk W ev σ H Q := by
  obtain ⟨ρ, G, s, r, en, h⟩ := h
  exact ⟨ρ, G, s, r, en, h.imp fun _ _ z => z.elim⟩
theorem le_comp {w : Bool} {scope : Scope} {own : List (Str × Nat)} {ifs : List Expr} (hc : X.calm = true) (hN : X.N.Nodup) (c : CompOk X lk tg iter elt ifs scope own k pt one er ec eb) :
    LE X lk (.ListComp elt [⟨tg, iter, ifs, 0⟩] scope pos) (compE w k (own.map (·.2)) pt one er ec eb) :=
  pe_imp (pe_lc (te := TEc X.K lk eb) (tt := TTc X.K lk ec) hc hN c.hi c.ok (fun s H C cl fp => pg_pat (X := BX X scope s H C cl fp) hc hN (c.hg s H C cl fp)) (fun s H C cl fp => ⟨fun pins s' σ H' Q I ⟨A, h⟩ => (c.ht A s H C cl fp).run pins s' σ H' Q I h⟩)
      (fun s H C cl fp => ⟨fun pins s' σ H' Q I ⟨A, h⟩ => (c.he A s H C cl fp).run pins s' σ H' Q I (lift_w0 h)⟩) c.hs) (comp_of c.hpt)
theorem ls_setComp {w : Bool} {i : Nat} {y : Str} {py spos : Pos} {scope : Scope} {own : List (Str × Nat)} {ifs : List Expr} (hc : X.calm = true) (hN : X.N.Nodup) (hy : X.N[i]? = some y) (hyl : X.env.scope.names.lookup y = some .local)
    (hsw : swapsWith (.ListComp elt [⟨tg, iter, ifs, 0⟩] scope pos) (some (.Name y py)) spos.line X.env = pure true) (c : CompOk X lk tg iter elt ifs scope own k pt one er ec eb) :
    LS X lk (.Assign [.Name y py] (.ListComp elt [⟨tg, iter, ifs, 0⟩] scope pos) spos) (fun s G => PK.R.st s (compE w k (own.map (·.2)) pt one er ec eb s G) fun v G1 => .nx (PK.seti s i v) G1) :=
  ps_imp (ps_setLc (te := TEc X.K lk eb) (tt := TTc X.K lk ec) hc hN hy hyl hsw c.hi c.ok (fun s H C cl fp => pg_pat (X := BX X scope s H C cl fp) hc hN (c.hg s H C cl fp)) (fun s H C cl fp => ⟨fun pins s' σ H' Q I ⟨A, h⟩ => (c.ht A s H C cl fp).run pins s' σ H' Q I h⟩)
      (fun s H C cl fp => ⟨fun pins s' σ H' Q I ⟨A, h⟩ => (c.he A s H C cl fp).run pins s' σ H' Q I (lift_w0 h)⟩) c.hs) fun D σ H ⟨ρ, G, s, r, en, h⟩ => comp_of c.hpt σ H _ ⟨ρ, G, s, r, en, OutS.bind en h fun v G1 ρ1 H1 x e1 r1 p1 h1 => OutS.here h1 r1 ((en.ext e1).set p1)⟩
end
end PKS
namespace PKS
open PySem PySem.Spec PyProof.Rows L2
def Own (X : Cx) : Prop := X.stack = X.env :: X.outer ∧ X.env.frame = some X.env.locals
section
variable {K : PySem.W.Frag} {lk : Lk} {W W' : WX} {σ : L2.St} {ρ : Nm} {G : Cells} {H : Hp} {s : PK.Env} {D : Ends} {n : Nat}
theorem OutS.imp {o : PK.O} (h : OutS K lk W ρ G H D o) (hW : ∀ c σ H', W (.ref (lk.EA c)) none σ H' → W' (.ref (lk.EA c)) none σ H') : OutS K lk W' ρ G H D o := by
  cases o with
  | exc c s G' => exact fun ρ' H' σ' e r en => hW _ _ _ (h ρ' H' σ' e r en)
  | _ => exact h
theorem liftS_imp {ex : Ex} (h : liftS K lk W ex D σ H) (hW : ∀ c σ H', W (.ref (lk.EA c)) none σ H' → W' (.ref (lk.EA c)) none σ H') : liftS K lk W' ex D σ H := by
  obtain ⟨ρ, G, s, r, en, h⟩ := h
  exact ⟨ρ, G, s, r, en, h.imp hW⟩
theorem REnv.drop {i : Nat} {w : Option V} (en : REnv K lk ρ n H s σ) : REnv K lk ρ n H (s.set i none) (σ.set i w) := by
  refine ⟨by rw [List.length_set, List.length_set]; exact en.len, fun j d q => ?_⟩
  by_cases c : i = j
  · subst c
    by_cases l : i < s.length
    · rw [List.getElem?_set_self l] at q; cases q
    · rw [List.getElem?_eq_none (by simpa using l)] at q; cases q
  · rw [List.getElem?_set_ne c] at q ⊢
    exact en.at_ j d q
theorem OutS.clrAs {i : Nat} {o : PK.O} (h : OutS K lk W ρ G H D (o.clr (some i))) :
    OutS K lk W0 ρ G H { nx := fun σ' H' => D.nx (σ'.set i none) H', rt := D.rt, bk := fun σ' H' => D.bk (σ'.set i none) H', ct := fun σ' H' => D.ct (σ'.set i none) H' } o := by
  cases o with
  | nx s G' => exact fun ρ' H' σ' e r en => h ρ' H' _ e r en.drop
  | brk s G' => exact fun ρ' H' σ' e r en => h ρ' H' _ e r en.drop
  | cnt s G' => exact fun ρ' H' σ' e r en => h ρ' H' _ e r en.drop
  | ret v G' => exact h
  | exc c s G' => exact False.elim h
  | bad => exact h
theorem OutS.clrOnly {o : PK.O} (h : OutS K lk W ρ G H D (o.clr none)) : OutS K lk W0 ρ G H D o := by
  cases o with
  | nx s G' => exact h
  | brk s G' => exact h
  | cnt s G' => exact h
  | ret v G' => exact h
  | exc c s G' => exact False.elim h
  | bad => exact h
end
def tryE (ex : Ex) (exh : Nat → Ex) (ks os : List Nat) (n : Option Nat) : Ex := fun s G => (ex s G).catch fun c s1 G1 => PK.iteK (decide (c ∈ ks)) (fun _ => (exh c (PK.wipeO n s1) G1).clr n) fun _ => PK.iteK (decide (c ∈ os)) (fun _ => .exc c s1 G1) fun _ => .bad
def Hold (n : Option Nat) (a : Addr) (σ : L2.St) : Prop := ∀ i, n = some i → σ[i]? = some (some (.ref a))
theorem Hold.set {n : Option Nat} {a : Addr} {σ : L2.St} {j : Nat} {v : Option V} (h : Hold n a σ) (hj : n ≠ some j) : Hold n a (σ.set j v) := fun i e => by
  rw [List.getElem?_set_ne (fun z => hj (by rw [e, z]))]
  exact h i e
abbrev LXs (Y : Cx) (lk : Lk) (n : Option Nat) (a : Addr) (sts : List Stmt) (ex : Ex) : Prop := PSs Y sts (fun D σ H => Hold n a σ ∧ liftS Y.K lk W0 ex D σ H)
abbrev LXe (Y : Cx) (lk : Lk) (n : Option Nat) (a : Addr) (e : Expr) (ev : Ev) : Prop := PE Y e (fun σ H Q => Hold n a σ ∧ lift Y.K lk W0 ev σ H Q)
section
variable {X : Cx} {lk : Lk} {x nm : Str} {C : Addr} {i : Nat} {ks os : List Nat} {body suite : List Stmt} {b₀ : Stmt} {ex : Ex} {exh : Nat → Ex} {np pos pos' : Pos}
theorem ls_tryAs (O : Own X) (hN : X.N.Nodup) (hi : X.N[i]? = some nm) (hl : X.env.kindOf nm = some .local) (hc : Names X x (.ref C))
    (hk : ∀ c ∈ ks, PySem.W.exmOne X.K (.ref (lk.EA c)) (.ref C) = some true) (ho : ∀ c ∈ os, PySem.W.exmOne X.K (.ref (lk.EA c)) (.ref C) = some false)
    (hb : ∀ pn xe, PassesOwn (model X.prog X.w) X.A X.env xe → LSs (X.tr pn xe) lk body ex)
    (hsu : ∀ c ∈ ks, ∀ a oe pn, Zc (.ref (lk.EA c)) none oe → (∃ vs, oe.data = .fields vs) → LXs (X.suite a ((a, oe) :: pn)) lk (some i) a (b₀ :: suite) (exh c)) :
    LS X lk (.Try body [.ExceptHandler (some (.Name x np)) (some nm) (b₀ :: suite) pos'] [] [] pos) (tryE ex exh ks os (some i)) := by
  refine ps_imp (ps_try_as (tb := fun W D σ H => liftS X.K lk W ex D σ H)
    (ts := fun a cls d D σ H => ∃ c, c ∈ ks ∧ cls = .ref (lk.EA c) ∧ d = none ∧ (∃ σ0 : L2.St, σ = σ0.set i (some (.ref a))) ∧ liftS X.K lk W0 (exh c) D σ H) (Wout := WXo X) O.1 O.2 hN hi hl hc (takes_wx X)
    (fun W pn xe tk hp => pss_imp (hb pn xe hp) fun D σ H h => liftS_imp h fun c σ H' z => wx_of tk z)
    (fun a oe cls d pn hz hf => ⟨fun pins s σ H D I ⟨c, hc, e1, e2, ⟨σ0, e3⟩, h⟩ => ?_⟩)) fun D σ H ⟨ρ, G, s, r, en, h⟩ => ⟨ρ, G, s, r, en, ?_⟩
  · subst e1
    subst e2
    refine (hsu c hc a oe pn hz hf).run pins s σ H D I ⟨fun j ej => ?_, h⟩
    cases ej
    have hlen : σ.length = X.N.length := I.len
    rw [e3] at hlen ⊢
    rw [List.length_set] at hlen
    rw [List.getElem?_set_self (by rw [hlen]; exact (List.getElem?_eq_some_iff.mp hi).1)]
  · have h : OutS X.K lk (WXo X) ρ G H D ((ex s G).catch fun c s1 G1 => PK.iteK (decide (c ∈ ks)) (fun _ => (exh c (PK.wipeO (some i) s1) G1).clr (some i)) fun _ => PK.iteK (decide (c ∈ os)) (fun _ => .exc c s1 G1) fun _ => .bad) := h
    cases q : ex s G with
    | exc c s1 G1 =>
      rw [q] at h
      have h : OutS X.K lk (WXo X) ρ G H D (PK.iteK (decide (c ∈ ks)) (fun _ => (exh c (PK.wipeO (some i) s1) G1).clr (some i)) fun _ => PK.iteK (decide (c ∈ os)) (fun _ => .exc c s1 G1) fun _ => .bad) := h
      by_cases c1 : c ∈ ks
      · rw [decide_eq_true c1] at h
        have h : OutS X.K lk (WXo X) ρ G H D ((exh c (s1.set i none) G1).clr (some i)) := h
        exact fun ρ' H' σ' e r' en' => ⟨true, hk c c1, fun _ a _ => ⟨c, c1, rfl, rfl, ⟨σ', rfl⟩, ρ', G1, s1.set i none, r', en'.drop, OutS.clrAs (OutS.ext e h)⟩, (fun z => nomatch z)⟩
      · rw [decide_eq_false c1] at h
        have h : OutS X.K lk (WXo X) ρ G H D (PK.iteK (decide (c ∈ os)) (fun _ => .exc c s1 G1) fun _ => .bad) := h
        by_cases c2 : c ∈ os
        · rw [decide_eq_true c2] at h
          exact fun ρ' H' σ' e r' en' => ⟨false, ho c c2, (fun z => nomatch z), fun _ => h ρ' H' σ' e r' en'⟩
        · rw [decide_eq_false c2] at h
          exact False.elim h
    | nx s G' => rw [q] at h; exact h
    | brk s G' => rw [q] at h; exact h
    | cnt s G' => rw [q] at h; exact h
    | ret v G' => rw [q] at h; exact h
    | bad => rw [q] at h; exact h
theorem ls_tryOnly (O : Own X) (hc : Names X x (.ref C))
    (hk : ∀ c ∈ ks, PySem.W.exmOne X.K (.ref (lk.EA c)) (.ref C) = some true) (ho : ∀ c ∈ os, PySem.W.exmOne X.K (.ref (lk.EA c)) (.ref C) = some false)
    (hb : ∀ pn xe, PassesOwn (model X.prog X.w) X.A X.env xe → LSs (X.tr pn xe) lk body ex)
    (hsu : ∀ c ∈ ks, ∀ a oe pn, Zc (.ref (lk.EA c)) none oe → (∃ vs, oe.data = .fields vs) → LXs (X.suite a ((a, oe) :: pn)) lk none a (b₀ :: suite) (exh c)) :
    LS X lk (.Try body [.ExceptHandler (some (.Name x np)) none (b₀ :: suite) pos'] [] [] pos) (tryE ex exh ks os none) := by
  refine ps_imp (ps_try_only (tb := fun W D σ H => liftS X.K lk W ex D σ H)
    (ts := fun a cls d D σ H => ∃ c, c ∈ ks ∧ cls = .ref (lk.EA c) ∧ d = none ∧ liftS X.K lk W0 (exh c) D σ H) (Wout := WXo X) O.1 O.2 hc (takes_wx X)
    (fun W pn xe tk hp => pss_imp (hb pn xe hp) fun D σ H h => liftS_imp h fun c σ H' z => wx_of tk z)
    (fun a oe cls d pn hz hf => ⟨fun pins s σ H D I ⟨c, hc, e1, e2, h⟩ => ?_⟩)) fun D σ H ⟨ρ, G, s, r, en, h⟩ => ⟨ρ, G, s, r, en, ?_⟩
  · subst e1
    subst e2
    exact (hsu c hc a oe pn hz hf).run pins s σ H D I ⟨(fun j ej => nomatch ej), h⟩
  · have h : OutS X.K lk (WXo X) ρ G H D ((ex s G).catch fun c s1 G1 => PK.iteK (decide (c ∈ ks)) (fun _ => (exh c (PK.wipeO none s1) G1).clr none) fun _ => PK.iteK (decide (c ∈ os)) (fun _ => .exc c s1 G1) fun _ => .bad) := h
    cases q : ex s G with
    | exc c s1 G1 =>
      rw [q] at h
      have h : OutS X.K lk (WXo X) ρ G H D (PK.iteK (decide (c ∈ ks)) (fun _ => (exh c s1 G1).clr none) fun _ => PK.iteK (decide (c ∈ os)) (fun _ => .exc c s1 G1) fun _ => .bad) := h
      by_cases c1 : c ∈ ks
      · rw [decide_eq_true c1] at h
        have h : OutS X.K lk (WXo X) ρ G H D ((exh c s1 G1).clr none) := h
        exact fun ρ' H' σ' e r' en' => ⟨true, hk c c1, fun _ a _ => ⟨c, c1, rfl, rfl, ρ', G1, s1, r', en', OutS.clrOnly (OutS.ext e h)⟩, (fun z => nomatch z)⟩
      · rw [decide_eq_false c1] at h
        have h : OutS X.K lk (WXo X) ρ G H D (PK.iteK (decide (c ∈ os)) (fun _ => .exc c s1 G1) fun _ => .bad) := h
        by_cases c2 : c ∈ os
        · rw [decide_eq_true c2] at h
          exact fun ρ' H' σ' e r' en' => ⟨false, ho c c2, (fun z => nomatch z), fun _ => h ρ' H' σ' e r' en'⟩
        · rw [decide_eq_false c2] at h
          exact False.elim h
    | nx s G' => rw [q] at h; exact h
    | brk s G' => rw [q] at h; exact h
    | cnt s G' => rw [q] at h; exact h
    | ret v G' => rw [q] at h; exact h
    | bad => rw [q] at h; exact h
end

section
variable {Y : Cx} {lk : Lk} {n : Option Nat} {a : Addr} {e e1 e2 : Expr} {ev ev1 ev2 : Ev} {x : Str} {j : Nat} {p pos : Pos} {k : Nat}
theorem lx_int {i : Int} : LXe Y lk n a (.Constant (.int i) k pos) (fun _ G => .ok (.int i) G) := pe_imp pe_int fun _ _ _ ⟨_, _, _, _, r, _, h⟩ => h.here r rfl
theorem lx_bl {i : Bool} : LXe Y lk n a (.Constant (.bool i) k pos) (fun _ G => .ok (.bl i) G) := pe_imp pe_bl fun _ _ _ ⟨_, _, _, _, r, _, h⟩ => h.here r rfl
theorem lx_str {i : Str} : LXe Y lk n a (.Constant (.str i) k pos) (fun _ G => .ok (.str i) G) := pe_imp pe_str fun _ _ _ ⟨_, _, _, _, r, _, h⟩ => h.here r rfl
theorem lx_non : LXe Y lk n a (.Constant .none k pos) (fun _ G => .ok .non G) := pe_imp pe_non fun _ _ _ ⟨_, _, _, _, r, _, h⟩ => h.here r rfl
theorem lx_not (h : LXe Y lk n a e ev) : LXe Y lk n a (.UnaryOp .Not e pos) (notE ev) :=
  pe_imp (pe_not h) fun σ H Q ⟨hd, ρ, G, s, r, en, h⟩ => ⟨hd, ρ, G, s, r, en, OutE.bind h fun v G1 _ ρ1 H1 x e1 r1 p1 h1 => by
    obtain ⟨b, hx, h1⟩ := bl_of p1 h1
    exact ⟨b, hx, OutE.here h1 r1 rfl⟩⟩
theorem lx_one {op : BoolOp} (h : LXe Y lk n a e ev) : LXe Y lk n a (.BoolOp op [e] pos) ev := pe_one h
theorem lx_and {rest : List Expr} (ha : LXe Y lk n a e1 ev1) (hb : LXe Y lk n a (.BoolOp .And (e2 :: rest) pos) ev2) : LXe Y lk n a (.BoolOp .And (e1 :: e2 :: rest) pos) (andE ev1 ev2) :=
  pe_imp (pe_and ha hb) fun σ H Q ⟨hd, ρ, G, s, r, en, h⟩ => ⟨hd, ρ, G, s, r, en, OutE.bind h fun v G1 _ ρ1 H1 x e1 r1 p1 h1 => by
    obtain ⟨b, hx, h1⟩ := bl_of p1 h1
    refine ⟨b, hx, ?_⟩
    cases b with
    | true => rw [if_pos rfl]; exact ⟨hd, ρ1, G1, s, r1, en.ext e1, h1⟩
    | false => rw [if_neg Bool.false_ne_true]; exact OutE.here h1 r1 rfl⟩
theorem lx_or {rest : List Expr} (ha : LXe Y lk n a e1 ev1) (hb : LXe Y lk n a (.BoolOp .Or (e2 :: rest) pos) ev2) : LXe Y lk n a (.BoolOp .Or (e1 :: e2 :: rest) pos) (orE ev1 ev2) :=
  pe_imp (pe_or ha hb) fun σ H Q ⟨hd, ρ, G, s, r, en, h⟩ => ⟨hd, ρ, G, s, r, en, OutE.bind h fun v G1 _ ρ1 H1 x e1 r1 p1 h1 => by
    obtain ⟨b, hx, h1⟩ := bl_of p1 h1
    refine ⟨b, hx, ?_⟩
    cases b with
    | true => rw [if_pos rfl]; exact OutE.here h1 r1 rfl
    | false => rw [if_neg Bool.false_ne_true]; exact ⟨hd, ρ1, G1, s, r1, en.ext e1, h1⟩⟩
theorem lxs_nil : LXs Y lk n a [] (fun s G => .nx s G) := pss_imp pss_nil fun D σ H ⟨_, ρ, G, s, r, en, h⟩ => OutS.here h r en
theorem lxs_cons {rest : List Stmt} {ex : Ex} (hN : Y.N.Nodup) (hi : Y.N[j]? = some x) (hx : L2.Loc Y.env.scope x) (hf : Y.fn x = true ∨ Y.env.scope.names.lookup x = some .local) (hs : swapsWith e (some (.Name x p)) pos.line Y.env = pure false) (hj : n ≠ some j)
    (he : LXe Y lk n a e ev) (hr : LXs Y lk n a rest ex) : LXs Y lk n a (.Assign [.Name x p] e pos :: rest) (fun s G => (PK.R.st s (ev s G) fun v G1 => .nx (PK.seti s j v) G1).then fun s1 G1 => ex s1 G1) :=
  pss_imp (pss_cons (ps_set hN hi hx he hs hf) hr) fun D σ H ⟨hd, ρ, G, s, r, en, h⟩ => ⟨hd, ρ, G, s, r, en, OutS.bind en (OutS.seq h) fun v G1 ρ1 H1 y e1 r1 p1 h1 => ⟨hd.set hj, OutS.here h1 r1 ((en.ext e1).set p1)⟩⟩
end

section
variable {X : Cx} {lk : Lk} {D a : Addr} {oe : Obj} {pn : List (Addr × Obj)}
def rIsET (K : PySem.W.Frag) (D a : Addr) : List V → Hp → VK → Prop := fun xs H Q => ∃ (tp : Addr) (cs : List V) (us : List Value) (b : Bool), xs = [.ref a, .ref tp] ∧ H tp = some (.tup cs) ∧ Paired ClsV cs us ∧ PySem.W.kitAny K (.ref D) us = some b ∧ Q (.bl b) H
theorem call_isET (C : ExcC X.K D) (hz : Zc (.ref D) none oe) (hf : ∃ vs, oe.data = .fields vs) : CallR (X.suite a ((a, oe) :: pn)) (.builtin "isinstance") (rIsET X.K D a) := by
  intro pins s σ H xs us Q I r h
  obtain ⟨tp, cs, ws, b, rfl, hT, k, e, q⟩ := h
  obtain ⟨u1, u2, rfl, r1, r2⟩ := vals2 r
  cases (show u2 = Value.ref tp from r2)
  cases (show u1 = Value.ref a from r1)
  obtain ⟨hget, _⟩ := I.pin (a, oe) (List.mem_append.mpr (.inl List.mem_cons_self))
  obtain ⟨vs, hv⟩ := hf
  have J : PySem.W.InstAt s.heap a oe D none := by
    obtain ⟨oc, od, oda, osl⟩ := oe
    obtain ⟨h1, h2⟩ := hz
    dsimp only at h1 h2 hv
    subst h1 h2 hv
    exact ⟨hget, rfl, rfl, trivial⟩
  obtain ⟨_, its, rv, o, h1, h2, n, h3⟩ := (show ObjOk X.prog X.w H s.heap tp (.tup cs) from I.hok tp _ hT)
  have e3 := ClsV.all k rv
  subst e3
  obtain ⟨oc, od, dt, sl⟩ := o
  simp only at h2 h3
  subst h2 h3
  exact PySem.W.kia_tup (PySem.W.handS_kitx_exc C.hg C.hk C.hs C.hd C.ha C.hn C.ht C.hm) I.kIn J h1 e (fun z => nomatch z) fun tk => ⟨.bl b, H, I.tok tk, rfl, q⟩
inductive ClsEs (X : Cx) : List Expr → List Addr → Prop
  | nil : ClsEs X [] []
  | cons {x : Str} {C : Addr} {p : Pos} {es : List Expr} {Cs : List Addr} (hg : Gl X x) (hm : X.mg x = some (.ref C)) (hd : (x == ("__debug__" : Str)) = false) (r : ClsEs X es Cs) : ClsEs X (.Name x p :: es) (C :: Cs)
def tKs : List Addr → TA
  | [] => tNil
  | C :: Cs => tCons (tC (.ref C)) (tKs Cs)
theorem tKs_of {σ : L2.St} {H : Hp} : ∀ {Cs : List Addr} {Q : List V → Hp → Prop}, Q (Cs.map V.ref) H → tKs Cs σ H Q
  | [], _, h => h
  | C :: Cs, Q', h => tKs_of (Cs := Cs) (Q := fun xs H2 => Q' (.ref C :: xs) H2) h
theorem pa_cls {es : List Expr} {Cs : List Addr} (h : ClsEs X es Cs) : PA X es (tKs Cs) := by
  induction h with
  | nil => exact pa_nil
  | cons hg hm hd _ ih => exact pa_cons (pe_glob hg hm rfl hd) ih rfl
theorem paired_cls : ∀ Cs : List Addr, Paired ClsV (Cs.map V.ref) (Cs.map Value.ref)
  | [] => .nil
  | C :: Cs => .cons (.own C) (paired_cls Cs)
variable {i : Nat} {y : Str} {p p1 p2 p3 pos : Pos} {k : Nat}
theorem lx_is (C : ExcC X.K D) (hz : Zc (.ref D) none oe) (hf : ∃ vs, oe.data = .fields vs) {B : Addr} {z : Str} {b : Bool} (hN : X.N[i]? = some y) (hv : Vis X.env.scope y) (hd : (y == ("__debug__" : Str)) = false) (hcd : (y == ("__classdict__" : Str)) = false)
    (hg : Gl X "isinstance") (hm : X.mg "isinstance" = none) (hg2 : Gl X z) (hm2 : X.mg z = some (.ref B)) (hd2 : (z == ("__debug__" : Str)) = false) (hk : PySem.W.kitOne X.K (.ref D) (.ref B) = some b) :
    LXe (X.suite a ((a, oe) :: pn)) lk (some i) a (.Call (.Name "isinstance" p) [.Name y p1, .Name z p2] [] pos) (fun _ G => .ok (.bl b) G) :=
  pe_imp (pe_callB (X := X.suite a ((a, oe) :: pn)) (call_isE C hz hf) hg hm (by decide +kernel) (pa_cons (pe_var hN hv hd hcd) (pa_cons (pe_glob (v := .ref B) hg2 hm2 rfl hd2) pa_nil rfl) rfl) (by decide) (by decide) rfl rfl) fun σ H Q ⟨hd, ρ, G, s, r, en, h⟩ =>
    ⟨.ref a, hd i rfl, .ref B, .ref B, b, rfl, fun u e => e, hk, OutE.here h r rfl⟩
theorem lx_isT (C : ExcC X.K D) (hz : Zc (.ref D) none oe) (hf : ∃ vs, oe.data = .fields vs) {es : List Expr} {Cs : List Addr} {b : Bool} (hN : X.N[i]? = some y) (hv : Vis X.env.scope y) (hd : (y == ("__debug__" : Str)) = false) (hcd : (y == ("__classdict__" : Str)) = false)
    (hg : Gl X "isinstance") (hm : X.mg "isinstance" = none) (hc : ClsEs (X.suite a ((a, oe) :: pn)) es Cs) (hl : Cs.length ≤ 1000) (hk : PySem.W.kitAny X.K (.ref D) (Cs.map Value.ref) = some b) :
    LXe (X.suite a ((a, oe) :: pn)) lk (some i) a (.Call (.Name "isinstance" p) [.Name y p1, .Tuple es k p2] [] pos) (fun _ G => .ok (.bl b) G) :=
  pe_imp (pe_callB (X := X.suite a ((a, oe) :: pn)) (call_isET C hz hf) hg hm (by decide +kernel) (pa_cons (pe_var hN hv hd hcd) (pa_cons (pe_tup (pa_cls hc)) pa_nil rfl) rfl) (by decide) (by decide) rfl rfl) fun σ H Q ⟨hd, ρ, G, s, r, en, h⟩ =>
    ⟨.ref a, hd i rfl, by
      refine tKs_of ?_
      exact ⟨by rw [List.length_map, sizeLine_eq]; exact Nat.le_trans hl (by decide), fun q hq => ⟨q, _, _, b, rfl, upd_same, paired_cls Cs, hk, h ρ _ _ (Ext.laid hq) (r.other hq) rfl⟩⟩⟩
end
end PKS
namespace PKS
open PySem PySem.Spec PyProof.Rows L2
section
variable {X : Cx} {pins : List (Addr × Obj)} {σ : L2.St} {H : Hp} {s : Shared}
theorem RoomG.in1 {k : Nat} {A : Around} (r : RoomG (k + 1) A) : RoomG k A.in1 := ⟨r.r.in1, r.g⟩
theorem run_G1 {k : Nat} {f : Addr} {fd : FuncData} {ps : List Str} {sp : Sp} {Q : VK} {us : List Value} {vs : List V} (F : FnG X.prog X.w X.K X.mg X.base k f fd ps sp) (hr : RoomG k X.A.in1) (hb : Binds X.K fd ps [])
    (I : Inv X pins σ H s) (r : Vals vs us) (h : sp vs H Q E0) : wpAny (model X.prog X.w) X.A.in1 (call (.ref f) us) (EP X pins σ Q) (fun _ _ => False) s := by
  have hl : (us ++ []).length = ps.length := by rw [List.append_nil, ← r.length]; exact F.len _ _ _ _ h
  refine wpAny_call (codeAny_mono (F.run X.A.in1 X.stack s H ⟨us, []⟩ (us ++ []) vs Q E0 hr I.env0.in1 (hb s us I.kIn hl) (by rw [List.append_nil]; exact r) h) fun r' s' hq => ?_)
  have z := CR_back I hq
  cases r' with
  | error e => exact z.elim
  | ok fl =>
    cases fl with
    | ret u => exact z
    | _ => exact z.elim
theorem pin_add {a : Addr} {o : Obj} (I : Inv X pins σ H s) (g : s.heap.get? a = some o) (f : FpOk X [] H a) (hc : ∀ v, o.data ≠ .cell v) : Inv X ((a, o) :: pins) σ H s :=
  I.pins_of fun p hp => by
    rcases List.mem_cons.mp hp with rfl | hp
    · exact ⟨g, f.1, f.2.1, f.2.2.1, hc⟩
    · exact I.pin p (List.mem_append_right _ hp)
theorem pin_drop {a : Addr × Obj} (I : Inv X (a :: pins) σ H s) : Inv X pins σ H s := I.pins_of fun p hp => I.pin p (List.mem_append_right _ (List.mem_cons_of_mem _ hp))
structure Mid (X : Cx) (pins : List (Addr × Obj)) (σ : L2.St) (H : Hp) (s : Shared) (T I S : Addr) (i : Nat) (items cs : Array Value) : Prop where
  inv : Inv X pins σ H s
  it : s.heap.IsTupleIter I T i
  tup : s.heap.IsTuple T items
  lst : ∃ c, s.heap.get? S = some (seqObj "list" cs c)
  fT : FpOk X pins H T
  fI : FpOk X pins H I
  fS : FpOk X pins H S
  nTI : T ≠ I
  nTS : T ≠ S
  nIS : I ≠ S
theorem fp_nil {a : Addr} (f : FpOk X pins H a) : FpOk X [] H a := ⟨f.1, f.2.1, f.2.2.1, f.2.2.2.1, f.2.2.2.2.1, fun p hp => f.2.2.2.2.2 p (by
  rcases List.mem_append.mp hp with q | q
  · exact List.mem_append_left _ q
  · cases q)⟩
theorem fp_at {a : Addr} {H' : Hp} (f : FpOk X pins H a) (h : H' a = none) : FpOk X pins H' a := ⟨h, f.2⟩
theorem Mid.turned {T I S : Addr} {i j : Nat} {items cs : Array Value} {h' : Heap} {tk : Nat} (M : Mid X pins σ H s T I S i items cs) (it : h'.IsTupleIter I T j) (k : ∀ b o, b ∉ [I] → s.heap.get? b = some o → h'.get? b = some o) :
    Mid X pins σ H { s with heap := h', toks := tk } T I S j items cs := by
  obtain ⟨c, hS⟩ := M.lst
  obtain ⟨o, e, r⟩ := M.tup
  exact ⟨M.inv.turnedL k (fun b hb => by rw [List.mem_singleton.mp hb]; exact M.fI), it, ⟨o, k T o (by simpa using M.nTI) e, r⟩, ⟨c, k S _ (by simpa using M.nIS.symm) hS⟩, M.fT, M.fI, M.fS, M.nTI, M.nTS, M.nIS⟩
theorem Mid.put {T I S : Addr} {i : Nat} {items cs cs' : Array Value} {h' : Heap} {tk c' : Nat} (M : Mid X pins σ H s T I S i items cs) (g : h'.get? S = some (seqObj "list" cs' c')) (k : ∀ b o, b ∉ [S] → s.heap.get? b = some o → h'.get? b = some o) :
    Mid X pins σ H { s with heap := h', toks := tk } T I S i items cs' := by
  obtain ⟨o, e, r⟩ := M.tup
  obtain ⟨o2, e2, r2⟩ := M.it
  exact ⟨M.inv.turnedL k (fun b hb => by rw [List.mem_singleton.mp hb]; exact M.fS), ⟨o2, k I o2 (by simpa using M.nIS) e2, r2⟩, ⟨o, k T o (by simpa using M.nTS) e, r⟩, ⟨c', g⟩, M.fT, M.fI, M.fS, M.nTI, M.nTS, M.nIS⟩
theorem Mid.call {k : Nat} {f : Addr} {fd : FuncData} {ps : List Str} {sp : Sp} {T I S : Addr} {i : Nat} {items cs : Array Value} {Q : VK} {x : V} {u : Value} {R : Value → Shared → Prop} (M : Mid X pins σ H s T I S i items cs)
    (F : FnG X.prog X.w X.K X.mg X.base k f fd ps sp) (hr : RoomG k X.A.in1) (hb : Binds X.K fd ps []) (rx : RelV x u) (h : sp [x] H Q E0)
    (done : ∀ v w s' H', Mid X pins σ H' s' T I S i items cs → RelV v w → Q v H' → R w s') : wpAny (model X.prog X.w) X.A.in1 (call (.ref f) [u]) R (fun _ _ => False) s := by
  obtain ⟨c, hS⟩ := M.lst
  obtain ⟨oT, eT, cT, nT, dT⟩ := M.tup
  obtain ⟨oI, eI, cI, dI⟩ := M.it
  have I1 : Inv X ((T, oT) :: (I, oI) :: (S, seqObj "list" cs c) :: pins) σ H s := by
    refine pin_add (pin_add (pin_add M.inv hS (fp_nil M.fS) fun v z => ?_) eI (fp_nil M.fI) fun v z => ?_) eT (fp_nil M.fT) fun v z => ?_
    · cases z
    · rw [dI] at z; cases z
    · rw [dT] at z; cases z
  refine wpAny_mono (run_G1 F hr hb I1 (.cons rx .nil) h) (fun w s' hq => ?_) fun _ _ hF => hF
  obtain ⟨v, H', I2, rv, q⟩ := hq
  have pT := I2.pin (T, oT) (List.mem_append_right _ (by simp))
  have pI := I2.pin (I, oI) (List.mem_append_right _ (by simp))
  have pS := I2.pin (S, seqObj "list" cs c) (List.mem_append_right _ (by simp))
  exact done v w s' H' ⟨pin_drop (pin_drop (pin_drop I2)), ⟨oI, pI.1, cI, dI⟩, ⟨oT, pT.1, cT, nT, dT⟩, ⟨c, pS.1⟩, fp_at M.fT pT.2.1, fp_at M.fI pI.2.1, fp_at M.fS pS.2.1, M.nTI, M.nTS, M.nIS⟩ rv q
def ltKey (j : Int) (u : Str) (i : Int) (z : Str) : Bool := decide (j < i) || (decide (j = i) && decide (u.cps.toList < z.cps.toList))
theorem cmp_keys {a1 a2 : Addr} {i j : Int} {z u : Str} (I : Inv X pins σ H s) (h1 : SqT X.K H a1 [.int i, .str z]) (h2 : SqT X.K H a2 [.int j, .str u]) (hu : X.A.in1.in1.units < cLine) (hu2 : X.A.in1.units < cLine) :
    Ob.RcOp .Lt X.A.in1 s (.ref a2) (.ref a1) (ltKey j u i z) ∧ Ob.RcOp .Gt X.A.in1 s (.ref a2) (.ref a1) (ltKey i z j u) := by
  obtain ⟨its1, r1, p1, _⟩ := I.tuple h1
  obtain ⟨its2, r2, p2, _⟩ := I.tuple h2
  cases r1 with
  | cons e1 r1 => cases r1 with
    | cons e2 r1 => cases r1 with
      | nil => cases r2 with
        | cons f1 r2 => cases r2 with
          | cons f2 r2 => cases r2 with
            | nil =>
              obtain ⟨t1, rfl⟩ := e1
              obtain ⟨t2, rfl⟩ := e2
              obtain ⟨t3, rfl⟩ := f1
              obtain ⟨t4, rfl⟩ := f2
              have lt_irr : ∀ l : List Nat, ¬ l < l := fun l => List.lt_irrefl l
              constructor
              · have := Ob.RcOp.tuples_lt (A := X.A.in1) (s := s) (e := fun n => if n = 0 then (j == i) else (u == z)) (r := fun n => if n = 0 then decide (j < i) else decide (u.cps.toList < z.cps.toList)) p2 p1 hu2
                  (fun n n1 n2 => by
                    have : n = 0 ∨ n = 1 := by simp at n1; omega
                    rcases this with rfl | rfl
                    · exact SeqAt.EqAt.int_int j t3 i t1
                    · exact SeqAt.EqAt.str_str u t4 z t2)
                  (fun n n1 n2 _ => by
                    have : n = 0 ∨ n = 1 := by simp at n1; omega
                    rcases this with rfl | rfl
                    · exact Ob.RcOp.lt_int j i t3 t1
                    · exact fun _ _ _ _ h => lt_str h)
                have e : ltKey j u i z = Ob.lexAt (fun n => if n = 0 then (j == i) else (u == z)) (fun n => if n = 0 then decide (j < i) else decide (u.cps.toList < z.cps.toList)) (decide ((#[Value.int j t3, .str u t4] : Array Value).size < (#[Value.int i t1, .str z t2] : Array Value).size)) 0 2 := by
                  unfold ltKey
                  rw [Ob.lexAt_succ, Ob.lexAt_succ, Ob.lexAt_zero]
                  by_cases c1 : j = i
                  · subst c1
                    by_cases c2 : u = z
                    · subst c2; simp [lt_irr]
                    · simp [c2]
                  · simp [c1]
                rw [e]
                exact this
              · have := Ob.RcOp.tuples_gt (A := X.A.in1) (s := s) (e := fun n => if n = 0 then (j == i) else (u == z)) (r := fun n => if n = 0 then decide (i < j) else decide (z.cps.toList < u.cps.toList)) p2 p1 hu2
                  (fun n n1 n2 => by
                    have : n = 0 ∨ n = 1 := by simp at n1; omega
                    rcases this with rfl | rfl
                    · exact SeqAt.EqAt.int_int j t3 i t1
                    · exact SeqAt.EqAt.str_str u t4 z t2)
                  (fun n n1 n2 _ => by
                    have : n = 0 ∨ n = 1 := by simp at n1; omega
                    rcases this with rfl | rfl
                    · exact Ob.RcOp.gt_int j i t3 t1
                    · exact fun _ _ _ _ h => PySem.P.gt_str h)
                have e : ltKey i z j u = Ob.lexAt (fun n => if n = 0 then (j == i) else (u == z)) (fun n => if n = 0 then decide (i < j) else decide (z.cps.toList < u.cps.toList)) (decide ((#[Value.int i t1, .str z t2] : Array Value).size < (#[Value.int j t3, .str u t4] : Array Value).size)) 0 2 := by
                  unfold ltKey
                  rw [Ob.lexAt_succ, Ob.lexAt_succ, Ob.lexAt_zero]
                  by_cases c1 : j = i
                  · subst c1
                    by_cases c2 : u = z
                    · subst c2; simp [lt_irr]
                    · simp [c2]
                  · have c1' : ¬ i = j := fun h => c1 h.symm
                    simp [c1, c1']
                rw [e]
                exact this

theorem kmk_min_key2 (a b v : Value) : argsOk "min" ⟨[a, b], [(Str.ofString "key", v)]⟩ := by unfold argsOk; kernel_rfl
theorem run_min2 {k : Nat} {f : Addr} {fd : FuncData} {ps : List Str} {sp : Sp} {Q : VK} {x y : V} {ux uy : Value} {E : Value → Shared → Prop} (F : FnG X.prog X.w X.K X.mg X.base k f fd ps sp) (hr : RoomG (k + 1) X.A) (hb : Binds X.K fd ps [])
    (I0 : Inv X pins σ H s) (rx : RelV x ux) (ry : RelV y uy)
    (h : sp [x] H (fun k1 H1 => sp [y] H1 (fun k2 H2 => ∃ a1 i z a2 j u, k1 = .ref a1 ∧ k2 = .ref a2 ∧ SqT X.K H2 a1 [.int i, .str z] ∧ SqT X.K H2 a2 [.int j, .str u] ∧ Q (if ltKey j u i z = true then y else x) H2) E0) E0) :
    wpAny (model X.prog X.w) X.A (call (.builtin "min") [ux, uy] [(Str.ofString "key", .ref f)]) (EP X pins σ Q) E s := by
  have hh : X.A.in1.handled = none := hr.r.hd
  have hr1 : RoomG k X.A.in1 := hr.in1
  have hu2 : X.A.in1.units < cLine := hr1.r.units0
  have hu : X.A.in1.in1.units < cLine := by have := hr.r.un; show X.A.units + 1 + 1 < _; omega
  have hname : (toString "min" ++ toString ".loop" : String) = "min.loop" := by decide
  refine kmk_tree PySem.F.kind_min PySem.F.plain_min PySem.F.entry_min (kmk_min_key2 _ _ _) ?_
  show wpAny _ _ (Builtin.Builtins.bindParams "min" ["key", "default"] 0 ⟨[], [(Str.ofString "key", .ref f)]⟩ >>= _) _ _ s
  refine wpAny_bind (wpAny_of_eq (show Builtin.Builtins.bindParams "min" ["key", "default"] 0 ⟨[], [(Str.ofString "key", .ref f)]⟩ = pure [some (.ref f), none] from rfl) ?_)
  show wpAny _ X.A.in1 (newTuple [ux, uy] >>= _) _ _ s
  refine wpAny_bind (wpAny_newObj_type ?_)
  have hT : (s.heap.push { cls := .type "tuple", data := .seq #[ux, uy] }).IsTuple s.heap.objs.size #[ux, uy] := ⟨_, Heap.get?_push_size _ rfl, rfl, 0, rfl⟩
  have z1 : (s.heap.push { cls := .type "tuple", data := .seq #[ux, uy] }).objs.size = s.heap.objs.size + 1 := Heap.size_push ..
  refine wpAny_bind (wpAny_pyIter_tuple hT ?_)
  refine wpAny_bind (wpAny_newList ?_ (Nat.zero_le _))
  rw [hname]
  have fr := I0.hok
  have z2 : ((s.heap.push { cls := .type "tuple", data := .seq #[ux, uy] }).push { cls := .type "tuple_iterator", data := .fields #[.ref s.heap.objs.size, .int 0 0] }).objs.size = s.heap.objs.size + 2 := by rw [Heap.size_push, z1]
  have fpT : FpOk X pins H s.heap.objs.size := I0.fpOk (Nat.le_refl _) (fr.fresh (Nat.le_refl _))
  have fpI : FpOk X pins H (s.heap.push { cls := .type "tuple", data := .seq #[ux, uy] }).objs.size := I0.fpOk (by rw [z1]; omega) (fr.fresh (by rw [z1]; omega))
  have fpS : FpOk X pins H ((s.heap.push { cls := .type "tuple", data := .seq #[ux, uy] }).push { cls := .type "tuple_iterator", data := .fields #[.ref s.heap.objs.size, .int 0 0] }).objs.size := I0.fpOk (by rw [z2]; omega) (fr.fresh (by rw [z2]; omega))
  refine wpAny_pure ⟨plainId_quiet PySem.F.plain_min_loop _, ?_⟩
  obtain ⟨T, eT⟩ : ∃ T, T = s.heap.objs.size := ⟨_, rfl⟩
  obtain ⟨It, eI⟩ : ∃ It, It = (s.heap.push { cls := .type "tuple", data := .seq #[ux, uy] }).objs.size := ⟨_, rfl⟩
  obtain ⟨S, eS⟩ : ∃ S, S = ((s.heap.push { cls := .type "tuple", data := .seq #[ux, uy] }).push { cls := .type "tuple_iterator", data := .fields #[.ref s.heap.objs.size, .int 0 0] }).objs.size := ⟨_, rfl⟩
  have nTI : T ≠ It := by rw [eT, eI, z1]; omega
  have nTS : T ≠ S := by rw [eT, eS, z2]; omega
  have nIS : It ≠ S := by rw [eI, eS, z1, z2]; omega
  have M0 : Mid X pins σ H { s with heap := ((s.heap.push { cls := .type "tuple", data := .seq #[ux, uy] }).push { cls := .type "tuple_iterator", data := .fields #[.ref s.heap.objs.size, .int 0 0] }).push (seqObj "list" #[] 0) } T It S 0 #[ux, uy] #[] := by
    have iI : (((s.heap.push { cls := .type "tuple", data := .seq #[ux, uy] }).push { cls := .type "tuple_iterator", data := .fields #[.ref s.heap.objs.size, .int 0 0] }).push (seqObj "list" #[] 0)).get? It = some { cls := .type "tuple_iterator", data := .fields #[.ref s.heap.objs.size, .int 0 0] } := by
      rw [eI]; exact Heap.get?_push_of_some _ (Heap.get?_push_size _ rfl)
    have iT : (((s.heap.push { cls := .type "tuple", data := .seq #[ux, uy] }).push { cls := .type "tuple_iterator", data := .fields #[.ref s.heap.objs.size, .int 0 0] }).push (seqObj "list" #[] 0)).get? T = some { cls := .type "tuple", data := .seq #[ux, uy] } := by
      rw [eT]; exact Heap.get?_push_of_some _ (Heap.get?_push_of_some _ (Heap.get?_push_size _ rfl))
    refine ⟨?_, ⟨_, iI, rfl, by rw [eT]; rfl⟩, ⟨_, iT, rfl, 0, rfl⟩, ⟨0, by rw [eS]; exact Heap.get?_push_size _ rfl⟩, by rw [eT]; exact fpT, by rw [eI]; exact fpI, by rw [eS]; exact fpS, nTI, nTS, nIS⟩
    exact I0.kept fun b o e => Heap.get?_push_of_some _ (Heap.get?_push_of_some _ (Heap.get?_push_of_some _ e))
  rw [← eS, ← eI]
  generalize ({ s with heap := ((s.heap.push { cls := .type "tuple", data := .seq #[ux, uy] }).push { cls := .type "tuple_iterator", data := .fields #[.ref s.heap.objs.size, .int 0 0] }).push (seqObj "list" #[] 0) } : Shared) = s3 at M0 ⊢
  clear fpT fpI fpS eT eI eS hT
  have W := Walks.tuple (prog := X.prog) (w := X.w) (A := X.A.in1) hh It T nTI #[ux, uy]
  -- the first turn
  obtain ⟨c0, hS⟩ := M0.lst
  refine codeAny_builtin PySem.F.entry_min_loop ?_
  rw [Around.under_plainId PySem.F.plain_min_loop _]
  show wpAny _ X.A.in1 (seqItems? (.ref S) >>= _) _ _ _
  refine wpAny_bind (wpAny_seqItems hS rfl ?_)
  show wpAny _ X.A.in1 (tryCatch (pyNext (.ref It)) _ >>= _) _ _ _
  refine wpAny_bind (wpAny_tryCatch (W.item 0 _ _ _ (by simp) ⟨M0.it, M0.tup⟩ fun v h' tk' hP hst' hk' => ?_))
  have hv : ux = v := by simpa using hP
  subst hv
  have M1 := M0.turned (tk := tk') hst'.1 hk'
  show wpAny _ X.A.in1 (tryCatch (holding [ux] (call (.ref f) [ux])) _ >>= _) _ _ _
  refine wpAny_bind (wpAny_tryCatch (wpAny_holding (wpAny_mono (M1.call F hr1 hb rx h fun v1 w1 s1 H1 M2 rv1 q1 => ?_) (fun w1 s1 hq => hq) fun _ _ hF => hF.elim)))
  have h2 := q1
  obtain ⟨c1, hS1⟩ := M2.lst
  show wpAny _ X.A.in1 (updateSeq S (fun _ => #[ux, w1]) >>= _) _ _ _
  refine wpAny_bind ?_
  refine wpAny_updateSeq hS1 rfl ?_
  rw [hname]
  have sb1 : Heap.SameBut S s1.heap (s1.heap.update S (Obj.mapSeq fun _ => #[ux, w1])) := Heap.SameBut.update s1.heap S (Obj.mapSeq fun _ => (#[ux, w1] : Array Value))
  obtain ⟨c2, hc2⟩ : ∃ c2, (s1.heap.update S (Obj.mapSeq fun _ => #[ux, w1])).get? S = some (seqObj "list" #[ux, w1] c2) := ⟨_, get?_update_seq hS1 fun _ => #[ux, w1]⟩
  have M3 := M2.put (tk := s1.toks) hc2 (fun b o hb e => (sb1.2 b (fun z => hb (by simp [z]))).trans e)
  refine wpAny_pure ⟨plainId_quiet PySem.F.plain_min_loop _, ?_⟩
  -- the second turn
  refine codeAny_builtin PySem.F.entry_min_loop ?_
  rw [Around.under_plainId PySem.F.plain_min_loop _]
  show wpAny _ X.A.in1 (seqItems? (.ref S) >>= _) _ _ _
  refine wpAny_bind (wpAny_seqItems hc2 rfl ?_)
  show wpAny _ X.A.in1 (tryCatch (pyNext (.ref It)) _ >>= _) _ _ _
  refine wpAny_bind (wpAny_tryCatch (W.item 1 _ _ _ (by simp) ⟨M3.it, M3.tup⟩ fun v h' tk' hP hst' hk' => ?_))
  have hv : uy = v := by simpa using hP
  subst hv
  have M4 := M3.turned (tk := tk') hst'.1 hk'
  show wpAny _ X.A.in1 (tryCatch (holding [uy] (call (.ref f) [uy])) _ >>= _) _ _ _
  refine wpAny_bind (wpAny_tryCatch (wpAny_holding (wpAny_mono (M4.call F hr1 hb ry h2 fun v2 w2 s2 H2 M5 rv2 q2 => ?_) (fun w2 s2 hq => hq) fun _ _ hF => hF.elim)))
  obtain ⟨a1, i, z, a2, j, u, e1, e2, sq3, sq2, hq⟩ := q2
  subst e1 e2
  obtain rfl : w2 = Value.ref a2 := rv2
  obtain rfl : w1 = Value.ref a1 := rv1
  obtain ⟨c3, hS3⟩ := M5.lst
  have cmp := (cmp_keys M5.inv sq3 sq2 hu hu2).1
  show wpAny _ X.A.in1 (tryCatch (holding [uy, .ref a2] (richCompare .Lt (.ref a2) (.ref a1) >>= _)) _ >>= _) _ _ _
  refine wpAny_bind (wpAny_tryCatch (wpAny_holding (wpAny_bind (cmp _ _ _ _ ?_))))
  refine wpAny_bind (wpAny_holding (wpAny_truthy_bool ?_))
  refine wpAny_bind (wpAny_letGo (wpAny_pure ?_))
  -- the end
  have fin : ∀ (s4 : Shared) (ub : Value) (vb : V) (k4 : Value), Mid X pins σ H2 s4 T It S 2 #[ux, uy] #[ub, k4] → RelV vb ub → Q vb H2 →
      codeAny (model X.prog X.w) X.A (.builtin "min.loop" ⟨[.ref It, .ref f, .ref S], []⟩) (fun r s' => match r with | .ok (.ret v) => EP X pins σ Q v s' | .ok _ => False | .error e => E e s') s4 := by
    intro s4 ub vb k4 M rb qb
    obtain ⟨c4, hS4⟩ := M.lst
    refine codeAny_builtin PySem.F.entry_min_loop ?_
    rw [Around.under_plainId PySem.F.plain_min_loop _]
    show wpAny _ X.A.in1 (seqItems? (.ref S) >>= _) _ _ _
    refine wpAny_bind (wpAny_seqItems hS4 rfl ?_)
    show wpAny _ X.A.in1 (tryCatch (pyNext (.ref It)) _ >>= _) _ _ _
    refine wpAny_bind (wpAny_tryCatch (W.done _ _ _ ⟨M.it, M.tup⟩ fun h' tk' hk' => ?_))
    have hS5 := hk' S _ (by simpa using M.nIS.symm) hS4
    have I6 := M.inv.turnedL (t' := tk') hk' (fun b hb => by rw [List.mem_singleton.mp hb]; exact M.fI)
    show wpAny _ X.A.in1 (updateSeq S (fun _ => #[]) >>= _) _ _ _
    refine wpAny_bind ?_
    have sb := Heap.SameBut.update h' S (Obj.mapSeq fun _ => (#[] : Array Value))
    refine wpAny_updateSeq hS5 rfl (wpAny_bind (wpAny_letGo (wpAny_pure ?_)))
    exact ⟨vb, H2, I6.turnedL (ch := [S]) (t' := tk') (fun b o hb e => (sb.2 b (fun z => hb (by simp [z]))).trans e) (fun b hb => by rw [List.mem_singleton.mp hb]; exact M.fS), rb, qb⟩
  cases hb2 : ltKey j u i z with
  | true =>
    rw [hb2, if_pos rfl] at hq
    simp only [if_true]
    refine wpAny_bind ?_
    have sb3 : Heap.SameBut S s2.heap (s2.heap.update S (Obj.mapSeq fun _ => #[uy, .ref a2])) := Heap.SameBut.update s2.heap S (Obj.mapSeq fun _ => (#[uy, .ref a2] : Array Value))
    obtain ⟨c5, hc5⟩ : ∃ c5, (s2.heap.update S (Obj.mapSeq fun _ => #[uy, .ref a2])).get? S = some (seqObj "list" #[uy, .ref a2] c5) := ⟨_, get?_update_seq hS3 fun _ => #[uy, .ref a2]⟩
    refine wpAny_updateSeq hS3 rfl (wpAny_bind (wpAny_letGo ?_))
    rw [hname]
    exact wpAny_pure ⟨plainId_quiet PySem.F.plain_min_loop _, fin _ uy y (.ref a2) (M5.put (tk := s2.toks) hc5 (fun b o hb e => (sb3.2 b (fun z => hb (by simp [z]))).trans e)) ry hq⟩
  | false =>
    rw [hb2, if_neg Bool.false_ne_true] at hq
    simp only [Bool.false_eq_true, if_false]
    refine wpAny_bind (wpAny_letGo ?_)
    rw [hname]
    exact wpAny_pure ⟨plainId_quiet PySem.F.plain_min_loop _, fin _ ux x (.ref a1) M5 rx hq⟩

theorem kmk_max_key2 (a b v : Value) : argsOk "max" ⟨[a, b], [(Str.ofString "key", v)]⟩ := by unfold argsOk; kernel_rfl
theorem run_max2 {k : Nat} {f : Addr} {fd : FuncData} {ps : List Str} {sp : Sp} {Q : VK} {x y : V} {ux uy : Value} {E : Value → Shared → Prop} (F : FnG X.prog X.w X.K X.mg X.base k f fd ps sp) (hr : RoomG (k + 1) X.A) (hb : Binds X.K fd ps [])
    (I0 : Inv X pins σ H s) (rx : RelV x ux) (ry : RelV y uy)
    (h : sp [x] H (fun k1 H1 => sp [y] H1 (fun k2 H2 => ∃ a1 i z a2 j u, k1 = .ref a1 ∧ k2 = .ref a2 ∧ SqT X.K H2 a1 [.int i, .str z] ∧ SqT X.K H2 a2 [.int j, .str u] ∧ Q (if ltKey i z j u = true then y else x) H2) E0) E0) :
    wpAny (model X.prog X.w) X.A (call (.builtin "max") [ux, uy] [(Str.ofString "key", .ref f)]) (EP X pins σ Q) E s := by
  have hh : X.A.in1.handled = none := hr.r.hd
  have hr1 : RoomG k X.A.in1 := hr.in1
  have hu2 : X.A.in1.units < cLine := hr1.r.units0
  have hu : X.A.in1.in1.units < cLine := by have := hr.r.un; show X.A.units + 1 + 1 < _; omega
  have hname : (toString "max" ++ toString ".loop" : String) = "max.loop" := by decide
  refine kmk_tree PySem.F.kind_max PySem.F.plain_max PySem.F.entry_max (kmk_max_key2 _ _ _) ?_
  show wpAny _ _ (Builtin.Builtins.bindParams "max" ["key", "default"] 0 ⟨[], [(Str.ofString "key", .ref f)]⟩ >>= _) _ _ s
  refine wpAny_bind (wpAny_of_eq (show Builtin.Builtins.bindParams "max" ["key", "default"] 0 ⟨[], [(Str.ofString "key", .ref f)]⟩ = pure [some (.ref f), none] from rfl) ?_)
  show wpAny _ X.A.in1 (newTuple [ux, uy] >>= _) _ _ s
  refine wpAny_bind (wpAny_newObj_type ?_)
  have hT : (s.heap.push { cls := .type "tuple", data := .seq #[ux, uy] }).IsTuple s.heap.objs.size #[ux, uy] := ⟨_, Heap.get?_push_size _ rfl, rfl, 0, rfl⟩
  have z1 : (s.heap.push { cls := .type "tuple", data := .seq #[ux, uy] }).objs.size = s.heap.objs.size + 1 := Heap.size_push ..
  refine wpAny_bind (wpAny_pyIter_tuple hT ?_)
  refine wpAny_bind (wpAny_newList ?_ (Nat.zero_le _))
  rw [hname]
  have fr := I0.hok
  have z2 : ((s.heap.push { cls := .type "tuple", data := .seq #[ux, uy] }).push { cls := .type "tuple_iterator", data := .fields #[.ref s.heap.objs.size, .int 0 0] }).objs.size = s.heap.objs.size + 2 := by rw [Heap.size_push, z1]
  have fpT : FpOk X pins H s.heap.objs.size := I0.fpOk (Nat.le_refl _) (fr.fresh (Nat.le_refl _))
  have fpI : FpOk X pins H (s.heap.push { cls := .type "tuple", data := .seq #[ux, uy] }).objs.size := I0.fpOk (by rw [z1]; omega) (fr.fresh (by rw [z1]; omega))
  have fpS : FpOk X pins H ((s.heap.push { cls := .type "tuple", data := .seq #[ux, uy] }).push { cls := .type "tuple_iterator", data := .fields #[.ref s.heap.objs.size, .int 0 0] }).objs.size := I0.fpOk (by rw [z2]; omega) (fr.fresh (by rw [z2]; omega))
  refine wpAny_pure ⟨plainId_quiet PySem.F.plain_max_loop _, ?_⟩
  obtain ⟨T, eT⟩ : ∃ T, T = s.heap.objs.size := ⟨_, rfl⟩
  obtain ⟨It, eI⟩ : ∃ It, It = (s.heap.push { cls := .type "tuple", data := .seq #[ux, uy] }).objs.size := ⟨_, rfl⟩
  obtain ⟨S, eS⟩ : ∃ S, S = ((s.heap.push { cls := .type "tuple", data := .seq #[ux, uy] }).push { cls := .type "tuple_iterator", data := .fields #[.ref s.heap.objs.size, .int 0 0] }).objs.size := ⟨_, rfl⟩
  have nTI : T ≠ It := by rw [eT, eI, z1]; omega
  have nTS : T ≠ S := by rw [eT, eS, z2]; omega
  have nIS : It ≠ S := by rw [eI, eS, z1, z2]; omega
  have M0 : Mid X pins σ H { s with heap := ((s.heap.push { cls := .type "tuple", data := .seq #[ux, uy] }).push { cls := .type "tuple_iterator", data := .fields #[.ref s.heap.objs.size, .int 0 0] }).push (seqObj "list" #[] 0) } T It S 0 #[ux, uy] #[] := by
    have iI : (((s.heap.push { cls := .type "tuple", data := .seq #[ux, uy] }).push { cls := .type "tuple_iterator", data := .fields #[.ref s.heap.objs.size, .int 0 0] }).push (seqObj "list" #[] 0)).get? It = some { cls := .type "tuple_iterator", data := .fields #[.ref s.heap.objs.size, .int 0 0] } := by
      rw [eI]; exact Heap.get?_push_of_some _ (Heap.get?_push_size _ rfl)
    have iT : (((s.heap.push { cls := .type "tuple", data := .seq #[ux, uy] }).push { cls := .type "tuple_iterator", data := .fields #[.ref s.heap.objs.size, .int 0 0] }).push (seqObj "list" #[] 0)).get? T = some { cls := .type "tuple", data := .seq #[ux, uy] } := by
      rw [eT]; exact Heap.get?_push_of_some _ (Heap.get?_push_of_some _ (Heap.get?_push_size _ rfl))
    refine ⟨?_, ⟨_, iI, rfl, by rw [eT]; rfl⟩, ⟨_, iT, rfl, 0, rfl⟩, ⟨0, by rw [eS]; exact Heap.get?_push_size _ rfl⟩, by rw [eT]; exact fpT, by rw [eI]; exact fpI, by rw [eS]; exact fpS, nTI, nTS, nIS⟩
    exact I0.kept fun b o e => Heap.get?_push_of_some _ (Heap.get?_push_of_some _ (Heap.get?_push_of_some _ e))
  rw [← eS, ← eI]
  generalize ({ s with heap := ((s.heap.push { cls := .type "tuple", data := .seq #[ux, uy] }).push { cls := .type "tuple_iterator", data := .fields #[.ref s.heap.objs.size, .int 0 0] }).push (seqObj "list" #[] 0) } : Shared) = s3 at M0 ⊢
  clear fpT fpI fpS eT eI eS hT
  have W := Walks.tuple (prog := X.prog) (w := X.w) (A := X.A.in1) hh It T nTI #[ux, uy]
  -- the first turn
  obtain ⟨c0, hS⟩ := M0.lst
  refine codeAny_builtin PySem.F.entry_max_loop ?_
  rw [Around.under_plainId PySem.F.plain_max_loop _]
  show wpAny _ X.A.in1 (seqItems? (.ref S) >>= _) _ _ _
  refine wpAny_bind (wpAny_seqItems hS rfl ?_)
  show wpAny _ X.A.in1 (tryCatch (pyNext (.ref It)) _ >>= _) _ _ _
  refine wpAny_bind (wpAny_tryCatch (W.item 0 _ _ _ (by simp) ⟨M0.it, M0.tup⟩ fun v h' tk' hP hst' hk' => ?_))
  have hv : ux = v := by simpa using hP
  subst hv
  have M1 := M0.turned (tk := tk') hst'.1 hk'
  show wpAny _ X.A.in1 (tryCatch (holding [ux] (call (.ref f) [ux])) _ >>= _) _ _ _
  refine wpAny_bind (wpAny_tryCatch (wpAny_holding (wpAny_mono (M1.call F hr1 hb rx h fun v1 w1 s1 H1 M2 rv1 q1 => ?_) (fun w1 s1 hq => hq) fun _ _ hF => hF.elim)))
  have h2 := q1
  obtain ⟨c1, hS1⟩ := M2.lst
  show wpAny _ X.A.in1 (updateSeq S (fun _ => #[ux, w1]) >>= _) _ _ _
  refine wpAny_bind ?_
  refine wpAny_updateSeq hS1 rfl ?_
  rw [hname]
  have sb1 : Heap.SameBut S s1.heap (s1.heap.update S (Obj.mapSeq fun _ => #[ux, w1])) := Heap.SameBut.update s1.heap S (Obj.mapSeq fun _ => (#[ux, w1] : Array Value))
  obtain ⟨c2, hc2⟩ : ∃ c2, (s1.heap.update S (Obj.mapSeq fun _ => #[ux, w1])).get? S = some (seqObj "list" #[ux, w1] c2) := ⟨_, get?_update_seq hS1 fun _ => #[ux, w1]⟩
  have M3 := M2.put (tk := s1.toks) hc2 (fun b o hb e => (sb1.2 b (fun z => hb (by simp [z]))).trans e)
  refine wpAny_pure ⟨plainId_quiet PySem.F.plain_max_loop _, ?_⟩
  -- the second turn
  refine codeAny_builtin PySem.F.entry_max_loop ?_
  rw [Around.under_plainId PySem.F.plain_max_loop _]
  show wpAny _ X.A.in1 (seqItems? (.ref S) >>= _) _ _ _
  refine wpAny_bind (wpAny_seqItems hc2 rfl ?_)
  show wpAny _ X.A.in1 (tryCatch (pyNext (.ref It)) _ >>= _) _ _ _
  refine wpAny_bind (wpAny_tryCatch (W.item 1 _ _ _ (by simp) ⟨M3.it, M3.tup⟩ fun v h' tk' hP hst' hk' => ?_))
  have hv : uy = v := by simpa using hP
  subst hv
  have M4 := M3.turned (tk := tk') hst'.1 hk'
  show wpAny _ X.A.in1 (tryCatch (holding [uy] (call (.ref f) [uy])) _ >>= _) _ _ _
  refine wpAny_bind (wpAny_tryCatch (wpAny_holding (wpAny_mono (M4.call F hr1 hb ry h2 fun v2 w2 s2 H2 M5 rv2 q2 => ?_) (fun w2 s2 hq => hq) fun _ _ hF => hF.elim)))
  obtain ⟨a1, i, z, a2, j, u, e1, e2, sq3, sq2, hq⟩ := q2
  subst e1 e2
  obtain rfl : w2 = Value.ref a2 := rv2
  obtain rfl : w1 = Value.ref a1 := rv1
  obtain ⟨c3, hS3⟩ := M5.lst
  have cmp := (cmp_keys M5.inv sq3 sq2 hu hu2).2
  show wpAny _ X.A.in1 (tryCatch (holding [uy, .ref a2] (richCompare .Gt (.ref a2) (.ref a1) >>= _)) _ >>= _) _ _ _
  refine wpAny_bind (wpAny_tryCatch (wpAny_holding (wpAny_bind (cmp _ _ _ _ ?_))))
  refine wpAny_bind (wpAny_holding (wpAny_truthy_bool ?_))
  refine wpAny_bind (wpAny_letGo (wpAny_pure ?_))
  -- the end
  have fin : ∀ (s4 : Shared) (ub : Value) (vb : V) (k4 : Value), Mid X pins σ H2 s4 T It S 2 #[ux, uy] #[ub, k4] → RelV vb ub → Q vb H2 →
      codeAny (model X.prog X.w) X.A (.builtin "max.loop" ⟨[.ref It, .ref f, .ref S], []⟩) (fun r s' => match r with | .ok (.ret v) => EP X pins σ Q v s' | .ok _ => False | .error e => E e s') s4 := by
    intro s4 ub vb k4 M rb qb
    obtain ⟨c4, hS4⟩ := M.lst
    refine codeAny_builtin PySem.F.entry_max_loop ?_
    rw [Around.under_plainId PySem.F.plain_max_loop _]
    show wpAny _ X.A.in1 (seqItems? (.ref S) >>= _) _ _ _
    refine wpAny_bind (wpAny_seqItems hS4 rfl ?_)
    show wpAny _ X.A.in1 (tryCatch (pyNext (.ref It)) _ >>= _) _ _ _
    refine wpAny_bind (wpAny_tryCatch (W.done _ _ _ ⟨M.it, M.tup⟩ fun h' tk' hk' => ?_))
    have hS5 := hk' S _ (by simpa using M.nIS.symm) hS4
    have I6 := M.inv.turnedL (t' := tk') hk' (fun b hb => by rw [List.mem_singleton.mp hb]; exact M.fI)
    show wpAny _ X.A.in1 (updateSeq S (fun _ => #[]) >>= _) _ _ _
    refine wpAny_bind ?_
    have sb := Heap.SameBut.update h' S (Obj.mapSeq fun _ => (#[] : Array Value))
    refine wpAny_updateSeq hS5 rfl (wpAny_bind (wpAny_letGo (wpAny_pure ?_)))
    exact ⟨vb, H2, I6.turnedL (ch := [S]) (t' := tk') (fun b o hb e => (sb.2 b (fun z => hb (by simp [z]))).trans e) (fun b hb => by rw [List.mem_singleton.mp hb]; exact M.fS), rb, qb⟩
  cases hb2 : ltKey i z j u with
  | true =>
    rw [hb2, if_pos rfl] at hq
    simp only [if_true]
    refine wpAny_bind ?_
    have sb3 : Heap.SameBut S s2.heap (s2.heap.update S (Obj.mapSeq fun _ => #[uy, .ref a2])) := Heap.SameBut.update s2.heap S (Obj.mapSeq fun _ => (#[uy, .ref a2] : Array Value))
    obtain ⟨c5, hc5⟩ : ∃ c5, (s2.heap.update S (Obj.mapSeq fun _ => #[uy, .ref a2])).get? S = some (seqObj "list" #[uy, .ref a2] c5) := ⟨_, get?_update_seq hS3 fun _ => #[uy, .ref a2]⟩
    refine wpAny_updateSeq hS3 rfl (wpAny_bind (wpAny_letGo ?_))
    rw [hname]
    exact wpAny_pure ⟨plainId_quiet PySem.F.plain_max_loop _, fin _ uy y (.ref a2) (M5.put (tk := s2.toks) hc5 (fun b o hb e => (sb3.2 b (fun z => hb (by simp [z]))).trans e)) ry hq⟩
  | false =>
    rw [hb2, if_neg Bool.false_ne_true] at hq
    simp only [Bool.false_eq_true, if_false]
    refine wpAny_bind (wpAny_letGo ?_)
    rw [hname]
    exact wpAny_pure ⟨plainId_quiet PySem.F.plain_max_loop _, fin _ ux x (.ref a1) M5 rx hq⟩
end
end PKS
namespace PKS
open PySem PySem.Spec PyProof.Rows L2
def key2D (c : Cl) (m : List Nat) (mx : Bool) (x y : PK.D) (G : Cells) : PK.R := (c m [x] G).safe.bind fun k G3 => (c m [y] G3).safe.bind fun l G4 => PK.optK (PK.ltK mx k l) (fun t => .ok (if t then y else x) G4) .bad
def key2A (c : Cl) (m : List Nat) (mx : Bool) (ds : List PK.D) (G : Cells) : PK.R := match ds with
  | [x, y] => key2D c m mx x y G
  | _ => .bad
def rKey (X : Cx) (mx : Bool) (f : Addr) (sp : Sp) : List V → List V → Hp → VK → Prop := fun vs zs H Q => ∃ x y, vs = [x, y] ∧ zs = [.ref f] ∧
  sp [x] H (fun k1 H1 => sp [y] H1 (fun k2 H2 => ∃ a1 i z a2 j u, k1 = .ref a1 ∧ k2 = .ref a2 ∧ SqT X.K H2 a1 [.int i, .str z] ∧ SqT X.K H2 a2 [.int j, .str u] ∧ Q (if (if mx then ltKey i z j u else ltKey j u i z) = true then y else x) H2) E0) E0
def noStarP (e : Expr) : Prop := ∀ (es : List Expr) (env : Env), starEach (e :: es) env = (false, eval e env) :: starEach es env
def keyN : Bool → String
  | false => "min"
  | true => "max"
section
variable {X : Cx} {lk : Lk} {k : Nat} {f : Addr} {fd : FuncData} {ps : List Str} {sp : Sp} {x fn : Str} {p p2 kpos pos : Pos} {e e2 : Expr} {er : Ev} {cl : Cl} {m : List Nat}
theorem cr_key (mx : Bool) (F : FnG X.prog X.w X.K X.mg X.base k f fd ps sp) (hr : RoomG (k + 1) X.A) (hb : Binds X.K fd ps []) : CallRK X (.builtin (keyN mx)) [Str.ofString "key"] (rKey X mx f sp) := by
  intro pins s σ H xs zs us ws Q I r1 r2 h
  obtain ⟨a, b, rfl, rfl, h⟩ := h
  cases r1 with
  | cons ra r1 => cases r1 with
    | cons rb r1 => cases r1 with
      | nil => cases r2 with
        | cons rf r2 => cases r2 with
          | nil =>
            rename_i w
            obtain rfl : w = Value.ref f := rf
            cases mx with
            | false => exact run_min2 F hr hb I ra rb h
            | true => exact run_max2 F hr hb I ra rb h
theorem pe_key (mx : Bool) (F : FnG X.prog X.w X.K X.mg X.base k f fd ps sp) (hr : RoomG (k + 1) X.A) (hb : Binds X.K fd ps []) (hg : Gl X (Str.ofString (keyN mx))) (hm : X.mg (Str.ofString (keyN mx)) = none) {t : TA} (ha : PA X [e, e2] t)
    (hgf : Gl X fn) (hmf : X.mg fn = some (.ref f)) (hdf : (fn == ("__debug__" : Str)) = false) (s1 : noStarP e) (s2 : noStarP e2) :
    PE X (.Call (.Name (Str.ofString (keyN mx)) p) [e, e2] [⟨some (Str.ofString "key"), .Name fn p2, kpos⟩] pos) (tCKw (rKey X mx f sp) t (tCons (tC (.ref f)) tNil)) := by
  have hk : PK X [⟨some (Str.ofString "key"), .Name fn p2, kpos⟩] (tCons (tC (.ref f)) tNil) := pk_cons (pe_glob hgf hmf rfl hdf) pk_nil
  have st2 : starEach [e2] X.env = [(false, eval e2 X.env)] := s2 [] X.env
  have st1 : starEach [e, e2] X.env = (false, eval e X.env) :: starEach [e2] X.env := s1 [e2] X.env
  cases mx with
  | false => exact pe_callBK (cr_key false F hr hb) hg hm (by decide +kernel) ha hk (by decide +kernel) (by decide +kernel) (by rw [st1]; rfl) (by rw [st1, st2]; rfl)
  | true => exact pe_callBK (cr_key true F hr hb) hg hm (by decide +kernel) ha hk (by decide +kernel) (by decide +kernel) (by rw [st1]; rfl) (by rw [st1, st2]; rfl)

theorem tup2 {K : PySem.W.Frag} {lk : Lk} {ρ : Nm} {n : Nat} {H : Hp} {i : Int} {z : Str} {v : V} (h : Rep K lk ρ n H (.tup [.int i, .str z]) v) : ∃ a, v = .ref a ∧ SqT K H a [.int i, .str z] := by
  obtain ⟨a, vs, rfl, ht, y, ys, rfl, py, z', zs, rfl, pz, rfl⟩ := h
  obtain rfl : y = V.int i := py
  obtain rfl : z' = V.str z := pz
  exact ⟨a, rfl, ht.sq⟩
theorem ltK_some {mx : Bool} {k l : PK.D} {t : Bool} (h : PK.ltK mx k l = some t) : ∃ i z j u, k = .tup [.int i, .str z] ∧ l = .tup [.int j, .str u] ∧ t = (if mx then ltKey i z j u else ltKey j u i z) := by
  unfold PK.ltK at h
  split at h
  · rename_i i z j u
    exact ⟨i, z, j, u, rfl, rfl, by
      have h := Option.some.inj h
      rw [← h]; cases mx <;> rfl⟩
  · cases h
theorem le_key2 (mx : Bool) (F : FnG X.prog X.w X.K X.mg X.base k f fd ps (spC X.K lk cl)) (hr : RoomG (k + 1) X.A) (hb : Binds X.K fd ps []) (hg : Gl X (Str.ofString (keyN mx))) (hm : X.mg (Str.ofString (keyN mx)) = none) (ha : LA X lk [e, e2] er)
    (hgf : Gl X fn) (hmf : X.mg fn = some (.ref f)) (hdf : (fn == ("__debug__" : Str)) = false) (s1 : noStarP e) (s2 : noStarP e2) :
    LE X lk (.Call (.Name (Str.ofString (keyN mx)) p) [e, e2] [⟨some (Str.ofString "key"), .Name fn p2, kpos⟩] pos) (thenA er (key2A cl m mx)) := by
  refine pe_imp (pe_key mx F hr hb hg hm ha hgf hmf hdf s1 s2) fun σ H Q ⟨ρ, G, s, r, en, h⟩ => ⟨ρ, G, s, r, en, OutE.args h fun ds G1 ρ1 H1 xs e1 r1 p1 h1 => ?_⟩
  show rKey X mx f (spC X.K lk cl) xs [.ref f] H1 Q
  match ds, p1, h1 with
  | [], _, h1 => exact h1.elim
  | [_], _, h1 => exact h1.elim
  | _ :: _ :: _ :: _, _, h1 => exact h1.elim
  | [dx, dy], p1, h1 =>
    obtain ⟨x, xs', rfl, px, y, xs'', rfl, py, rfl⟩ := p1
    refine ⟨x, y, rfl, rfl, lk.Z, m, ρ1, G1, [dx], r1, ⟨x, [], rfl, px, rfl⟩, ?_⟩
    have h1 : OutE X.K lk (WXo X) σ ρ1 G1 H1 ((cl m [dx] G1).safe.bind fun k G3 => (cl m [dy] G3).safe.bind fun l G4 => PK.optK (PK.ltK mx k l) (fun t => .ok (if t then dy else dx) G4) .bad) Q := h1
    show OutE X.K lk (fun cls d _ H => E0 cls d H) [] ρ1 G1 H1 (cl m [dx] G1) _
    cases q1 : cl m [dx] G1 with
    | bad => rw [q1] at h1; exact h1.elim
    | exc c G3 => rw [q1] at h1; exact h1.elim
    | ok kk G3 =>
      rw [q1] at h1
      have h1 : OutE X.K lk (WXo X) σ ρ1 G1 H1 ((cl m [dy] G3).safe.bind fun l G4 => PK.optK (PK.ltK mx kk l) (fun t => .ok (if t then dy else dx) G4) .bad) Q := h1
      intro ρ2 H2 v ex2 r2 pk
      refine ⟨lk.Z, m, ρ2, G3, [dy], r2, ⟨y, [], rfl, Rep.ext ex2 _ _ py, rfl⟩, ?_⟩
      show OutE X.K lk (fun cls d _ H => E0 cls d H) [] ρ2 G3 H2 (cl m [dy] G3) _
      cases q2 : cl m [dy] G3 with
      | bad => rw [q2] at h1; exact h1.elim
      | exc c G4 => rw [q2] at h1; exact h1.elim
      | ok ll G4 =>
        rw [q2] at h1
        intro ρ3 H3 w ex3 r3 pl
        have h3 : OutE X.K lk (WXo X) σ ρ1 G1 H1 (PK.optK (PK.ltK mx kk ll) (fun t => .ok (if t then dy else dx) G4) .bad) Q := h1
        clear h1
        cases q3 : PK.ltK mx kk ll with
        | none => rw [q3] at h3; exact h3.elim
        | some t =>
          rw [q3] at h3
          have h4 : ∀ ρ' H' x, Ext ρ1 G1.length H1 ρ' G4.length H' → Rel X.K lk ρ' G4 H' → Rep X.K lk ρ' G4.length H' (if t then dy else dx) x → Q x H' := h3
          clear h3
          obtain ⟨i, z, j, u, rfl, rfl, ht⟩ := ltK_some q3
          obtain ⟨a1, e1', sq1⟩ := tup2 (Rep.ext ex3 _ _ pk)
          obtain ⟨a2, e2', sq2⟩ := tup2 pl
          refine ⟨a1, i, z, a2, j, u, e1', e2', sq1, sq2, ?_⟩
          rw [← ht]
          refine h4 ρ3 H3 _ (ex2.trans ex3) r3 ?_
          cases t with
          | true => exact Rep.ext (ex2.trans ex3) _ _ py
          | false => exact Rep.ext (ex2.trans ex3) _ _ px
end
end PKS
namespace PKS
open PySem PySem.Spec PyProof.Rows L2
open PySem.W (EachIs)
def kOf {α : Type} (b : (Int × Str) × α) : PyData := .tuple [.int b.1.1, .str b.1.2]
open PK (leKV sortKV)
theorem dataLe_kv {α : Type} : PySem.W.dataLe false (kOf (α := α)) = leKV := by
  funext a b
  show (!PySem.W.dataLt (kOf b) (kOf a)) = !PK.ltKS b.1 a.1
  unfold kOf PK.ltKS
  rw [PySem.W.dataLt_pair (by simp [PySem.W.alike]) (by simp [PySem.W.alike]), PySem.W.dataLt_int, PySem.W.dataLt_str]
  by_cases c : b.1.1 = a.1.1
  · by_cases d : b.1.2 = a.1.2
    · simp [c, d, PyData.eqv, List.lt_irrefl]
    · simp [c, d, PyData.eqv]
  · simp [c, PyData.eqv]
def rKeys (sp : Sp) (Q : List V → Hp → Prop) : List V → List V → Hp → Prop
  | [], acc, H => Q acc H
  | x :: xs, acc, H => sp [x] H (fun k H1 => rKeys sp Q xs (acc ++ [k]) H1) E0
def KeysAre (K : PySem.W.Frag) (H : Hp) : List V → List (Int × Str) → Prop
  | [], [] => True
  | k :: ks, i :: is => (∃ a, k = .ref a ∧ SqT K H a [.int i.1, .str i.2]) ∧ KeysAre K H ks is
  | _, _ => False
def rSortK (K : PySem.W.Frag) (f : Addr) (sp : Sp) : List V → List V → Hp → VK → Prop := fun vs zs H Q => ∃ a xs, vs = [.ref a] ∧ zs = [.ref f] ∧ SqL K H a xs ∧
  rKeys sp (fun ks H1 => ∃ is, KeysAre K H1 ks is ∧ ∀ p, H1 p = none → Q (.ref p) (upd H1 p (.lst (sortKV is xs)))) xs [] H
section
variable {X : Cx} {pins : List (Addr × Obj)} {σ : L2.St} {H : Hp} {s : Shared}
theorem RoomG.in2 {k : Nat} {A : Around} (r : RoomG (k + 1) A) : RoomG k A.in1.in1 := ⟨⟨r.r.hd, by have := r.r.dp; show A.depth + 3 * k + 5 < _; omega, by have := r.r.un; show A.units + 1 + 1 + 16 * k + 200 < _; omega⟩, r.g⟩
theorem run_G2 {k : Nat} {f : Addr} {fd : FuncData} {ps : List Str} {sp : Sp} {Q : VK} {us : List Value} {vs : List V} (F : FnG X.prog X.w X.K X.mg X.base k f fd ps sp) (hr : RoomG k X.A.in1.in1) (hb : Binds X.K fd ps [])
    (I : Inv X pins σ H s) (r : Vals vs us) (h : sp vs H Q E0) : wpAny (model X.prog X.w) X.A.in1.in1 (call (.ref f) us) (EP X pins σ Q) (fun _ _ => False) s := by
  have hl : (us ++ []).length = ps.length := by rw [List.append_nil, ← r.length]; exact F.len _ _ _ _ h
  refine wpAny_call (codeAny_mono (F.run X.A.in1.in1 X.stack s H ⟨us, []⟩ (us ++ []) vs Q E0 hr I.env0.in1.in1 (hb s us I.kIn hl) (by rw [List.append_nil]; exact r) h) fun r' s' hq => ?_)
  have z := CR_back I hq
  cases r' with
  | error e => exact z.elim
  | ok fl =>
    cases fl with
    | ret u => exact z
    | _ => exact z.elim
structure MidS (X : Cx) (pins : List (Addr × Obj)) (σ : L2.St) (H : Hp) (s : Shared) (D S : Addr) (e1 : Nat) (cs : Array Value) : Prop where
  inv : Inv X pins σ H s
  lst : ∃ c, s.heap.get? S = some (seqObj "list" cs c)
  dat : s.heap.get? D = some (seqObj "list" #[] e1)
  fD : FpOk X pins H D
  fS : FpOk X pins H S
  ne : S ≠ D
theorem MidS.call {k : Nat} {f : Addr} {fd : FuncData} {ps : List Str} {sp : Sp} {D S : Addr} {e1 : Nat} {cs : Array Value} {Q : VK} {x : V} {u : Value} {R : Value → Shared → Prop} (M : MidS X pins σ H s D S e1 cs)
    (F : FnG X.prog X.w X.K X.mg X.base k f fd ps sp) (hr : RoomG k X.A.in1.in1) (hb : Binds X.K fd ps []) (rx : RelV x u) (h : sp [x] H Q E0)
    (done : ∀ v w s' H', MidS X pins σ H' s' D S e1 cs → RelV v w → Q v H' → R w s') : wpAny (model X.prog X.w) X.A.in1.in1 (call (.ref f) [u]) R (fun _ _ => False) s := by
  obtain ⟨c, hS⟩ := M.lst
  have I1 : Inv X ((D, seqObj "list" #[] e1) :: (S, seqObj "list" cs c) :: pins) σ H s := by
    refine pin_add (pin_add M.inv hS (fp_nil M.fS) fun v z => ?_) M.dat (fp_nil M.fD) fun v z => ?_
    · cases z
    · cases z
  refine wpAny_mono (run_G2 F hr hb I1 (.cons rx .nil) h) (fun w s' hq => ?_) fun _ _ hF => hF
  obtain ⟨v, H', I2, rv, q⟩ := hq
  have pD := I2.pin (D, seqObj "list" #[] e1) (List.mem_append_right _ (by simp))
  have pS := I2.pin (S, seqObj "list" cs c) (List.mem_append_right _ (by simp))
  exact done v w s' H' ⟨pin_drop (pin_drop I2), ⟨c, pS.1⟩, pD.1, fp_at M.fD pD.2.1, fp_at M.fS pS.2.1, M.ne⟩ rv q
theorem MidS.put {D S : Addr} {e1 c' : Nat} {cs cs' : Array Value} {h' : Heap} {tk : Nat} (M : MidS X pins σ H s D S e1 cs) (g : h'.get? S = some (seqObj "list" cs' c')) (k : ∀ b o, b ∉ [S] → s.heap.get? b = some o → h'.get? b = some o) :
    MidS X pins σ H { s with heap := h', toks := tk } D S e1 cs' :=
  ⟨M.inv.turnedL k (fun b hb => by rw [List.mem_singleton.mp hb]; exact M.fS), ⟨c', g⟩, k D _ (by simpa using M.ne.symm) M.dat, M.fD, M.fS, M.ne⟩
theorem adopt {D S : Addr} {o : HO} {h' : Heap} {t' : Nat} (I : Inv X pins σ H s) (f : FpOk X pins H D) (fS : FpOk X pins H S) (k : ∀ b u, b ≠ D → b ≠ S → s.heap.get? b = some u → h'.get? b = some u) (new : ObjOk X.prog X.w (upd H D o) h' D o) :
    Inv X pins σ (upd H D o) { s with heap := h', toks := t' } := by
  have nD : ∀ b u, H b = some u → b ≠ D := fun b u e z => by rw [z, f.1] at e; cases e
  have nS : ∀ b u, H b = some u → b ≠ S := fun b u e z => by rw [z, fS.1] at e; cases e
  have both : ∀ b, b ∉ [D, S] → b ≠ D ∧ b ≠ S := fun b hb => ⟨fun z => hb (by simp [z]), fun z => hb (by simp [z])⟩
  refine I.step (g' := s.gens) (d' := s.drawn) (ch := [D, S]) (fun b hb => ?_) (fun b u _ _ hc e _ => k b u (both b hc).1 (both b hc).2 e) (fun b u _ _ hc e _ => ⟨u.slots, k b u (both b hc).1 (both b hc).2 e⟩)
    (fun b u hc e n => by rw [upd_ne (both b hc).1]; exact n) (fun b u hc e => ⟨u, k b u (both b hc).1 (both b hc).2 e⟩) (fun b xs e => by rw [upd_ne (nD _ _ e)]; exact e) (fun b u v e => by rw [upd_ne (nD _ _ e)]; exact e) (fun b ps e => ⟨#[], by rw [upd_ne (nD _ _ e), e]; simp⟩) (fun m hm => ?_) (fun b u e => ?_) I.bare
  · rcases List.mem_cons.mp hb with rfl | hb
    · exact ⟨f.2.2.2.1, f.2.1, f.2.2.2.2.1, f.2.2.2.2.2⟩
    · rw [List.mem_singleton.mp hb]; exact ⟨fS.2.2.2.1, fS.2.1, fS.2.2.2.2.1, fS.2.2.2.2.2⟩
  · obtain ⟨o2, es, ep, ho, r⟩ := hm
    exact ⟨o2, es, ep, k _ o2 (fun z => f.2.1 z.symm) (fun z => fS.2.1 z.symm) ho, r⟩
  · by_cases hb : b = D
    · subst hb; rw [upd_same] at e; cases e; exact new
    · rw [upd_ne hb] at e
      exact (I.hok b u e).stay (fun c v q z => k c v (fun y => q.elim (fun r => hb (r.symm.trans y)) fun r => nD _ _ r y) (fun y => q.elim (fun r => nS _ _ e (r.symm.trans y)) fun r => nS _ _ r y) z) (fun c q => by rw [upd_ne (nD _ _ q)]; exact q) fun c xs q => by rw [upd_ne (nD _ _ q)]; exact q
theorem keys_snoc {K : PySem.W.Frag} : ∀ {ks : List V} {is : List (Int × Str)} {vs : List Value}, KeysAre K H ks is → Vals ks vs → X.K = K → Inv X pins σ H s →
    EachIs (fun v d => ∃ as, Reads s.heap v d as) vs (is.map fun i => PyData.tuple [.int i.1, .str i.2])
  | [], [], _, _, .nil, _, _ => .nil
  | k :: ks, i :: is, _, h, .cons r rs, e, I => by
    obtain ⟨⟨a, rfl, sq⟩, h⟩ := h
    subst e
    obtain ⟨its, rv, ⟨o, ho, hc, n, hd⟩, z⟩ := I.tuple sq
    obtain rfl := r
    refine .cons ⟨[] ++ ([] ++ []), .tuple ho hc hd ?_⟩ (keys_snoc h rs rfl I)
    cases rv with
    | cons e1 rv => cases rv with
      | cons e2 rv => cases rv with
        | nil =>
          obtain ⟨t1, rfl⟩ := e1
          obtain ⟨t2, rfl⟩ := e2
          exact .cons (.int _ _) (.cons (.str _ _) .nil)
  | [], _ :: _, _, h, _, _, _ => h.elim
  | _ :: _, [], _, h, _, _, _ => h.elim
theorem keys_len {K : PySem.W.Frag} : ∀ {ks : List V} {is : List (Int × Str)}, KeysAre K H ks is → ks.length = is.length
  | [], [], _ => rfl
  | _ :: _, _ :: _, h => by rw [List.length_cons, List.length_cons, keys_len h.2]
  | [], _ :: _, h => h.elim
  | _ :: _, [], h => h.elim
theorem vals_at : ∀ {xs : List V} {us : List Value}, Vals xs us → ∀ (j : Nat) {x : V} {u : Value}, xs[j]? = some x → us[j]? = some u → RelV x u
  | _, _, .nil, j, _, _, h, _ => by simp at h
  | _, _, .cons r rs, 0, _, _, h1, h2 => by
    cases h1; cases h2; exact r
  | _, _, .cons r rs, j + 1, _, _, h1, h2 => vals_at rs j (by simpa using h1) (by simpa using h2)
theorem zip_is : ∀ {xs : List V} {us : List Value} (is : List (Int × Str)), Vals xs us → is.length = xs.length → EachIs (fun v (b : (Int × Str) × V) => RelV b.2 v) us (is.zip xs)
  | _, _, [], .nil, _ => .nil
  | _, _, i :: is, .cons r rs, h => .cons r (zip_is is rs (by simpa using h))
  | _, _, _ :: _, .nil, h => by simp at h
  | _, _, [], .cons r rs, h => by simp at h
theorem vals_of : ∀ {us : List Value} {bs : List ((Int × Str) × V)}, EachIs (fun v (b : (Int × Str) × V) => RelV b.2 v) us bs → Vals (bs.map (·.2)) us
  | _, _, .nil => .nil
  | _, _, .cons r rs => .cons r (vals_of rs)
theorem run_sortK {k : Nat} {f : Addr} {fd : FuncData} {ps : List Str} {sp : Sp} {Q : VK} {vs : List V} {us : List Value} {E : Value → Shared → Prop} (F : FnG X.prog X.w X.K X.mg X.base k f fd ps sp) (hr : RoomG (k + 1) X.A) (hb : Binds X.K fd ps [])
    (I0 : Inv X pins σ H s) (r1 : Vals vs us) (h : rSortK X.K f sp vs [.ref f] H Q) :
    wpAny (model X.prog X.w) X.A (call (.builtin "sorted") us [(Str.ofString "key", .ref f)]) (EP X pins σ Q) E s := by
  obtain ⟨l, xs, rfl, -, hs, h⟩ := h
  obtain ⟨its, rv, hl, hz⟩ := I0.list hs
  rw [Vals.ref1 r1]
  have hr2 : RoomG k X.A.in1.in1 := hr.in2
  have hln : its.length = xs.length := rv.length.symm
  refine PySem.W.sorted_of_sort hl.isList (by rw [hln]; exact hz) (ksk_s1 _ _) (fun _ => ksk_l1 _ _) fun E' => ?_
  rw [ksk_t1]
  obtain ⟨D, hD⟩ : ∃ D, D = s.heap.objs.size + 1 := ⟨_, rfl⟩
  rw [← hD]
  obtain ⟨h1, hh1⟩ : ∃ h1, h1 = PySem.W.copyHeap s.heap its := ⟨_, rfl⟩
  rw [← hh1]
  have hDat : h1.get? D = some (seqObj "list" its.toArray 0) := by rw [hh1, hD]; exact PySem.W.copyHeap_at s.heap its
  have old1 : ∀ b o, s.heap.get? b = some o → h1.get? b = some o := fun b o e => by rw [hh1]; exact PySem.W.copyHeap_old e
  unfold ksk_tree
  refine wpAny_bind (listItems_at hDat rfl ?_)
  refine wpAny_bind (listUpdate_at hDat rfl ?_ (by rw [List.size_toArray, hln]; exact hz) (Nat.zero_le _))
  obtain ⟨e1, ho1⟩ : ∃ e1, (h1.update D (Obj.mapSeq fun _ => (#[] : Array Value))).get? D = some (seqObj "list" #[] e1) := ⟨_, get?_update_seq hDat fun _ => #[]⟩
  refine wpAny_bind (seqEpoch_at ho1 rfl ?_)
  refine wpAny_bind (wpAny_newTuple ?_ (by show its.length ≤ _; rw [hln]; exact hz))
  refine wpAny_bind (wpAny_newList ?_ (Nat.zero_le _))
  refine wpAny_holding ?_
  obtain ⟨S, hS⟩ : ∃ S, S = ((h1.update D (Obj.mapSeq fun _ => (#[] : Array Value))).push (seqObj "tuple" its.toArray 0)).objs.size := ⟨_, rfl⟩
  have hS2 : S = h1.objs.size + 1 := by rw [hS, size_push', Heap.size_update]
  have hDlt : D < h1.objs.size := Heap.lt_size hDat
  rw [← hS]
  have M0 : MidS X pins σ H { s with heap := ((h1.update D (Obj.mapSeq fun _ => (#[] : Array Value))).push (seqObj "tuple" its.toArray 0)).push (seqObj "list" #[] 0) } D S e1 #[] := by
    have hD2 : s.heap.objs.size ≤ D := by omega
    have hS3 : s.heap.objs.size ≤ S := by omega
    have hk : ∀ b o, s.heap.get? b = some o → (((h1.update D (Obj.mapSeq fun _ => (#[] : Array Value))).push (seqObj "tuple" its.toArray 0)).push (seqObj "list" #[] 0)).get? b = some o := fun b o e => by
      have hb : b ≠ D := Nat.ne_of_lt (Nat.lt_of_lt_of_le (Heap.lt_size e) hD2)
      exact Heap.get?_push_of_some _ (Heap.get?_push_of_some _ ((Heap.get?_update_ne _ _ _ _ hb).trans (old1 b o e)))
    exact ⟨I0.kept hk, ⟨0, by rw [hS]; exact Heap.get?_push_size _ rfl⟩, Heap.get?_push_of_some _ (Heap.get?_push_of_some _ ho1), I0.fpOk hD2 (I0.hok.fresh hD2), I0.fpOk hS3 (I0.hok.fresh hS3), Nat.ne_of_gt (by rw [hS2]; exact Nat.lt_succ_of_lt hDlt)⟩
  generalize ({ s with heap := ((h1.update D (Obj.mapSeq fun _ => (#[] : Array Value))).push (seqObj "tuple" its.toArray 0)).push (seqObj "list" #[] 0) } : Shared) = s3 at M0 ⊢
  clear hS hS2 hDlt ho1 hDat old1 hh1 hD I0 hs hl
  unfold ksk_rest
  refine wpAny_bind (wpAny_rule ?_)
  first
    | rw [List.forIn_toArray]
    | (rw [← Array.forIn_toList]; simp only [List.toList_toArray])
    | rw [← Array.forIn_toList]
  refine wpAny_bind (ksk_fold (fun i s' => ∃ kA acc H', MidS X pins σ H' s' D S e1 kA ∧ Vals acc kA.toList ∧ acc.length = i ∧ rKeys sp (fun ks H1 => ∃ is, KeysAre X.K H1 ks is ∧ ∀ p, H1 p = none → Q (.ref p) (upd H1 p (.lst (sortKV is xs)))) (xs.drop i) acc H') its 0 s3
    ⟨#[], [], H, M0, .nil, rfl, h⟩ ?step ?done)
  case step =>
    rintro j x s' hx ⟨kA, acc, H', M, ra, la, hq⟩
    rw [Nat.zero_add] at hq la ⊢
    have hj : j < its.length := (List.getElem?_eq_some_iff.mp hx).1
    obtain ⟨y, hy⟩ : ∃ y, xs[j]? = some y := ⟨_, List.getElem?_eq_getElem (by omega)⟩
    have ry : RelV y x := vals_at rv j hy hx
    rw [Srt.drop_at xs j y hy] at hq
    refine wpAny_bind (wpAny_attempt (wpAny_mono (M.call F hr2 hb ry hq fun v w s2 H2 M2 rw2 q2 => ?_) (fun w s2 hw => hw) fun _ _ hF => hF.elim))
    obtain ⟨c, hSc⟩ := M2.lst
    have zk : kA.size ≤ sizeLine := by
      have hh : kA.size = j := by
        have h := Paired.length ra
        rw [la] at h; simpa using h.symm
      rw [hh]; exact Nat.le_trans (Nat.le_of_lt (by omega : j < xs.length)) hz
    refine wpAny_bind (listUpdate_at hSc rfl ?_ zk (Nat.le_trans (Nat.le_of_eq (Array.size_push ..)) (Nat.succ_le_succ zk)))
    have sb := Heap.SameBut.update s2.heap S (Obj.mapSeq (·.push w))
    obtain ⟨c2, hc2⟩ : ∃ c2, (s2.heap.update S (Obj.mapSeq (·.push w))).get? S = some (seqObj "list" (kA.push w) c2) := ⟨_, get?_update_seq hSc (·.push w)⟩
    refine wpAny_pure ⟨rfl, kA.push w, acc ++ [v], H2, M2.put (tk := s2.toks) hc2 fun b o hb e => (sb.2 b (by simpa using hb)).trans e, ?_, by rw [List.length_append, la]; rfl, q2⟩
    rw [Array.toList_push]
    exact ra.append (.cons rw2 .nil)
  case done =>
    rintro s' ⟨kA, acc, H', M, ra, la, hq⟩
    rw [Nat.zero_add] at la
    rw [Nat.zero_add, hln, List.drop_length] at hq
    obtain ⟨is, hk, hq⟩ : ∃ is, KeysAre X.K H' acc is ∧ ∀ p, H' p = none → Q (.ref p) (upd H' p (.lst (sortKV is xs))) := hq
    obtain ⟨c, hSc⟩ := M.lst
    refine wpAny_bind (listItems_at hSc rfl ?_)
    have ek := keys_snoc hk ra rfl M.inv
    have hil : is.length = xs.length := by rw [← keys_len hk, la, hln]
    have ez : (is.map fun i => PyData.tuple [.int i.1, .str i.2]) = (is.zip xs).map kOf := by
      have : is = (is.zip xs).map (·.1) := by rw [List.map_fst_zip (by omega)]
      conv => lhs; rw [this]
      rw [List.map_map]; rfl
    rw [ez] at ek
    have hsz : kA.size = its.length := by
      have h := Paired.length ra
      rw [la] at h; simpa using h.symm
    have al : PySem.W.AllAlike ((is.zip xs).map kOf) := PySem.W.AllAlike.of fun a b => by simp [kOf, PySem.W.alike, PySem.W.alikeAll]
    have sa : PySem.W.Sortable ((is.zip xs).map kOf) := PySem.W.Sortable.tuples fun b => ⟨_, _, rfl⟩
    have dp : ∀ d ∈ (is.zip xs).map kOf, X.A.in1.in1.units + d.depth < cLine := fun d hd => by
      obtain ⟨b, _, rfl⟩ := List.mem_map.mp hd
      have : (kOf b).depth ≤ 1 := by simp [kOf, PyData.depth, PyData.depthAll]
      have := hr2.r.un
      omega
    refine PySem.W.keyH_end (κ := PySem.W.dataKind s'.heap ((is.zip xs).map kOf)) (h₁ := PySem.W.hideAll s'.heap [S]) (fun b o _ e => PySem.W.of_hideAll _ e) (PySem.W.hideAll_none _ (by simp)) hSc M.dat M.ne (PySem.W.SortsAt.data ek al sa dp) hsz (by rw [hln]; exact hz) fun h' tk c' kp hD' => ⟨rfl, ?_⟩
    have ko : PySem.W.KeyedOut false ((is.zip xs).map kOf) its (PySem.W.sortVals (PySem.W.dataKind s'.heap ((is.zip xs).map kOf)) false kA.toList its) := ⟨s'.heap, kA.toList, al, rfl, ek⟩
    have rz : EachIs (fun v b => RelV b.2 v) its (is.zip xs) := zip_is is rv hil
    have eo := PySem.W.keyedOut_each kOf ko rz
    rw [dataLe_kv] at eo
    have ro : Vals (sortKV is xs) (PySem.W.sortVals (PySem.W.dataKind s'.heap ((is.zip xs).map kOf)) false kA.toList its) := vals_of eo
    have lo : (sortKV is xs).length ≤ sizeLine := by
      unfold sortKV; rw [List.length_map, List.length_mergeSort, List.length_zip, hil, Nat.min_self]; exact hz
    refine ⟨.ref D, upd H' D (.lst (sortKV is xs)), ?_, rfl, hq D M.fD.1⟩
    exact adopt M.inv M.fD M.fS (fun b u hb hb2 e => kp b u hb (PySem.W.hideAll_get _ e (by simpa using hb2))) ⟨lo, _, _, ro, hD'⟩
end
end PKS
namespace PKS
open PySem PySem.Spec PyProof.Rows L2
def skeyA (c : Cl) (m : List Nat) (w : Bool) (ds : List PK.D) (G : Cells) : PK.R := match ds with
  | [x] => PK.optK (PK.lstD G x) (fun es => PK.keysF (fun d G => c m [d] G) es G [] fun is G2 => PK.mkl w (PK.sortKV is es) G2) .bad
  | _ => .bad
section
variable {K : PySem.W.Frag} {lk : Lk} {ρ : Nm} {n : Nat} {H : Hp}
theorem reps_pairs : ∀ {ds : List PK.D} {xs : List V}, Reps K lk ρ n H ds xs → ∀ p ∈ ds.zip xs, Rep K lk ρ n H p.1 p.2
  | [], _, _, p, hp => by simp at hp
  | d :: ds, xs, h, p, hp => by
    obtain ⟨x, xs', rfl, h1, h2⟩ := h
    rcases List.mem_cons.mp hp with rfl | hp
    · exact h1
    · exact reps_pairs h2 p hp
theorem reps_of_pairs : ∀ {l : List (PK.D × V)}, (∀ p ∈ l, Rep K lk ρ n H p.1 p.2) → Reps K lk ρ n H (l.map (·.1)) (l.map (·.2))
  | [], _ => rfl
  | p :: l, h => ⟨p.2, l.map (·.2), rfl, h p List.mem_cons_self, reps_of_pairs fun q hq => h q (List.mem_cons_of_mem _ hq)⟩
theorem sortKV_map {α β : Type} (f : α → β) (is : List (Int × Str)) (l : List α) : PK.sortKV is (l.map f) = (PK.sortKV is l).map f := by
  unfold PK.sortKV
  have e : is.zip (l.map f) = (is.zip l).map (fun p => (p.1, f p.2)) := by
    induction is generalizing l with
    | nil => rfl
    | cons i is ih => cases l with
      | nil => rfl
      | cons x l => simp [ih]
  rw [e, ← List.map_mergeSort (r := PK.leKV) (s := PK.leKV) (f := fun p : (Int × Str) × α => (p.1, f p.2)) (fun a _ b _ => rfl), List.map_map, List.map_map]
  rfl
theorem Reps.sorted {ds : List PK.D} {xs : List V} (is : List (Int × Str)) (h : Reps K lk ρ n H ds xs) : Reps K lk ρ n H (PK.sortKV is ds) (PK.sortKV is xs) := by
  have e1 : ds = (ds.zip xs).map (·.1) := (List.map_fst_zip (by rw [Reps.length h]; exact Nat.le_refl _)).symm
  have e2 : xs = (ds.zip xs).map (·.2) := (List.map_snd_zip (by rw [Reps.length h]; exact Nat.le_refl _)).symm
  have hp := reps_pairs h
  generalize ds.zip xs = l at *
  rw [e1, e2, sortKV_map, sortKV_map]
  refine reps_of_pairs fun p hm => hp p ?_
  unfold PK.sortKV at hm
  obtain ⟨q, hq, rfl⟩ := List.mem_map.mp hm
  exact (List.of_mem_zip (List.mem_mergeSort.mp hq)).2
end
section
variable {X : Cx} {lk : Lk} {k : Nat} {f : Addr} {fd : FuncData} {ps : List Str} {sp : Sp} {x fn : Str} {p p2 kpos pos : Pos} {e : Expr} {er : Ev} {cl : Cl} {m : List Nat}
theorem pe_sortK (F : FnG X.prog X.w X.K X.mg X.base k f fd ps sp) (hr : RoomG (k + 1) X.A) (hb : Binds X.K fd ps []) (hg : Gl X (Str.ofString "sorted")) (hm : X.mg (Str.ofString "sorted") = none) {t : TA} (ha : PA X [e] t)
    (hgf : Gl X fn) (hmf : X.mg fn = some (.ref f)) (hdf : (fn == ("__debug__" : Str)) = false) (s1 : noStarP e) :
    PE X (.Call (.Name (Str.ofString "sorted") p) [e] [⟨some (Str.ofString "key"), .Name fn p2, kpos⟩] pos) (tCKw (rSortK X.K f sp) t (tCons (tC (.ref f)) tNil)) := by
  have hk : PK X [⟨some (Str.ofString "key"), .Name fn p2, kpos⟩] (tCons (tC (.ref f)) tNil) := pk_cons (pe_glob hgf hmf rfl hdf) pk_nil
  have st1 : starEach [e] X.env = [(false, eval e X.env)] := s1 [] X.env
  have cr : CallRK X (.builtin "sorted") [Str.ofString "key"] (rSortK X.K f sp) := by
    intro pins s σ H xs zs us ws Q I r1 r2 h
    obtain ⟨a, ys, rfl, rfl, h1, h2⟩ := h
    cases r2 with
    | cons rf r2 => cases r2 with
      | nil =>
        rename_i w
        obtain rfl : w = Value.ref f := rf
        exact run_sortK F hr hb I r1 ⟨a, ys, rfl, rfl, h1, h2⟩
  exact pe_callBK cr hg hm (by decide +kernel) ha hk (by decide +kernel) (by decide +kernel) (by rw [st1]; rfl) (by rw [st1]; rfl)
theorem keyS_some {d : PK.D} {i : Int × Str} (h : PK.keyS d = some i) : d = .tup [.int i.1, .str i.2] := by
  unfold PK.keyS at h
  split at h
  · cases h; rfl
  · cases h
theorem KeysAre.ext {K : PySem.W.Frag} {ρ ρ' : Nm} {n n' : Nat} {H H' : Hp} (e : Ext ρ n H ρ' n' H') : ∀ {ks : List V} {is : List (Int × Str)}, KeysAre K H ks is → KeysAre K H' ks is
  | [], [], _ => trivial
  | k :: ks, i :: is, h => by
    obtain ⟨⟨a, h1, h2⟩, h3⟩ := h
    exact ⟨⟨a, h1, SqT.ext e h2⟩, KeysAre.ext e h3⟩
  | [], _ :: _, h => h.elim
  | _ :: _, [], h => h.elim
theorem KeysAre.snoc {K : PySem.W.Frag} {H : Hp} {a : Addr} {j : Int × Str} (q : SqT K H a [.int j.1, .str j.2]) : ∀ {ks : List V} {is : List (Int × Str)}, KeysAre K H ks is → KeysAre K H (ks ++ [.ref a]) (is ++ [j])
  | [], [], _ => ⟨⟨a, rfl, q⟩, trivial⟩
  | k :: ks, i :: is, h => ⟨h.1, KeysAre.snoc q h.2⟩
  | [], _ :: _, h => h.elim
  | _ :: _, [], h => h.elim
theorem keys_rel {K : PySem.W.Frag} {lk : Lk} {W : WX} {σ : L2.St} {Q : VK} {Qf : List V → Hp → Prop} {kf : List (Int × Str) → Cells → PK.R} {ρ0 : Nm} {n0 : Nat} {H0 : Hp}
    (fin : ∀ ks is ρ1 G1 H1, Ext ρ0 n0 H0 ρ1 G1.length H1 → Rel K lk ρ1 G1 H1 → KeysAre K H1 ks is → OutE K lk W σ ρ1 G1 H1 (kf is G1) Q → Qf ks H1) :
    ∀ (es : List PK.D) (xs : List V) (acc : List V) (ai : List (Int × Str)) (ρ : Nm) (G : Cells) (H : Hp), Ext ρ0 n0 H0 ρ G.length H → Rel K lk ρ G H → Reps K lk ρ G.length H es xs → KeysAre K H acc ai →
      OutE K lk W σ ρ G H (PK.keysF (fun d G => cl m [d] G) es G ai kf) Q → rKeys (spC K lk cl) Qf xs acc H
  | [], xs, acc, ai, ρ, G, H, ex, r, hp, ka, h => by
    rw [show xs = [] from hp]
    exact fin acc ai ρ G H ex r ka h
  | d :: es, xs, acc, ai, ρ, G, H, ex, r, hp, ka, h => by
    obtain ⟨x, xs', rfl, px, hp⟩ := hp
    have h : OutE K lk W σ ρ G H ((cl m [d] G).safe.bind fun x G1 => PK.optK (PK.keyS x) (fun i => PK.keysF (fun d G => cl m [d] G) es G1 (ai ++ [i]) kf) .bad) Q := h
    show spC K lk cl [x] H (fun k H1 => rKeys (spC K lk cl) Qf xs' (acc ++ [k]) H1) E0
    refine ⟨lk.Z, m, ρ, G, [d], r, ⟨x, [], rfl, px, rfl⟩, ?_⟩
    show OutE K lk (fun cls d _ H => E0 cls d H) [] ρ G H (cl m [d] G) _
    refine OutE.safe (W := W) (σ := σ) (h.bind fun v G1 _ ρ1 H1 y e1 r1 p1 h1 => ?_)
    cases q : PK.keyS v with
    | none => rw [q] at h1; exact h1.elim
    | some i =>
      rw [q] at h1
      have h1 : OutE K lk W σ ρ1 G1 H1 (PK.keysF (fun d G => cl m [d] G) es G1 (ai ++ [i]) kf) Q := h1
      rw [keyS_some q] at p1
      obtain ⟨a, rfl, sq⟩ := tup2 p1
      exact keys_rel fin es xs' (acc ++ [.ref a]) (ai ++ [i]) ρ1 G1 H1 (ex.trans e1) r1 (Reps.ext e1 _ _ hp) ((ka.ext e1).snoc sq) h1
theorem le_skey (w : Bool) (F : FnG X.prog X.w X.K X.mg X.base k f fd ps (spC X.K lk cl)) (hr : RoomG (k + 1) X.A) (hb : Binds X.K fd ps []) (hg : Gl X (Str.ofString "sorted")) (hm : X.mg (Str.ofString "sorted") = none) (ha : LA X lk [e] er)
    (hgf : Gl X fn) (hmf : X.mg fn = some (.ref f)) (hdf : (fn == ("__debug__" : Str)) = false) (s1 : noStarP e) :
    LE X lk (.Call (.Name (Str.ofString "sorted") p) [e] [⟨some (Str.ofString "key"), .Name fn p2, kpos⟩] pos) (thenA er (skeyA cl m w)) := by
  refine pe_imp (pe_sortK F hr hb hg hm ha hgf hmf hdf s1) fun σ H Q ⟨ρ, G, s, r, en, h⟩ => ⟨ρ, G, s, r, en, OutE.args h fun ds G1 ρ1 H1 xs e1 r1 p1 h1 => ?_⟩
  show rSortK X.K f (spC X.K lk cl) xs [.ref f] H1 Q
  match ds, p1, h1 with
  | [], _, h1 => exact h1.elim
  | _ :: _ :: _, _, h1 => exact h1.elim
  | [d], p1, h1 =>
    obtain ⟨x, xs', rfl, px, rfl⟩ := p1
    cases q : PK.lstD G1 d with
    | none =>
      have h1 : OutE X.K lk (WXo X) σ ρ1 G1 H1 (PK.optK (PK.lstD G1 d) (fun es => PK.keysF (fun d G => cl m [d] G) es G1 [] fun is G2 => PK.mkl w (PK.sortKV is es) G2) .bad) Q := h1
      rw [q] at h1; exact h1.elim
    | some es =>
      have h1 : OutE X.K lk (WXo X) σ ρ1 G1 H1 (PK.optK (PK.lstD G1 d) (fun es => PK.keysF (fun d G => cl m [d] G) es G1 [] fun is G2 => PK.mkl w (PK.sortKV is es) G2) .bad) Q := h1
      rw [q] at h1
      obtain ⟨a, vs, rfl, ha, hp⟩ := lst_of q r1 px
      refine ⟨a, vs, rfl, rfl, .inl (.inl ha), keys_rel (ρ0 := ρ1) (n0 := G1.length) (H0 := H1) (fun ks is ρ2 G2 H2 ex r2 hk h2 => ⟨is, hk, fun b hb => ?_⟩) es vs [] [] ρ1 G1 H1 Ext.refl r1 hp trivial h1⟩
      exact OutE.mkl h2 r2 ((Reps.ext ex _ _ hp).sorted is) b hb
end
end PKS
namespace PKS
open PySem PySem.Spec PyProof.Rows L2
section
variable {K : PySem.W.Frag} {lk : Lk} {ρ : Nm} {G G' : Cells} {H H' : Hp}
theorem RepC.cut {n m : Nat} {c : PK.Cell} {o : HO} (hm : m ≤ n) (hb : PK.cBel m c) (h : RepC K lk ρ n H c o) : RepC K lk ρ m H c o := by
  cases c with
  | lst ds => obtain ⟨vs, h1, h2⟩ := h; exact ⟨vs, h1, Reps.cut hm _ _ hb h2⟩
  | dK kvs => obtain ⟨vs, h1, h2⟩ := h; exact ⟨vs, h1, h2.1, Reps.cut hm _ _ hb h2.2⟩
  | dT kvs => obtain ⟨vs, h1, h2⟩ := h; exact ⟨vs, h1, h2.1, Reps.cut hm _ _ hb h2.2⟩
  | ins c ds => obtain ⟨dx, fs, vs, h1, h2, h3, h4⟩ := h; exact ⟨dx, fs, vs, h1, h2, h3, Reps.cut hm _ _ hb h4⟩
theorem Rel.take {m : Nat} (r : Rel K lk ρ G H) (w : PK.WF m G) : Rel K lk ρ (G.take m) H := by
  have hl : (G.take m).length = m := by rw [List.length_take]; exact Nat.min_eq_left w.1
  refine ⟨fun i c q => ?_, fun i j hi hj e => r.inj i j (by rw [hl] at hi; exact Nat.lt_of_lt_of_le hi w.1) (by rw [hl] at hj; exact Nat.lt_of_lt_of_le hj w.1) e, r.zs, fun i hi => r.zc i (by rw [hl] at hi; exact Nat.lt_of_lt_of_le hi w.1)⟩
  have hi : i < m := by have := (List.getElem?_eq_some_iff.mp q).1; rw [hl] at this; exact this
  rw [List.getElem?_take_of_lt hi] at q
  obtain ⟨u, h1, h2⟩ := r.cell i c q
  exact ⟨u, h1, by rw [hl]; exact h2.cut w.1 (w.2 i c hi q)⟩
theorem Rel.wf (r : Rel K lk ρ G H) : PK.WF G.length G := ⟨Nat.le_refl _, fun i c hi q => by
  obtain ⟨u, h1, h2⟩ := r.cell i c q
  cases c with
  | lst ds => obtain ⟨vs, _, h2⟩ := h2; exact Reps.below _ _ h2
  | dK kvs => obtain ⟨vs, _, h2⟩ := h2; exact Reps.below _ _ h2.2
  | dT kvs => obtain ⟨vs, _, h2⟩ := h2; exact Reps.below _ _ h2.2
  | ins c ds => obtain ⟨dx, fs, vs, _, _, _, h4⟩ := h2; exact Reps.below _ _ h4⟩
theorem frz_rep {m : Nat} {v : PK.D} {x : V} (hm : m ≤ G.length) (r : Rel K lk ρ G H) (p : Rep K lk ρ G.length H v x) (b : PK.below m (PK.frzD G m v) = true) : Rep K lk ρ m H (PK.frzD G m v) x := by
  cases v with
  | ref i =>
    have p0 := p
    obtain ⟨hi, hv⟩ := p
    unfold PK.frzD at b ⊢
    dsimp only at b ⊢
    split at b
    · rename_i c; rw [if_pos c]; exact Rep.cut hm _ _ b p0
    · rename_i c
      rw [if_neg c]
      have off : Off lk ρ m (ρ i) := ⟨fun j hj e => by have := r.inj j i (Nat.lt_of_lt_of_le hj hm) hi e; omega, r.zc i hi⟩
      cases q : G[i]? with
      | none => simp only [q] at b ⊢; exact Rep.cut hm _ _ b p0
      | some cl =>
        obtain ⟨u, h1, h2⟩ := r.cell i cl q
        cases cl with
        | lst ds =>
          simp only [q] at b ⊢
          obtain ⟨vs, rfl, h3⟩ := h2
          exact ⟨ρ i, vs, hv, h1, off, Reps.cut hm _ _ b h3⟩
        | ins c ds =>
          simp only [q] at b ⊢
          obtain ⟨dx, fs, vs, rfl, h3, h4, h5⟩ := h2
          exact ⟨ρ i, dx, fs, vs, hv, h1, off, h3, h4, Reps.cut hm _ _ b h5⟩
        | dK kvs => simp only [q] at b ⊢; exact Rep.cut hm _ _ b p0
        | dT kvs => simp only [q] at b ⊢; exact Rep.cut hm _ _ b p0
  | _ => exact Rep.cut hm _ _ b p
end
theorem lookup_zip : ∀ {N : List Str} {vs : List V} {j : Nat} {f : Str} {v : V}, N.Nodup → N[j]? = some f → vs[j]? = some v → (N.zip vs).lookup f = some v
  | [], _, j, f, v, _, h, _ => by simp at h
  | _ :: _, [], j, f, v, _, _, h => by simp at h
  | n :: N, u :: vs, 0, f, v, _, h1, h2 => by
    simp at h1 h2
    subst h1 h2
    simp [List.lookup]
  | n :: N, u :: vs, j + 1, f, v, hn, h1, h2 => by
    obtain ⟨hn1, hn2⟩ := List.nodup_cons.mp hn
    have h1 : N[j]? = some f := by simpa using h1
    have hne : ¬ f = n := fun z => hn1 (z ▸ List.mem_of_getElem? h1)
    have hb : (f == n) = false := by simpa using hne
    show List.lookup f ((n, u) :: N.zip vs) = _
    rw [List.lookup, hb]
    exact lookup_zip hn2 h1 (by simpa using h2)
theorem lookup_none : ∀ {N : List Str} {vs : List V} {f : Str}, f ∉ N → (N.zip vs).lookup f = none
  | [], _, f, _ => by simp
  | _ :: _, [], f, _ => by simp
  | n :: N, u :: vs, f, h => by
    have hb : (f == n) = false := by simp at h; simpa using h.1
    show List.lookup f ((n, u) :: N.zip vs) = _
    rw [List.lookup, hb]
    exact lookup_none fun z => h (List.mem_cons_of_mem _ z)
theorem putF_zip : ∀ {N : List Str} {vs : List V} {j : Nat} {f : Str} {y : V}, N.Nodup → N[j]? = some f → j ≤ vs.length → putF f y (N.zip vs) = N.zip (if j < vs.length then vs.set j y else vs ++ [y])
  | [], _, j, f, y, _, h, _ => by simp at h
  | n :: N, [], j, f, y, _, h, hj => by
    have : j = 0 := by simpa using hj
    subst this
    simp at h
    subst h
    rw [if_neg (by simp)]
    show [(n, y)] = (n :: N).zip [y]
    simp [List.zip, List.zipWith]
  | n :: N, u :: vs, 0, f, y, _, h, _ => by
    simp at h
    subst h
    show putF n y ((n, u) :: N.zip vs) = _
    rw [putF, if_pos rfl, if_pos (by simp)]; rfl
  | n :: N, u :: vs, j + 1, f, y, hn, h, hj => by
    obtain ⟨hn1, hn2⟩ := List.nodup_cons.mp hn
    have h1 : N[j]? = some f := by simpa using h
    have hne : ¬ n = f := fun z => hn1 (z ▸ List.mem_of_getElem? h1)
    show putF f y ((n, u) :: N.zip vs) = _
    rw [putF, if_neg hne, putF_zip (j := j) hn2 h1 (by simpa using hj)]
    by_cases c : j < vs.length
    · rw [if_pos c, if_pos (by simpa using c)]; rfl
    · rw [if_neg c, if_neg (by simpa using c)]; rfl
structure ClsOk (K : PySem.W.Frag) (C : Addr) (N : List Str) : Prop where
  cl : Cls K C
  nd : N.Nodup
  na : ∀ f ∈ N, NoAttr K C f
  sz : N.length < 1000
section
variable {K : PySem.W.Frag} {lk : Lk} {ρ : Nm} {G : Cells} {H : Hp}
theorem ins_of {d : PK.D} {x : V} {c : Nat} (r : Rel K lk ρ G H) (p : Rep K lk ρ G.length H d x) (e : PK.clsD G d = some c) : ∃ a dx vs, x = .ref a ∧ H a = some (.ins (lk.CA c) dx ((lk.FN c).zip vs)) := by
  cases d with
  | ins c' ds =>
    cases e
    obtain ⟨a, dx, fs, vs, h1, h2, h3, h4, h5, h6⟩ := p
    exact ⟨a, dx, vs, h1, by rw [h2, h4]⟩
  | ref i =>
    obtain ⟨hi, hv⟩ := p
    unfold PK.clsD at e
    cases q : G[i]? with
    | none => simp [q] at e
    | some cl =>
      obtain ⟨u, h1, h2⟩ := r.cell i cl q
      cases cl with
      | ins c' ds =>
        simp only [q] at e
        cases e
        obtain ⟨dx, fs, vs, rfl, h3, h4, h5⟩ := h2
        exact ⟨ρ i, dx, vs, hv, by rw [h1, h3]⟩
      | _ => simp [q] at e
  | _ => cases e
theorem fld_of {d y : PK.D} {x : V} {c j : Nat} {f : Str} (hn : (lk.FN c).Nodup) (hf : (lk.FN c)[j]? = some f) (r : Rel K lk ρ G H) (p : Rep K lk ρ G.length H d x) (e : PK.fldD G c j d = some y) :
    ∃ a dx fs v, x = .ref a ∧ H a = some (.ins (lk.CA c) dx fs) ∧ fs.lookup f = some v ∧ Rep K lk ρ G.length H y v := by
  cases d with
  | ins c' ds =>
    have e2 : (if c' = c then ds[j]? else none) = some y := e
    clear e
    split at e2
    · rename_i hc; subst hc
      obtain ⟨a, dx, fs, vs, h1, h2, h3, h4, h5, h6⟩ := p
      obtain ⟨v, q1, q2⟩ := Reps.get h6 e2
      exact ⟨a, dx, fs, v, h1, h2, by rw [h4]; exact lookup_zip hn hf q1, q2⟩
    · cases e2
  | ref i =>
    obtain ⟨hi, hv⟩ := p
    have e2 : (match G[i]? with | some (.ins c' ds) => if c' = c then ds[j]? else none | _ => none) = some y := e
    clear e
    cases q : G[i]? with
    | none => rw [q] at e2; cases e2
    | some cl =>
      obtain ⟨u, h1, h2⟩ := r.cell i cl q
      cases cl with
      | ins c' ds =>
        rw [q] at e2
        have e3 : (if c' = c then ds[j]? else none) = some y := e2
        clear e2
        split at e3
        · rename_i hc; subst hc
          obtain ⟨dx, fs, vs, rfl, h3, h4, h5⟩ := h2
          obtain ⟨v, q1, q2⟩ := Reps.get h5 e3
          exact ⟨ρ i, dx, fs, v, hv, h1, by rw [h3]; exact lookup_zip hn hf q1, q2⟩
        · cases e3
      | _ => rw [q] at e2; cases e2
  | _ => cases e
end
section
variable {X : Cx} {lk : Lk} {e o : Expr} {es : List Expr} {ea eo er : Ev} {c j : Nat} {f m : Str} {pos apos p : Pos} {k : Nat} {fa : Addr} {fd : FuncData} {ps : List Str} {cl : Cl} {mk : List Nat} {x : Str}
theorem le_fld (C : ClsOk X.K (lk.CA c) (lk.FN c)) (hf : (lk.FN c)[j]? = some f) (ha : LE X lk e ea) (hb : attributeBase e f X.env (eval e X.env) = eval e X.env) :
    LE X lk (.Attribute e f pos) (fun s G => (ea s G).bind fun x G1 => PK.optK (PK.fldD G1 c j x) (fun d => .ok d G1) .bad) :=
  pe_imp (pe_fld ha hb) fun σ H Q ⟨ρ, G, s, r, en, h⟩ => ⟨ρ, G, s, r, en, h.bind fun v G1 _ ρ1 H1 x e1 r1 p1 h1 => by
    cases q : PK.fldD G1 c j v with
    | none => rw [q] at h1; exact h1.elim
    | some y =>
      rw [q] at h1
      obtain ⟨a, dx, fs, u, h2, h3, h4, h5⟩ := fld_of C.nd hf r1 p1 q
      exact ⟨a, lk.CA c, dx, fs, u, h2, h3, C.cl, C.na f (List.mem_of_getElem? hf), h4, OutE.here h1 r1 h5⟩⟩
def methE (cl : Cl) (mk : List Nat) (c : Nat) (eo er : Ev) : Ev := fun s G => (eo s G).bind fun y G1 => PK.iteK (decide (PK.clsD G1 y = some c)) (fun _ => (er s G1).bind fun x G2 => PK.tupK x (fun ds => cl mk (y :: ds) G2) .bad) fun _ => .bad
theorem le_meth (C : ClsOk X.K (lk.CA c) (lk.FN c)) (hm : Meth X.K (lk.CA c) m fa) (hn : m ∉ lk.FN c) (F : FnG X.prog X.w X.K X.mg X.base k fa fd ps (spC X.K lk cl)) (hr : RoomG k X.A) (hb : Binds X.K fd ps []) (ho : LE X lk o eo) (ha : LA X lk (e :: es) er)
    (hst : starEach (e :: es) X.env = (false, eval e X.env) :: starEach es X.env) (hpl : (backTo pos (starEach es X.env)).any (·.1) = false)
    (ht : eval (.Call (.Attribute o m apos) (e :: es) [] pos) X.env = (do
      let ov ← eval o X.env
      standAt apos.atName
      let (f, first) ← holding [ov] (getMethod ov m (plainOf o X.env))
      callWith pos f first (backTo pos (starEach (e :: es) X.env)) (backToKw pos (keywordEach [] X.env)))) :
    LE X lk (.Call (.Attribute o m apos) (e :: es) [] pos) (methE cl mk c eo er) :=
  pe_imp (pe_methG ho C.cl hm F hr hb ha hst hpl ht) fun σ H Q ⟨ρ, G, s, r, en, h⟩ => ⟨ρ, G, s, r, en, OutE.bind h fun y G1 _ ρ1 H1 x e1 r1 p1 h1 => by
    cases q : decide (PK.clsD G1 y = some c) with
    | false => rw [q] at h1; exact h1.elim
    | true =>
      rw [q] at h1
      obtain ⟨a, dx, vs, rfl, h3⟩ := ins_of r1 p1 (of_decide_eq_true q)
      refine ⟨a, dx, _, rfl, h3, lookup_none hn, ρ1, G1, s, r1, REnv.ext e1 en, OutE.args (f := fun ds G2 => cl mk (y :: ds) G2) h1 fun ds G2 ρ2 H2 xs e2 r2 p2 h2 => ?_⟩
      exact ⟨lk.Z, mk, ρ2, G2, y :: ds, r2, ⟨.ref a, xs, rfl, Rep.ext e2 _ _ p1, p2⟩, OutE.st h2⟩⟩
theorem le_meth0 (C : ClsOk X.K (lk.CA c) (lk.FN c)) (hm : Meth X.K (lk.CA c) m fa) (hn : m ∉ lk.FN c) (F : FnG X.prog X.w X.K X.mg X.base k fa fd ps (spC X.K lk cl)) (hr : RoomG k X.A) (hb : Binds X.K fd ps []) (ho : LE X lk o eo)
    (ht : eval (.Call (.Attribute o m apos) [] [] pos) X.env = (do
      let ov ← eval o X.env
      standAt apos.atName
      let (f, first) ← holding [ov] (getMethod ov m (plainOf o X.env))
      callWith pos f first (backTo pos (starEach [] X.env)) (backToKw pos (keywordEach [] X.env)))) :
    LE X lk (.Call (.Attribute o m apos) [] [] pos) (methE cl mk c eo (fun _ G => .ok (.tup []) G)) :=
  pe_imp (pe_methG0 ho C.cl hm F hr hb ht) fun σ H Q ⟨ρ, G, s, r, en, h⟩ => ⟨ρ, G, s, r, en, OutE.bind h fun y G1 _ ρ1 H1 x e1 r1 p1 h1 => by
    cases q : decide (PK.clsD G1 y = some c) with
    | false => rw [q] at h1; exact h1.elim
    | true =>
      rw [q] at h1
      obtain ⟨a, dx, vs, rfl, h3⟩ := ins_of r1 p1 (of_decide_eq_true q)
      exact ⟨a, dx, _, rfl, h3, lookup_none hn, lk.Z, mk, ρ1, G1, [y], r1, ⟨.ref a, [], rfl, p1, rfl⟩, OutE.st h1⟩⟩
def newE (cl : Cl) (mk : List Nat) (w : Bool) (c : Nat) (er : Ev) : Ev := fun s G => (er s G).bind fun x G1 => PK.tupK x (fun ds => (cl (if w then mk else G1.length :: mk) (.ref G1.length :: ds) (G1 ++ [.ins c []])).bind fun r G2 => PK.iteK (decide (r = .non)) (fun _ => PK.madeD w G1.length G2) fun _ => .bad) .bad
def KrOk (cl : Cl) : Prop := ∀ (k : Nat) (m' : List Nat) (args : List PK.D) (G : Cells), k ∈ m' → PK.WF k G → PK.KR k (cl m' args G)
theorem new_of {w : Bool} {ds : List PK.D} {vs : List V} {σ : L2.St} {ρ : Nm} {G : Cells} {H : Hp} {Q : VK} (kr : KrOk cl) (r : Rel X.K lk ρ G H) (p : Reps X.K lk ρ G.length H ds vs)
    (h : OutE X.K lk (WXo X) σ ρ G H ((cl (if w then mk else G.length :: mk) (.ref G.length :: ds) (G ++ [.ins c []])).bind fun r G2 => PK.iteK (decide (r = .non)) (fun _ => PK.madeD w G.length G2) fun _ => .bad) Q) :
    ∀ x dx, H x = none → H dx = none → dx ≠ x → spC X.K lk cl (.ref x :: vs) (upd (upd H dx (.own x)) x (.ins (lk.CA c) dx [])) (fun v H2 => v = .non ∧ Q (.ref x) H2) (WE (WXo X) σ) := fun x dx hx hdx hne => by
  have hx2 : upd H dx (.own x) x = none := by rw [upd_ne (Ne.symm hne)]; exact hx
  have r1 : Rel X.K lk ρ G (upd H dx (.own x)) := r.other hdx
  have e1 : Ext ρ G.length H ρ G.length (upd H dx (.own x)) := Ext.laid hdx
  have r2 : Rel X.K lk (nset ρ G.length x) (G ++ [.ins c []]) (upd (upd H dx (.own x)) x (.ins (lk.CA c) dx [])) := r1.laid hx2 ⟨dx, [], [], rfl, by simp, Nat.zero_le _, rfl⟩
  have e2 : Ext ρ G.length (upd H dx (.own x)) (nset ρ G.length x) (G ++ [PK.Cell.ins c []]).length (upd (upd H dx (.own x)) x (.ins (lk.CA c) dx [])) := by rw [List.length_append]; exact Ext.celled hx2
  have e12 := e1.trans e2
  refine ⟨lk.Z, (if w then mk else G.length :: mk), nset ρ G.length x, G ++ [PK.Cell.ins c []], PK.D.ref G.length :: ds, r2, ⟨V.ref x, vs, rfl, (⟨by simp, by rw [nset_same]⟩ : Rep X.K lk (nset ρ G.length x) (G ++ [PK.Cell.ins c []]).length _ (.ref G.length) (.ref x)), Reps.ext e12 _ _ p⟩, ?_⟩
  show OutE X.K lk (fun cls d _ H => WE (WXo X) σ cls d H) [] _ _ _ (cl (if w then mk else G.length :: mk) (.ref G.length :: ds) (G ++ [.ins c []])) _
  have kk : w = false → PK.KR G.length (cl (if w then mk else G.length :: mk) (.ref G.length :: ds) (G ++ [.ins c []])) := fun hw => kr _ _ _ _ (by rw [hw]; exact List.mem_cons_self) (r.wf.app _)
  cases q : cl (if w then mk else G.length :: mk) (.ref G.length :: ds) (G ++ [.ins c []]) with
  | bad => rw [q] at h; exact h.elim
  | exc c' G2 => rw [q] at h; exact fun ρ' H' e r => h ρ' H' (e12.trans e) r
  | ok v G2 =>
    rw [q] at h kk
    have h : OutE X.K lk (WXo X) σ ρ G H (PK.iteK (decide (v = .non)) (fun _ => PK.madeD w G.length G2) fun _ => .bad) Q := h
    intro ρ3 H3 y e3 r3 p3
    cases q2 : decide (v = .non) with
    | false => rw [q2] at h; exact h.elim
    | true =>
      rw [q2] at h
      have hv := of_decide_eq_true q2
      subst hv
      have h : OutE X.K lk (WXo X) σ ρ G H (PK.madeD w G.length G2) Q := h
      refine ⟨p3, ?_⟩
      have hl : G.length < G2.length := by have := e3.le; rw [List.length_append] at this; simp at this; omega
      have hr3 : ρ3 G.length = x := by rw [e3.agr _ (by simp), nset_same]
      have pr : Rep X.K lk ρ3 G2.length H3 (.ref G.length) (.ref x) := ⟨hl, by rw [hr3]⟩
      have ex := e12.trans e3
      cases w with
      | true =>
        have h : OutE X.K lk (WXo X) σ ρ G H (.ok (.ref G.length) G2) Q := h
        exact h ρ3 H3 _ ex r3 pr
      | false =>
        have wf : PK.WF G.length G2 := kk rfl
        unfold PK.madeD at h
        rw [if_neg Bool.false_ne_true] at h
        dsimp only at h
        split at h
        · rename_i b
          have htl : (G2.take G.length).length = G.length := by rw [List.length_take]; exact Nat.min_eq_left wf.1
          exact h ρ3 H3 _ (by rw [htl]; exact ex.cut (Nat.le_refl _) wf.1) (r3.take wf) (by rw [htl]; exact frz_rep wf.1 r3 pr b)
        · exact h.elim
theorem le_new (w : Bool) (kr : KrOk cl) (M : Mk X.K (lk.CA c) fa) (F : FnG X.prog X.w X.K X.mg X.base k fa fd ps (spC X.K lk cl)) (hr : RoomG (k + 1) X.A) (hg : Gl X x) (hm : X.mg x = some (.ref (lk.CA c))) (hb : Binds X.K fd ps [])
    (ha : LA X lk (e :: es) er) (hdb : (x == ("__debug__" : Str)) = false) (he : starEach (e :: es) X.env = (false, eval e X.env) :: starEach es X.env) (hpl : (backTo pos (starEach es X.env)).any (·.1) = false) :
    LE X lk (.Call (.Name x p) (e :: es) [] pos) (newE cl mk w c er) :=
  pe_imp (pe_mkG M F hr hg hm hb ha hdb he hpl) fun σ H Q ⟨ρ, G, s, r, en, h⟩ => ⟨ρ, G, s, r, en, OutE.args h fun ds G1 ρ1 H1 xs e1 r1 p1 h1 => new_of kr r1 p1 h1⟩
theorem le_new0 (w : Bool) (kr : KrOk cl) (M : Mk X.K (lk.CA c) fa) (F : FnG X.prog X.w X.K X.mg X.base k fa fd ps (spC X.K lk cl)) (hr : RoomG (k + 1) X.A) (hg : Gl X x) (hm : X.mg x = some (.ref (lk.CA c))) (hb : Binds X.K fd ps [])
    (hdb : (x == ("__debug__" : Str)) = false) : LE X lk (.Call (.Name x p) [] [] pos) (newE cl mk w c (fun _ G => .ok (.tup []) G)) :=
  pe_imp (pe_mkG0 M F hr hg hm hb hdb) fun σ H Q ⟨ρ, G, s, r, en, h⟩ => new_of kr r (show Reps X.K lk ρ G.length H [] [] from rfl) h
theorem ls_fld {value : Expr} {ev : Ev} {f : Str} {pos' : Pos} {m : List Nat} (C : ClsOk X.K (lk.CA c) (lk.FN c)) (hf : (lk.FN c)[j]? = some f) (hv : LE X lk value ev) (ho : LE X lk o eo) (hs : swapsWith value (some (.Attribute o f pos')) pos.line X.env = pure false) :
    LS X lk (.Assign [.Attribute o f pos'] value pos) (fun s G => PK.R.st s (ev s G) fun v G1 => PK.R.st s (eo s G1) fun x G2 => PK.putF m c j x v s G2) := by
  refine ps_imp (ps_fld ho hv hs) fun D σ H ⟨ρ, G, s, r, en, h⟩ => ⟨ρ, G, s, r, en, OutS.bind en h fun v G1 ρ1 H1 y e1 r1 p1 h1 => ⟨ρ1, G1, s, r1, REnv.ext e1 en, OutS.bind (REnv.ext e1 en) h1 fun d G2 ρ2 H2 x e2 r2 p2 h2 => ?_⟩⟩
  have p1 := Rep.ext e2 _ _ p1
  have en2 := REnv.ext e2 (REnv.ext e1 en)
  cases d with
  | ref q =>
    obtain ⟨hq, hx⟩ := p2
    unfold PK.putF at h2
    dsimp only at h2
    cases z : G2[q]? with
    | none => rw [z] at h2; exact False.elim h2
    | some cl =>
      rw [z] at h2
      obtain ⟨u, h3, h4⟩ := r2.cell q cl z
      cases cl with
      | ins c' ds =>
        dsimp only at h2
        by_cases hc : c' = c ∧ PK.wok q m v = true
        · rw [if_pos hc] at h2
          obtain ⟨hc, _⟩ := hc
          subst hc
          obtain ⟨dx, fs, vs, rfl, h5, h6, h7⟩ := h4
          have hlen := Reps.length h7
          have hjN : j < (lk.FN c').length := (List.getElem?_eq_some_iff.mp hf).1
          have go : ∀ ds', (if j < vs.length then vs.set j y else vs ++ [y]).length ≤ (lk.FN c').length → j ≤ vs.length → Reps X.K lk ρ2 G2.length H2 ds' (if j < vs.length then vs.set j y else vs ++ [y]) → OutS X.K lk (WXo X) ρ2 G2 H2 D (.nx s (PK.setC G2 q (.ins c' ds'))) →
              ∃ a C dx fs, x = V.ref a ∧ H2 a = some (.ins C dx fs) ∧ Cls X.K C ∧ NoAttr X.K C f ∧ fs.length < 1000 ∧ D.nx σ (upd H2 a (.ins C dx (putF f y fs))) := fun ds' hl hj hp ho => by
            refine ⟨ρ2 q, lk.CA c', dx, fs, hx, h3, C.cl, C.na f (List.mem_of_getElem? hf), ?_, ?_⟩
            · rw [h5, List.length_zip]; have := C.sz; omega
            · have ho : ∀ ρ' H' σ', Ext ρ2 G2.length H2 ρ' (G2.set q (.ins c' ds')).length H' → Rel X.K lk ρ' (G2.set q (.ins c' ds')) H' → REnv X.K lk ρ' (G2.set q (.ins c' ds')).length H' s σ' → D.nx σ' H' := ho
              have ex : Ext ρ2 G2.length H2 ρ2 (G2.set q (.ins c' ds')).length (upd H2 (ρ2 q) (.ins (lk.CA c') dx (putF f y fs))) := by rw [List.length_set]; exact r2.exw z
              refine ho ρ2 _ σ ex (r2.written z ⟨dx, _, _, rfl, ?_, hl, hp⟩) (REnv.ext ex en2)
              rw [h5, putF_zip C.nd hf hj]
          by_cases hj : j < ds.length
          · rw [if_pos hj] at h2
            have hj' : j < vs.length := by omega
            refine go (ds.set j v) (by rw [if_pos hj', List.length_set]; exact h6) (by omega) (by rw [if_pos hj']; exact Reps.set h7 p1) h2
          · rw [if_neg hj] at h2
            by_cases hj2 : j = ds.length
            · rw [if_pos hj2] at h2
              have hj' : ¬ j < vs.length := by omega
              refine go (ds ++ [v]) (by rw [if_neg hj', List.length_append]; simp; omega) (by omega) (by rw [if_neg hj']; exact Reps.append h7 (Reps.one p1)) h2
            · rw [if_neg hj2] at h2; exact False.elim h2
        · rw [if_neg hc] at h2; exact False.elim h2
      | _ => exact False.elim h2
  | _ => exact False.elim h2
end
end PKS
namespace PKS
open PySem PySem.Spec PyProof.Rows L2
structure Sig where
  N : List Str
  sc : Scope
  fn : Str → Bool
  fnm : List (Option Str)
  gnm : List Str
  free : List Str
  mth : List (Option (Nat × Str))
  cnm : List Str
  fld : List (List Str)
  /-- the classes of errors, and which are under which -/
  exn : List Str
  sub : List (List Nat)
def subB (Γ : Sig) (i j : Nat) : Bool := decide (i ∈ Γ.sub.getD j [])
def ndB (x : Str) : Bool := !(x == ("__debug__" : Str))
def ncB (x : Str) : Bool := !(x == ("__classdict__" : Str))
def isK (sc : Scope) (x : Str) (k : NameKind) : Bool := decide (sc.names.lookup x = some k)
def visB (sc : Scope) (x : Str) : Bool := isK sc x .local || isK sc x .cell || isK sc x .free
def locB (sc : Scope) (x : Str) : Bool := isK sc x .local || isK sc x .cell
def glB (sc : Scope) (x : Str) : Bool := isK sc x .globalImplicit
def noStar : Expr → Bool
  | .Starred .. => false
  | _ => true
def baseB : Expr → Bool
  | .Call (.Name ..) [] [] _ => false
  | _ => true
def notIf : Expr → Bool
  | .IfExp .. => false
  | _ => true
def isBop : Expr → Bool
  | .BoolOp .. => true
  | _ => false
def plainIxB : Expr → Bool
  | .Slice .. => false
  | _ => true
def isSet : Expr → Bool
  | .Set .. => true
  | _ => false
def isComp : Expr → Bool
  | .ListComp .. | .SetComp .. | .DictComp .. => true
  | _ => false
def isTup : Expr → Bool
  | .Tuple .. => true
  | _ => false
def bltB (Γ : Sig) (x : Str) : Bool := glB Γ.sc x && decide (x ∈ Γ.free)
def chkTys (Γ : Sig) : List PK.Ty → List Expr → Bool
  | [], [] => true
  | y :: ts, .Name x _ :: es => !tyOwn y && decide (x = Str.ofString (tyS y)) && bltB Γ x && chkTys Γ ts es
  | _, _ => false
def iterEs (k : PK.Ik) (Γ : Sig) (tg iter : Expr) : Option (List Expr) := match k with
  | .val => if isSet iter then none else some [iter]
  | .range1 => match iter with
    | .Call (.Name x _) [e] [] _ => if decide (x = "range") && bltB Γ x then some [e] else none
    | _ => none
  | .range2 => match iter with
    | .Call (.Name x _) [e, e2] [] _ => if decide (x = "range") && bltB Γ x then some [e, e2] else none
    | _ => none
  | .range3 => match iter with
    | .Call (.Name x _) [e, e2, e3] [] _ => if decide (x = "range") && bltB Γ x then some [e, e2, e3] else none
    | _ => none
  | .enum => match iter with
    | .Call (.Name x _) [e] [] _ => if decide (x = "enumerate") && bltB Γ x && isTup tg then some [e] else none
    | _ => none
  | .zip => match iter with
    | .Call (.Name x _) [e, e2] [] _ => if decide (x = "zip") && bltB Γ x && isTup tg then some [e, e2] else none
    | _ => none
  | .rev => match iter with
    | .Call (.Name x _) [e] [] _ => if decide (x = "reversed") && bltB Γ x then some [e] else none
    | _ => none
  | _ => none
def chkNm (Γ : Sig) (i : Nat) (x : Str) : Bool := decide (Γ.N[i]? = some x) && locB Γ.sc x && (Γ.fn x || isK Γ.sc x .local)
def chkNms (Γ : Sig) : List Nat → List Expr → Bool
  | [], [] => true
  | i :: is, .Name x _ :: es => chkNm Γ i x && chkNms Γ is es
  | _, _ => false
def chkP (Γ : Sig) (tg : Expr) (pt : List Nat) (one : Bool) : Bool := match one, tg with
  | true, .Name x _ => match pt with
    | [i] => chkNm Γ i x
    | _ => false
  | false, .Tuple es _ _ => chkNms Γ pt es
  | _, _ => false
def inBlk (Γ : Sig) (scope : Scope) : Sig := { Γ with sc := relS scope Γ.sc, fn := fun x => scope.names.lookup x == some .cell }
def ownP (Γ : Sig) (own : List Nat) : List (Str × Nat) := own.map fun i => (Γ.N.getD i Str.empty, i)
def yesL : PK.L → Bool
  | .c (.bl true) => true
  | _ => false
def absL : PK.L → Bool
  | .c (.exc 0) => true
  | _ => false
def optB (f : Expr → Bool) (y : Bool) : Option Expr → Bool
  | none => y
  | some e => f e
def ifsB (f : Expr → Bool) (y : Bool) : List Expr → Bool
  | [] => y
  | [c] => notIf c && f c
  | _ => false
def mtB (b : PK.Mt) : List Expr → Bool
  | [] => decide (b = .clear ∨ b = .pop0 ∨ b = .reverse)
  | _ :: _ => decide (b = .append ∨ b = .join ∨ b = .split ∨ b = .startswith ∨ b = .extend ∨ b = .pop1 ∨ b = .popT)
def atB (Γ : Sig) : PK.L → Expr → Bool
  | .c d, e => match d, e with
    | .non, .Constant .none _ _ => true
    | .bl b, .Constant (.bool b') _ _ => decide (b = b')
    | .int b, .Constant (.int b') _ _ => decide (b = b')
    | .str b, .Constant (.str b') _ _ => decide (b = b')
    | _, _ => false
  | .v i, .Name x _ => decide (Γ.N[i]? = some x) && visB Γ.sc x && ndB x && ncB x
  | _, _ => false
def atBs (Γ : Sig) : PK.Ls → List (Option Expr) → List Expr → Bool
  | .nil, [], [] => true
  | .cons a (.cons b l), some k :: ks, v :: vs => atB Γ a k && atB Γ b v && atBs Γ l ks vs
  | _, _, _ => false
mutual
def chkE : PK.L → Sig → Expr → Bool
  | .c d, _, e => match d, e with
    | .non, .Constant .none _ _ => true
    | .bl b, .Constant (.bool b') _ _ => decide (b = b')
    | .int b, .Constant (.int b') _ _ => decide (b = b')
    | .str b, .Constant (.str b') _ _ => decide (b = b')
    | _, _ => false
  | .v i, Γ, e => match e with
    | .Name x _ => decide (Γ.N[i]? = some x) && visB Γ.sc x && ndB x && ncB x
    | _ => false
  | .g i, Γ, e => match e with
    | .Name x _ => decide (Γ.gnm[i]? = some x) && glB Γ.sc x && ndB x
    | _ => false
  | .bin o _ a b, Γ, e => match e with
    | .BinOp x op y _ => decide (op = opOf o) && chkE a Γ x && chkE b Γ y
    | _ => false
  | .neg a, Γ, e => match e with
    | .UnaryOp .USub x _ => chkE a Γ x
    | _ => false
  | .cmp o a b, Γ, e => match e with
    | .Compare x [op] [y] _ => decide (op = cmOf o) && !behindInMarks (cmOf o) y && chkE a Γ x && chkE b Γ y
    | _ => false
  | .chain o o' a b c, Γ, e => match e with
    | .Compare x [op, op'] [y, z] _ => decide (op = cmOf o) && decide (op' = cmOf o') && !lastMarks [cmOf o, cmOf o'] [y, z] && chkE a Γ x && chkE b Γ y && chkE c Γ z
    | _ => false
  | .and_ a b, Γ, e => match e with
    | .BoolOp .And [x, y] _ => notIf x && notIf y && chkE a Γ x && chkE b Γ y
    | .BoolOp .And (x :: y :: z :: r) pos => notIf x && chkE a Γ x && chkE b Γ (.BoolOp .And (y :: z :: r) pos)
    | _ => false
  | .or_ a b, Γ, e => match e with
    | .BoolOp .Or [x, y] _ => notIf x && notIf y && chkE a Γ x && chkE b Γ y
    | .BoolOp .Or (x :: y :: z :: r) pos => notIf x && chkE a Γ x && chkE b Γ (.BoolOp .Or (y :: z :: r) pos)
    | _ => false
  | .not_ a, Γ, e => match e with
    | .UnaryOp .Not x _ => notIf x && chkE a Γ x
    | _ => false
  | .ite t a b, Γ, e => match e with
    | .IfExp c x y _ => notIf c && chkE t Γ c && chkE a Γ x && chkE b Γ y
    | _ => false
  | .tup l, Γ, e => match e with
    | .Tuple es _ _ => chkA l Γ es && decide (es.length ≤ 1000)
    | _ => false
  | .lst _ l, Γ, e => match e with
    | .List es _ => chkA l Γ es && decide (es.length ≤ 1000)
    | _ => false
  | .ix a i, Γ, e => match e with
    | .Subscript x y _ => plainIxB y && chkE a Γ x && chkE i Γ y
    | _ => false
  | .sl _ a lo hi, Γ, e => match e with
    | .Subscript x (.Slice l h none _) _ => chkE a Γ x && optB (chkE lo Γ) (absL lo) l && optB (chkE hi Γ) (absL hi) h
    | _ => false
  | .rev _ a, Γ, e => match e with
    | .Subscript x (.Slice none none (some (.UnaryOp .USub (.Constant (.int n) _ _) _)) _) _ => decide (n = 1) && chkE a Γ x
    | .Call (.Name n _) [.Call (.Name n2 _) [x] [] _] [] _ => decide (n = "list") && bltB Γ n && decide (n2 = "reversed") && bltB Γ n2 && noStar x && chkE a Γ x
    | _ => false
  | .call f l, Γ, e => match e with
    | .Call (.Name x _) es [] _ => decide (Γ.fnm[f]? = some (some x)) && glB Γ.sc x && ndB x && chkA l Γ es
    | _ => false
  | .bi b _ l, Γ, e => match e with
    | .Call (.Name x _) (y :: es) [] _ => decide (x = Str.ofString (biName b)) && bltB Γ x && chkA l Γ (y :: es)
    | _ => false
  | .mt b _ o l, Γ, e => match e with
    | .Call (.Attribute x nm ap) es [] pos => decide (nm = Str.ofString (mtN b)) && baseB x && (ap.endLine == pos.line) && chkE o Γ x && chkA l Γ es && decide (es.length < 20) && mtB b es
    | _ => false
  | .isi ts a, Γ, e => match e with
    | .Call (.Name n _) [x, .Name y p] [] _ => decide (n = "isinstance") && bltB Γ n && noStar x && chkE a Γ x && chkTys Γ ts [.Name y p]
    | .Call (.Name n _) [x, .Tuple es _ _] [] _ => decide (n = "isinstance") && bltB Γ n && noStar x && chkE a Γ x && chkTys Γ ts es && decide (ts.length ≤ 1000)
    | _ => false
  | .comp w k own pt one it cond elt, Γ, e => match e with
    | .ListComp y [⟨tg, iter, ifs, asy⟩] scope _ => decide (asy = 0) && !isSet iter && (match iterEs k Γ tg iter with | some es => chkA it Γ es | none => false) && blkC Γ.N Γ.sc scope (ownP Γ own) && pt.all (fun i => decide (i ∈ own)) && chkP (inBlk Γ scope) tg pt one &&
      ifsB (chkE cond (inBlk Γ scope)) (yesL cond) ifs && chkE elt (inBlk Γ scope) y
    | _ => false
  | .key2 mx f a b, Γ, e => match e with
    | .Call (.Name x _) [y, z] [⟨some k, .Name fn _, _⟩] _ => decide (x = Str.ofString (keyN mx)) && bltB Γ x && decide (k = Str.ofString "key") && decide (Γ.fnm[f]? = some (some fn)) && glB Γ.sc fn && ndB fn && noStar y && noStar z && chkE a Γ y && chkE b Γ z
    | _ => false
  | .dnew _, _, e => match e with
    | .Dict [] [] _ => true
    | _ => false
  | .dlit l, Γ, e => match e with
    | .Dict ks vs _ => atBs Γ l ks vs && !ks.isEmpty && decide (ks.length ≤ 15)
    | _ => false
  | .skey _ f a, Γ, e => match e with
    | .Call (.Name x _) [y] [⟨some k, .Name fn _, _⟩] _ => decide (x = Str.ofString "sorted") && bltB Γ x && decide (k = Str.ofString "key") && decide (Γ.fnm[f]? = some (some fn)) && glB Γ.sc fn && ndB fn && noStar y && chkE a Γ y
    | _ => false
  | .fld c j a, Γ, e => match e with
    | .Attribute x f _ => decide ((Γ.fld[c]?).bind (·[j]?) = some f) && baseB x && chkE a Γ x
    | _ => false
  | .meth f c o l, Γ, e => match e with
    | .Call (.Attribute x nm ap) es [] pos => decide (Γ.mth[f]? = some (some (c, nm))) && !(nm == initN) && decide (c < Γ.fld.length) && !((Γ.fld.getD c []).contains nm) && baseB x && (ap.endLine == pos.line) && chkE o Γ x && chkA l Γ es && decide (es.length < 20)
    | _ => false
  | .new _ c f l, Γ, e => match e with
    | .Call (.Name x _) es [] _ => decide (Γ.cnm[c]? = some x) && decide (Γ.mth[f]? = some (some (c, initN))) && glB Γ.sc x && ndB x && chkA l Γ es
    | _ => false
def chkA : PK.Ls → Sig → List Expr → Bool
  | .nil, _, es => match es with
    | [] => true
    | _ => false
  | .cons a l, Γ, es => match es with
    | x :: r => noStar x && chkE a Γ x && chkA l Γ r
    | _ => false
end

structure Fits (Γ : Sig) (X : Cx) (lk : Lk) (cl : List Nat → Nat → List PK.D → Cells → PK.R) (gl : Nat → Option PK.D) : Prop where
  hN : X.N = Γ.N
  nd : Γ.N.Nodup
  sc : X.env.scope = Γ.sc
  fn : X.fn = Γ.fn
  calm : X.calm = true
  gd : X.A.guards = some []
  un : X.A.units + 64 < cLine
  hp : PassesOwn (model X.prog X.w) X.A X.env X.xe
  free : ∀ x ∈ Γ.free, X.mg x = none
  fns : ∀ (i : Nat) x, Γ.fnm[i]? = some (some x) → ∃ f fd ps k, FnG X.prog X.w X.K X.mg X.base k f fd ps (spC X.K lk fun m ds G => cl m i ds G) ∧ RoomG (k + 1) X.A ∧ X.mg x = some (.ref f) ∧ PySem.W.keepIn X.K (.ref f) = true ∧ Binds X.K fd ps []
  mts : ∀ (i : Nat) c x, Γ.mth[i]? = some (some (c, x)) → x ≠ initN → ∃ f fd ps k, FnG X.prog X.w X.K X.mg X.base k f fd ps (spC X.K lk fun m ds G => cl m i ds G) ∧ RoomG (k + 1) X.A ∧ Meth X.K (lk.CA c) x f ∧ Binds X.K fd ps []
  mks : ∀ (i : Nat) c, Γ.mth[i]? = some (some (c, initN)) → ∃ f fd ps k, FnG X.prog X.w X.K X.mg X.base k f fd ps (spC X.K lk fun m ds G => cl m i ds G) ∧ RoomG (k + 1) X.A ∧ Mk X.K (lk.CA c) f ∧ Binds X.K fd ps []
  cls : ∀ (c : Nat) fs, Γ.fld[c]? = some fs → lk.FN c = fs ∧ ClsOk X.K (lk.CA c) fs
  clsOf : ∀ (c : Nat) x, Γ.cnm[c]? = some x → X.mg x = some (.ref (lk.CA c))
  kr : ∀ i : Nat, KrOk fun m ds G => cl m i ds G
  exs : ∀ (i : Nat) x, Γ.exn[i]? = some x → X.mg x = some (.ref (lk.EA i)) ∧ ExcK X.K (lk.EA i) ∧ ExcC X.K (lk.EA i)
  exm : ∀ i j : Nat, i < Γ.exn.length → j < Γ.exn.length → PySem.W.exmOne X.K (.ref (lk.EA i)) (.ref (lk.EA j)) = some (subB Γ i j) ∧ PySem.W.kitOne X.K (.ref (lk.EA i)) (.ref (lk.EA j)) = some (subB Γ i j)
  gls : ∀ (i : Nat) x d, Γ.gnm[i]? = some x → gl i = some d → ∃ v u, X.mg x = some u ∧ RelV v u ∧ ∀ Z ρ n H, Rep X.K (lk.w Z) ρ n H d v
section
variable {Γ : Sig} {X : Cx} {lk : Lk} {cl : List Nat → Nat → List PK.D → Cells → PK.R} {gl : Nat → Option PK.D} {m : List Nat}
theorem Fits.nd' (F : Fits Γ X lk cl gl) : X.N.Nodup := by rw [F.hN]; exact F.nd
theorem Fits.glo (F : Fits Γ X lk cl gl) {x : Str} (h : glB Γ.sc x = true) : Gl X x := by
  show X.env.scope.names.lookup x = _
  rw [F.sc]; exact of_decide_eq_true h
theorem Fits.vis (F : Fits Γ X lk cl gl) {x : Str} (h : visB Γ.sc x = true) : Vis X.env.scope x := by
  unfold Vis; rw [F.sc]
  unfold visB isK at h
  simp only [Bool.or_eq_true, decide_eq_true_eq] at h
  rcases h with (h | h) | h
  · exact .inl h
  · exact .inr (.inl h)
  · exact .inr (.inr h)
theorem Fits.blt (F : Fits Γ X lk cl gl) {x : Str} (h : bltB Γ x = true) : Gl X x ∧ X.mg x = none := by
  obtain ⟨h1, h2⟩ := Bool.and_eq_true_iff.mp h
  exact ⟨F.glo h1, F.free x (of_decide_eq_true h2)⟩
theorem Fits.nm (F : Fits Γ X lk cl gl) {x : Str} {i : Nat} (h : chkNm Γ i x = true) : X.N[i]? = some x ∧ L2.Loc X.env.scope x ∧ (X.fn x = true ∨ X.env.scope.names.lookup x = some .local) := by
  unfold chkNm locB isK at h
  simp only [Bool.and_eq_true, Bool.or_eq_true, decide_eq_true_eq] at h
  obtain ⟨⟨h1, h2⟩, h3⟩ := h
  unfold L2.Loc
  rw [F.hN, F.sc, F.fn]
  exact ⟨h1, h2, h3⟩
theorem Fits.nms (F : Fits Γ X lk cl gl) : ∀ {is : List Nat} {es : List Expr}, chkNms Γ is es = true → Nms X is es
  | [], [], _ => .nil
  | i :: is, e :: es, h => by
    cases e with
    | Name x p =>
      obtain ⟨h1, h2⟩ := Bool.and_eq_true_iff.mp h
      obtain ⟨a, b, c⟩ := F.nm h1
      exact .cons a b c (F.nms h2)
    | _ => cases h
  | [], _ :: _, h => by cases h
  | _ :: _, [], h => by cases h
theorem Fits.pat (F : Fits Γ X lk cl gl) {tg : Expr} {pt : List Nat} {one : Bool} (h : chkP Γ tg pt one = true) : Pat X tg pt one := by
  cases one with
  | true => cases tg with
    | Name x p => match pt, h with
      | [i], h =>
        obtain ⟨a, b, c⟩ := F.nm h
        exact .one rfl rfl a b c
      | [], h => cases h
      | _ :: _ :: _, h => cases h
    | _ => cases h
  | false => cases tg with
    | Tuple es k p => exact .tup rfl (F.nms h)
    | _ => cases h
theorem Fits.blk (F : Fits Γ X lk cl gl) {scope : Scope} {s : Shared} {H : Hp} {C : Addr} {cls : List (Str × Addr)} {fp : List Addr} {A : Addr} : Fits (inBlk Γ scope) (BX X scope s H C cls fp) (lk.add A) cl gl where
  hN := F.hN
  nd := F.nd
  sc := by
    show relabel scope X.env = relS scope Γ.sc
    rw [← F.sc]; rfl
  fn := rfl
  calm := F.calm
  gd := F.gd
  un := F.un
  hp := PassesOwn.never
  free := F.free
  fns := F.fns
  mts := F.mts
  mks := F.mks
  cls := F.cls
  clsOf := F.clsOf
  kr := F.kr
  exs := F.exs
  exm := F.exm
  gls := F.gls
theorem Fits.nox (F : Fits Γ X lk cl gl) : Fits Γ X.nox lk cl gl where
  hN := F.hN
  nd := F.nd
  sc := F.sc
  fn := F.fn
  calm := F.calm
  gd := F.gd
  un := F.un
  hp := PassesOwn.never
  free := F.free
  fns := F.fns
  mts := F.mts
  mks := F.mks
  cls := F.cls
  clsOf := F.clsOf
  kr := F.kr
  exs := F.exs
  exm := F.exm
  gls := F.gls
theorem Fits.tr (F : Fits Γ X lk cl gl) {pn : List (Addr × Obj)} {xe : Value → Shared → Prop} (hp : PassesOwn (model X.prog X.w) X.A X.env xe) : Fits Γ (X.tr pn xe) lk cl gl where
  hN := F.hN
  nd := F.nd
  sc := F.sc
  fn := F.fn
  calm := F.calm
  gd := F.gd
  un := F.un
  hp := hp
  free := F.free
  fns := F.fns
  mts := F.mts
  mks := F.mks
  cls := F.cls
  clsOf := F.clsOf
  kr := F.kr
  exs := F.exs
  exm := F.exm
  gls := F.gls
theorem star_of {e : Expr} {es : List Expr} {env : Env} (h : noStar e = true) : starEach (e :: es) env = (false, eval e env) :: starEach es env := by
  cases e <;> first | rfl | cases h
theorem nostar_any {pos : Pos} {env : Env} : ∀ {es : List Expr}, es.all noStar = true → (backTo pos (starEach es env)).any (·.1) = false
  | [], _ => rfl
  | e :: es, h => by
    simp only [List.all_cons, Bool.and_eq_true] at h
    rw [star_of h.1]
    show (false || (backTo pos (starEach es env)).any (·.1)) = false
    rw [nostar_any h.2]; rfl
theorem chkA_star : ∀ {l : PK.Ls} {es : List Expr}, chkA l Γ es = true → es.all noStar = true
  | .nil, [], _ => rfl
  | .nil, _ :: _, h => by cases h
  | .cons a l, [], h => by cases h
  | .cons a l, e :: es, h => by
    have h : (noStar e && chkE a Γ e && chkA l Γ es) = true := h
    simp only [Bool.and_eq_true] at h
    simp only [List.all_cons, Bool.and_eq_true]
    exact ⟨h.1.1, chkA_star h.2⟩
theorem base_of {o : Expr} {nm : Str} {env : Env} {w : Sem Value} (h : baseB o = true) : attributeBase o nm env w = w := by
  cases o with
  | Call f args kws p =>
    cases f with
    | Name x q =>
      cases args with
      | nil =>
        cases kws with
        | nil => cases h
        | cons _ _ => rfl
      | cons _ _ => rfl
    | _ => rfl
  | _ => rfl
theorem set_of {e : Expr} {env : Env} (h : isSet e = false) : ∀ x, foldedSetIterable e env x = pure x := by
  intro x
  cases e <;> first | rfl | cases h
abbrev EV (cl : List Nat → Nat → List PK.D → Cells → PK.R) (gl : Nat → Option PK.D) (m : List Nat) (l : PK.L) : Ev := fun s G => PK.eval cl gl m l s G
abbrev EVs (cl : List Nat → Nat → List PK.D → Cells → PK.R) (gl : Nat → Option PK.D) (m : List Nat) (l : PK.Ls) : Ev := fun s G => PK.evals cl gl m l s G
structure LX (X : Cx) (lk : Lk) (e : Expr) (ev : Ev) : Prop where
  le : LE X lk e ev
  lt : notIf e = true → LT X lk e ev
  lw : isBop e = true → LW X lk e ev
  co : ∀ elt tg iter ifs scope pos, e = .ListComp elt [⟨tg, iter, ifs, 0⟩] scope pos → ∃ w own k pt one er ec eb, CompOk X lk tg iter elt ifs scope own k pt one er ec eb ∧ ∀ s G, ev s G = compE w k (own.map (·.2)) pt one er ec eb s G
theorem lx_of {e : Expr} {ev : Ev} (h : LE X lk e ev) (he : ∀ whole, isTrue e X.env whole = (do let v ← whole; standAt e.pos; holding [v] (truthy v))) (hb : isBop e = false) (hc : isComp e = false) : LX X lk e ev :=
  ⟨h, fun _ => lt_val h he, fun z => by rw [hb] at z; (exact absurd z Bool.false_ne_true), fun _ _ _ _ _ _ z => by rw [z] at hc; cases hc⟩
theorem args_len : ∀ {l : PK.Ls} {es : List Expr}, chkA l Γ es = true → ∀ {s : PK.Env} {G G' : Cells} {v : PK.D}, PK.evals cl gl m l s G = .ok v G' → ∃ ds, v = .tup ds ∧ ds.length = es.length
  | .nil, [], _, s, G, G', v, q => by cases q; exact ⟨[], rfl, rfl⟩
  | .nil, _ :: _, h, _, _, _, _, _ => by cases h
  | .cons a l, [], h, _, _, _, _, _ => by cases h
  | .cons a l, e :: es, h, s, G, G', v, q => by
    have h : (noStar e && chkE a Γ e && chkA l Γ es) = true := h
    simp only [Bool.and_eq_true] at h
    have q : ((PK.eval cl gl m a s G).bind fun x G1 => (PK.evals cl gl m l s G1).bind fun xs G2 => PK.tupK xs (fun ds => .ok (.tup (x :: ds)) G2) .bad) = .ok v G' := q
    cases q1 : PK.eval cl gl m a s G with
    | ok x G1 =>
      rw [q1] at q
      have q : ((PK.evals cl gl m l s G1).bind fun xs G2 => PK.tupK xs (fun ds => .ok (.tup (x :: ds)) G2) .bad) = .ok v G' := q
      cases q2 : PK.evals cl gl m l s G1 with
      | ok xs G2 =>
        rw [q2] at q
        obtain ⟨ds, rfl, hl⟩ := args_len h.2 q2
        cases q
        exact ⟨x :: ds, rfl, by rw [List.length_cons, List.length_cons, hl]⟩
      | exc c G2 => rw [q2] at q; cases q
      | bad => rw [q2] at q; cases q
    | exc c G1 => rw [q1] at q; cases q
    | bad => rw [q1] at q; cases q
theorem tys_of (F : Fits Γ X lk cl gl) : ∀ {ts : List PK.Ty} {es : List Expr}, chkTys Γ ts es = true → TyEs X ts es
  | [], [], _ => .nil
  | y :: ts, e :: es, h => by
    cases e with
    | Name x p =>
      have h : (!tyOwn y && decide (x = Str.ofString (tyS y)) && bltB Γ x && chkTys Γ ts es) = true := h
      simp only [Bool.and_eq_true, Bool.not_eq_true', decide_eq_true_eq] at h
      obtain ⟨⟨⟨h1, h2⟩, h3⟩, h4⟩ := h
      subst h2
      obtain ⟨g1, g2⟩ := F.blt h3
      exact .cons h1 g1 g2 (tys_of F h4)
    | _ => cases h
  | [], _ :: _, h => by cases h
  | _ :: _, [], h => by cases h
end
end PKS
namespace PKS
open PySem PySem.Spec PyProof.Rows L2
section
variable {prog : Program} {w : World} {A : Around} {E : Value → Shared → Prop} {s : Shared}
theorem rv_extend {it l S : Addr} {items : Array Value} {c₀ : Nat} {res : Value} {R : Result → Shared → Prop} (hh : A.handled = none) (hit : s.heap.IsRevIter it l ((items.size : Int) - 1)) (hl : s.heap.IsList l items) (hne : l ≠ it) (hn : items.size ≤ sizeLine)
    (hSi : S ≠ it) (hSl : S ≠ l) (hS : s.heap.get? S = some { cls := .type "list", data := .seq #[] c₀ })
    (hR : ∀ h' tk acc' c', (∀ b o, b ≠ S → b ≠ it → s.heap.get? b = some o → h'.get? b = some o) → h'.get? S = some { cls := .type "list", dict := none, data := .seq acc' c', slots := #[] } →
      ItemsOf (fun i v => items[items.size - 1 - i]? = some v) acc' items.size → R (.ok (.ret res)) { s with heap := h', toks := tk }) :
    wpAny (model prog w) A.in1 (Builtin.List.listExtendWith (.ref S) (.ref it) res)
      (fun fin s' => match fin with | .done f => R (.ok f) s' | .again c' => c'.quiet = true ∧ codeAny (model prog w) A c' R s') (fun e s' => R (.error e) s') s := by
  have W := (Walks.listRev (prog := prog) (w := w) (A := A.in1) hh it l hne items).toS
  have hSf : S ∉ [it, l] := by simp only [List.mem_cons, List.not_mem_nil, or_false, not_or]; exact ⟨hSi, hSl⟩
  have hT : s.TypeIs (.ref it) "list_reverseiterator" := Heap.IsRevIter.typeIs hit
  have h1 : Builtin.List.listSameRef (.ref S) (.ref it) = false := by simp [Builtin.List.listSameRef, hSi]
  unfold Builtin.List.listExtendWith
  refine wpAny_bind (wpAny_typeOf hT ?_)
  rw [if_neg (by rw [h1]; decide)]
  refine wpAny_bind (wpAny_pyIter_revIter hit ?_)
  refine wpAny_bind (wpAny_holding ?_)
  unfold Builtin.List.listLengthHint
  refine wpAny_bind (wpAny_specialOf hT RT.nolen_lri ?_)
  show wpAny _ A.in1 (specialOf (Value.ref it) (Str.ofString "__length_hint__") >>= _) _ _ _
  refine wpAny_bind (wpAny_specialOf hT RT.hint_lri ?_)
  generalize hid : ("list_reverseiterator.__length_hint__" : String) = id0
  wp_delta
  rw [show splitId id0 = some ("list_reverseiterator", "__length_hint__") from by subst hid; decide +kernel]
  subst hid
  refine wpAny_bind (wpAny_isInstance (b := true) hT (by rw [isSubtype_type]; kernel_rfl) ?_)
  refine wpAny_pure ?_
  rw [if_neg (by decide)]
  have e0 : ((items.size : Nat) : Int) - 1 - ((0 : Nat) : Int) = (items.size : Int) - 1 := by omega
  refine wpAny_pure ⟨plainId_quiet F.plain_extend_loop _, codeAny_extend_loopS W hn _ hSf _ items.size 0 _ _ _ rfl (Nat.zero_le _) ⟨Nat.zero_le _, by rw [e0]; exact hit, hl⟩ hS (ItemsOf.nil _) fun s' acc' c' hm hS' hacc => ?_⟩
  rw [Moved.eq_with hm]
  refine hR s'.heap s'.toks acc' c' (fun b o hb hb2 e => hm.heap b o (fun hmem => ?_) e) hS' hacc
  rcases List.mem_cons.mp hmem with e' | hmem
  · exact hb e'
  · exact hb2 (List.mem_singleton.mp hmem)
theorem rv_init {it l S : Addr} {items : Array Value} {R : Result → Shared → Prop} (hh : A.handled = none) (hit : s.heap.IsRevIter it l ((items.size : Int) - 1)) (hl : s.heap.IsList l items) (hne : l ≠ it) (hn : items.size ≤ sizeLine)
    (hSi : S ≠ it) (hSl : S ≠ l) (hS : s.heap.get? S = some { cls := .type "list", data := .seq #[] })
    (hR : ∀ h' tk acc' c', (∀ b o, b ≠ S → b ≠ it → s.heap.get? b = some o → h'.get? b = some o) → h'.get? S = some { cls := .type "list", dict := none, data := .seq acc' c', slots := #[] } →
      ItemsOf (fun i v => items[items.size - 1 - i]? = some v) acc' items.size → R (.ok (.ret .none)) { s with heap := h', toks := tk }) :
    wpAny (model prog w) A.in1 (Builtin.«list.__init__» ⟨[.ref S, .ref it], []⟩)
      (fun fin s' => match fin with | .done f => R (.ok f) s' | .again c' => c'.quiet = true ∧ codeAny (model prog w) A c' R s') (fun e s' => R (.error e) s') s := by
  show wpAny _ _ (do let old ← Builtin.List.listItems (.ref S); Builtin.List.listUpdate (.ref S) (fun _ => #[]); letGo old.toList.reverse; Builtin.List.listExtendWith (.ref S) (.ref it) .none) _ _ s
  refine wpAny_bind ?_
  unfold Builtin.List.listItems
  refine wpAny_bind (wpAny_seqItems hS rfl (wpAny_pure ?_))
  show wpAny _ _ (updateSeq S (fun _ => #[]) >>= fun _ => letGo (#[] : Array Value).toList.reverse >>= fun _ => Builtin.List.listExtendWith (.ref S) (.ref it) .none) _ _ s
  refine wpAny_bind (wpAny_updateSeq hS rfl ?_)
  have hS₂ := Heap.get?_update_self (Obj.mapSeq (fun _ => (#[] : Array Value))) hS rfl
  have oth : ∀ b o, b ≠ S → s.heap.get? b = some o → (s.heap.update S (Obj.mapSeq (fun _ => (#[] : Array Value)))).get? b = some o :=
    fun b o hb e => (Heap.get?_update_other _ _ (Ne.symm hb)).trans e
  refine wpAny_bind (wpAny_letGo ?_)
  refine rv_extend hh (hit.at fun o e => oth _ _ hSi.symm e) (hl.at fun o e => oth _ _ hSl.symm e) hne hn hSi hSl hS₂ fun h' tk acc' c' hk hS' hacc => ?_
  exact hR h' tk acc' c' (fun b o hb hb2 e => hk b o hb hb2 (oth b o hb e)) hS' hacc
theorem call_list_rev {it l : Addr} {items : Array Value} {Q : Value → Shared → Prop} (hh : A.handled = none) (hit : s.heap.IsRevIter it l ((items.size : Int) - 1)) (hl : s.heap.IsList l items) (hne : l ≠ it) (hn : items.size ≤ sizeLine)
    (hQ : ∀ (h' : Heap) (tk : Nat) (acc : Array Value) (c' : Nat), (∀ b o, b ≠ it → s.heap.get? b = some o → h'.get? b = some o) → h'.get? s.heap.objs.size = some { cls := .type "list", dict := none, data := .seq acc c', slots := #[] } →
      ItemsOf (fun i v => items[items.size - 1 - i]? = some v) acc items.size → Q (.ref s.heap.objs.size) { s with heap := h', toks := tk }) :
    wpAny (model prog w) A (call (.type "list") [.ref it]) Q E s := by
  refine callType_codes (Q₁ := fun obj s₁ => obj = .ref s.heap.objs.size ∧ s₁ = { s with heap := s.heap.push { cls := .type "list", data := .seq #[] } }) PySem.F.called_list (PySem.F.typeCall_list_1 _) PySem.F.entry_list_init
    (code_list_new _ ⟨rfl, rfl⟩) fun obj s₁ h₁ => ?_
  obtain ⟨rfl, rfl⟩ := h₁
  have hS : (s.heap.push { cls := .type "list", data := .seq #[] }).get? s.heap.objs.size = some { cls := .type "list", data := .seq #[] } := Heap.get?_push_size _ rfl
  obtain ⟨oi, hoi, _⟩ := id hit
  obtain ⟨ol, hol, _⟩ := id hl
  refine ⟨⟨_, hS, rfl⟩, PySem.F.args_list_init_2 _ _, rv_init (A := A.in1) hh (hit.at fun o e => Heap.get?_push_of_some _ e) (hl.push _) hne hn (Nat.ne_of_gt (Heap.lt_size hoi)) (Nat.ne_of_gt (Heap.lt_size hol)) hS fun h' tk acc' c' hk hS' hacc => ?_⟩
  exact ⟨rfl, hQ h' tk acc' c' (fun b o hb e => hk b o (Nat.ne_of_lt (Heap.lt_size e)) hb (Heap.get?_push_of_some _ e)) hS' hacc⟩
end
def tLstRev (K : PySem.W.Frag) (te : TE) : TE := fun σ H Q => te σ H fun v H1 => ∃ (a : Addr) (xs : List V), v = .ref a ∧ SqL K H1 a xs ∧ ∀ q, H1 q = none → Q (.ref q) (upd H1 q (.lst xs.reverse))
section
variable {X : Cx}
theorem pe_lstRev {e : Expr} {te : TE} {p p2 pos pos2 : Pos} (hc : X.calm = true) (hg : Gl X "list") (hm : X.mg "list" = none) (hg2 : Gl X "reversed") (hm2 : X.mg "reversed" = none) (he : PE X e te)
    (hs : starEach [e] X.env = (false, eval e X.env) :: starEach [] X.env)
    (hs2 : starEach [.Call (.Name "reversed" p2) [e] [] pos2] X.env = (false, eval (.Call (.Name "reversed" p2) [e] [] pos2) X.env) :: starEach [] X.env := by rfl) :
    PE X (.Call (.Name "list" p) [.Call (.Name "reversed" p2) [e] [] pos2] [] pos) (tLstRev X.K te) := by
  refine ⟨fun pins s σ H Q I h => ?_⟩
  refine Call_ (ld_blt I hg hm boot_list (PyProof.Rows.callWith_type1 (args_cons (Call_ (ld_blt I hg2 hm2 PyProof.Rows.boot_reversed (PyProof.Rows.callWith_type1 (args_cons (thn (he.run pins s σ H _ I h) fun u s1 ⟨v, H1, I1, r1, q1⟩ => args_nil ?_) hs) hs rfl))) hs2) hs2 rfl))
  obtain ⟨a, xs, ev, hq, q⟩ := q1
  subst ev
  obtain rfl : u = Value.ref a := r1
  obtain ⟨its, rv, p', hz⟩ := I1.list hq
  refine call_reversed_list p'.isList (args_nil ?_)
  have k0 : ∀ b o, s1.heap.get? b = some o → (s1.heap.push (revObj a ((its.toArray.size : Int) - 1))).get? b = some o := fun b o e => Heap.get?_push_of_some _ e
  have hl := p'.isList
  obtain ⟨ol, hol, _⟩ := id hl
  have hne : a ≠ s1.heap.objs.size := Nat.ne_of_lt (Heap.lt_size hol)
  have hn : its.toArray.size ≤ sizeLine := by rw [List.size_toArray, ← rv.length]; exact hz
  refine call_list_rev (s := { s1 with heap := s1.heap.push (revObj a ((its.toArray.size : Int) - 1)) }) (I1.ok.hd hc) ⟨_, Heap.get?_push_size _ rfl, rfl, rfl⟩ (hl.push _) hne hn fun h' tk acc c' hk hS hi => ?_
  have k1 : ∀ b o, s1.heap.get? b = some o → h'.get? b = some o := fun b o e => hk b o (Nat.ne_of_lt (Heap.lt_size e)) (k0 b o e)
  refine ⟨.ref _, upd H1 _ (.lst xs.reverse), I1.laid (t' := tk) k1 (Nat.le_of_lt (by show s1.heap.objs.size < (s1.heap.push (revObj a ((its.toArray.size : Int) - 1))).objs.size; simp [Heap.push])) (show ObjOk X.prog X.w _ _ _ (.lst xs.reverse) from ⟨by rw [List.length_reverse]; exact hz, acc.toList, c', RT.vals_rev rv hi, ?_⟩), rfl, q _ (I1.hok.fresh (Nat.le_of_lt (by simp [Heap.push])))⟩
  rw [Array.toArray_toList]
  exact hS
variable {lk : Lk} {e : Expr} {ea : Ev} {p p2 pos pos2 : Pos}
theorem le_lrev (w : Bool) (hc : X.calm = true) (hg : Gl X "list") (hm : X.mg "list" = none) (hg2 : Gl X "reversed") (hm2 : X.mg "reversed" = none) (ha : LE X lk e ea)
    (hs : starEach [e] X.env = (false, eval e X.env) :: starEach [] X.env) :
    LE X lk (.Call (.Name "list" p) [.Call (.Name "reversed" p2) [e] [] pos2] [] pos) (fun s G => (ea s G).bind fun x G1 => PK.revD w x G1) :=
  pe_imp (pe_lstRev hc hg hm hg2 hm2 ha hs) fun σ H Q ⟨ρ, G, s, r, en, h⟩ => ⟨ρ, G, s, r, en, h.bind fun v G1 _ ρ1 H1 x e1 r1 p1 h1 => rev_val r1 p1 h1⟩
end
end PKS
namespace PKS
open PySem PySem.Spec PyProof.Rows L2
inductive AtE (X : Cx) : PK.L → Expr → Prop
  | int {i : Int} {k : Nat} {p : Pos} : AtE X (.c (.int i)) (.Constant (.int i) k p)
  | str {i : Str} {k : Nat} {p : Pos} : AtE X (.c (.str i)) (.Constant (.str i) k p)
  | bl {i : Bool} {k : Nat} {p : Pos} : AtE X (.c (.bl i)) (.Constant (.bool i) k p)
  | non {k : Nat} {p : Pos} : AtE X (.c .non) (.Constant .none k p)
  | var {i : Nat} {y : Str} {p : Pos} (hN : X.N[i]? = some y) (hv : Vis X.env.scope y) (hd : (y == ("__debug__" : Str)) = false) (hcd : (y == ("__classdict__" : Str)) = false) : AtE X (.v i) (.Name y p)
theorem AtE.pe {X : Cx} {a : PK.L} {e : Expr} (h : AtE X a e) : ∃ te : TE, PE X e te ∧ ∀ (lk : Lk) (ρ : Nm) (n : Nat) (H : Hp) (s : PK.Env) (σ : L2.St) d, REnv X.K lk ρ n H s σ → PK.atomL a s = some d → ∃ v, Rep X.K lk ρ n H d v ∧ ∀ (Q : VK) (H' : Hp), Q v H' → te σ H' Q := by
  cases h with
  | int => exact ⟨_, pe_int, fun lk ρ n H s σ d en e => by cases e; exact ⟨_, rfl, fun Q H' q => q⟩⟩
  | str => exact ⟨_, pe_str, fun lk ρ n H s σ d en e => by cases e; exact ⟨_, rfl, fun Q H' q => q⟩⟩
  | bl => exact ⟨_, pe_bl, fun lk ρ n H s σ d en e => by cases e; exact ⟨_, rfl, fun Q H' q => q⟩⟩
  | non => exact ⟨_, pe_non, fun lk ρ n H s σ d en e => by cases e; exact ⟨_, rfl, fun Q H' q => q⟩⟩
  | @var i y p hN hv hd hcd => exact ⟨_, pe_var hN hv hd hcd, fun lk ρ n H s σ d en e => by
      have e : s[i]?.join = some d := e
      cases q : s[i]? with
      | none => rw [q] at e; cases e
      | some o =>
        rw [q] at e
        have e : o = some d := e
        subst e
        obtain ⟨v, h1, h2⟩ := en.at_ i d q
        exact ⟨v, h2, fun Q H' q => ⟨v, h1, q⟩⟩⟩
inductive AtEs (X : Cx) : PK.Ls → List (Option Expr) → List Expr → Prop
  | nil : AtEs X .nil [] []
  | cons {a b : PK.L} {l : PK.Ls} {k v : Expr} {ks : List (Option Expr)} {vs : List Expr} (ha : AtE X a k) (hb : AtE X b v) (r : AtEs X l ks vs) : AtEs X (.cons a (.cons b l)) (some k :: ks) (v :: vs)
theorem AtEs.len {X : Cx} {l : PK.Ls} {ks : List (Option Expr)} {vs : List Expr} (h : AtEs X l ks vs) : ks.length = vs.length ∧ ks.all (·.isSome) = true := by
  induction h with
  | nil => exact ⟨rfl, rfl⟩
  | cons _ _ _ ih => exact ⟨by rw [List.length_cons, List.length_cons, ih.1], by rw [List.all_cons, ih.2]; rfl⟩
theorem key_rep {K : PySem.W.Frag} {lk : Lk} {ρ : Nm} {n : Nat} {H : Hp} {d : PK.D} {v : V} {k : Key} (r : Rep K lk ρ n H d v) (e : PK.keyD d = some k) : v = kV k := by
  cases d with
  | int i => cases e; exact r
  | str i => cases e; exact r
  | _ => cases e
theorem AtEs.pps {X : Cx} {l : PK.Ls} {ks : List (Option Expr)} {vs : List Expr} (h : AtEs X l ks vs) (pos : Pos) : ∃ trs : List (TE × TE), PPs X pos ks vs trs ∧
    ∀ (lk : Lk) (ρ : Nm) (n : Nat) (H : Hp) (s : PK.Env) (σ : L2.St) ps kvs, REnv X.K lk ρ n H s σ → PK.pairsL l s = some ps → PK.keyP ps = some kvs →
      ∃ zs : List (Key × V), RepK X.K lk ρ n H kvs zs ∧ zs.length = ks.length ∧ ∀ (Q : List (V × V) → Hp → Prop) (H' : Hp), Q (zs.map fun kv => (kV kv.1, kv.2)) H' → tPairs trs σ H' Q := by
  induction h with
  | nil => exact ⟨[], pps_nil, fun lk ρ n H s σ ps kvs en e1 e2 => by
      cases e1; cases e2
      exact ⟨[], ⟨rfl, rfl⟩, rfl, fun Q H' q => q⟩⟩
  | @cons a b l k v ks vs ha hb r ih =>
    obtain ⟨trs, h1, h2⟩ := ih
    obtain ⟨ta, a1, a2⟩ := ha.pe
    obtain ⟨tb, b1, b2⟩ := hb.pe
    refine ⟨(ta, tb) :: trs, pps_cons a1 b1 h1, fun lk ρ n H s σ ps kvs en e1 e2 => ?_⟩
    have e1 : ((PK.atomL a s).bind fun x => (PK.atomL b s).bind fun y => (PK.pairsL l s).bind fun r => some ((x, y) :: r)) = some ps := e1
    cases q1 : PK.atomL a s with
    | none => rw [q1] at e1; cases e1
    | some x =>
      cases q2 : PK.atomL b s with
      | none => rw [q1, q2] at e1; cases e1
      | some y =>
        cases q3 : PK.pairsL l s with
        | none => rw [q1, q2, q3] at e1; cases e1
        | some ps2 =>
          rw [q1, q2, q3] at e1
          cases e1
          have e2 : ((PK.keyD x).bind fun k => (PK.keyP ps2).bind fun r => some ((k, y) :: r)) = some kvs := e2
          cases q4 : PK.keyD x with
          | none => rw [q4] at e2; cases e2
          | some kx =>
            cases q5 : PK.keyP ps2 with
            | none => rw [q4, q5] at e2; cases e2
            | some kvs2 =>
              rw [q4, q5] at e2
              cases e2
              obtain ⟨vx, c1, c2⟩ := a2 lk ρ n H s σ x en q1
              obtain ⟨vy, d1, d2⟩ := b2 lk ρ n H s σ y en q2
              obtain ⟨zs, f1, f2, f3⟩ := h2 lk ρ n H s σ ps2 kvs2 en q3 q5
              have ev := key_rep c1 q4
              subst ev
              refine ⟨(kx, vy) :: zs, ⟨?_, ?_⟩, by rw [List.length_cons, List.length_cons, f2], fun Q H' q => c2 _ _ (d2 _ _ (f3 _ _ q))⟩
              · rw [List.map_cons, List.map_cons, f1.1]
              · exact ⟨vy, _, rfl, d1, f1.2⟩
theorem merge_rep {K : PySem.W.Frag} {lk : Lk} {ρ : Nm} {n : Nat} {H : Hp} : ∀ {kvs : List (Key × PK.D)} {zs : List (Key × V)} {a : List (Key × PK.D)} {b : List (Key × V)}, RepK K lk ρ n H kvs zs → RepK K lk ρ n H a b →
    RepK K lk ρ n H (kvs.foldl (fun acc kv => PK.putD acc kv.1 kv.2) a) (mergeK b zs)
  | [], zs, a, b, h, h0 => by
    have : zs = [] := by
      have := congrArg List.length h.1
      simpa using this
    subst this
    exact h0
  | kv :: kvs, zs, a, b, h, h0 => by
    cases zs with
    | nil => have := congrArg List.length h.1; simp at this
    | cons z zs =>
      obtain ⟨h1, x, xs, e, h3, h4⟩ := h
      simp only [List.map_cons, List.cons.injEq] at h1 e
      have hz : RepK K lk ρ n H kvs zs := ⟨h1.2, by rw [e.2]; exact h4⟩
      have hp : RepK K lk ρ n H (PK.putD a kv.1 kv.2) (putK b z.1 z.2) := by
        rw [h1.1]
        exact put_rep (by rw [e.1]; exact h3) h0
      exact (merge_rep hz hp : RepK K lk ρ n H (kvs.foldl (fun acc kv => PK.putD acc kv.1 kv.2) (PK.putD a kv.1 kv.2)) (mergeK (putK b z.1 z.2) zs))
section
variable {X : Cx} {lk : Lk} {l : PK.Ls} {ks : List (Option Expr)} {vs : List Expr} {pos : Pos}
theorem le_dlit (h : AtEs X l ks vs) (h0 : ks ≠ []) (h15 : ks.length ≤ 15) : LE X lk (.Dict ks vs pos) (fun s G => PK.optK (PK.pairsL l s) (fun ps => PK.dlitD ps G) .bad) := by
  obtain ⟨trs, p1, p2⟩ := h.pps pos
  refine pe_imp (pe_disp p1 h.len.2 h.len.1 h0 h15) fun σ H Q ⟨ρ, G, s, r, en, hq⟩ p hp => ?_
  have hq : OutE X.K lk (WXo X) σ ρ G H (PK.optK (PK.pairsL l s) (fun ps => PK.dlitD ps G) .bad) Q := hq
  cases q1 : PK.pairsL l s with
  | none => rw [q1] at hq; exact False.elim hq
  | some ps =>
    rw [q1] at hq
    have hq : OutE X.K lk (WXo X) σ ρ G H (PK.dlitD ps G) Q := hq
    unfold PK.dlitD at hq
    cases q2 : PK.keyP ps with
    | none => rw [q2] at hq; exact False.elim hq
    | some kvs =>
      rw [q2] at hq
      have hq : OutE X.K lk (WXo X) σ ρ G H (.ok (.ref G.length) (G ++ [.dK (kvs.foldl (fun acc kv => PK.putD acc kv.1 kv.2) [])])) Q := hq
      obtain ⟨zs, z1, z2, z3⟩ := p2 lk ρ G.length H s σ ps kvs en q1 q2
      refine z3 _ _ ⟨upd_same, zs, rfl, by rw [z2]; exact h15, ?_⟩
      have hu : upd (upd H p (.dK [])) p (.dK (mergeK [] zs)) = upd H p (.dK (mergeK [] zs)) := by
        funext a
        by_cases c : a = p
        · subst c; rw [upd_same, upd_same]
        · rw [upd_ne c, upd_ne c, upd_ne c]
      rw [hu]
      refine hq (nset ρ G.length p) _ _ ?_ (r.laid hp ⟨_, rfl, merge_rep z1 ⟨rfl, rfl⟩⟩) ⟨by simp, by rw [nset_same]⟩
      rw [List.length_append]
      exact Ext.celled hp
end
end PKS
namespace PKS
open PySem PySem.Spec PyProof.Rows L2
section
variable {cl : List Nat → Nat → List PK.D → Cells → PK.R} {gl : Nat → Option PK.D} {m : List Nat}
theorem plainIx_of {b : Expr} (h : plainIxB b = true) : PlainIx b := by
  cases b <;> first | (intro o i; rfl) | cases h
theorem iter_of {Γ : Sig} {X : Cx} {lk : Lk} (F : Fits Γ X lk cl gl) {k : PK.Ik} {tg iter : Expr} {es : List Expr} {it : PK.Ls} (h : iterEs k Γ tg iter = some es) (hA : chkA it Γ es = true) (ha : LA X lk es (EVs cl gl m it)) (hv : ∀ a, it = .cons a .nil → ∀ e, es = [e] → LE X lk e (EV cl gl m a)) : LI X lk tg iter k (EVs cl gl m it) := by
  have st := chkA_star hA
  cases k with
  | val =>
    unfold iterEs at h
    dsimp only at h
    split at h
    · cases h
    · cases h
      match it, hA with
      | .cons a .nil, hA =>
        have e := li_val (tg := tg) (hv a rfl iter rfl)
        have z : (EVs cl gl m (.cons a .nil)) = fun s G => (EV cl gl m a s G).bind fun x G1 => .ok (.tup [x]) G1 := by
          funext s G
          show ((PK.eval cl gl m a s G).bind fun x G1 => _) = (PK.eval cl gl m a s G).bind _
          cases PK.eval cl gl m a s G <;> rfl
        rw [z]; exact e
      | .nil, hA => cases hA
      | .cons a (.cons b l), hA =>
        have hA : (noStar iter && chkE a Γ iter && false) = true := hA
        simp at hA
  | range1 =>
    cases iter with
    | Call f args kws pos =>
      cases f with
      | Name x p => match args, kws, h with
        | [e], [], h =>
          have h : (if (decide (x = "range") && bltB Γ x) = true then some [e] else none) = some es := h
          split at h
          · rename_i c
            cases h
            simp only [Bool.and_eq_true, decide_eq_true_eq] at c
            obtain ⟨rfl, c⟩ := c
            obtain ⟨g1, g2⟩ := F.blt c
            simp only [List.all_cons, Bool.and_eq_true] at st
            exact li_range1 g1 g2 ha (star_of st.1)
          · cases h
        | [], _, h => cases h
        | _ :: _ :: _, _, h => cases h
        | [_], _ :: _, h => cases h
      | _ => cases h
    | _ => cases h
  | range2 =>
    cases iter with
    | Call f args kws pos =>
      cases f with
      | Name x p => match args, kws, h with
        | [e, e2], [], h =>
          have h : (if (decide (x = "range") && bltB Γ x) = true then some [e, e2] else none) = some es := h
          split at h
          · rename_i c
            cases h
            simp only [Bool.and_eq_true, decide_eq_true_eq] at c
            obtain ⟨rfl, c⟩ := c
            obtain ⟨g1, g2⟩ := F.blt c
            simp only [List.all_cons, Bool.and_eq_true] at st
            have s2 : starEach [e2] X.env = [(false, eval e2 X.env)] := star_of st.2.1
            exact li_range2 g1 g2 ha (by rw [star_of st.1, s2]) s2
          · cases h
        | [], _, h => cases h
        | [_], _, h => cases h
        | _ :: _ :: _ :: _, _, h => cases h
        | [_, _], _ :: _, h => cases h
      | _ => cases h
    | _ => cases h
  | range3 =>
    cases iter with
    | Call f args kws pos =>
      cases f with
      | Name x p => match args, kws, h with
        | [e, e2, e3], [], h =>
          have h : (if (decide (x = "range") && bltB Γ x) = true then some [e, e2, e3] else none) = some es := h
          split at h
          · rename_i c
            cases h
            simp only [Bool.and_eq_true, decide_eq_true_eq] at c
            obtain ⟨rfl, c⟩ := c
            obtain ⟨g1, g2⟩ := F.blt c
            simp only [List.all_cons, Bool.and_eq_true] at st
            exact li_range3 g1 g2 ha (star_of st.1) (nostar_any (by simp [st.2.1, st.2.2.1]))
          · cases h
        | [], _, h => cases h
        | [_], _, h => cases h
        | [_, _], _, h => cases h
        | _ :: _ :: _ :: _ :: _, _, h => cases h
        | [_, _, _], _ :: _, h => cases h
      | _ => cases h
    | _ => cases h
  | enum =>
    cases iter with
    | Call f args kws pos =>
      cases f with
      | Name x p => match args, kws, h with
        | [e], [], h =>
          have h : (if (decide (x = "enumerate") && bltB Γ x && isTup tg) = true then some [e] else none) = some es := h
          split at h
          · rename_i c
            cases h
            simp only [Bool.and_eq_true, decide_eq_true_eq] at c
            obtain ⟨⟨rfl, c⟩, ht⟩ := c
            obtain ⟨g1, g2⟩ := F.blt c
            simp only [List.all_cons, Bool.and_eq_true] at st
            cases tg with
            | Tuple elts kk tpos => exact li_enum g1 g2 ha (star_of st.1)
            | _ => cases ht
          · cases h
        | [], _, h => cases h
        | _ :: _ :: _, _, h => cases h
        | [_], _ :: _, h => cases h
      | _ => cases h
    | _ => cases h
  | zip =>
    cases iter with
    | Call f args kws pos =>
      cases f with
      | Name x p => match args, kws, h with
        | [e, e2], [], h =>
          have h : (if (decide (x = "zip") && bltB Γ x && isTup tg) = true then some [e, e2] else none) = some es := h
          split at h
          · rename_i c
            cases h
            simp only [Bool.and_eq_true, decide_eq_true_eq] at c
            obtain ⟨⟨rfl, c⟩, ht⟩ := c
            obtain ⟨g1, g2⟩ := F.blt c
            simp only [List.all_cons, Bool.and_eq_true] at st
            cases tg with
            | Tuple elts kk tpos => exact li_zip g1 g2 ha (star_of st.1) (nostar_any (by simp [st.2.1]))
            | _ => cases ht
          · cases h
        | [], _, h => cases h
        | [_], _, h => cases h
        | _ :: _ :: _ :: _, _, h => cases h
        | [_, _], _ :: _, h => cases h
      | _ => cases h
    | _ => cases h
  | items => cases h
  | values => cases h
  | rev =>
    cases iter with
    | Call f args kws pos =>
      cases f with
      | Name x p => match args, kws, h with
        | [e], [], h =>
          have h : (if (decide (x = "reversed") && bltB Γ x) = true then some [e] else none) = some es := h
          split at h
          · rename_i c
            cases h
            simp only [Bool.and_eq_true, decide_eq_true_eq] at c
            obtain ⟨rfl, c⟩ := c
            obtain ⟨g1, g2⟩ := F.blt c
            simp only [List.all_cons, Bool.and_eq_true] at st
            exact li_rev g1 g2 ha (star_of st.1)
          · cases h
        | [], _, h => cases h
        | _ :: _ :: _, _, h => cases h
        | [_], _ :: _, h => cases h
      | _ => cases h
    | _ => cases h
theorem atB_ok {Γ : Sig} {X : Cx} {lk : Lk} (F : Fits Γ X lk cl gl) {a : PK.L} {e : Expr} (h : atB Γ a e = true) : AtE X a e := by
  unfold atB at h
  split at h
  · split at h
    · exact .non
    · rw [of_decide_eq_true h]; exact .bl
    · rw [of_decide_eq_true h]; exact .int
    · rw [of_decide_eq_true h]; exact .str
    · cases h
  · simp only [Bool.and_eq_true, decide_eq_true_eq] at h
    obtain ⟨⟨⟨h1, h2⟩, h3⟩, h4⟩ := h
    exact .var (by rw [F.hN]; exact h1) (F.vis h2) (by simpa [ndB] using h3) (by simpa [ncB] using h4)
  · cases h
theorem atBs_ok {Γ : Sig} {X : Cx} {lk : Lk} (F : Fits Γ X lk cl gl) : ∀ {l : PK.Ls} {ks : List (Option Expr)} {vs : List Expr}, atBs Γ l ks vs = true → AtEs X l ks vs
  | .nil, [], [], _ => .nil
  | .cons a (.cons b l), some k :: ks, v :: vs, h => by
    simp only [atBs, Bool.and_eq_true] at h
    exact .cons (atB_ok F h.1.1) (atB_ok F h.1.2) (atBs_ok F h.2)
  | .nil, _ :: _, _, h => by simp [atBs] at h
  | .nil, [], _ :: _, h => by simp [atBs] at h
  | .cons a .nil, _, _, h => by simp [atBs] at h
  | .cons a (.cons b l), [], _, h => by simp [atBs] at h
  | .cons a (.cons b l), none :: _, _, h => by simp [atBs] at h
  | .cons a (.cons b l), some _ :: _, [], h => by simp [atBs] at h
theorem mt_eval {o : Expr} {nm : Str} {apos pos : Pos} {es : List Expr} {env : Env} (hb : attributeBase o nm env (eval o env) = eval o env)
    (hf : ((backTo pos (starEach es env)).all (fun x => !x.1) && (backToKw pos (keywordEach [] env)).all (fun x => x.1.isSome) && decide (es.length + ([] : List Keyword).length + (if ([] : List Keyword).isEmpty then 0 else 1) < 30)) = true)
    (hl : (apos.endLine == pos.line) = true) :
    eval (.Call (.Attribute o nm apos) es [] pos) env = (do
      let ov ← eval o env
      standAt apos.atName
      let (f, first) ← holding [ov] (getMethod ov nm (plainOf o env))
      callWith pos f first (backTo pos (starEach es env)) (backToKw pos (keywordEach [] env))) := by
  have hform : methodCallForm (es.length + ([] : List Keyword).length) (backTo pos (starEach es env)) (backToKw pos (keywordEach [] env)) = true := hf
  have hpos : methodCallPos true o env apos pos = pure pos := by unfold methodCallPos; simp [hl]
  rw [arm_eval_Call, hb]
  unfold methodCall
  rw [hform, hpos]
  rfl
theorem own_back {Γ : Sig} (own : List Nat) : (ownP Γ own).map (·.2) = own := by
  unfold ownP
  rw [List.map_map]
  exact List.map_id' _
theorem po_none' {X : Cx} {lk : Lk} {a : PK.L} (h : absL a = true) : PoL X lk none (EV cl gl m a) := by
  cases a with
  | c d => cases d with
    | exc n => cases n with
      | zero => exact .inl ⟨rfl, rfl⟩
      | succ n => cases h
    | _ => cases h
  | _ => cases h
mutual
theorem chkE_ok : ∀ (l : PK.L) {Γ : Sig} {X : Cx} {lk : Lk} {e : Expr}, Fits Γ X lk cl gl → chkE l Γ e = true → LX X lk e (EV cl gl m l)
  | .c d, Γ, X, lk, e, F, h => by
    cases d with
    | non => cases e with
      | Constant c k p => cases c with
        | none => exact lx_of le_non (fun _ => rfl) rfl rfl
        | _ => cases h
      | _ => cases h
    | bl b => cases e with
      | Constant c k p => cases c with
        | bool b' => obtain rfl := of_decide_eq_true (show decide (b = b') = true from h); exact lx_of le_bl (fun _ => rfl) rfl rfl
        | _ => cases h
      | _ => cases h
    | int b => cases e with
      | Constant c k p => cases c with
        | int b' => obtain rfl := of_decide_eq_true (show decide (b = b') = true from h); exact lx_of le_int (fun _ => rfl) rfl rfl
        | _ => cases h
      | _ => cases h
    | str b => cases e with
      | Constant c k p => cases c with
        | str b' => obtain rfl := of_decide_eq_true (show decide (b = b') = true from h); exact lx_of le_str (fun _ => rfl) rfl rfl
        | _ => cases h
      | _ => cases h
    | _ => cases e <;> cases h
  | .v i, Γ, X, lk, e, F, h => by
    cases e with
    | Name x p =>
      have h : (decide (Γ.N[i]? = some x) && visB Γ.sc x && ndB x && ncB x) = true := h
      simp only [Bool.and_eq_true, decide_eq_true_eq] at h
      obtain ⟨⟨⟨h1, h2⟩, h3⟩, h4⟩ := h
      refine lx_of (le_of (le_var (i := i) (by rw [F.hN]; exact h1) (F.vis h2) ?_ ?_) fun _ _ => rfl) (fun _ => rfl) rfl rfl
      · simpa [ndB] using h3
      · simpa [ncB] using h4
    | _ => cases h
  | .g i, Γ, X, lk, e, F, h => by
    cases e with
    | Name x p =>
      have h : (decide (Γ.gnm[i]? = some x) && glB Γ.sc x && ndB x) = true := h
      simp only [Bool.and_eq_true, decide_eq_true_eq] at h
      obtain ⟨⟨h1, h2⟩, h3⟩ := h
      refine lx_of (le_of (le_glob (i := i) (gl := gl) (F.glo h2) ?_ fun d hd => ?_) fun _ _ => rfl) (fun _ => rfl) rfl rfl
      · simpa [ndB] using h3
      · obtain ⟨v, u, g1, g2, g3⟩ := F.gls i x d h1 hd
        exact ⟨v, u, g1, g2, fun ρ n H => g3 lk.Z ρ n H⟩
    | _ => cases h
  | .bin o w a b, Γ, X, lk, e, F, h => by
    cases e with
    | BinOp x op y p =>
      have h : (decide (op = opOf o) && chkE a Γ x && chkE b Γ y) = true := h
      simp only [Bool.and_eq_true, decide_eq_true_eq] at h
      obtain ⟨⟨rfl, h2⟩, h3⟩ := h
      exact lx_of (le_of (le_bin o w (chkE_ok a F h2).le (chkE_ok b F h3).le) fun _ _ => rfl) (fun _ => rfl) rfl rfl
    | _ => cases h
  | .neg a, Γ, X, lk, e, F, h => by
    cases e with
    | UnaryOp op x p => cases op with
      | USub => exact lx_of (le_of (le_neg (chkE_ok a F h).le) fun _ _ => rfl) (fun _ => rfl) rfl rfl
      | _ => cases h
    | _ => cases h
  | .cmp o a b, Γ, X, lk, e, F, h => by
    cases e with
    | Compare x ops ys p => match ops, ys, h with
      | [op], [y], h =>
        have h : (decide (op = cmOf o) && !behindInMarks (cmOf o) y && chkE a Γ x && chkE b Γ y) = true := h
        simp only [Bool.and_eq_true, decide_eq_true_eq, Bool.not_eq_true'] at h
        obtain ⟨⟨⟨rfl, h2⟩, h3⟩, h4⟩ := h
        have ia := (chkE_ok a F h3).le
        have ib := (chkE_ok b F h4).le
        exact ⟨le_of (le_cmp F.un o h2 ia ib) fun _ _ => rfl, fun _ => lt_cmp F.un o h2 ia ib, (fun z => by cases z), fun _ _ _ _ _ _ z => by cases z⟩
      | [], _, h => cases h
      | [_], [], h => cases h
      | [_], _ :: _ :: _, h => cases h
      | _ :: _ :: _, _, h => cases h
    | _ => cases h
  | .chain o o' a b c, Γ, X, lk, e, F, h => by
    cases e with
    | Compare x ops ys p => match ops, ys, h with
      | [op, op'], [y, z], h =>
        have h : (decide (op = cmOf o) && decide (op' = cmOf o') && !lastMarks [cmOf o, cmOf o'] [y, z] && chkE a Γ x && chkE b Γ y && chkE c Γ z) = true := h
        simp only [Bool.and_eq_true, decide_eq_true_eq, Bool.not_eq_true'] at h
        obtain ⟨⟨⟨⟨⟨rfl, rfl⟩, h2⟩, h3⟩, h4⟩, h5⟩ := h
        have ia := (chkE_ok a F h3).le
        have ib := (chkE_ok b F h4).le
        have ic := (chkE_ok c F h5).le
        exact ⟨le_of (le_chain F.un o o' h2 ia ib ic) fun _ _ => rfl, fun _ => lt_chain F.un o o' h2 ia ib ic, (fun z => by cases z), fun _ _ _ _ _ _ z => by cases z⟩
      | [], _, h => cases h
      | [_], [], h => cases h
      | [_], [_], h => cases h
      | [_], _ :: _ :: _, h => cases h
      | [_, _], [], h => cases h
      | [_, _], [_], h => cases h
      | [_, _], _ :: _ :: _ :: _, h => cases h
      | _ :: _ :: _ :: _, _, h => cases h
    | _ => cases h
  | .and_ a b, Γ, X, lk, e, F, h => by
    cases e with
    | BoolOp op ys p => cases op with
      | And => match ys, h with
        | [x, y], h =>
          have h : (notIf x && notIf y && chkE a Γ x && chkE b Γ y) = true := h
          simp only [Bool.and_eq_true] at h
          obtain ⟨⟨⟨h1, h2⟩, h3⟩, h4⟩ := h
          have ia := chkE_ok a F h3
          have ib := chkE_ok b F h4
          have w : LW X lk (.BoolOp .And [x, y] p) (andE (EV cl gl m a) (EV cl gl m b)) := lw_and (ia.lt h1) (pw_and1 (ib.lt h2))
          exact ⟨le_of (le_and ia.le (pe_one ib.le)) fun _ _ => rfl, fun _ => w.pt, fun _ => w, fun _ _ _ _ _ _ z => by cases z⟩
        | x :: y :: z :: r, h =>
          have h : (notIf x && chkE a Γ x && chkE b Γ (.BoolOp .And (y :: z :: r) p)) = true := h
          simp only [Bool.and_eq_true] at h
          obtain ⟨⟨h1, h3⟩, h4⟩ := h
          have ia := chkE_ok a F h3
          have ib := chkE_ok b F h4
          have w : LW X lk (.BoolOp .And (x :: y :: z :: r) p) (andE (EV cl gl m a) (EV cl gl m b)) := lw_and (ia.lt h1) (ib.lw rfl)
          exact ⟨le_of (le_and ia.le ib.le) fun _ _ => rfl, fun _ => w.pt, fun _ => w, fun _ _ _ _ _ _ z => by cases z⟩
        | [], h => cases h
        | [_], h => cases h
      | _ => cases h
    | _ => cases h
  | .or_ a b, Γ, X, lk, e, F, h => by
    cases e with
    | BoolOp op ys p => cases op with
      | Or => match ys, h with
        | [x, y], h =>
          have h : (notIf x && notIf y && chkE a Γ x && chkE b Γ y) = true := h
          simp only [Bool.and_eq_true] at h
          obtain ⟨⟨⟨h1, h2⟩, h3⟩, h4⟩ := h
          have ia := chkE_ok a F h3
          have ib := chkE_ok b F h4
          have w : LW X lk (.BoolOp .Or [x, y] p) (orE (EV cl gl m a) (EV cl gl m b)) := lw_or (ia.lt h1) (pw_or1 (ib.lt h2))
          exact ⟨le_of (le_or ia.le (pe_one ib.le)) fun _ _ => rfl, fun _ => w.pt, fun _ => w, fun _ _ _ _ _ _ z => by cases z⟩
        | x :: y :: z :: r, h =>
          have h : (notIf x && chkE a Γ x && chkE b Γ (.BoolOp .Or (y :: z :: r) p)) = true := h
          simp only [Bool.and_eq_true] at h
          obtain ⟨⟨h1, h3⟩, h4⟩ := h
          have ia := chkE_ok a F h3
          have ib := chkE_ok b F h4
          have w : LW X lk (.BoolOp .Or (x :: y :: z :: r) p) (orE (EV cl gl m a) (EV cl gl m b)) := lw_or (ia.lt h1) (ib.lw rfl)
          exact ⟨le_of (le_or ia.le ib.le) fun _ _ => rfl, fun _ => w.pt, fun _ => w, fun _ _ _ _ _ _ z => by cases z⟩
        | [], h => cases h
        | [_], h => cases h
      | _ => cases h
    | _ => cases h
  | .not_ a, Γ, X, lk, e, F, h => by
    cases e with
    | UnaryOp op x p => cases op with
      | Not =>
        have h : (notIf x && chkE a Γ x) = true := h
        simp only [Bool.and_eq_true] at h
        have ia := chkE_ok a F h.2
        exact ⟨le_of (le_not ia.le) fun _ _ => rfl, fun _ => lt_not (ia.lt h.1), (fun z => by cases z), fun _ _ _ _ _ _ z => by cases z⟩
      | _ => cases h
    | _ => cases h
  | .ite t a b, Γ, X, lk, e, F, h => by
    cases e with
    | IfExp c x y p =>
      have h : (notIf c && chkE t Γ c && chkE a Γ x && chkE b Γ y) = true := h
      simp only [Bool.and_eq_true] at h
      obtain ⟨⟨⟨h1, h2⟩, h3⟩, h4⟩ := h
      exact ⟨le_of (le_ite ((chkE_ok t F h2).lt h1) (chkE_ok a F h3).le (chkE_ok b F h4).le) fun _ _ => rfl, (fun z => by cases z), (fun z => by cases z), fun _ _ _ _ _ _ z => by cases z⟩
    | _ => cases h
  | .tup l, Γ, X, lk, e, F, h => by
    cases e with
    | Tuple es k p =>
      have h : (chkA l Γ es && decide (es.length ≤ 1000)) = true := h
      simp only [Bool.and_eq_true, decide_eq_true_eq] at h
      refine lx_of (le_of (le_tup (chkA_ok l F h.1) (fun s G ds G' q => ?_) fun s G v G' q => ?_) fun _ _ => rfl) (fun _ => rfl) rfl rfl
      · obtain ⟨ds', e, hl⟩ := args_len h.1 q
        cases e
        omega
      · obtain ⟨ds', e, hl⟩ := args_len h.1 q
        exact ⟨ds', e⟩
    | _ => cases h
  | .lst w l, Γ, X, lk, e, F, h => by
    cases e with
    | List es p =>
      have h : (chkA l Γ es && decide (es.length ≤ 1000)) = true := h
      simp only [Bool.and_eq_true, decide_eq_true_eq] at h
      refine lx_of (le_of (le_lst w (chkA_ok l F h.1) (fun s G ds G' q => ?_)) fun _ _ => rfl) (fun _ => rfl) rfl rfl
      obtain ⟨ds', e, hl⟩ := args_len h.1 q
      cases e
      omega
    | _ => cases h
  | .ix a i, Γ, X, lk, e, F, h => by
    cases e with
    | Subscript x y p =>
      have h : (plainIxB y && chkE a Γ x && chkE i Γ y) = true := h
      simp only [Bool.and_eq_true] at h
      obtain ⟨⟨h1, h2⟩, h3⟩ := h
      exact lx_of (le_of (le_ix (by have := F.un; omega) (plainIx_of h1) (chkE_ok a F h2).le (chkE_ok i F h3).le) fun _ _ => rfl) (fun _ => rfl) rfl rfl
    | _ => cases h
  | .sl w a lo hi, Γ, X, lk, e, F, h => by
    cases e with
    | Subscript x y p => cases y with
      | Slice l u st p2 => cases st with
        | none =>
          have h : (chkE a Γ x && optB (chkE lo Γ) (absL lo) l && optB (chkE hi Γ) (absL hi) u) = true := h
          simp only [Bool.and_eq_true] at h
          obtain ⟨⟨h1, h2⟩, h3⟩ := h
          have pl : PoL X lk l (EV cl gl m lo) := by
            cases l with
            | none => exact po_none' h2
            | some l => exact .inr ⟨l, rfl, (chkE_ok lo F h2).le⟩
          have ph : PoL X lk u (EV cl gl m hi) := by
            cases u with
            | none => exact po_none' h3
            | some l => exact .inr ⟨l, rfl, (chkE_ok hi F h3).le⟩
          exact lx_of (le_of (le_sl w (chkE_ok a F h1).le pl ph) fun _ _ => rfl) (fun _ => rfl) rfl rfl
        | some _ => cases h
      | _ => cases h
    | _ => cases h
  | .rev w a, Γ, X, lk, e, F, h => by
    unfold chkE at h
    split at h
    · rename_i x n k1 p4 p3 p2 p
      simp only [Bool.and_eq_true, decide_eq_true_eq] at h
      obtain ⟨rfl, h⟩ := h
      exact lx_of (le_of (le_rev w (chkE_ok a F h).le) fun _ _ => rfl) (fun _ => rfl) rfl rfl
    · rename_i n q1 n2 q2 x q3 q4
      simp only [Bool.and_eq_true, decide_eq_true_eq] at h
      obtain ⟨⟨⟨⟨⟨rfl, h2⟩, rfl⟩, h4⟩, h5⟩, h6⟩ := h
      obtain ⟨g1, g2⟩ := F.blt h2
      obtain ⟨g3, g4⟩ := F.blt h4
      exact lx_of (le_of (le_lrev w F.calm g1 g2 g3 g4 (chkE_ok a F h6).le (star_of h5)) fun _ _ => rfl) (fun _ => rfl) rfl rfl
    · cases h
  | .call f l, Γ, X, lk, e, F, h => by
    cases e with
    | Call g es kws p => cases g with
      | Name x p2 => cases kws with
        | nil =>
          have h : (decide (Γ.fnm[f]? = some (some x)) && glB Γ.sc x && ndB x && chkA l Γ es) = true := h
          simp only [Bool.and_eq_true, decide_eq_true_eq] at h
          obtain ⟨⟨⟨h1, h2⟩, h3⟩, h4⟩ := h
          obtain ⟨fa, fd, ps, k, T, hr, hm, hk, hb⟩ := F.fns f x h1
          have h3 : (x == ("__debug__" : Str)) = false := by simpa [ndB] using h3
          have st := chkA_star h4
          cases es with
          | nil =>
            cases l with
            | nil => exact lx_of (le_of (le_call0 (m := m) T (hr.mono (Nat.le_succ _)) (F.glo h2) hm hk hb h3) fun _ _ => rfl) (fun _ => rfl) rfl rfl
            | cons _ _ => cases h4
          | cons y es =>
            simp only [List.all_cons, Bool.and_eq_true] at st
            exact lx_of (le_of (le_call (m := m) T (hr.mono (Nat.le_succ _)) (F.glo h2) hm hk hb (chkA_ok l F h4) h3 (star_of st.1) (nostar_any st.2)) fun _ _ => rfl) (fun _ => rfl) rfl rfl
        | cons _ _ => cases h
      | _ => cases h
    | _ => cases h
  | .bi b w l, Γ, X, lk, e, F, h => by
    cases e with
    | Call g es kws p => cases g with
      | Name x p2 => cases kws with
        | nil => cases es with
          | nil => cases h
          | cons y es =>
            have h : (decide (x = Str.ofString (biName b)) && bltB Γ x && chkA l Γ (y :: es)) = true := h
            simp only [Bool.and_eq_true, decide_eq_true_eq] at h
            obtain ⟨⟨rfl, h2⟩, h3⟩ := h
            obtain ⟨g1, g2⟩ := F.blt h2
            have st := chkA_star h3
            simp only [List.all_cons, Bool.and_eq_true] at st
            exact lx_of (le_of (le_bi b w F.calm F.gd F.un g1 g2 (chkA_ok l F h3) (star_of st.1) (nostar_any st.2)) fun _ _ => rfl) (fun _ => rfl) rfl rfl
        | cons _ _ => cases es <;> cases h
      | _ => cases h
    | _ => cases h
  | .mt b w o l, Γ, X, lk, e, F, h => by
    cases e with
    | Call g es kws p => cases g with
      | Attribute x nm ap => cases kws with
        | nil =>
          have h : (decide (nm = Str.ofString (mtN b)) && baseB x && (ap.endLine == p.line) && chkE o Γ x && chkA l Γ es && decide (es.length < 20) && mtB b es) = true := h
          simp only [Bool.and_eq_true, decide_eq_true_eq] at h
          obtain ⟨⟨⟨⟨⟨⟨rfl, h2⟩, h3⟩, h4⟩, h5⟩, h6⟩, h7⟩ := h
          have st := chkA_star h5
          cases es with
          | nil =>
            cases l with
            | nil => exact lx_of (le_of (le_m0 (m := m) b w (of_decide_eq_true h7) (chkE_ok o F h4).le (base_of h2) h3) fun _ _ => rfl) (fun _ => rfl) rfl rfl
            | cons _ _ => cases h5
          | cons y es =>
            simp only [List.all_cons, Bool.and_eq_true] at st
            exact lx_of (le_of (le_m1 (m := m) (by have := F.un; omega) b w (of_decide_eq_true h7) (chkE_ok o F h4).le (chkA_ok l F h5) (base_of h2) h3 (star_of st.1) (nostar_any st.2) (by have := h6; simp at this; omega)) fun _ _ => rfl) (fun _ => rfl) rfl rfl
        | cons _ _ => cases h
      | _ => cases h
    | _ => cases h
  | .isi ts a, Γ, X, lk, e, F, h => by
    cases e with
    | Call g es kws p => cases g with
      | Name n p2 => match es, kws, h with
        | [x, .Name y p3], [], h =>
          have h : (decide (n = "isinstance") && bltB Γ n && noStar x && chkE a Γ x && chkTys Γ ts [.Name y p3]) = true := h
          simp only [Bool.and_eq_true, decide_eq_true_eq] at h
          obtain ⟨⟨⟨⟨rfl, h2⟩, h3⟩, h4⟩, h5⟩ := h
          obtain ⟨g1, g2⟩ := F.blt h2
          match ts, h5 with
          | [t], h5 =>
            have h5 : (!tyOwn t && decide (y = Str.ofString (tyS t)) && bltB Γ y && true) = true := h5
            simp only [Bool.and_eq_true, Bool.not_eq_true', decide_eq_true_eq, and_true] at h5
            obtain ⟨⟨h6, rfl⟩, h7⟩ := h5
            obtain ⟨g3, g4⟩ := F.blt h7
            exact lx_of (le_of (le_isi1 t h6 g1 g2 g3 g4 (chkE_ok a F h4).le (star_of h3)) fun _ _ => rfl) (fun _ => rfl) rfl rfl
          | [], h5 => cases h5
          | _ :: _ :: _, h5 => simp [chkTys] at h5
        | [x, .Tuple ys k p3], [], h =>
          have h : (decide (n = "isinstance") && bltB Γ n && noStar x && chkE a Γ x && chkTys Γ ts ys && decide (ts.length ≤ 1000)) = true := h
          simp only [Bool.and_eq_true, decide_eq_true_eq] at h
          obtain ⟨⟨⟨⟨⟨rfl, h2⟩, h3⟩, h4⟩, h5⟩, h6⟩ := h
          obtain ⟨g1, g2⟩ := F.blt h2
          exact lx_of (le_of (le_isiT (tys_of F h5) h6 g1 g2 (chkE_ok a F h4).le (star_of h3)) fun _ _ => rfl) (fun _ => rfl) rfl rfl
      | _ => cases h
    | _ => cases h
  | .comp w k own pt one it cond elt, Γ, X, lk, e, F, h => by
    cases e with
    | ListComp y gs scope p => match gs, h with
      | [⟨tg, iter, ifs, asy⟩], h =>
        have h : (decide (asy = 0) && !isSet iter && (match iterEs k Γ tg iter with | some es => chkA it Γ es | none => false) && blkC Γ.N Γ.sc scope (ownP Γ own) && pt.all (fun i => decide (i ∈ own)) && chkP (inBlk Γ scope) tg pt one &&
          ifsB (chkE cond (inBlk Γ scope)) (yesL cond) ifs && chkE elt (inBlk Γ scope) y) = true := h
        simp only [Bool.and_eq_true, decide_eq_true_eq, Bool.not_eq_true', List.all_eq_true] at h
        obtain ⟨⟨⟨⟨⟨⟨⟨rfl, hset⟩, h3⟩, h4⟩, h5⟩, h6⟩, h7⟩, h8⟩ := h
        have C : CompOk X lk tg iter y ifs scope (ownP Γ own) k pt one (EVs cl gl m it) (EV cl gl m cond) (EV cl gl m elt) := by
          refine ⟨?_, ?_, ?_, fun s H C cls fp => F.blk (A := 0).pat h6, fun A s H C cls fp => ?_, fun A s H C cls fp => (chkE_ok elt (F.blk (A := A)) h8).le, set_of hset⟩
          · cases q : iterEs k Γ tg iter with
            | none => rw [q] at h3; cases h3
            | some es =>
              rw [q] at h3
              refine iter_of F q h3 (chkA_ok it F h3) fun a ea e ee => ?_
              subst ea
              subst ee
              have h3 : (noStar e && chkE a Γ e && true) = true := h3
              simp only [Bool.and_eq_true, and_true] at h3
              exact (chkE_ok a F h3.2).le
          · rw [F.hN, F.sc]; exact blkOk_by h4
          · rw [own_back]; exact h5
          · match ifs, h7 with
            | [], h7 =>
              cases cond with
              | c d => cases d with
                | bl b => cases b with
                  | true => exact ⟨fun pins s' σ H' Q I ⟨ρ, G, s, r, en, hq⟩ => pts_nil.run pins s' σ H' Q I (OutT.here hq r)⟩
                  | false => cases h7
                | _ => cases h7
              | _ => cases h7
            | [c], h7 =>
              obtain ⟨c1, c2⟩ := Bool.and_eq_true_iff.mp h7
              exact pts_one (pt_imp ((chkE_ok cond (F.blk (A := A)) c2).lt c1) fun σ H Q h => liftT_w0 h)
            | _ :: _ :: _, h7 => cases h7
        have L := le_comp (w := w) (pos := p) F.calm F.nd' C
        rw [own_back] at L
        refine ⟨le_of L fun _ _ => rfl, fun _ => lt_val (le_of L fun _ _ => rfl) fun _ => rfl, (fun z => by cases z), fun _ _ _ _ _ _ z => ?_⟩
        cases z
        exact ⟨w, ownP Γ own, k, pt, one, _, _, _, C, fun s G => by rw [own_back]; rfl⟩
      | [], h => cases h
      | ⟨_, _, _, _⟩ :: ⟨_, _, _, _⟩ :: _, h => cases h
    | _ => cases h
  | .meth f c o l, Γ, X, lk, e, F, h => by
    cases e with
    | Call g es kws p => cases g with
      | Attribute x nm ap => cases kws with
        | nil =>
          have h : (decide (Γ.mth[f]? = some (some (c, nm))) && !(nm == initN) && decide (c < Γ.fld.length) && !((Γ.fld.getD c []).contains nm) && baseB x && (ap.endLine == p.line) && chkE o Γ x && chkA l Γ es && decide (es.length < 20)) = true := h
          simp only [Bool.and_eq_true, decide_eq_true_eq, Bool.not_eq_true'] at h
          obtain ⟨⟨⟨⟨⟨⟨⟨⟨h1, h2⟩, h3⟩, h4⟩, h5⟩, h6⟩, h7⟩, h8⟩, h9⟩ := h
          have st := chkA_star h8
          obtain ⟨fa, fd, ps, k, T, hr, hm, hb⟩ := F.mts f c nm h1 (by simpa using h2)
          have hfl : Γ.fld[c]? = some (Γ.fld.getD c []) := by rw [List.getD_eq_getElem?_getD, List.getElem?_eq_getElem h3]; rfl
          obtain ⟨c1, c2⟩ := F.cls c _ hfl
          have hn : nm ∉ lk.FN c := by rw [c1]; intro z; rw [List.contains_iff_mem.mpr z] at h4; cases h4
          rw [← c1] at c2
          cases es with
          | nil =>
            cases l with
            | nil => exact lx_of (le_of (le_meth0 (mk := m) c2 hm hn T (hr.mono (Nat.le_succ _)) hb (chkE_ok o F h7).le (mt_eval (base_of h5) rfl h6)) fun _ _ => rfl) (fun _ => rfl) rfl rfl
            | cons _ _ => cases h8
          | cons y es =>
            simp only [List.all_cons, Bool.and_eq_true] at st
            have few := few_of (star_of (env := X.env) (es := es) st.1) (nostar_any (pos := p) (env := X.env) st.2) (by simp at h9; omega)
            exact lx_of (le_of (le_meth (mk := m) c2 hm hn T (hr.mono (Nat.le_succ _)) hb (chkE_ok o F h7).le (chkA_ok l F h8) (star_of st.1) (nostar_any st.2) (mt_eval (base_of h5) few h6)) fun _ _ => rfl) (fun _ => rfl) rfl rfl
        | cons _ _ => cases h
      | _ => cases h
    | _ => cases h
  | .new w c f l, Γ, X, lk, e, F, h => by
    cases e with
    | Call g es kws p => cases g with
      | Name x p2 => cases kws with
        | nil =>
          have h : (decide (Γ.cnm[c]? = some x) && decide (Γ.mth[f]? = some (some (c, initN))) && glB Γ.sc x && ndB x && chkA l Γ es) = true := h
          simp only [Bool.and_eq_true, decide_eq_true_eq] at h
          obtain ⟨⟨⟨⟨h1, h2⟩, h3⟩, h4⟩, h5⟩ := h
          have h4 : (x == ("__debug__" : Str)) = false := by simpa [ndB] using h4
          have st := chkA_star h5
          obtain ⟨fa, fd, ps, k, T, hr, hM, hb⟩ := F.mks f c h2
          cases es with
          | nil =>
            cases l with
            | nil => exact lx_of (le_of (le_new0 (mk := m) w (F.kr f) hM T hr (F.glo h3) (F.clsOf c x h1) hb h4) fun _ _ => rfl) (fun _ => rfl) rfl rfl
            | cons _ _ => cases h5
          | cons y es =>
            simp only [List.all_cons, Bool.and_eq_true] at st
            exact lx_of (le_of (le_new (mk := m) w (F.kr f) hM T hr (F.glo h3) (F.clsOf c x h1) hb (chkA_ok l F h5) h4 (star_of st.1) (nostar_any st.2)) fun _ _ => rfl) (fun _ => rfl) rfl rfl
        | cons _ _ => cases h
      | _ => cases h
    | _ => cases h
  | .fld c j a, Γ, X, lk, e, F, h => by
    cases e with
    | Attribute x f p =>
      have h : (decide ((Γ.fld[c]?).bind (·[j]?) = some f) && baseB x && chkE a Γ x) = true := h
      simp only [Bool.and_eq_true, decide_eq_true_eq] at h
      obtain ⟨⟨h1, h2⟩, h3⟩ := h
      cases q : Γ.fld[c]? with
      | none => rw [q] at h1; cases h1
      | some fs =>
        rw [q] at h1
        have h1 : fs[j]? = some f := h1
        obtain ⟨c1, c2⟩ := F.cls c _ q
        rw [← c1] at c2 h1
        exact lx_of (le_of (le_fld c2 h1 (chkE_ok a F h3).le (base_of h2)) fun _ _ => rfl) (fun _ => rfl) rfl rfl
    | _ => cases h
  | .key2 mx f a b, Γ, X, lk, e, F, h => by
    cases e with
    | Call g es kws p => cases g with
      | Name x p2 => match es, h with
        | [], h => cases h
        | [_], h => cases h
        | _ :: _ :: _ :: _, h => cases h
        | [y, z], h => match kws, h with
          | [], h => cases h
          | ⟨ka, kv, _⟩ :: _ :: _, h => cases ka with
            | none => cases h
            | some _ => cases kv <;> cases h
          | [⟨none, _, _⟩], h => cases h
          | [⟨some kk, kv, kp⟩], h => cases kv with
            | Name fn p3 =>
              have h : (decide (x = Str.ofString (keyN mx)) && bltB Γ x && decide (kk = Str.ofString "key") && decide (Γ.fnm[f]? = some (some fn)) && glB Γ.sc fn && ndB fn && noStar y && noStar z && chkE a Γ y && chkE b Γ z) = true := h
              simp only [Bool.and_eq_true, decide_eq_true_eq] at h
              obtain ⟨⟨⟨⟨⟨⟨⟨⟨⟨rfl, h2⟩, rfl⟩, h4⟩, h5⟩, h6⟩, h7⟩, h8⟩, h9⟩, h10⟩ := h
              obtain ⟨fa, fd, ps, k, T, hr, hm, hk, hb⟩ := F.fns f fn h4
              obtain ⟨g1, g2⟩ := F.blt h2
              have h6 : (fn == ("__debug__" : Str)) = false := by simpa [ndB] using h6
              have ha : LA X lk [y, z] (EVs cl gl m (.cons a (.cons b .nil))) := la_cons (chkE_ok a F h9).le (la_cons (chkE_ok b F h10).le la_nil (star_of h8)) (star_of h7)
              refine lx_of (le_of (le_key2 (m := m) mx T hr hb g1 g2 ha (F.glo h5) hm h6 (fun _ _ => star_of h7) (fun _ _ => star_of h8)) fun s G => ?_) (fun _ => rfl) rfl rfl
              show ((PK.eval cl gl m a s G).bind fun x G1 => (PK.eval cl gl m b s G1).bind fun y G2 => _) = PK.R.bind ((PK.eval cl gl m a s G).bind fun x G1 => ((PK.eval cl gl m b s G1).bind fun y G2 => _).bind _) _
              cases PK.eval cl gl m a s G with
              | ok v G1 =>
                show ((PK.eval cl gl m b s G1).bind fun y G2 => _) = PK.R.bind (((PK.eval cl gl m b s G1).bind fun y G2 => _).bind _) _
                cases PK.eval cl gl m b s G1 <;> rfl
              | exc _ _ => rfl
              | bad => rfl
            | _ => cases h
      | _ => cases h
    | _ => cases h
  | .dnew t, Γ, X, lk, e, F, h => by
    cases e with
    | Dict ks vs p => cases ks with
      | nil => cases vs with
        | nil => exact lx_of (le_dnew t) (fun _ => rfl) rfl rfl
        | cons _ _ => cases h
      | cons k ks => cases k <;> cases h
    | _ => cases h
  | .dlit l, Γ, X, lk, e, F, h => by
    unfold chkE at h
    split at h
    · rename_i ks vs p
      simp only [Bool.and_eq_true, decide_eq_true_eq, Bool.not_eq_true'] at h
      obtain ⟨⟨h1, h2⟩, h3⟩ := h
      exact lx_of (le_of (le_dlit (atBs_ok F h1) (by intro z; rw [z] at h2; cases h2) h3) fun _ _ => rfl) (fun _ => rfl) rfl rfl
    · cases h
  | .skey w f a, Γ, X, lk, e, F, h => by
    cases e with
    | Call g es kws p => cases g with
      | Name x p2 => match es, h with
        | [], h => cases h
        | _ :: _ :: _, h => cases h
        | [y], h => match kws, h with
          | [], h => cases h
          | ⟨ka, kv, _⟩ :: _ :: _, h => cases ka with
            | none => cases h
            | some _ => cases kv <;> cases h
          | [⟨none, _, _⟩], h => cases h
          | [⟨some kk, kv, kp⟩], h => cases kv with
            | Name fn p3 =>
              have h : (decide (x = Str.ofString "sorted") && bltB Γ x && decide (kk = Str.ofString "key") && decide (Γ.fnm[f]? = some (some fn)) && glB Γ.sc fn && ndB fn && noStar y && chkE a Γ y) = true := h
              simp only [Bool.and_eq_true, decide_eq_true_eq] at h
              obtain ⟨⟨⟨⟨⟨⟨⟨rfl, h2⟩, rfl⟩, h4⟩, h5⟩, h6⟩, h7⟩, h9⟩ := h
              obtain ⟨fa, fd, ps, k, T, hr, hm, hk, hb⟩ := F.fns f fn h4
              obtain ⟨g1, g2⟩ := F.blt h2
              have h6 : (fn == ("__debug__" : Str)) = false := by simpa [ndB] using h6
              have ha : LA X lk [y] (EVs cl gl m (.cons a .nil)) := la_cons (chkE_ok a F h9).le la_nil (star_of h7)
              refine lx_of (le_of (le_skey (m := m) w T hr hb g1 g2 ha (F.glo h5) hm h6 (fun _ _ => star_of h7)) fun s G => ?_) (fun _ => rfl) rfl rfl
              show ((PK.eval cl gl m a s G).bind fun x G1 => _) = PK.R.bind ((PK.eval cl gl m a s G).bind fun x G1 => _) _
              cases PK.eval cl gl m a s G <;> rfl
            | _ => cases h
      | _ => cases h
    | _ => cases h
theorem chkA_ok : ∀ (l : PK.Ls) {Γ : Sig} {X : Cx} {lk : Lk} {es : List Expr}, Fits Γ X lk cl gl → chkA l Γ es = true → LA X lk es (EVs cl gl m l)
  | .nil, Γ, X, lk, es, F, h => by
    cases es with
    | nil => exact la_nil
    | cons _ _ => cases h
  | .cons a l, Γ, X, lk, es, F, h => by
    cases es with
    | nil => cases h
    | cons e es =>
      have h : (noStar e && chkE a Γ e && chkA l Γ es) = true := h
      simp only [Bool.and_eq_true] at h
      exact la_cons (chkE_ok a F h.1.2).le (chkA_ok l F h.2) (star_of h.1.1)
end
end
end PKS
namespace PKS
open PySem PySem.Spec PyProof.Rows L2
theorem sw_not {e : Expr} {t : Option Expr} {l : Nat} {env : Env} (h : isComp e = false) : swapsWith e t l env = pure false := by
  cases e <;> first | rfl | cases h
theorem sw_attr {e o : Expr} {f : Str} {p : Pos} {l : Nat} {env : Env} : swapsWith e (some (.Attribute o f p)) l env = pure false := by
  cases e <;> rfl
theorem sw_cell {elt : Expr} {gs : List Comprehension} {scope : Scope} {pc px : Pos} {x : Str} {l : Nat} {env : Env} (h : env.scope.names.lookup x = some .cell) : swapsWith (.ListComp elt gs scope pc) (some (.Name x px)) l env = pure false := by
  have k : (env.kindOf x == some NameKind.local) = false := by show (env.scope.names.lookup x == some NameKind.local) = false; rw [h]; rfl
  show (pure (env.blockKind == .function && env.kindOf x == some .local && px.line == pc.line && !(scope.names.any fun (n, k) => n == x && (k == .local || k == .cell))) : Sem Bool) = pure false
  rw [k, Bool.and_false]; rfl
theorem sole_tup {e : Expr} {es : List Expr} {k l : Nat} {p : Pos} {env : Env} : swapsWithSole [.Tuple es k p] e l env = pure false := by
  cases e <;> rfl
theorem sole_sub {e a b : Expr} {l : Nat} {p : Pos} {env : Env} : swapsWithSole [.Subscript a b p] e l env = pure false := by
  cases e <;> rfl
theorem stores_not {e : Expr} {tg : Expr} {env : Env} (h : isTup e = false) : swappedStores [tg] e env = pure none := by
  cases e <;> first | (cases tg <;> rfl) | cases h
theorem stores_sub {e a b : Expr} {p : Pos} {env : Env} : swappedStores [.Subscript a b p] e env = pure none := by
  cases e <;> rfl
theorem stores_fold {ts vs : List Expr} {k k2 : Nat} {p p2 : Pos} {env : Env} (h : vs.all (foldedForSure 8) = true) : swappedStores [.Tuple ts k p] (.Tuple vs k2 p2) env = pure none := by
  unfold swappedStores
  dsimp only
  split
  · rfl
  · split
    · rfl
    · split
      · rfl
      · first | rfl | (rw [if_pos h] <;> rfl)
def names2 (line : Nat) (sc : Scope) (x y : Str) (px py : Pos) (vs : List Expr) : Bool :=
  isK sc x .local && isK sc y .local && (px.line == line) && (py.line == line) && !(x == y) && vs.all noStar && !vs.all (foldedForSure 8) && !vs.all (constantsAlone 8)
theorem stores_two {x y : Str} {px py pt pt2 : Pos} {a b : Expr} {k k2 : Nat} {env : Env} (hk : env.scope.kind = .function) (h : names2 px.line env.scope x y px py [a, b] = true) :
    swappedStores [.Tuple [.Name x px, .Name y py] k pt] (.Tuple [a, b] k2 pt2) env = pure (some [x, y]) := by
  unfold names2 isK at h
  simp only [Bool.and_eq_true, Bool.not_eq_true', decide_eq_true_eq] at h
  obtain ⟨⟨⟨⟨⟨⟨⟨h1, h2⟩, h3⟩, h4⟩, h5⟩, h6⟩, h7⟩, h8⟩ := h
  have hb : env.blockKind = .function := by unfold Env.blockKind; rw [hk]; rfl
  have s1 : noStar a = true := by simp at h6; exact h6.1
  have s2 : noStar b = true := by simp at h6; exact h6.2
  have k1 : (env.kindOf x == some NameKind.local) = true := by show (env.scope.names.lookup x == some NameKind.local) = true; rw [h1]; rfl
  have k2 : (env.kindOf y == some NameKind.local) = true := by show (env.scope.names.lookup y == some NameKind.local) = true; rw [h2]; rfl
  have hne : x ≠ y := by intro z; rw [z] at h5; simp at h5
  have hd : ([x, y] : List Str).eraseDups = [x, y] := by
    rw [List.eraseDups_cons]
    have : List.filter (fun b => !b == x) [y] = [y] := by
      rw [List.filter_cons_of_pos (by simp; exact fun z => hne z.symm)]; rfl
    rw [this, List.eraseDups_cons]; rfl
  have h4' : (py.line == px.line) = true := h4
  unfold swappedStores
  dsimp only
  have e1 : (!([Expr.Name x px, Expr.Name y py].length == 2 || [Expr.Name x px, Expr.Name y py].length == 3) || [a, b].length != [Expr.Name x px, Expr.Name y py].length || env.blockKind != .function) = false := by rw [hb]; rfl
  rw [if_neg (by rw [e1]; exact Bool.false_ne_true), if_neg (by cases a <;> first | (cases b <;> first | exact Bool.false_ne_true | (cases s2; done)) | (cases s1; done))]
  simp only [List.filterMap_cons, List.filterMap_nil, List.head?_cons, Option.map_some, Option.getD_some, Expr.pos, k1, k2, h4', beq_self_eq_true, Bool.and_self, if_true, hd, h7, h8]
  rfl
def names3 (line : Nat) (sc : Scope) (x y z : Str) (px py pz : Pos) (vs : List Expr) : Bool :=
  isK sc x .local && isK sc y .local && isK sc z .local && (px.line == line) && (py.line == line) && (pz.line == line) && !(x == y) && !(x == z) && !(y == z) && vs.all noStar && !vs.all (foldedForSure 8) && !vs.all (constantsAlone 8)
theorem stores_three {x y z : Str} {px py pz pt pt2 : Pos} {a b c : Expr} {k k2 : Nat} {env : Env} (hk : env.scope.kind = .function) (h : names3 px.line env.scope x y z px py pz [a, b, c] = true) :
    swappedStores [.Tuple [.Name x px, .Name y py, .Name z pz] k pt] (.Tuple [a, b, c] k2 pt2) env = pure (some [x, y, z]) := by
  unfold names3 isK at h
  simp only [Bool.and_eq_true, Bool.not_eq_true', decide_eq_true_eq] at h
  obtain ⟨⟨⟨⟨⟨⟨⟨⟨⟨⟨⟨h1, h2⟩, h2'⟩, h3⟩, h4⟩, h4z⟩, h5⟩, h5'⟩, h5z⟩, h6⟩, h7⟩, h8⟩ := h
  have hb : env.blockKind = .function := by unfold Env.blockKind; rw [hk]; rfl
  have s1 : noStar a = true := by simp at h6; exact h6.1
  have s2 : noStar b = true := by simp at h6; exact h6.2.1
  have s3 : noStar c = true := by simp at h6; exact h6.2.2
  have k1 : (env.kindOf x == some NameKind.local) = true := by show (env.scope.names.lookup x == some NameKind.local) = true; rw [h1]; rfl
  have k2 : (env.kindOf y == some NameKind.local) = true := by show (env.scope.names.lookup y == some NameKind.local) = true; rw [h2]; rfl
  have k3 : (env.kindOf z == some NameKind.local) = true := by show (env.scope.names.lookup z == some NameKind.local) = true; rw [h2']; rfl
  have hne : x ≠ y := by intro z; rw [z] at h5; simp at h5
  have hne2 : x ≠ z := by intro z; rw [z] at h5'; simp at h5'
  have hne3 : y ≠ z := by intro z; rw [z] at h5z; simp at h5z
  have hd : ([x, y, z] : List Str).eraseDups = [x, y, z] := by
    rw [List.eraseDups_cons]
    have : List.filter (fun b => !b == x) [y, z] = [y, z] := by
      rw [List.filter_cons_of_pos (by simp; exact fun z => hne z.symm), List.filter_cons_of_pos (by simp; exact fun z => hne2 z.symm)]; rfl
    rw [this, List.eraseDups_cons]
    have : List.filter (fun b => !b == y) [z] = [z] := by
      rw [List.filter_cons_of_pos (by simp; exact fun z => hne3 z.symm)]; rfl
    rw [this, List.eraseDups_cons]; rfl
  have h4' : (py.line == px.line) = true := h4
  have h4'' : (pz.line == px.line) = true := h4z
  unfold swappedStores
  dsimp only
  have e1 : (!([Expr.Name x px, Expr.Name y py, Expr.Name z pz].length == 2 || [Expr.Name x px, Expr.Name y py, Expr.Name z pz].length == 3) || [a, b, c].length != [Expr.Name x px, Expr.Name y py, Expr.Name z pz].length || env.blockKind != .function) = false := by rw [hb]; rfl
  rw [if_neg (by rw [e1]; exact Bool.false_ne_true), if_neg (by cases a <;> first | (cases b <;> first | (cases c <;> first | exact Bool.false_ne_true | (cases s3; done)) | (cases s2; done)) | (cases s1; done))]
  simp only [List.filterMap_cons, List.filterMap_nil, List.head?_cons, Option.map_some, Option.getD_some, Expr.pos, k1, k2, k3, h4', h4'', beq_self_eq_true, Bool.and_self, if_true, hd, h7, h8]
  rfl

def chkG (Γ : Sig) : List PK.P → List Expr → Bool
  | [], [] => true
  | .nm i :: ps, .Name x _ :: es => chkNm Γ i x && chkG Γ ps es
  | .sb o' i' :: ps, .Subscript o i _ :: es => plainIxB i && chkE o' Γ o && chkE i' Γ i && chkG Γ ps es
  | _, _ => false
def swB (Γ : Sig) (x : Str) (px pc : Pos) (scope : Scope) : Bool := isK Γ.sc x .local && (px.line == pc.line) && !(scope.names.any fun (n, k) => n == x && (k == .local || k == .cell))
def setB (Γ : Sig) (x : Str) (px : Pos) (e : Expr) : Bool := match e with
  | .ListComp _ [⟨_, _, _, 0⟩] scope pc => isK Γ.sc x .cell || swB Γ x px pc scope
  | e => !isComp e
def par2B (Γ : Sig) (i j : Nat) (x y : Str) (px py : Pos) (a b : Expr) : Bool := names2 px.line Γ.sc x y px py [a, b] && decide (i ≠ j) && decide (Γ.N[i]? = some x) && decide (Γ.N[j]? = some y)
def par3B (Γ : Sig) (i j l : Nat) (x y z : Str) (px py pz : Pos) (a b c : Expr) : Bool := names3 px.line Γ.sc x y z px py pz [a, b, c] && decide (i ≠ j) && decide (i ≠ l) && decide (j ≠ l) && decide (Γ.N[i]? = some x) && decide (Γ.N[j]? = some y) && decide (Γ.N[l]? = some z)
def parB (Γ : Sig) (is : List Nat) (es vs : List Expr) : Bool := match is, es, vs with
  | [i, j], [.Name x px, .Name y py], [a, b] => (vs.all (foldedForSure 8) && chkNms Γ is es && decide (vs.length ≤ 1000)) || par2B Γ i j x y px py a b
  | [i, j, l], [.Name x px, .Name y py, .Name z pz], [a, b, c] => (vs.all (foldedForSure 8) && chkNms Γ is es && decide (vs.length ≤ 1000)) || par3B Γ i j l x y z px py pz a b c
  | _, _, _ => vs.all (foldedForSure 8) && chkNms Γ is es && decide (vs.length ≤ 1000)

def excIx (Γ : Sig) (x : Str) : Option Nat := Γ.exn.findIdx? fun y => decide (y = x)
def clsB (Γ : Sig) (c : Nat) (z : Str) (b : Bool) : Bool := match excIx Γ z with
  | some j => glB Γ.sc z && ndB z && decide (subB Γ c j = b)
  | none => false
def clssB (Γ : Sig) (c : Nat) : List Expr → Bool → Bool
  | [], b => !b
  | .Name z _ :: es, b => (clsB Γ c z true && b && clssG Γ c es) || (clsB Γ c z false && clssB Γ c es b)
  | _, _ => false
where
  clssG (Γ : Sig) (c : Nat) : List Expr → Bool
    | [] => true
    | .Name z _ :: es => (clsB Γ c z true || clsB Γ c z false) && clssG Γ c es
    | _ => false
def heldB (Γ : Sig) (n : Option Nat) (y : Str) : Bool := match n with
  | some i => decide (Γ.N[i]? = some y) && visB Γ.sc y && ndB y && ncB y
  | none => false
def isxB (Γ : Sig) (c : Nat) (n : Option Nat) (b : Bool) : Expr → Bool
  | .Call (.Name f _) [.Name y _, .Name z _] [] _ => decide (f = "isinstance") && bltB Γ f && heldB Γ n y && clsB Γ c z b
  | .Call (.Name f _) [.Name y _, .Tuple es _ _] [] _ => decide (f = "isinstance") && bltB Γ f && heldB Γ n y && clssB Γ c es b && decide (es.length ≤ 1000)
  | _ => false
def conX (Γ : Sig) (c : Nat) (n : Option Nat) : PK.D → Expr → Bool
  | .bl b, .Constant (.bool b') _ _ => decide (b = b')
  | .int i, .Constant (.int i') _ _ => decide (i = i')
  | .str s, .Constant (.str s') _ _ => decide (s = s')
  | .non, .Constant .none _ _ => true
  | .bl b, e => isxB Γ c n b e
  | _, _ => false
def chkXE : PK.L → Sig → Nat → Option Nat → Expr → Bool
  | .c d, Γ, c, n, e => conX Γ c n d e
  | .and_ a b, Γ, c, n, e => match e with
    | .BoolOp .And [x, y] _ => chkXE a Γ c n x && chkXE b Γ c n y
    | _ => false
  | .or_ a b, Γ, c, n, e => match e with
    | .BoolOp .Or [x, y] _ => chkXE a Γ c n x && chkXE b Γ c n y
    | _ => false
  | .not_ a, Γ, c, n, e => match e with
    | .UnaryOp .Not x _ => chkXE a Γ c n x
    | _ => false
  | _, _, _, _, _ => false
def chkX1 (Γ : Sig) (c : Nat) (n : Option Nat) : PK.M → Stmt → Bool
  | .set j l, .Assign [.Name x _] e _ => chkNm Γ j x && !isComp e && decide (n ≠ some j) && chkXE l Γ c n e
  | _, _ => false
def chkX : PK.M → Sig → Nat → Option Nat → List Stmt → Bool
  | .seq a b, Γ, c, n, sts => match sts with
    | st :: st2 :: rest => chkX1 Γ c n a st && chkX b Γ c n (st2 :: rest)
    | _ => false
  | .set j l, Γ, c, n, sts => match sts with
    | [st] => chkX1 Γ c n (.set j l) st
    | _ => false
  | _, _, _, _, _ => false
def tryC (Γ : Sig) (x : Str) (ks os : List Nat) : Bool := match excIx Γ x with
  | some j => glB Γ.sc x && ndB x && ks.all (fun c => decide (c < Γ.exn.length) && subB Γ c j) && os.all (fun c => decide (c < Γ.exn.length) && !subB Γ c j)
  | none => false
def tryN (Γ : Sig) (n : Option Nat) (nm : Option Str) : Bool := match n, nm with
  | none, none => true
  | some i, some y => decide (Γ.N[i]? = some y) && isK Γ.sc y .local
  | _, _ => false
def chkB : PK.M → Sig → List Stmt → Bool
  | .pass, _, sts => match sts with
    | [] => true
    | [.Pass _] => true
    | _ => false
  | .seq a b, Γ, sts => match sts with
    | st :: st2 :: rest => chkB a Γ [st] && chkB b Γ (st2 :: rest)
    | _ => false
  | .ex l, Γ, sts => match sts with
    | [.Expr e _] => !isComp e && chkE l Γ e
    | _ => false
  | .set i l, Γ, sts => match sts with
    | [.Assign [.Name x px] e _] => chkNm Γ i x && setB Γ x px e && chkE l Γ e
    | _ => false
  | .asg ps l, Γ, sts => match sts with
    | [.Assign [.Tuple es _ _] e _] => !isTup e && chkG Γ ps es && chkE l Γ e
    | _ => false
  | .put p l, Γ, sts => match sts with
    | [.Assign [.Subscript o i _] e _] => (match p with | .sb o' i' => plainIxB i && chkE o' Γ o && chkE i' Γ i | _ => false) && chkE l Γ e
    | [.Assign [.Attribute o f _] e _] => (match p with | .fld c j o' => decide ((Γ.fld[c]?).bind (·[j]?) = some f) && chkE o' Γ o | _ => false) && chkE l Γ e
    | _ => false
  | .par is l, Γ, sts => match sts with
    | [.Assign [.Tuple es _ _] (.Tuple vs _ _) _] => parB Γ is es vs && chkA l Γ vs
    | _ => false
  | .ite t a b, Γ, sts => match sts with
    | [.If c sa sb _] => notIf c && chkE t Γ c && chkB a Γ sa && chkB b Γ sb
    | _ => false
  | .for k pt one it b, Γ, sts => match sts with
    | [.For tg iter body [] _] => !isSet iter && (match iterEs k Γ tg iter with | some es => chkA it Γ es | none => false) && chkP Γ tg pt one && chkB b Γ body
    | _ => false
  | .while _ t b, Γ, sts => match sts with
    | [.While c body [] _] => notIf c && chkE t Γ c && chkB b Γ body
    | _ => false
  | .ret l, Γ, sts => match sts with
    | [.Return (some e) _] => chkE l Γ e
    | _ => false
  | .retN, _, sts => match sts with
    | [.Return none _] => true
    | _ => false
  | .raise c, Γ, sts => match sts with
    | [.Raise (some (.Call (.Name x _) [.Constant (.str _) _ _] [] _)) none _] => decide (Γ.exn[c]? = some x) && glB Γ.sc x && ndB x
    | _ => false
  | .brk, _, sts => match sts with
    | [.Break _] => true
    | _ => false
  | .cnt, _, sts => match sts with
    | [.Continue _] => true
    | _ => false
  | .try_ b, Γ, sts => match sts with
    | [.Try body (_ :: _) [] [] _] => chkB b Γ body
    | _ => false
  | .tryc b ks os n h, Γ, sts => match sts with
    | [.Try body [.ExceptHandler (some (.Name x _)) nm (s0 :: suite) _] [] [] _] => tryC Γ x ks os && tryN Γ n nm && chkB b Γ body && ks.all (fun c => chkX (h c) Γ c n (s0 :: suite))
    | _ => false
section
variable {cl : List Nat → Nat → List PK.D → Cells → PK.R} {gl : Nat → Option PK.D} {m : List Nat} {Γ : Sig} {X : Cx} {lk : Lk}
abbrev XV (cl : List Nat → Nat → List PK.D → Cells → PK.R) (gl : Nat → Option PK.D) (m : List Nat) (a : PK.M) : Ex := fun s G => PK.exec cl gl m a s G
structure LB (X : Cx) (lk : Lk) (sts : List Stmt) (ex : Ex) : Prop where
  ss : LSs X lk sts ex
  s1 : ∀ st, sts = [st] → LS X lk st ex
theorem lb_one {st : Stmt} {ex : Ex} (h : LS X lk st ex) : LB X lk [st] ex := ⟨lss_one h, fun _ e => by cases e; exact h⟩
theorem ls_of {st : Stmt} {ex ex' : Ex} (h : LS X lk st ex) (hi : ∀ s G, ex' s G = ex s G) : LS X lk st ex' := by
  have : ex' = ex := funext fun s => funext fun G => hi s G
  rw [this]; exact h
end
end PKS
namespace PKS
open PySem PySem.Spec PyProof.Rows L2
section
variable {cl : List Nat → Nat → List PK.D → Cells → PK.R} {gl : Nat → Option PK.D} {m : List Nat} {Γ : Sig} {X : Cx} {lk : Lk}
theorem one_iter (F : Fits Γ X lk cl gl) {k : PK.Ik} {tg iter : Expr} {it : PK.Ls} (h : (match iterEs k Γ tg iter with | some es => chkA it Γ es | none => false) = true) : LI X lk tg iter k (EVs cl gl m it) := by
  cases q : iterEs k Γ tg iter with
  | none => rw [q] at h; cases h
  | some es =>
    rw [q] at h
    refine iter_of F q h (chkA_ok it F h) fun a ea e ee => ?_
    subst ea
    subst ee
    have h : (noStar e && chkE a Γ e && true) = true := h
    simp only [Bool.and_eq_true, and_true] at h
    exact (chkE_ok a F h.2).le
theorem sub_assign {o i : Expr} {p : Pos} {env : Env} (h : plainIxB i = true) (v : Value) : assign (.Subscript o i p) env v = (do
      let ov ← holding [v] (eval o env)
      let iv ← holding [v, ov] (eval i env)
      standAt p
      holding [v, ov, iv] (setItem ov iv v)
      release [v, ov, iv] []) := by
  cases i <;> first | rfl | (cases h; done)
theorem okite {c : Bool} {a b : PK.O} (ha : match a with | .nx _ _ => True | .exc _ _ _ => True | .bad => True | _ => False) (hb : match b with | .nx _ _ => True | .exc _ _ _ => True | .bad => True | _ => False) :
    match (if c = true then a else b) with | .nx _ _ => True | .exc _ _ _ => True | .bad => True | _ => False := by
  cases c
  · rw [if_neg Bool.false_ne_true]; exact hb
  · rw [if_pos rfl]; exact ha
theorem put_kind {x y v : PK.D} {s : PK.Env} {G : Cells} : match PK.putV m x y v s G with | .nx _ _ => True | .exc _ _ _ => True | .bad => True | _ => False := by
  cases x with
  | ref q =>
    unfold PK.putV
    dsimp only
    cases G[q]? with
    | none => trivial
    | some c =>
      cases c with
      | lst ds =>
        show match PK.putL q m ds y v s G with | .nx _ _ => True | .exc _ _ _ => True | .bad => True | _ => False
        cases y with
        | int k =>
          unfold PK.putL
          dsimp only
          cases L2.ixN ds.length k with
          | none => trivial
          | some j => exact okite trivial trivial
        | _ => trivial
      | dK kvs =>
        show match PK.putDK q m kvs y v s G with | .nx _ _ => True | .exc _ _ _ => True | .bad => True | _ => False
        unfold PK.putDK
        cases PK.keyD y with
        | none => trivial
        | some k => exact okite trivial trivial
      | dT kvs =>
        show match PK.putDT q m kvs y v s G with | .nx _ _ => True | .exc _ _ _ => True | .bad => True | _ => False
        cases y with
        | tup ks =>
          unfold PK.putDT
          dsimp only
          cases PK.keysD ks with
          | none => trivial
          | some k => exact okite trivial trivial
        | _ => trivial
      | ins c ds => trivial
  | _ => trivial
theorem ktrue {o : PK.O} {f : PK.Env → Cells → PK.O} (h : match o with | .nx _ _ => True | .exc _ _ _ => True | .bad => True | _ => False) (hf : ∀ s G, match f s G with | .nx _ _ => True | .exc _ _ _ => True | .bad => True | _ => False) :
    match o.then f with | .nx _ _ => True | .exc _ _ _ => True | .bad => True | _ => False := by
  cases o <;> first | exact hf _ _ | exact h
theorem st_kind {s : PK.Env} {r : PK.R} {f : PK.D → Cells → PK.O} (hf : ∀ v G, match f v G with | .nx _ _ => True | .exc _ _ _ => True | .bad => True | _ => False) :
    match PK.R.st s r f with | .nx _ _ => True | .exc _ _ _ => True | .bad => True | _ => False := by
  cases r <;> first | exact hf _ _ | trivial
theorem putF_kind {c j : Nat} {x v : PK.D} {s : PK.Env} {G : Cells} : match PK.putF m c j x v s G with | .nx _ _ => True | .exc _ _ _ => True | .bad => True | _ => False := by
  unfold PK.putF
  cases x with
  | ref q =>
    dsimp only
    cases G[q]? with
    | none => trivial
    | some cl =>
      cases cl with
      | ins c' ds =>
        dsimp only
        by_cases h : c' = c ∧ PK.wok q m v = true
        · rw [if_pos h]
          by_cases h2 : j < ds.length
          · rw [if_pos h2]; trivial
          · rw [if_neg h2]
            by_cases h3 : j = ds.length
            · rw [if_pos h3]; trivial
            · rw [if_neg h3]; trivial
        · rw [if_neg h]; trivial
      | _ => trivial
  | _ => trivial
theorem puts_kind : ∀ {ps : List PK.P} {ds : List PK.D} {s : PK.Env} {G : Cells}, match PK.putPs cl gl m ps ds s G with | .nx _ _ => True | .exc _ _ _ => True | .bad => True | _ => False
  | [], [], _, _ => trivial
  | [], _ :: _, _, _ => trivial
  | _ :: _, [], _, _ => trivial
  | p :: ps, d :: ds, s, G => ktrue (f := fun s1 G1 => PK.putPs cl gl m ps ds s1 G1) (by
      cases p with
      | nm i => trivial
      | sb o i => exact st_kind fun x G1 => st_kind fun y G2 => put_kind
      | fld c j o => exact st_kind fun x G1 => putF_kind) fun s1 G1 => puts_kind
theorem assignEach_sub {a b : Expr} {p : Pos} {es : List Expr} {env : Env} : assignEach (.Subscript a b p :: es) env = (false, assign (.Subscript a b p) env) :: assignEach es env := by
  first | rfl | (unfold assignEach; rfl)
theorem lgs_of {es : List Expr} {f f' : List PK.D → PK.Env → Cells → PK.O} (h : LGs X lk es f) (e : ∀ ds s G, f' ds s G = f ds s G) : LGs X lk es f' := by
  have : f' = f := funext fun ds => funext fun s => funext fun G => e ds s G
  rw [this]; exact h
theorem tgs_of (F : Fits Γ X lk cl gl) : ∀ {ps : List PK.P} {es : List Expr}, chkG Γ ps es = true → LGs X lk es (fun ds s G => PK.putPs cl gl m ps ds s G) ∧ (assignEach es X.env).length = es.length ∧ (assignEach es X.env).findIdx? (·.1) = none ∧ ps.length = es.length
  | [], [], _ => ⟨⟨fun pins s' σ H vs us Q I ru ⟨ρ, G, s, ds, r, en, pv, hl, h⟩ => by
      cases ds with
      | nil => exact lgs_nil.run pins s' σ H vs us Q I ru ⟨ρ, G, s, [], r, en, pv, rfl, h⟩
      | cons _ _ => simp at hl⟩, rfl, rfl, rfl⟩
  | [], _ :: _, h => by cases h
  | p :: ps, es, h => by
    have step : ∀ {e : Expr} {es : List Expr} {f : PK.D → PK.Env → Cells → PK.O}, LG X lk e f → (∀ d s G, PK.putP cl gl m p d s G = f d s G) → chkG Γ ps es = true → assignEach (e :: es) X.env = (false, assign e X.env) :: assignEach es X.env → LGs X lk (e :: es) (fun ds s G => PK.putPs cl gl m (p :: ps) ds s G) ∧ (assignEach (e :: es) X.env).length = (e :: es).length ∧ (assignEach (e :: es) X.env).findIdx? (·.1) = none ∧ (p :: ps).length = (e :: es).length := fun {e es f} L hp h2 ha => by
      obtain ⟨t1, t2, t3, t4⟩ := tgs_of F h2
      refine ⟨lgs_of (lgs_cons L t1 (by rw [ha]; rfl)) fun ds s G => ?_, by rw [ha, List.length_cons, List.length_cons, t2], by rw [ha, List.findIdx?_cons, t3]; rfl, by rw [List.length_cons, List.length_cons, t4]⟩
      cases ds with
      | nil => rfl
      | cons d ds =>
        show (PK.putP cl gl m p d s G).then (fun s1 G1 => PK.putPs cl gl m ps ds s1 G1) = (f d s G).then (fun s1 G1 => PK.putPs cl gl m ps ds s1 G1)
        rw [hp]
    cases es with
    | nil => cases p <;> cases h
    | cons e es =>
      cases p with
      | nm i => cases e with
        | Name x q =>
          obtain ⟨h1, h2⟩ := Bool.and_eq_true_iff.mp (show (chkNm Γ i x && chkG Γ ps es) = true from h)
          obtain ⟨n1, n2, n3⟩ := F.nm h1
          exact step (lg_nm F.nd' n1 n2 n3) (fun _ _ _ => rfl) h2 assignEach_name
        | _ => cases h
      | sb o' i' => cases e with
        | Subscript o i q =>
          have h : (plainIxB i && chkE o' Γ o && chkE i' Γ i && chkG Γ ps es) = true := h
          simp only [Bool.and_eq_true] at h
          obtain ⟨⟨⟨h1, h2⟩, h3⟩, h4⟩ := h
          exact step (lg_sub (m := m) (by have := F.un; omega) (fun lo hi st q z => by rw [z] at h1; cases h1) (chkE_ok (cl := cl) (gl := gl) (m := m) o' F h2).le (chkE_ok (cl := cl) (gl := gl) (m := m) i' F h3).le (sub_assign h1)) (fun _ _ _ => rfl) h4 assignEach_sub
        | _ => cases h
      | fld c j o => cases e <;> cases h
theorem par_plain (F : Fits Γ X lk cl gl) {is : List Nat} {es vs : List Expr} {l : PK.Ls} {k k2 : Nat} {p p2 pos : Pos} (h : (vs.all (foldedForSure 8) && chkNms Γ is es && decide (vs.length ≤ 1000)) = true) (hA : chkA l Γ vs = true) :
    LS X lk (.Assign [.Tuple es k p] (.Tuple vs k2 p2) pos) (XV cl gl m (.par is l)) := by
  simp only [Bool.and_eq_true, decide_eq_true_eq] at h
  obtain ⟨⟨h1, h2⟩, h3⟩ := h
  have T : LE X lk (.Tuple vs k2 p2) (EVs cl gl m l) := by
    refine le_tup (chkA_ok l F hA) (fun s G ds G' q => ?_) fun s G v G' q => ?_
    · obtain ⟨ds', e, hl⟩ := args_len hA q
      cases e
      omega
    · obtain ⟨ds', e, hl⟩ := args_len hA q
      exact ⟨ds', e⟩
  refine ls_of (ls_asg (is := is) (f := fun v G1 s => PK.tupK v (fun ds => PK.iteK (decide (ds.length = is.length)) (fun _ => .nx (PK.pars is ds s) G1) fun _ => .bad) .bad) F.calm F.nd' (F.nms h2) T sole_tup (stores_fold h1) rfl fun v G s => ?_) fun _ _ => rfl
  cases v with
  | tup ds =>
    by_cases c : ds.length = is.length
    · refine .inr ⟨ds, rfl, c, ?_⟩
      show PK.iteK (decide (ds.length = is.length)) (fun x => PK.O.nx (PK.pars is ds s) G) (fun x => PK.O.bad) = _
      rw [decide_eq_true c]; rfl
    · refine .inl ?_
      show PK.iteK (decide (ds.length = is.length)) (fun x => PK.O.nx (PK.pars is ds s) G) (fun x => PK.O.bad) = _
      rw [decide_eq_false c]; rfl
  | _ => exact .inl rfl
theorem comp_set (F : Fits Γ X lk cl gl) (hk : Γ.sc.kind = .function) {i : Nat} {x : Str} {px pos : Pos} {e : Expr} {l : PK.L} (h1 : chkNm Γ i x = true) (h2 : setB Γ x px e = true) (h3 : chkE l Γ e = true) : LS X lk (.Assign [.Name x px] e pos) (XV cl gl m (.set i l)) := by
  obtain ⟨n1, n2, n3⟩ := F.nm h1
  have L := chkE_ok (m := m) l F h3
  by_cases c : isComp e = false
  · exact ls_of (ls_set F.nd' n1 n2 n3 (sw_not c) L.le) fun _ _ => rfl
  · have go : ∀ elt tg iter ifs scope pc, e = .ListComp elt [⟨tg, iter, ifs, 0⟩] scope pc → (isK Γ.sc x .cell || swB Γ x px pc scope) = true → LS X lk (.Assign [.Name x px] e pos) (XV cl gl m (.set i l)) := fun elt tg iter ifs scope pc ee hs => by
      subst ee
      rcases Bool.or_eq_true_iff.mp hs with hs | hs
      · exact ls_of (ls_set F.nd' n1 n2 n3 (sw_cell (by rw [F.sc]; exact of_decide_eq_true hs)) L.le) fun _ _ => rfl
      obtain ⟨w, own, k, pt, one, er, ec, eb, C, hev⟩ := L.co _ _ _ _ _ _ rfl
      unfold swB isK at hs
      simp only [Bool.and_eq_true, decide_eq_true_eq, Bool.not_eq_true'] at hs
      obtain ⟨⟨s1, s2⟩, s3⟩ := hs
      have s1' : X.env.scope.names.lookup x = some .local := by rw [F.sc]; exact s1
      refine ls_of (ls_setComp (w := w) F.calm F.nd' n1 s1' (sw_true (by rw [F.sc]; exact hk) s1' s2 s3) C) fun s G => ?_
      show PK.R.st s (EV cl gl m l s G) _ = _
      rw [hev]
    unfold setB at h2
    split at h2
    · exact go _ _ _ _ _ _ rfl h2
    · exact absurd (by simpa using h2) c
theorem excIx_some {x : Str} {j : Nat} (h : excIx Γ x = some j) : Γ.exn[j]? = some x ∧ j < Γ.exn.length := by
  obtain ⟨h1, h2, _⟩ := List.findIdx?_eq_some_iff_getElem.mp h
  have h2 := of_decide_eq_true h2
  exact ⟨by rw [List.getElem?_eq_getElem h1, h2], h1⟩
theorem clsB_ok (F : Fits Γ X lk cl gl) {c : Nat} (hc : c < Γ.exn.length) {z : Str} {b : Bool} (h : clsB Γ c z b = true) : ∃ C, Gl X z ∧ X.mg z = some (.ref C) ∧ (z == ("__debug__" : Str)) = false ∧ PySem.W.kitOne X.K (.ref (lk.EA c)) (.ref C) = some b := by
  unfold clsB at h
  cases q : excIx Γ z with
  | none => rw [q] at h; cases h
  | some j =>
    rw [q] at h
    simp only [Bool.and_eq_true, decide_eq_true_eq] at h
    obtain ⟨⟨h1, h2⟩, h3⟩ := h
    obtain ⟨e1, e2⟩ := excIx_some q
    refine ⟨lk.EA j, F.glo h1, (F.exs j z e1).1, by simpa [ndB] using h2, ?_⟩
    rw [(F.exm c j hc e2).2, h3]
theorem clssG_ok (F : Fits Γ X lk cl gl) {c : Nat} (hc : c < Γ.exn.length) : ∀ {es : List Expr}, clssB.clssG Γ c es = true → ∃ Cs, ClsEs X es Cs ∧ Cs.length = es.length
  | [], _ => ⟨[], .nil, rfl⟩
  | e :: es, h => by
    cases e with
    | Name z p =>
      have h : ((clsB Γ c z true || clsB Γ c z false) && clssB.clssG Γ c es) = true := h
      obtain ⟨h1, h2⟩ := Bool.and_eq_true_iff.mp h
      obtain ⟨Cs, r1, r2⟩ := clssG_ok F hc h2
      rcases Bool.or_eq_true_iff.mp h1 with h1 | h1
      · obtain ⟨C, g1, g2, g3, _⟩ := clsB_ok F hc h1
        exact ⟨C :: Cs, .cons g1 g2 g3 r1, by rw [List.length_cons, List.length_cons, r2]⟩
      · obtain ⟨C, g1, g2, g3, _⟩ := clsB_ok F hc h1
        exact ⟨C :: Cs, .cons g1 g2 g3 r1, by rw [List.length_cons, List.length_cons, r2]⟩
    | _ => cases h
theorem clssB_ok (F : Fits Γ X lk cl gl) {c : Nat} (hc : c < Γ.exn.length) : ∀ {es : List Expr} {b : Bool}, clssB Γ c es b = true → ∃ Cs, ClsEs X es Cs ∧ Cs.length = es.length ∧ PySem.W.kitAny X.K (.ref (lk.EA c)) (Cs.map Value.ref) = some b
  | [], b, h => ⟨[], .nil, rfl, by
      have h : (!b) = true := h
      cases b with
      | true => cases h
      | false => exact kitAny_nil⟩
  | e :: es, b, h => by
    cases e with
    | Name z p =>
      have h : ((clsB Γ c z true && b && clssB.clssG Γ c es) || (clsB Γ c z false && clssB Γ c es b)) = true := h
      rcases Bool.or_eq_true_iff.mp h with h | h
      · simp only [Bool.and_eq_true] at h
        obtain ⟨⟨h1, h2⟩, h3⟩ := h
        obtain ⟨Cs, r1, r2⟩ := clssG_ok F hc h3
        obtain ⟨C, g1, g2, g3, g4⟩ := clsB_ok F hc h1
        exact ⟨C :: Cs, .cons g1 g2 g3 r1, by rw [List.length_cons, List.length_cons, r2], kitAny_cons g4 (fun z => by cases z) fun _ => h2⟩
      · obtain ⟨h1, h2⟩ := Bool.and_eq_true_iff.mp h
        obtain ⟨Cs, r1, r2, r3⟩ := clssB_ok F hc h2
        obtain ⟨C, g1, g2, g3, g4⟩ := clsB_ok F hc h1
        exact ⟨C :: Cs, .cons g1 g2 g3 r1, by rw [List.length_cons, List.length_cons, r2], kitAny_cons g4 (fun _ => r3) fun z => by cases z⟩
    | _ => cases h
theorem cls_suite {a : Addr} {pn : List (Addr × Obj)} : ∀ {es : List Expr} {Cs : List Addr}, ClsEs X es Cs → ClsEs (X.suite a pn) es Cs
  | _, _, .nil => .nil
  | _, _, .cons g1 g2 g3 r => .cons g1 g2 g3 (cls_suite r)
section
variable {a : Addr} {oe : Obj} {pn : List (Addr × Obj)} {n : Option Nat} {c : Nat}
theorem isx_ok (F : Fits Γ X lk cl gl) (hc : c < Γ.exn.length) (hz : Zc (.ref (lk.EA c)) none oe) (hf : ∃ vs, oe.data = .fields vs) {b : Bool} {e : Expr} (h : isxB Γ c n b e = true) :
    LXe (X.suite a ((a, oe) :: pn)) lk n a e (fun _ G => .ok (.bl b) G) := by
  obtain ⟨x, hx⟩ : ∃ x, Γ.exn[c]? = some x := ⟨_, List.getElem?_eq_getElem hc⟩
  have E := (F.exs c x hx).2.2
  have held : ∀ {y : Str}, heldB Γ n y = true → ∃ i, n = some i ∧ X.N[i]? = some y ∧ Vis X.env.scope y ∧ (y == ("__debug__" : Str)) = false ∧ (y == ("__classdict__" : Str)) = false := fun {y} h => by
    unfold heldB at h
    cases n with
    | none => cases h
    | some i =>
      simp only [Bool.and_eq_true, decide_eq_true_eq] at h
      obtain ⟨⟨⟨h1, h2⟩, h3⟩, h4⟩ := h
      exact ⟨i, rfl, by rw [F.hN]; exact h1, F.vis h2, by simpa [ndB] using h3, by simpa [ncB] using h4⟩
  unfold isxB at h
  split at h
  · simp only [Bool.and_eq_true, decide_eq_true_eq] at h
    obtain ⟨⟨⟨h1, h2⟩, h3⟩, h4⟩ := h
    obtain ⟨i, rfl, g1, g2, g3, g4⟩ := held h3
    obtain ⟨C, k1, k2, k3, k4⟩ := clsB_ok F hc h4
    subst h1
    obtain ⟨b1, b2⟩ := F.blt h2
    exact lx_is E hz hf g1 g2 g3 g4 b1 b2 k1 k2 k3 k4
  · simp only [Bool.and_eq_true, decide_eq_true_eq] at h
    obtain ⟨⟨⟨⟨h1, h2⟩, h3⟩, h4⟩, h5⟩ := h
    obtain ⟨i, rfl, g1, g2, g3, g4⟩ := held h3
    obtain ⟨Cs, k1, k2, k3⟩ := clssB_ok F hc h4
    subst h1
    obtain ⟨b1, b2⟩ := F.blt h2
    exact lx_isT E hz hf g1 g2 g3 g4 b1 b2 (cls_suite k1) (by rw [k2]; exact h5) k3
  · cases h
theorem conX_ok (F : Fits Γ X lk cl gl) (hc : c < Γ.exn.length) (hz : Zc (.ref (lk.EA c)) none oe) (hf : ∃ vs, oe.data = .fields vs) {d : PK.D} {e : Expr} (h : conX Γ c n d e = true) :
    LXe (X.suite a ((a, oe) :: pn)) lk n a e (fun _ G => .ok d G) := by
  unfold conX at h
  split at h
  · rw [of_decide_eq_true h]; exact lx_bl
  · rw [of_decide_eq_true h]; exact lx_int
  · rw [of_decide_eq_true h]; exact lx_str
  · exact lx_non
  · exact isx_ok F hc hz hf h
  · cases h
theorem chkXE_ok (F : Fits Γ X lk cl gl) (hc : c < Γ.exn.length) (hz : Zc (.ref (lk.EA c)) none oe) (hf : ∃ vs, oe.data = .fields vs) : ∀ (l : PK.L) {e : Expr}, chkXE l Γ c n e = true →
    LXe (X.suite a ((a, oe) :: pn)) lk n a e (EV cl gl m l)
  | .c d, e, h => conX_ok F hc hz hf h
  | .and_ u v, e, h => by
    unfold chkXE at h
    split at h
    · obtain ⟨h1, h2⟩ := Bool.and_eq_true_iff.mp h
      exact lx_and (chkXE_ok F hc hz hf u h1) (lx_one (chkXE_ok F hc hz hf v h2))
    · cases h
  | .or_ u v, e, h => by
    unfold chkXE at h
    split at h
    · obtain ⟨h1, h2⟩ := Bool.and_eq_true_iff.mp h
      exact lx_or (chkXE_ok F hc hz hf u h1) (lx_one (chkXE_ok F hc hz hf v h2))
    · cases h
  | .not_ u, e, h => by
    unfold chkXE at h
    split at h
    · exact lx_not (chkXE_ok F hc hz hf u h)
    · cases h
  | .v _, _, h | .g _, _, h | .bin .., _, h | .neg _, _, h | .cmp .., _, h | .chain .., _, h | .ite .., _, h | .tup _, _, h | .lst .., _, h | .ix .., _, h | .sl .., _, h | .rev .., _, h
  | .call .., _, h | .meth .., _, h | .new .., _, h | .fld .., _, h | .bi .., _, h | .mt .., _, h | .isi .., _, h | .key2 .., _, h | .skey .., _, h | .dnew _, _, h | .dlit _, _, h | .comp .., _, h => by cases h
theorem then_nx (o : PK.O) : (o.then fun s G => .nx s G) = o := by cases o <;> rfl
theorem chkX1_ok (F : Fits Γ X lk cl gl) (hc : c < Γ.exn.length) (hz : Zc (.ref (lk.EA c)) none oe) (hf : ∃ vs, oe.data = .fields vs) {b : PK.M} {st : Stmt} {rest : List Stmt} {ex : Ex} (h : chkX1 Γ c n b st = true) (hr : LXs (X.suite a ((a, oe) :: pn)) lk n a rest ex) :
    LXs (X.suite a ((a, oe) :: pn)) lk n a (st :: rest) (fun s G => (PK.exec cl gl m b s G).then fun s1 G1 => ex s1 G1) := by
  unfold chkX1 at h
  split at h
  · simp only [Bool.and_eq_true, decide_eq_true_eq, Bool.not_eq_true'] at h
    obtain ⟨⟨⟨h1, h2⟩, h3⟩, h4⟩ := h
    obtain ⟨n1, n2, n3⟩ := F.nm h1
    exact lxs_cons (Y := X.suite a ((a, oe) :: pn)) F.nd' n1 n2 n3 (sw_not h2) h3 (chkXE_ok F hc hz hf _ h4) hr
  · cases h
theorem chkX_ok (F : Fits Γ X lk cl gl) (hc : c < Γ.exn.length) (hz : Zc (.ref (lk.EA c)) none oe) (hf : ∃ vs, oe.data = .fields vs) : ∀ (b : PK.M) {sts : List Stmt}, chkX b Γ c n sts = true →
    LXs (X.suite a ((a, oe) :: pn)) lk n a sts (XV cl gl m b)
  | .seq u v, sts, h => by
    unfold chkX at h
    split at h
    · obtain ⟨h1, h2⟩ := Bool.and_eq_true_iff.mp h
      exact chkX1_ok F hc hz hf h1 (chkX_ok F hc hz hf v h2)
    · cases h
  | .set j l, sts, h => by
    unfold chkX at h
    split at h
    · have L := chkX1_ok (m := m) (a := a) (pn := pn) F hc hz hf h lxs_nil
      have e : (fun s G => (PK.exec cl gl m (.set j l) s G).then fun s1 G1 => PK.O.nx s1 G1) = XV cl gl m (.set j l) := funext fun s => funext fun G => then_nx _
      rw [e] at L
      exact L
    · cases h
  | .pass, _, h | .ex _, _, h | .asg .., _, h | .put .., _, h | .par .., _, h | .ite .., _, h | .for .., _, h | .while .., _, h | .ret _, _, h | .retN, _, h | .raise _, _, h | .brk, _, h | .cnt, _, h | .try_ _, _, h | .tryc .., _, h => by cases h
end
theorem chkB_okA (hk : Γ.sc.kind = .function) : ∀ (a : PK.M) {X : Cx} {sts : List Stmt}, Fits Γ X lk cl gl → Own X → chkB a Γ sts = true → LB X lk sts (XV cl gl m a)
  | .pass, X, sts, F, O, h => by
    match sts, h with
    | [], _ => exact ⟨lss_nil, fun _ e => by cases e⟩
    | [.Pass p], _ => exact lb_one ls_pass
    | st :: st2 :: r, h => cases st <;> cases h
  | .seq a b, X, sts, F, O, h => by
    match sts, h with
    | [], h => cases h
    | [_], h => cases h
    | st :: st2 :: rest, h =>
      obtain ⟨h1, h2⟩ := Bool.and_eq_true_iff.mp (show (chkB a Γ [st] && chkB b Γ (st2 :: rest)) = true from h)
      have L := lss_cons ((chkB_okA hk a F O h1).s1 st rfl) (chkB_okA hk b F O h2).ss
      exact ⟨L, fun _ e => by cases e⟩
  | .ex l, X, sts, F, O, h => by
    match sts, h with
    | [], h => cases h
    | [.Expr e p], h =>
      obtain ⟨h1, h2⟩ := Bool.and_eq_true_iff.mp (show (!isComp e && chkE l Γ e) = true from h)
      exact lb_one (ls_of (ls_ex (sw_not (by simpa using h1)) (chkE_ok l F h2).le) fun _ _ => rfl)
    | st :: st2 :: r, h => cases st <;> cases h
  | .set i l, X, sts, F, O, h => by
    unfold chkB at h
    split at h
    · rename_i x px e p
      have h : (chkNm Γ i x && setB Γ x px e && chkE l Γ e) = true := h
      simp only [Bool.and_eq_true] at h
      exact lb_one (comp_set F hk h.1.1 h.1.2 h.2)
    · cases h
  | .asg ps l, X, sts, F, O, h => by
    unfold chkB at h
    split at h
    · rename_i es k p e pos
      have h : (!isTup e && chkG Γ ps es && chkE l Γ e) = true := h
      simp only [Bool.and_eq_true, Bool.not_eq_true'] at h
      obtain ⟨⟨h1, h2⟩, h3⟩ := h
      obtain ⟨T, hn, hst, hl⟩ := tgs_of (cl := cl) (gl := gl) (m := m) F h2
      exact lb_one (ls_of (ls_asgG F.calm T (fun v s G => puts_kind) hn hst (chkE_ok l F h3).le sole_tup (stores_not h1) rfl) fun s G => by
        show PK.R.st s (EV cl gl m l s G) _ = PK.R.st s (EV cl gl m l s G) _
        rw [hl])
    · cases h
  | .put q l, X, sts, F, O, h => by
    unfold chkB at h
    split at h
    · rename_i o i p e pos
      cases q with
      | sb o' i' =>
        have h : (plainIxB i && chkE o' Γ o && chkE i' Γ i && chkE l Γ e) = true := h
        simp only [Bool.and_eq_true] at h
        obtain ⟨⟨⟨h1, h2⟩, h3⟩, h4⟩ := h
        have G := lg_sub (pos := p) (m := m) (by have := F.un; omega) (fun lo hi st q z => by rw [z] at h1; cases h1) (chkE_ok (cl := cl) (gl := gl) (m := m) o' F h2).le (chkE_ok (cl := cl) (gl := gl) (m := m) i' F h3).le (sub_assign h1)
        refine lb_one (ls_of (ls_put G (fun v s G => ?_) (chkE_ok l F h4).le sole_sub stores_sub rfl) fun _ _ => rfl)
        cases EV cl gl m o' s G with
        | bad => exact trivial
        | exc c G1 => exact trivial
        | ok x G1 =>
          show (match PK.R.st s (EV cl gl m i' s G1) _ with | .nx _ _ => True | .exc _ _ _ => True | .bad => True | _ => False)
          cases EV cl gl m i' s G1 with
          | bad => exact trivial
          | exc c G1 => exact trivial
          | ok y G2 =>
            show (match PK.putV m x y v s G2 with | .nx _ _ => True | .exc _ _ _ => True | .bad => True | _ => False)
            exact put_kind
      | _ => cases h
    · rename_i o f p e pos
      cases q with
      | fld c j o' =>
        have h : (decide ((Γ.fld[c]?).bind (·[j]?) = some f) && chkE o' Γ o && chkE l Γ e) = true := h
        simp only [Bool.and_eq_true, decide_eq_true_eq] at h
        obtain ⟨⟨h1, h2⟩, h3⟩ := h
        cases q : Γ.fld[c]? with
        | none => rw [q] at h1; cases h1
        | some fs =>
          rw [q] at h1
          have h1 : fs[j]? = some f := h1
          obtain ⟨c1, c2⟩ := F.cls c _ q
          rw [← c1] at c2 h1
          exact lb_one (ls_of (ls_fld (m := m) c2 h1 (chkE_ok l F h3).le (chkE_ok (m := m) o' F h2).le sw_attr) fun _ _ => rfl)
      | _ => cases h
    · cases h
  | .par is l, X, sts, F, O, h => by
    unfold chkB at h
    split at h
    · rename_i es k p vs k2 p2 pos
      have h : (parB Γ is es vs && chkA l Γ vs) = true := h
      obtain ⟨h1, h2⟩ := Bool.and_eq_true_iff.mp h
      refine lb_one ?_
      unfold parB at h1
      split at h1
      · rcases Bool.or_eq_true_iff.mp h1 with h1 | h1
        · exact par_plain F h1 h2
        · unfold par2B at h1
          simp only [Bool.and_eq_true, decide_eq_true_eq] at h1
          obtain ⟨⟨⟨n, h3⟩, h4⟩, h5⟩ := h1
          have n2 := n
          unfold names2 isK at n2
          simp only [Bool.and_eq_true, decide_eq_true_eq] at n2
          obtain ⟨⟨⟨⟨⟨⟨⟨a1, a2⟩, _⟩, _⟩, _⟩, _⟩, _⟩, _⟩ := n2
          exact ls_of (ls_par2 F.calm F.nd' (by rw [F.hN]; exact h4) (by rw [F.hN]; exact h5) h3 (by rw [F.sc]; exact a1) (by rw [F.sc]; exact a2) (chkA_ok l F h2) (stores_two (by rw [F.sc]; exact hk) (by rw [F.sc]; exact n))) fun _ _ => rfl
      · rcases Bool.or_eq_true_iff.mp h1 with h1 | h1
        · exact par_plain F h1 h2
        · unfold par3B at h1
          simp only [Bool.and_eq_true, decide_eq_true_eq] at h1
          obtain ⟨⟨⟨⟨⟨⟨n, h3⟩, h4⟩, h5⟩, h6⟩, h7⟩, h8⟩ := h1
          have n2 := n
          unfold names3 isK at n2
          simp only [Bool.and_eq_true, decide_eq_true_eq] at n2
          obtain ⟨⟨⟨⟨⟨⟨⟨⟨⟨⟨⟨a1, a2⟩, a3⟩, _⟩, _⟩, _⟩, _⟩, _⟩, _⟩, _⟩, _⟩, _⟩ := n2
          exact ls_of (ls_par3 F.calm F.nd' (by rw [F.hN]; exact h6) (by rw [F.hN]; exact h7) (by rw [F.hN]; exact h8) h3 h4 h5 (by rw [F.sc]; exact a1) (by rw [F.sc]; exact a2) (by rw [F.sc]; exact a3) (chkA_ok l F h2) (stores_three (by rw [F.sc]; exact hk) (by rw [F.sc]; exact n)) sole_tup) fun _ _ => rfl
      · exact par_plain F h1 h2
    · cases h
  | .ite t a b, X, sts, F, O, h => by
    match sts, h with
    | [], h => cases h
    | [.If c sa sb p], h =>
      have h : (notIf c && chkE t Γ c && chkB a Γ sa && chkB b Γ sb) = true := h
      simp only [Bool.and_eq_true] at h
      obtain ⟨⟨⟨h1, h2⟩, h3⟩, h4⟩ := h
      exact lb_one (ls_of (ls_if ((chkE_ok t F h2).lt h1) (chkB_okA hk a F O h3).ss (chkB_okA hk b F O h4).ss) fun _ _ => rfl)
    | st :: st2 :: r, h => cases st <;> cases h
  | .for k pt one it b, X, sts, F, O, h => by
    match sts, h with
    | [], h => cases h
    | [.For tg iter body [] p], h =>
      have h : (!isSet iter && (match iterEs k Γ tg iter with | some es => chkA it Γ es | none => false) && chkP Γ tg pt one && chkB b Γ body) = true := h
      simp only [Bool.and_eq_true, Bool.not_eq_true'] at h
      obtain ⟨⟨⟨h1, h2⟩, h3⟩, h4⟩ := h
      exact lb_one (ls_of (ls_for F.hp F.calm F.nd' (one_iter F h2) (F.pat h3) (chkB_okA hk b F O h4).ss (set_of h1)) fun _ _ => rfl)
    | [.For tg iter body (_ :: _) p], h => cases h
    | st :: st2 :: r, h =>
      cases st with
      | For tg iter body orelse p => cases orelse <;> cases h
      | _ => cases h
  | .while n t b, X, sts, F, O, h => by
    match sts, h with
    | [], h => cases h
    | [.While c body [] p], h =>
      have h : (notIf c && chkE t Γ c && chkB b Γ body) = true := h
      simp only [Bool.and_eq_true] at h
      obtain ⟨⟨h1, h2⟩, h3⟩ := h
      exact lb_one (ls_of (ls_while n F.hp ((chkE_ok t F h2).lt h1) (chkB_okA hk b F O h3).ss) fun _ _ => rfl)
    | [.While c body (_ :: _) p], h => cases h
    | st :: st2 :: r, h =>
      cases st with
      | While c body orelse p => cases orelse <;> cases h
      | _ => cases h
  | .ret l, X, sts, F, O, h => by
    match sts, h with
    | [], h => cases h
    | [.Return (some e) p], h => exact lb_one (ls_of (ls_ret (chkE_ok l F h).le) fun _ _ => rfl)
    | [.Return none p], h => cases h
    | st :: st2 :: r, h =>
      cases st with
      | Return v p => cases v <;> cases h
      | _ => cases h
  | .retN, X, sts, F, O, h => by
    match sts, h with
    | [], h => cases h
    | [.Return none p], h => exact lb_one ls_retN
    | [.Return (some e) p], h => cases h
    | st :: st2 :: r, h =>
      cases st with
      | Return v p => cases v <;> cases h
      | _ => cases h
  | .raise c, X, sts, F, O, h => by
    unfold chkB at h
    split at h
    · simp only [Bool.and_eq_true, decide_eq_true_eq] at h
      obtain ⟨⟨h1, h2⟩, h3⟩ := h
      obtain ⟨e1, e2, _⟩ := F.exs c _ h1
      exact lb_one (ls_of (ls_raise F.calm (F.glo h2) e1 e2 (by simpa [ndB] using h3)) fun _ _ => rfl)
    · cases h
  | .brk, X, sts, F, O, h => by
    match sts, h with
    | [], h => cases h
    | [.Break p], h => exact lb_one ls_brk
    | st :: st2 :: r, h => cases st <;> cases h
  | .cnt, X, sts, F, O, h => by
    match sts, h with
    | [], h => cases h
    | [.Continue p], h => exact lb_one ls_cnt
    | st :: st2 :: r, h => cases st <;> cases h
  | .try_ b, X, sts, F, O, h => by
    unfold chkB at h
    split at h
    · exact lb_one (ls_of (ls_try (chkB_okA hk b F.nox O h).ss) fun _ _ => rfl)
    · cases h
  | .tryc b ks os n hh, X, sts, F, O, h => by
    unfold chkB at h
    split at h
    · rename_i body x np nm s0 suite p1 p2
      simp only [Bool.and_eq_true] at h
      obtain ⟨⟨⟨h1, h2⟩, h3⟩, h4⟩ := h
      unfold tryC at h1
      cases q : excIx Γ x with
      | none => rw [q] at h1; cases h1
      | some j =>
        rw [q] at h1
        simp only [Bool.and_eq_true] at h1
        obtain ⟨⟨⟨g1, g2⟩, g3⟩, g4⟩ := h1
        obtain ⟨q1, q2⟩ := excIx_some q
        have hcN : Names X x (.ref (lk.EA j)) := ⟨F.glo g1, by simpa [ndB] using g2, .inl (F.exs j x q1).1⟩
        have hk' : ∀ c ∈ ks, c < Γ.exn.length ∧ PySem.W.exmOne X.K (.ref (lk.EA c)) (.ref (lk.EA j)) = some true := fun c hm => by
          have z := List.all_eq_true.mp g3 c hm
          simp only [Bool.and_eq_true, decide_eq_true_eq] at z
          exact ⟨z.1, by rw [(F.exm c j z.1 q2).1, z.2]⟩
        have ho' : ∀ c ∈ os, PySem.W.exmOne X.K (.ref (lk.EA c)) (.ref (lk.EA j)) = some false := fun c hm => by
          have z := List.all_eq_true.mp g4 c hm
          simp only [Bool.and_eq_true, decide_eq_true_eq, Bool.not_eq_true'] at z
          rw [(F.exm c j z.1 q2).1, z.2]
        have hb : ∀ pn xe, PassesOwn (model X.prog X.w) X.A X.env xe → LSs (X.tr pn xe) lk body (XV cl gl m b) := fun pn xe hp => (chkB_okA hk b (F.tr hp) O h3).ss
        unfold tryN at h2
        split at h2
        · exact lb_one (ls_of (ls_tryOnly (exh := fun c => XV cl gl m (hh c)) O hcN (fun c hm => (hk' c hm).2) ho' hb fun c hm a oe pn hz hf => chkX_ok F (hk' c hm).1 hz hf (hh c) (List.all_eq_true.mp h4 c hm)) fun _ _ => rfl)
        · rename_i i y
          unfold isK at h2
          simp only [Bool.and_eq_true, decide_eq_true_eq] at h2
          obtain ⟨n1, n2⟩ := h2
          exact lb_one (ls_of (ls_tryAs (exh := fun c => XV cl gl m (hh c)) O F.nd' (by rw [F.hN]; exact n1) (show X.env.scope.names.lookup y = some .local by rw [F.sc]; exact n2) hcN (fun c hm => (hk' c hm).2) ho' hb fun c hm a oe pn hz hf => chkX_ok F (hk' c hm).1 hz hf (hh c) (List.all_eq_true.mp h4 c hm)) fun _ _ => rfl)
        · cases h2
    · cases h
theorem chkB_ok (F : Fits Γ X lk cl gl) (O : Own X) (hk : Γ.sc.kind = .function) (a : PK.M) {sts : List Stmt} (h : chkB a Γ sts = true) : LB X lk sts (XV cl gl m a) := chkB_okA hk a F O h
end
end PKS
namespace PKS
open PySem PySem.Spec PyProof.Rows L2
section
variable {K : PySem.W.Frag} {lk : Lk} {E : XK} {ρ : Nm} {G G' : Cells} {H H' : Hp}
theorem leave_of {trn frz : Bool} {v : PK.D} {Q : VK} (w : PK.WF G.length G') (h : OutE K lk (fun cls d _ H => E cls d H) [] ρ G H (PK.leave trn frz G.length v G') Q) :
    ∀ ρ' H' x, Ext ρ G.length H ρ' G'.length H' → Rel K lk ρ' G' H' → Rep K lk ρ' G'.length H' v x → Q x H' := fun ρ' H' x e r p => by
  unfold PK.leave at h
  cases trn
  · exact h ρ' H' x e r p
  · rw [if_pos rfl] at h
    dsimp only at h
    have hl : (G'.take G.length).length = G.length := by rw [List.length_take]; exact Nat.min_eq_left w.1
    have e2 : Ext ρ G.length H ρ' (G'.take G.length).length H' := by rw [hl]; exact e.cut (Nat.le_refl _) w.1
    cases frz
    · rw [if_neg Bool.false_ne_true] at h
      split at h
      · rename_i c
        exact h ρ' H' x e2 (r.take w) (by rw [hl]; exact Rep.cut w.1 _ _ c p)
      · exact h ρ' H' x e r p
    · rw [if_pos rfl] at h
      split at h
      · rename_i c
        exact h ρ' H' x e2 (r.take w) (by rw [hl]; exact frz_rep w.1 r p c)
      · exact h ρ' H' x e r p
theorem run_of {cl : List Nat → Nat → List PK.D → Cells → PK.R} {gl : Nat → Option PK.D} {m : List Nat} {f : PK.Fn} {ds : List PK.D} {Q : VK} (hcl : ∀ k m' f args G, k ∈ m' → PK.WF k G → PK.KR k (cl m' f args G)) (r : Rel K lk ρ G H) (h : OutE K lk (fun cls d _ H => E cls d H) [] ρ G H (PK.run cl gl m f ds G) Q) :
    ds.length = f.np ∧ OutS K lk (fun cls d _ H => E cls d H) ρ G H { nx := fun _ H' => Q .non H', rt := Q } (PK.exec cl gl (if f.trn then G.length :: m else m) f.body (ds.map some ++ List.replicate (f.ns - f.np) none) G) := by
  unfold PK.run at h
  split at h
  · rename_i hl
    refine ⟨hl, ?_⟩
    have inv : f.trn = true → PK.KO G.length (PK.exec cl gl (if f.trn then G.length :: m else m) f.body (ds.map some ++ List.replicate (f.ns - f.np) none) G) := fun ht =>
      PK.k_exec (by rw [if_pos ht]; exact List.mem_cons_self) (fun m' f a G' => hcl _ m' f a G') _ _ _ r.wf
    have nt : f.trn = false → ∀ v G', PK.leave f.trn f.frz G.length v G' = .ok v G' := fun ht v G' => by unfold PK.leave; rw [ht]; rfl
    cases e : PK.exec cl gl (if f.trn then G.length :: m else m) f.body (ds.map some ++ List.replicate (f.ns - f.np) none) G with
    | nx s G' =>
      rw [e] at h inv
      have h : OutE K lk (fun cls d _ H => E cls d H) [] ρ G H (PK.leave f.trn f.frz G.length .non G') Q := h
      intro ρ' H' σ' e' r' _
      cases ht : f.trn with
      | true => exact leave_of (inv ht) h ρ' H' .non e' r' rfl
      | false => rw [nt ht] at h; exact h ρ' H' .non e' r' rfl
    | ret v G' =>
      rw [e] at h inv
      have h : OutE K lk (fun cls d _ H => E cls d H) [] ρ G H (PK.leave f.trn f.frz G.length v G') Q := h
      intro ρ' H' x e' r' p'
      cases ht : f.trn with
      | true => exact leave_of (inv ht) h ρ' H' x e' r' p'
      | false => rw [nt ht] at h; exact h ρ' H' x e' r' p'
    | exc c s G' =>
      rw [e] at h inv
      have h : OutE K lk (fun cls d _ H => E cls d H) [] ρ G H (.exc c (if f.trn then G'.take G.length else G')) Q := h
      intro ρ' H' σ' e' r' _
      cases ht : f.trn with
      | true =>
        rw [ht, if_pos rfl] at h
        have w := inv ht
        have hl : (G'.take G.length).length = G.length := by rw [List.length_take]; exact Nat.min_eq_left w.1
        exact h ρ' H' (by rw [hl]; exact e'.cut (Nat.le_refl _) w.1) (r'.take w)
      | false => rw [ht, if_neg Bool.false_ne_true] at h; exact h ρ' H' e' r'
    | brk s G' => rw [e] at h; exact False.elim h
    | cnt s G' => rw [e] at h; exact False.elim h
    | bad => rw [e] at h; exact False.elim h
  · exact False.elim h
theorem start_env {N : List Str} {ds : List PK.D} {vs : List V} {n k : Nat} (p : Reps K lk ρ n H ds vs) (hk : N.length - vs.length = k) : REnv K lk ρ n H (ds.map some ++ List.replicate k none) (L2.start N vs) := by
  have hl := p.length
  refine ⟨by unfold L2.start; simp [hl, hk], fun i d q => ?_⟩
  by_cases hi : i < ds.length
  · rw [List.getElem?_append_left (by simpa using hi), List.getElem?_map] at q
    cases e : ds[i]? with
    | none => rw [e] at q; cases q
    | some d' =>
      rw [e] at q; cases q
      obtain ⟨v, h1, h2⟩ := p.get e
      refine ⟨v, ?_, h2⟩
      unfold L2.start
      rw [List.getElem?_append_left (by simpa [← hl] using hi), List.getElem?_map, h1]; rfl
  · rw [List.getElem?_append_right (by simpa using hi), List.getElem?_replicate] at q
    split at q <;> cases q
end

def fnmOf (e : Ent) : Option Str := match e.cn with
  | none => some e.name
  | some _ => none
def mthOf (e : Ent) : Option (Nat × Str) := match e.cn with
  | none => none
  | some (c, _) => some (c, e.name)
def Ent.sig (e : Ent) (ents : List Ent) (gnm free : List Str) (cs : Clss) (xs : Exs) : Sig := ⟨e.N, defScope e.st, fun _ => true, ents.map fnmOf, gnm, free, ents.map mthOf, cs.map (·.1), cs.map (·.2), xs.map (·.1), xs.map (·.2)⟩
def kindB (sc : Scope) : Bool := match sc.kind with | .function => true | _ => false
def entB (ents : List Ent) (gnm free : List Str) (cs : Clss) (xs : Exs) (e : Ent) : Bool :=
  C8.scC e.N e.ps (defScope e.st) && kindB (defScope e.st) && decide (e.N.length = e.fn.ns) && decide (e.ps.length = e.fn.np) && chkB e.fn.body (e.sig ents gnm free cs xs) (defBody e.st)
def BindP (e : Ent) : Prop := ∀ (kV doc pm : Value) (an : Option Addr) (cdv ct : Value) (us : List Value), us.length = e.ps.length → bindArgs (PySem.W.fnOf e.name e.qual (defArgs e.st) (defBody e.st) (defScope e.st) .none kV doc pm an cdv ct) ⟨us, []⟩ = pure (e.ps.zip us)
def EntAt (K : PySem.W.Frag) (mg : Str → Option Value) (lk : Lk) (e : Ent) (f : Addr) : Prop := match e.cn with
  | none => mg e.name = some (.ref f)
  | some (c, _) => if e.name = initN then Mk K (lk.CA c) f else Meth K (lk.CA c) e.name f
section
variable {P : Program} {w : World} {K : PySem.W.Frag} {mg : Str → Option Value} {base : Heap} {lk : Lk} {T : Nat → Option PK.Fn} {gl : Nat → Option PK.D} {gnm free : List Str} {cs : Clss} {xs : Exs}
theorem table_ok (ents : List Ent) (hT : ∀ i e, ents[i]? = some e → T i = some e.fn) (hchk : ents.all (entB ents gnm free cs xs) = true) (hB : ∀ e ∈ ents, BindP e)
    (hF : ∀ e ∈ ents, ∃ f fd, FunD K e.name e.qual (defArgs e.st) (defBody e.st) (defScope e.st) [] [] f fd ∧ EntAt K mg lk e f) (hfree : ∀ x ∈ free, mg x = none)
    (hcs : ∀ (c : Nat) x fs, cs[c]? = some (x, fs) → mg x = some (.ref (lk.CA c)) ∧ lk.FN c = fs ∧ ClsOk K (lk.CA c) fs)
    (hxs : ∀ (i : Nat) x ss, xs[i]? = some (x, ss) → mg x = some (.ref (lk.EA i)) ∧ ExcK K (lk.EA i) ∧ ExcC K (lk.EA i))
    (hxm : ∀ i j : Nat, i < xs.length → j < xs.length → PySem.W.exmOne K (.ref (lk.EA i)) (.ref (lk.EA j)) = some (decide (i ∈ (xs.map (·.2)).getD j [])) ∧ PySem.W.kitOne K (.ref (lk.EA i)) (.ref (lk.EA j)) = some (decide (i ∈ (xs.map (·.2)).getD j [])))
    (hgl : ∀ (i : Nat) x d, gnm[i]? = some x → gl i = some d → ∃ v u, mg x = some u ∧ RelV v u ∧ ∀ Z ρ n H, Rep K (lk.w Z) ρ n H d v) :
    ∀ (n i : Nat) (e : Ent) (f : Addr) (fd : FuncData), ents[i]? = some e → FunD K e.name e.qual (defArgs e.st) (defBody e.st) (defScope e.st) [] [] f fd → FnG P w K mg base (2 * n) f fd e.ps (spC K lk fun m ds G => PK.call T gl n m i ds G)
  | 0, i, e, f, fd, he, F => ⟨fun vs H Q E ⟨_, _, _, _, _, _, _, h⟩ => False.elim h, fun A outer s H args us vs Q E _ _ _ _ ⟨_, _, _, _, _, _, _, h⟩ => False.elim h⟩
  | n + 1, i, e, f, fd, he, F => by
    have ch := List.all_eq_true.mp hchk e (List.mem_of_getElem? he)
    unfold entB at ch
    simp only [Bool.and_eq_true, decide_eq_true_eq] at ch
    obtain ⟨⟨⟨⟨c1, c2⟩, c3⟩, c4⟩, c5⟩ := ch
    have kd : (defScope e.st).kind = .function := by
      unfold kindB at c2
      split at c2
      · assumption
      · cases c2
    obtain ⟨oc, od, dV, kV, doc, pm, an, cdv, ct, osl, rfl, lkf, hcd, _, _⟩ := F.ex
    have call1 : ∀ m ds G, PK.call T gl (n + 1) m i ds G = PK.run (PK.call T gl n) gl m e.fn ds G := fun m ds G => by
      show PK.optK (T i) _ _ = _
      rw [hT i e he]; rfl
    refine fn_G (k := 2 * n + 1) lkf hcd (C8.fnScope_by c1) (fun vs H Q E ⟨Z, m, ρ, G, ds, r, p, h⟩ => ?_) fun A outer s H vs Q E hr ⟨Z, m, ρ, G, ds, r, p, h⟩ => ?_
    · dsimp only at h
      rw [call1] at h
      rw [← p.length, (run_of (fun k m' f a G' h1 h2 => PK.k_call n m' f a G' h1 h2) r h).1]; exact c4.symm
    · dsimp only at h
      rw [call1] at h
      obtain ⟨hl, hS⟩ := run_of (fun k m' f a G' h1 h2 => PK.k_call n m' f a G' h1 h2) r h
      have Ft : Fits (e.sig ents gnm free cs xs) (cxOf (L2.CX P w) P w K mg base e.N e.qual (defScope e.st) f cdv A outer s H E) (lk.w Z) (PK.call T gl n) gl := {
        hN := rfl
        nd := (C8.fnScope_by c1).nd
        sc := rfl
        fn := rfl
        calm := rfl
        gd := hr.g
        un := hr.r.units
        hp := passes_of (K := fun e s'' => L2.CX P w outer H s E e s'') (E₁ := fun e' s'' => L2.CX P w outer H s E e' s'') rfl
        free := hfree
        fns := fun j x hx => by
          have hx : (ents.map fnmOf)[j]? = some (some x) := hx
          rw [List.getElem?_map] at hx
          cases q : ents[j]? with
          | none => rw [q] at hx; cases hx
          | some e' =>
            rw [q] at hx
            have hx : fnmOf e' = some x := Option.some.inj hx
            obtain ⟨f', fd', F', hm⟩ := hF e' (List.mem_of_getElem? q)
            unfold fnmOf at hx
            unfold EntAt at hm
            cases qc : e'.cn with
            | some _ => rw [qc] at hx; cases hx
            | none =>
              rw [qc] at hx hm
              cases hx
              exact ⟨f', fd', e'.ps, 2 * n, table_ok ents hT hchk hB hF hfree hcs hxs hxm hgl n j e' f' fd' q F', hr, hm, F'.kp, F'.bindsN (hB e' (List.mem_of_getElem? q))⟩
        mts := fun j c x hx hn => by
          have hx : (ents.map mthOf)[j]? = some (some (c, x)) := hx
          rw [List.getElem?_map] at hx
          cases q : ents[j]? with
          | none => rw [q] at hx; cases hx
          | some e' =>
            rw [q] at hx
            have hx : mthOf e' = some (c, x) := Option.some.inj hx
            obtain ⟨f', fd', F', hm⟩ := hF e' (List.mem_of_getElem? q)
            unfold mthOf at hx
            unfold EntAt at hm
            cases qc : e'.cn with
            | none => rw [qc] at hx; cases hx
            | some p =>
              obtain ⟨c', y⟩ := p
              rw [qc] at hx hm
              cases hx
              have hm : (if e'.name = initN then Mk K (lk.CA c) f' else Meth K (lk.CA c) e'.name f') := hm
              rw [if_neg hn] at hm
              exact ⟨f', fd', e'.ps, 2 * n, table_ok ents hT hchk hB hF hfree hcs hxs hxm hgl n j e' f' fd' q F', hr, hm, F'.bindsN (hB e' (List.mem_of_getElem? q))⟩
        mks := fun j c hx => by
          have hx : (ents.map mthOf)[j]? = some (some (c, initN)) := hx
          rw [List.getElem?_map] at hx
          cases q : ents[j]? with
          | none => rw [q] at hx; cases hx
          | some e' =>
            rw [q] at hx
            have hx : mthOf e' = some (c, initN) := Option.some.inj hx
            obtain ⟨f', fd', F', hm⟩ := hF e' (List.mem_of_getElem? q)
            unfold mthOf at hx
            unfold EntAt at hm
            cases qc : e'.cn with
            | none => rw [qc] at hx; cases hx
            | some p =>
              obtain ⟨c', y⟩ := p
              rw [qc] at hx hm
              have hx : some (c', e'.name) = some (c, initN) := hx
              have h1 : c' = c := by injection hx with hx; injection hx
              have h2 : e'.name = initN := by injection hx with hx; injection hx
              subst h1
              have hm : (if e'.name = initN then Mk K (lk.CA c') f' else Meth K (lk.CA c') e'.name f') := hm
              rw [if_pos h2] at hm
              exact ⟨f', fd', e'.ps, 2 * n, table_ok ents hT hchk hB hF hfree hcs hxs hxm hgl n j e' f' fd' q F', hr, hm, F'.bindsN (hB e' (List.mem_of_getElem? q))⟩
        cls := fun c fs hx => by
          have hx : (cs.map (·.2))[c]? = some fs := hx
          rw [List.getElem?_map] at hx
          cases q : cs[c]? with
          | none => rw [q] at hx; cases hx
          | some p =>
            rw [q] at hx
            cases hx
            exact (hcs c p.1 p.2 q).2
        clsOf := fun c x hx => by
          have hx : (cs.map (·.1))[c]? = some x := hx
          rw [List.getElem?_map] at hx
          cases q : cs[c]? with
          | none => rw [q] at hx; cases hx
          | some p =>
            rw [q] at hx
            cases hx
            exact (hcs c p.1 p.2 q).1
        exs := fun i x hx => by
          have hx : (xs.map (·.1))[i]? = some x := hx
          rw [List.getElem?_map] at hx
          cases q : xs[i]? with
          | none => rw [q] at hx; cases hx
          | some p =>
            rw [q] at hx
            cases hx
            exact hxs i p.1 p.2 q
        exm := fun i j hi hj => hxm i j (by rw [← List.length_map (f := (·.1))]; exact hi) (by rw [← List.length_map (f := (·.1))]; exact hj)
        kr := fun i k m' a G' h1 h2 => PK.k_call n m' i a G' h1 h2
        gls := hgl }
      have tk : Takes (cxOf (L2.CX P w) P w K mg base e.N e.qual (defScope e.st) f cdv A outer s H E) (fun cls d _ H => E cls d H) := takes_of (E₁ := fun e' s'' => L2.CX P w outer H s E e' s'') rfl rfl rfl rfl
      refine ⟨_, (chkB_ok (m := if e.fn.trn then G.length :: m else m) Ft ⟨rfl, rfl⟩ kd e.fn.body c5).ss, ρ, G, _, r, start_env p ?_, hS.imp fun c σ H' z => wx_of tk z⟩
      rw [← p.length, hl, c3]
end

theorem fz_of {K : PySem.W.Frag} {lk : Lk} {ρ : Nm} {n : Nat} {H : Hp} {a : Addr} {ns : List Int} (hO : Only H) (h : SqL K H a (ns.map V.int)) : Rep K lk ρ n H (.fz (ns.map .int)) (.ref a) := by
  refine ⟨a, _, rfl, ?_, of_ints ns⟩
  rcases h with (h | h) | h
  · rcases hO a with z | ⟨o, xs, z⟩
    · rw [z] at h; cases h
    · rw [z] at h; cases h
  · exact .inl h
  · exact .inr h
theorem law_call_G {P : Program} {w : World} {K : PySem.W.Frag} {mg mb : Str → Option Value} {k : Nat} {fa a : Addr} {fd : FuncData} {x : Str} {sp : Sp} {s₁ : Shared} {vs : List Value} {ns : List Int}
    (KX : K.In s₁.heap) (hns : s₁.heap.Ns mainGlobals mg) (hb : s₁.heap.Ns builtinsNs mb) (hbb : ∀ x : Str, x ≠ "__name__" → mb x = bootBuiltins x) (hlim : s₁.heap.NoLimit) (hg : s₁.gens = #[])
    (ha : s₁.heap.get? a = some { cls := .type "list", data := .seq vs.toArray }) (hi : IntsAre vs ns) (hl : ns.length ≤ sizeLine) (hr : Room k callerA)
    (F : ∀ base : Heap, K.In base → base.Ns mainGlobals mg → FnG P w K mg base k fa fd [x] sp) (hbind : ∀ (s : Shared) (u : Value), BindsTo s fd ⟨[u], []⟩ [(x, u)])
    (hsp : ∀ H : Hp, Only H → SqL K H a (ns.map V.int) → sp [.ref a] H (fun v _ => v = .bl true) fun _ _ _ => False) :
    codeAny (model P w) callerA (.call (.ref fa) ⟨[.ref a], []⟩) (fun r s' => r = .ok (.ret (.bool true)) ∧ OldK s₁.heap s'.heap ∧ s'.os = s₁.os ∧ AllBare s'.gens) s₁ := by
  have rv := vals_ints hi
  have no : ∀ {α : Sort _} {b : Addr}, b ∈ ([] : List Addr) → α := fun z => absurd z (by simp)
  have core : ∀ H : Hp, Only H → SqL K H a (ns.map V.int) → HOk P w H s₁.heap → (∀ b, H b ≠ none → b = a) → (H a ≠ none → K.lookup a = none) →
      codeAny (model P w) callerA (.call (.ref fa) ⟨[.ref a], []⟩) (fun r s' => r = .ok (.ret (.bool true)) ∧ OldK s₁.heap s'.heap ∧ s'.os = s₁.os ∧ AllBare s'.gens) s₁ := by
    intro H hO hS hok hA hK
    have free_dict : ∀ {b : Addr} {o : Obj} {es : Array DictEntry} {ep : Nat}, s₁.heap.get? b = some o → o.data = .dict es ep → H b = none := fun {b o es ep} e d => by
      cases q : H b with
      | none => rfl
      | some u =>
        obtain rfl : b = a := hA b (by rw [q]; simp)
        rw [ha] at e; cases e
        cases (show Data.seq vs.toArray _ = Data.dict es ep from d)
    have names : ∀ {b : Addr} {m : Str → Option Value}, s₁.heap.Ns b m → (hidT s₁.heap H).Ns b m := fun {b m} ⟨o, es, ep, e, d, r⟩ => ⟨o, es, ep, hidT_get e (free_dict e d), d, r⟩
    have hKb : K.In (hidT s₁.heap H) := fun b o e => hidT_get (KX b o e) (by
      cases q : H b with
      | none => rfl
      | some u =>
        obtain rfl : b = a := hA b (by rw [q]; simp)
        rw [hK (by rw [q]; simp)] at e; cases e)
    have hM : Mod K mg (hidT s₁.heap H) := ⟨hKb, names hns, ⟨mb, names hb, hbb⟩, let ⟨mc, h1, h2⟩ := hlim; ⟨mc, names h1, h2⟩⟩
    have e0 : Env0 P w K mg (hidT s₁.heap H) callerA [] s₁ H := ⟨rfl, hM, fun b o e => of_hidT e, Nat.le_of_eq (hidT_size _ _), trivial, fun b hb => no hb, hok, .of_eq hg⟩
    refine codeAny_mono ((F _ hKb (names hns)).run callerA [] s₁ H ⟨[.ref a], []⟩ [.ref a] [.ref a] _ _ ⟨hr, rfl⟩ e0 (hbind s₁ (.ref a)) (.cons rfl .nil) (hsp H hO hS)) fun r s' h => ?_
    cases r with
    | error e =>
      obtain ⟨_, _, _, _, _, _, _, _, _, _, _, _, z⟩ := h
      exact False.elim z
    | ok fl =>
      cases fl with
      | ret u =>
        obtain ⟨v, H', os, bare, un, hok', r', q⟩ := h
        obtain rfl : v = .bl true := q
        obtain rfl : u = Value.bool true := r'
        refine ⟨rfl, OldK.of_keep fun b o e => ?_, os, bare⟩
        cases q : H b with
        | none => exact un.keep b o e q (fun z => no z) (by simp)
        | some u =>
          rcases hO b with z | ⟨ob, xs, z⟩
          · rw [q] at z; cases z
          · have z2 := un.frzs b ob _ z
            have e1 := (hok b _ z).1
            have e2 := (hok' b _ z2).1
            rw [e] at e1; cases e1
            exact e2
      | _ => exact (show False from h).elim
  cases hk : K.lookup a with
  | some o =>
    have e := KX a o hk
    rw [ha] at e
    cases e
    exact core (fun _ => none) (fun _ => .inl rfl) (.inr ⟨_, vs.toArray, _, hk, rfl, rfl, rfl, by rw [List.size_toArray, hi.length]; exact hl, by simpa using rv⟩) (fun b u z => by cases (show (none : Option HO) = some u from z)) (fun b z => absurd rfl z) fun z => absurd rfl z
  | none =>
    refine core (fun b => if b = a then some (.frz { cls := .type "list", data := .seq vs.toArray } (.lst (ns.map V.int))) else none) (fun b => ?_) (.inl (.inr ⟨{ cls := .type "list", data := .seq vs.toArray }, if_pos rfl⟩)) (fun b u z => ?_) (fun b z => ?_) fun _ => hk
    all_goals by_cases hb : b = a
    · exact .inr ⟨_, _, if_pos hb⟩
    · exact .inl (if_neg hb)
    · cases (if_pos hb).symm.trans z
      subst hb
      exact ⟨ha, by rw [List.length_map]; exact hl, vs, _, rv, ha⟩
    · cases (if_neg hb).symm.trans z
    · exact hb
    · exact absurd (if_neg hb) z
theorem walk_G {l : PySem.W.OpenLaw} {n k : Nat} {q : Program} {loose : List Str} {XP : (Str → Option Value) → Heap → Prop} {YP : World → Heap → Prop} {d : DefRec} {x : Str}
    (hn : l.most = some n) (hn2 : n ≤ sizeLine) (hdf : d.params.defaults = []) (hr : Room k callerA)
    (F : ∀ (w : World) (mg : Str → Option Value) (fa : Addr) (h : Heap), YP w h → h.Ns mainGlobals mg → mg d.name = some (.ref fa) →
      ∃ (K : PySem.W.Frag) (fd : FuncData) (sp : Sp), K.In h ∧ (∀ (s : Shared) (u : Value), BindsTo s fd ⟨[u], []⟩ [(x, u)]) ∧
        (∀ (H : Hp) (a : Addr) (ns : List Int), ns.length ≤ n → (∀ z ∈ ns, Builtin.Int.intBits z ≤ 1048576) → Only H → SqL K H a (ns.map V.int) → sp [.ref a] H (fun v _ => v = .bl true) fun _ _ _ => False) ∧
        ∀ base : Heap, K.In base → base.Ns mainGlobals mg → FnG l.prog w K mg base k fa fd [x] sp) :
    PySem.W.WalkO q loose XP YP l.row.toRowW d [] (fun f vs => PySem.call f vs) := by
  refine Att.attach_callB hn hdf fun w s₀ s₁ mg mb fa o pm cd doc a vs ns G Y ho hd hcd hmg hobj hints hlen hbits hg => ?_
  obtain ⟨K, fd, sp, KX, hb, hsp, hF⟩ := F w mg fa _ Y G.T.g hmg
  exact law_call_G KX G.T.g G.T.b G.T.builtins G.T.nolimit hg hobj hints (Nat.le_trans hlen hn2) hr hF hb fun H hO hS => hsp H a ns hlen hbits hO hS
end PKS
namespace PKS
open PySem PySem.Spec PyProof.Rows L2
def conB : Str × PK.D → Bool
  | (_, .int _) => true
  | (_, .str _) => true
  | (_, .tup ds) => (dvs ds).isSome && (PK.keysD ds).isNone
  | _ => false
theorem excB_ok {K : PySem.W.Frag} {x : Str} (h : excB K x = true) : ExcC K (He.ga K x) := by
  obtain ⟨h1, h⟩ := He.ba h
  obtain ⟨h2, h⟩ := He.ba h
  obtain ⟨h3, h⟩ := He.ba h
  obtain ⟨h4, h⟩ := He.ba h
  obtain ⟨h5, h⟩ := He.ba h
  obtain ⟨h6, h⟩ := He.ba h
  obtain ⟨h7, h8⟩ := He.ba h
  exact ⟨He.eqO_ok h1, He.eqO_ok h2, of_decide_eq_true h3, h4, He.eqO_ok h5, He.eqO_ok h6, of_decide_eq_true h7, of_decide_eq_true h8⟩

theorem obsP_eq {n : Nat} {fa : List He.Fa} {fn : List He.DefD} {ex : PySem.W.Frag → Bool} {g : Addr → Option Obj} {s : Shared} (h : ∀ a, g a = s.heap.get? a) : obsP n fa fn ex g = (hookP n fa fn ex).obs s := by
  have e : g = s.heap.get? := funext h
  rw [e] <;> rfl
theorem reps_dv {K : PySem.W.Frag} {K2 : PySem.W.Frag} {lk : Lk} {ρ : Nm} {n : Nat} {H : Hp} : ∀ {ds : List PK.D} {vs : List He.Dv}, dvs ds = some vs → Reps K lk ρ n H ds (vs.map (He.Dv.v K2))
  | [], vs, h => by cases h; rfl
  | d :: ds, vs, h => by
    unfold dvs at h
    cases e1 : dvO d with
    | none => rw [e1] at h; cases h
    | some x =>
      rw [e1] at h
      cases e2 : dvs ds with
      | none => rw [e2] at h; cases h
      | some xs =>
        rw [e2] at h
        cases h
        refine ⟨x.v K2, xs.map (He.Dv.v K2), rfl, ?_, reps_dv e2⟩
        cases d <;> cases e1 <;> rfl
def entC (cs : Clss) (e : Ent) : Bool := match e.cn with
  | none => true
  | some (c, x) => decide ((cs.map (·.1))[c]? = some x)
def csB (cs : Clss) : Bool := cs.all fun p => decide p.2.Nodup && decide (p.2.length < 1000)
def lkOf (K : PySem.W.Frag) (cs : Clss) (xs : Exs) : Lk := ⟨fun c => He.ga K ((cs.map (·.1)).getD c Str.empty), fun c => (cs.map (·.2)).getD c [], fun i => He.ga K ((xs.map (·.1)).getD i Str.empty), fun _ => False⟩
theorem lk_ca {K : PySem.W.Frag} {cs : Clss} {xs : Exs} {c : Nat} {x : Str} (h : (cs.map (·.1))[c]? = some x) : (lkOf K cs xs).CA c = He.ga K x := by
  show He.ga K ((cs.map (·.1)).getD c Str.empty) = _
  rw [List.getD_eq_getElem?_getD, h]; rfl
section
variable {ents : List Ent} {free : List Str} {cons : List (Str × PK.D)} {cs : Clss} {xs : Exs} {K : PySem.W.Frag} {h : Heap} {mg : Str → Option Value}
theorem fact_of (c : He.SaysD (faOf ents free cons cs xs) (ents.map Ent.dd) K) {f : He.Fa} (hf : f ∈ faOf ents free cons cs xs) : f.ok K = true := by
  obtain ⟨i, hi⟩ := List.getElem?_of_mem hf
  exact c.fact i hi
theorem ent_of (X : K.In h) (G : h.Ns mainGlobals mg) (c : He.SaysD (faOf ents free cons cs xs) (ents.map Ent.dd) K) (hent : ents.all (entC cs) = true) : ∀ e ∈ ents, ∃ f fd, FunD K e.name e.qual (defArgs e.st) (defBody e.st) (defScope e.st) [] [] f fd ∧ EntAt K mg (lkOf K cs xs) e f := fun e he => by
  obtain ⟨i, hi⟩ := List.getElem?_of_mem he
  obtain ⟨fd, F⟩ := c.def_ i (d := e.dd) (by rw [List.getElem?_map, hi]; rfl)
  have fa := fact_of c (List.mem_append_left _ (List.mem_map.mpr ⟨e, he, rfl⟩))
  have hc := List.all_eq_true.mp hent e he
  refine ⟨_, fd, F, ?_⟩
  show EntAt K mg (lkOf K cs xs) e (He.fAd K e.at_)
  unfold EntAt Ent.at_
  unfold entF at fa
  unfold entC at hc
  cases q : e.cn with
  | none =>
    rw [q] at fa
    exact He.glo_ok X G fa
  | some p =>
    obtain ⟨c, x⟩ := p
    rw [q] at fa hc
    have hc : (cs.map (·.1))[c]? = some x := of_decide_eq_true hc
    have fa : (if e.name = initN then He.Fa.mkr x else He.Fa.meth x e.name).ok K = true := fa
    show if e.name = initN then Mk K ((lkOf K cs xs).CA c) (He.ma K (He.ga K x) e.name) else Meth K ((lkOf K cs xs).CA c) e.name (He.ma K (He.ga K x) e.name)
    rw [lk_ca hc]
    by_cases z : e.name = initN
    · rw [if_pos z] at fa ⊢
      rw [z]
      exact He.mkr_ok fa
    · rw [if_neg z] at fa ⊢
      exact He.meth_ok fa
theorem free_of (X : K.In h) (G : h.Ns mainGlobals mg) (c : He.SaysD (faOf ents free cons cs xs) (ents.map Ent.dd) K) : ∀ x ∈ free, mg x = none := fun x hx =>
  He.free_ok X G (fact_of c (List.mem_append_right _ (List.mem_append_left _ (List.mem_map.mpr ⟨x, hx, rfl⟩))))
theorem cls_of (X : K.In h) (G : h.Ns mainGlobals mg) (c : He.SaysD (faOf ents free cons cs xs) (ents.map Ent.dd) K) (hcs : csB cs = true) :
    ∀ (i : Nat) x fs, cs[i]? = some (x, fs) → mg x = some (.ref ((lkOf K cs xs).CA i)) ∧ (lkOf K cs xs).FN i = fs ∧ ClsOk K ((lkOf K cs xs).CA i) fs := fun i x fs hi => by
  have hm := List.mem_of_getElem? hi
  have e1 : (cs.map (·.1))[i]? = some x := by rw [List.getElem?_map, hi]; rfl
  have fa : ∀ f ∈ clsF (x, fs), f.ok K = true := fun f hf => fact_of c (List.mem_append_right _ (List.mem_append_right _ (List.mem_append_right _ (List.mem_append_left _ (List.mem_flatMap.mpr ⟨_, hm, hf⟩)))))
  have b := List.all_eq_true.mp hcs _ hm
  obtain ⟨b1, b2⟩ := Bool.and_eq_true_iff.mp b
  rw [lk_ca e1]
  refine ⟨He.glo_ok X G (fa (.glo x) List.mem_cons_self), ?_, He.cls_ok (fa (.cls x) (List.mem_cons_of_mem _ List.mem_cons_self)), of_decide_eq_true b1, fun f hf => He.noat_ok (fa (.noat x f) (List.mem_cons_of_mem _ (List.mem_cons_of_mem _ (List.mem_map.mpr ⟨f, hf, rfl⟩)))), of_decide_eq_true b2⟩
  show (cs.map (·.2)).getD i [] = fs
  rw [List.getD_eq_getElem?_getD, List.getElem?_map, hi]; rfl
theorem con_of {lk : Lk} (X : K.In h) (G : h.Ns mainGlobals mg) (c : He.SaysD (faOf ents free cons cs xs) (ents.map Ent.dd) K) (hx : exF cons xs K = true) (hc : cons.all conB = true) :
    ∀ (i : Nat) x d, (cons.map (·.1))[i]? = some x → glOf cons i = some d → ∃ v u, mg x = some u ∧ RelV v u ∧ ∀ Z ρ n H, Rep K (lk.w Z) ρ n H d v := fun i x d h1 h2 => by
  unfold glOf at h2
  rw [List.getElem?_map] at h1
  cases q : cons[i]? with
  | none => rw [q] at h1; cases h1
  | some p =>
    rw [q] at h1 h2
    cases h1
    cases h2
    have m := List.mem_of_getElem? q
    have b := List.all_eq_true.mp hc p m
    have f := fact_of c (List.mem_append_right _ (List.mem_append_right _ (List.mem_append_left _ (List.mem_map.mpr ⟨p, m, rfl⟩))))
    have xt := List.all_eq_true.mp (He.ba hx).1 p m
    obtain ⟨y, d⟩ := p
    cases d with
    | int j => obtain ⟨t, e⟩ := He.int_ok X G f; exact ⟨.int j, _, e, ⟨t, rfl⟩, fun _ _ _ _ => rfl⟩
    | str s => obtain ⟨t, e⟩ := He.str_ok X G f; exact ⟨.str s, _, e, ⟨t, rfl⟩, fun _ _ _ _ => rfl⟩
    | tup ds =>
      have e := He.glo_ok X G f
      obtain ⟨b1, b2⟩ := He.ba b
      refine ⟨.ref (He.ga K y), _, e, rfl, fun Z ρ n H => ?_⟩
      have xt : (match dvs ds with | some vs => He.tupB K y vs | none => false) = true := xt
      cases q2 : dvs ds with
      | none => rw [q2] at b1; cases b1
      | some vs =>
        rw [q2] at xt
        exact ⟨_, _, rfl, .inr ⟨He.tupB_ok xt H, Option.isNone_iff_eq_none.mp b2⟩, reps_dv q2⟩
    | _ => cases b
theorem xs_of (X : K.In h) (G : h.Ns mainGlobals mg) (c : He.SaysD (faOf ents free cons cs xs) (ents.map Ent.dd) K) (hx : exF cons xs K = true) :
    ∀ (i : Nat) x ss, xs[i]? = some (x, ss) → mg x = some (.ref ((lkOf K cs xs).EA i)) ∧ ExcK K ((lkOf K cs xs).EA i) ∧ ExcC K ((lkOf K cs xs).EA i) := fun i x ss hi => by
  have hm := List.mem_of_getElem? hi
  have ea : (lkOf K cs xs).EA i = He.ga K x := by
    show He.ga K ((xs.map (·.1)).getD i Str.empty) = _
    rw [List.getD_eq_getElem?_getD, List.getElem?_map, hi]; rfl
  have fa : ∀ f ∈ errF (x, ss), f.ok K = true := fun f hf => fact_of c (List.mem_append_right _ (List.mem_append_right _ (List.mem_append_right _ (List.mem_append_right _ (List.mem_flatMap.mpr ⟨_, hm, hf⟩)))))
  obtain ⟨e1, e2, e3, e4⟩ := He.exc_ok (fa (.exc x) (List.mem_cons_of_mem _ List.mem_cons_self))
  rw [ea]
  exact ⟨He.glo_ok X G (fa (.glo x) List.mem_cons_self), ⟨e1, e2, e3, e4⟩, excB_ok (List.all_eq_true.mp (He.ba (He.ba hx).2).1 _ hm)⟩
theorem xm_of (hx : exF cons xs K = true) : ∀ i j : Nat, i < xs.length → j < xs.length → PySem.W.exmOne K (.ref ((lkOf K cs xs).EA i)) (.ref ((lkOf K cs xs).EA j)) = some (decide (i ∈ (xs.map (·.2)).getD j [])) ∧ PySem.W.kitOne K (.ref ((lkOf K cs xs).EA i)) (.ref ((lkOf K cs xs).EA j)) = some (decide (i ∈ (xs.map (·.2)).getD j [])) := fun i j hi hj => by
  have z := List.all_eq_true.mp (List.all_eq_true.mp (He.ba (He.ba hx).2).2 i (List.mem_range.mpr hi)) j (List.mem_range.mpr hj)
  obtain ⟨z1, z2⟩ := He.ba z
  exact ⟨of_decide_eq_true z1, of_decide_eq_true z2⟩
theorem law_of {l : PySem.W.OpenLaw} {w : World} {N j n : Nat} {e : Ent} {sx : Str} {T : Nat → Option PK.Fn} (hT : ∀ i e, ents[i]? = some e → T i = some e.fn) (hchk : ents.all (entB ents (cons.map (·.1)) free cs xs) = true) (hent : ents.all (entC cs) = true) (hcs : csB cs = true) (hB : ∀ e ∈ ents, BindP e) (hc : cons.all conB = true)
    (he : ents[j]? = some e) (hcn : e.cn = none) (hps : e.ps = [sx]) (X : K.In h) (G : h.Ns mainGlobals mg) (c : He.SaysD (faOf ents free cons cs xs) (ents.map Ent.dd) K) (hx : exF cons xs K = true) {fa : Addr} (hm : mg e.name = some (.ref fa))
    (plain : ∀ ns : List Int, ns.length ≤ n → (∀ z ∈ ns, Builtin.Int.intBits z ≤ 1048576) → ∃ G', PK.call T (glOf cons) N [] j [.fz (ns.map .int)] [] = .ok (.bl true) G') :
    ∃ (K : PySem.W.Frag) (fd : FuncData) (sp : Sp), K.In h ∧ (∀ (s : Shared) (u : Value), BindsTo s fd ⟨[u], []⟩ [(sx, u)]) ∧
        (∀ (H : Hp) (a : Addr) (ns : List Int), ns.length ≤ n → (∀ z ∈ ns, Builtin.Int.intBits z ≤ 1048576) → Only H → SqL K H a (ns.map V.int) → sp [.ref a] H (fun v _ => v = .bl true) fun _ _ _ => False) ∧
        ∀ base : Heap, K.In base → base.Ns mainGlobals mg → FnG l.prog w K mg base (2 * N) fa fd [sx] sp := by
  obtain ⟨f, fd, F, hf⟩ := ent_of X G c hent e (List.mem_of_getElem? he)
  unfold EntAt at hf
  rw [hcn] at hf
  have hf : mg e.name = some (.ref f) := hf
  rw [hm] at hf
  cases hf
  refine ⟨K, fd, spC K (lkOf K cs xs) fun m ds G => PK.call T (glOf cons) N m j ds G, X, fun s u => ?_, fun H a ns hl hb hO hS => ?_, fun base hK hG => ?_⟩
  · have b := FunD.bindsA F (hB e (List.mem_of_getElem? he)) s [u] (by rw [hps]; rfl)
    rw [hps] at b; exact b
  · obtain ⟨G', p⟩ := plain ns hl hb
    refine ⟨fun _ => False, [], fun _ => 0, [], [.fz (ns.map .int)], ⟨fun i c q => by simp at q, fun i j hi => absurd hi (by simp), fun a z => z.elim, fun i hi => absurd hi (by simp)⟩, ⟨_, _, rfl, fz_of hO hS, rfl⟩, ?_⟩
    dsimp only
    rw [p]
    exact fun ρ' H' x e r p => p
  · rw [← hps]
    exact table_ok ents hT hchk hB (ent_of hK hG c hent) (free_of hK hG c) (cls_of hK hG c hcs) (xs_of hK hG c hx) (xm_of hx) (con_of hK hG c hx hc) N j e fa fd he F
end
end PKS
namespace Tk64
open PK
def tab : Nat → Option Fn
  | 0 => some f_wall
  | 1 => some f_Locks___init
  | 2 => some f_Locks_is_shut
  | 3 => some f_Locks_shut
  | 4 => some f_Locks_open_bar
  | 5 => some f_Locks_shut_bars
  | 6 => some f_Locks_held_by
  | 7 => some f_Locks_bar_in
  | 8 => some f_Locks_broken
  | 9 => some f_Locks_written
  | 10 => some f_Locks_copied
  | 11 => some f_number_in
  | 12 => some f_bar_in_word
  | 13 => some f_read_locks
  | 14 => some f_is_whole
  | 15 => some f_is_wide
  | 16 => some f_is_list
  | 17 => some f_is_part
  | 18 => some f_are_parts
  | 19 => some f_are_sizes
  | 20 => some f_is_row
  | 21 => some f_are_rows
  | 22 => some f_ahead_of
  | 23 => some f_Ladder___init
  | 24 => some f_Ladder_begin
  | 25 => some f_Ladder_parts
  | 26 => some f_Ladder_rows
  | 27 => some f_Ladder_rolls
  | 28 => some f_Ladder_want_roll
  | 29 => some f_Ladder_want_any_roll
  | 30 => some f_Ladder_open_at
  | 31 => some f_Ladder_lowest
  | 32 => some f_Ladder_raised
  | 33 => some f_Ladder_lowered
  | 34 => some f_Ladder_first_moment
  | 35 => some f_Ladder_bar_at
  | 36 => some f_Ladder_stretch
  | 37 => some f_Ladder_lesser
  | 38 => some f_Ladder_greater
  | 39 => some f_Ladder_is_open
  | 40 => some f_want_number
  | 41 => some f_law_pot
  | 42 => some f_law_digit
  | 43 => some f_law_ladder
  | 44 => some f_law_bars
  | 45 => some f_law_text
  | 46 => some f_law_sign_spoilt
  | 47 => some f_law_spoilt
  | 48 => some f_law_number
  | 49 => some f_law_read
  | 50 => some f_law_told
  | 51 => some f_law_agrees
  | 52 => some f_law
  | _ => none

open PySem PKS
def pw : Program := PySem.Challenge.pw_peakroll_k64_locks_text
theorem ob_eq (s : PySem.W.SharedT) : ob s = hk.obs s.abs := obsP_eq (HandSHeadRun.getT_eq s)
theorem b_wall : BindP e_wall := fun _ _ _ _ _ _ us hl => match us, hl with | [_], _ => rfl
theorem b_Locks___init : BindP e_Locks___init := fun _ _ _ _ _ _ us hl => match us, hl with | [_, _], _ => rfl
theorem b_Locks_is_shut : BindP e_Locks_is_shut := fun _ _ _ _ _ _ us hl => match us, hl with | [_, _, _], _ => rfl
theorem b_Locks_shut : BindP e_Locks_shut := fun _ _ _ _ _ _ us hl => match us, hl with | [_, _, _], _ => rfl
theorem b_Locks_open_bar : BindP e_Locks_open_bar := fun _ _ _ _ _ _ us hl => match us, hl with | [_, _, _], _ => rfl
theorem b_Locks_shut_bars : BindP e_Locks_shut_bars := fun _ _ _ _ _ _ us hl => match us, hl with | [_], _ => rfl
theorem b_Locks_held_by : BindP e_Locks_held_by := fun _ _ _ _ _ _ us hl => match us, hl with | [_, _], _ => rfl
theorem b_Locks_bar_in : BindP e_Locks_bar_in := fun _ _ _ _ _ _ us hl => match us, hl with | [_, _, _, _], _ => rfl
theorem b_Locks_broken : BindP e_Locks_broken := fun _ _ _ _ _ _ us hl => match us, hl with | [_, _, _], _ => rfl
theorem b_Locks_written : BindP e_Locks_written := fun _ _ _ _ _ _ us hl => match us, hl with | [_], _ => rfl
theorem b_Locks_copied : BindP e_Locks_copied := fun _ _ _ _ _ _ us hl => match us, hl with | [_], _ => rfl
theorem b_number_in : BindP e_number_in := fun _ _ _ _ _ _ us hl => match us, hl with | [_], _ => rfl
theorem b_bar_in_word : BindP e_bar_in_word := fun _ _ _ _ _ _ us hl => match us, hl with | [_, _], _ => rfl
theorem b_read_locks : BindP e_read_locks := fun _ _ _ _ _ _ us hl => match us, hl with | [_, _], _ => rfl
theorem b_is_whole : BindP e_is_whole := fun _ _ _ _ _ _ us hl => match us, hl with | [_], _ => rfl
theorem b_is_wide : BindP e_is_wide := fun _ _ _ _ _ _ us hl => match us, hl with | [_], _ => rfl
theorem b_is_list : BindP e_is_list := fun _ _ _ _ _ _ us hl => match us, hl with | [_], _ => rfl
theorem b_is_part : BindP e_is_part := fun _ _ _ _ _ _ us hl => match us, hl with | [_], _ => rfl
theorem b_are_parts : BindP e_are_parts := fun _ _ _ _ _ _ us hl => match us, hl with | [_], _ => rfl
theorem b_are_sizes : BindP e_are_sizes := fun _ _ _ _ _ _ us hl => match us, hl with | [_], _ => rfl
theorem b_is_row : BindP e_is_row := fun _ _ _ _ _ _ us hl => match us, hl with | [_], _ => rfl
theorem b_are_rows : BindP e_are_rows := fun _ _ _ _ _ _ us hl => match us, hl with | [_], _ => rfl
theorem b_ahead_of : BindP e_ahead_of := fun _ _ _ _ _ _ us hl => match us, hl with | [_, _], _ => rfl
theorem b_Ladder___init : BindP e_Ladder___init := fun _ _ _ _ _ _ us hl => match us, hl with | [_, _, _, _], _ => rfl
theorem b_Ladder_begin : BindP e_Ladder_begin := fun _ _ _ _ _ _ us hl => match us, hl with | [_], _ => rfl
theorem b_Ladder_parts : BindP e_Ladder_parts := fun _ _ _ _ _ _ us hl => match us, hl with | [_], _ => rfl
theorem b_Ladder_rows : BindP e_Ladder_rows := fun _ _ _ _ _ _ us hl => match us, hl with | [_], _ => rfl
theorem b_Ladder_rolls : BindP e_Ladder_rolls := fun _ _ _ _ _ _ us hl => match us, hl with | [_], _ => rfl
theorem b_Ladder_want_roll : BindP e_Ladder_want_roll := fun _ _ _ _ _ _ us hl => match us, hl with | [_, _, _, _], _ => rfl
theorem b_Ladder_want_any_roll : BindP e_Ladder_want_any_roll := fun _ _ _ _ _ _ us hl => match us, hl with | [_, _], _ => rfl
theorem b_Ladder_open_at : BindP e_Ladder_open_at := fun _ _ _ _ _ _ us hl => match us, hl with | [_, _], _ => rfl
theorem b_Ladder_lowest : BindP e_Ladder_lowest := fun _ _ _ _ _ _ us hl => match us, hl with | [_, _], _ => rfl
theorem b_Ladder_raised : BindP e_Ladder_raised := fun _ _ _ _ _ _ us hl => match us, hl with | [_, _, _], _ => rfl
theorem b_Ladder_lowered : BindP e_Ladder_lowered := fun _ _ _ _ _ _ us hl => match us, hl with | [_, _, _], _ => rfl
theorem b_Ladder_first_moment : BindP e_Ladder_first_moment := fun _ _ _ _ _ _ us hl => match us, hl with | [_, _, _], _ => rfl
theorem b_Ladder_bar_at : BindP e_Ladder_bar_at := fun _ _ _ _ _ _ us hl => match us, hl with | [_, _, _], _ => rfl
theorem b_Ladder_stretch : BindP e_Ladder_stretch := fun _ _ _ _ _ _ us hl => match us, hl with | [_, _, _], _ => rfl
theorem b_Ladder_lesser : BindP e_Ladder_lesser := fun _ _ _ _ _ _ us hl => match us, hl with | [_, _, _], _ => rfl
theorem b_Ladder_greater : BindP e_Ladder_greater := fun _ _ _ _ _ _ us hl => match us, hl with | [_, _, _], _ => rfl
theorem b_Ladder_is_open : BindP e_Ladder_is_open := fun _ _ _ _ _ _ us hl => match us, hl with | [_, _], _ => rfl
theorem b_want_number : BindP e_want_number := fun _ _ _ _ _ _ us hl => match us, hl with | [_], _ => rfl
theorem b_law_pot : BindP e_law_pot := fun _ _ _ _ _ _ us hl => match us, hl with | [_, _], _ => rfl
theorem b_law_digit : BindP e_law_digit := fun _ _ _ _ _ _ us hl => match us, hl with | [_, _], _ => rfl
theorem b_law_ladder : BindP e_law_ladder := fun _ _ _ _ _ _ us hl => match us, hl with | [_], _ => rfl
theorem b_law_bars : BindP e_law_bars := fun _ _ _ _ _ _ us hl => match us, hl with | [_, _], _ => rfl
theorem b_law_text : BindP e_law_text := fun _ _ _ _ _ _ us hl => match us, hl with | [_], _ => rfl
theorem b_law_sign_spoilt : BindP e_law_sign_spoilt := fun _ _ _ _ _ _ us hl => match us, hl with | [_, _], _ => rfl
theorem b_law_spoilt : BindP e_law_spoilt := fun _ _ _ _ _ _ us hl => match us, hl with | [_, _, _], _ => rfl
theorem b_law_number : BindP e_law_number := fun _ _ _ _ _ _ us hl => match us, hl with | [_], _ => rfl
theorem b_law_read : BindP e_law_read := fun _ _ _ _ _ _ us hl => match us, hl with | [_, _], _ => rfl
theorem b_law_told : BindP e_law_told := fun _ _ _ _ _ _ us hl => match us, hl with | [_, _], _ => rfl
theorem b_law_agrees : BindP e_law_agrees := fun _ _ _ _ _ _ us hl => match us, hl with | [_, _], _ => rfl
theorem b_law : BindP e_law := fun _ _ _ _ _ _ us hl => match us, hl with | [_], _ => rfl
theorem hB : ∀ e ∈ ents, BindP e := fun e h => by
  simp only [ents, ents0, ents1, List.mem_append, List.mem_cons, List.not_mem_nil, or_false, List.cons_append, List.nil_append] at h
  rcases h with rfl | rfl | rfl | rfl | rfl | rfl | rfl | rfl | rfl | rfl | rfl | rfl | rfl | rfl | rfl | rfl | rfl | rfl | rfl | rfl | rfl | rfl | rfl | rfl | rfl | rfl | rfl | rfl | rfl | rfl | rfl | rfl | rfl | rfl | rfl | rfl | rfl | rfl | rfl | rfl | rfl | rfl | rfl | rfl | rfl | rfl | rfl | rfl | rfl | rfl | rfl | rfl | rfl
  · exact b_wall
  · exact b_Locks___init
  · exact b_Locks_is_shut
  · exact b_Locks_shut
  · exact b_Locks_open_bar
  · exact b_Locks_shut_bars
  · exact b_Locks_held_by
  · exact b_Locks_bar_in
  · exact b_Locks_broken
  · exact b_Locks_written
  · exact b_Locks_copied
  · exact b_number_in
  · exact b_bar_in_word
  · exact b_read_locks
  · exact b_is_whole
  · exact b_is_wide
  · exact b_is_list
  · exact b_is_part
  · exact b_are_parts
  · exact b_are_sizes
  · exact b_is_row
  · exact b_are_rows
  · exact b_ahead_of
  · exact b_Ladder___init
  · exact b_Ladder_begin
  · exact b_Ladder_parts
  · exact b_Ladder_rows
  · exact b_Ladder_rolls
  · exact b_Ladder_want_roll
  · exact b_Ladder_want_any_roll
  · exact b_Ladder_open_at
  · exact b_Ladder_lowest
  · exact b_Ladder_raised
  · exact b_Ladder_lowered
  · exact b_Ladder_first_moment
  · exact b_Ladder_bar_at
  · exact b_Ladder_stretch
  · exact b_Ladder_lesser
  · exact b_Ladder_greater
  · exact b_Ladder_is_open
  · exact b_want_number
  · exact b_law_pot
  · exact b_law_digit
  · exact b_law_ladder
  · exact b_law_bars
  · exact b_law_text
  · exact b_law_sign_spoilt
  · exact b_law_spoilt
  · exact b_law_number
  · exact b_law_read
  · exact b_law_told
  · exact b_law_agrees
  · exact b_law
theorem hT : ∀ i e, ents[i]? = some e → tab i = some e.fn := fun i e h => by
  match i, h with
  | 0, h => cases h; rfl
  | 1, h => cases h; rfl
  | 2, h => cases h; rfl
  | 3, h => cases h; rfl
  | 4, h => cases h; rfl
  | 5, h => cases h; rfl
  | 6, h => cases h; rfl
  | 7, h => cases h; rfl
  | 8, h => cases h; rfl
  | 9, h => cases h; rfl
  | 10, h => cases h; rfl
  | 11, h => cases h; rfl
  | 12, h => cases h; rfl
  | 13, h => cases h; rfl
  | 14, h => cases h; rfl
  | 15, h => cases h; rfl
  | 16, h => cases h; rfl
  | 17, h => cases h; rfl
  | 18, h => cases h; rfl
  | 19, h => cases h; rfl
  | 20, h => cases h; rfl
  | 21, h => cases h; rfl
  | 22, h => cases h; rfl
  | 23, h => cases h; rfl
  | 24, h => cases h; rfl
  | 25, h => cases h; rfl
  | 26, h => cases h; rfl
  | 27, h => cases h; rfl
  | 28, h => cases h; rfl
  | 29, h => cases h; rfl
  | 30, h => cases h; rfl
  | 31, h => cases h; rfl
  | 32, h => cases h; rfl
  | 33, h => cases h; rfl
  | 34, h => cases h; rfl
  | 35, h => cases h; rfl
  | 36, h => cases h; rfl
  | 37, h => cases h; rfl
  | 38, h => cases h; rfl
  | 39, h => cases h; rfl
  | 40, h => cases h; rfl
  | 41, h => cases h; rfl
  | 42, h => cases h; rfl
  | 43, h => cases h; rfl
  | 44, h => cases h; rfl
  | 45, h => cases h; rfl
  | 46, h => cases h; rfl
  | 47, h => cases h; rfl
  | 48, h => cases h; rfl
  | 49, h => cases h; rfl
  | 50, h => cases h; rfl
  | 51, h => cases h; rfl
  | 52, h => cases h; rfl
  | n + 53, h => exact absurd h (by simp [ents, ents0, ents1])
theorem look : ents.all (entB ents (cons.map (·.1)) free clss exs) = true := by decide +kernel
theorem holds (plain : ∀ ns : List Int, ns.length ≤ 63 → (∀ z ∈ ns, Builtin.Int.intBits z ≤ 1048576) → ∃ G', PK.call tab gl 20 [] 52 [.fz (ns.map .int)] [] = .ok (.bl true) G') : PySem.Challenge.rw_peakroll_k64_locks_text.Holds := by
  w_on; o_law
  refine HandSHeadRun.head_any (r := PySem.W.OpenLaw.row PySem.Challenge.rw_peakroll_k64_locks_text) (q := PySem.W.view (PySem.W.OpenLaw.row PySem.Challenge.rw_peakroll_k64_locks_text).prog [45]) (H := hk) (ob := ob) (M := 12000) (loose := loose) (d := HandSHeadRun.topDef (PySem.W.OpenLaw.row PySem.Challenge.rw_peakroll_k64_locks_text).prog 45) (kwd := []) ob_eq
    (by kernel_rfl) (fun s => by kernel_rfl) run (by kernel_rfl) (by kernel_rfl) (by kernel_rfl) (by rfl) (by first | assumption | decide +kernel) (by decide +kernel) ⟨rfl, rfl, rfl, rfl, rfl, by decide +kernel⟩ ?hw ?hc
  case hw => w_witness2
  case hc =>
    refine walk_G (l := PySem.Challenge.rw_peakroll_k64_locks_text) (n := 63) (k := 2 * 20) (x := (PySem.Str.ofString "_law_script")) rfl (by decide) (by kernel_rfl) ⟨rfl, by decide, by decide⟩ ?F
    intro w mg fa h Y G hmg0
    obtain ⟨K, KX, c, hx⟩ := Y
    have hmg : mg (PySem.Str.ofString "law") = some (.ref fa) := by
      have e : (HandSHeadRun.topDef (PySem.W.OpenLaw.row PySem.Challenge.rw_peakroll_k64_locks_text).prog 45).name = PySem.Str.ofString "law" := by kernel_rfl
      rw [← e]; exact hmg0
    exact law_of (e := e_law) (j := 52) (sx := PySem.Str.ofString "_law_script") hT look (by decide +kernel) (by decide +kernel) hB (by decide +kernel) rfl rfl rfl KX G c hx hmg plain
end Tk64
namespace PK
open PySem
section
variable {α β : Type}
@[simp] theorem zb_ok {v G f t} : (R.ok v G).bind f t = f v G := rfl
@[simp] theorem zb_exc {c G f t} : (R.exc c G).bind f t = .exc c G := rfl
@[simp] theorem zb_bad {f t} : R.bad.bind f t = .bad := rfl
@[simp] theorem zs_ok {s v G f t} : R.st s (R.ok v G) f t = f v G := rfl
@[simp] theorem zs_exc {s c G f t} : R.st s (R.exc c G) f t = .exc c s G := rfl
@[simp] theorem zs_bad {s f t} : R.st s R.bad f t = .bad := rfl
@[simp] theorem zt_nx {s G f t} : (O.nx s G).then f t = f s G := rfl
@[simp] theorem zt_ret {v G f t} : (O.ret v G).then f t = .ret v G := rfl
@[simp] theorem zt_brk {s G f t} : (O.brk s G).then f t = .brk s G := rfl
@[simp] theorem zt_cnt {s G f t} : (O.cnt s G).then f t = .cnt s G := rfl
@[simp] theorem zt_exc {c s G f t} : (O.exc c s G).then f t = .exc c s G := rfl
@[simp] theorem zt_bad {f t} : O.bad.then f t = .bad := rfl
@[simp] theorem zh_nx {s G} : (O.nx s G).thru = .nx s G := rfl
@[simp] theorem zh_ret {v G} : (O.ret v G).thru = .ret v G := rfl
@[simp] theorem zu_nx {s G f t} : (O.nx s G).turn f t = f s G := rfl
@[simp] theorem zu_cnt {s G f t} : (O.cnt s G).turn f t = f s G := rfl
@[simp] theorem zu_brk {s G f t} : (O.brk s G).turn f t = .nx s G := rfl
@[simp] theorem zu_ret {v G f t} : (O.ret v G).turn f t = .ret v G := rfl
@[simp] theorem zu_exc {c s G f t} : (O.exc c s G).turn f t = .exc c s G := rfl
@[simp] theorem zu_bad {f t} : O.bad.turn f t = .bad := rfl
@[simp] theorem zi_true {a b : Unit → α} {t u} : iteK true a b t u = a () := rfl
@[simp] theorem zi_false {a b : Unit → α} {t u} : iteK false a b t u = b () := rfl
@[simp] theorem zo_some {x : β} {f : β → α} {d t} : optK (some x) f d t = f x := rfl
@[simp] theorem zo_none {f : β → α} {d t} : optK none f d t = d := rfl
@[simp] theorem zp_tup {ds} {f : List D → α} {d t} : tupK (.tup ds) f d t = f ds := rfl
@[simp] theorem zl_bl {b} {f : Bool → α} {d t} : blK (.bl b) f d t = f b := rfl
@[simp] theorem zk_item {y f g t u} : stepK (.tup [y]) f g t u = f y := rfl
@[simp] theorem zk_none {f g t u} : stepK .non f g t u = g () := rfl
end
section
variable {cl : List Nat → Nat → List D → Hp → R} {gl : Nat → Option D} {m : List Nat} {s : Env} {G : Hp} {a b c i lo hi o : L} {l : Ls} {w : Bool}
@[simp] theorem ev_c {d} : eval cl gl m (.c d) s G = .ok d G := rfl
@[simp] theorem ev_v {i : Nat} : eval cl gl m (.v i) s G = optK (s[i]?.join) (fun d => .ok d G) .bad := rfl
@[simp] theorem ev_g {i : Nat} : eval cl gl m (.g i) s G = optK (gl i) (fun d => .ok d G) .bad := rfl
@[simp] theorem ev_bin {o} : eval cl gl m (.bin o w a b) s G = (eval cl gl m a s G).bind fun x G1 => (eval cl gl m b s G1).bind fun y G2 => binD o w x y G2 := rfl
@[simp] theorem ev_neg : eval cl gl m (.neg a) s G = (eval cl gl m a s G).bind fun x G1 => negD x G1 := rfl
@[simp] theorem ev_cmp {o} : eval cl gl m (.cmp o a b) s G = (eval cl gl m a s G).bind fun x G1 => (eval cl gl m b s G1).bind fun y G2 => cmpD o x y G2 := rfl
@[simp] theorem ev_chain {o o'} : eval cl gl m (.chain o o' a b c) s G = (eval cl gl m a s G).bind fun x G1 => (eval cl gl m b s G1).bind fun y G2 => (cmpD o x y G2).bind fun z G3 =>
    blK z (fun t => iteK t (fun _ => (eval cl gl m c s G3).bind fun u G4 => cmpD o' y u G4) fun _ => .ok (.bl false) G3) .bad := rfl
@[simp] theorem ev_and : eval cl gl m (.and_ a b) s G = (eval cl gl m a s G).bind fun x G1 => blK x (fun t => iteK t (fun _ => eval cl gl m b s G1) fun _ => .ok (.bl false) G1) .bad := rfl
@[simp] theorem ev_or : eval cl gl m (.or_ a b) s G = (eval cl gl m a s G).bind fun x G1 => blK x (fun t => iteK t (fun _ => .ok (.bl true) G1) fun _ => eval cl gl m b s G1) .bad := rfl
@[simp] theorem ev_not : eval cl gl m (.not_ a) s G = (eval cl gl m a s G).bind fun x G1 => blK x (fun t => .ok (.bl (!t)) G1) .bad := rfl
@[simp] theorem ev_ite : eval cl gl m (.ite c a b) s G = (eval cl gl m c s G).bind fun x G1 => blK x (fun t => iteK t (fun _ => eval cl gl m a s G1) fun _ => eval cl gl m b s G1) .bad := rfl
@[simp] theorem ev_tup : eval cl gl m (.tup l) s G = evals cl gl m l s G := rfl
@[simp] theorem ev_lst : eval cl gl m (.lst w l) s G = (evals cl gl m l s G).bind fun x G1 => tupK x (fun ds => mkl w ds G1) .bad := rfl
@[simp] theorem ev_ix : eval cl gl m (.ix a i) s G = (eval cl gl m a s G).bind fun x G1 => (eval cl gl m i s G1).bind fun y G2 => ixD x y G2 := rfl
@[simp] theorem ev_sl : eval cl gl m (.sl w a lo hi) s G = (eval cl gl m a s G).bind fun x G1 => (eval cl gl m lo s G1).bind fun l G2 => optK (partD l) (fun _ => (eval cl gl m hi s G2).bind fun h G3 => slD w x l h G3) .bad := rfl
@[simp] theorem ev_rev : eval cl gl m (.rev w a) s G = (eval cl gl m a s G).bind fun x G1 => revD w x G1 := rfl
@[simp] theorem ev_call {f} : eval cl gl m (.call f l) s G = (evals cl gl m l s G).bind fun x G1 => tupK x (fun ds => cl m f ds G1) .bad := rfl
@[simp] theorem ev_meth {f c} : eval cl gl m (.meth f c o l) s G = (eval cl gl m o s G).bind fun y G1 => iteK (decide (clsD G1 y = some c)) (fun _ => (evals cl gl m l s G1).bind fun x G2 => tupK x (fun ds => cl m f (y :: ds) G2) .bad) fun _ => .bad := rfl
@[simp] theorem ev_new {f c} : eval cl gl m (.new w c f l) s G = (evals cl gl m l s G).bind fun x G1 => tupK x (fun ds => (cl (if w then m else G1.length :: m) f (.ref G1.length :: ds) (G1 ++ [.ins c []])).bind fun r G2 => iteK (decide (r = .non)) (fun _ => madeD w G1.length G2) fun _ => .bad) .bad := rfl
@[simp] theorem ev_fld {c j} : eval cl gl m (.fld c j a) s G = (eval cl gl m a s G).bind fun x G1 => optK (fldD G1 c j x) (fun d => .ok d G1) .bad := rfl
@[simp] theorem ev_bi {b} : eval cl gl m (.bi b w l) s G = (evals cl gl m l s G).bind fun x G1 => tupK x (fun ds => biD b w ds G1) .bad := rfl
@[simp] theorem ev_mt {b} : eval cl gl m (.mt b w o l) s G = (eval cl gl m o s G).bind fun y G1 => iteK (mtOk b G1 y) (fun _ => (evals cl gl m l s G1).bind fun x G2 => tupK x (fun ds => mtD b w m y ds G2) .bad) fun _ => .bad := rfl
@[simp] theorem mo_app {i} : mtOk .append G (.ref i) = isLst G[i]? := rfl
@[simp] theorem mo_clr {i} : mtOk .clear G (.ref i) = isLst G[i]? := rfl
@[simp] theorem mo_ext {i} : mtOk .extend G (.ref i) = isLst G[i]? := rfl
@[simp] theorem mo_pop {i} : mtOk .pop0 G (.ref i) = isLst G[i]? := rfl
@[simp] theorem mo_popT {i} : mtOk .popT G (.ref i) = isDT G[i]? := rfl
@[simp] theorem mo_reverse {i} : mtOk .reverse G (.ref i) = isLst G[i]? := rfl
@[simp] theorem mo_pop1 {i} : mtOk .pop1 G (.ref i) = isLst G[i]? := rfl
@[simp] theorem mo_join {i} : mtOk .join G (.str i) = true := rfl
@[simp] theorem mo_split {i} : mtOk .split G (.str i) = true := rfl
@[simp] theorem mo_sw {i} : mtOk .startswith G (.str i) = true := rfl
@[simp] theorem il_lst {ds} : isLst (some (.lst ds)) = true := rfl
@[simp] theorem pt_int {i} : partD (.int i) = some (some i) := rfl
@[simp] theorem pt_exc {i} : partD (.exc i) = some none := rfl
@[simp] theorem ev_isi {ts} : eval cl gl m (.isi ts a) s G = (eval cl gl m a s G).bind fun x G1 => iteK (typed G1 x) (fun _ => .ok (.bl (ts.any (isTy G1 x))) G1) fun _ => .bad := rfl
@[simp] theorem ev_dlit {l} : eval cl gl m (.dlit l) s G = optK (pairsL l s) (fun ps => dlitD ps G) .bad := rfl
@[simp] theorem ev_dnew {t} : eval cl gl m (.dnew t) s G = .ok (.ref G.length) (G ++ [if t then .dT [] else .dK []]) := rfl
@[simp] theorem ev_skey {w f} : eval cl gl m (.skey w f a) s G = (eval cl gl m a s G).bind fun x G1 => optK (lstD G1 x) (fun ds => keysF (fun d G => cl m f [d] G) ds G1 [] fun is G2 => mkl w (sortKV is ds) G2) .bad := rfl
@[simp] theorem ev_key2 {mx f} : eval cl gl m (.key2 mx f a b) s G = (eval cl gl m a s G).bind fun x G1 => (eval cl gl m b s G1).bind fun y G2 => (cl m f [x] G2).safe.bind fun k G3 => (cl m f [y] G3).safe.bind fun l G4 =>
    optK (ltK mx k l) (fun t => .ok (if t then y else x) G4) .bad := rfl
@[simp] theorem ev_comp {k own pt one it} : eval cl gl m (.comp w k own pt one it a b) s G = (evals cl gl m it s G).bind fun x G1 => tupK x (fun ds => optK (itD k ds G1) (fun xg => iteK (szOk xg.1.length) (fun _ =>
      (compF (fun x G => optK (bindT pt one (wipes s own) x) (fun s' => (eval cl gl m a s' G).bind fun c G2 => blK c (fun t => iteK t (fun _ => (eval cl gl m b s' G2).bind fun y G3 => .ok (.tup [y]) G3) fun _ => .ok .non G2) .bad) .bad) xg.2 xg.1 G1 [] (mkl w)).safe) fun _ => .bad) .bad) .bad := rfl
@[simp] theorem es_nil : evals cl gl m .nil s G = .ok (.tup []) G := rfl
@[simp] theorem es_cons : evals cl gl m (.cons a l) s G = (eval cl gl m a s G).bind fun x G1 => (evals cl gl m l s G1).bind fun xs G2 => tupK xs (fun ds => .ok (.tup (x :: ds)) G2) .bad := rfl
variable {t : L} {A B : M} {v : D} {p : P}
@[simp] theorem pp_nm {i : Nat} : putP cl gl m (.nm i) v s G = .nx (seti s i v) G := rfl
@[simp] theorem pp_sb : putP cl gl m (.sb o i) v s G = R.st s (eval cl gl m o s G) fun x G1 => R.st s (eval cl gl m i s G1) fun y G2 => putV m x y v s G2 := rfl
@[simp] theorem pp_fld {c j} : putP cl gl m (.fld c j o) v s G = R.st s (eval cl gl m o s G) fun x G1 => putF m c j x v s G1 := rfl
@[simp] theorem pps_nil : putPs cl gl m [] [] s G = .nx s G := rfl
@[simp] theorem pps_cons {ps vs} : putPs cl gl m (p :: ps) (v :: vs) s G = (putP cl gl m p v s G).then fun s1 G1 => putPs cl gl m ps vs s1 G1 := rfl
@[simp] theorem ex_pass : exec cl gl m .pass s G = .nx s G := rfl
@[simp] theorem ex_seq : exec cl gl m (.seq A B) s G = (exec cl gl m A s G).then fun s1 G1 => exec cl gl m B s1 G1 := rfl
@[simp] theorem ex_ex : exec cl gl m (.ex a) s G = R.st s (eval cl gl m a s G) fun _ G1 => .nx s G1 := rfl
@[simp] theorem ex_set {i : Nat} : exec cl gl m (.set i a) s G = R.st s (eval cl gl m a s G) fun v G1 => .nx (seti s i v) G1 := rfl
@[simp] theorem ex_asg {ps} : exec cl gl m (.asg ps a) s G = R.st s (eval cl gl m a s G) fun v G1 => optK (seqD G1 v) (fun ds => iteK (decide (ds.length = ps.length)) (fun _ => putPs cl gl m ps ds s G1) fun _ => .bad) .bad := rfl
@[simp] theorem ex_put : exec cl gl m (.put p a) s G = R.st s (eval cl gl m a s G) fun v G1 => putP cl gl m p v s G1 := rfl
@[simp] theorem ex_par {is} : exec cl gl m (.par is l) s G = R.st s (evals cl gl m l s G) fun x G1 => tupK x (fun ds => iteK (decide (ds.length = is.length)) (fun _ => .nx (pars is ds s) G1) fun _ => .bad) .bad := rfl
@[simp] theorem ex_ite : exec cl gl m (.ite t A B) s G = R.st s (eval cl gl m t s G) fun c G1 => blK c (fun t => iteK t (fun _ => exec cl gl m A s G1) fun _ => exec cl gl m B s G1) .bad := rfl
@[simp] theorem ex_for {k pt one it} : exec cl gl m (.for k pt one it A) s G = R.st s (evals cl gl m it s G) fun x G1 => tupK x (fun ds => optK (itD k ds G1) (fun xg => forF pt one (fun s G => exec cl gl m A s G) xg.2 xg.1 s G1) .bad) .bad := rfl
@[simp] theorem ex_while {n} : exec cl gl m (.while n t A) s G = whlF (fun s G => eval cl gl m t s G) (fun s G => exec cl gl m A s G) n s G := rfl
@[simp] theorem ex_ret : exec cl gl m (.ret a) s G = R.st s (eval cl gl m a s G) fun v G1 => .ret v G1 := rfl
@[simp] theorem ex_retN : exec cl gl m .retN s G = .ret .non G := rfl
@[simp] theorem ex_raise {c} : exec cl gl m (.raise c) s G = .exc c s G := rfl
@[simp] theorem ex_brk : exec cl gl m .brk s G = .brk s G := rfl
@[simp] theorem ex_try : exec cl gl m (.try_ A) s G = (exec cl gl m A s G).thru := rfl
@[simp] theorem ex_tryc {ks os n} {hh : Nat → M} : exec cl gl m (.tryc A ks os n hh) s G = (exec cl gl m A s G).catch fun c s1 G1 => iteK (decide (c ∈ ks)) (fun _ => (exec cl gl m (hh c) (wipeO n s1) G1).clr n) fun _ => iteK (decide (c ∈ os)) (fun _ => .exc c s1 G1) fun _ => .bad := rfl
@[simp] theorem safe_ok {v} : R.safe (.ok v G) = .ok v G := rfl
@[simp] theorem safe_bad : R.safe .bad = .bad := rfl
@[simp] theorem catch_exc {c f} {t : Tag f} : O.catch (.exc c s G) f t = f c s G := rfl
@[simp] theorem catch_nx {f} {t : Tag f} : O.catch (.nx s G) f t = .nx s G := rfl
@[simp] theorem catch_ret {v f} {t : Tag f} : O.catch (.ret v G) f t = .ret v G := rfl
@[simp] theorem clr_nx {n} : O.clr n (.nx s G) = .nx (wipeO n s) G := rfl
@[simp] theorem clr_ret {n v} : O.clr n (.ret v G) = .ret v G := rfl
@[simp] theorem wipe_none : wipeO none s = s := rfl
@[simp] theorem wipe_some {i} : wipeO (some i) s = s.set i none := rfl
@[simp] theorem ex_cnt : exec cl gl m .cnt s G = .cnt s G := rfl
end

section
variable {α : Type} {f : List D → α} {g : List (L2.Key × D) → α} {h : List (List L2.Key × D) → α} {k : Nat → List D → α} {d : α} {a b c e}
@[simp] theorem zc_l {ds} : cellK (some (.lst ds)) f g h k d a b c e = f ds := rfl
@[simp] theorem zc_k {ds} : cellK (some (.dK ds)) f g h k d a b c e = g ds := rfl
@[simp] theorem zc_t {ds} : cellK (some (.dT ds)) f g h k d a b c e = h ds := rfl
@[simp] theorem zc_i {n ds} : cellK (some (.ins n ds)) f g h k d a b c e = k n ds := rfl
end
section
variable {i j : Int} {G : Hp} {w : Bool} {x y : D} {ds es : List D} {p : Nat}
@[simp] theorem bd_add : binD .add w (.int i) (.int j) G = .ok (.int (i + j)) G := rfl
@[simp] theorem bd_sub : binD .sub w (.int i) (.int j) G = .ok (.int (i - j)) G := rfl
@[simp] theorem bd_mul : binD .mul w (.int i) (.int j) G = iteK (mulOk i j) (fun _ => .ok (.int (i * j)) G) fun _ => .bad := by simp only [binD]; cases mulOk i j <;> rfl
@[simp] theorem bd_div : binD .fdiv w (.int i) (.int j) G = iteK (divOk j) (fun _ => .ok (.int (i / j)) G) fun _ => .bad := by simp only [binD]; cases divOk j <;> rfl
@[simp] theorem bd_mod : binD .mod w (.int i) (.int j) G = iteK (decide (0 < j)) (fun _ => .ok (.int (i % j)) G) fun _ => .bad := by simp only [binD]; cases decide (0 < j) <;> rfl
@[simp] theorem bd_pow : binD .pow w (.int i) (.int j) G = iteK (decide (0 ≤ j ∧ j ≤ 1000 ∧ i.natAbs < 2 ^ 64)) (fun _ => .ok (.int (i ^ j.toNat)) G) fun _ => .bad := by simp only [binD]; cases decide (0 ≤ j ∧ j ≤ 1000 ∧ i.natAbs < 2 ^ 64) <;> rfl
@[simp] theorem bd_adds {a b : Str} : binD .add w (.str a) (.str b) G = iteK (szOk (a.length + b.length)) (fun _ => .ok (.str (a ++ b)) G) fun _ => .bad := by simp only [binD]; cases szOk (a.length + b.length) <;> rfl
@[simp] theorem bd_addt : binD .add w (.tup ds) (.tup es) G = iteK (szOk (ds.length + es.length)) (fun _ => .ok (.tup (ds ++ es)) G) fun _ => .bad := by simp only [binD]; cases szOk (ds.length + es.length) <;> rfl
@[simp] theorem bd_addl : binD .add w (.lst ds) (.lst es) G = iteK (szOk (ds.length + es.length)) (fun _ => mkl w (ds ++ es) G) fun _ => .bad := by simp only [binD, lstD]; cases szOk (ds.length + es.length) <;> rfl
@[simp] theorem ng_int : negD (.int i) G = .ok (.int (-i)) G := rfl
@[simp] theorem mk_t : mkl true ds G = .ok (.ref G.length) (G ++ [.lst ds]) := rfl
@[simp] theorem mk_f : mkl false ds G = .ok (.lst ds) G := rfl
@[simp] theorem cm_lt : cmpD .lt (.int i) (.int j) G = .ok (.bl (decide (i < j))) G := rfl
@[simp] theorem cm_le : cmpD .le (.int i) (.int j) G = .ok (.bl (decide (i ≤ j))) G := rfl
@[simp] theorem cm_gt : cmpD .gt (.int i) (.int j) G = .ok (.bl (decide (j < i))) G := rfl
@[simp] theorem cm_ge : cmpD .ge (.int i) (.int j) G = .ok (.bl (decide (j ≤ i))) G := rfl
@[simp] theorem cm_eq : cmpD .eq (.int i) (.int j) G = .ok (.bl (decide (i = j))) G := rfl
@[simp] theorem cm_ne : cmpD .ne (.int i) (.int j) G = .ok (.bl (!decide (i = j))) G := rfl
@[simp] theorem cm_eqs {a b : Str} : cmpD .eq (.str a) (.str b) G = .ok (.bl (decide (a = b))) G := rfl
@[simp] theorem cm_nes {a b : Str} : cmpD .ne (.str a) (.str b) G = .ok (.bl (!decide (a = b))) G := rfl
@[simp] theorem cm_lts {a b : Str} : cmpD .lt (.str a) (.str b) G = .ok (.bl (decide (a.cps.toList < b.cps.toList))) G := rfl
@[simp] theorem cm_is : cmpD .is_ x .non G = .ok (.bl (decide (x = .non))) G := rfl
@[simp] theorem cm_isnot : cmpD .isnot x .non G = .ok (.bl (!decide (x = .non))) G := rfl
@[simp] theorem ix_lst : ixD (.lst ds) (.int i) G = optK (L2.atI ds i) (fun d => .ok d G) .bad := by unfold ixD; simp only [seqD, ixL]; cases L2.atI ds i <;> rfl
@[simp] theorem ix_fz : ixD (.fz ds) (.int i) G = optK (L2.atI ds i) (fun d => .ok d G) .bad := by unfold ixD; simp only [seqD, ixL]; cases L2.atI ds i <;> rfl
@[simp] theorem ix_tup : ixD (.tup ds) (.int i) G = optK (L2.atI ds i) (fun d => .ok d G) .bad := by unfold ixD; simp only [seqD, ixL]; cases L2.atI ds i <;> rfl
@[simp] theorem ix_ref : ixD (.ref p) (.int i) G = cellK G[p]? (fun ds => optK (L2.atI ds i) (fun d => .ok d G) .bad) (fun kvs => optK (valD kvs (.inl i)) (fun d => .ok d G) .bad) (fun _ => .bad) (fun _ _ => .bad) .bad := by
  unfold ixD
  cases e : G[p]? with
  | none => simp [seqD, ixK, lookD, e, cellK]
  | some c => cases c with
    | lst ds => simp only [seqD, ixL, e, cellK]; cases L2.atI ds i <;> rfl
    | dK kvs => simp only [seqD, ixK, lookD, keyD, e, cellK, Option.map]; cases valD kvs (.inl i) <;> rfl
    | dT kvs => simp [seqD, ixK, lookD, e, cellK]
    | ins c ds => simp [seqD, ixK, lookD, e, cellK]
theorem at_nat (n : Nat) : L2.atI ds (n : Int) = ds[n]? := by
  unfold L2.atI L2.ixN
  rw [if_pos (by omega)]
  split
  · rfl
  · rw [List.getElem?_eq_none (by omega)]; rfl
@[simp] theorem at_0 : L2.atI ds 0 = ds[0]? := at_nat 0
@[simp] theorem at_1 : L2.atI ds 1 = ds[1]? := at_nat 1
@[simp] theorem at_2 : L2.atI ds 2 = ds[2]? := at_nat 2
@[simp] theorem at_3 : L2.atI ds 3 = ds[3]? := at_nat 3
@[simp] theorem at_4 : L2.atI ds 4 = ds[4]? := at_nat 4
@[simp] theorem at_5 : L2.atI ds 5 = ds[5]? := at_nat 5
@[simp] theorem at_6 : L2.atI ds 6 = ds[6]? := at_nat 6
@[simp] theorem at_7 : L2.atI ds 7 = ds[7]? := at_nat 7
@[simp] theorem at_8 : L2.atI ds 8 = ds[8]? := at_nat 8
@[simp] theorem at_9 : L2.atI ds 9 = ds[9]? := at_nat 9
@[simp] theorem at_10 : L2.atI ds 10 = ds[10]? := at_nat 10
@[simp] theorem at_11 : L2.atI ds 11 = ds[11]? := at_nat 11
@[simp] theorem at_neg1 : L2.atI ds (-1) = ds.getLast? := by
  unfold L2.atI L2.ixN
  rw [if_neg (by decide), List.getLast?_eq_getElem?]
  split
  · show ds[(-1 + (ds.length : Int)).toNat]? = _
    congr 1
    omega
  · rw [List.getElem?_eq_none (by omega)]; rfl
@[simp] theorem bi_abs : biD .abs w [.int i] G = .ok (.int (if i < 0 then -i else i)) G := rfl
@[simp] theorem bi_len : biD .len w [x] G = optK (lenD G x) (fun n => .ok (.int n) G) .bad := by show (match lenD G x with | some n => R.ok (.int n) G | none => .bad) = _; cases lenD G x <;> rfl
@[simp] theorem bi_int : biD .int w [.int i] G = .ok (.int i) G := rfl
@[simp] theorem bi_intb {k} : biD .int w [.bl k] G = .ok (.int (if k then 1 else 0)) G := rfl
@[simp] theorem bi_str : biD .str w [.int i] G = iteK (strOkI i) (fun _ => .ok (.str (nstr i)) G) fun _ => .bad := by
  show (if strOkI i = true then R.ok (.str (nstr i)) G else .bad) = _
  cases strOkI i <;> rfl
@[simp] theorem bi_repr : biD .repr w [x] G = reprD G x := rfl
@[simp] theorem bi_min2 : biD .min2 w [.int i, .int j] G = .ok (.int (if j < i then j else i)) G := rfl
@[simp] theorem bi_max2 : biD .max2 w [.int i, .int j] G = .ok (.int (if j > i then j else i)) G := rfl
@[simp] theorem bi_divmod : biD .divmod w [.int i, .int j] G = iteK (divOk j) (fun _ => .ok (.tup [.int (i / j), .int (i % j)]) G) fun _ => .bad := by
  show (if divOk j = true then R.ok (.tup [.int (i / j), .int (i % j)]) G else .bad) = _
  cases divOk j <;> rfl
@[simp] theorem bi_tuple : biD .tuple w [x] G = optK (seqD G x) (fun ds => .ok (.tup ds) G) .bad := by show (match seqD G x with | some ds => R.ok (.tup ds) G | none => .bad) = _; cases seqD G x <;> rfl
@[simp] theorem bi_list : biD .list w [x] G = optK (seqD G x) (fun ds => mkl w ds G) .bad := by show (match seqD G x with | some ds => mkl w ds G | none => .bad) = _; cases seqD G x <;> rfl
@[simp] theorem ln_lst : lenD G (.lst ds) = some ds.length := rfl
@[simp] theorem ln_fz : lenD G (.fz ds) = some ds.length := rfl
@[simp] theorem ln_tup : lenD G (.tup ds) = some ds.length := rfl
@[simp] theorem ln_ref : lenD G (.ref p) = cellK G[p]? (fun ds => some ds.length) (fun ds => some ds.length) (fun ds => some ds.length) (fun _ _ => none) none := by
  unfold lenD
  cases e : G[p]? with
  | none => simp [e, cellK]
  | some c => cases c <;> simp [e, cellK]
@[simp] theorem sq_lst : seqD G (.lst ds) = some ds := rfl
@[simp] theorem sq_fz : seqD G (.fz ds) = some ds := rfl
@[simp] theorem sq_tup : seqD G (.tup ds) = some ds := rfl
@[simp] theorem sq_ref : seqD G (.ref p) = cellK G[p]? (fun ds => some ds) (fun _ => none) (fun _ => none) (fun _ _ => none) none := by
  unfold seqD
  cases e : G[p]? with
  | none => simp [e, cellK]
  | some c => cases c <;> simp [e, cellK]
@[simp] theorem pv_ref {m s y v} : putV m (.ref p) y v s G = cellK G[p]? (fun ds => putL p m ds y v s G) (fun ds => putDK p m ds y v s G) (fun ds => putDT p m ds y v s G) (fun _ _ => .bad) .bad := rfl
@[simp] theorem pl_int {m s v} : putL p m ds (.int i) v s G = optK (L2.ixN ds.length i) (fun j => iteK (wok p m v) (fun _ => .nx s (G.set p (.lst (ds.set j v)))) fun _ => .bad) .bad := by
  simp only [putL]; cases L2.ixN ds.length i <;> first | rfl | (cases wok p m v <;> rfl)
@[simp] theorem ixn_0 {n : Nat} : L2.ixN (n + 1) 0 = some 0 := by simp [L2.ixN] <;> omega
@[simp] theorem ixn_1 {n : Nat} : L2.ixN (n + 2) 1 = some 1 := by simp [L2.ixN] <;> omega
@[simp] theorem ixn_2 {n : Nat} : L2.ixN (n + 3) 2 = some 2 := by simp [L2.ixN] <;> omega
@[simp] theorem ixn_3 {n : Nat} : L2.ixN (n + 4) 3 = some 3 := by simp [L2.ixN] <;> omega
@[simp] theorem ixn_4 {n : Nat} : L2.ixN (n + 5) 4 = some 4 := by simp [L2.ixN] <;> omega
@[simp] theorem ixn_5 {n : Nat} : L2.ixN (n + 6) 5 = some 5 := by simp [L2.ixN] <;> omega
@[simp] theorem ixn_6 {n : Nat} : L2.ixN (n + 7) 6 = some 6 := by simp [L2.ixN] <;> omega
@[simp] theorem ixn_7 {n : Nat} : L2.ixN (n + 8) 7 = some 7 := by simp [L2.ixN] <;> omega
@[simp] theorem wk_int {m} : wok p m (.int i) = true := by simp [wok, below]
@[simp] theorem wk_str {m a} : wok p m (.str a) = true := by simp [wok, below]
@[simp] theorem wk_non {m} : wok p m .non = true := by simp [wok, below]
@[simp] theorem wk_bl {m b} : wok p m (.bl b) = true := by simp [wok, below]
@[simp] theorem be_int {m} : below m (.int i) = true := rfl
@[simp] theorem be_str {m a} : below m (.str a) = true := rfl
@[simp] theorem be_non {m} : below m .non = true := rfl
@[simp] theorem be_bl {m b} : below m (.bl b) = true := rfl
@[simp] theorem be_tup {m} : below m (.tup ds) = belows m ds := rfl
@[simp] theorem be_lst {m} : below m (.lst ds) = belows m ds := rfl
@[simp] theorem be_fz {m} : below m (.fz ds) = belows m ds := rfl
@[simp] theorem be_ref {m} : below m (.ref p) = decide (p < m) := rfl
@[simp] theorem bs_nil {m} : belows m [] = true := rfl
@[simp] theorem bs_cons {m} : belows m (x :: ds) = (below m x && belows m ds) := rfl
theorem belows_map {α : Type} {f : α → D} {m : Nat} (h : ∀ a, below m (f a) = true) : ∀ l : List α, belows m (l.map f) = true
  | [] => rfl
  | a :: l => by rw [List.map_cons, bs_cons, h a, belows_map h l]; rfl
@[simp] theorem fr_tnf {m x} : fin true false m (.ret x G) = if below m x then .ok x (G.take m) else .ok x G := rfl
@[simp] theorem fr_ttf {m x} : fin true true m (.ret x G) = if below m (frzD G m x) then .ok (frzD G m x) (G.take m) else .ok x G := rfl
@[simp] theorem fr_fnf {m x} : fin false false m (.ret x G) = .ok x G := rfl
@[simp] theorem fr_ftf {m x} : fin false true m (.ret x G) = .ok x G := rfl
@[simp] theorem fr_tnx {m b s} : fin true b m (.nx s G) = .ok .non (G.take m) := by cases b <;> rfl
@[simp] theorem fr_fnx {m b s} : fin false b m (.nx s G) = .ok .non G := by cases b <;> rfl
@[simp] theorem fr_texc {m b c s} : fin true b m (.exc c s G) = .exc c (G.take m) := rfl
@[simp] theorem fr_fexc {m b c s} : fin false b m (.exc c s G) = .exc c G := rfl
@[simp] theorem fz_int {m} : frzD G m (.int i) = .int i := rfl
@[simp] theorem fz_str {m a} : frzD G m (.str a) = .str a := rfl
@[simp] theorem fz_non {m} : frzD G m .non = .non := rfl
@[simp] theorem fz_bl {m b} : frzD G m (.bl b) = .bl b := rfl
@[simp] theorem fz_tup {m} : frzD G m (.tup ds) = .tup ds := rfl
@[simp] theorem fz_lst {m} : frzD G m (.lst ds) = .lst ds := rfl
@[simp] theorem seti_eq {s i v} : seti s i v = s.set i (some v) := rfl
@[simp] theorem bt_one {i s} : bindT [i] true s x = some (seti s i x) := rfl
@[simp] theorem still_n : still G none = true := rfl
end
theorem run_t {cl : List Nat → Nat → List D → Hp → R} {gl : Nat → Option D} {m : List Nat} {np ns : Nat} {frz : Bool} {body : M} {args : List D} {G : Hp} (h : args.length = np) :
    run cl gl m ⟨np, ns, true, frz, body⟩ args G = fin true frz G.length (exec cl gl (G.length :: m) body (args.map some ++ List.replicate (ns - np) none) G) := by
  unfold run
  rw [if_pos h]
  rfl
theorem hp_lt {G : Hp} {p : Nat} {c : Cell} (h : G[p]? = some c) : p < G.length := (List.getElem?_eq_some_iff.mp h).1
@[simp] theorem hp_take_set {G : Hp} {p : Nat} {c : Cell} : (G.set p c).take G.length = G.set p c := List.take_of_length_le (by simp)
end PK
namespace PK
open PySem
section
variable {G : Hp} {w : Bool} {x y : D} {ds es : List D} {m : List Nat} {a b : Str} {i j : Int} {p : Nat}
@[simp] theorem it_r1 : itD .range1 [.int i] G = if decide (-(2 ^ 62) ≤ i ∧ i < 2 ^ 62) then some (rangeD 0 i.toNat, none) else none := rfl
@[simp] theorem it_r2 : itD .range2 [.int i, .int j] G = if decide (-(2 ^ 62) ≤ i ∧ i < 2 ^ 62 ∧ -(2 ^ 62) ≤ j ∧ j < 2 ^ 62) then some (rangeD i (j - i).toNat, none) else some (rangeD i (j - i).toNat, none) := rfl
@[simp] theorem it_r3 {k : Int} : itD .range3 [.int i, .int j, .int k] G = if decide (-(2 ^ 62) ≤ i ∧ i < 2 ^ 62 ∧ -(2 ^ 62) ≤ j ∧ j < 2 ^ 62 ∧ k = -1) then some (downD i (i - j).toNat, none) else none := rfl
@[simp] theorem it_str : itD .val [.str a] G = some (signs a, none) := rfl
@[simp] theorem it_lst : itD .val [.lst ds] G = some (ds, none) := rfl
@[simp] theorem it_fz : itD .val [.fz ds] G = some (ds, none) := rfl
@[simp] theorem it_tup : itD .val [.tup ds] G = some (ds, none) := rfl
@[simp] theorem it_el : itD .enum [.lst ds] G = some (enumD 0 ds, none) := rfl
@[simp] theorem it_et : itD .enum [.tup ds] G = some (enumD 0 ds, none) := rfl
@[simp] theorem it_ef : itD .enum [.fz ds] G = some (enumD 0 ds, none) := rfl
theorem it_ref (h : G[p]? = some (.lst ds)) : itD .val [.ref p] G = some (ds, some (p, .lst ds)) := by
  show (match G[p]? with | some (.lst ds) => some (ds, some (p, Cell.lst ds)) | _ => none) = _
  rw [h]
theorem it_eref (h : G[p]? = some (.lst ds)) : itD .enum [.ref p] G = some (enumD 0 ds, some (p, .lst ds)) := by
  show (match G[p]? with | some (.lst ds) => some (enumD 0 ds, some (p, Cell.lst ds)) | _ => none) = _
  rw [h]
@[simp] theorem ix_strI : ixD (.str a) (.int i) G = iteK (szOk a.length) (fun _ => optK (L2.atI a.cps.toList i) (fun c => .ok (.str ⟨#[c]⟩) G) .bad) fun _ => .bad := by
  show (if szOk a.length = true then (match L2.atI a.cps.toList i with | some c => R.ok (.str ⟨#[c]⟩) G | none => .bad) else .bad) = _
  cases szOk a.length
  · rfl
  · show (match L2.atI a.cps.toList i with | some c => R.ok (.str ⟨#[c]⟩) G | none => .bad) = _
    cases L2.atI a.cps.toList i <;> rfl
@[simp] theorem mt_joinL : mtD .join w m (.str a) [x] G = optK ((seqD G x).bind strsD) (fun ys => iteK (decide ((ys.map Str.length).sum + ys.length * a.length ≤ 1000000)) (fun _ => .ok (.str (Txt.join a ys)) G) fun _ => .bad) .bad := by
  show (match (seqD G x).bind strsD with | some ys => if decide ((ys.map Str.length).sum + ys.length * a.length ≤ 1000000) = true then R.ok (.str (Txt.join a ys)) G else .bad | none => .bad) = _
  cases (seqD G x).bind strsD with
  | none => rfl
  | some ys =>
    rw [optK_some]
    dsimp only
    cases decide ((ys.map Str.length).sum + ys.length * a.length ≤ 1000000) <;> rfl
@[simp] theorem mt_splitS : mtD .split w m (.str a) [.str b] G = iteK (decide (b.length ≠ 0 ∧ a.length ≤ 1000000)) (fun _ => mkl w ((Txt.split a b).map .str) G) fun _ => .bad := by
  show (if decide (b.length ≠ 0 ∧ a.length ≤ 1000000) = true then mkl w ((Txt.split a b).map .str) G else .bad) = _
  cases decide (b.length ≠ 0 ∧ a.length ≤ 1000000) <;> rfl
@[simp] theorem mt_sw : mtD .startswith w m (.str a) [.str b] G = .ok (.bl (Txt.startswith a b)) G := rfl
end
end PK
namespace PK
open PySem
def PotOk (b : Int) : Prop := 0 ≤ b ∧ b < 2147483648
def potC (a b : Int) : Cell := .lst [.int a, .int b]
def PotAt (G : Hp) (p : Nat) : Prop := ∃ a b, G[p]? = some (potC a b) ∧ PotOk b
def Drawn (r : R) (G : Hp) (p : Nat) (ok : D → Prop) : Prop := ∃ v a b, r = .ok v (G.set p (potC a b)) ∧ PotOk b ∧ ok v
section
variable {cl : List Nat → Nat → List D → Hp → R} {gl : Nat → Option D} {ms : List Nat} {p : Nat} {n : Int} {G : Hp}
theorem PotAt.lt (h : PotAt G p) : p < G.length := by obtain ⟨a, b, h, _⟩ := h; exact hp_lt h
theorem PotAt.set (h : PotAt G p) {a b : Int} (hb : PotOk b) : PotAt (G.set p (potC a b)) p := ⟨a, b, by simp [h.lt], hb⟩
theorem Drawn.again {r : R} {c : Cell} {ok : D → Prop} (h : Drawn r (G.set p c) p ok) : Drawn r G p ok := by
  obtain ⟨v, a, b, h1, h2, h3⟩ := h
  exact ⟨v, a, b, by rw [h1, List.set_set], h2, h3⟩
def Wide (v : D) : Prop := ∃ w : Int, v = .int w ∧ -1000000000000000000000000000000 < w ∧ w < 1000000000000000000000000000000
end
end PK
namespace PK
open PySem
section
variable {cl : List Nat → Nat → List D → Hp → R} {gl : Nat → Option D} {ms : List Nat} {p : Nat} {n : Int} {G : Hp}
theorem PotAt.self (h : PotAt G p) : ∃ a b, PotOk b ∧ G.set p (potC a b) = G := by
  obtain ⟨a, b, h, hb⟩ := h
  refine ⟨a, b, hb, ?_⟩
  obtain ⟨hp, h⟩ := List.getElem?_eq_some_iff.mp h
  rw [← h]; exact List.set_getElem_self hp
def alph : Str := Str.ofString "abcdefghijklmnopqrstuvwxyz0123456789"
end
end PK
namespace PK
open PySem TL
section
variable {cl : List Nat → Nat → List D → Hp → R} {gl : Nat → Option D} {ms : List Nat} {p : Nat} {n : Int} {G : Hp}
def Key (v : D) : Prop := ∃ cs : List Nat, v = .str ⟨cs.toArray⟩ ∧ 1 ≤ cs.length ∧ cs.length ≤ 8 ∧ ∀ c ∈ cs, c ∈ alph.cps.toList
end
end PK
namespace PK
open PySem
end PK
namespace PK
open PySem
theorem safe_mkl {w : Bool} {ds : List D} {G : Hp} : (mkl w ds G).safe = mkl w ds G := by cases w <;> rfl
theorem comp_on {α : Type} {step : D → Hp → R} {k : List D → Hp → R} {g f : α → D} {G : Hp} : ∀ (l : List α) (acc : List D), (∀ a ∈ l, step (g a) G = .ok (.tup [f a]) G) → compF step none (l.map g) G acc k = k (acc ++ l.map f) G
  | [], acc, _ => by rw [List.map_nil, List.map_nil, List.append_nil]; rfl
  | a :: l, acc, h => by
    show (step (g a) G).bind _ = _
    rw [h a List.mem_cons_self]
    show compF step none (l.map g) G (acc ++ [f a]) k = _
    rw [comp_on l (acc ++ [f a]) fun y hy => h y (List.mem_cons_of_mem _ hy), List.append_assoc]; rfl
theorem comp_pure_on {α : Type} {cl : List Nat → Nat → List D → Hp → R} {gl : Nat → Option D} {m : List Nat} {s : Env} {G : Hp} {it : Ls} {own pt : List Nat} {one w : Bool} {k : Ik} {elt : L} {ds : List D} {g f : α → D} (l : List α) (he : evals cl gl m it s G = .ok (.tup ds) G) (hi : itD k ds G = some (l.map g, none)) (hz : l.length ≤ 1000000)
    (h : ∀ a ∈ l, ∃ s', bindT pt one (wipes s own) (g a) = some s' ∧ eval cl gl m elt s' G = .ok (f a) G) : eval cl gl m (.comp w k own pt one it (.c (.bl true)) elt) s G = mkl w (l.map f) G := by
  have hz : szOk (l.map g).length = true := decide_eq_true (by simpa using hz)
  rw [ev_comp, he, R.bind_ok, tupK_tup, hi, optK_some, hz, iteK_true]
  rw [comp_on (f := f) l [] fun a ha => ?_]
  · rw [List.nil_append, safe_mkl]
  · obtain ⟨s', h1, h2⟩ := h a ha
    rw [h1, optK_some, ev_c, R.bind_ok, blK_bl, iteK_true, h2, R.bind_ok]
end PK
namespace PK
open PySem
structure Rs where
  q : D → Hp → Prop
  e : Nat → Hp → Prop
def R.to (r : R) (W : Rs) (_t : Tag W := .mk) : Prop := match r with
  | .ok v G => W.q v G
  | .exc c G => W.e c G
  | .bad => False
structure Ks where
  nx : Env → Hp → Prop
  rt : D → Hp → Prop
  xc : Nat → Env → Hp → Prop
  bk : Env → Hp → Prop
  ct : Env → Hp → Prop
def O.to (o : O) (K : Ks) (_t : Tag K := .mk) : Prop := match o with
  | .nx s G => K.nx s G
  | .ret v G => K.rt v G
  | .brk s G => K.bk s G
  | .cnt s G => K.ct s G
  | .exc c s G => K.xc c s G
  | .bad => False
abbrev noE : Nat → Hp → Prop := fun _ _ => False
def Rs.ok (Q : D → Hp → Prop) : Rs := ⟨Q, noE⟩
def Rs.is (x : D) (G : Hp) : Rs := ⟨fun v G' => v = x ∧ G' = G, noE⟩
def Rs.bind (f : D → Hp → R) (W : Rs) : Rs := ⟨fun v G => R.to (f v G) W, W.e⟩
def Ks.st (s : Env) (f : D → Hp → O) (K : Ks) : Rs := ⟨fun v G => O.to (f v G) K, fun c G => K.xc c s G⟩
def Ks.thn (f : Env → Hp → O) (K : Ks) : Ks := ⟨fun s G => O.to (f s G) K, K.rt, K.xc, K.bk, K.ct⟩
def Ks.trn (f : Env → Hp → O) (K : Ks) : Ks := ⟨fun s G => O.to (f s G) K, K.rt, K.xc, K.nx, fun s G => O.to (f s G) K⟩
def Ks.cat (f : Nat → Env → Hp → O) (K : Ks) : Ks := ⟨K.nx, K.rt, fun c s G => O.to (f c s G) K, K.bk, K.ct⟩
def Ks.clr (n : Option Nat) (K : Ks) : Ks := ⟨fun s G => K.nx (wipeO n s) G, K.rt, fun _ _ _ => False, fun s G => K.bk (wipeO n s) G, fun s G => K.ct (wipeO n s) G⟩
def Ks.loop (I : Env → Hp → Prop) (K : Ks) : Ks := ⟨I, K.rt, K.xc, K.nx, I⟩
section
variable {W W' : Rs} {K K' : Ks} {s : Env} {G : Hp} {v : D} {c : Nat} {r : R} {o : O}
variable {tw : Tag W} {tk : Tag K}
@[simp] theorem ok_q {Q : D → Hp → Prop} : (Rs.ok Q).q v G = Q v G := rfl
@[simp] theorem ok_e {Q : D → Hp → Prop} : (Rs.ok Q).e c G = False := rfl
@[simp] theorem is_q {x : D} {G' : Hp} : (Rs.is x G').q v G = (v = x ∧ G = G') := rfl
@[simp] theorem is_e {x : D} {G' : Hp} : (Rs.is x G').e c G = False := rfl
@[simp] theorem rb_q {f} : (Rs.bind f W).q v G = R.to (f v G) W := rfl
@[simp] theorem rb_e {f} : (Rs.bind f W).e c G = W.e c G := rfl
@[simp] theorem ks_q {f} : (Ks.st s f K).q v G = O.to (f v G) K := rfl
@[simp] theorem ks_e {f} : (Ks.st s f K).e c G = K.xc c s G := rfl
@[simp] theorem kt_nx {f} : (Ks.thn f K).nx s G = O.to (f s G) K := rfl
@[simp] theorem kt_rt {f} : (Ks.thn f K).rt v G = K.rt v G := rfl
@[simp] theorem kt_xc {f} : (Ks.thn f K).xc c s G = K.xc c s G := rfl
@[simp] theorem kt_bk {f} : (Ks.thn f K).bk s G = K.bk s G := rfl
@[simp] theorem kt_ct {f} : (Ks.thn f K).ct s G = K.ct s G := rfl
@[simp] theorem kc_nx {f} : (Ks.cat f K).nx s G = K.nx s G := rfl
@[simp] theorem kc_rt {f} : (Ks.cat f K).rt v G = K.rt v G := rfl
@[simp] theorem kc_xc {f} : (Ks.cat f K).xc c s G = O.to (f c s G) K := rfl
@[simp] theorem kc_bk {f} : (Ks.cat f K).bk s G = K.bk s G := rfl
@[simp] theorem kc_ct {f} : (Ks.cat f K).ct s G = K.ct s G := rfl
@[simp] theorem kr_nx {n} : (Ks.clr n K).nx s G = K.nx (wipeO n s) G := rfl
@[simp] theorem kr_rt {n} : (Ks.clr n K).rt v G = K.rt v G := rfl
@[simp] theorem kr_xc {n} : (Ks.clr n K).xc c s G = False := rfl
@[simp] theorem kr_bk {n} : (Ks.clr n K).bk s G = K.bk (wipeO n s) G := rfl
@[simp] theorem kr_ct {n} : (Ks.clr n K).ct s G = K.ct (wipeO n s) G := rfl
@[simp] theorem kl_nx {I} : (Ks.loop I K).nx s G = I s G := rfl
@[simp] theorem kl_rt {I} : (Ks.loop I K).rt v G = K.rt v G := rfl
@[simp] theorem kl_xc {I} : (Ks.loop I K).xc c s G = K.xc c s G := rfl
@[simp] theorem kl_bk {I} : (Ks.loop I K).bk s G = K.nx s G := rfl
@[simp] theorem kl_ct {I} : (Ks.loop I K).ct s G = I s G := rfl
@[simp] theorem to_ok : R.to (.ok v G) W tw = W.q v G := rfl
@[simp] theorem to_exc : R.to (.exc c G) W tw = W.e c G := rfl
@[simp] theorem to_bad : R.to .bad W tw = False := rfl
@[simp] theorem to_bind {f t} : R.to (R.bind r f t) W tw = R.to r (Rs.bind f W) := by cases r <;> rfl
@[simp] theorem to_st {f t} : O.to (R.st s r f t) K tk = R.to r (Ks.st s f K) := by cases r <;> rfl
@[simp] theorem to_nx : O.to (.nx s G) K tk = K.nx s G := rfl
@[simp] theorem to_ret : O.to (.ret v G) K tk = K.rt v G := rfl
@[simp] theorem to_brk : O.to (.brk s G) K tk = K.bk s G := rfl
@[simp] theorem to_cnt : O.to (.cnt s G) K tk = K.ct s G := rfl
@[simp] theorem to_oexc : O.to (.exc c s G) K tk = K.xc c s G := rfl
@[simp] theorem to_obad : O.to .bad K tk = False := rfl
@[simp] theorem to_then {f t} : O.to (O.then o f t) K tk = O.to o (Ks.thn f K) := by cases o <;> rfl
theorem to_turn {f t} : O.to (O.turn o f t) K tk = O.to o (Ks.trn f K) := by cases o <;> rfl
@[simp] theorem to_catch {f t} : O.to (O.catch o f t) K tk = O.to o (Ks.cat f K) := by cases o <;> rfl
@[simp] theorem to_safe : R.to r.safe W tw = R.to r (Rs.ok W.q) := by cases r <;> rfl
@[simp] theorem to_clr {n} : O.to (O.clr n o) K tk = O.to o (Ks.clr n K) := by cases o <;> rfl
theorem R.to.imp (h : R.to r W) (hq : ∀ v G, W.q v G → W'.q v G) (he : ∀ c G, W.e c G → W'.e c G) : R.to r W' := by
  cases r with
  | ok v G => exact hq _ _ h
  | exc c G => exact he _ _ h
  | bad => exact h
theorem R.to.ok {Q : D → Hp → Prop} (h : R.to r (Rs.ok Q)) (hq : ∀ v G, Q v G → W'.q v G) : R.to r W' := by
  cases r with
  | ok v G => exact hq _ _ h
  | exc c G => exact False.elim h
  | bad => exact h
theorem O.to.mono (h : O.to o K) (h1 : ∀ s G, K.nx s G → K'.nx s G) (h2 : ∀ v G, K.rt v G → K'.rt v G) (h3 : ∀ c s G, K.xc c s G → K'.xc c s G) (h4 : ∀ s G, K.bk s G → K'.bk s G) (h5 : ∀ s G, K.ct s G → K'.ct s G) : O.to o K' := by
  cases o with
  | nx s G => exact h1 _ _ h
  | ret v G => exact h2 _ _ h
  | brk s G => exact h4 _ _ h
  | cnt s G => exact h5 _ _ h
  | exc c s G => exact h3 _ _ _ h
  | bad => exact h
theorem R.eq_of {x : D} {G' : Hp} (h : R.to r (Rs.is x G')) : r = .ok x G' := by
  cases r with
  | ok v G => obtain ⟨rfl, rfl⟩ := h; rfl
  | exc c G => exact False.elim h
  | bad => exact False.elim h
theorem R.of_eq (h : r = .ok v G) (q : W.q v G) : R.to r W tw := by rw [h]; exact q
theorem R.ex_of {Q : D → Hp → Prop} (h : R.to r (Rs.ok Q)) : ∃ v G, r = .ok v G ∧ Q v G := by
  cases r with
  | ok v G => exact ⟨v, G, rfl, h⟩
  | exc c G => exact False.elim h
  | bad => exact False.elim h
theorem to_ite {b : Bool} {x y : Unit → R} {t u} (h1 : b = true → R.to (x ()) W) (h2 : b = false → R.to (y ()) W) : R.to (iteK b x y t u) W tw := by
  cases b with
  | true => exact h1 rfl
  | false => exact h2 rfl
theorem to_iteO {b : Bool} {x y : Unit → O} {t u} (h1 : b = true → O.to (x ()) K) (h2 : b = false → O.to (y ()) K) : O.to (iteK b x y t u) K tk := by
  cases b with
  | true => exact h1 rfl
  | false => exact h2 rfl
theorem to_iteD {p : Prop} [Decidable p] {x y : Unit → R} {t u} (h1 : p → R.to (x ()) W) (h2 : ¬ p → R.to (y ()) W) : R.to (iteK (decide p) x y t u) W tw := by
  by_cases c : p
  · rw [decide_eq_true c]; exact h1 c
  · rw [decide_eq_false c]; exact h2 c
theorem to_iteDO {p : Prop} [Decidable p] {x y : Unit → O} {t u} (h1 : p → O.to (x ()) K) (h2 : ¬ p → O.to (y ()) K) : O.to (iteK (decide p) x y t u) K tk := by
  by_cases c : p
  · rw [decide_eq_true c]; exact h1 c
  · rw [decide_eq_false c]; exact h2 c
theorem to_iteNO {p : Prop} [Decidable p] {x y : Unit → O} {t u} (h1 : ¬ p → O.to (x ()) K) (h2 : p → O.to (y ()) K) : O.to (iteK (!decide p) x y t u) K tk := by
  by_cases c : p
  · rw [decide_eq_true c]; exact h2 c
  · rw [decide_eq_false c]; exact h1 c

def fK (W : Rs) (trn frz : Bool) (m : Nat) : Ks := ⟨fun _ G => R.to (leave trn frz m .non G) W, fun v G => R.to (leave trn frz m v G) W, fun c _ G => W.e c (if trn then G.take m else G), fun _ _ => False, fun _ _ => False⟩
theorem to_fin {trn frz : Bool} {m : Nat} : R.to (fin trn frz m o) W tw = O.to o (fK W trn frz m) := by cases o <;> rfl
@[simp] theorem fK_nx {m frz} : (fK W true frz m).nx s G = W.q .non (G.take m) := by cases frz <;> rfl
@[simp] theorem fK_nxf {m frz} : (fK W false frz m).nx s G = W.q .non G := by cases frz <;> rfl
@[simp] theorem fK_rtt {m} : (fK W true true m).rt v G = R.to (fin true true m (.ret v G)) W := rfl
@[simp] theorem fK_rtf {m} : (fK W true false m).rt v G = R.to (fin true false m (.ret v G)) W := rfl
@[simp] theorem fK_rff {m frz} : (fK W false frz m).rt v G = W.q v G := by cases frz <;> rfl
@[simp] theorem fK_xc {m frz} : (fK W true frz m).xc c s G = W.e c (G.take m) := rfl
@[simp] theorem fK_xcf {m frz} : (fK W false frz m).xc c s G = W.e c G := rfl
theorem run_to {cl : List Nat → Nat → List D → Hp → R} {gl : Nat → Option D} {m : List Nat} {np ns : Nat} {trn frz : Bool} {body : M} {args : List D} (h : args.length = np)
    (hb : O.to (exec cl gl (if trn then G.length :: m else m) body (args.map some ++ List.replicate (ns - np) none) G) (fK W trn frz G.length)) : R.to (run cl gl m ⟨np, ns, trn, frz, body⟩ args G) W tw := by
  unfold run
  rw [if_pos h, to_fin]
  exact hb
theorem call_to {T : Nat → Option Fn} {gl : Nat → Option D} {n : Nat} {ms : List Nat} {f : Nat} {args : List D} {np ns : Nat} {trn frz : Bool} {body : M} (h : T f = some ⟨np, ns, trn, frz, body⟩) (hl : args.length = np)
    (hb : O.to (exec (call T gl n) gl (if trn then G.length :: ms else ms) body (args.map some ++ List.replicate (ns - np) none) G) (fK W trn frz G.length)) : R.to (call T gl (n + 1) ms f args G) W tw := by
  show R.to (optK (T f) _ _) W
  rw [h]
  exact run_to hl hb
theorem Drawn.then {p : Nat} {ok : D → Prop} (h : Drawn r G p ok) (q : ∀ v a b, PotOk b → ok v → W.q v (G.set p (potC a b))) : R.to r W tw := by
  obtain ⟨v, a, b, rfl, o, k⟩ := h
  exact q v a b o k
def DrawnQ (G : Hp) (p : Nat) (ok : D → Prop) : Rs := Rs.ok fun v G' => ∃ a b, G' = G.set p (potC a b) ∧ PotOk b ∧ ok v
@[simp] theorem dq_q {p : Nat} {ok : D → Prop} {G' : Hp} : (DrawnQ G p ok).q v G' = ∃ a b, G' = G.set p (potC a b) ∧ PotOk b ∧ ok v := rfl
theorem Drawn.of {p : Nat} {ok : D → Prop} (h : R.to r (DrawnQ G p ok)) : Drawn r G p ok := by
  obtain ⟨v, _, rfl, a, b, rfl, o, k⟩ := R.ex_of h
  exact ⟨v, a, b, rfl, o, k⟩

theorem for_toG {pt : List Nat} {one : Bool} {step : Env → Hp → O} {g : Option (Nat × Cell)} (Inv : Nat → Env → Hp → Prop) : ∀ (xs : List D) (k : Nat) (s : Env) (G : Hp), Inv k s G →
    (∀ i x s G, xs[i]? = some x → Inv (k + i) s G → still G g = true ∧ ∃ s', bindT pt one s x = some s' ∧ O.to (step s' G) (K.loop (Inv (k + i + 1)))) →
    (∀ s G, Inv (k + xs.length) s G → still G g = true ∧ K.nx s G) → O.to (forF pt one step g xs s G) K tk
  | [], k, s, G, h, _, he => by
    have := he s G h
    show O.to (iteK (still G g) _ _) K
    rw [this.1]; exact this.2
  | x :: xs, k, s, G, h, hs, he => by
    obtain ⟨h1, s', h2, h3⟩ := hs 0 x s G rfl h
    show O.to (iteK (still G g) _ _) K
    rw [h1, iteK_true, h2, optK_some, to_turn]
    refine O.to.mono h3 (fun s G z => ?_) (fun _ _ z => z) (fun _ _ _ z => z) (fun _ _ z => z) (fun s G z => ?_)
    · exact for_toG Inv xs (k + 1) s G z (fun i x s G q z => by
        rw [show k + 1 + i = k + (i + 1) by omega] at z ⊢
        exact hs (i + 1) x s G q z) fun s G z => he s G (by rw [List.length_cons, show k + (xs.length + 1) = k + 1 + xs.length by omega]; exact z)
    · exact for_toG Inv xs (k + 1) s G z (fun i x s G q z => by
        rw [show k + 1 + i = k + (i + 1) by omega] at z ⊢
        exact hs (i + 1) x s G q z) fun s G z => he s G (by rw [List.length_cons, show k + (xs.length + 1) = k + 1 + xs.length by omega]; exact z)
theorem for_to {pt : List Nat} {one : Bool} {step : Env → Hp → O} {xs : List D} (Inv : Nat → Env → Hp → Prop) (h0 : Inv 0 s G)
    (hs : ∀ i x s G, xs[i]? = some x → Inv i s G → ∃ s', bindT pt one s x = some s' ∧ O.to (step s' G) (K.loop (Inv (i + 1))))
    (he : ∀ s G, Inv xs.length s G → K.nx s G) : O.to (forF pt one step none xs s G) K tk :=
  for_toG Inv xs 0 s G h0 (fun i x s G q h => ⟨rfl, by rw [Nat.zero_add] at h ⊢; exact hs i x s G q h⟩) fun s G h => ⟨rfl, by rw [Nat.zero_add] at h; exact he s G h⟩
theorem rangeD_get : ∀ (n : Nat) (lo : Int) (i : Nat), (rangeD lo n)[i]? = if i < n then some (.int (lo + (i : Nat))) else none
  | 0, _, i => by rw [if_neg (by omega)]; rfl
  | n + 1, lo, 0 => by rw [if_pos (by omega)]; show some (D.int lo) = _; rw [show lo + ((0 : Nat) : Int) = lo by omega]
  | n + 1, lo, i + 1 => by
    show (rangeD (lo + 1) n)[i]? = _
    rw [rangeD_get n (lo + 1) i]
    by_cases c : i < n
    · rw [if_pos c, if_pos (by omega), show lo + 1 + (i : Nat) = lo + ((i + 1 : Nat) : Int) by omega]
    · rw [if_neg c, if_neg (by omega)]
theorem rangeD_len : ∀ (n : Nat) (lo : Int), (rangeD lo n).length = n
  | 0, _ => rfl
  | n + 1, lo => by rw [show rangeD lo (n + 1) = .int lo :: rangeD (lo + 1) n from rfl, List.length_cons, rangeD_len n]
theorem range_to {slot : Nat} {step : Env → Hp → O} {lo : Int} {n : Nat} (Inv : Nat → Env → Hp → Prop) (h0 : Inv 0 s G)
    (hs : ∀ i s G, i < n → Inv i s G → O.to (step (s.set slot (some (.int (lo + (i : Nat))))) G) (K.loop (Inv (i + 1))))
    (he : ∀ s G, Inv n s G → K.nx s G) : O.to (forF [slot] true step none (rangeD lo n) s G) K tk :=
  for_to Inv h0 (fun i x s G q h => by
    rw [rangeD_get] at q
    by_cases c : i < n
    · rw [if_pos c] at q; cases q; exact ⟨_, rfl, hs i s G c h⟩
    · rw [if_neg c] at q; cases q) fun s G h => he s G (by rw [rangeD_len] at h; exact h)
theorem range0_to {slot : Nat} {step : Env → Hp → O} {n : Nat} (Inv : Nat → Env → Hp → Prop) (h0 : Inv 0 s G)
    (hs : ∀ i s G, i < n → Inv i s G → O.to (step (s.set slot (some (.int (i : Nat)))) G) (K.loop (Inv (i + 1))))
    (he : ∀ s G, Inv n s G → K.nx s G) : O.to (forF [slot] true step none (rangeD 0 n) s G) K tk :=
  range_to Inv h0 (fun i s G hi h => by rw [Int.zero_add]; exact hs i s G hi h) he
theorem forM_to {α : Type} {pt : List Nat} {one : Bool} {step : Env → Hp → O} {q : α → D} {xs : List α} (Inv : Nat → Env → Hp → Prop) (h0 : Inv 0 s G)
    (hs : ∀ i a s G, xs[i]? = some a → Inv i s G → ∃ s', bindT pt one s (q a) = some s' ∧ O.to (step s' G) (K.loop (Inv (i + 1))))
    (he : ∀ s G, Inv xs.length s G → K.nx s G) : O.to (forF pt one step none (xs.map q) s G) K tk :=
  for_to Inv h0 (fun i x s G e h => by
    rw [List.getElem?_map] at e
    cases e2 : xs[i]? with
    | none => rw [e2] at e; cases e
    | some a => rw [e2] at e; cases e; exact hs i a s G e2 h) fun s G h => he s G (by rw [List.length_map] at h; exact h)
theorem comp_toG {step : D → Hp → R} {g : Option (Nat × Cell)} {k : List D → Hp → R} (Inv : Nat → List D → Hp → Prop) : ∀ (xs : List D) (n : Nat) (acc : List D) (G : Hp), Inv n acc G →
    (∀ i x acc G, xs[i]? = some x → Inv (n + i) acc G → still G g = true ∧ R.to (step x G) ⟨fun r G1 => (∃ y, r = .tup [y] ∧ Inv (n + i + 1) (acc ++ [y]) G1) ∨ (r = .non ∧ Inv (n + i + 1) acc G1), W.e⟩) →
    (∀ acc G, Inv (n + xs.length) acc G → still G g = true ∧ R.to (k acc G) W) → R.to (compF step g xs G acc k) W tw
  | [], n, acc, G, h, _, he => by
    have := he acc G h
    show R.to (iteK (still G g) _ _) W
    rw [this.1]; exact this.2
  | x :: xs, n, acc, G, h, hs, he => by
    obtain ⟨h1, h2⟩ := hs 0 x acc G rfl h
    show R.to (iteK (still G g) _ _) W
    rw [h1, iteK_true, to_bind]
    refine h2.imp (fun r G1 z => ?_) fun _ _ z => z
    have go : ∀ acc G, Inv (n + 1) acc G → R.to (compF step g xs G acc k) W := fun acc G z => comp_toG Inv xs (n + 1) acc G z (fun i x acc G q z => by
        rw [show n + 1 + i = n + (i + 1) by omega] at z ⊢
        exact hs (i + 1) x acc G q z) fun acc G z => he acc G (by rw [List.length_cons, show n + (xs.length + 1) = n + 1 + xs.length by omega]; exact z)
    rcases z with ⟨y, rfl, z⟩ | ⟨rfl, z⟩
    · exact go _ _ z
    · exact go _ _ z
theorem comp_to {step : D → Hp → R} {k : List D → Hp → R} {xs acc : List D} (Inv : Nat → List D → Hp → Prop) (h0 : Inv 0 acc G)
    (hs : ∀ i x acc G, xs[i]? = some x → Inv i acc G → R.to (step x G) ⟨fun r G1 => (∃ y, r = .tup [y] ∧ Inv (i + 1) (acc ++ [y]) G1) ∨ (r = .non ∧ Inv (i + 1) acc G1), W.e⟩)
    (he : ∀ acc G, Inv xs.length acc G → R.to (k acc G) W) : R.to (compF step none xs G acc k) W tw :=
  comp_toG Inv xs 0 acc G h0 (fun i x acc G q h => ⟨rfl, by rw [Nat.zero_add] at h ⊢; exact hs i x acc G q h⟩) fun acc G h => ⟨rfl, by rw [Nat.zero_add] at h; exact he acc G h⟩
theorem compF_fil {G : Hp} {step : D → Hp → R} {g : Option (Nat × Cell)} {k : List D → Hp → R} {α : Type} {q f : α → D} {c : α → Bool} (hst : still G g = true) : ∀ (l : List α) (acc : List D),
    (∀ a ∈ l, R.to (step (q a) G) (Rs.ok fun r G1 => G1 = G ∧ r = if c a then .tup [f a] else .non)) → compF step g (l.map q) G acc k = k (acc ++ (l.filter c).map f) G
  | [], acc, _ => by
    show iteK (still G g) _ _ = _
    rw [hst, iteK_true]; simp
  | a :: l, acc, h => by
    obtain ⟨r, G1, e, rfl, hr⟩ := R.ex_of (h a List.mem_cons_self)
    show iteK (still G1 g) _ _ = _
    rw [hst, iteK_true, e, R.bind_ok, hr]
    have ih : ∀ acc : List D, compF step g (l.map q) G1 acc k = k (acc ++ (l.filter c).map f) G1 := fun acc => compF_fil hst l acc fun b hb => h b (List.mem_cons_of_mem _ hb)
    by_cases ca : c a = true
    · rw [if_pos ca, stepK_item, ih, List.filter_cons_of_pos ca, List.map_cons, List.append_assoc]; rfl
    · rw [if_neg ca, stepK_none, ih, List.filter_cons_of_neg ca]
theorem compF_fil_to {step : D → Hp → R} {g : Option (Nat × Cell)} {k : List D → Hp → R} {α : Type} {q f : α → D} {c : α → Bool} {l : List α} {acc : List D} (hst : still G g = true)
    (h : ∀ a ∈ l, R.to (step (q a) G) (Rs.ok fun r G1 => G1 = G ∧ r = if c a then .tup [f a] else .non)) (hk : R.to (k (acc ++ (l.filter c).map f) G) W) : R.to (compF step g (l.map q) G acc k) W tw := by
  rw [compF_fil hst l acc h]; exact hk
theorem compF_map_to {step : D → Hp → R} {g : Option (Nat × Cell)} {k : List D → Hp → R} {α : Type} {q f : α → D} {l : List α} {acc : List D} (hst : still G g = true)
    (h : ∀ a ∈ l, R.to (step (q a) G) (Rs.ok fun r G1 => G1 = G ∧ r = .tup [f a])) (hk : R.to (k (acc ++ l.map f) G) W) : R.to (compF step g (l.map q) G acc k) W tw := by
  refine compF_fil_to (c := fun _ => true) (f := f) hst (fun a ha => (h a ha).ok fun r G1 z => ⟨z.1, by rw [if_pos rfl]; exact z.2⟩) ?_
  rw [List.filter_eq_self.mpr fun _ _ => rfl]; exact hk
end

theorem putF_to {K : Ks} {tk : Tag K} {m : List Nat} {c j q : Nat} {v : D} {ds : List D} {s : Env} {G : Hp} (h : G[q]? = some (.ins c ds)) (hw : wok q m v = true) (hj : j = ds.length) (k : K.nx s (G.set q (.ins c (ds ++ [v])))) : O.to (putF m c j (.ref q) v s G) K tk := by
  have e : putF m c j (.ref q) v s G = .nx s (G.set q (.ins c (ds ++ [v]))) := by
    unfold putF
    dsimp only
    rw [h]
    dsimp only
    rw [if_pos ⟨rfl, hw⟩, if_neg (by omega), if_pos hj]; rfl
  rw [e]; exact k
@[simp] theorem md_t {n : Nat} {G : Hp} : madeD true n G = .ok (.ref n) G := rfl
def Mk (m : List Nat) (G : Hp) : Prop := ∀ k ∈ m, k ≤ G.length
theorem Mk.cons {m : List Nat} {G : Hp} (h : Mk m G) : Mk (G.length :: m) G := fun k hk => by
  rcases List.mem_cons.mp hk with rfl | hk
  · exact Nat.le_refl _
  · exact h k hk
theorem Mk.le {m : List Nat} {G G' : Hp} (h : Mk m G) (hl : G.length ≤ G'.length) : Mk m G' := fun k hk => Nat.le_trans (h k hk) hl
theorem Mk.nil {G : Hp} : Mk [] G := fun k hk => nomatch hk
theorem Mk.wok {m : List Nat} {G : Hp} (h : Mk m G) {q : Nat} {v : D} (hq : G.length ≤ q) : wok q m v = true := by
  unfold PK.wok
  exact List.all_eq_true.mpr fun k hk => by
    have := h k hk
    rw [decide_eq_true (show k ≤ q by omega), Bool.or_true]
theorem wok_tree {m : List Nat} {q : Nat} {v : D} (h : ∀ k, below k v = true) : wok q m v = true := by
  unfold PK.wok
  exact List.all_eq_true.mpr fun k hk => by rw [h k, Bool.true_or]
theorem app_to {W : Rs} {tw : Tag W} {w : Bool} {m : List Nat} {q : Nat} {v : D} {ds : List D} {G : Hp} (h : G[q]? = some (.lst ds)) (hw : wok q m v = true) (hl : ds.length < 1000000) (k : W.q .non (G.set q (.lst (ds ++ [v])))) : R.to (mtD .append w m (.ref q) [v] G) W tw := by
  have e : mtD .append w m (.ref q) [v] G = .ok .non (G.set q (.lst (ds ++ [v]))) := by
    show (match G[q]? with | some (.lst ds) => if wok q m v && decide (ds.length < 1000000) then R.ok .non (setC G q (.lst (ds ++ [v]))) else .bad | _ => .bad) = _
    rw [h]
    show (if (wok q m v && decide (ds.length < 1000000)) = true then _ else _) = _
    rw [hw, decide_eq_true hl]; rfl
  rw [e]; exact k

theorem hp_0 {G X : Hp} : (G ++ X)[G.length]? = X[0]? := by rw [List.getElem?_append_right (by omega), Nat.sub_self]
theorem hp_k {G X : Hp} {k : Nat} : (G ++ X)[G.length + k]? = X[k]? := by rw [List.getElem?_append_right (by omega), show G.length + k - G.length = k by omega]
theorem hp_s0 {G X : Hp} {c : Cell} : (G ++ X).set G.length c = G ++ X.set 0 c := by rw [List.set_append_right _ _ (by omega), Nat.sub_self]
theorem hp_sk {G X : Hp} {c : Cell} {k : Nat} : (G ++ X).set (G.length + k) c = G ++ X.set k c := by rw [List.set_append_right _ _ (by omega), show G.length + k - G.length = k by omega]
theorem hp_in {G X : Hp} {p : Nat} {c : Cell} (h : G[p]? = some c) : (G ++ X)[p]? = some c := by rw [List.getElem?_append_left (hp_lt h)]; exact h
def Ks.only (P : Env → Hp → Prop) : Ks := ⟨P, fun _ _ => False, fun _ _ _ => False, fun _ _ => False, fun _ _ => False⟩
@[simp] theorem ko_nx {P : Env → Hp → Prop} {s : Env} {G : Hp} : (Ks.only P).nx s G = P s G := rfl
theorem to_mid {o : O} {K : Ks} {tk : Tag K} (P : Env → Hp → Prop) (h : O.to o (Ks.only P)) (k : ∀ s G, P s G → K.nx s G) : O.to o K tk :=
  O.to.mono h k (fun _ _ z => False.elim z) (fun _ _ _ z => False.elim z) (fun _ _ z => False.elim z) (fun _ _ z => False.elim z)
section
variable {w : Bool} {ds : List D} {a b : Int} {G : Hp} {z : Str}
@[simp] theorem sl_l01 : slD w (.lst ds) (.exc 0) (.int b) G = mkl w (cutD ds none (some b)) G := rfl
@[simp] theorem sl_l10 : slD w (.lst ds) (.int a) (.exc 0) G = mkl w (cutD ds (some a) none) G := rfl
@[simp] theorem sl_l11 : slD w (.lst ds) (.int a) (.int b) G = mkl w (cutD ds (some a) (some b)) G := rfl
@[simp] theorem sl_f01 : slD w (.fz ds) (.exc 0) (.int b) G = mkl w (cutD ds none (some b)) G := rfl
@[simp] theorem sl_f10 : slD w (.fz ds) (.int a) (.exc 0) G = mkl w (cutD ds (some a) none) G := rfl
@[simp] theorem sl_t01 : slD w (.tup ds) (.exc 0) (.int b) G = .ok (.tup (cutD ds none (some b))) G := rfl
@[simp] theorem sl_t10 : slD w (.tup ds) (.int a) (.exc 0) G = .ok (.tup (cutD ds (some a) none)) G := rfl
theorem cut_lo {xs : List D} {k : Nat} (h : k ≤ xs.length) : cutD xs (some (k : Int)) none = xs.drop k := by
  have e1 : HT.sIx xs.length 0 (some (k : Int)) = k := by
    unfold HT.sIx
    simp only []
    split <;> omega
  have e2 : HT.sIx xs.length xs.length none = xs.length := rfl
  unfold cutD
  rw [e1, e2, List.take_of_length_le (by rw [List.length_drop]; exact Nat.le_refl _)]
end

theorem draw_to {r : R} {W : Rs} {tw : Tag W} {G : Hp} {p : Nat} {a b : Int} {ok : D → Prop} (h : Drawn r (G.set p (potC a b)) p ok) (q : ∀ v a' b', PotOk b' → ok v → W.q v (G.set p (potC a' b'))) : R.to r W tw := by
  obtain ⟨v, a', b', rfl, o, k⟩ := h
  rw [to_ok, List.set_set]
  exact q v a' b' o k
theorem PotAt.eq {G : Hp} {p : Nat} (h : PotAt G p) : ∃ a b, PotOk b ∧ G = G.set p (potC a b) := by
  obtain ⟨a, b, h, o⟩ := h
  refine ⟨a, b, o, ?_⟩
  have hp := hp_lt h
  apply List.ext_getElem?
  intro i
  by_cases c : i = p
  · subst c
    rw [List.getElem?_set_self hp, h]
  · rw [List.getElem?_set_ne (fun z => c z.symm)]
@[simp] theorem bi_min1_2 {i j : Int} {w : Bool} {G : Hp} : biD .min1 w [.lst [.int i, .int j]] G = .ok (.int (if j < i then j else i)) G := rfl
@[simp] theorem bi_max1_2 {i j : Int} {w : Bool} {G : Hp} : biD .max1 w [.lst [.int i, .int j]] G = .ok (.int (if j > i then j else i)) G := rfl
@[simp] theorem hp_len_set {G : Hp} {p : Nat} {c : Cell} : (G.set p c).length = G.length := List.length_set
@[simp] theorem hp_take_all {G : Hp} : List.take G.length G = G := List.take_length
end PK
namespace PK
open PySem PyProof
def dat (b : Bool) : Nat → D → Bool
  | _ + 1, .non => true
  | _ + 1, .bl _ => b
  | _ + 1, .int _ => true
  | _ + 1, .str s => PyData.strOk s
  | n + 1, .tup ds => ds.all (dat b n)
  | n + 1, .lst ds => ds.all (dat b n)
  | _, _ => false
def pdn : Nat → D → PyData
  | _ + 1, .bl c => .bool c
  | _ + 1, .int i => .int i
  | _ + 1, .str s => .str s
  | n + 1, .tup ds => .tuple (ds.map (pdn n))
  | n + 1, .lst ds => .list (ds.map (pdn n))
  | _, _ => .none
theorem pds_map {f : D → Option PyData} {g : D → PyData} : ∀ {ds : List D}, (∀ d ∈ ds, f d = some (g d)) → pds f ds = some (ds.map g)
  | [], _ => rfl
  | d :: ds, h => by
    show (f d).bind (fun x => (pds f ds).bind fun xs => some (x :: xs)) = _
    rw [h d List.mem_cons_self, pds_map fun e he => h e (List.mem_cons_of_mem _ he)]; rfl
theorem pd_dat {b : Bool} {G : Hp} : ∀ (n : Nat) (x : D), dat b n x = true → pd G n x = some (pdn n x)
  | 0, x, h => by cases x <;> simp [dat] at h
  | n + 1, .non, h => rfl
  | n + 1, .bl c, h => rfl
  | n + 1, .int i, h => rfl
  | n + 1, .str s, h => rfl
  | n + 1, .tup ds, h => by
    have h : ds.all (dat b n) = true := h
    show (pds (pd G n) ds).map PyData.tuple = _
    rw [pds_map (g := pdn n) fun d hd => pd_dat n d (List.all_eq_true.mp h d hd)]; rfl
  | n + 1, .lst ds, h => by
    have h : ds.all (dat b n) = true := h
    show (pds (pd G n) ds).map PyData.list = _
    rw [pds_map (g := pdn n) fun d hd => pd_dat n d (List.all_eq_true.mp h d hd)]; rfl
  | n + 1, .fz ds, h => by simp [dat] at h
  | n + 1, .ref i, h => by simp [dat] at h
  | n + 1, .ins c ds, h => by simp [dat] at h
  | n + 1, .exc c, h => by simp [dat] at h
theorem lay_all {g : D → PyData} : ∀ {ds : List D}, (∀ d ∈ ds, (g d).canLay0 = true) → PyData.canLayAll0 (ds.map g) = true
  | [], _ => rfl
  | d :: ds, h => by
    show PyData.canLayAll0 (g d :: ds.map g) = true
    rw [PyData.canLayAll0, h d List.mem_cons_self, lay_all fun e he => h e (List.mem_cons_of_mem _ he)]; rfl
theorem lay_dat {b : Bool} : ∀ (n : Nat) (x : D), dat b n x = true → (pdn n x).canLay0 = true
  | 0, x, h => by cases x <;> simp [dat] at h
  | n + 1, .non, h => rfl
  | n + 1, .bl c, h => rfl
  | n + 1, .int i, h => rfl
  | n + 1, .str s, h => h
  | n + 1, .tup ds, h => by
    have h : ds.all (dat b n) = true := h
    show PyData.canLayAll0 (ds.map (pdn n)) = true
    exact lay_all fun d hd => lay_dat n d (List.all_eq_true.mp h d hd)
  | n + 1, .lst ds, h => by
    have h : ds.all (dat b n) = true := h
    show PyData.canLayAll0 (ds.map (pdn n)) = true
    exact lay_all fun d hd => lay_dat n d (List.all_eq_true.mp h d hd)
  | n + 1, .fz ds, h => by simp [dat] at h
  | n + 1, .ref i, h => by simp [dat] at h
  | n + 1, .ins c ds, h => by simp [dat] at h
  | n + 1, .exc c, h => by simp [dat] at h
theorem shape_dat {b : Bool} {x : D} (h : dat b 8 x = true) : SeqAt.shaped (pdn 8 x) = true := by
  have e := (PKS.pd_depth (G := []) 8 x _ (pd_dat 8 x h)).1
  unfold SeqAt.shaped
  rw [lay_dat 8 x h, decide_eq_true (by omega)]; rfl
mutual
theorem eqv_dat : ∀ (n : Nat) (x y : D), dat false n x = true → dat false n y = true → PyData.eqv (pdn n x) (pdn n y) = decide (x = y)
  | 0, x, y, h, _ => by cases x <;> simp [dat] at h
  | n + 1, x, y, h, k => by
    cases x <;> first | (simp [dat] at h; done) | skip
    all_goals cases y <;> first | (simp [dat] at k; done) | skip
    all_goals try (first | (simp [pdn, PyData.eqv]; done) | (rename_i i j; show PyData.eqv (.int i) (.int j) = decide _; rw [PyData.eqv]; by_cases c : i = j <;> simp [c]; done) | (rename_i i j; show PyData.eqv (.str i) (.str j) = decide _; rw [PyData.eqv]; by_cases c : i = j <;> simp [c]; done))
    · rename_i ds es
      have h : ds.all (dat false n) = true := h
      have k : es.all (dat false n) = true := k
      show PyData.eqv (.tuple (ds.map (pdn n))) (.tuple (es.map (pdn n))) = _
      rw [PyData.eqv, eqvs_dat n ds es h k]
      exact decide_eq_decide.mpr ⟨fun e => by rw [e], fun e => by cases e; rfl⟩
    · rename_i ds es
      have h : ds.all (dat false n) = true := h
      have k : es.all (dat false n) = true := k
      show PyData.eqv (.list (ds.map (pdn n))) (.list (es.map (pdn n))) = _
      rw [PyData.eqv, eqvs_dat n ds es h k]
      exact decide_eq_decide.mpr ⟨fun e => by rw [e], fun e => by cases e; rfl⟩
termination_by n x y => (n, 0)
theorem eqvs_dat : ∀ (n : Nat) (xs ys : List D), xs.all (dat false n) = true → ys.all (dat false n) = true → PyData.eqvAll (xs.map (pdn n)) (ys.map (pdn n)) = decide (xs = ys)
  | n, [], [], _, _ => rfl
  | n, [], y :: ys, _, _ => rfl
  | n, x :: xs, [], _, _ => rfl
  | n, x :: xs, y :: ys, h, k => by
    rw [List.all_cons, Bool.and_eq_true] at h k
    show PyData.eqvAll (pdn n x :: xs.map (pdn n)) (pdn n y :: ys.map (pdn n)) = _
    rw [PyData.eqvAll, eqv_dat n x y h.1 k.1, eqvs_dat n xs ys h.2 k.2]
    by_cases c : x = y
    · by_cases c2 : xs = ys <;> simp [c, c2]
    · simp [c]
termination_by n xs ys => (n, xs.length + 1)
end
theorem dat_map {α : Type} {b : Bool} {n : Nat} {f : α → D} {xs : List α} (h : ∀ a ∈ xs, dat b n (f a) = true) : (xs.map f).all (dat b n) = true := List.all_eq_true.mpr fun d hd => by
  obtain ⟨a, ha, rfl⟩ := List.mem_map.mp hd
  exact h a ha
end PK
namespace PK
open PySem
theorem wok_of_below {q : Nat} {m : List Nat} {v : D} (h : ∀ k, below k v = true) : wok q m v = true := List.all_eq_true.mpr fun k _ => by rw [h k]; rfl
section
variable {cl : List Nat → Nat → List D → Hp → R} {gl : Nat → Option D} {ms : List Nat} {cell pot wide key t : Nat}
end
end PK
namespace PK
open PySem
section
variable {cl : List Nat → Nat → List D → Hp → R} {gl : Nat → Option D} {ms : List Nat} {cell pot wide key t : Nat} {G : Hp}
end
end PK
namespace PK
open PySem
theorem blsD_map {α : Type} (f : α → Bool) : ∀ l : List α, blsD (l.map fun x => .bl (f x)) = some (l.map f)
  | [] => rfl
  | x :: l => by show (blsD (l.map fun x => .bl (f x))).map _ = _; rw [blsD_map f l]; rfl
section
variable {cl : List Nat → Nat → List D → Hp → R} {gl : Nat → Option D} {ms : List Nat} {G : Hp}
end
end PK
namespace PK
open PySem TL PySem.StrLaws
def numT (i : Int) : List Nat := if i < 0 then 45 :: numL i.natAbs else numL i.natAbs
theorem tl_nstr (i : Int) : tl (nstr i) = numT i := by
  unfold nstr numT
  cases i with
  | ofNat n =>
    rw [if_neg (by simp)]
    exact tl_num n
  | negSucc n =>
    rw [if_pos (Int.negSucc_lt_zero n)]
    show tl (Str.ofString ("-" ++ toString (n + 1))) = 45 :: numL (n + 1)
    rw [tl_ofString, String.toList_append, List.map_append]
    have h := tl_num (n + 1)
    rw [tl_ofString] at h
    show ("-".toList).map Char.toNat ++ _ = _
    have : toString (((n + 1 : Nat)) : Int) = toString (n + 1) := rfl
    rw [this] at h
    rw [h]; rfl
theorem numT_free {i : Int} {s : Nat} (h : s ≠ 45) (h2 : s < 48 ∨ 57 < s) : s ∉ numT i := fun hm => by
  unfold numT at hm
  split at hm
  · rcases List.mem_cons.mp hm with e | e
    · exact h e
    · exact numL_free h2 e
  · exact numL_free h2 hm
theorem numT_len {i : Int} {k : Nat} (hk : 0 < k) (h : i.natAbs < 10 ^ k) : (numT i).length ≤ k + 1 := by
  have := numL_len hk h
  unfold numT
  split
  · rw [List.length_cons]; omega
  · omega
theorem nstr_len {i : Int} {k : Nat} (hk : 0 < k) (h : i.natAbs < 10 ^ k) : (nstr i).length ≤ k + 1 := by
  rw [len_tl, tl_nstr]; exact numT_len hk h
end PK
namespace PK
open PySem TL
section
variable {G : Hp} {w : Bool} {x : D} {ds : List D} {a : Str} {i j : Int} {l h : D}
@[simp] theorem sl_lst : slD w (.lst ds) l h G = optK (partD l) (fun lo => optK (partD h) (fun hi => mkl w (cutD ds lo hi) G) .bad) .bad := by
  unfold slD
  cases partD l with
  | none => rfl
  | some lo => cases partD h <;> rfl
@[simp] theorem sl_str {z : Str} : slD w (.str z) l h G = optK (partD l) (fun lo => optK (partD h) (fun hi => iteK (szOk z.length) (fun _ => .ok (.str (L2.cutS z lo hi)) G) fun _ => .bad) .bad) .bad := by
  unfold slD
  cases partD l with
  | none => rfl
  | some lo =>
    cases partD h with
    | none => rfl
    | some hi =>
      simp only [optK_some]
      cases szOk z.length <;> rfl
end
theorem join_len (y : Str) : ∀ parts : List Str, (Txt.join y parts).length ≤ (parts.map Str.length).sum + parts.length * y.length := fun parts => by
  rw [join_eq, len_tl, tl_join]
  induction parts with
  | nil => simp [joinL]
  | cons p r ih =>
    cases r with
    | nil => simp [joinL, len_tl]
    | cons q r =>
      have e : joinL (tl y) ((p :: q :: r).map tl) = tl p ++ (tl y ++ joinL (tl y) ((q :: r).map tl)) := rfl
      have e2 : (List.map Str.length (p :: q :: r)).sum = p.length + (List.map Str.length (q :: r)).sum := by rw [List.map_cons, List.sum_cons]
      have e3 : (p :: q :: r).length * y.length = (q :: r).length * y.length + y.length := by rw [List.length_cons, Nat.add_mul, Nat.one_mul]
      rw [e, List.length_append, List.length_append, e2, e3]
      have h1 := len_tl p
      have h2 := len_tl y
      omega
end PK
namespace PK
open PySem TL
def slash : Str := Str.ofString "/"
def wrE (a : Int) (k : Str) (b : Int) : Str := Txt.join slash [nstr a, k, nstr b]
section
variable {cl : List Nat → Nat → List D → Hp → R} {gl : Nat → Option D} {ms : List Nat} {G : Hp}
end
end PK
namespace PK
open PySem TL
structure En where
  a : Int
  k : Str
  b : Int
def enD (e : En) : D := .tup [.int e.a, .str e.k, .int e.b]
def enL (e : En) : D := .lst [.int e.a, .str e.k, .int e.b]
def En.wr (e : En) : Str := wrE e.a e.k e.b
structure EnOk (e : En) : Prop where
  a : e.a.natAbs < 10 ^ 30
  b : e.b.natAbs < 10 ^ 30
  k1 : 1 ≤ e.k.length
  k8 : e.k.length ≤ 8
  ks : ∀ c ∈ tl e.k, c ∈ tl alph
theorem EnOk.la {e : En} (h : EnOk e) : (nstr e.a).length ≤ 31 := nstr_len (by omega) h.a
def figs : Str := Str.ofString "0123456789"
section
variable {cl : List Nat → Nat → List D → Hp → R} {gl : Nat → Option D} {ms : List Nat} {G : Hp}
end
end PK
namespace PK
namespace Ba
open PySem
structure B6 where
  n : Int
  t : Int
  l : Int
  g : Int
  f : En
  z : En
abbrev B := Option B6
def bef (x y : En) : Bool := decide (x.a < y.a) || (decide (x.a = y.a) && decide (x.k.cps.toList < y.k.cps.toList))
def one (e : En) : B6 := ⟨1, e.b, e.b, e.b, e, e⟩
def both (x y : B6) : B6 := ⟨x.n + y.n, x.t + y.t, if y.l < x.l then y.l else x.l, if y.g > x.g then y.g else x.g, if bef y.f x.f then y.f else x.f, if bef x.z y.z then y.z else x.z⟩
def join : B → B → B
  | none, y => y
  | x, none => x
  | some x, some y => some (both x y)
def barOf (es : List En) : B := es.foldl (fun b e => join b (some (one e))) none
structure Spec (es : List En) (b : B6) : Prop where
  n : b.n = es.length
  t : b.t = (es.map En.b).sum
  l : (∃ e ∈ es, e.b = b.l) ∧ ∀ e ∈ es, b.l ≤ e.b
  g : (∃ e ∈ es, e.b = b.g) ∧ ∀ e ∈ es, e.b ≤ b.g
  f : b.f ∈ es ∧ ∀ e ∈ es, bef e b.f = false
  z : b.z ∈ es ∧ ∀ e ∈ es, bef b.z e = false
def Unlike (es : List En) : Prop := ∀ x ∈ es, ∀ y ∈ es, x.k = y.k → x = y
end Ba
end PK
namespace PK
namespace Pl
structure S4 where
  c : Int
  t : Int
  l : Int
  g : Int
deriving DecidableEq
abbrev S := Option S4
def cnt : S → Int
  | none => 0
  | some s => s.c
def tot : S → Int
  | none => 0
  | some s => s.t
def add1 : S → Int → S4
  | none, v => ⟨1, v, v, v⟩
  | some s, v => ⟨s.c + 1, s.t + v, if v < s.l then v else s.l, if v > s.g then v else s.g⟩
def added (s : S) (vs : List Int) : S := vs.foldl (fun s v => some (add1 s v)) s
structure Spec (s : S) (vs : List Int) (r : S4) : Prop where
  c : r.c = cnt s + vs.length
  t : r.t = tot s + vs.sum
  lo : ∀ v ∈ vs, r.l ≤ v ∧ v ≤ r.g
  st : ∀ q, s = some q → r.l ≤ q.l ∧ q.g ≤ r.g
  hl : r.l ∈ vs ∨ ∃ q, s = some q ∧ r.l = q.l
  hg : r.g ∈ vs ∨ ∃ q, s = some q ∧ r.g = q.g
structure Val (s : S4) : Prop where
  c : 1 ≤ s.c
  lg : s.l ≤ s.g
  t1 : s.l * (s.c - 1) + s.g ≤ s.t
  t2 : s.t ≤ s.g * (s.c - 1) + s.l
  l1 : -1000000000000000000000000000000 < s.l
  g1 : s.g < 1000000000000000000000000000000
def within (s : S) (g : S4) : Bool := match s with
  | none => true
  | some q => decide (g.l ≤ q.l) && decide (g.g ≥ q.g)
structure Leads (s : S) (g : S) (lo hi : Int) (ps : List Int) : Prop where
  len : (ps.length : Int) = cnt g - cnt s
  bd : ∀ v ∈ ps, lo ≤ v ∧ v ≤ hi
  so : ps.Pairwise (· ≤ ·)
  ad : added s ps = g
end Pl
end PK
namespace PK
namespace Pl
open PySem
def W30 (k : Int) : Prop := -1000000000000000000000000000000 < k ∧ k < 1000000000000000000000000000000
@[simp] theorem bd_mull {w : Bool} {ds : List D} {k : Int} {G : Hp} : binD .mul w (.lst ds) (.int k) G = iteK (szOk (ds.length * k.toNat) && decide (-(2 ^ 63) ≤ k ∧ k < 2 ^ 63)) (fun _ => mkl w (List.replicate k.toNat ds).flatten G) fun _ => .bad := by
  show (if (szOk (ds.length * k.toNat) && decide (-(2 ^ 63) ≤ k ∧ k < 2 ^ 63)) = true then mkl w (List.replicate k.toNat ds).flatten G else .bad) = _
  cases (szOk (ds.length * k.toNat) && decide (-(2 ^ 63) ≤ k ∧ k < 2 ^ 63)) <;> rfl
section
variable {cl : List Nat → Nat → List D → Hp → R} {gl : Nat → Option D} {ms : List Nat} {G : Hp}
end
end Pl
end PK
namespace PK
namespace Pl
open PySem
section
variable {cl : List Nat → Nat → List D → Hp → R} {gl : Nat → Option D} {ms : List Nat} {G : Hp}
end
end Pl
end PK
namespace PK
namespace Pl
open PySem
section
variable {cl : List Nat → Nat → List D → Hp → R} {gl : Nat → Option D} {ms : List Nat} {G : Hp}
end
end Pl
end PK
namespace PK
namespace Pl
open PySem
def fT (u : S) : D := .int (tot u)
section
variable {cl : List Nat → Nat → List D → Hp → R} {gl : Nat → Option D} {ms : List Nat} {G : Hp}
end
end Pl
end PK
namespace PK
open PySem TL
def blank : Str := Str.ofString " "
def wrT (es : List En) : Str := Txt.join blank (es.map En.wr)
theorem strsD_map {α : Type} (f : α → Str) : ∀ l : List α, strsD (l.map fun x => .str (f x)) = some (l.map f)
  | [] => rfl
  | x :: l => by show (strsD (l.map fun x => .str (f x))).map _ = _; rw [strsD_map f l]; rfl
section
variable {cl : List Nat → Nat → List D → Hp → R} {gl : Nat → Option D} {ms : List Nat} {G : Hp}
theorem enum_map {f : En → D} : ∀ (k : Nat) (l : List En) (j : Nat) , enumD (k : Int) (l.map f) = enumD (k : Int) (l.map f) := fun _ _ _ => rfl
end
end PK
namespace PK
open PySem TL
def enP (e : En) : PyData := .tuple [.int e.a, .str e.k, .int e.b]
def enQ (e : En) : PyData := .list [.int e.a, .str e.k, .int e.b]
theorem pds_on {α : Type} {f : D → Option PyData} {g : α → D} {h : α → PyData} (hf : ∀ a, f (g a) = some (h a)) : ∀ l : List α, pds f (l.map g) = some (l.map h)
  | [] => rfl
  | a :: l => by
    show (f (g a)).bind _ = _
    rw [hf a]
    show (pds f (l.map g)).bind _ = _
    rw [pds_on hf l]; rfl
theorem show_int {w : Int} (h : w.natAbs < 10 ^ 30) : PyData.showable (.int w) = true := by
  show decide (w.natAbs.log2 < 1920) = true
  refine decide_eq_true ?_
  by_cases c : w.natAbs = 0
  · rw [c]; decide
  · exact (Nat.log2_lt c).mpr (Nat.lt_trans h (by decide))
theorem show_en {e : En} (h : EnOk e) : PyData.showable (enP e) = true ∧ PyData.showable (enQ e) = true := by
  have a := show_int h.a
  have b := show_int h.b
  have : PyData.showable (.str e.k) = true := rfl
  constructor
  · show (PyData.showable _ && (PyData.showable _ && (PyData.showable _ && true))) = true
    rw [a, b, this]; rfl
  · show (PyData.showable _ && (PyData.showable _ && (PyData.showable _ && true))) = true
    rw [a, b, this]; rfl
theorem showAll {α : Type} {h : α → PyData} : ∀ {l : List α}, (∀ a ∈ l, PyData.showable (h a) = true) → PyData.showableAll (l.map h) = true
  | [], _ => rfl
  | a :: l, q => by
    show (PyData.showable _ && _) = true
    rw [q a List.mem_cons_self, showAll fun x hx => q x (List.mem_cons_of_mem _ hx)]; rfl
theorem uba_le {α : Type} {h : α → PyData} {n : Nat} : ∀ {l : List α}, (∀ a ∈ l, ub (h a) ≤ n) → uba (l.map h) ≤ (n + 2) * l.length
  | [], _ => Nat.le_of_eq rfl
  | a :: l, q => by
    show ub (h a) + 2 + uba _ ≤ _
    have := q a List.mem_cons_self
    have := uba_le fun x hx => q x (List.mem_cons_of_mem a hx)
    rw [List.length_cons, Nat.mul_add]
    omega
theorem ub_int {w : Int} (h : w.natAbs < 10 ^ 30) : ub (.int w) ≤ 62 := by
  show (if w.natAbs < 10 ^ 60 then 62 else 700) ≤ 62
  rw [if_pos (Nat.lt_trans h (by decide))]; exact Nat.le_refl _
theorem alph_lt {c : Nat} (h : c ∈ tl alph) : c < 16 ^ 8 := by
  have : c < 256 := by revert c; decide
  exact Nat.lt_trans this (by decide)
theorem ub_key {e : En} (h : EnOk e) : ub (.str e.k) ≤ 82 := by
  have := StrLaws.reprText_len e.k fun c hc => alph_lt (h.ks c hc)
  have := h.k8
  show (reprText e.k).length ≤ 82
  omega
theorem ub_en {e : En} (h : EnOk e) : ub (enP e) ≤ 400 ∧ ub (enQ e) ≤ 400 := by
  have a := ub_int h.a
  have b := ub_int h.b
  have k := ub_key h
  constructor
  · show ub (.int e.a) + 2 + (ub (.str e.k) + 2 + (ub (.int e.b) + 2 + 0)) + 3 ≤ 400
    omega
  · show ub (.int e.a) + 2 + (ub (.str e.k) + 2 + (ub (.int e.b) + 2 + 0)) + 3 ≤ 400
    omega
theorem repr_of {G : Hp} {x : D} {d : PyData} (h : pd G 8 x = some d) (hs : isSeq x = true) (hw : d.showable = true) (hu : ub d ≤ 10000000) : reprD G x = .ok (.str d.shown) G := by
  unfold reprD
  rw [h]
  show (if (isSeq x && d.showable && decide (ub d ≤ 10000000)) = true then _ else _) = _
  rw [hs, hw, decide_eq_true hu]; rfl
theorem repr_ens {es : List En} (h : ∀ e ∈ es, EnOk e) (hn : es.length ≤ 60) :
    (∀ G, reprD G (.lst (es.map enD)) = .ok (.str (PyData.shown (.list (es.map enP)))) G) ∧ (∀ G, reprD G (.lst (es.map enL)) = .ok (.str (PyData.shown (.list (es.map enQ)))) G) ∧
    (∀ (G : Hp) p, G[p]? = some (.lst (es.map enD)) → reprD G (.ref p) = .ok (.str (PyData.shown (.list (es.map enP)))) G) := by
  have s1 : PyData.showable (.list (es.map enP)) = true := showAll fun e he => (show_en (h e he)).1
  have s2 : PyData.showable (.list (es.map enQ)) = true := showAll fun e he => (show_en (h e he)).2
  have u1 : ub (.list (es.map enP)) ≤ 10000000 := by
    have := uba_le (h := enP) (n := 400) fun e he => (ub_en (h e he)).1
    show uba (es.map enP) + 3 ≤ _
    omega
  have u2 : ub (.list (es.map enQ)) ≤ 10000000 := by
    have := uba_le (h := enQ) (n := 400) fun e he => (ub_en (h e he)).2
    show uba (es.map enQ) + 3 ≤ _
    omega
  refine ⟨fun G => repr_of ?_ rfl s1 u1, fun G => repr_of ?_ rfl s2 u2, fun G p hp => repr_of ?_ rfl s1 u1⟩
  · show (pds (pd G 7) (es.map enD)).map PyData.list = _
    rw [pds_on (f := pd G 7) (g := enD) (h := enP) fun e => rfl]; rfl
  · show (pds (pd G 7) (es.map enL)).map PyData.list = _
    rw [pds_on (f := pd G 7) (g := enL) (h := enQ) fun e => rfl]; rfl
  · show (match G[p]? with | some (.lst ds) => (pds (pd G 7) ds).map PyData.list | _ => none) = _
    rw [hp]
    show (pds (pd G 7) (es.map enD)).map PyData.list = _
    rw [pds_on (f := pd G 7) (g := enD) (h := enP) fun e => rfl]; rfl
section
variable {cl : List Nat → Nat → List D → Hp → R} {gl : Nat → Option D} {ms : List Nat} {G : Hp} {ww tx rd rc : Nat}
def WritesR (cl : List Nat → Nat → List D → Hp → R) (i : Nat) : Prop := ∀ (es : List En) (x : D) (xs : List D) (ms : List Nat) (G : Hp), (∀ e ∈ es, EnOk e) → es.length ≤ 60 → itD .val [x] G = some (xs, none) → xs = es.map enD ∨ xs = es.map enL → cl ms i [x] G = .ok (.str (wrT es)) G
def ReadsR (cl : List Nat → Nat → List D → Hp → R) (i : Nat) : Prop := ∀ (es : List En) (ms : List Nat) (G : Hp), (∀ e ∈ es, EnOk e) → es.length ≤ 60 → cl ms i [.str (wrT es)] G = .ok (.lst (es.map enD)) G
def ReadsC (cl : List Nat → Nat → List D → Hp → R) (i : Nat) : Prop := ∀ (es : List En) (ms : List Nat) (G : Hp), (∀ e ∈ es, EnOk e) → es.length ≤ 60 → cl ms i [.str (wrT es)] G = .ok (.ref G.length) (G ++ [.lst (es.map enD)])
def TextR (cl : List Nat → Nat → List D → Hp → R) (i : Nat) : Prop := ∀ (es : List En) (ms : List Nat) (G : Hp), (∀ e ∈ es, EnOk e) → es.length ≤ 60 → cl ms i [.lst (es.map enD)] G = .ok (.str (wrT es)) G
def bLaw1 : M := (.set 3 (.comp false .val [7] [7] true (.cons (.v 2) .nil) (.c (.bl true)) (.bi .list false (.cons (.v 7) .nil))))
def bLaw4 (ww tx : Nat) : M := (.ite (.or_ (.cmp .ne (.v 5) (.call tx (.cons (.v 2) .nil))) (.or_ (.cmp .ne (.call ww (.cons (.bi .tuple false (.cons (.v 2) .nil)) .nil)) (.v 5)) (.cmp .ne (.bi .repr false (.cons (.v 3) .nil)) (.v 4)))) (.ret (.c (.bl false)))
  .pass)
def bLaw6 : M := (.ite (.or_ (.not_ (.isi [.list] (.v 6))) (.cmp .ne (.bi .repr false (.cons (.v 6) .nil)) (.bi .repr false (.cons (.v 2) .nil)))) (.ret (.c (.bl false)))
  .pass)
def bLaw8 (rd : Nat) : M := (.ite (.cmp .ne (.bi .repr false (.cons (.call rd (.cons (.v 5) .nil)) .nil)) (.bi .repr false (.cons (.v 2) .nil))) (.ret (.c (.bl false)))
  .pass)
def bLaw (ww tx rd rc : Nat) : M := (.seq bLaw1
  (.seq (.set 4 (.bi .repr false (.cons (.v 3) .nil)))
  (.seq (.set 5 (.call ww (.cons (.v 3) .nil)))
  (.seq (bLaw4 ww tx)
  (.seq (.set 6 (.call rc (.cons (.v 5) .nil)))
  (.seq bLaw6
  (.seq (.ex (.mt .append false (.v 6) (.cons (.c .non) .nil)))
  (bLaw8 rd))))))))
theorem law_turn (W : WritesR cl ww) (T : TextR cl tx) (Rd : ReadsR cl rd) (Rc : ReadsC cl rc) {es : List En} (hes : ∀ e ∈ es, EnOk e) (hn : es.length ≤ 60) {x0 x1 x3 x4 x5 x6 x7 : Option D} :
    ∃ y3 y4 y5 y6 y7 c, exec cl gl ms (bLaw ww tx rd rc) [x0, x1, some (.lst (es.map enD)), x3, x4, x5, x6, x7] G = .nx [x0, x1, some (.lst (es.map enD)), y3, y4, y5, y6, y7] (G ++ [c]) := by
  obtain ⟨r1, r2, r3⟩ := repr_ens hes hn
  have w1 := W es (.lst (es.map enL)) (es.map enL) ms G hes hn rfl (.inr rfl)
  have w2 := W es (.tup (es.map enD)) (es.map enD) ms G hes hn rfl (.inl rfl)
  have t1 := T es ms G hes hn
  have c1 := Rc es ms G hes hn
  have c2 := Rd es ms (G ++ [.lst (es.map enD ++ [.non])]) hes hn
  have r3 := r3 (G ++ [.lst (es.map enD)]) G.length (by simp)
  have r1' := r1 (G ++ [.lst (es.map enD)])
  have r1'' := r1 (G ++ [.lst (es.map enD ++ [.non])])
  have r2 := r2 G
  have lt : decide ((es.map enD).length < 1000000) = true := decide_eq_true (by rw [List.length_map]; omega)
  have ap : mtD .append false ms (.ref G.length) [.non] (G ++ [.lst (es.map enD)]) = .ok .non (G ++ [.lst (es.map enD ++ [.non])]) := by
    have e0 : mtD .append false ms (.ref G.length) [.non] (G ++ [.lst (es.map enD)]) = (match (G ++ [Cell.lst (es.map enD)])[G.length]? with | some (.lst ds) => if wok G.length ms .non && decide (ds.length < 1000000) then R.ok .non (setC (G ++ [Cell.lst (es.map enD)]) G.length (.lst (ds ++ [D.non]))) else .bad | _ => .bad) := rfl
    rw [e0]
    rw [show (G ++ [Cell.lst (es.map enD)])[G.length]? = some (.lst (es.map enD)) by simp]
    show (if wok G.length ms .non && decide ((es.map enD).length < 1000000) then R.ok D.non (setC (G ++ [Cell.lst (es.map enD)]) G.length (Cell.lst (es.map enD ++ [D.non]))) else .bad) = _
    rw [wk_non, lt]
    show R.ok D.non ((G ++ [Cell.lst (es.map enD)]).set G.length (Cell.lst (es.map enD ++ [D.non]))) = _
    simp
  have q1 : exec cl gl ms bLaw1 [x0, x1, some (.lst (es.map enD)), x3, x4, x5, x6, x7] G = .nx [x0, x1, some (.lst (es.map enD)), some (.lst (es.map enL)), x4, x5, x6, x7] G := by
    have h : eval cl gl ms (.comp false .val [7] [7] true (.cons (.v 2) .nil) (.c (.bl true)) (.bi .list false (.cons (.v 7) .nil))) [x0, x1, some (.lst (es.map enD)), x3, x4, x5, x6, x7] G = mkl false (es.map enL) G :=
      comp_pure_on (g := enD) es (ds := [.lst (es.map enD)]) (by simp -dsimp) rfl (by omega) fun e he => ⟨_, rfl, by simp -dsimp [wipes, enD, enL]⟩
    unfold bLaw1
    rw [ex_set, h]; rfl
  generalize PyData.shown (.list (es.map enP)) = SP at *
  generalize PyData.shown (.list (es.map enQ)) = SQ at *
  generalize es.map enD = A at *
  generalize es.map enL = B at *
  generalize wrT es = Z at *
  have q2 : exec cl gl ms (.set 4 (.bi .repr false (.cons (.v 3) .nil))) [x0, x1, some (.lst A), some (.lst B), x4, x5, x6, x7] G = .nx [x0, x1, some (.lst A), some (.lst B), some (.str SQ), x5, x6, x7] G := by simp -dsimp [r2]
  have q3 : exec cl gl ms (.set 5 (.call ww (.cons (.v 3) .nil))) [x0, x1, some (.lst A), some (.lst B), some (.str SQ), x5, x6, x7] G = .nx [x0, x1, some (.lst A), some (.lst B), some (.str SQ), some (.str Z), x6, x7] G := by simp -dsimp [w1]
  have q4 : exec cl gl ms (bLaw4 ww tx) [x0, x1, some (.lst A), some (.lst B), some (.str SQ), some (.str Z), x6, x7] G = .nx [x0, x1, some (.lst A), some (.lst B), some (.str SQ), some (.str Z), x6, x7] G := by
    unfold bLaw4
    simp -dsimp [t1, w2, r2]
  have q5 : exec cl gl ms (.set 6 (.call rc (.cons (.v 5) .nil))) [x0, x1, some (.lst A), some (.lst B), some (.str SQ), some (.str Z), x6, x7] G = .nx [x0, x1, some (.lst A), some (.lst B), some (.str SQ), some (.str Z), some (.ref G.length), x7] (G ++ [.lst A]) := by simp -dsimp [c1]
  have q6 : exec cl gl ms bLaw6 [x0, x1, some (.lst A), some (.lst B), some (.str SQ), some (.str Z), some (.ref G.length), x7] (G ++ [.lst A]) = .nx [x0, x1, some (.lst A), some (.lst B), some (.str SQ), some (.str Z), some (.ref G.length), x7] (G ++ [.lst A]) := by
    unfold bLaw6
    have t : typed (G ++ [.lst A]) (.ref G.length) = true := by simp [typed]
    have i : isTy (G ++ [.lst A]) (.ref G.length) .list = true := by simp [isTy]
    simp -dsimp [t, i, r3, r1']
  have q7 : exec cl gl ms (.ex (.mt .append false (.v 6) (.cons (.c .non) .nil))) [x0, x1, some (.lst A), some (.lst B), some (.str SQ), some (.str Z), some (.ref G.length), x7] (G ++ [.lst A]) = .nx [x0, x1, some (.lst A), some (.lst B), some (.str SQ), some (.str Z), some (.ref G.length), x7] (G ++ [.lst (A ++ [.non])]) := by
    simp -dsimp [ap]
  have q8 : exec cl gl ms (bLaw8 rd) [x0, x1, some (.lst A), some (.lst B), some (.str SQ), some (.str Z), some (.ref G.length), x7] (G ++ [.lst (A ++ [.non])]) = .nx [x0, x1, some (.lst A), some (.lst B), some (.str SQ), some (.str Z), some (.ref G.length), x7] (G ++ [.lst (A ++ [.non])]) := by
    unfold bLaw8
    simp -dsimp [c2, r1'']
  refine ⟨some (.lst B), some (.str SQ), some (.str Z), some (.ref G.length), x7, .lst (A ++ [.non]), ?_⟩
  unfold bLaw
  rw [ex_seq, q1, O.then_nx, ex_seq, q2, O.then_nx, ex_seq, q3, O.then_nx, ex_seq, q4, O.then_nx, ex_seq, q5, O.then_nx, ex_seq, q6, O.then_nx, ex_seq, q7, O.then_nx, q8]
end
end PK
namespace PK
namespace Ba
open PySem
def enS (e : En) : List D := [.int e.a, .str e.k, .int e.b]
def barS : B → List D
  | none => [.int 0, .int 0, .non, .non, .non, .non]
  | some b => [.int b.n, .int b.t, .int b.l, .int b.g, enD b.f, enD b.z]
def barD (b : B) : D := .tup (barS b)
def Pos (b : B) : Prop := ∀ q, b = some q → 0 < q.n
section
variable {cl : List Nat → Nat → List D → Hp → R} {gl : Nat → Option D} {ms : List Nat} {G : Hp}
def EmptyR (cl : List Nat → Nat → List D → Hp → R) (i : Nat) : Prop := ∀ (ms : List Nat) (G : Hp), cl ms i [] G = .ok (barD none) G
def IsBar (G : Hp) (b : B) (x : D) : Prop := match b with
  | none => ∃ d, seqD G x = some (.int 0 :: d)
  | some q => ∃ u w, seqD G x = some [.int q.n, .int q.t, .int q.l, .int q.g, u, w] ∧ seqD G u = some (enS q.f) ∧ seqD G w = some (enS q.z)
def JoinR (cl : List Nat → Nat → List D → Hp → R) (i : Nat) : Prop := ∀ (b c : B) (x y : D) (ms : List Nat) (G : Hp), Pos b → Pos c → IsBar G b x → IsBar G c y → cl ms i [x, y] G = .ok (barD (join b c)) G
def Ents (G : Hp) : List D → List En → Prop
  | [], [] => True
  | x :: xs, e :: es => seqD G x = some (enS e) ∧ Ents G xs es
  | _, _ => False
def BarR (cl : List Nat → Nat → List D → Hp → R) (i : Nat) : Prop := ∀ (es : List En) (x : D) (xs : List D) (g : Option (Nat × Cell)) (ms : List Nat) (G : Hp), itD .val [x] G = some (xs, g) → still G g = true → Ents G xs es → cl ms i [x] G = .ok (barD (barOf es)) G
end
end Ba
end PK
namespace PK
namespace Pl
open PySem
section
variable {cl : List Nat → Nat → List D → Hp → R} {gl : Nat → Option D} {ms : List Nat} {p : Nat} {G : Hp}
end
end Pl
end PK
namespace PK
namespace Pl
open PySem
section
variable {cl : List Nat → Nat → List D → Hp → R} {gl : Nat → Option D} {ms : List Nat} {p : Nat} {G : Hp}
end
end Pl
end PK
namespace PK
namespace Pl
open PySem
section
variable {cl : List Nat → Nat → List D → Hp → R} {gl : Nat → Option D} {ms : List Nat} {G : Hp} {t wi cell pot st bo re rc rd : Nat}
end
end Pl
end PK
namespace PK
namespace Ba
open PySem
section
variable {cl : List Nat → Nat → List D → Hp → R} {gl : Nat → Option D} {ms : List Nat} {G : Hp}
end
end Ba
end PK
namespace PK
namespace Pl
open PySem
section
variable {cl : List Nat → Nat → List D → Hp → R} {gl : Nat → Option D} {ms : List Nat} {G : Hp}
end
end Pl
end PK
namespace PK
namespace Ba
open PySem Pl
section
variable {cl : List Nat → Nat → List D → Hp → R} {gl : Nat → Option D} {ms : List Nat} {G : Hp} {cell pot wi ky : Nat}
structure UInv (G : Hp) (N : D) (i : Nat) (s : Env) (H : Hp) : Prop where
  ex : ∃ x3 x4 x5 x6, s = [some N, some (.ref G.length), some (.ref (G.length + 1)), x3, x4, x5, x6]
  es : ∃ es : List En, (∀ e ∈ es, EnOk e) ∧ (es.map En.k).Nodup ∧ es.length ≤ i ∧ H[G.length]? = some (.lst (es.map enD)) ∧ H[G.length + 1]? = some (.lst (es.map fun e => .str e.k))
  low : ∀ j, j < G.length → H[j]? = G[j]?
end
end Ba
end PK
namespace PK
open PySem
structure EIx where
  empty : Nat
  joined : Nat
  bar_of : Nat
  Ladder_first_moment : Nat
  between : Nat
  ends_of : Nat
  bar_of_cover : Nat
  law_digit : Nat
  law_wide : Nat
  law_turn : Nat
  law_lowest : Nat
  law_raised : Nat
  law_begins : Nat
  law_moment : Nat
  law_key : Nat
  law_entries : Nat
  law_bar : Nat
  law_time : Nat
  law_handed : Nat
  g_BAR : Nat
def f_law_key (I : EIx) : Fn := ⟨2, 6, true, true, (.seq (.set 2 (.c (.str (PySem.Str.ofString "0123456789abcdefghijklmnopqrstuvwxyz"))))
  (.seq (.set 3 (.mt .join false (.c (.str (PySem.Str.ofString ""))) (.cons (.comp false .range1 [4] [4] true (.cons (.bin .add false (.c (.int 1)) (.call I.law_digit (.cons (.v 0) (.cons (.c (.int 8)) .nil)))) .nil) (.c (.bl true)) (.ix (.v 2) (.call I.law_digit (.cons (.v 0) (.cons (.c (.int 36)) .nil))))) .nil)))
  (.seq (.ite (.cmp .isin (.v 3) (.v 1)) (.set 3 (.ix (.comp false .range2 [5] [5] true (.cons (.c (.int 10)) (.cons (.c (.int 99)) .nil)) (.cmp .notin (.bi .str false (.cons (.v 5) .nil)) (.v 1)) (.bi .str false (.cons (.v 5) .nil))) (.c (.int 0))))
  .pass)
  (.seq (.ex (.mt .append false (.v 1) (.cons (.v 3) .nil)))
  (.ret (.v 3))))))⟩
def f_law_entries (I : EIx) : Fn := ⟨3, 10, true, true, (.seq (.set 3 (.lst true .nil))
  (.seq (.set 4 (.lst true .nil))
  (.seq (.set 5 (.call I.law_moment (.cons (.v 0) (.cons (.v 1) .nil))))
  (.seq (.for .range1 [6] true (.cons (.call I.law_digit (.cons (.v 0) (.cons (.bin .add false (.v 2) (.c (.int 1))) .nil))) .nil) (.seq (.set 7 (.bin .mul false (.call I.law_turn (.cons (.v 1) .nil)) (.ix (.lst false (.cons (.c (.int 1)) (.cons (.c (.int 3)) (.cons (.c (.int 40)) (.cons (.bin .pow false (.c (.int 10)) (.c (.int 6))) .nil))))) (.call I.law_digit (.cons (.v 0) (.cons (.c (.int 4)) .nil))))))
  (.seq (.set 8 (.bin .sub false (.bin .add false (.v 5) (.call I.law_digit (.cons (.v 0) (.cons (.bin .add false (.bin .mul false (.c (.int 2)) (.v 7)) (.c (.int 1))) .nil)))) (.v 7)))
  (.seq (.set 9 (.call I.law_digit (.cons (.v 0) (.cons (.c (.int 6)) .nil))))
  (.seq (.ite (.cmp .eq (.v 9) (.c (.int 0))) (.set 8 (.call I.law_moment (.cons (.v 0) (.cons (.v 1) .nil))))
  .pass)
  (.seq (.ite (.and_ (.cmp .eq (.v 9) (.c (.int 1))) (.cmp .ne (.v 3) (.lst false .nil))) (.set 8 (.ix (.ix (.v 3) (.call I.law_digit (.cons (.v 0) (.cons (.bi .len false (.cons (.v 3) .nil)) .nil)))) (.c (.int 0))))
  .pass)
  (.ex (.mt .append false (.v 3) (.cons (.tup (.cons (.bi .max2 false (.cons (.bin .sub false (.c (.int 1)) (.bin .pow false (.c (.int 10)) (.c (.int 30)))) (.cons (.bi .min2 false (.cons (.bin .sub false (.bin .pow false (.c (.int 10)) (.c (.int 30))) (.c (.int 1))) (.cons (.v 8) .nil))) .nil))) (.cons (.call I.law_key (.cons (.v 0) (.cons (.v 4) .nil))) (.cons (.call I.law_wide (.cons (.v 0) .nil)) .nil)))) .nil)))))))))
  (.ret (.v 3))))))⟩
def f_law_bar (I : EIx) : Fn := ⟨1, 4, true, true, (.seq (.set 1 (.bi .sortD false (.cons (.v 0) .nil)))
  (.seq (.ite (.cmp .eq (.v 1) (.lst false .nil)) (.ret (.tup (.cons (.c (.int 0)) (.cons (.c (.int 0)) (.cons (.c .non) (.cons (.c .non) (.cons (.c .non) (.cons (.c .non) .nil))))))))
  .pass)
  (.seq (.set 2 (.comp false .val [3] [3] true (.cons (.v 1) .nil) (.c (.bl true)) (.ix (.v 3) (.c (.int 2)))))
  (.ret (.tup (.cons (.bi .len false (.cons (.v 1) .nil)) (.cons (.bi .sum false (.cons (.v 2) .nil)) (.cons (.bi .min1 false (.cons (.v 2) .nil)) (.cons (.bi .max1 false (.cons (.v 2) .nil)) (.cons (.ix (.v 1) (.c (.int 0))) (.cons (.ix (.v 1) (.neg (.c (.int 1)))) .nil)))))))))))⟩
def f_law_time (I : EIx) : Fn := ⟨2, 11, true, true, (.seq (.set 2 (.call I.law_moment (.cons (.v 0) (.cons (.v 1) .nil))))
  (.seq (.set 3 (.call I.law_digit (.cons (.v 0) (.cons (.c (.int 5)) .nil))))
  (.seq (.set 4 (.call I.law_digit (.cons (.v 0) (.cons (.bin .add false (.bi .len false (.cons (.ix (.v 1) (.c (.int 2))) .nil)) (.c (.int 1))) .nil))))
  (.seq (.set 5 (.call I.law_lowest (.cons (.v 1) (.cons (.v 2) .nil))))
  (.seq (.for .val [6] true (.cons (.sl false (.ix (.v 1) (.c (.int 2))) (.c (.exc 0)) (.v 4)) .nil) (.set 5 (.call I.law_raised (.cons (.v 6) (.cons (.v 5) .nil)))))
  (.seq (.set 7 (.bin .sub false (.bin .add false (.call I.law_begins (.cons (.v 1) (.cons (.v 4) (.cons (.bin .add false (.v 5) (.call I.law_digit (.cons (.v 0) (.cons (.c (.int 25)) .nil)))) .nil)))) (.call I.law_digit (.cons (.v 0) (.cons (.c (.int 3)) .nil)))) (.c (.int 1))))
  (.seq (.ite (.cmp .eq (.v 3) (.c (.int 0))) (.set 7 (.call I.law_moment (.cons (.v 0) (.cons (.v 1) .nil))))
  .pass)
  (.seq (.ite (.cmp .eq (.v 3) (.c (.int 1))) (.set 2 (.call I.law_begins (.cons (.v 1) (.cons (.v 4) (.cons (.v 5) .nil)))))
  .pass)
  (.seq (.ite (.cmp .eq (.v 3) (.c (.int 2))) (.seq (.set 8 (.ix (.lst false (.cons (.bin .add false (.c (.int 290)) (.call I.law_digit (.cons (.v 0) (.cons (.c (.int 25)) .nil)))) (.cons (.bin .add false (.c (.int 297)) (.call I.law_digit (.cons (.v 0) (.cons (.c (.int 7)) .nil)))) .nil))) (.call I.law_digit (.cons (.v 0) (.cons (.c (.int 2)) .nil)))))
  (.set 7 (.call I.law_begins (.cons (.v 1) (.cons (.c (.int 0)) (.cons (.bin .add false (.call I.law_lowest (.cons (.v 1) (.cons (.v 2) .nil))) (.v 8)) .nil))))))
  .pass)
  (.seq (.ite (.cmp .eq (.v 3) (.c (.int 3))) (.set 7 (.bin .add false (.bin .add false (.v 2) (.c (.int 1))) (.call I.law_digit (.cons (.v 0) (.cons (.call I.law_turn (.cons (.v 1) .nil)) .nil)))))
  .pass)
  (.seq (.set 9 (.comp false .val [10] [10] true (.cons (.tup (.cons (.v 2) (.cons (.v 7) .nil))) .nil) (.c (.bl true)) (.bi .max2 false (.cons (.bin .sub false (.c (.int 1)) (.bin .pow false (.c (.int 10)) (.c (.int 30)))) (.cons (.bi .min2 false (.cons (.bin .sub false (.bin .pow false (.c (.int 10)) (.c (.int 30))) (.c (.int 1))) (.cons (.v 10) .nil))) .nil)))))
  (.seq (.ite (.cmp .eq (.ix (.v 9) (.c (.int 0))) (.ix (.v 9) (.c (.int 1)))) (.set 9 (.lst false (.cons (.bin .sub false (.ix (.v 9) (.c (.int 0))) (.bi .int false (.cons (.cmp .gt (.ix (.v 9) (.c (.int 0))) (.c (.int 0))) .nil))) (.cons (.bin .add false (.ix (.v 9) (.c (.int 1))) (.bi .int false (.cons (.cmp .le (.ix (.v 9) (.c (.int 1))) (.c (.int 0))) .nil))) .nil))))
  .pass)
  (.ret (.tup (.cons (.bi .min1 false (.cons (.v 9) .nil)) (.cons (.bi .max1 false (.cons (.v 9) .nil)) .nil))))))))))))))))⟩
def f_law_handed (I : EIx) : Fn := ⟨2, 5, true, true, (.seq (.set 2 (.bi .list true (.cons (.v 1) .nil)))
  (.seq (.set 3 (.lst true .nil))
  (.seq (.while 4096 (.cmp .ne (.v 2) (.lst false .nil)) (.seq (.set 4 (.mt .pop1 false (.v 2) (.cons (.call I.law_digit (.cons (.v 0) (.cons (.bi .len false (.cons (.v 2) .nil)) .nil))) .nil)))
  (.ex (.mt .append false (.v 3) (.cons (.ix (.lst false (.cons (.v 4) (.cons (.v 4) (.cons (.bi .list false (.cons (.v 4) .nil)) .nil)))) (.call I.law_digit (.cons (.v 0) (.cons (.c (.int 3)) .nil)))) .nil)))))
  (.ret (.ix (.lst false (.cons (.v 3) (.cons (.bi .tuple false (.cons (.v 3) .nil)) .nil))) (.call I.law_digit (.cons (.v 0) (.cons (.c (.int 2)) .nil))))))))⟩
def f_between (I : EIx) : Fn := ⟨3, 4, true, true, (.ret (.call I.bar_of (.cons (.comp false .val [3] [3] true (.cons (.v 0) .nil) (.chain .le .lt (.v 1) (.ix (.v 3) (.c (.int 0))) (.v 2)) (.v 3)) .nil)))⟩
def f_ends_of (I : EIx) : Fn := ⟨2, 2, true, true, (.seq (.ite (.cmp .eq (.ix (.v 1) (.c (.int 0))) (.g I.g_BAR)) (.ret (.tup (.cons (.meth I.Ladder_first_moment 0 (.v 0) (.cons (.ix (.v 1) (.c (.int 1))) (.cons (.ix (.v 1) (.c (.int 2))) .nil))) (.cons (.meth I.Ladder_first_moment 0 (.v 0) (.cons (.ix (.v 1) (.c (.int 1))) (.cons (.bin .add false (.ix (.v 1) (.c (.int 2))) (.c (.int 1))) .nil))) .nil))))
  .pass)
  (.ret (.tup (.cons (.ix (.v 1) (.c (.int 1))) (.cons (.ix (.v 1) (.c (.int 2))) .nil)))))⟩
def f_bar_of_cover (I : EIx) : Fn := ⟨3, 7, true, true, (.seq (.set 3 (.call I.empty .nil))
  (.seq (.for .val [4] true (.cons (.v 2) .nil) (.seq (.asg [(.nm 5), (.nm 6)] (.call I.ends_of (.cons (.v 0) (.cons (.v 4) .nil))))
  (.set 3 (.call I.joined (.cons (.v 3) (.cons (.call I.between (.cons (.v 1) (.cons (.v 5) (.cons (.v 6) .nil)))) .nil))))))
  (.ret (.v 3))))⟩
structure KeyL (T : Nat → Option Fn) (gl : Nat → Option D) (I : EIx) : Prop where
  law_key : T I.law_key = some (f_law_key I)
  law_entries : T I.law_entries = some (f_law_entries I)
  g_BAR : gl I.g_BAR = some (.str (PySem.Str.ofString "bar"))
structure BarSL (T : Nat → Option Fn) (gl : Nat → Option D) (I : EIx) : Prop where
  law_bar : T I.law_bar = some (f_law_bar I)
structure TimeL (T : Nat → Option Fn) (gl : Nat → Option D) (I : EIx) : Prop where
  law_time : T I.law_time = some (f_law_time I)
structure HandL (T : Nat → Option Fn) (gl : Nat → Option D) (I : EIx) : Prop where
  law_handed : T I.law_handed = some (f_law_handed I)
structure BetL (T : Nat → Option Fn) (gl : Nat → Option D) (I : EIx) : Prop where
  between : T I.between = some (f_between I)
structure BocL (T : Nat → Option Fn) (gl : Nat → Option D) (I : EIx) : Prop where
  ends_of : T I.ends_of = some (f_ends_of I)
  bar_of_cover : T I.bar_of_cover = some (f_bar_of_cover I)
end PK
namespace LD
structure Stair (s : List Int) (t : Int) : Prop where
  pos : 0 < s.length
  zero : s.getD 0 0 = 0
  up : s.Pairwise (· < ·)
  top : ∀ x ∈ s, x < t
def cnt (s : List Int) (x : Int) : Nat := (s.filter fun a => decide (a ≤ x)).length
section
variable {s : List Int} {t b : Int}
theorem Stair.tpos (h : Stair s t) : 0 < t := by
  have h0 := h.zero
  have hm : s.getD 0 0 ∈ s := by
    rw [List.getD_eq_getElem?_getD, List.getElem?_eq_getElem h.pos]
    exact List.getElem_mem h.pos
  have := h.top _ hm
  omega
theorem Stair.at_lt (h : Stair s t) {j : Nat} (hj : j < s.length) : s.getD j 0 < t := by
  refine h.top _ ?_
  rw [List.getD_eq_getElem?_getD, List.getElem?_eq_getElem hj]
  exact List.getElem_mem hj
theorem Stair.at_ge (h : Stair s t) {j : Nat} (hj : j < s.length) : 0 ≤ s.getD j 0 := by
  cases j with
  | zero => rw [h.zero]; exact Int.le_refl _
  | succ j =>
    have := List.pairwise_iff_getElem.mp h.up 0 (j + 1) h.pos hj (by omega)
    have e0 := h.zero
    rw [List.getD_eq_getElem?_getD, List.getElem?_eq_getElem h.pos] at e0
    rw [List.getD_eq_getElem?_getD, List.getElem?_eq_getElem hj]
    simp at e0 ⊢
    omega
def stS (b : Int) (s : List Int) (t : Int) (n : Int) : Int := b + n / (s.length : Int) * t + s.getD (n % (s.length : Int)).toNat 0
def stP (b : Int) (s : List Int) (t : Int) (x : Int) : Int := (x - b) / t * (s.length : Int) + ((cnt s ((x - b) % t) : Nat) - 1 : Int)
theorem stS_bound (h : Stair s t) {n M : Int} (h1 : -M ≤ n) (h2 : n ≤ M) (hM : 0 ≤ M) : b - (M + 1) * t ≤ stS b s t n ∧ stS b s t n ≤ b + (M + 1) * t := by
  have ht := h.tpos
  have hk : (0 : Int) < (s.length : Int) := by have := h.pos; omega
  have n1 := Int.emod_add_mul_ediv n (s.length : Int)
  have n2 := Int.emod_nonneg n (Int.ne_of_gt hk)
  have n3 := Int.emod_lt_of_pos n hk
  have hj : (n % (s.length : Int)).toNat < s.length := by omega
  have a1 := h.at_lt hj
  have a2 := h.at_ge hj
  have q1 : n / (s.length : Int) ≤ M := by
    have : n / (s.length : Int) ≤ M / (s.length : Int) := Int.ediv_le_ediv hk h2
    exact Int.le_trans this (Int.ediv_le_self _ hM)
  have q2 : -(M + 1) ≤ n / (s.length : Int) := by
    have : (s.length : Int) * (-(M + 1)) ≤ n := by
      have : 1 * (M + 1) ≤ (s.length : Int) * (M + 1) := Int.mul_le_mul_of_nonneg_right (by omega) (by omega)
      rw [Int.mul_neg]; omega
    exact (Int.le_ediv_iff_mul_le hk).mpr (by rw [Int.mul_comm]; exact this)
  unfold stS
  have p1 : n / (s.length : Int) * t ≤ M * t := Int.mul_le_mul_of_nonneg_right q1 (by omega)
  have p2 : -(M + 1) * t ≤ n / (s.length : Int) * t := Int.mul_le_mul_of_nonneg_right q2 (by omega)
  have e : (M + 1) * t = M * t + t := by rw [Int.add_mul, Int.one_mul]
  rw [Int.neg_mul] at p2
  omega
end
end LD
namespace LD
def sums (a : Int) : List Int → List Int
  | [] => []
  | x :: xs => a :: sums (a + x) xs
theorem sums_length : ∀ (xs : List Int) (a : Int), (sums a xs).length = xs.length
  | [], _ => rfl
  | x :: xs, a => by show (sums (a + x) xs).length + 1 = _; rw [sums_length]; rfl
theorem sums_get : ∀ (xs : List Int) (a : Int) (k : Nat), k < xs.length → (sums a xs)[k]? = some (a + (xs.take k).sum)
  | [], _, k, h => absurd h (by simp)
  | x :: xs, a, 0, h => by simp [sums]
  | x :: xs, a, k + 1, h => by
    show (sums (a + x) xs)[k]? = _
    rw [sums_get xs (a + x) k (by simpa using h), List.take_succ_cons, List.sum_cons, Int.add_assoc]
theorem sums_ge : ∀ {xs : List Int} {a y : Int}, (∀ x ∈ xs, 0 < x) → y ∈ sums a xs → a ≤ y ∧ y < a + xs.sum
  | [], a, y, _, h => absurd h (by simp [sums])
  | x :: xs, a, y, hp, h => by
    have hx := hp x List.mem_cons_self
    have hs : 0 ≤ xs.sum := by
      clear h
      induction xs with
      | nil => exact Int.le_refl _
      | cons z zs ih =>
        have h1 := hp z (List.mem_cons_of_mem _ List.mem_cons_self)
        have h2 := ih fun w hw => hp w (by rcases List.mem_cons.mp hw with e | e; (· rw [e]; exact List.mem_cons_self); · exact List.mem_cons_of_mem _ (List.mem_cons_of_mem _ e))
        rw [List.sum_cons]; omega
    rw [List.sum_cons]
    rcases List.mem_cons.mp (show y ∈ a :: sums (a + x) xs from h) with e | e
    · subst e; omega
    · have := sums_ge (fun w hw => hp w (List.mem_cons_of_mem _ hw)) e
      omega
theorem sums_up : ∀ {xs : List Int} {a : Int}, (∀ x ∈ xs, 0 < x) → (sums a xs).Pairwise (· < ·)
  | [], _, _ => List.Pairwise.nil
  | x :: xs, a, hp => List.pairwise_cons.mpr ⟨fun y hy => by
      have hx := hp x List.mem_cons_self
      have := sums_ge (fun w hw => hp w (List.mem_cons_of_mem _ hw)) hy
      omega, sums_up fun w hw => hp w (List.mem_cons_of_mem _ hw)⟩
theorem stair_sizes {xs : List Int} (hn : xs ≠ []) (hp : ∀ x ∈ xs, 0 < x) : Stair (sums 0 xs) xs.sum := by
  refine ⟨?_, ?_, sums_up hp, fun x hx => ?_⟩
  · rw [sums_length]; exact List.length_pos_iff.mpr hn
  · cases xs with
    | nil => exact absurd rfl hn
    | cons x xs => rfl
  · have := (sums_ge hp hx).2; omega
def opn (a : Int) : List Int → List Int
  | [] => []
  | p :: ps => if 0 < p then a :: opn (a + (p.natAbs : Int)) ps else opn (a + (p.natAbs : Int)) ps
def absL' (ps : List Int) : List Int := ps.map fun p => (p.natAbs : Int)
theorem opn_sub : ∀ (ps : List Int) (a : Int), (opn a ps).Sublist (sums a (absL' ps))
  | [], _ => List.Sublist.refl _
  | p :: ps, a => by
    show (if 0 < p then _ else _ : List Int).Sublist (a :: sums (a + (p.natAbs : Int)) (absL' ps))
    split
    · exact (opn_sub ps _).cons₂ a
    · exact (opn_sub ps _).cons a
theorem absL_pos {ps : List Int} (h : ∀ p ∈ ps, p ≠ 0) : ∀ x ∈ absL' ps, 0 < x := fun x hx => by
  obtain ⟨p, hp, rfl⟩ := List.mem_map.mp hx
  have := h p hp
  omega
theorem stair_parts {p : Int} {ps : List Int} (h0 : 0 < p) (h : ∀ q ∈ p :: ps, q ≠ 0) : Stair (opn 0 (p :: ps)) (absL' (p :: ps)).sum := by
  have S := stair_sizes (xs := absL' (p :: ps)) (by simp [absL']) (absL_pos h)
  have e : opn 0 (p :: ps) = 0 :: opn (0 + (p.natAbs : Int)) ps := by show (if 0 < p then _ else _ : List Int) = _; rw [if_pos h0]
  refine ⟨by rw [e]; simp, by rw [e]; rfl, (S.up).sublist (opn_sub _ _), fun x hx => S.top x ((opn_sub _ _).subset hx)⟩
theorem opn_len : ∀ (ps : List Int) (a : Int), (opn a ps).length = (ps.filter fun p => decide (0 < p)).length
  | [], _ => rfl
  | p :: ps, a => by
    unfold opn
    by_cases c : 0 < p
    · rw [if_pos c, List.filter_cons_of_pos (by simpa using c), List.length_cons, List.length_cons, opn_len]
    · rw [if_neg c, List.filter_cons_of_neg (by simpa using c), opn_len]
end LD
namespace PK
open PySem
structure LIx where
  is_whole : Nat
  is_wide : Nat
  is_list : Nat
  is_part : Nat
  are_parts : Nat
  are_sizes : Nat
  is_row : Nat
  are_rows : Nat
  ahead_of : Nat
  place_in : Nat
  Ladder_init : Nat
  Ladder_want_roll : Nat
  Ladder_want_any_roll : Nat
  Ladder_open_at : Nat
  Ladder_lowest : Nat
  Ladder_raised : Nat
  Ladder_lowered : Nat
  Ladder_first_moment : Nat
  Ladder_bar_at : Nat
  Ladder_stretch : Nat
  Ladder_lesser : Nat
  Ladder_greater : Nat
  Ladder_is_open : Nat
  want_moment : Nat
  want_number : Nat
  g_WIDEST : Nat
  g_WIDEST_NUMBER : Nat
  g_MOST_PARTS : Nat
  g_LONGEST_PART : Nat
  g_MOST_ROWS : Nat
  g_MOST_SIZES : Nat
  g_GREATEST_SIZE : Nat
  e_NoLadder : Nat
  e_NoMoment : Nat
  e_NoRoll : Nat
  e_NoNumber : Nat
def f_is_whole (I : LIx) : Fn := ⟨1, 1, true, true, (.ret (.and_ (.isi [.int] (.v 0)) (.not_ (.isi [.bool] (.v 0)))))⟩
def f_is_wide (I : LIx) : Fn := ⟨1, 1, true, true, (.ret (.and_ (.call I.is_whole (.cons (.v 0) .nil)) (.cmp .lt (.bi .abs false (.cons (.v 0) .nil)) (.g I.g_WIDEST))))⟩
def f_is_list (I : LIx) : Fn := ⟨1, 1, true, true, (.ret (.isi [.list, .tuple] (.v 0)))⟩
def f_is_part (I : LIx) : Fn := ⟨1, 1, true, true, (.ret (.and_ (.call I.is_whole (.cons (.v 0) .nil)) (.and_ (.cmp .ne (.v 0) (.c (.int 0))) (.cmp .le (.bi .abs false (.cons (.v 0) .nil)) (.g I.g_LONGEST_PART)))))⟩
def f_are_parts (I : LIx) : Fn := ⟨1, 2, true, true, (.seq (.ite (.or_ (.not_ (.call I.is_list (.cons (.v 0) .nil))) (.not_ (.chain .le .le (.c (.int 1)) (.bi .len false (.cons (.v 0) .nil)) (.g I.g_MOST_PARTS)))) (.ret (.c (.bl false)))
  .pass)
  (.ret (.and_ (.bi .all false (.cons (.comp false .val [1] [1] true (.cons (.v 0) .nil) (.c (.bl true)) (.call I.is_part (.cons (.v 1) .nil))) .nil)) (.cmp .gt (.ix (.v 0) (.c (.int 0))) (.c (.int 0))))))⟩
def f_are_sizes (I : LIx) : Fn := ⟨1, 2, true, true, (.seq (.ite (.or_ (.not_ (.call I.is_list (.cons (.v 0) .nil))) (.not_ (.chain .le .le (.c (.int 1)) (.bi .len false (.cons (.v 0) .nil)) (.g I.g_MOST_SIZES)))) (.ret (.c (.bl false)))
  .pass)
  (.ret (.bi .all false (.cons (.comp false .val [1] [1] true (.cons (.v 0) .nil) (.c (.bl true)) (.and_ (.call I.is_whole (.cons (.v 1) .nil)) (.chain .le .le (.c (.int 1)) (.v 1) (.g I.g_GREATEST_SIZE)))) .nil))))⟩
def f_is_row (I : LIx) : Fn := ⟨1, 1, true, true, (.ret (.and_ (.call I.is_list (.cons (.v 0) .nil)) (.and_ (.cmp .eq (.bi .len false (.cons (.v 0) .nil)) (.c (.int 2))) (.and_ (.call I.is_wide (.cons (.ix (.v 0) (.c (.int 0))) .nil)) (.call I.are_sizes (.cons (.ix (.v 0) (.c (.int 1))) .nil))))))⟩
def f_are_rows (I : LIx) : Fn := ⟨1, 2, true, true, (.ret (.and_ (.call I.is_list (.cons (.v 0) .nil)) (.and_ (.cmp .le (.bi .len false (.cons (.v 0) .nil)) (.g I.g_MOST_ROWS)) (.bi .all false (.cons (.comp false .val [1] [1] true (.cons (.v 0) .nil) (.c (.bl true)) (.call I.is_row (.cons (.v 1) .nil))) .nil)))))⟩
def f_ahead_of (I : LIx) : Fn := ⟨2, 2, true, true, (.ret (.bi .sum false (.cons (.sl false (.v 0) (.c (.exc 0)) (.v 1)) .nil)))⟩
def f_place_in (I : LIx) : Fn := ⟨2, 5, true, true, (.seq (.set 2 (.c (.int 0)))
  (.seq (.for .enum [3, 4] false (.cons (.v 0) .nil) (.ite (.cmp .le (.v 4) (.v 1)) (.set 2 (.v 3))
  .pass))
  (.ret (.v 2))))⟩
def f_Ladder_init (I : LIx) : Fn := ⟨4, 8, true, true, (.seq (.ite (.or_ (.not_ (.call I.is_wide (.cons (.v 1) .nil))) (.or_ (.not_ (.call I.are_parts (.cons (.v 2) .nil))) (.not_ (.call I.are_rows (.cons (.v 3) .nil))))) (.raise I.e_NoLadder)
  .pass)
  (.seq (.put (.fld 0 0 (.v 0)) (.v 1))
  (.seq (.put (.fld 0 1 (.v 0)) (.bi .list false (.cons (.v 2) .nil)))
  (.seq (.put (.fld 0 2 (.v 0)) (.comp false .val [5] [5] true (.cons (.v 3) .nil) (.c (.bl true)) (.tup (.cons (.ix (.v 5) (.c (.int 0))) (.cons (.bi .tuple false (.cons (.ix (.v 5) (.c (.int 1))) .nil)) .nil)))))
  (.seq (.set 4 (.comp false .val [6] [6] true (.cons (.v 2) .nil) (.c (.bl true)) (.bi .abs false (.cons (.v 6) .nil))))
  (.seq (.put (.fld 0 3 (.v 0)) (.comp false .enum [6, 7] [7, 6] false (.cons (.v 2) .nil) (.cmp .gt (.v 6) (.c (.int 0))) (.call I.ahead_of (.cons (.v 4) (.cons (.v 7) .nil)))))
  (.seq (.put (.fld 0 4 (.v 0)) (.comp false .val [6] [6] true (.cons (.v 2) .nil) (.cmp .gt (.v 6) (.c (.int 0))) (.v 6)))
  (.put (.fld 0 5 (.v 0)) (.bi .sum false (.cons (.v 4) .nil))))))))))⟩
def f_Ladder_want_roll (I : LIx) : Fn := ⟨4, 4, true, true, (.ite (.or_ (.not_ (.call I.is_whole (.cons (.v 1) .nil))) (.or_ (.cmp .lt (.v 1) (.v 2)) (.cmp .gt (.v 1) (.v 3)))) (.raise I.e_NoRoll)
  .pass)⟩
def f_Ladder_want_any_roll (I : LIx) : Fn := ⟨2, 2, true, true, (.ex (.meth I.Ladder_want_roll 0 (.v 0) (.cons (.v 1) (.cons (.c (.int 0)) (.cons (.bi .len false (.cons (.fld 0 2 (.v 0)) .nil)) .nil)))))⟩
def f_Ladder_raised (I : LIx) : Fn := ⟨3, 9, true, true, (.seq (.asg [(.nm 3), (.nm 4)] (.ix (.fld 0 2 (.v 0)) (.v 1)))
  (.seq (.asg [(.nm 5), (.nm 6)] (.bi .divmod false (.cons (.bin .sub false (.v 2) (.v 3)) (.cons (.bi .sum false (.cons (.v 4) .nil)) .nil))))
  (.seq (.set 7 (.comp false .range1 [8] [8] true (.cons (.bi .len false (.cons (.v 4) .nil)) .nil) (.c (.bl true)) (.call I.ahead_of (.cons (.v 4) (.cons (.v 8) .nil)))))
  (.ret (.bin .add false (.bin .mul false (.v 5) (.bi .len false (.cons (.v 4) .nil))) (.call I.place_in (.cons (.v 7) (.cons (.v 6) .nil))))))))⟩
def f_Ladder_lowered (I : LIx) : Fn := ⟨3, 7, true, true, (.seq (.asg [(.nm 3), (.nm 4)] (.ix (.fld 0 2 (.v 0)) (.bin .sub false (.v 1) (.c (.int 1)))))
  (.seq (.asg [(.nm 5), (.nm 6)] (.bi .divmod false (.cons (.v 2) (.cons (.bi .len false (.cons (.v 4) .nil)) .nil))))
  (.ret (.tup (.cons (.bin .add false (.bin .add false (.v 3) (.bin .mul false (.v 5) (.bi .sum false (.cons (.v 4) .nil)))) (.call I.ahead_of (.cons (.v 4) (.cons (.v 6) .nil)))) (.cons (.ix (.v 4) (.v 6)) .nil))))))⟩
def f_Ladder_first_moment (I : LIx) : Fn := ⟨3, 6, true, true, (.seq (.for .range3 [3] true (.cons (.v 1) (.cons (.c (.int 0)) (.cons (.neg (.c (.int 1))) .nil))) (.set 2 (.ix (.meth I.Ladder_lowered 0 (.v 0) (.cons (.v 3) (.cons (.v 2) .nil))) (.c (.int 0)))))
  (.seq (.asg [(.nm 4), (.nm 5)] (.bi .divmod false (.cons (.v 2) (.cons (.bi .len false (.cons (.fld 0 4 (.v 0)) .nil)) .nil))))
  (.ret (.bin .add false (.bin .add false (.fld 0 0 (.v 0)) (.bin .mul false (.v 4) (.fld 0 5 (.v 0)))) (.ix (.fld 0 3 (.v 0)) (.v 5))))))⟩
def f_Ladder_stretch (I : LIx) : Fn := ⟨3, 3, true, true, (.seq (.ex (.meth I.Ladder_want_any_roll 0 (.v 0) (.cons (.v 1) .nil)))
  (.seq (.ex (.call I.want_number (.cons (.v 2) .nil)))
  (.ret (.tup (.cons (.meth I.Ladder_first_moment 0 (.v 0) (.cons (.v 1) (.cons (.v 2) .nil))) (.cons (.meth I.Ladder_first_moment 0 (.v 0) (.cons (.v 1) (.cons (.bin .add false (.v 2) (.c (.int 1))) .nil))) .nil))))))⟩
def f_want_number (I : LIx) : Fn := ⟨1, 1, true, true, (.ite (.or_ (.not_ (.call I.is_whole (.cons (.v 0) .nil))) (.cmp .ge (.bi .abs false (.cons (.v 0) .nil)) (.g I.g_WIDEST_NUMBER))) (.raise I.e_NoNumber)
  .pass)⟩
def f_Ladder_open_at (I : LIx) : Fn := ⟨2, 5, true, true, (.seq (.asg [(.nm 2), (.nm 3)] (.bi .divmod false (.cons (.bin .sub false (.v 1) (.fld 0 0 (.v 0))) (.cons (.fld 0 5 (.v 0)) .nil))))
  (.seq (.set 4 (.call I.place_in (.cons (.fld 0 3 (.v 0)) (.cons (.v 3) .nil))))
  (.ret (.tup (.cons (.v 2) (.cons (.v 4) (.cons (.bin .sub false (.v 3) (.ix (.fld 0 3 (.v 0)) (.v 4))) .nil)))))))⟩
def f_Ladder_lowest (I : LIx) : Fn := ⟨2, 5, true, true, (.seq (.asg [(.nm 2), (.nm 3), (.nm 4)] (.meth I.Ladder_open_at 0 (.v 0) (.cons (.v 1) .nil)))
  (.ret (.bin .add false (.bin .mul false (.v 2) (.bi .len false (.cons (.fld 0 4 (.v 0)) .nil))) (.v 3))))⟩
def f_Ladder_bar_at (I : LIx) : Fn := ⟨3, 5, true, true, (.seq (.ex (.meth I.Ladder_want_any_roll 0 (.v 0) (.cons (.v 1) .nil)))
  (.seq (.ex (.call I.want_moment (.cons (.v 2) .nil)))
  (.seq (.set 3 (.meth I.Ladder_lowest 0 (.v 0) (.cons (.v 2) .nil)))
  (.seq (.for .range1 [4] true (.cons (.v 1) .nil) (.set 3 (.meth I.Ladder_raised 0 (.v 0) (.cons (.v 4) (.cons (.v 3) .nil)))))
  (.ret (.v 3))))))⟩
def f_want_moment (I : LIx) : Fn := ⟨1, 1, true, true, (.ite (.not_ (.call I.is_wide (.cons (.v 0) .nil))) (.raise I.e_NoMoment)
  .pass)⟩
def f_Ladder_is_open (I : LIx) : Fn := ⟨2, 5, true, true, (.seq (.ex (.call I.want_moment (.cons (.v 1) .nil)))
  (.seq (.asg [(.nm 2), (.nm 3), (.nm 4)] (.meth I.Ladder_open_at 0 (.v 0) (.cons (.v 1) .nil)))
  (.ret (.cmp .lt (.v 4) (.ix (.fld 0 4 (.v 0)) (.v 3))))))⟩
def f_Ladder_lesser (I : LIx) : Fn := ⟨3, 3, true, true, (.seq (.ex (.meth I.Ladder_want_roll 0 (.v 0) (.cons (.v 1) (.cons (.c (.int 1)) (.cons (.bi .len false (.cons (.fld 0 2 (.v 0)) .nil)) .nil)))))
  (.seq (.ex (.call I.want_number (.cons (.v 2) .nil)))
  (.ret (.meth I.Ladder_lowered 0 (.v 0) (.cons (.v 1) (.cons (.v 2) .nil))))))⟩
def f_Ladder_greater (I : LIx) : Fn := ⟨3, 3, true, true, (.seq (.ex (.meth I.Ladder_want_roll 0 (.v 0) (.cons (.v 1) (.cons (.c (.int 0)) (.cons (.bin .sub false (.bi .len false (.cons (.fld 0 2 (.v 0)) .nil)) (.c (.int 1))) .nil)))))
  (.seq (.ex (.call I.want_number (.cons (.v 2) .nil)))
  (.ret (.meth I.Ladder_raised 0 (.v 0) (.cons (.v 1) (.cons (.v 2) .nil))))))⟩
structure LadA0 (T : Nat → Option Fn) (gl : Nat → Option D) (I : LIx) : Prop where
  is_whole : T I.is_whole = some (f_is_whole I)
  is_wide : T I.is_wide = some (f_is_wide I)
  is_list : T I.is_list = some (f_is_list I)
  is_part : T I.is_part = some (f_is_part I)
  are_parts : T I.are_parts = some (f_are_parts I)
  are_sizes : T I.are_sizes = some (f_are_sizes I)
  is_row : T I.is_row = some (f_is_row I)
  are_rows : T I.are_rows = some (f_are_rows I)
  ahead_of : T I.ahead_of = some (f_ahead_of I)
  Ladder_init : T I.Ladder_init = some (f_Ladder_init I)
  Ladder_want_roll : T I.Ladder_want_roll = some (f_Ladder_want_roll I)
  Ladder_want_any_roll : T I.Ladder_want_any_roll = some (f_Ladder_want_any_roll I)
  Ladder_lowered : T I.Ladder_lowered = some (f_Ladder_lowered I)
  Ladder_first_moment : T I.Ladder_first_moment = some (f_Ladder_first_moment I)
  Ladder_stretch : T I.Ladder_stretch = some (f_Ladder_stretch I)
  want_number : T I.want_number = some (f_want_number I)
  g_WIDEST : gl I.g_WIDEST = some (.int 1000000000000000000000000000000)
  g_WIDEST_NUMBER : gl I.g_WIDEST_NUMBER = some (.int 10000000000000000000000000000000000000000)
  g_MOST_PARTS : gl I.g_MOST_PARTS = some (.int 12)
  g_LONGEST_PART : gl I.g_LONGEST_PART = some (.int 1000000000)
  g_MOST_ROWS : gl I.g_MOST_ROWS = some (.int 4)
  g_MOST_SIZES : gl I.g_MOST_SIZES = some (.int 12)
  g_GREATEST_SIZE : gl I.g_GREATEST_SIZE = some (.int 1000)
structure LadA (T : Nat → Option Fn) (gl : Nat → Option D) (I : LIx) : Prop extends LadA0 T gl I where
  place_in : T I.place_in = some (f_place_in I)
  Ladder_raised : T I.Ladder_raised = some (f_Ladder_raised I)
instance {T : Nat → Option Fn} {gl : Nat → Option D} {I : LIx} : Coe (LadA T gl I) (LadA0 T gl I) := ⟨LadA.toLadA0⟩
structure LadB (T : Nat → Option Fn) (gl : Nat → Option D) (I : LIx) : Prop where
  Ladder_open_at : T I.Ladder_open_at = some (f_Ladder_open_at I)
  Ladder_lowest : T I.Ladder_lowest = some (f_Ladder_lowest I)
  want_moment : T I.want_moment = some (f_want_moment I)
structure LadBA (T : Nat → Option Fn) (gl : Nat → Option D) (I : LIx) : Prop where
  Ladder_bar_at : T I.Ladder_bar_at = some (f_Ladder_bar_at I)
structure LadO (T : Nat → Option Fn) (gl : Nat → Option D) (I : LIx) : Prop where
  Ladder_is_open : T I.Ladder_is_open = some (f_Ladder_is_open I)
structure LadC (T : Nat → Option Fn) (gl : Nat → Option D) (I : LIx) : Prop where
  Ladder_lesser : T I.Ladder_lesser = some (f_Ladder_lesser I)
  Ladder_greater : T I.Ladder_greater = some (f_Ladder_greater I)
end PK
namespace LD
open PK PySem
structure Lad where
  b : Int
  ps : List Int
  rs : List (Int × List Int)
def iL (l : List Int) : List D := l.map .int
def rowT (r : Int × List Int) : D := .tup [.int r.1, .tup (iL r.2)]
def pos (l : List Int) : List Int := l.filter fun p => decide (0 < p)
def Lad.t (l : Lad) : Int := (absL' l.ps).sum
def Lad.ds (l : Lad) : List D := [.int l.b, .lst (iL l.ps), .lst (l.rs.map rowT), .lst (iL (opn 0 l.ps)), .lst (iL (pos l.ps)), .int l.t]
def Lad.d (l : Lad) : D := .ins 0 l.ds
def W30 (i : Int) : Prop := -1000000000000000000000000000000 < i ∧ i < 1000000000000000000000000000000
structure Lad.Ok (l : Lad) : Prop where
  b : W30 l.b
  n1 : 1 ≤ l.ps.length
  n2 : l.ps.length ≤ 12
  p0 : ∀ p ∈ l.ps, p ≠ 0 ∧ -1000000000 ≤ p ∧ p ≤ 1000000000
  h : ∃ p q, l.ps = p :: q ∧ 0 < p
  r4 : l.rs.length ≤ 4
  r : ∀ r ∈ l.rs, W30 r.1 ∧ 1 ≤ r.2.length ∧ r.2.length ≤ 12 ∧ ∀ s ∈ r.2, 1 ≤ s ∧ s ≤ 1000
theorem call_of {T : Nat → Option Fn} {gl : Nat → Option D} {n : Nat} {ms : List Nat} {f : Nat} {args : List D} {G : Hp} {fn : Fn} (h : T f = some fn) : call T gl (n + 1) ms f args G = run (call T gl n) gl ms fn args G := by
  show optK (T f) _ _ = _
  rw [h]; rfl
theorem below_iL (m : Nat) (l : List Int) : belows m (iL l) = true := belows_map (fun _ => rfl) l
theorem below_rowT (m : Nat) (r : Int × List Int) : below m (rowT r) = true := by
  unfold rowT; rw [be_tup, bs_cons, be_int, bs_cons, be_tup, below_iL]; rfl
theorem below_lad (m : Nat) (l : Lad) : below m l.d = true := by
  show belows m l.ds = true
  unfold Lad.ds
  simp only [bs_cons, be_int, be_lst, below_iL, bs_nil, belows_map (below_rowT m), Bool.and_self]
def SeqV (G : Hp) (P : D) (ds : List D) : Prop := P = .lst ds ∨ P = .tup ds ∨ ∃ i, P = .ref i ∧ G[i]? = some (.lst ds)
section
variable {T : Nat → Option Fn} {gl : Nat → Option D} {I : LIx} {n : Nat} {ms : List Nat} {G : Hp}
theorem SeqV.seq {P : D} {ds : List D} (h : SeqV G P ds) : seqD G P = some ds := by
  rcases h with rfl | rfl | ⟨i, rfl, h⟩
  · rfl
  · rfl
  · show (match G[i]? with | some (.lst ds) => some ds | _ => none) = _; rw [h]
theorem SeqV.len {P : D} {ds : List D} (h : SeqV G P ds) : lenD G P = some ds.length := by
  rcases h with rfl | rfl | ⟨i, rfl, h⟩
  · rfl
  · rfl
  · rw [ln_ref, h]; rfl
theorem SeqV.is {P : D} {ds : List D} (h : SeqV G P ds) : typed G P = true ∧ [Ty.list, Ty.tuple].any (isTy G P) = true := by
  rcases h with rfl | rfl | ⟨i, rfl, h⟩
  · exact ⟨rfl, rfl⟩
  · exact ⟨rfl, rfl⟩
  · unfold typed isTy; simp only [h, List.any_cons, List.any_nil]; exact ⟨trivial, rfl⟩
theorem SeqV.it {P : D} {ds : List D} (h : SeqV G P ds) : ∃ g, itD .val [P] G = some (ds, g) ∧ still G g = true := by
  rcases h with rfl | rfl | ⟨i, rfl, h⟩
  · exact ⟨none, rfl, rfl⟩
  · exact ⟨none, rfl, rfl⟩
  · exact ⟨some (i, .lst ds), it_ref h, decide_eq_true h⟩
theorem SeqV.ix {P : D} {ds : List D} (h : SeqV G P ds) (i : Int) : ixD P (.int i) G = optK (L2.atI ds i) (fun d => .ok d G) .bad := by
  rcases h with rfl | rfl | ⟨j, rfl, h⟩
  · simp
  · simp
  · rw [ix_ref, h]; rfl
theorem comp_fil {step : D → Hp → R} {g : Option (Nat × Cell)} {k : List D → Hp → R} {α : Type} {q f : α → D} {c : α → Bool} (hst : still G g = true) : ∀ (l : List α) (acc : List D), (∀ a ∈ l, step (q a) G = if c a then .ok (.tup [f a]) G else .ok .non G) →
    compF step g (l.map q) G acc k = k (acc ++ (l.filter c).map f) G
  | [], acc, _ => by
    show iteK (still G g) _ _ = _
    rw [hst, List.filter_nil, List.map_nil, List.append_nil]; rfl
  | a :: l, acc, h => by
    show iteK (still G g) _ _ = _
    rw [hst, iteK_true, h a List.mem_cons_self]
    have ih := fun acc => comp_fil (step := step) (g := g) (k := k) (f := f) hst l acc fun b hb => h b (List.mem_cons_of_mem _ hb)
    cases hc : c a with
    | true =>
      rw [if_pos rfl, List.filter_cons_of_pos hc]
      show compF step g (l.map q) G (acc ++ [f a]) k = _
      rw [ih, List.append_assoc]; rfl
    | false =>
      rw [if_neg Bool.false_ne_true, List.filter_cons_of_neg (by rw [hc]; exact Bool.false_ne_true)]
      exact ih acc
theorem comp_run {cl : List Nat → Nat → List D → Hp → R} {m : List Nat} {s : PK.Env} {w one : Bool} {k : Ik} {own pt : List Nat} {it : Ls} {cond elt : L} {ds : List D} {g : Option (Nat × Cell)} {α : Type} {q f : α → D} {c : α → Bool} (l : List α)
    (he : evals cl gl m it s G = .ok (.tup ds) G) (hi : itD k ds G = some (l.map q, g)) (hst : still G g = true) (hz : l.length ≤ 1000000)
    (h : ∀ a ∈ l, ∃ s', bindT pt one (wipes s own) (q a) = some s' ∧ eval cl gl m cond s' G = .ok (.bl (c a)) G ∧ (c a = true → eval cl gl m elt s' G = .ok (f a) G)) :
    eval cl gl m (.comp w k own pt one it cond elt) s G = mkl w ((l.filter c).map f) G := by
  have hz : szOk (l.map q).length = true := decide_eq_true (by simpa using hz)
  rw [ev_comp, he, R.bind_ok, tupK_tup, hi, optK_some, hz, iteK_true]
  rw [comp_fil (c := c) (f := f) hst l [] fun a ha => ?_]
  · rw [List.nil_append, safe_mkl]
  · obtain ⟨s', h1, h2, h3⟩ := h a ha
    rw [h1, optK_some, h2, R.bind_ok, blK_bl]
    cases hc : c a with
    | true => rw [iteK_true, h3 hc, R.bind_ok, if_pos rfl]
    | false => rw [iteK_false, if_neg Bool.false_ne_true]
theorem filter_true {α : Type} (l : List α) : l.filter (fun _ => true) = l := List.filter_eq_self.mpr fun _ _ => rfl
theorem whole_int0 (A : LadA0 T gl I) (i : Int) : call T gl (n + 1) ms I.is_whole [.int i] G = .ok (.bl true) G := by
  rw [call_of A.is_whole]; unfold f_is_whole
  rw [run_t (by rfl)]
  simp -dsimp [typed, isTy]
theorem wide_int0 (A : LadA0 T gl I) {i : Int} (h : W30 i) : call T gl (n + 2) ms I.is_wide [.int i] G = .ok (.bl true) G := by
  rw [call_of A.is_wide]; unfold f_is_wide
  rw [run_t (by rfl)]
  have e : (if i < 0 then -i else i) < 1000000000000000000000000000000 := by unfold W30 at h; split <;> omega
  simp -dsimp [whole_int0 A, A.g_WIDEST, e]
theorem list_seq0 (A : LadA0 T gl I) {P : D} {ds : List D} (h : SeqV G P ds) : call T gl (n + 1) ms I.is_list [P] G = .ok (.bl true) G := by
  rw [call_of A.is_list]; unfold f_is_list
  rw [run_t (by rfl)]
  obtain ⟨h1, h2⟩ := h.is
  simp -dsimp [h1, h2, -List.any_cons, -List.any_nil]
theorem part_int0 (A : LadA0 T gl I) {i : Int} (h : i ≠ 0 ∧ -1000000000 ≤ i ∧ i ≤ 1000000000) : call T gl (n + 2) ms I.is_part [.int i] G = .ok (.bl true) G := by
  rw [call_of A.is_part]; unfold f_is_part
  rw [run_t (by rfl)]
  have e : (if i < 0 then -i else i) ≤ 1000000000 := by split <;> omega
  simp -dsimp [whole_int0 A, A.g_LONGEST_PART, e, h.1]
theorem blsD_all {α : Type} : ∀ l : List α, blsD (l.map fun _ => .bl true) = some (l.map fun _ => true)
  | [] => rfl
  | a :: l => by show (blsD (l.map fun _ => D.bl true)).map _ = _; rw [blsD_all l]; rfl
theorem bi_all_true {α : Type} (l : List α) : biD .all false [.lst (l.map fun _ => .bl true)] G = .ok (.bl true) G := by
  show (match (seqD G (.lst (l.map fun _ => D.bl true))).bind blsD with | some bs => R.ok (.bl (bs.all id)) G | none => .bad) = _
  rw [sq_lst]
  show (match blsD (l.map fun _ => D.bl true) with | some bs => R.ok (.bl (bs.all id)) G | none => .bad) = _
  rw [blsD_all]
  have : (l.map fun _ => true).all id = true := by rw [List.all_eq_true]; intro x hx; obtain ⟨_, _, rfl⟩ := List.mem_map.mp hx; rfl
  show R.ok (.bl ((l.map fun _ => true).all id)) G = _
  rw [this]
theorem parts_seq0 (A : LadA0 T gl I) {P : D} {ps : List Int} (h : SeqV G P (iL ps)) (h1 : 1 ≤ ps.length) (h2 : ps.length ≤ 12) (hp : ∀ p ∈ ps, p ≠ 0 ∧ -1000000000 ≤ p ∧ p ≤ 1000000000) (h0 : ∃ p q, ps = p :: q ∧ 0 < p) :
    call T gl (n + 3) ms I.are_parts [P] G = .ok (.bl true) G := by
  rw [call_of A.are_parts]; unfold f_are_parts
  rw [run_t (by rfl)]
  obtain ⟨g, hi, hst⟩ := h.it
  have hc : ∀ s : PK.Env, s[0]? = some (some P) → s.length = 2 → eval (call T gl (n + 2)) gl (G.length :: ms) (.comp false .val [1] [1] true (.cons (.v 0) .nil) (.c (.bl true)) (.call I.is_part (.cons (.v 1) .nil))) s G = .ok (.lst (ps.map fun _ => .bl true)) G := fun s h0 hl => by
    rw [comp_run (k := .val) (q := D.int) (f := fun _ => D.bl true) (c := fun _ => true) ps (ds := [P]) (by simp -dsimp [h0]) hi hst (by omega) fun a ha => ⟨_, rfl, by simp -dsimp, fun _ => ?_⟩, filter_true]
    · rfl
    · match s, hl with
      | [x, y], _ => simp -dsimp [wipes, part_int0 A (hp a ha)]
  have hl := h.len
  have hll : (iL ps).length = ps.length := by unfold iL; simp
  obtain ⟨p, e0, hp0⟩ : ∃ p, ixD P (.int 0) G = .ok (.int p) G ∧ 0 < p := by
    obtain ⟨p, q, rfl, hp0⟩ := h0
    exact ⟨p, by rw [h.ix]; simp [iL], hp0⟩
  have c1 : (1 : Int) ≤ (ps.length : Nat) := by omega
  have c2 : ((ps.length : Nat) : Int) ≤ 12 := by omega
  rw [hll] at hl
  have hc' := hc [some P, none] rfl rfl
  show fin true true G.length (exec _ _ _ _ [some P, none] G) = _
  simp -dsimp [↓hc', list_seq0 A h, hl, A.g_MOST_PARTS, bi_all_true, e0, hp0, c1, c2]
theorem sizes_seq0 (A : LadA0 T gl I) {P : D} {ss : List Int} (h : SeqV G P (iL ss)) (h1 : 1 ≤ ss.length) (h2 : ss.length ≤ 12) (hp : ∀ s ∈ ss, 1 ≤ s ∧ s ≤ 1000) :
    call T gl (n + 2) ms I.are_sizes [P] G = .ok (.bl true) G := by
  rw [call_of A.are_sizes]; unfold f_are_sizes
  rw [run_t (by rfl)]
  obtain ⟨g, hi, hst⟩ := h.it
  have hc : ∀ s : PK.Env, s[0]? = some (some P) → s.length = 2 → eval (call T gl (n + 1)) gl (G.length :: ms) (.comp false .val [1] [1] true (.cons (.v 0) .nil) (.c (.bl true)) (.and_ (.call I.is_whole (.cons (.v 1) .nil)) (.chain .le .le (.c (.int 1)) (.v 1) (.g I.g_GREATEST_SIZE)))) s G = .ok (.lst (ss.map fun _ => .bl true)) G := fun s h0 hl => by
    rw [comp_run (k := .val) (q := D.int) (f := fun _ => D.bl true) (c := fun _ => true) ss (ds := [P]) (by simp -dsimp [h0]) hi hst (by omega) fun a ha => ⟨_, rfl, by simp -dsimp, fun _ => ?_⟩, filter_true]
    · rfl
    · match s, hl with
      | [x, y], _ => simp -dsimp [wipes, whole_int0 A, A.g_GREATEST_SIZE, hp a ha]
  have hl := h.len
  have hll : (iL ss).length = ss.length := by unfold iL; simp
  have c1 : (1 : Int) ≤ (ss.length : Nat) := by omega
  have c2 : ((ss.length : Nat) : Int) ≤ 12 := by omega
  rw [hll] at hl
  have hc' := hc [some P, none] rfl rfl
  show fin true true G.length (exec _ _ _ _ [some P, none] G) = _
  simp -dsimp [↓hc', list_seq0 A h, hl, A.g_MOST_SIZES, bi_all_true, c1, c2]
def RowV (G : Hp) (P : D) (r : Int × List Int) : Prop := ∃ S, SeqV G P [.int r.1, S] ∧ SeqV G S (iL r.2)
def RowOk (r : Int × List Int) : Prop := W30 r.1 ∧ 1 ≤ r.2.length ∧ r.2.length ≤ 12 ∧ ∀ s ∈ r.2, 1 ≤ s ∧ s ≤ 1000
theorem row_seq0 (A : LadA0 T gl I) {P : D} {r : Int × List Int} (h : RowV G P r) (hr : RowOk r) : call T gl (n + 3) ms I.is_row [P] G = .ok (.bl true) G := by
  obtain ⟨S, h1, h2⟩ := h
  obtain ⟨r1, r2, r3, r4⟩ := hr
  rw [call_of A.is_row]; unfold f_is_row
  rw [run_t (by rfl)]
  have e0 : ixD P (.int 0) G = .ok (.int r.1) G := by rw [h1.ix]; simp
  have e1 : ixD P (.int 1) G = .ok S G := by rw [h1.ix]; simp
  simp -dsimp [list_seq0 A h1, h1.len, wide_int0 A r1, sizes_seq0 A h2 r2 r3 r4, e0, e1]
theorem rows_seq0 (A : LadA0 T gl I) {P : D} {qs : List ((Int × List Int) × D)} (h : SeqV G P (qs.map (·.2))) (h4 : qs.length ≤ 4) (hr : ∀ q ∈ qs, RowV G q.2 q.1 ∧ RowOk q.1) :
    call T gl (n + 4) ms I.are_rows [P] G = .ok (.bl true) G := by
  rw [call_of A.are_rows]; unfold f_are_rows
  rw [run_t (by rfl)]
  obtain ⟨g, hi, hst⟩ := h.it
  have hc : ∀ s : PK.Env, s[0]? = some (some P) → s.length = 2 → eval (call T gl (n + 3)) gl (G.length :: ms) (.comp false .val [1] [1] true (.cons (.v 0) .nil) (.c (.bl true)) (.call I.is_row (.cons (.v 1) .nil))) s G = .ok (.lst (qs.map fun _ => .bl true)) G := fun s h0 hl => by
    rw [comp_run (k := .val) (q := fun q : (Int × List Int) × D => q.2) (f := fun _ => D.bl true) (c := fun _ => true) qs (ds := [P]) (by simp -dsimp [h0]) hi hst (by omega) fun a ha => ⟨_, rfl, by simp -dsimp, fun _ => ?_⟩, filter_true]
    · rfl
    · match s, hl with
      | [x, y], _ => simp -dsimp [wipes, row_seq0 A (hr a ha).1 (hr a ha).2]
  have hl := h.len
  have hll : (qs.map (·.2)).length = qs.length := by simp
  have c2 : ((qs.length : Nat) : Int) ≤ 4 := by omega
  rw [hll] at hl
  have hc' := hc [some P, none] rfl rfl
  show fin true true G.length (exec _ _ _ _ [some P, none] G) = _
  simp -dsimp [↓hc', list_seq0 A h, hl, A.g_MOST_ROWS, bi_all_true, c2]
theorem intsD_iL : ∀ l : List Int, intsD (iL l) = some l
  | [] => rfl
  | a :: l => by show (intsD (iL l)).map _ = _; rw [intsD_iL l]; rfl
theorem bi_sum_of {x : D} {l : List Int} (h : seqD G x = some (iL l)) : biD .sum false [x] G = .ok (.int l.sum) G := by
  show (match (seqD G x).bind intsD with | some ns => R.ok (.int ns.sum) G | none => .bad) = _
  rw [h]
  show (match intsD (iL l) with | some ns => R.ok (.int ns.sum) G | none => .bad) = _
  rw [intsD_iL]
theorem cut_take {xs : List D} {k : Nat} : cutD xs none (some (k : Int)) = xs.take k := by
  unfold cutD
  show (xs.drop 0).take (HT.sIx xs.length xs.length (some (k : Int)) - 0) = _
  rw [List.drop_zero, Nat.sub_zero]
  have e : HT.sIx xs.length xs.length (some (k : Int)) = min k xs.length := by
    unfold HT.sIx
    first
      | (simp; omega)
      | (split <;> omega)
      | skip
  rw [e]
  by_cases c : k ≤ xs.length
  · rw [Nat.min_eq_left c]
  · rw [Nat.min_eq_right (by omega), List.take_of_length_le (by omega), List.take_of_length_le (by omega)]
theorem ahead_run0 (A : LadA0 T gl I) {P : D} {ss : List Int} (h : P = .lst (iL ss) ∨ P = .tup (iL ss)) (k : Nat) : call T gl (n + 1) ms I.ahead_of [P, .int (k : Nat)] G = .ok (.int (ss.take k).sum) G := by
  rw [call_of A.ahead_of]; unfold f_ahead_of
  rw [run_t (by rfl)]
  have e : (iL ss).take k = iL (ss.take k) := by unfold iL; rw [List.map_take]
  rcases h with rfl | rfl
  · have e1 : slD false (.lst (iL ss)) (.exc 0) (.int (k : Nat)) G = .ok (.lst (iL (ss.take k))) G := by
      show mkl false (cutD (iL ss) none (some (k : Int))) G = _
      rw [cut_take, e]; rfl
    simp -dsimp [e1, bi_sum_of (x := .lst (iL (ss.take k))) (G := G) (l := ss.take k) rfl]
  · have e1 : slD false (.tup (iL ss)) (.exc 0) (.int (k : Nat)) G = .ok (.tup (iL (ss.take k))) G := by
      show R.ok (.tup (cutD (iL ss) none (some (k : Int)))) G = _
      rw [cut_take, e]
    simp -dsimp [e1, bi_sum_of (x := .tup (iL (ss.take k))) (G := G) (l := ss.take k) rfl]
end
end LD
namespace LD
open PK PySem
def Bg (n : Int) : Prop := -1000000000000000000000000000000000000000000000000000000000000 ≤ n ∧ n ≤ 1000000000000000000000000000000000000000000000000000000000000
theorem big_mul {i j : Int} (hi : Bg i) (hj : Bg j) : mulOk i j = true :=
  decide_eq_true (.inl ⟨Nat.lt_of_le_of_lt (by unfold Bg at hi; omega : i.natAbs ≤ 1000000000000000000000000000000000000000000000000000000000000) (by decide : 1000000000000000000000000000000000000000000000000000000000000 < 2 ^ 1000),
    Nat.lt_of_le_of_lt (by unfold Bg at hj; omega : j.natAbs ≤ 1000000000000000000000000000000000000000000000000000000000000) (by decide : 1000000000000000000000000000000000000000000000000000000000000 < 2 ^ 1000)⟩)
theorem big_div {j : Int} (h : 0 < j) (h2 : Bg j) : divOk j = true := by
  refine decide_eq_true ⟨h, Int.lt_of_le_of_lt h2.2 ?_⟩
  have e : ((2 : Int) ^ 1000) = ((2 ^ 1000 : Nat) : Int) := (Int.natCast_pow 2 1000).symm
  rw [e]
  exact Int.ofNat_lt.mpr (by decide : 1000000000000000000000000000000000000000000000000000000000000 < 2 ^ 1000)
theorem ediv_big {x d M : Int} (hd : 0 < d) (h1 : -M ≤ x) (h2 : x ≤ M) (hM : 0 ≤ M) : -M ≤ x / d ∧ x / d ≤ M := by
  constructor
  · refine (Int.le_ediv_iff_mul_le hd).mpr ?_
    have : M * 1 ≤ M * d := Int.mul_le_mul_of_nonneg_left (by omega) hM
    rw [Int.neg_mul]; omega
  · have : x / d ≤ M / d := Int.ediv_le_ediv hd h2
    exact Int.le_trans this (Int.ediv_le_self _ hM)
theorem sum_ge {ss : List Int} (h : ∀ s ∈ ss, 1 ≤ s ∧ s ≤ 1000) : (ss.length : Int) ≤ ss.sum ∧ ss.sum ≤ 1000 * ss.length := by
  induction ss with
  | nil => exact ⟨Int.le_refl _, Int.le_refl _⟩
  | cons a l ih =>
    have := ih fun s hs => h s (List.mem_cons_of_mem _ hs)
    have := h a List.mem_cons_self
    rw [List.sum_cons, List.length_cons]; omega
theorem sum_abs {ps : List Int} (h : ∀ p ∈ ps, p ≠ 0 ∧ -1000000000 ≤ p ∧ p ≤ 1000000000) : (ps.length : Int) ≤ (absL' ps).sum ∧ (absL' ps).sum ≤ 1000000000 * ps.length := by
  induction ps with
  | nil => exact ⟨Int.le_refl _, Int.le_refl _⟩
  | cons a l ih =>
    have := ih fun s hs => h s (List.mem_cons_of_mem _ hs)
    have := h a List.mem_cons_self
    show (((a :: l).length : Nat) : Int) ≤ ((a.natAbs : Int) :: absL' l).sum ∧ ((a.natAbs : Int) :: absL' l).sum ≤ _
    rw [List.sum_cons, List.length_cons]; omega

def rowS (r : Int × List Int) (n : Int) : Int := stS r.1 (sums 0 r.2) r.2.sum n
def rowP (r : Int × List Int) (x : Int) : Int := stP r.1 (sums 0 r.2) r.2.sum x
def Lad.S0 (l : Lad) (n : Int) : Int := stS l.b (opn 0 l.ps) l.t n
def Lad.P0 (l : Lad) (m : Int) : Int := stP l.b (opn 0 l.ps) l.t m
def Lad.row (l : Lad) (k : Nat) : Int × List Int := l.rs.getD k (0, [])
def Lad.fm (l : Lad) : Nat → Int → Int
  | 0, n => l.S0 n
  | k + 1, n => l.fm k (rowS (l.row k) n)
def Lad.bar (l : Lad) (m : Int) : Nat → Int
  | 0 => l.P0 m
  | k + 1 => rowP (l.row k) (l.bar m k)
section
variable {l : Lad} (O : l.Ok)
include O
theorem Lad.Ok.st : Stair (opn 0 l.ps) l.t := by
  obtain ⟨p, q, e, hp⟩ := O.h
  have h0 := fun x hx => (O.p0 x hx).1
  unfold Lad.t
  rw [e] at h0 ⊢
  exact stair_parts hp h0
theorem Lad.Ok.t1 : 1 ≤ l.t ∧ l.t ≤ 12000000000 := by
  have := sum_abs O.p0
  have := O.n1
  have := O.n2
  unfold Lad.t
  omega
theorem Lad.Ok.rowok {k : Nat} (hk : k < l.rs.length) : RowOk (l.row k) := by
  refine O.r _ ?_
  unfold Lad.row
  rw [List.getD_eq_getElem?_getD, List.getElem?_eq_getElem hk]
  exact List.getElem_mem hk
end
theorem RowOk.st {r : Int × List Int} (h : RowOk r) : Stair (sums 0 r.2) r.2.sum :=
  stair_sizes (by intro z; have := h.2.1; rw [z] at this; simp at this) fun s hs => by have := (h.2.2.2 s hs).1; omega
theorem RowOk.t1 {r : Int × List Int} (h : RowOk r) : 1 ≤ r.2.sum ∧ r.2.sum ≤ 12000 := by
  have := sum_ge h.2.2.2
  have := h.2.1
  have := h.2.2.1
  omega
end LD
namespace LD
open PK PySem
@[simp] theorem cls_lad {l : Lad} {G : Hp} : clsD G l.d = some 0 := rfl
@[simp] theorem fl_0 {l : Lad} {G : Hp} : fldD G 0 0 l.d = some (.int l.b) := rfl
@[simp] theorem fl_1 {l : Lad} {G : Hp} : fldD G 0 1 l.d = some (.lst (iL l.ps)) := rfl
@[simp] theorem fl_2 {l : Lad} {G : Hp} : fldD G 0 2 l.d = some (.lst (l.rs.map rowT)) := rfl
@[simp] theorem fl_3 {l : Lad} {G : Hp} : fldD G 0 3 l.d = some (.lst (iL (opn 0 l.ps))) := rfl
@[simp] theorem fl_4 {l : Lad} {G : Hp} : fldD G 0 4 l.d = some (.lst (iL (pos l.ps))) := rfl
@[simp] theorem fl_5 {l : Lad} {G : Hp} : fldD G 0 5 l.d = some (.int l.t) := rfl
@[simp] theorem iL_len {l : List Int} : (iL l).length = l.length := by unfold iL; simp
theorem iL_get (l : List Int) (k : Nat) : (iL l)[k]? = (l[k]?).map .int := by unfold iL; rw [List.getElem?_map]
theorem iL_at {l : List Int} {k : Nat} (h : k < l.length) : L2.atI (iL l) (k : Int) = some (.int (l.getD k 0)) := by
  rw [at_nat, iL_get, List.getD_eq_getElem?_getD, List.getElem?_eq_getElem h]; rfl
theorem opn_pos (l : Lad) : (opn 0 l.ps).length = (pos l.ps).length := opn_len _ _
section
variable {T : Nat → Option Fn} {gl : Nat → Option D} {I : LIx} {n : Nat} {ms : List Nat} {G : Hp} {l : Lad}
theorem wantRoll_run0 (A : LadA0 T gl I) {x : D} {r lo hi : Int} (h1 : lo ≤ r) (h2 : r ≤ hi) : call T gl (n + 2) ms I.Ladder_want_roll [x, .int r, .int lo, .int hi] G = .ok .non G := by
  rw [call_of A.Ladder_want_roll]; unfold f_Ladder_want_roll
  rw [run_t (by rfl)]
  have e1 : ¬ r < lo := by omega
  have e2 : ¬ hi < r := by omega
  simp -dsimp [whole_int0 A, e1, e2]
theorem wantAny_run0 (A : LadA0 T gl I) {r : Nat} (h : r ≤ l.rs.length) : call T gl (n + 3) ms I.Ladder_want_any_roll [l.d, .int (r : Nat)] G = .ok .non G := by
  rw [call_of A.Ladder_want_any_roll]; unfold f_Ladder_want_any_roll
  rw [run_t (by rfl)]
  have e := fun ms (G : Hp) => wantRoll_run0 (n := n) (ms := ms) (G := G) A (x := l.d) (r := (r : Nat)) (lo := 0) (hi := (l.rs.length : Nat)) (by omega) (by omega)
  simp -dsimp [e]
def W40 (i : Int) : Prop := -10000000000000000000000000000000000000000 < i ∧ i < 10000000000000000000000000000000000000000
theorem wantNumber_run0 (A : LadA0 T gl I) {m : Int} (h : W40 m) : call T gl (n + 2) ms I.want_number [.int m] G = .ok .non G := by
  rw [call_of A.want_number]; unfold f_want_number
  rw [run_t (by rfl)]
  have e : ¬ 10000000000000000000000000000000000000000 ≤ (if m < 0 then -m else m) := by unfold W40 at h; split <;> omega
  simp -dsimp [whole_int0 A, A.g_WIDEST_NUMBER, e]
theorem row_at {k : Nat} (hk : k < l.rs.length) : (l.rs.map rowT)[k]? = some (rowT (l.row k)) := by
  unfold Lad.row
  rw [List.getElem?_map, List.getD_eq_getElem?_getD, List.getElem?_eq_getElem hk]; rfl
theorem row_ix {k : Nat} (hk : k < l.rs.length) : ixD (.lst (l.rs.map rowT)) (.int (k : Nat)) G = .ok (rowT (l.row k)) G := by
  rw [ix_lst, at_nat, row_at hk]; rfl
theorem lowered_run0 (A : LadA0 T gl I) {k : Nat} (hk : k < l.rs.length) (hr : RowOk (l.row k)) {x : Int} (hx : Bg x) :
    call T gl (n + 2) ms I.Ladder_lowered [l.d, .int ((k : Nat) + 1), .int x] G = .ok (.tup [.int (rowS (l.row k) x), .int ((l.row k).2.getD (x % ((l.row k).2.length : Nat)).toNat 0)]) G := by
  rw [call_of A.Ladder_lowered]; unfold f_Ladder_lowered
  rw [run_t (by rfl)]
  have ri := row_ix (G := G) hk
  generalize l.row k = r at *
  obtain ⟨f, ss⟩ := r
  have t1 := hr.t1
  have h12 := hr.2.2.1
  have h11 := hr.2.1
  simp only at *
  unfold Bg at hx
  have hl : (0 : Int) < (ss.length : Nat) := by omega
  have x2 := Int.emod_nonneg x (show ((ss.length : Nat) : Int) ≠ 0 by omega)
  have x3 := Int.emod_lt_of_pos x hl
  have hd : divOk (ss.length : Nat) = true := big_div (by omega) (by unfold Bg; omega)
  have d1 := ediv_big (x := x) (d := (ss.length : Nat)) (M := 1000000000000000000000000000000000000000000000000000000000000) (by omega) (by omega) (by omega) (by omega)
  have hml : mulOk (x / (ss.length : Nat)) ss.sum = true := big_mul (by unfold Bg; omega) (by unfold Bg; omega)
  have hsum := bi_sum_of (x := .tup (iL ss)) (G := G) (l := ss) rfl
  obtain ⟨j, hj⟩ : ∃ j : Nat, x % (ss.length : Nat) = (j : Int) := ⟨(x % (ss.length : Nat)).toNat, by omega⟩
  have hj2 : j < ss.length := by omega
  have e := ahead_run0 (n := n) (ms := G.length :: ms) (G := G) A (.inr rfl : (D.tup (iL ss)) = .lst (iL ss) ∨ (D.tup (iL ss)) = .tup (iL ss)) j
  have e2 : rowS (f, ss) x = f + x / (ss.length : Nat) * ss.sum + (ss.take j).sum := by
    show stS f (sums 0 ss) ss.sum x = _
    unfold stS
    rw [sums_length, hj, Int.toNat_natCast, List.getD_eq_getElem?_getD, sums_get ss 0 j hj2]; simp
  have ri' : ixD (.lst (l.rs.map rowT)) (.int (k : Nat)) G = .ok (.tup [.int f, .tup (iL ss)]) G := ri
  have ei : ((k : Nat) : Int) + 1 - 1 = (k : Nat) := by omega
  rw [e2, hj, Int.toNat_natCast]
  have ia := iL_at hj2
  simp -dsimp [ei, ri', hsum, hd, hml, hj, e, ia, -ix_lst]
theorem down_loop {cl : List Nat → Nat → List D → Hp → R} {m : List Nat} {low : Nat} (O : l.Ok) (H : ∀ (k : Nat) (x : Int), k < l.rs.length → Bg x → ∃ y, cl m low [l.d, .int ((k : Nat) + 1), .int x] G = .ok (.tup [.int (rowS (l.row k) x), y]) G) :
    ∀ (k : Nat) (x M : Int) (s1 s3 s4 s5 : Option D), k ≤ l.rs.length → -M ≤ x → x ≤ M → 1000000000000000000000000000000 ≤ M → M * 100000 ^ k ≤ 1000000000000000000000000000000000000000000000000000000000000 → ∃ (z : Int) (y3 : Option D), l.fm k x = l.S0 z ∧ Bg z ∧
      forF [3] true (fun s G => exec cl gl m (.set 2 (.ix (.meth low 0 (.v 0) (.cons (.v 3) (.cons (.v 2) .nil))) (.c (.int 0)))) s G) none (downD (k : Nat) k) [some l.d, s1, some (.int x), s3, s4, s5] G =
        .nx [some l.d, s1, some (.int z), y3, s4, s5] G
  | 0, x, M, s1, s3, s4, s5, hk, h1, h2, h3, h4 => ⟨x, s3, rfl, by rw [Int.pow_zero] at h4; unfold Bg; omega, rfl⟩
  | k + 1, x, M, s1, s3, s4, s5, hk, h1, h2, h3, h4 => by
    have hp : (1 : Int) ≤ 100000 ^ k := by
      have : (0 : Int) < 100000 ^ k := Int.pow_pos (by decide)
      omega
    have e12 : (100000 : Int) ^ (k + 1) = 100000 * 100000 ^ k := by rw [Int.pow_succ, Int.mul_comm]
    rw [e12, ← Int.mul_assoc] at h4
    have R := O.rowok (k := k) (by omega)
    have t1 := R.t1
    have hb := R.1
    unfold W30 at hb
    have m1 : M * 100000 * 1 ≤ M * 100000 * 100000 ^ k := Int.mul_le_mul_of_nonneg_left hp (by omega)
    obtain ⟨y, hy⟩ := H k x (by omega) (by unfold Bg; omega)
    have bd := stS_bound (b := (l.row k).1) R.st h1 h2 (by omega)
    have mm : (M + 1) * (l.row k).2.sum ≤ (M + 1) * 12000 := Int.mul_le_mul_of_nonneg_left t1.2 (by omega)
    have z1 : -(M * 100000) ≤ rowS (l.row k) x ∧ rowS (l.row k) x ≤ M * 100000 := by
      show _ ≤ stS (l.row k).1 (sums 0 (l.row k).2) (l.row k).2.sum x ∧ stS (l.row k).1 (sums 0 (l.row k).2) (l.row k).2.sum x ≤ _
      omega
    obtain ⟨z, y3, i1, i2, i4⟩ := down_loop O H k (rowS (l.row k) x) (M * 100000) s1 (some (.int ((k : Nat) + 1))) s4 s5 (by omega) z1.1 z1.2 (by omega) h4
    refine ⟨z, y3, i1, i2, ?_⟩
    show (exec cl gl m _ [some l.d, s1, some (.int x), some (.int ((k + 1 : Nat) : Int)), s4, s5] G).turn _ = _
    have e1 : ((k + 1 : Nat) : Int) = (k : Nat) + 1 := by omega
    rw [e1]
    have st : exec cl gl m (.set 2 (.ix (.meth low 0 (.v 0) (.cons (.v 3) (.cons (.v 2) .nil))) (.c (.int 0)))) [some l.d, s1, some (.int x), some (.int ((k : Nat) + 1)), s4, s5] G = .nx [some l.d, s1, some (.int (rowS (l.row k) x)), some (.int ((k : Nat) + 1)), s4, s5] G := by
      simp -dsimp [hy]
    rw [st]
    show forF [3] true _ none (downD (((k : Nat) : Int) + 1 - 1) k) _ G = _
    rw [show ((k : Nat) : Int) + 1 - 1 = (k : Nat) by omega]
    exact i4
theorem first_run0 (A : LadA0 T gl I) (O : l.Ok) {k : Nat} (hk : k ≤ l.rs.length) {x : Int} (hx : -10000000000000000000000000000000000000000 ≤ x ∧ x ≤ 10000000000000000000000000000000000000000) :
    call T gl (n + 3) ms I.Ladder_first_moment [l.d, .int (k : Nat), .int x] G = .ok (.int (l.fm k x)) G := by
  rw [call_of A.Ladder_first_moment]; unfold f_Ladder_first_moment
  rw [run_t (by rfl)]
  have h4 := O.r4
  have hpw : (10000000000000000000000000000000000000000 : Int) * 100000 ^ k ≤ 1000000000000000000000000000000000000000000000000000000000000 := by
    have : k = 0 ∨ k = 1 ∨ k = 2 ∨ k = 3 ∨ k = 4 := by omega
    rcases this with rfl | rfl | rfl | rfl | rfl <;> decide
  obtain ⟨z, y3, e1, e2, e3⟩ := down_loop (cl := call T gl (n + 2)) (gl := gl) (m := G.length :: ms) (G := G) O (fun k x hk hx => ⟨_, lowered_run0 A hk (O.rowok hk) hx⟩) k x 10000000000000000000000000000000000000000 (some (.int (k : Nat))) none none none hk hx.1 hx.2 (by omega) hpw
  have hi : itD .range3 [.int (k : Nat), .int 0, .int (-1)] G = some (downD (k : Nat) k, none) := by
    rw [it_r3, if_pos (decide_eq_true ⟨by omega, by omega, by omega, by omega, rfl⟩), show ((k : Int) - 0).toNat = k by omega]
  have hf : exec (call T gl (n + 2)) gl (G.length :: ms) (.for .range3 [3] true (.cons (.v 1) (.cons (.c (.int 0)) (.cons (.neg (.c (.int 1))) .nil))) (.set 2 (.ix (.meth I.Ladder_lowered 0 (.v 0) (.cons (.v 3) (.cons (.v 2) .nil))) (.c (.int 0))))) [some l.d, some (.int (k : Nat)), some (.int x), none, none, none] G = .nx [some l.d, some (.int (k : Nat)), some (.int z), y3, none, none] G := by
    rw [ex_for, show evals (call T gl (n + 2)) gl (G.length :: ms) (.cons (.v 1) (.cons (.c (.int 0)) (.cons (.neg (.c (.int 1))) .nil))) [some l.d, some (.int (k : Nat)), some (.int x), none, none, none] G = .ok (.tup [.int (k : Nat), .int 0, .int (-1)]) G from rfl, R.st_ok, tupK_tup, hi, optK_some]
    exact e3
  show fin true true G.length (exec _ _ _ _ [some l.d, some (.int (k : Nat)), some (.int x), none, none, none] G) = _
  rw [ex_seq, hf, PK.O.then_nx, e1]
  have t1 := O.t1
  have p1 := O.st.pos
  rw [opn_pos] at p1
  have p2 : (pos l.ps).length ≤ 12 := Nat.le_trans (List.length_filter_le ..) O.n2
  have hl : (0 : Int) < ((pos l.ps).length : Nat) := by omega
  have x2 := Int.emod_nonneg z (show (((pos l.ps).length : Nat) : Int) ≠ 0 by omega)
  have x3 := Int.emod_lt_of_pos z hl
  have hd : divOk ((pos l.ps).length : Nat) = true := big_div (by omega) (by unfold Bg; omega)
  unfold Bg at e2
  have d1 := ediv_big (x := z) (d := ((pos l.ps).length : Nat)) (M := 1000000000000000000000000000000000000000000000000000000000000) (by omega) (by omega) (by omega) (by omega)
  have hml : mulOk (z / ((pos l.ps).length : Nat)) l.t = true := big_mul (by unfold Bg; omega) (by unfold Bg; omega)
  obtain ⟨j, hj⟩ : ∃ j : Nat, z % ((pos l.ps).length : Nat) = (j : Int) := ⟨(z % ((pos l.ps).length : Nat)).toNat, by omega⟩
  have e5 : l.S0 z = l.b + z / ((pos l.ps).length : Nat) * l.t + (opn 0 l.ps).getD j 0 := by
    show stS l.b (opn 0 l.ps) l.t z = _
    unfold stS
    rw [opn_pos, hj, Int.toNat_natCast]
  have ia : L2.atI (iL (opn 0 l.ps)) (j : Int) = _ := iL_at (by rw [opn_pos]; omega)
  rw [e5]
  simp -dsimp [hd, hml, hj, ia]
theorem stretch_run0 (A : LadA0 T gl I) (O : l.Ok) {k : Nat} (hk : k ≤ l.rs.length) {x : Int} (hx : W40 x) :
    call T gl (n + 4) ms I.Ladder_stretch [l.d, .int (k : Nat), .int x] G = .ok (.tup [.int (l.fm k x), .int (l.fm k (x + 1))]) G := by
  rw [call_of A.Ladder_stretch]; unfold f_Ladder_stretch
  rw [run_t (by rfl)]
  unfold W40 at hx
  have e1 := fun ms (G : Hp) => wantAny_run0 (n := n) (ms := ms) (G := G) A hk
  have e2 := fun ms (G : Hp) => wantNumber_run0 (n := n + 1) (ms := ms) (G := G) A (m := x) hx
  have e3 := fun ms (G : Hp) => first_run0 (n := n) (ms := ms) (G := G) A O hk (x := x) ⟨by omega, by omega⟩
  have e4 := fun ms (G : Hp) => first_run0 (n := n) (ms := ms) (G := G) A O hk (x := x + 1) ⟨by omega, by omega⟩
  simp -dsimp [e1, e2, e3, e4]
end
end LD
namespace LD
open PK PySem
section
variable {T : Nat → Option Fn} {gl : Nat → Option D} {I : LIx} {n : Nat} {ms : List Nat} {G : Hp} {l : Lad}
theorem put_fld {cl : List Nat → Nat → List D → Hp → R} {m : List Nat} {s : PK.Env} {ds : List D} {v : D} {e : L} {j : Nat} (hs : s[0]? = some (some (.ref G.length))) (he : eval cl gl m e s (G ++ [.ins 0 ds]) = .ok v (G ++ [.ins 0 ds])) (hv : ∀ k, below k v = true) (hj : j = ds.length) :
    exec cl gl m (.put (.fld 0 j (.v 0)) e) s (G ++ [.ins 0 ds]) = .nx s (G ++ [.ins 0 (ds ++ [v])]) := by
  subst hj
  rw [ex_put, he, R.st_ok, pp_fld]
  have e0 : eval cl gl m (.v 0) s (G ++ [.ins 0 ds]) = .ok (.ref G.length) (G ++ [.ins 0 ds]) := by rw [ev_v, hs]; rfl
  rw [e0, R.st_ok]
  show (match (G ++ [Cell.ins 0 ds])[G.length]? with | some (.ins c' ds') => if c' = 0 ∧ wok G.length m v = true then (if ds.length < ds'.length then PK.O.nx s (setC _ _ _) else if ds.length = ds'.length then PK.O.nx s (setC (G ++ [Cell.ins 0 ds]) G.length (.ins 0 (ds' ++ [v]))) else .bad) else .bad | _ => .bad) = _
  have hg : (G ++ [Cell.ins 0 ds])[G.length]? = some (.ins 0 ds) := by simp
  rw [hg]
  dsimp only
  rw [if_pos ⟨rfl, wok_of_below hv⟩, if_neg (Nat.lt_irrefl _), if_pos rfl]
  unfold setC
  simp
theorem SeqV.more {P : D} {ds : List D} (h : SeqV G P ds) (c : Cell) : SeqV (G ++ [c]) P ds := by
  rcases h with h | h | ⟨i, h1, h2⟩
  · exact .inl h
  · exact .inr (.inl h)
  · exact .inr (.inr ⟨i, h1, by rw [List.getElem?_append_left (hp_lt h2)]; exact h2⟩)
theorem RowV.more {P : D} {r : Int × List Int} (h : RowV G P r) (c : Cell) : RowV (G ++ [c]) P r := by
  obtain ⟨S, h1, h2⟩ := h
  exact ⟨S, h1.more c, h2.more c⟩
theorem absL_iL (ps : List Int) : (ps.map fun p => D.int (if p < 0 then -p else p)) = iL (absL' ps) := by
  unfold iL absL'
  rw [List.map_map]
  refine List.map_congr_left fun p _ => ?_
  show D.int (if p < 0 then -p else p) = D.int (p.natAbs : Int)
  have : (if p < 0 then -p else p) = (p.natAbs : Int) := by split <;> omega
  rw [this]
theorem enum_map : ∀ (xs : List Int) (k : Nat), enumD (k : Nat) (iL xs) = (xs.zipIdx k).map fun q => D.tup [.int (q.2 : Nat), .int q.1]
  | [], _ => rfl
  | x :: xs, k => by
    show D.tup [.int (k : Nat), .int x] :: enumD ((k : Nat) + 1) (iL xs) = _
    have := enum_map xs (k + 1)
    rw [show ((k + 1 : Nat) : Int) = (k : Nat) + 1 by omega] at this
    rw [this]; rfl
theorem opn_zip : ∀ (pre ps : List Int), (((ps.zipIdx pre.length).filter fun q => decide (0 < q.1)).map fun q => (((absL' (pre ++ ps)).take q.2).sum)) = opn (absL' pre).sum ps
  | pre, [] => rfl
  | pre, p :: ps => by
    have ih := opn_zip (pre ++ [p]) ps
    have e1 : (pre ++ [p]).length = pre.length + 1 := by simp
    have e2 : pre ++ [p] ++ ps = pre ++ p :: ps := by simp
    have e3 : (absL' (pre ++ [p])).sum = (absL' pre).sum + (p.natAbs : Int) := by unfold absL'; simp
    rw [e1, e2, e3] at ih
    show (List.filter _ ((p, pre.length) :: ps.zipIdx (pre.length + 1))).map _ = if 0 < p then _ else _
    have ht : (absL' (pre ++ p :: ps)).take pre.length = absL' pre := by unfold absL'; rw [List.map_append, List.take_left' (by simp)]
    by_cases c : 0 < p
    · rw [List.filter_cons_of_pos (by simpa using c), List.map_cons, ih, if_pos c, ht]
    · rw [List.filter_cons_of_neg (by simpa using c), ih, if_neg c]
def EnumV (G : Hp) (P : D) (ds : List D) : Prop := ∀ c, ∃ g, itD .enum [P] (G ++ [c]) = some (enumD 0 ds, g) ∧ still (G ++ [c]) g = true
theorem EnumV.lst {ds : List D} : EnumV G (.lst ds) ds := fun c => ⟨none, rfl, rfl⟩
theorem EnumV.ref {ds : List D} {i : Nat} (h : G[i]? = some (.lst ds)) : EnumV G (.ref i) ds := fun c => by
  have h' : (G ++ [c])[i]? = some (.lst ds) := by rw [List.getElem?_append_left (hp_lt h)]; exact h
  exact ⟨_, it_eref h', decide_eq_true h'⟩
theorem init_run0 (A : LadA0 T gl I) (O : l.Ok) {P R : D} {qs : List ((Int × List Int) × D)} (hP : SeqV G P (iL l.ps)) (hE : EnumV G P (iL l.ps)) (hR : SeqV G R (qs.map (·.2))) (hq : qs.map (·.1) = l.rs) (hf : ∀ q ∈ qs, RowV G q.2 q.1) :
    call T gl (n + 5) ms I.Ladder_init [.ref G.length, .int l.b, P, R] (G ++ [.ins 0 []]) = .ok .non (G ++ [.ins 0 l.ds]) := by
  rw [call_of A.Ladder_init]; unfold f_Ladder_init
  rw [run_t (by rfl)]
  generalize hmm : (G ++ [Cell.ins 0 []]).length :: ms = mm
  have hql : qs.length = l.rs.length := by rw [← hq, List.length_map]
  have hqo : ∀ q ∈ qs, RowOk q.1 := fun q hm => O.r q.1 (by rw [← hq]; exact List.mem_map.mpr ⟨q, hm, rfl⟩)
  have hlen : (G ++ [Cell.ins 0 []]).length = G.length + 1 := by simp
  show fin true true (G ++ [Cell.ins 0 []]).length (exec (call T gl (n + 4)) gl mm _ [some (.ref G.length), some (.int l.b), some P, some R, none, none, none, none] _) = _
  have s0 : exec (call T gl (n + 4)) gl mm (.ite (.or_ (.not_ (.call I.is_wide (.cons (.v 1) .nil))) (.or_ (.not_ (.call I.are_parts (.cons (.v 2) .nil))) (.not_ (.call I.are_rows (.cons (.v 3) .nil))))) (.raise I.e_NoLadder) .pass) [some (.ref G.length), some (.int l.b), some P, some R, none, none, none, none] (G ++ [.ins 0 []]) = .nx [some (.ref G.length), some (.int l.b), some P, some R, none, none, none, none] (G ++ [.ins 0 []]) := by
    have e1 := wide_int0 (n := n + 2) (ms := mm) (G := G ++ [.ins 0 []]) A O.b
    have e2 := parts_seq0 (n := n + 1) (ms := mm) (G := G ++ [.ins 0 []]) A (hP.more _) O.n1 O.n2 O.p0 O.h
    have e3 := rows_seq0 (n := n) (ms := mm) (G := G ++ [.ins 0 []]) A (hR.more _) (by rw [hql]; exact O.r4) fun q hm => ⟨(hf q hm).more _, hqo q hm⟩
    simp -dsimp [e1, e2, e3]
  have s1 : ∀ ds, ds.length = 0 → exec (call T gl (n + 4)) gl mm (.put (.fld 0 0 (.v 0)) (.v 1)) [some (.ref G.length), some (.int l.b), some P, some R, none, none, none, none] (G ++ [.ins 0 ds]) = .nx [some (.ref G.length), some (.int l.b), some P, some R, none, none, none, none] (G ++ [.ins 0 (ds ++ [.int l.b])]) := fun ds hd =>
    put_fld rfl rfl (fun k => rfl) hd.symm
  have s2 : ∀ ds, ds.length = 1 → exec (call T gl (n + 4)) gl mm (.put (.fld 0 1 (.v 0)) (.bi .list false (.cons (.v 2) .nil))) [some (.ref G.length), some (.int l.b), some P, some R, none, none, none, none] (G ++ [.ins 0 ds]) = .nx [some (.ref G.length), some (.int l.b), some P, some R, none, none, none, none] (G ++ [.ins 0 (ds ++ [.lst (iL l.ps)])]) := fun ds hd =>
    put_fld rfl (by have := (hP.more (.ins 0 ds)).seq; simp -dsimp [this]) (fun k => by rw [be_lst, below_iL]) hd.symm
  have s3 : ∀ ds, ds.length = 2 → exec (call T gl (n + 4)) gl mm (.put (.fld 0 2 (.v 0)) (.comp false .val [5] [5] true (.cons (.v 3) .nil) (.c (.bl true)) (.tup (.cons (.ix (.v 5) (.c (.int 0))) (.cons (.bi .tuple false (.cons (.ix (.v 5) (.c (.int 1))) .nil)) .nil))))) [some (.ref G.length), some (.int l.b), some P, some R, none, none, none, none] (G ++ [.ins 0 ds]) = .nx [some (.ref G.length), some (.int l.b), some P, some R, none, none, none, none] (G ++ [.ins 0 (ds ++ [.lst (l.rs.map rowT)])]) := fun ds hd => by
    refine put_fld rfl ?_ (fun k => by rw [be_lst, belows_map (below_rowT k)]) hd.symm
    obtain ⟨g, hi, hst⟩ := (hR.more (.ins 0 ds)).it
    rw [comp_run (k := .val) (q := fun q : (Int × List Int) × D => q.2) (f := fun q => rowT q.1) (c := fun _ => true) qs (ds := [R]) rfl hi hst (by have := O.r4; omega) fun q hm => ⟨_, rfl, by simp -dsimp, fun _ => ?_⟩, filter_true, mk_f, ← hq, List.map_map]
    · rfl
    · obtain ⟨S, h1, h2⟩ := (hf q hm).more (.ins 0 ds)
      have i0 : ixD q.2 (.int 0) (G ++ [.ins 0 ds]) = .ok (.int q.1.1) (G ++ [.ins 0 ds]) := by rw [h1.ix]; simp
      have i1 : ixD q.2 (.int 1) (G ++ [.ins 0 ds]) = .ok S (G ++ [.ins 0 ds]) := by rw [h1.ix]; simp
      have h3 := h2.seq
      simp -dsimp [wipes, i0, i1, h3]
      rfl
  have s4 : ∀ ds, exec (call T gl (n + 4)) gl mm (.set 4 (.comp false .val [6] [6] true (.cons (.v 2) .nil) (.c (.bl true)) (.bi .abs false (.cons (.v 6) .nil)))) [some (.ref G.length), some (.int l.b), some P, some R, none, none, none, none] (G ++ [.ins 0 ds]) = .nx [some (.ref G.length), some (.int l.b), some P, some R, some (.lst (iL (absL' l.ps))), none, none, none] (G ++ [.ins 0 ds]) := fun ds => by
    obtain ⟨g, hi, hst⟩ := (hP.more (.ins 0 ds)).it
    rw [ex_set, comp_run (k := .val) (q := D.int) (f := fun p => D.int (if p < 0 then -p else p)) (c := fun _ => true) l.ps (ds := [P]) rfl hi hst (by have := O.n2; omega) fun r hr => ⟨_, rfl, by simp -dsimp, fun _ => ?_⟩, filter_true, mk_f, absL_iL]
    · rfl
    · simp -dsimp [wipes]
  have s5 : ∀ ds, ds.length = 3 → exec (call T gl (n + 4)) gl mm (.put (.fld 0 3 (.v 0)) (.comp false .enum [6, 7] [7, 6] false (.cons (.v 2) .nil) (.cmp .gt (.v 6) (.c (.int 0))) (.call I.ahead_of (.cons (.v 4) (.cons (.v 7) .nil))))) [some (.ref G.length), some (.int l.b), some P, some R, some (.lst (iL (absL' l.ps))), none, none, none] (G ++ [.ins 0 ds]) = .nx [some (.ref G.length), some (.int l.b), some P, some R, some (.lst (iL (absL' l.ps))), none, none, none] (G ++ [.ins 0 (ds ++ [.lst (iL (opn 0 l.ps))])]) := fun ds hd => by
    refine put_fld rfl ?_ (fun k => by rw [be_lst, below_iL]) hd.symm
    obtain ⟨g, hi, hst⟩ := hE (.ins 0 ds)
    have hi' : itD .enum [P] (G ++ [.ins 0 ds]) = some ((l.ps.zipIdx 0).map (fun q => D.tup [.int (q.2 : Nat), .int q.1]), g) := by rw [hi, ← enum_map]; rfl
    have oz := opn_zip [] l.ps
    rw [comp_run (k := .enum) (q := fun q : Int × Nat => D.tup [.int (q.2 : Nat), .int q.1]) (f := fun q : Int × Nat => D.int ((absL' l.ps).take q.2).sum) (c := fun q : Int × Nat => decide (0 < q.1)) (l.ps.zipIdx 0) (ds := [P]) rfl hi' hst (by have := O.n2; simp; omega) fun q hq => ⟨[some (.ref G.length), some (.int l.b), some P, some R, some (.lst (iL (absL' l.ps))), none, some (.int q.1), some (.int (q.2 : Nat))], rfl, by simp -dsimp, fun _ => ?_⟩, mk_f]
    · congr 2
      show _ = (opn (absL' []).sum l.ps).map D.int
      rw [← oz, List.map_map]; rfl
    · have := fun ms (G : Hp) => ahead_run0 (n := n + 3) (ms := ms) (G := G) A (.inl rfl : (D.lst (iL (absL' l.ps))) = .lst (iL (absL' l.ps)) ∨ (D.lst (iL (absL' l.ps))) = .tup (iL (absL' l.ps))) q.2
      simp -dsimp [this]
  have s6 : ∀ ds, ds.length = 4 → exec (call T gl (n + 4)) gl mm (.put (.fld 0 4 (.v 0)) (.comp false .val [6] [6] true (.cons (.v 2) .nil) (.cmp .gt (.v 6) (.c (.int 0))) (.v 6))) [some (.ref G.length), some (.int l.b), some P, some R, some (.lst (iL (absL' l.ps))), none, none, none] (G ++ [.ins 0 ds]) = .nx [some (.ref G.length), some (.int l.b), some P, some R, some (.lst (iL (absL' l.ps))), none, none, none] (G ++ [.ins 0 (ds ++ [.lst (iL (pos l.ps))])]) := fun ds hd => by
    refine put_fld rfl ?_ (fun k => by rw [be_lst, below_iL]) hd.symm
    obtain ⟨g, hi, hst⟩ := (hP.more (.ins 0 ds)).it
    rw [comp_run (k := .val) (q := D.int) (f := D.int) (c := fun p => decide (0 < p)) l.ps (ds := [P]) rfl hi hst (by have := O.n2; omega) fun r hr => ⟨_, rfl, by simp -dsimp [wipes], fun _ => by simp -dsimp [wipes]⟩, mk_f]
    rfl
  have s7 : ∀ ds, ds.length = 5 → exec (call T gl (n + 4)) gl mm (.put (.fld 0 5 (.v 0)) (.bi .sum false (.cons (.v 4) .nil))) [some (.ref G.length), some (.int l.b), some P, some R, some (.lst (iL (absL' l.ps))), none, none, none] (G ++ [.ins 0 ds]) = .nx [some (.ref G.length), some (.int l.b), some P, some R, some (.lst (iL (absL' l.ps))), none, none, none] (G ++ [.ins 0 (ds ++ [.int l.t])]) := fun ds hd => by
    have hsum := bi_sum_of (x := .lst (iL (absL' l.ps))) (G := G ++ [.ins 0 ds]) (l := absL' l.ps) rfl
    refine put_fld rfl ?_ (fun k => rfl) hd.symm
    simp -dsimp [hsum]
    rfl
  rw [ex_seq, s0, PK.O.then_nx, ex_seq, s1 _ rfl, PK.O.then_nx, ex_seq, s2 _ rfl, PK.O.then_nx, ex_seq, s3 _ rfl, PK.O.then_nx, ex_seq, s4, PK.O.then_nx, ex_seq, s5 _ rfl, PK.O.then_nx, ex_seq, s6 _ rfl, PK.O.then_nx, s7 _ rfl, fr_tnx]
  congr 1
  rw [hlen, List.take_of_length_le (by simp)]
  rfl
end
end LD
namespace PK
open PySem
structure GIx where
  law_pot : Nat
  law_digit : Nat
  law_wide : Nat
  law_part : Nat
  law_sizes : Nat
  law_drawn : Nat
  law_turn : Nat
  law_starts : Nat
  law_lowest : Nat
  law_raised : Nat
  law_lowered : Nat
  law_begins : Nat
  law_moment : Nat
def f_law_pot (I : GIx) : Fn := ⟨2, 3, true, false, (.seq (.set 2 (.ix (.bin .add false (.bi .list false (.cons (.v 0) .nil)) (.lst false (.cons (.c (.int 0)) .nil))) (.bi .min2 false (.cons (.v 1) (.cons (.bi .len false (.cons (.v 0) .nil)) .nil)))))
  (.ret (.lst true (.cons (.bi .max2 false (.cons (.c (.int 0)) (.cons (.bin .sub false (.v 2) (.bin .pow false (.c (.int 10)) (.c (.int 18)))) .nil))) (.cons (.bin .mod false (.bin .add false (.bin .add false (.bin .mul false (.bin .mod false (.v 2) (.c (.int 2147483629))) (.c (.int 48271))) (.bin .mul false (.c (.int 977)) (.v 1))) (.c (.int 11))) (.c (.int 2147483629))) .nil)))))⟩
def f_law_digit (I : GIx) : Fn := ⟨2, 3, true, true, (.seq (.ite (.cmp .gt (.ix (.v 0) (.c (.int 0))) (.c (.int 0))) (.seq (.set 2 (.bin .mod false (.ix (.v 0) (.c (.int 0))) (.v 1)))
  (.seq (.put (.sb (.v 0) (.c (.int 0))) (.bin .fdiv false (.ix (.v 0) (.c (.int 0))) (.v 1)))
  (.ret (.v 2))))
  .pass)
  (.seq (.put (.sb (.v 0) (.c (.int 1))) (.bin .mod false (.bin .add false (.bin .mul false (.ix (.v 0) (.c (.int 1))) (.c (.int 48271))) (.c (.int 12289))) (.c (.int 2147483629))))
  (.ret (.bin .mod false (.bin .fdiv false (.bin .mod false (.bin .mul false (.ix (.v 0) (.c (.int 1))) (.ix (.v 0) (.c (.int 1)))) (.c (.int 2147483587))) (.c (.int 3))) (.v 1)))))⟩
def f_law_wide (I : GIx) : Fn := ⟨1, 5, true, true, (.seq (.set 1 (.call I.law_digit (.cons (.v 0) (.cons (.c (.int 5)) .nil))))
  (.seq (.set 2 (.bin .sub false (.call I.law_digit (.cons (.v 0) (.cons (.c (.int 41)) .nil))) (.c (.int 20))))
  (.seq (.set 3 (.c (.int 0)))
  (.seq (.for .range1 [4] true (.cons (.c (.int 4)) .nil) (.set 3 (.bin .add false (.bin .mul false (.v 3) (.bin .pow false (.c (.int 10)) (.c (.int 8)))) (.call I.law_digit (.cons (.v 0) (.cons (.bin .pow false (.c (.int 10)) (.c (.int 8))) .nil))))))
  (.seq (.set 3 (.bin .add false (.bin .sub false (.bin .mod false (.v 3) (.bin .sub false (.bin .mul false (.c (.int 2)) (.bin .pow false (.c (.int 10)) (.c (.int 30)))) (.c (.int 1)))) (.bin .pow false (.c (.int 10)) (.c (.int 30)))) (.c (.int 1))))
  (.ret (.ix (.lst false (.cons (.v 2) (.cons (.v 2) (.cons (.v 2) (.cons (.v 3) (.cons (.ix (.lst false (.cons (.bin .sub false (.bin .pow false (.c (.int 10)) (.c (.int 30))) (.c (.int 1))) (.cons (.bin .sub false (.c (.int 1)) (.bin .pow false (.c (.int 10)) (.c (.int 30)))) .nil))) (.bin .mod false (.v 2) (.c (.int 2)))) .nil)))))) (.v 1))))))))⟩
def f_law_part (I : GIx) : Fn := ⟨2, 3, true, true, (.seq (.set 2 (.bin .add false (.c (.int 1)) (.call I.law_digit (.cons (.v 0) (.cons (.ix (.lst false (.cons (.c (.int 4)) (.cons (.c (.int 60)) (.cons (.bin .pow false (.c (.int 10)) (.c (.int 9))) .nil)))) (.call I.law_digit (.cons (.v 0) (.cons (.c (.int 3)) .nil)))) .nil)))))
  (.seq (.ite (.and_ (.cmp .eq (.call I.law_digit (.cons (.v 0) (.cons (.c (.int 3)) .nil))) (.c (.int 0))) (.not_ (.v 1))) (.ret (.bin .sub false (.c (.int 0)) (.v 2)))
  .pass)
  (.ret (.v 2))))⟩
def f_law_sizes (I : GIx) : Fn := ⟨1, 2, true, true, (.ret (.comp false .range1 [1] [1] true (.cons (.bin .add false (.c (.int 1)) (.call I.law_digit (.cons (.v 0) (.cons (.c (.int 12)) .nil)))) .nil) (.c (.bl true)) (.bin .add false (.c (.int 1)) (.call I.law_digit (.cons (.v 0) (.cons (.ix (.lst false (.cons (.c (.int 3)) (.cons (.c (.int 3)) (.cons (.c (.int 1000)) .nil)))) (.call I.law_digit (.cons (.v 0) (.cons (.c (.int 3)) .nil)))) .nil))))))⟩
def f_law_drawn (I : GIx) : Fn := ⟨1, 5, true, true, (.seq (.set 1 (.call I.law_wide (.cons (.v 0) .nil)))
  (.seq (.set 2 (.comp false .range1 [4] [4] true (.cons (.bin .add false (.c (.int 1)) (.call I.law_digit (.cons (.v 0) (.cons (.c (.int 12)) .nil)))) .nil) (.c (.bl true)) (.call I.law_part (.cons (.v 0) (.cons (.cmp .eq (.v 4) (.c (.int 0))) .nil)))))
  (.seq (.set 3 (.comp false .range1 [4] [4] true (.cons (.call I.law_digit (.cons (.v 0) (.cons (.c (.int 5)) .nil))) .nil) (.c (.bl true)) (.tup (.cons (.call I.law_wide (.cons (.v 0) .nil)) (.cons (.call I.law_sizes (.cons (.v 0) .nil)) .nil)))))
  (.ret (.tup (.cons (.v 1) (.cons (.v 2) (.cons (.v 3) .nil))))))))⟩
def f_law_turn (I : GIx) : Fn := ⟨1, 2, true, true, (.ret (.bi .sum false (.cons (.comp false .val [1] [1] true (.cons (.ix (.v 0) (.c (.int 1))) .nil) (.c (.bl true)) (.bi .abs false (.cons (.v 1) .nil))) .nil)))⟩
def f_law_starts (I : GIx) : Fn := ⟨1, 4, true, true, (.seq (.set 1 (.lst true .nil))
  (.seq (.set 2 (.c (.int 0)))
  (.seq (.for .val [3] true (.cons (.ix (.v 0) (.c (.int 1))) .nil) (.seq (.ite (.cmp .gt (.v 3) (.c (.int 0))) (.ex (.mt .append false (.v 1) (.cons (.v 2) .nil)))
  .pass)
  (.set 2 (.bin .add false (.v 2) (.bi .abs false (.cons (.v 3) .nil))))))
  (.ret (.v 1)))))⟩
def f_law_lowest (I : GIx) : Fn := ⟨2, 6, true, true, (.seq (.asg [(.nm 2), (.nm 3)] (.bi .divmod false (.cons (.bin .sub false (.v 1) (.ix (.v 0) (.c (.int 0)))) (.cons (.call I.law_turn (.cons (.v 0) .nil)) .nil))))
  (.seq (.set 4 (.call I.law_starts (.cons (.v 0) .nil)))
  (.ret (.bin .sub false (.bin .add false (.bin .mul false (.v 2) (.bi .len false (.cons (.v 4) .nil))) (.bi .len false (.cons (.comp false .val [5] [5] true (.cons (.v 4) .nil) (.cmp .le (.v 5) (.v 3)) (.v 5)) .nil))) (.c (.int 1))))))⟩
def f_law_raised (I : GIx) : Fn := ⟨2, 5, true, true, (.seq (.asg [(.nm 2), (.nm 3)] (.bi .divmod false (.cons (.bin .sub false (.v 1) (.ix (.v 0) (.c (.int 0)))) (.cons (.bi .sum false (.cons (.ix (.v 0) (.c (.int 1))) .nil)) .nil))))
  (.seq (.set 4 (.c (.int 0)))
  (.seq (.while 4096 (.cmp .ge (.v 3) (.ix (.ix (.v 0) (.c (.int 1))) (.v 4))) (.seq (.set 3 (.bin .sub false (.v 3) (.ix (.ix (.v 0) (.c (.int 1))) (.v 4))))
  (.set 4 (.bin .add false (.v 4) (.c (.int 1))))))
  (.ret (.bin .add false (.bin .mul false (.v 2) (.bi .len false (.cons (.ix (.v 0) (.c (.int 1))) .nil))) (.v 4))))))⟩
def f_law_lowered (I : GIx) : Fn := ⟨2, 4, true, true, (.seq (.asg [(.nm 2), (.nm 3)] (.bi .divmod false (.cons (.v 1) (.cons (.bi .len false (.cons (.ix (.v 0) (.c (.int 1))) .nil)) .nil))))
  (.ret (.tup (.cons (.bin .add false (.bin .add false (.ix (.v 0) (.c (.int 0))) (.bin .mul false (.v 2) (.bi .sum false (.cons (.ix (.v 0) (.c (.int 1))) .nil)))) (.bi .sum false (.cons (.sl false (.ix (.v 0) (.c (.int 1))) (.c (.exc 0)) (.v 3)) .nil))) (.cons (.ix (.ix (.v 0) (.c (.int 1))) (.v 3)) .nil)))))⟩
def f_law_begins (I : GIx) : Fn := ⟨3, 7, true, true, (.seq (.for .val [3] true (.cons (.rev false (.sl false (.ix (.v 0) (.c (.int 2))) (.c (.exc 0)) (.v 1))) .nil) (.set 2 (.ix (.call I.law_lowered (.cons (.v 3) (.cons (.v 2) .nil))) (.c (.int 0)))))
  (.seq (.set 4 (.call I.law_starts (.cons (.v 0) .nil)))
  (.seq (.asg [(.nm 5), (.nm 6)] (.bi .divmod false (.cons (.v 2) (.cons (.bi .len false (.cons (.v 4) .nil)) .nil))))
  (.ret (.bin .add false (.bin .add false (.ix (.v 0) (.c (.int 0))) (.bin .mul false (.v 5) (.call I.law_turn (.cons (.v 0) .nil)))) (.ix (.v 4) (.v 6)))))))⟩
def f_law_moment (I : GIx) : Fn := ⟨2, 7, true, true, (.seq (.set 2 (.call I.law_digit (.cons (.v 0) (.cons (.c (.int 4)) .nil))))
  (.seq (.set 3 (.call I.law_wide (.cons (.v 0) .nil)))
  (.seq (.set 4 (.bin .sub false (.bin .add false (.ix (.v 1) (.c (.int 0))) (.call I.law_digit (.cons (.v 0) (.cons (.bin .add false (.bin .mul false (.c (.int 4)) (.call I.law_turn (.cons (.v 1) .nil))) (.c (.int 1))) .nil)))) (.bin .mul false (.c (.int 2)) (.call I.law_turn (.cons (.v 1) .nil)))))
  (.seq (.set 5 (.call I.law_digit (.cons (.v 0) (.cons (.bin .add false (.bi .len false (.cons (.ix (.v 1) (.c (.int 2))) .nil)) (.c (.int 1))) .nil))))
  (.seq (.set 6 (.bin .sub false (.call I.law_begins (.cons (.v 1) (.cons (.v 5) (.cons (.bin .sub false (.call I.law_digit (.cons (.v 0) (.cons (.c (.int 21)) .nil))) (.c (.int 10))) .nil)))) (.call I.law_digit (.cons (.v 0) (.cons (.c (.int 2)) .nil)))))
  (.ret (.bi .max2 false (.cons (.bin .sub false (.c (.int 1)) (.bin .pow false (.c (.int 10)) (.c (.int 30)))) (.cons (.bi .min2 false (.cons (.bin .sub false (.bin .pow false (.c (.int 10)) (.c (.int 30))) (.c (.int 1))) (.cons (.ix (.lst false (.cons (.v 4) (.cons (.v 4) (.cons (.v 3) (.cons (.v 6) .nil))))) (.v 2)) .nil))) .nil)))))))))⟩
structure DrawL (T : Nat → Option Fn) (gl : Nat → Option D) (I : GIx) : Prop where
  law_pot : T I.law_pot = some (f_law_pot I)
  law_digit : T I.law_digit = some (f_law_digit I)
  law_wide : T I.law_wide = some (f_law_wide I)
  law_part : T I.law_part = some (f_law_part I)
  law_sizes : T I.law_sizes = some (f_law_sizes I)
  law_drawn : T I.law_drawn = some (f_law_drawn I)
structure TurnL (T : Nat → Option Fn) (gl : Nat → Option D) (I : GIx) : Prop where
  law_turn : T I.law_turn = some (f_law_turn I)
  law_starts : T I.law_starts = some (f_law_starts I)
structure MathU (T : Nat → Option Fn) (gl : Nat → Option D) (I : GIx) : Prop where
  law_lowest : T I.law_lowest = some (f_law_lowest I)
  law_raised : T I.law_raised = some (f_law_raised I)
structure MathD (T : Nat → Option Fn) (gl : Nat → Option D) (I : GIx) : Prop where
  law_lowered : T I.law_lowered = some (f_law_lowered I)
  law_begins : T I.law_begins = some (f_law_begins I)
structure MomL (T : Nat → Option Fn) (gl : Nat → Option D) (I : GIx) : Prop where
  law_moment : T I.law_moment = some (f_law_moment I)
end PK
namespace LD
open PK PySem
section
variable {T : Nat → Option Fn} {gl : Nat → Option D} {I : GIx} {n : Nat} {ms : List Nat} {G : Hp} {p : Nat}
def rowL (r : Int × List Int) : D := .tup [.int r.1, .lst (iL r.2)]
theorem below_rowL (m : Nat) (r : Int × List Int) : below m (rowL r) = true := by
  unfold rowL; rw [be_tup, bs_cons, be_int, bs_cons, be_lst, below_iL]; rfl
end
end LD
namespace LD
open PK PySem
section
variable {T : Nat → Option Fn} {gl : Nat → Option D} {I : GIx} {n : Nat} {ms : List Nat} {G : Hp} {p : Nat} {l : Lad}
end
end LD
namespace LD
open PK PySem
section
variable {T : Nat → Option Fn} {gl : Nat → Option D} {I : GIx} {n : Nat} {ms : List Nat} {G : Hp} {p : Nat} {l : Lad}
end
end LD
namespace LD
open PK PySem TL
theorem draw_to2 {r : R} {W : Rs} {tw : Tag W} {G X : Hp} {p : Nat} {a b : Int} {ok : D → Prop} (h : Drawn r (G.set p (potC a b) ++ X) p ok) (hp : p < G.length) (q : ∀ v a' b', PotOk b' → ok v → W.q v (G.set p (potC a' b') ++ X)) : R.to r W tw := by
  obtain ⟨v, a', b', rfl, o, k⟩ := h
  rw [to_ok, List.set_append_left _ _ (by rw [List.length_set]; exact hp), List.set_set]
  exact q v a' b' o k
theorem pot_2 {G X : Hp} {p : Nat} {a b : Int} (hp : p < G.length) (o : PotOk b) : PotAt (G.set p (potC a b) ++ X) p :=
  ⟨a, b, by rw [List.getElem?_append_left (by rw [List.length_set]; exact hp), List.getElem?_set_self hp], o⟩
structure KeyOk (k : Str) : Prop where
  k1 : 1 ≤ k.length
  k8 : k.length ≤ 8
  ks : ∀ c ∈ tl k, c ∈ tl alph
section
variable {T : Nat → Option Fn} {gl : Nat → Option D} {I : EIx} {N : GIx} {n : Nat} {ms : List Nat} {G H : Hp} {p q : Nat} {l : Lad}
structure EntJ (I : EIx) (N : GIx) : Prop where
  dg : I.law_digit = N.law_digit
  wi : I.law_wide = N.law_wide
  tu : I.law_turn = N.law_turn
  lo : I.law_lowest = N.law_lowest
  ra : I.law_raised = N.law_raised
  be : I.law_begins = N.law_begins
  mo : I.law_moment = N.law_moment
structure Ents (es : List En) : Prop where
  ok : ∀ e ∈ es, EnOk e
  nd : (es.map En.k).Nodup
end
end LD
namespace LD
open PK PySem
section
variable {T : Nat → Option Fn} {gl : Nat → Option D} {I : LIx} {n : Nat} {ms : List Nat} {G : Hp} {l : Lad}
theorem madeL : madeD false G.length (G ++ [.ins 0 l.ds]) = .ok l.d G := by
  unfold madeD
  rw [if_neg Bool.false_ne_true]
  have h : frzD (G ++ [.ins 0 l.ds]) G.length (.ref G.length) = l.d := by
    unfold frzD
    dsimp only
    rw [if_neg (Nat.lt_irrefl _)]
    simp
    rfl
  dsimp only
  rw [h, if_pos (below_lad _ _)]
  congr 1
  simp
end
end LD
namespace PK
open PySem
namespace Lk
structure OIx where
  bar_of : Nat
  Locks___init : Nat
  Locks_is_shut : Nat
  Locks_shut : Nat
  Locks_open_bar : Nat
  Locks_shut_bars : Nat
  Locks_bar_in : Nat
  Locks_broken : Nat
  Ladder_rolls : Nat
  Ladder_bar_at : Nat
  Ladder_stretch : Nat
  law_pot : Nat
  law_digit : Nat
  law_parts : Nat
  law_rows : Nat
  law_begin : Nat
  law_near : Nat
  law_bar : Nat
  e_NoLock : Nat
def f_law_pot (I : OIx) : Fn := ⟨2, 3, true, false, (.seq (.set 2 (.ix (.bin .add false (.bi .list false (.cons (.v 0) .nil)) (.lst false (.cons (.c (.int 0)) .nil))) (.bi .min2 false (.cons (.v 1) (.cons (.bi .len false (.cons (.v 0) .nil)) .nil)))))
  (.ret (.lst true (.cons (.bin .mul false (.v 2) (.bi .int false (.cons (.cmp .ge (.v 2) (.bin .pow false (.c (.int 10)) (.c (.int 18)))) .nil))) (.cons (.bin .mod false (.bin .add false (.bin .add false (.bin .mul false (.bin .mod false (.v 2) (.c (.int 2147483629))) (.c (.int 39373))) (.bin .mul false (.c (.int 101)) (.v 1))) (.c (.int 7))) (.c (.int 2147483629))) .nil)))))⟩
def f_law_digit (I : OIx) : Fn := ⟨2, 3, true, true, (.seq (.ite (.cmp .gt (.ix (.v 0) (.c (.int 0))) (.c (.int 0))) (.seq (.set 2 (.bin .mod false (.ix (.v 0) (.c (.int 0))) (.v 1)))
  (.seq (.put (.sb (.v 0) (.c (.int 0))) (.bin .fdiv false (.ix (.v 0) (.c (.int 0))) (.v 1)))
  (.ret (.v 2))))
  .pass)
  (.seq (.put (.sb (.v 0) (.c (.int 1))) (.bin .mod false (.bin .add false (.bin .mul false (.ix (.v 0) (.c (.int 1))) (.c (.int 39373))) (.c (.int 7919))) (.c (.int 2147483629))))
  (.ret (.bin .mod false (.bin .fdiv false (.ix (.v 0) (.c (.int 1))) (.c (.int 16))) (.v 1)))))⟩
def f_law_parts (I : OIx) : Fn := ⟨1, 4, true, true, (.seq (.set 1 (.lst true .nil))
  (.seq (.for .range1 [2] true (.cons (.bin .add false (.c (.int 1)) (.call I.law_digit (.cons (.v 0) (.cons (.c (.int 5)) .nil)))) .nil) (.seq (.set 3 (.ix (.lst false (.cons (.bin .add false (.c (.int 1)) (.call I.law_digit (.cons (.v 0) (.cons (.c (.int 5)) .nil)))) (.cons (.bin .add false (.c (.int 1)) (.call I.law_digit (.cons (.v 0) (.cons (.c (.int 60)) .nil)))) (.cons (.bin .sub false (.bin .pow false (.c (.int 10)) (.c (.int 9))) (.call I.law_digit (.cons (.v 0) (.cons (.c (.int 3)) .nil)))) .nil)))) (.call I.law_digit (.cons (.v 0) (.cons (.c (.int 3)) .nil)))))
  (.ex (.mt .append false (.v 1) (.cons (.bin .mul false (.v 3) (.ix (.lst false (.cons (.c (.int 1)) (.cons (.bin .sub false (.c (.int 1)) (.bin .mul false (.c (.int 2)) (.call I.law_digit (.cons (.v 0) (.cons (.c (.int 2)) .nil))))) .nil))) (.bi .int false (.cons (.cmp .gt (.v 2) (.c (.int 0))) .nil)))) .nil)))))
  (.ret (.v 1))))⟩
def f_law_rows (I : OIx) : Fn := ⟨1, 7, true, true, (.seq (.set 1 (.lst true .nil))
  (.seq (.for .range1 [2] true (.cons (.call I.law_digit (.cons (.v 0) (.cons (.c (.int 5)) .nil))) .nil) (.seq (.set 3 (.ix (.lst false (.cons (.bin .sub false (.call I.law_digit (.cons (.v 0) (.cons (.c (.int 9)) .nil))) (.c (.int 4))) (.cons (.bin .sub false (.call I.law_digit (.cons (.v 0) (.cons (.bin .pow false (.c (.int 10)) (.c (.int 12))) .nil))) (.bin .mul false (.c (.int 5)) (.bin .pow false (.c (.int 10)) (.c (.int 11))))) .nil))) (.call I.law_digit (.cons (.v 0) (.cons (.c (.int 2)) .nil)))))
  (.seq (.set 4 (.lst true .nil))
  (.seq (.for .range1 [5] true (.cons (.bin .add false (.c (.int 1)) (.call I.law_digit (.cons (.v 0) (.cons (.c (.int 3)) .nil)))) .nil) (.seq (.set 6 (.lst false (.cons (.bin .add false (.c (.int 1)) (.call I.law_digit (.cons (.v 0) (.cons (.c (.int 3)) .nil)))) (.cons (.bin .add false (.c (.int 1)) (.call I.law_digit (.cons (.v 0) (.cons (.c (.int 9)) .nil)))) (.cons (.bin .sub false (.c (.int 1000)) (.call I.law_digit (.cons (.v 0) (.cons (.c (.int 3)) .nil)))) .nil)))))
  (.ex (.mt .append false (.v 4) (.cons (.ix (.v 6) (.call I.law_digit (.cons (.v 0) (.cons (.c (.int 3)) .nil)))) .nil)))))
  (.ex (.mt .append false (.v 1) (.cons (.tup (.cons (.v 3) (.cons (.bi .tuple false (.cons (.v 4) .nil)) .nil))) .nil)))))))
  (.ret (.v 1))))⟩
def f_law_begin (I : OIx) : Fn := ⟨1, 1, true, true, (.ret (.ix (.lst false (.cons (.bin .sub false (.call I.law_digit (.cons (.v 0) (.cons (.c (.int 99)) .nil))) (.c (.int 49))) (.cons (.bin .sub false (.call I.law_digit (.cons (.v 0) (.cons (.bin .mul false (.c (.int 2)) (.bin .pow false (.c (.int 10)) (.c (.int 28)))) .nil))) (.bin .pow false (.c (.int 10)) (.c (.int 28)))) .nil))) (.call I.law_digit (.cons (.v 0) (.cons (.c (.int 2)) .nil)))))⟩
def f_law_near (I : OIx) : Fn := ⟨2, 4, true, true, (.seq (.set 2 (.bin .sub false (.call I.law_digit (.cons (.v 0) (.cons (.c (.int 201)) .nil))) (.c (.int 100))))
  (.seq (.set 3 (.bin .sub false (.call I.law_digit (.cons (.v 0) (.cons (.bin .mul false (.c (.int 2)) (.bin .pow false (.c (.int 10)) (.c (.int 12)))) .nil))) (.bin .pow false (.c (.int 10)) (.c (.int 12)))))
  (.ret (.bin .add false (.v 1) (.ix (.lst false (.cons (.v 2) (.cons (.v 2) (.cons (.v 3) .nil)))) (.call I.law_digit (.cons (.v 0) (.cons (.c (.int 3)) .nil))))))))⟩
def f_law_bar (I : OIx) : Fn := ⟨3, 6, true, true, (.seq (.set 3 (.call I.law_digit (.cons (.v 0) (.cons (.meth I.Ladder_rolls 0 (.v 1) .nil) .nil))))
  (.seq (.set 4 (.meth I.Ladder_bar_at 0 (.v 1) (.cons (.v 3) (.cons (.call I.law_near (.cons (.v 0) (.cons (.v 2) .nil))) .nil))))
  (.seq (.set 5 (.bin .add false (.bin .sub false (.call I.law_digit (.cons (.v 0) (.cons (.bin .sub false (.bin .mul false (.c (.int 2)) (.bin .pow false (.c (.int 10)) (.c (.int 40)))) (.c (.int 1))) .nil))) (.bin .pow false (.c (.int 10)) (.c (.int 40)))) (.c (.int 1))))
  (.ret (.tup (.cons (.v 3) (.cons (.ix (.lst false (.cons (.v 4) (.cons (.v 4) (.cons (.bin .sub false (.call I.law_digit (.cons (.v 0) (.cons (.c (.int 9)) .nil))) (.c (.int 4))) (.cons (.v 5) .nil))))) (.call I.law_digit (.cons (.v 0) (.cons (.c (.int 4)) .nil)))) .nil)))))))⟩
def f_Locks___init (I : OIx) : Fn := ⟨2, 2, false, true, (.seq (.put (.fld 1 0 (.v 0)) (.v 1))
  (.put (.fld 1 1 (.v 0)) (.dnew true)))⟩
def f_Locks_is_shut (I : OIx) : Fn := ⟨3, 3, true, true, (.seq (.ex (.meth I.Ladder_stretch 0 (.fld 1 0 (.v 0)) (.cons (.v 1) (.cons (.v 2) .nil))))
  (.ret (.cmp .isin (.tup (.cons (.v 1) (.cons (.v 2) .nil))) (.fld 1 1 (.v 0)))))⟩
def f_Locks_shut (I : OIx) : Fn := ⟨3, 3, true, true, (.seq (.ite (.meth I.Locks_is_shut 1 (.v 0) (.cons (.v 1) (.cons (.v 2) .nil))) (.raise I.e_NoLock)
  .pass)
  (.put (.sb (.fld 1 1 (.v 0)) (.tup (.cons (.v 1) (.cons (.v 2) .nil)))) (.c (.bl true))))⟩
def f_Locks_shut_bars (I : OIx) : Fn := ⟨1, 1, true, true, (.ret (.bi .sortT false (.cons (.fld 1 1 (.v 0)) .nil)))⟩
def f_Locks_open_bar (I : OIx) : Fn := ⟨3, 3, true, true, (.seq (.ite (.not_ (.meth I.Locks_is_shut 1 (.v 0) (.cons (.v 1) (.cons (.v 2) .nil)))) (.raise I.e_NoLock)
  .pass)
  (.ex (.mt .popT false (.fld 1 1 (.v 0)) (.cons (.tup (.cons (.v 1) (.cons (.v 2) .nil))) .nil))))⟩
def f_Ladder_rolls (I : OIx) : Fn := ⟨1, 1, true, true, (.ret (.bin .add false (.bi .len false (.cons (.fld 0 2 (.v 0)) .nil)) (.c (.int 1))))⟩
def f_Locks_bar_in (I : OIx) : Fn := ⟨4, 7, true, true, (.seq (.asg [(.nm 4), (.nm 5)] (.meth I.Ladder_stretch 0 (.fld 1 0 (.v 0)) (.cons (.v 1) (.cons (.v 2) .nil))))
  (.ret (.call I.bar_of (.cons (.comp false .val [6] [6] true (.cons (.v 3) .nil) (.chain .le .lt (.v 4) (.ix (.v 6) (.c (.int 0))) (.v 5)) (.v 6)) .nil))))⟩
def f_Locks_broken (I : OIx) : Fn := ⟨3, 5, true, true, (.seq (.for .val [3, 4] false (.cons (.meth I.Locks_shut_bars 1 (.v 0) .nil) .nil) (.ite (.cmp .ne (.meth I.Locks_bar_in 1 (.v 0) (.cons (.v 3) (.cons (.v 4) (.cons (.v 1) .nil)))) (.meth I.Locks_bar_in 1 (.v 0) (.cons (.v 3) (.cons (.v 4) (.cons (.v 2) .nil))))) (.ret (.tup (.cons (.v 3) (.cons (.v 4) .nil))))
  .pass))
  (.ret (.c .non)))⟩
structure DrawK (T : Nat → Option Fn) (gl : Nat → Option D) (I : OIx) : Prop where
  law_pot : T I.law_pot = some (f_law_pot I)
  law_digit : T I.law_digit = some (f_law_digit I)
structure LadK (T : Nat → Option Fn) (gl : Nat → Option D) (I : OIx) : Prop where
  law_parts : T I.law_parts = some (f_law_parts I)
  law_rows : T I.law_rows = some (f_law_rows I)
  law_begin : T I.law_begin = some (f_law_begin I)
  law_near : T I.law_near = some (f_law_near I)
  law_bar : T I.law_bar = some (f_law_bar I)
structure LokK (T : Nat → Option Fn) (gl : Nat → Option D) (I : OIx) : Prop where
  Locks___init : T I.Locks___init = some (f_Locks___init I)
  Locks_is_shut : T I.Locks_is_shut = some (f_Locks_is_shut I)
  Locks_shut : T I.Locks_shut = some (f_Locks_shut I)
  Locks_shut_bars : T I.Locks_shut_bars = some (f_Locks_shut_bars I)
structure OpenK (T : Nat → Option Fn) (gl : Nat → Option D) (I : OIx) : Prop where
  Locks_open_bar : T I.Locks_open_bar = some (f_Locks_open_bar I)
structure RolK (T : Nat → Option Fn) (gl : Nat → Option D) (I : OIx) : Prop where
  Ladder_rolls : T I.Ladder_rolls = some (f_Ladder_rolls I)
structure BrkK (T : Nat → Option Fn) (gl : Nat → Option D) (I : OIx) : Prop where
  Locks_bar_in : T I.Locks_bar_in = some (f_Locks_bar_in I)
  Locks_broken : T I.Locks_broken = some (f_Locks_broken I)
end Lk
end PK
namespace LD
open PK PySem PK.Lk
section
variable {cl : List Nat → Nat → List D → Hp → R} {gl : Nat → Option D} {m : List Nat} {s : PK.Env} {G : Hp}
theorem pw_ev {k : Int} {z : Int} (h0 : decide (0 ≤ k ∧ k ≤ 1000 ∧ (10 : Int).natAbs < 2 ^ 64) = true) (h : (10 : Int) ^ k.toNat = z) : eval cl gl m (.bin .pow false (.c (.int 10)) (.c (.int k))) s G = .ok (.int z) G := by
  rw [ev_bin, ev_c, R.bind_ok, ev_c, R.bind_ok, bd_pow, h0, h]; rfl
theorem pw18 : eval cl gl m (.bin .pow false (.c (.int 10)) (.c (.int 18))) s G = .ok (.int 1000000000000000000) G := pw_ev (by decide) (by decide)
theorem pw40 : eval cl gl m (.bin .pow false (.c (.int 10)) (.c (.int 40))) s G = .ok (.int 10000000000000000000000000000000000000000) G := pw_ev (by decide) (by decide)
theorem ml40 : mulOk 2 10000000000000000000000000000000000000000 = true := big_mul (by unfold Bg; omega) (by unfold Bg; omega)
end
section
variable {T : Nat → Option Fn} {gl : Nat → Option D} {I : OIx} {n : Nat} {ms : List Nat} {G : Hp} {p : Nat} {l : Lad}
theorem potK_g (A : DrawK T gl I) (ns : List Int) (hl : ns.length ≤ 63) (k : Nat) (hk : k ≤ 1000) : ∃ a b, PotOk b ∧ call T gl (n + 1) ms I.law_pot [.fz (ns.map .int), .int (k : Nat)] G = .ok (.ref G.length) (G ++ [potC a b]) := by
  rw [call_of A.law_pot]; unfold Lk.f_law_pot
  rw [run_t (by rfl)]
  have ei : (if (ns.length : Int) < (k : Nat) then (ns.length : Int) else (k : Nat)) = ((min k ns.length : Nat) : Int) := by split <;> omega
  obtain ⟨z, hz⟩ : ∃ z : Int, (ns.map D.int ++ [D.int 0])[min k ns.length]? = some (D.int z) := by
    by_cases c : min k ns.length < ns.length
    · exact ⟨ns[min k ns.length], by rw [List.getElem?_append_left (by simpa using c), List.getElem?_map, List.getElem?_eq_getElem c]; rfl⟩
    · exact ⟨0, by rw [List.getElem?_append_right (by simpa using c)]; simp [show min k ns.length - ns.length = 0 by omega]⟩
  have e1 : mulOk (z % 2147483629) 39373 = true := big_mul (by unfold Bg; omega) (by unfold Bg; omega)
  have e2 : mulOk 101 (k : Nat) = true := big_mul (by unfold Bg; omega) (by unfold Bg; omega)
  have e3 : mulOk z (if decide (z ≥ 1000000000000000000) = true then 1 else 0) = true := by
    split
    · exact decide_eq_true (.inr (by decide))
    · exact decide_eq_true (.inr (by decide))
  have hsz : szOk ((ns.map D.int).length + [D.int 0].length) = true := decide_eq_true (by simp; omega)
  refine ⟨z * (if decide (z ≥ 1000000000000000000) = true then 1 else 0), (z % 2147483629 * 39373 + 101 * (k : Nat) + 7) % 2147483629, ⟨by omega, by omega⟩, ?_⟩
  show fin true false G.length (exec _ _ _ _ [some (.fz (ns.map .int)), some (.int (k : Nat)), none] G) = _
  have s1 : exec (call T gl n) gl (G.length :: ms) (.set 2 (.ix (.bin .add false (.bi .list false (.cons (.v 0) .nil)) (.lst false (.cons (.c (.int 0)) .nil))) (.bi .min2 false (.cons (.v 1) (.cons (.bi .len false (.cons (.v 0) .nil)) .nil))))) [some (.fz (ns.map .int)), some (.int (k : Nat)), none] G = .nx [some (.fz (ns.map .int)), some (.int (k : Nat)), some (.int z)] G := by
    have h1 : eval (call T gl n) gl (G.length :: ms) (.bin .add false (.bi .list false (.cons (.v 0) .nil)) (.lst false (.cons (.c (.int 0)) .nil))) [some (.fz (ns.map .int)), some (.int (k : Nat)), none] G = .ok (.lst (ns.map D.int ++ [D.int 0])) G := by
      rw [ev_bin, show eval (call T gl n) gl (G.length :: ms) (.bi .list false (.cons (.v 0) .nil)) [some (.fz (ns.map .int)), some (.int (k : Nat)), none] G = .ok (.lst (ns.map .int)) G by simp -dsimp, R.bind_ok,
        show eval (call T gl n) gl (G.length :: ms) (.lst false (.cons (.c (.int 0)) .nil)) [some (.fz (ns.map .int)), some (.int (k : Nat)), none] G = .ok (.lst [.int 0]) G by simp -dsimp, R.bind_ok, bd_addl, hsz, iteK_true, mk_f]
    have h2 : eval (call T gl n) gl (G.length :: ms) (.bi .min2 false (.cons (.v 1) (.cons (.bi .len false (.cons (.v 0) .nil)) .nil))) [some (.fz (ns.map .int)), some (.int (k : Nat)), none] G = .ok (.int ((min k ns.length : Nat) : Int)) G := by
      simp -dsimp
      split <;> omega
    rw [ex_set, ev_ix, h1, R.bind_ok, h2, R.bind_ok, ix_lst, at_nat, hz]
    rfl
  rw [ex_seq, s1, O.then_nx]
  have ge : ∀ G, cmpD .ge (.int z) (.int 1000000000000000000) G = .ok (.bl (decide (z ≥ 1000000000000000000))) G := fun G => rfl
  generalize decide (z ≥ 1000000000000000000) = c at *
  have e4 : ∀ G, biD .int false [.bl c] G = .ok (.int (if c = true then 1 else 0)) G := fun G => rfl
  generalize (if c = true then (1 : Int) else 0) = y at *
  simp -dsimp [e1, e2, e3, e4, ge, ↓pw18, potC]
theorem digitK_g (A : DrawK T gl I) {m : Int} (h : PotAt G p) (hm : 0 < m) (hm2 : Bg m) : Drawn (call T gl (n + 1) ms I.law_digit [.ref p, .int m] G) G p (fun v => ∃ t : Int, v = .int t ∧ 0 ≤ t ∧ t < m) := by
  rw [call_of A.law_digit]; unfold Lk.f_law_digit
  obtain ⟨a, b, h, hb⟩ := h
  have h : G[p]? = some (.lst [.int a, .int b]) := h
  have hp : p < G.length := hp_lt h
  unfold PotOk at hb
  have e1 : mulOk b 39373 = true := big_mul (by unfold Bg; omega) (by unfold Bg; omega)
  have e3 : divOk m = true := big_div hm hm2
  have e4 : divOk 16 = true := by decide
  have hs : ∀ c, (G.set p c)[p]? = some c := fun c => by simp [hp]
  rw [run_t (by rfl)]
  by_cases ha : 0 < a
  · exact ⟨.int (a % m), a / m, b, by simp -dsimp [h, hs, e3, ha, hm, potC], hb, _, rfl, Int.emod_nonneg _ (by omega), Int.emod_lt_of_pos _ hm⟩
  · exact ⟨.int ((b * 39373 + 7919) % 2147483629 / 16 % m), a, (b * 39373 + 7919) % 2147483629, by simp -dsimp [h, hs, e1, e3, e4, ha, hm, potC],
      ⟨by omega, by omega⟩, _, rfl, Int.emod_nonneg _ (by omega), Int.emod_lt_of_pos _ hm⟩
theorem dig_to (A : DrawK T gl I) {W : Rs} {tw : Tag W} {a b m : Int} {X : Hp} (hp : p < G.length) (o : PotOk b) (hm : 0 < m) (hm2 : Bg m) (k : ∀ t a' b', PotOk b' → 0 ≤ t → t < m → W.q (.int t) (G.set p (potC a' b') ++ X)) :
    R.to (call T gl (n + 1) ms I.law_digit [.ref p, .int m] (G.set p (potC a b) ++ X)) W tw := by
  refine draw_to2 (digitK_g A (pot_2 hp o) hm hm2) hp ?_
  rintro _ a' b' o' ⟨t, rfl, t0, t1⟩
  exact k t a' b' o' t0 t1
theorem dig_to0 (A : DrawK T gl I) {W : Rs} {tw : Tag W} {a b m : Int} (hp : p < G.length) (o : PotOk b) (hm : 0 < m) (hm2 : Bg m) (k : ∀ t a' b', PotOk b' → 0 ≤ t → t < m → W.q (.int t) (G.set p (potC a' b'))) :
    R.to (call T gl (n + 1) ms I.law_digit [.ref p, .int m] (G.set p (potC a b))) W tw := by
  refine draw_to (digitK_g A ⟨a, b, List.getElem?_set_self hp, o⟩ hm hm2) ?_
  rintro _ a' b' o' ⟨t, rfl, t0, t1⟩
  exact k t a' b' o' t0 t1
end
end LD
namespace LD
open PK PySem PK.Lk
section
variable {T : Nat → Option Fn} {gl : Nat → Option D} {I : OIx} {n : Nat} {ms : List Nat} {G : Hp} {p : Nat} {l : Lad}
theorem dig_toA (A : DrawK T gl I) {W : Rs} {tw : Tag W} {m : Int} (h : PotAt G p) (hm : 0 < m) (hm2 : Bg m) (k : ∀ t a' b', PotOk b' → 0 ≤ t → t < m → W.q (.int t) (G.set p (potC a' b'))) :
    R.to (call T gl (n + 1) ms I.law_digit [.ref p, .int m] G) W tw := by
  refine Drawn.then (digitK_g A h hm hm2) ?_
  rintro _ a' b' o' ⟨t, rfl, t0, t1⟩
  exact k t a' b' o' t0 t1
end
end LD
namespace PK
namespace Ba
open PySem
def leE (a b : En) : Bool := !bef b a
end Ba
end PK
namespace LD
open PK PySem TL
open PK.Ba (barOf join Unlike Spec barD IsBar Pos BarR JoinR EmptyR leE bef)
def within (a b : Int) (es : List En) : List En := es.filter fun e => decide (a ≤ e.a) && decide (e.a < b)
section
variable {T : Nat → Option Fn} {gl : Nat → Option D} {I : EIx} {N : GIx} {n : Nat} {ms : List Nat} {G H : Hp} {p q : Nat} {l : Lad}
def hdD (x : En × Bool) : D := if x.2 then enL x.1 else enD x.1
def HdV (v : D) (xs : List (En × Bool)) : Prop := v = .lst (xs.map hdD) ∨ v = .tup (xs.map hdD)
theorem HdV.it {v : D} {xs : List (En × Bool)} (h : HdV v xs) (G : Hp) : itD .val [v] G = some (xs.map hdD, none) := by
  rcases h with rfl | rfl <;> rfl
end
end LD
namespace LD
open PK PySem PK.Lk
structure LokJ (I : OIx) (J : LIx) : Prop where
  ba : I.Ladder_bar_at = J.Ladder_bar_at
  st : I.Ladder_stretch = J.Ladder_stretch
abbrev Br := Nat × Int
def bk (b : Br) : List L2.Key := [.inl (b.1 : Int), .inl b.2]
def bD (b : Br) : D := .tup [.int (b.1 : Int), .int b.2]
def kvB (b : Br) : List L2.Key × D := (bk b, .bl true)
def dtB (bs : List Br) : Cell := .dT (bs.map kvB)
def BrOk (l : Lad) (b : Br) : Prop := b.1 ≤ l.rs.length ∧ W40 b.2
theorem bk_inj {a b : Br} : bk a = bk b ↔ a = b := by
  unfold bk
  constructor
  · intro h
    have h1 := (List.cons.inj h).1
    have h2 := (List.cons.inj (List.cons.inj h).2).1
    have h1 := Sum.inl.inj h1
    have h2 := Sum.inl.inj h2
    exact Prod.ext (by omega) h2
  · intro h; rw [h]
theorem val_bs (bs : List Br) (b : Br) : valD (bs.map kvB) (bk b) = if b ∈ bs then some (.bl true) else none := by
  unfold valD
  induction bs with
  | nil => rfl
  | cons c bs ih =>
    rw [List.map_cons, List.find?_cons]
    by_cases e : c = b
    · subst e
      rw [if_pos List.mem_cons_self, show decide ((kvB c).1 = bk c) = true from decide_eq_true rfl]; rfl
    · rw [show decide ((kvB c).1 = bk b) = false from decide_eq_false fun z => e (bk_inj.mp z)]
      simp only
      rw [ih]
      by_cases h : b ∈ bs
      · rw [if_pos h, if_pos (List.mem_cons_of_mem _ h)]
      · rw [if_neg h, if_neg fun z => by rcases List.mem_cons.mp z with z | z; exact e z.symm; exact h z]
theorem put_bs {bs : List Br} {b : Br} (h : b ∉ bs) : putD (bs.map kvB) (bk b) (.bl true) = (bs ++ [b]).map kvB := by
  unfold putD
  rw [if_neg, List.map_append]; rfl
  intro z
  obtain ⟨x, hx, e⟩ := List.any_eq_true.mp z
  obtain ⟨c, hc, rfl⟩ := List.mem_map.mp hx
  have := bk_inj.mp (of_decide_eq_true e)
  rw [this] at hc; exact h hc
theorem keys_b (b : Br) : keysD [.int (b.1 : Int), .int b.2] = some (bk b) := rfl
theorem inD_bs {G : Hp} {i : Nat} {bs : List Br} (h : G[i]? = some (dtB bs)) (b : Br) : inD G (bD b) (.ref i) = some (decide (b ∈ bs)) := by
  have l : lookD G (.ref i) (bD b) = some (valD (bs.map kvB) (bk b)) := by
    unfold lookD
    dsimp only
    rw [h]; rfl
  unfold inD
  dsimp only
  rw [h]
  show (lookD G (.ref i) (bD b)).map Option.isSome = _
  rw [l, val_bs]
  by_cases c : b ∈ bs
  · rw [if_pos c, decide_eq_true c]; rfl
  · rw [if_neg c, decide_eq_false c]; rfl
theorem in_bs {G : Hp} {i : Nat} {bs : List Br} (h : G[i]? = some (dtB bs)) (b : Br) : cmpD .isin (bD b) (.ref i) G = .ok (.bl (decide (b ∈ bs))) G := by
  show (match inD G (bD b) (.ref i) with | some c => PK.R.ok (.bl c) G | none => .bad) = _
  rw [inD_bs h]
def leB (a b : Br) : Bool := PySem.W.dataLe false (fun x : Br => keyTD (bk x)) a b
def sb (bs : List Br) : List Br := bs.mergeSort leB
theorem sb_mem {bs : List Br} {b : Br} : b ∈ sb bs ↔ b ∈ bs := (List.mergeSort_perm bs leB).mem_iff
theorem sb_len (bs : List Br) : (sb bs).length = bs.length := (List.mergeSort_perm bs leB).length_eq
theorem sortB_bs (bs : List Br) : sortB (bs.map fun b => keyTD (bk b)) = true := by
  unfold sortB
  rw [Bool.and_eq_true, Bool.or_eq_true]
  refine ⟨List.all_eq_true.mpr fun d hd => List.all_eq_true.mpr fun e he => ?_, .inl (List.all_eq_true.mpr fun d hd => ?_)⟩
  · obtain ⟨x, _, rfl⟩ := List.mem_map.mp hd
    obtain ⟨y, _, rfl⟩ := List.mem_map.mp he
    rfl
  · obtain ⟨x, _, rfl⟩ := List.mem_map.mp hd
    rfl
theorem sort_bs {G : Hp} {i : Nat} {bs : List Br} (h : G[i]? = some (dtB bs)) : biD .sortT false [.ref i] G = .ok (.lst ((sb bs).map bD)) G := by
  have e1 : (bs.map kvB).map (fun kv => keyTD kv.1) = bs.map fun b => keyTD (bk b) := by rw [List.map_map]; rfl
  have e2 : (bs.map kvB).map (fun kv => D.tup (kv.1.map kD)) = bs.map bD := by rw [List.map_map]; rfl
  have e3 : sortDs (bs.map bD) (bs.map fun b => keyTD (bk b)) = (sb bs).map bD := by
    unfold sortDs sb
    have e : (bs.map bD).zip (bs.map fun b => keyTD (bk b)) = bs.map fun x => (bD x, keyTD (bk x)) := by
      clear h e1 e2
      induction bs with
      | nil => rfl
      | cons x es ih => rw [List.map_cons, List.map_cons, List.zip_cons_cons, ih]; rfl
    rw [e, ← List.map_mergeSort (r := leB) (s := PySem.W.dataLe false fun b : D × PyData => b.2) (f := fun x => (bD x, keyTD (bk x))) (fun a _ b _ => rfl), List.map_map]; rfl
  have e4 : biD .sortT false [.ref i] G = if sortB ((bs.map kvB).map fun kv => keyTD kv.1) then mkl false (sortDs ((bs.map kvB).map fun kv => D.tup (kv.1.map kD)) ((bs.map kvB).map fun kv => keyTD kv.1)) G else PK.R.bad := by
    unfold biD
    dsimp only
    rw [h]; rfl
  rw [e4, e1, e2, sortB_bs, if_pos rfl, e3]; rfl
section
variable {T : Nat → Option Fn} {gl : Nat → Option D} {I : OIx} {N : LIx} {n : Nat} {ms : List Nat} {G : Hp} {p q k : Nat} {l : Lad}

theorem rollsK_run (R0 : RolK T gl I) : call T gl (n + 1) ms I.Ladder_rolls [l.d] G = .ok (.int ((l.rs.length : Nat) + 1)) G := by
  apply R.eq_of
  refine call_to R0.Ladder_rolls rfl ?_
  have f2 : ∀ G, fldD G 0 2 l.d = some (.lst (l.rs.map rowT)) := fun G => rfl
  simp -dsimp -implicitDefEqProofs [f2]
end
end LD
namespace LD
open PK PySem PK.Lk
open PK.Ba (barOf join Unlike barD BarR)
section
variable {T : Nat → Option Fn} {gl : Nat → Option D} {I : OIx} {N : LIx} {n : Nat} {ms : List Nat} {G : Hp} {p q k : Nat} {l : Lad} {bs : List Br} {b : Br}
theorem stretchK (J : LokJ I N) (A1 : LadA0 T gl N) (O : l.Ok) (h : BrOk l b) : call T gl (n + 4) ms I.Ladder_stretch [l.d, .int (b.1 : Nat), .int b.2] G = .ok (.tup [.int (l.fm b.1 b.2), .int (l.fm b.1 (b.2 + 1))]) G := by
  rw [J.st]; exact stretch_run0 A1 O h.1 h.2
structure LkAt (G : Hp) (q k : Nat) (l : Lad) (bs : List Br) : Prop where
  o : G[q]? = some (.ins 1 [l.d, .ref k])
  d : G[k]? = some (dtB bs)
theorem fld_0 (h : LkAt G q k l bs) : fldD G 1 0 (.ref q) = some l.d := by
  unfold fldD; dsimp only; rw [h.o]; rfl
theorem fld_1 (h : LkAt G q k l bs) : fldD G 1 1 (.ref q) = some (.ref k) := by
  unfold fldD; dsimp only; rw [h.o]; rfl
theorem cls_1 (h : LkAt G q k l bs) : clsD G (.ref q) = some 1 := by
  unfold clsD; dsimp only; rw [h.o]
theorem isShut_run (K : LokK T gl I) (J : LokJ I N) (A1 : LadA0 T gl N) (O : l.Ok) (L : LkAt G q k l bs) (hb : BrOk l b) :
    call T gl (n + 5) ms I.Locks_is_shut [.ref q, .int (b.1 : Nat), .int b.2] G = .ok (.bl (decide (b ∈ bs))) G := by
  apply R.eq_of
  refine call_to K.Locks_is_shut rfl ?_
  have st : ∀ ms (H : Hp), call T gl (n + 4) ms I.Ladder_stretch [l.d, .int (b.1 : Nat), .int b.2] H = .ok (.tup [.int (l.fm b.1 b.2), .int (l.fm b.1 (b.2 + 1))]) H := fun ms H => stretchK J A1 O hb
  have f0 := fld_0 L
  have f1 := fld_1 L
  have cl : ∀ G, clsD G l.d = some 0 := fun G => rfl
  have ii : cmpD .isin (.tup [.int (b.1 : Nat), .int b.2]) (.ref k) G = .ok (.bl (decide (b ∈ bs))) G := in_bs L.d b
  simp -dsimp -implicitDefEqProofs [f0, f1, cl, st, ii]
theorem shut_run (K : LokK T gl I) (J : LokJ I N) (A1 : LadA0 T gl N) (O : l.Ok) (L : LkAt G q k l bs) (hb : BrOk l b) (hn : b ∉ bs) (hl : bs.length < 1000000) :
    call T gl (n + 6) ms I.Locks_shut [.ref q, .int (b.1 : Nat), .int b.2] G = .ok .non (G.set k (dtB (bs ++ [b]))) := by
  apply R.eq_of
  refine call_to K.Locks_shut rfl ?_
  have is : ∀ ms, call T gl (n + 5) ms I.Locks_is_shut [.ref q, .int (b.1 : Nat), .int b.2] G = .ok (.bl (decide (b ∈ bs))) G := fun ms => isShut_run K J A1 O L hb
  have f1 := fld_1 L
  have cl := cls_1 L
  have hw : ∀ m, wok k m (.bl true) = true := fun m => wok_tree fun _ => rfl
  have pv : ∀ m s, putV m (.ref k) (.tup [.int (b.1 : Nat), .int b.2]) (.bl true) s G = .nx s (G.set k (dtB (bs ++ [b]))) := fun m s => by
    show cellK G[k]? _ _ _ _ _ = _
    rw [L.d]
    show putDT k m (bs.map kvB) (.tup [.int (b.1 : Nat), .int b.2]) (.bl true) s G = _
    unfold putDT
    dsimp only
    rw [keys_b]
    dsimp only
    rw [hw, List.length_map, decide_eq_true hl, put_bs hn]; rfl
  simp -dsimp -implicitDefEqProofs [is, hn, f1, cl, pv]
theorem bars_run (K : LokK T gl I) (L : LkAt G q k l bs) : call T gl (n + 1) ms I.Locks_shut_bars [.ref q] G = .ok (.lst ((sb bs).map bD)) G := by
  apply R.eq_of
  refine call_to K.Locks_shut_bars rfl ?_
  have f1 := fld_1 L
  have so := sort_bs L.d
  have bl : belows G.length ((sb bs).map bD) = true := belows_map (fun b => rfl) _
  simp -dsimp -implicitDefEqProofs [f1, so, bl]
end
end LD
namespace LD
open PK PySem TL
def figs : Str := PySem.Str.ofString "0123456789"
theorem tl_app (a b : Str) : tl (a ++ b) = tl a ++ tl b := by
  show (a.cps ++ b.cps).toList = a.cps.toList ++ b.cps.toList
  rw [Array.toList_append]
theorem tl_inj {a b : Str} (h : tl a = tl b) : a = b := by
  obtain ⟨⟨x⟩⟩ := a
  obtain ⟨⟨y⟩⟩ := b
  have : x = y := h
  subst this; rfl
theorem joinL_cons (S : List Nat) : ∀ (a : List Nat) (xs : List (List Nat)), joinL S (a :: xs) = a ++ (xs.map fun x => S ++ x).flatten
  | a, [] => by simp [joinL]
  | a, b :: r => by
    show a ++ (S ++ joinL S (b :: r)) = _
    rw [joinL_cons S b r]; simp
end LD
namespace PK
open PySem
structure TIx where
  Ladder_init : Nat
  Ladder_begin : Nat
  Ladder_parts : Nat
  Ladder_rows : Nat
  row_text : Nat
  write_ladder : Nat
  number_of : Nat
  row_of : Nat
  read_ladder : Nat
  g_COLON : Nat
  g_BETWEEN : Nat
  g_MOST_SIGNS : Nat
  g_FIGURES : Nat
  e_NoText : Nat
def f_Ladder_begin (I : TIx) : Fn := ⟨1, 1, true, true, (.ret (.fld 0 0 (.v 0)))⟩
def f_Ladder_parts (I : TIx) : Fn := ⟨1, 1, true, true, (.ret (.bi .list false (.cons (.fld 0 1 (.v 0)) .nil)))⟩
def f_Ladder_rows (I : TIx) : Fn := ⟨1, 1, true, true, (.ret (.bi .list false (.cons (.fld 0 2 (.v 0)) .nil)))⟩
def f_row_text (I : TIx) : Fn := ⟨2, 3, true, true, (.ret (.bin .add false (.bin .add false (.bi .str false (.cons (.v 0) .nil)) (.g I.g_COLON)) (.mt .join false (.c (.str (PySem.Str.ofString ""))) (.cons (.comp false .val [2] [2] true (.cons (.v 1) .nil) (.c (.bl true)) (.bin .add false (.c (.str (PySem.Str.ofString " "))) (.bi .str false (.cons (.v 2) .nil)))) .nil))))⟩
def f_write_ladder (I : TIx) : Fn := ⟨1, 4, true, true, (.seq (.set 1 (.lst true (.cons (.call I.row_text (.cons (.meth I.Ladder_begin 0 (.v 0) .nil) (.cons (.meth I.Ladder_parts 0 (.v 0) .nil) .nil))) .nil)))
  (.seq (.ex (.mt .extend false (.v 1) (.cons (.comp false .val [2, 3] [2, 3] false (.cons (.meth I.Ladder_rows 0 (.v 0) .nil) .nil) (.c (.bl true)) (.call I.row_text (.cons (.v 2) (.cons (.v 3) .nil)))) .nil)))
  (.ret (.mt .join false (.g I.g_BETWEEN) (.cons (.v 1) .nil)))))⟩
def f_number_of (I : TIx) : Fn := ⟨1, 3, true, true, (.seq (.set 1 (.sl false (.v 0) (.bi .int false (.cons (.cmp .eq (.sl false (.v 0) (.c (.exc 0)) (.c (.int 1))) (.c (.str (PySem.Str.ofString "-")))) .nil)) (.c (.exc 0))))
  (.seq (.ite (.or_ (.cmp .eq (.v 1) (.c (.str (PySem.Str.ofString "")))) (.or_ (.cmp .gt (.bi .len false (.cons (.v 0) .nil)) (.g I.g_MOST_SIGNS)) (.not_ (.bi .all false (.cons (.comp false .val [2] [2] true (.cons (.v 1) .nil) (.c (.bl true)) (.cmp .isin (.v 2) (.g I.g_FIGURES))) .nil))))) (.ret (.c .non))
  .pass)
  (.seq (.ite (.cmp .ne (.bi .str false (.cons (.bi .int false (.cons (.v 0) .nil)) .nil)) (.v 0)) (.ret (.c .non))
  .pass)
  (.ret (.bi .int false (.cons (.v 0) .nil))))))⟩
def f_row_of (I : TIx) : Fn := ⟨1, 4, true, true, (.seq (.set 1 (.mt .split false (.v 0) (.cons (.c (.str (PySem.Str.ofString " "))) .nil)))
  (.seq (.set 2 (.ix (.v 1) (.c (.int 0))))
  (.seq (.ite (.cmp .ne (.sl false (.v 2) (.neg (.c (.int 1))) (.c (.exc 0))) (.g I.g_COLON)) (.ret (.tup (.cons (.c .non) (.cons (.lst false .nil) .nil))))
  .pass)
  (.ret (.tup (.cons (.call I.number_of (.cons (.sl false (.v 2) (.c (.exc 0)) (.neg (.c (.int 1)))) .nil)) (.cons (.comp false .val [3] [3] true (.cons (.sl false (.v 1) (.c (.int 1)) (.c (.exc 0))) .nil) (.c (.bl true)) (.call I.number_of (.cons (.v 3) .nil))) .nil)))))))⟩
def f_read_ladder (I : TIx) : Fn := ⟨1, 4, true, true, (.seq (.ite (.not_ (.isi [.str] (.v 0))) (.raise I.e_NoText)
  .pass)
  (.seq (.set 1 (.comp false .val [3] [3] true (.cons (.mt .split false (.v 0) (.cons (.g I.g_BETWEEN) .nil)) .nil) (.c (.bl true)) (.call I.row_of (.cons (.v 3) .nil))))
  (.seq (.try_ (.set 2 (.new false 0 I.Ladder_init (.cons (.ix (.ix (.v 1) (.c (.int 0))) (.c (.int 0))) (.cons (.ix (.ix (.v 1) (.c (.int 0))) (.c (.int 1))) (.cons (.sl false (.v 1) (.c (.int 1)) (.c (.exc 0))) .nil))))))
  (.ret (.v 2)))))⟩
structure TxtL (T : Nat → Option Fn) (gl : Nat → Option D) (I : TIx) : Prop where
  Ladder_begin : T I.Ladder_begin = some (f_Ladder_begin I)
  Ladder_parts : T I.Ladder_parts = some (f_Ladder_parts I)
  Ladder_rows : T I.Ladder_rows = some (f_Ladder_rows I)
  row_text : T I.row_text = some (f_row_text I)
  write_ladder : T I.write_ladder = some (f_write_ladder I)
  number_of : T I.number_of = some (f_number_of I)
  row_of : T I.row_of = some (f_row_of I)
  read_ladder : T I.read_ladder = some (f_read_ladder I)
  g_COLON : gl I.g_COLON = some (.str (PySem.Str.ofString ":"))
  g_BETWEEN : gl I.g_BETWEEN = some (.str (PySem.Str.ofString "; "))
  g_MOST_SIGNS : gl I.g_MOST_SIGNS = some (.int 31)
  g_FIGURES : gl I.g_FIGURES = some (.str (PySem.Str.ofString "0123456789"))
end PK
namespace LD
open PK PySem TL
theorem strsD_map : ∀ l : List Str, strsD (l.map .str) = some l
  | [] => rfl
  | a :: l => by show (strsD (l.map D.str)).map _ = _; rw [strsD_map l]; rfl
section
variable {T : Nat → Option Fn} {gl : Nat → Option D} {I : TIx} {n : Nat} {ms : List Nat} {G : Hp} {l : Lad}
end
end LD
namespace LD
open PK PySem TL PySem.NumText
def figT (z : Str) : List Nat := if (tl z).head? = some 45 then (tl z).tail else tl z
def digB (cs : List Nat) : Bool := cs.all fun c => decide (48 ≤ c ∧ c ≤ 57)
def figB (cs : List Nat) : Bool := decide (1 ≤ cs.length ∧ cs.length ≤ 40) && digB cs
def valZ (z : Str) : Int := if (tl z).head? = some 45 then -((digitsVal (tl z).tail : Nat) : Int) else ((digitsVal (tl z) : Nat) : Int)
def numF (z : Str) : Option Int := if figB (figT z) && decide (nstr (valZ z) = z) then some (valZ z) else none
theorem digB_all {cs : List Nat} (h : digB cs = true) : AllDigits cs := fun c hc => of_decide_eq_true (List.all_eq_true.mp h c hc)
theorem figB_1 {cs : List Nat} (h : figB cs = true) : (1 ≤ cs.length ∧ cs.length ≤ 40) ∧ AllDigits cs := by
  obtain ⟨h1, h2⟩ := Bool.and_eq_true_iff.mp h
  exact ⟨of_decide_eq_true h1, digB_all h2⟩
theorem fig_len {z : Str} (h : figB (figT z) = true) : z.length ≤ 41 := by
  obtain ⟨⟨_, h2⟩, _⟩ := figB_1 h
  rw [len_tl]
  unfold figT at h2
  split at h2
  · rw [List.length_tail] at h2; omega
  · omega
theorem head_ne {cs : List Nat} (h : AllDigits cs) : cs.head? ≠ some 45 := fun e => by
  cases cs with
  | nil => cases e
  | cons c r =>
    have : c = 45 := Option.some.inj e
    have := h.head
    omega
theorem int_val {z : Str} (h : figB (figT z) = true) : intText? z = some (valZ z) := by
  have hl := fig_len h
  obtain ⟨⟨h1, h2⟩, h3⟩ := figB_1 h
  unfold figT at h1 h3
  unfold valZ
  by_cases c : (tl z).head? = some 45
  · rw [if_pos c] at h1 h3 ⊢
    cases e : tl z with
    | nil => rw [e] at c; cases c
    | cons d r =>
      rw [e] at c h1 h3
      have hd : d = 45 := Option.some.inj c
      subst hd
      exact intText_neg (cs := r) e h3 (by intro q; rw [q] at h1; simp at h1) (by omega)
  · rw [if_neg c] at h1 h3 ⊢
    exact intText_digits h3 (by intro q; rw [show tl z = [] from q] at h1; simp at h1) (by omega)
theorem back_nat {cs : List Nat} (h : AllDigits cs) : (cs.map Char.ofNat).map Char.toNat = cs := by
  rw [List.map_map]
  refine (List.map_congr_left fun c hc => ?_).trans (List.map_id cs)
  have := h c hc
  show (Char.ofNat c).toNat = c
  have k : c = 48 ∨ c = 49 ∨ c = 50 ∨ c = 51 ∨ c = 52 ∨ c = 53 ∨ c = 54 ∨ c = 55 ∨ c = 56 ∨ c = 57 := by omega
  rcases k with rfl | rfl | rfl | rfl | rfl | rfl | rfl | rfl | rfl | rfl <;> decide
theorem drop_len : ∀ (cs : List Nat), (cs.dropWhile (· == 48)).length ≤ cs.length
  | [] => Nat.le_refl _
  | c :: r => by
    rw [List.dropWhile_cons]
    split
    · have := drop_len r; rw [List.length_cons]; omega
    · exact Nat.le_refl _
theorem numL_back {cs : List Nat} (h : AllDigits cs) (h1 : 1 ≤ cs.length) : numL (digitsVal cs) = cs ↔ ¬ (cs.head? = some 48 ∧ 2 ≤ cs.length) := by
  constructor
  · rintro e ⟨h2, h3⟩
    have t := toDigits_all cs h
    cases cs with
    | nil => cases h2
    | cons c r =>
      have hc : c = 48 := Option.some.inj h2
      subst hc
      have dl := drop_len r
      have l : (numL (digitsVal (48 :: r))).length < (48 :: r).length := by
        unfold numL
        rw [List.length_map, t]
        rw [List.dropWhile_cons, if_pos (by decide)]
        cases q : r.dropWhile (· == 48) with
        | nil => simp only [List.length_cons] at h3 ⊢; simp; omega
        | cons d u =>
          rw [q] at dl
          simp only [List.length_map, List.length_cons] at dl ⊢
          omega
      rw [e] at l
      exact Nat.lt_irrefl _ l
  · intro n
    unfold numL
    rw [toDigits_digitsVal (cs.length - 1) cs (by omega) h ?_, back_nat h]
    by_cases c : cs.length - 1 = 0
    · exact .inl c
    · right
      cases cs with
      | nil => simp at h1
      | cons d r =>
        refine ⟨d, r, rfl, ?_⟩
        have hd := h.head
        have : d ≠ 48 := fun e => n ⟨by rw [e]; rfl, by omega⟩
        omega
theorem digits_lt : ∀ (cs : List Nat), AllDigits cs → digitsVal cs < 10 ^ cs.length := fun cs h => by
  have gen : ∀ (cs : List Nat) (a : Nat), AllDigits cs → cs.foldl (fun acc c => acc * 10 + (c - 48)) a < (a + 1) * 10 ^ cs.length := by
    intro cs
    induction cs with
    | nil => intro a _; simp
    | cons c r ih =>
      intro a h
      have hc := h.head
      have := ih (a * 10 + (c - 48)) h.tail
      show r.foldl _ (a * 10 + (c - 48)) < _
      refine Nat.lt_of_lt_of_le this ?_
      rw [List.length_cons, Nat.pow_succ, show (a + 1) * (10 ^ r.length * 10) = ((a + 1) * 10) * 10 ^ r.length by rw [Nat.mul_comm (10 ^ r.length) 10, Nat.mul_assoc]]
      exact Nat.mul_le_mul_right _ (by omega)
  have := gen cs 0 h
  rw [Nat.zero_add, Nat.one_mul] at this
  exact this
theorem val_lt {z : Str} (h : figB (figT z) = true) : (valZ z).natAbs < 10 ^ 40 := by
  obtain ⟨⟨h1, h2⟩, h3⟩ := figB_1 h
  have p : ∀ k, k ≤ 40 → 10 ^ k ≤ 10 ^ 40 := fun k hk => Nat.pow_le_pow_right (by decide) hk
  unfold figT at h2 h3
  unfold valZ
  by_cases c : (tl z).head? = some 45
  · rw [if_pos c] at h2 h3 ⊢
    have := digits_lt _ h3
    have := p _ h2
    omega
  · rw [if_neg c] at h2 h3 ⊢
    have := digits_lt _ h3
    have := p _ h2
    omega
theorem t0 : tl (Str.ofString "0") = [48] := by decide
theorem num_iff {z : Str} (h : figB (figT z) = true) : nstr (valZ z) = z ↔ ¬ ((figT z).head? = some 48 ∧ z ≠ Str.ofString "0") := by
  obtain ⟨⟨h1, h2⟩, h3⟩ := figB_1 h
  have e0 : nstr (valZ z) = z ↔ numT (valZ z) = tl z := ⟨fun e => by rw [← tl_nstr, e], fun e => tl_inj (by rw [tl_nstr, e])⟩
  rw [e0]
  unfold figT at h1 h2 h3 ⊢
  unfold valZ
  by_cases c : (tl z).head? = some 45
  · rw [if_pos c] at h1 h2 h3 ⊢
    rw [if_pos c]
    have nz : z ≠ Str.ofString "0" := fun e => by rw [e, t0] at c; cases c
    cases e : tl z with
    | nil => rw [e] at c; cases c
    | cons d r =>
      rw [e] at c h1 h2 h3
      have hd : d = 45 := Option.some.inj c
      subst hd
      simp only [List.tail_cons] at h1 h2 h3 ⊢
      unfold numT
      have nb := numL_back h3 h1
      by_cases k : digitsVal r = 0
      · rw [k]
        have k0 : numL 0 = [48] := by decide
        rw [if_neg (by omega)]
        have : (-((0 : Nat) : Int)).natAbs = 0 := rfl
        rw [this, k0]
        refine ⟨fun z => absurd z (by simp), fun n => ?_⟩
        exfalso
        refine n ⟨?_, nz⟩
        cases r with
        | nil => simp at h1
        | cons f r =>
          by_cases c48 : f = 48
          · rw [c48]; rfl
          · have hc := h3.head
            have := digitsVal_pos (c := f) (cs := r) (by omega)
            omega
      · rw [if_pos (by omega), show (-((digitsVal r : Nat) : Int)).natAbs = digitsVal r by omega]
        have : (45 :: numL (digitsVal r) = 45 :: r) ↔ numL (digitsVal r) = r := ⟨fun e => (List.cons.inj e).2, fun e => by rw [e]⟩
        rw [this, nb]
        constructor
        · rintro n ⟨q, _⟩
          refine n ⟨q, ?_⟩
          cases r with
          | nil => simp at h1
          | cons f r =>
            have hc48 : f = 48 := by simpa using q
            subst hc48
            cases r with
            | nil => exact absurd (by decide : digitsVal [48] = 0) k
            | cons _ _ => simp
        · rintro n ⟨q, _⟩
          exact n ⟨q, nz⟩
  · rw [if_neg c] at h1 h2 h3 ⊢
    rw [if_neg c]
    unfold numT
    rw [if_neg (by omega), Int.natAbs_natCast, numL_back h3 h1]
    constructor
    · rintro n ⟨q, nz⟩
      refine n ⟨q, ?_⟩
      cases e : tl z with
      | nil => rw [e] at h1; simp at h1
      | cons d r =>
        rw [e] at q
        have hd : d = 48 := Option.some.inj q
        cases r with
        | nil => exact absurd (tl_inj (by rw [e, t0, hd])) nz
        | cons _ _ => simp
    · rintro n ⟨q, hl⟩
      refine n ⟨q, fun e => ?_⟩
      rw [e, t0] at hl
      simp at hl
theorem numF_some {z : Str} {i : Int} (h : numF z = some i) : z = nstr i ∧ i.natAbs < 10 ^ 40 := by
  unfold numF at h
  split at h
  · rename_i c
    obtain ⟨c1, c2⟩ := Bool.and_eq_true_iff.mp c
    cases h
    exact ⟨(of_decide_eq_true c2).symm, val_lt c1⟩
  · cases h
theorem fig_nstr (i : Int) : figT (nstr i) = numL i.natAbs := by
  unfold figT
  rw [tl_nstr]
  unfold numT
  by_cases c : i < 0
  · rw [if_pos c]; rfl
  · rw [if_neg c, if_neg (head_ne (numL_digits _))]
theorem val_nstr (i : Int) : valZ (nstr i) = i := by
  unfold valZ
  rw [tl_nstr]
  unfold numT
  by_cases c : i < 0
  · rw [if_pos c]
    show (if (some 45 : Option Nat) = some 45 then -((digitsVal (numL i.natAbs) : Nat) : Int) else _) = i
    rw [if_pos rfl, numL_val]; omega
  · rw [if_neg c, if_neg (head_ne (numL_digits _)), numL_val]; omega
theorem numF_nstr {i : Int} (h : i.natAbs < 10 ^ 40) : numF (nstr i) = some i := by
  unfold numF
  rw [fig_nstr, val_nstr, decide_eq_true rfl, Bool.and_true, if_pos]
  unfold figB
  rw [Bool.and_eq_true]
  refine ⟨decide_eq_true ⟨?_, numL_len (by decide) h⟩, List.all_eq_true.mpr fun c hc => decide_eq_true (numL_digits _ c hc)⟩
  exact List.length_pos_iff.mpr (numL_ne _)
end LD
namespace Tk64
open PK PySem LD PK.Lk TL
abbrev I64 : LIx := ⟨14, 15, 16, 17, 18, 19, 20, 21, 22, 0, 23, 28, 29, 30, 31, 32, 33, 34, 35, 36, 37, 38, 39, 0, 40, 1, 2, 3, 4, 5, 6, 7, 1, 0, 2, 3⟩
abbrev O64 : OIx := ⟨0, 1, 2, 3, 4, 5, 7, 8, 27, 35, 36, 41, 42, 0, 0, 0, 0, 0, 5⟩
theorem la : LadA0 tab gl I64 := ⟨rfl, rfl, rfl, rfl, rfl, rfl, rfl, rfl, rfl, rfl, rfl, rfl, rfl, rfl, rfl, rfl, rfl, rfl, rfl, rfl, rfl, rfl, rfl⟩
theorem dk : DrawK tab gl O64 := ⟨rfl, rfl⟩
theorem lok : LokK tab gl O64 := ⟨rfl, rfl, rfl, rfl⟩
theorem rok : RolK tab gl O64 := ⟨rfl⟩
theorem jj : LokJ O64 I64 := ⟨rfl, rfl⟩
abbrev slash : Str := Str.ofString "/"
abbrev sp : Str := Str.ofString " "
abbrev figs : Str := Str.ofString "0123456789"
def numD : Option Int → D
  | none => .non
  | some i => .int i
theorem dig_in (c : Nat) : decide (c ∈ tl figs) = decide (48 ≤ c ∧ c ≤ 57) := by
  have e : tl figs = [48, 49, 50, 51, 52, 53, 54, 55, 56, 57] := by decide
  rw [e]
  refine decide_eq_decide.mpr ⟨fun h => ?_, fun h => ?_⟩
  · simp at h; omega
  · simp; omega
theorem tl_cutA {z : Str} {k : Nat} : tl (L2.cutS z (some (k : Int)) none) = (tl z).drop k := by
  show ((tl z).drop (HT.sIx z.length 0 (some (k : Int)))).take (HT.sIx z.length z.length none - HT.sIx z.length 0 (some (k : Int))) = _
  rw [HT.sIx_none, show HT.sIx z.length 0 (some (k : Int)) = min k z.length from HT.sIx_nat z.length _ k, len_tl]
  by_cases c : k ≤ (tl z).length
  · rw [Nat.min_eq_left c, List.take_of_length_le (by rw [List.length_drop]; exact Nat.le_refl _)]
  · rw [Nat.min_eq_right (by omega), List.drop_of_length_le (Nat.le_refl _), List.drop_of_length_le (by omega), List.take_nil]
theorem tl_cutB {z : Str} {k : Nat} : tl (L2.cutS z none (some (k : Int))) = (tl z).take k := by
  show ((tl z).drop (HT.sIx z.length 0 none)).take (HT.sIx z.length z.length (some (k : Int)) - HT.sIx z.length 0 none) = _
  rw [HT.sIx_none, show HT.sIx z.length z.length (some (k : Int)) = min k z.length from HT.sIx_nat z.length _ k, len_tl, List.drop_zero, Nat.sub_zero]
  by_cases c : k ≤ (tl z).length
  · rw [Nat.min_eq_left c]
  · rw [Nat.min_eq_right (by omega), List.take_of_length_le (by omega), List.take_of_length_le (by omega)]
theorem head_iff (z : Str) : L2.cutS z none (some 1) = Str.ofString "-" ↔ (tl z).head? = some 45 := by
  have e : tl (L2.cutS z none (some 1)) = (tl z).take 1 := tl_cutB (k := 1)
  have t : tl (Str.ofString "-") = [45] := by decide
  constructor
  · intro h
    rw [h, t] at e
    cases q : tl z with
    | nil => rw [q] at e; cases e
    | cons c r => rw [q] at e; simp at e; rw [← e]; rfl
  · intro h
    refine tl_inj ?_
    rw [e, t]
    cases q : tl z with
    | nil => rw [q] at h; cases h
    | cons c r => rw [q] at h; simp at h; rw [h]; rfl
theorem all_bl {α : Type} (f : α → Bool) (l : List α) (G : Hp) : biD .all false [.lst (l.map fun x => .bl (f x))] G = .ok (.bl (l.all f)) G := by
  show (match blsD (l.map fun x => D.bl (f x)) with | some bs => R.ok (.bl (bs.all id)) G | none => .bad) = _
  rw [blsD_map]
  show R.ok (.bl ((l.map f).all id)) G = _
  rw [List.all_map]; rfl
section
variable {n : Nat} {ms : List Nat} {G : Hp} {z : Str}
theorem int_bi (h : figB (figT z) = true) : biD .int false [.str z] G = .ok (.int (valZ z)) G := by
  have hl := fig_len h
  show (match PySem.intText? z with | some n => if decide (z.length ≤ 640) = true then PK.R.ok (.int n) G else .bad | none => .bad) = _
  rw [int_val h]
  show (if decide (z.length ≤ 640) = true then PK.R.ok (.int (valZ z)) G else .bad) = _
  rw [decide_eq_true (by omega)]; rfl
theorem str40 {i : Int} (h : i.natAbs < 10 ^ 40) : strOkI i = true := decide_eq_true (Nat.lt_trans h (by decide))
theorem number_c (hz : z.length ≤ 100000) : call tab gl (n + 1) ms 11 [.str z] G = .ok (numD (numF z)) G := by
  apply R.eq_of
  refine call_to (show tab 11 = some f_number_in from rfl) rfl ?_
  have sz : szOk z.length = true := decide_eq_true (by omega)
  simp -dsimp -implicitDefEqProofs only [ex_seq, to_then]
  refine to_mid (fun s H => H = G ∧ s = [some (.str z), some (.str z), none]) (by simp -dsimp -implicitDefEqProofs) ?_
  rintro _ H ⟨rfl, rfl⟩
  simp -dsimp -implicitDefEqProofs only [kt_nx, ex_seq, to_then]
  refine to_mid (fun s H' => H' = H ∧ ∃ y : Str, tl y = figT z ∧ s = [some (.str z), some (.str y), none]) ?_ ?_
  · simp -dsimp -implicitDefEqProofs [sz]
    refine to_iteDO (fun c => ?_) (fun c => ?_)
    · simp -dsimp -implicitDefEqProofs [sz]
      have c := (head_iff z).mp c
      rw [show tl (L2.cutS z (some 1) none) = (tl z).drop 1 from tl_cutA (k := 1)]
      unfold figT
      rw [if_pos c, List.drop_one]
    · simp -dsimp -implicitDefEqProofs
      have c : ¬ (tl z).head? = some 45 := fun h => c ((head_iff z).mpr h)
      unfold figT
      rw [if_neg c]
  · rintro _ _ ⟨rfl, y, hy, rfl⟩
    have yl : y.length ≤ 100000 := by
      rw [len_tl, hy]
      rw [len_tl] at hz
      unfold figT
      split
      · rw [List.length_tail]; omega
      · exact hz
    have lw : ∀ G, lenD G (.str y) = some (figT z).length := fun G => by
      show (if y.length ≤ 1000000 then some y.length else none) = _
      rw [if_pos (by omega), len_tl, hy]
    have g0 : gl 0 = some (.int 40) := rfl
    have it : ∀ G, itD .val [.str y] G = some ((figT z).map fun c => D.str ⟨#[c]⟩, none) := fun G => by rw [← hy]; rfl
    have zl : (figT z).length ≤ 100000 := by rw [← hy, ← len_tl]; exact yl
    have zz : szOk (figT z).length = true := decide_eq_true (by omega)
    have al := all_bl (fun c => decide (c ∈ tl figs)) (figT z)
    have da : (figT z).all (fun c => decide (c ∈ tl figs)) = digB (figT z) := by
      unfold digB
      congr 1
      exact funext dig_in
    rw [da] at al
    have fno : ¬ figB (figT z) = true → numF z = none := fun h => by
      unfold numF
      rw [Bool.eq_false_iff.mpr h]; rfl
    simp -dsimp -implicitDefEqProofs [lw, g0]
    refine to_iteD (fun c1 => ?_) (fun c1 => ?_)
    · simp -dsimp -implicitDefEqProofs [g0]
      refine to_ite (fun c2 => ?_) (fun c2 => ?_)
      · have fn : numF z = none := fno fun h => by
          have := (figB_1 h).1.2
          simp at c2; omega
        simp -dsimp -implicitDefEqProofs [fn]
        first | exact ⟨rfl, rfl⟩ | rfl
      · simp at c2
        simp -dsimp -implicitDefEqProofs [it, zz]
        refine compF_map_to (q := fun c => D.str ⟨#[c]⟩) (f := fun c => .bl (decide (c ∈ tl figs))) (l := figT z) (by rfl) (fun c hc => ?_) ?_
        · have ii : ∀ G, cmpD .isin (.str ⟨#[c]⟩) (.str (Str.ofString "0123456789")) G = .ok (.bl (decide (c ∈ tl figs))) G := fun G => rfl
          simp -dsimp -implicitDefEqProofs [wipes, ii]
        generalize (figT z).map (fun c => D.bl (decide (c ∈ tl figs))) = BL at *
        simp -dsimp -implicitDefEqProofs [al]
        refine to_iteO (fun c3 => ?_) (fun c3 => ?_)
        · have fn : numF z = none := fno fun h => by
            have := (Bool.and_eq_true_iff.mp h).2
            rw [this] at c3; cases c3
          simp -dsimp -implicitDefEqProofs [fn]
          first | exact ⟨rfl, rfl⟩ | rfl
        · have hd : digB (figT z) = true := by simpa using c3
          have hf : figB (figT z) = true := by
            unfold figB
            rw [hd, decide_eq_true (by omega)]; rfl
          have ib : ∀ G, biD .int false [.str z] G = .ok (.int (valZ z)) G := fun G => int_bi hf
          have so := str40 (val_lt hf)
          simp -dsimp -implicitDefEqProofs [ib, so]
          refine to_iteNO (fun c4 => ?_) (fun c4 => ?_)
          · have fn : numF z = none := by
              unfold numF
              rw [decide_eq_false c4, Bool.and_false]; rfl
            simp -dsimp -implicitDefEqProofs [fn]
            first | exact ⟨rfl, rfl⟩ | rfl
          · have fn : numF z = some (valZ z) := by
              unfold numF
              rw [decide_eq_true c4, hf]; rfl
            simp -dsimp -implicitDefEqProofs [ib, fn]
            first | exact ⟨rfl, rfl⟩ | rfl
    · have fn : numF z = none := fno fun h => by
        have := (figB_1 h).1.1
        omega
      simp -dsimp -implicitDefEqProofs [fn]
      first | exact ⟨rfl, rfl⟩ | rfl
theorem lawnum_c (hz : z.length ≤ 100000) : call tab gl (n + 1) ms 48 [.str z] G = .ok (numD (numF z)) G := by
  apply R.eq_of
  refine call_to (show tab 48 = some f_law_number from rfl) rfl ?_
  have sz : szOk z.length = true := decide_eq_true (by omega)
  simp -dsimp -implicitDefEqProofs only [ex_seq, to_then]
  refine to_mid (fun s H' => H' = G ∧ ∃ y : Str, tl y = figT z ∧ s = [some (.str z), some (.str y), none]) ?_ ?_
  · by_cases c : (tl z).head? = some 45
    · have e := (head_iff z).mpr c
      simp -dsimp -implicitDefEqProofs [sz, e]
      rw [show tl (L2.cutS z (some 1) none) = (tl z).drop 1 from tl_cutA (k := 1)]
      unfold figT
      rw [if_pos c, List.drop_one]
    · have e : ¬ L2.cutS z none (some 1) = Str.ofString "-" := fun h => c ((head_iff z).mp h)
      simp -dsimp -implicitDefEqProofs [sz, e]
      rw [show tl (L2.cutS z (some 0) none) = (tl z).drop 0 from tl_cutA (k := 0)]
      unfold figT
      rw [if_neg c, List.drop_zero]
  · rintro _ H ⟨rfl, y, hy, rfl⟩
    have yl : y.length ≤ 100000 := by
      rw [len_tl, hy]
      rw [len_tl] at hz
      unfold figT
      split
      · rw [List.length_tail]; omega
      · exact hz
    have lw : ∀ G, lenD G (.str y) = some (figT z).length := fun G => by
      show (if y.length ≤ 1000000 then some y.length else none) = _
      rw [if_pos (by omega), len_tl, hy]
    have it : ∀ G, itD .val [.str y] G = some ((figT z).map fun c => D.str ⟨#[c]⟩, none) := fun G => by rw [← hy]; rfl
    have zl : (figT z).length ≤ 100000 := by rw [← hy, ← len_tl]; exact yl
    have zz : szOk (figT z).length = true := decide_eq_true (by omega)
    have al := all_bl (fun c => decide (c ∈ tl figs)) (figT z)
    have da : (figT z).all (fun c => decide (c ∈ tl figs)) = digB (figT z) := by
      unfold digB
      congr 1
      exact funext dig_in
    rw [da] at al
    have fno : ¬ figB (figT z) = true → numF z = none := fun h => by
      unfold numF
      rw [Bool.eq_false_iff.mpr h]; rfl
    simp -dsimp -implicitDefEqProofs [lw]
    refine to_iteD (fun c1 => ?_) (fun c1 => ?_)
    · simp -dsimp -implicitDefEqProofs
      refine to_ite (fun c2 => ?_) (fun c2 => ?_)
      · have fn : numF z = none := fno fun h => by
          have := (figB_1 h).1.2
          simp at c2; omega
        simp -dsimp -implicitDefEqProofs [fn]
        first | exact ⟨rfl, rfl⟩ | rfl
      · simp at c2
        simp -dsimp -implicitDefEqProofs [it, zz]
        refine compF_map_to (q := fun c => D.str ⟨#[c]⟩) (f := fun c => .bl (decide (c ∈ tl figs))) (l := figT z) (by rfl) (fun c hc => ?_) ?_
        · have ii : ∀ G, cmpD .isin (.str ⟨#[c]⟩) (.str (Str.ofString "0123456789")) G = .ok (.bl (decide (c ∈ tl figs))) G := fun G => rfl
          simp -dsimp -implicitDefEqProofs [wipes, ii]
        generalize (figT z).map (fun c => D.bl (decide (c ∈ tl figs))) = BL at *
        simp -dsimp -implicitDefEqProofs [al]
        refine to_iteO (fun c3 => ?_) (fun c3 => ?_)
        · have fn : numF z = none := fno fun h => by
            have := (Bool.and_eq_true_iff.mp h).2
            rw [this] at c3; cases c3
          simp -dsimp -implicitDefEqProofs [fn]
          first | exact ⟨rfl, rfl⟩ | rfl
        · have hd : digB (figT z) = true := by simpa using c3
          have hf : figB (figT z) = true := by
            unfold figB
            rw [hd, decide_eq_true (by omega)]; rfl
          have ib : ∀ G, biD .int false [.str z] G = .ok (.int (valZ z)) G := fun G => int_bi hf
          have ni := num_iff hf
          obtain ⟨d, r, hdr⟩ : ∃ d r, figT z = d :: r := by
            cases q : figT z with
            | nil => rw [q] at c1; simp at c1
            | cons d r => exact ⟨d, r, rfl⟩
          have ix : ∀ G, ixD (.str y) (.int 0) G = .ok (.str ⟨#[d]⟩) G := fun G => by
            have e : L2.atI y.cps.toList 0 = some d := by
              rw [show y.cps.toList = figT z from hy, hdr]
              unfold L2.atI L2.ixN
              simp
            show (if szOk y.length then match L2.atI y.cps.toList 0 with | some c => PK.R.ok (.str ⟨#[c]⟩) G | none => .bad else .bad) = _
            rw [e, if_pos (show szOk y.length = true from decide_eq_true (by omega))]
          have e0 : (⟨#[d]⟩ : Str) = Str.ofString "0" ↔ (figT z).head? = some 48 := by
            rw [hdr]
            constructor
            · intro h
              have := congrArg tl h
              rw [t0] at this
              have : [d] = [48] := this
              rw [(List.cons.inj this).1]; rfl
            · intro h
              have : d = 48 := Option.some.inj h
              rw [this]; rfl
          have fy : ¬ (figT z).head? = some 48 ∨ z = Str.ofString "0" → numF z = some (valZ z) := fun h => by
            unfold numF
            rw [hf, decide_eq_true (ni.mpr fun ⟨q1, q2⟩ => h.elim (fun h => h q1) fun h => q2 h)]; rfl
          simp -dsimp -implicitDefEqProofs [ix]
          refine to_iteD (fun c4 => ?_) (fun c4 => ?_)
          · simp -dsimp -implicitDefEqProofs
            refine to_iteNO (fun c5 => ?_) (fun c5 => ?_)
            · have fn : numF z = none := by
                unfold numF
                rw [decide_eq_false (fun h => ni.mp h ⟨e0.mp c4, c5⟩), Bool.and_false]; rfl
              simp -dsimp -implicitDefEqProofs [fn]
              first | exact ⟨rfl, rfl⟩ | rfl
            · have fn := fy (.inr c5)
              simp -dsimp -implicitDefEqProofs [ib, fn]
              first | exact ⟨rfl, rfl⟩ | rfl
          · have fn := fy (.inl fun h => c4 (e0.mpr h))
            simp -dsimp -implicitDefEqProofs [ib, fn]
            first | exact ⟨rfl, rfl⟩ | rfl
    · have fn : numF z = none := fno fun h => by
        have := (figB_1 h).1.1
        omega
      simp -dsimp -implicitDefEqProofs [fn]
      first | exact ⟨rfl, rfl⟩ | rfl

def wordF (R : Int) (w : Str) : Option Br := match Txt.split w slash with
  | [a, b] => match numF a, numF b with
    | some r, some x => if 0 ≤ r ∧ r < R then some (r.toNat, x) else none
    | _, _ => none
  | _ => none
def brD : Option Br → D
  | none => .non
  | some b => bD b
theorem len_join : ∀ (y : Str) (ps : List Str), ∀ p ∈ ps, p.length ≤ (Str.join y ps).length := fun y ps p hp => by
  rw [len_tl p, len_tl (Str.join y ps), tl_join]
  have : ∀ (S : List Nat) (xs : List (List Nat)), ∀ x ∈ xs, x.length ≤ (joinL S xs).length := by
    intro S xs
    induction xs with
    | nil => intro x h; cases h
    | cons a xs ih =>
      intro x hx
      rw [LD.joinL_cons, List.length_append]
      rcases List.mem_cons.mp hx with rfl | hx
      · omega
      · have h2 : x.length ≤ ((xs.map fun x => S ++ x).flatten).length := by
          clear ih
          induction xs with
          | nil => cases hx
          | cons b xs ih =>
            rw [List.map_cons, List.flatten_cons, List.length_append, List.length_append]
            rcases List.mem_cons.mp hx with rfl | hx
            · omega
            · have := ih (List.mem_cons_of_mem _ hx) hx; omega
        omega
  exact this _ _ _ (List.mem_map.mpr ⟨p, hp, rfl⟩)
theorem piece_len {x y p : Str} (h : p ∈ Txt.split x y) : p.length ≤ x.length := by
  have := len_join y (Txt.split x y) p h
  rw [PySem.StrLaws.join_split] at this
  exact this
theorem numD_dat (o : Option Int) : dat false 7 (numD o) = true := by cases o <;> rfl
theorem brD_dat (o : Option Br) : dat false 7 (brD o) = true := by cases o <;> rfl
theorem inN {ds : List D} {G : Hp} (h : ds.all (dat false 7) = true) : cmpD .inp .non (.lst ds) G = .ok (.bl (decide (D.non ∈ ds))) G := by
  have e : inP G .non (.lst ds) = some (decide (D.non ∈ ds)) := by
    have p1 : pd G 8 .non = some .none := rfl
    have p2 : pd G 8 (.lst ds) = some (.list (ds.map (pdn 7))) := by
      show (pds (pd G 7) ds).map PyData.list = _
      rw [pds_map fun d hd => pd_dat 7 d (List.all_eq_true.mp h d hd)]; rfl
    have s2 : SeqAt.shaped (.list (ds.map (pdn 7))) = true := shape_dat (b := false) (x := .lst ds) h
    unfold inP
    rw [p1, p2]
    dsimp only
    rw [s2]
    show some ((ds.map (pdn 7)).any fun z => PyData.eqv z .none) = _
    rw [List.any_map]
    congr 1
    have : ∀ (xs : List D), xs.all (dat false 7) = true → (xs.any ((fun z => PyData.eqv z .none) ∘ pdn 7)) = decide (D.non ∈ xs) := by
      intro xs
      induction xs with
      | nil => intro _; rfl
      | cons x xs ih =>
        intro hx
        obtain ⟨x1, x2⟩ := Bool.and_eq_true_iff.mp hx
        rw [List.any_cons, ih x2]
        have q : ((fun z => PyData.eqv z .none) ∘ pdn 7) x = decide (x = D.non) := eqv_dat 7 x .non x1 rfl
        rw [q]
        by_cases c : x = D.non
        · subst c; simp
        · rw [decide_eq_false c, Bool.false_or]
          refine decide_eq_decide.mpr ⟨fun h => List.mem_cons_of_mem _ h, fun h => ?_⟩
          rcases List.mem_cons.mp h with h | h
          · exact absurd h.symm c
          · exact h
    exact this ds h
  show (match inP G .non (.lst ds) with | some c => PK.R.ok (.bl c) G | none => .bad) = _
  rw [e]
theorem barword_c {l : Lad} {w : Str} (hw : w.length ≤ 100000) : call tab gl (n + 2) ms 12 [l.d, .str w] G = .ok (brD (wordF ((l.rs.length : Nat) + 1) w)) G := by
  apply R.eq_of
  refine call_to (show tab 12 = some f_bar_in_word from rfl) rfl ?_
  have ro : ∀ ms (H : Hp), call tab gl (n + 1) ms 27 [l.d] H = .ok (.int ((l.rs.length : Nat) + 1)) H := fun ms H => rollsK_run (n := n) rok
  have cl : ∀ G, clsD G l.d = some 0 := fun G => rfl
  have pl : ∀ p ∈ Txt.split w slash, p.length ≤ 100000 := fun p hp => Nat.le_trans (piece_len hp) hw
  have sp : ∀ ms G, mtD .split false ms (.str w) [.str (Str.ofString "/")] G = .ok (.lst ((Txt.split w slash).map .str)) G := fun ms G => by
    show (if decide (slash.length ≠ 0 ∧ w.length ≤ 1000000) = true then mkl false ((Txt.split w slash).map .str) G else .bad) = _
    rw [decide_eq_true ⟨by decide, by omega⟩]; rfl
  have wl : ∀ xs : List Str, Txt.split w slash = xs → wordF ((l.rs.length : Nat) + 1) w = match xs with
      | [a, b] => match numF a, numF b with
        | some r, some x => if 0 ≤ r ∧ r < ((l.rs.length : Nat) : Int) + 1 then some (r.toNat, x) else none
        | _, _ => none
      | _ => none := fun xs e => by unfold wordF; rw [e]
  have nu : ∀ p ∈ Txt.split w slash, ∀ ms G, call tab gl (n + 1) ms 11 [.str p] G = .ok (numD (numF p)) G := fun p hp ms G => number_c (pl p hp)
  simp -dsimp -implicitDefEqProofs [sp, -mt_splitS]
  generalize hS : Txt.split w slash = S at *
  have wl := wl S rfl
  refine to_iteNO (fun c => ?_) (fun c => ?_)
  · have e : wordF ((l.rs.length : Nat) + 1) w = none := by
      rw [wl]
      match S, c with
      | [], _ => rfl
      | [a], _ => rfl
      | [a, b], c => exact absurd rfl c
      | a :: b :: d :: r, _ => rfl
    simp -dsimp -implicitDefEqProofs [e]
    first | exact ⟨rfl, rfl⟩ | rfl
  · match S, c with
    | [], c => simp at c
    | [a], c => simp at c
    | a :: b :: d :: r, c => simp at c; omega
    | [a, b], _ =>
      have n1 := nu a (by simp)
      have n2 := nu b (by simp)
      have wl : wordF ((l.rs.length : Nat) + 1) w = match numF a, numF b with
        | some r, some x => if 0 ≤ r ∧ r < ((l.rs.length : Nat) : Int) + 1 then some (r.toNat, x) else none
        | _, _ => none := wl
      have hpa : ∀ (x y : D) (s : PK.Env), pars [3, 4] [x, y] s = seti (seti s 3 x) 4 y := fun _ _ _ => rfl
      cases q1 : numF a with
      | none =>
        rw [q1] at n1 wl
        have wl : wordF ((l.rs.length : Nat) + 1) w = none := wl
        rw [wl]
        simp -dsimp -implicitDefEqProofs [n1, n2, hpa, numD, brD]
      | some r =>
        cases q2 : numF b with
        | none =>
          rw [q1] at n1
          rw [q1, q2] at wl
          rw [q2] at n2
          have wl : wordF ((l.rs.length : Nat) + 1) w = none := wl
          rw [wl]
          simp -dsimp -implicitDefEqProofs [n1, n2, hpa, numD, brD]
        | some x =>
          rw [q1] at n1
          rw [q1, q2] at wl
          rw [q2] at n2
          have wl : wordF ((l.rs.length : Nat) + 1) w = if 0 ≤ r ∧ r < ((l.rs.length : Nat) : Int) + 1 then some (r.toNat, x) else none := wl
          simp -dsimp -implicitDefEqProofs [n1, n2, hpa, numD, ro, cl]
          refine to_iteD (fun c1 => ?_) (fun c1 => ?_)
          · simp -dsimp -implicitDefEqProofs [ro, cl]
            refine to_iteNO (fun c2 => ?_) (fun c2 => ?_)
            · rw [if_neg (fun h => c2 h.2)] at wl
              rw [wl]
              simp -dsimp -implicitDefEqProofs [brD]
            · rw [if_pos ⟨c1, c2⟩] at wl
              have e : brD (some (r.toNat, x)) = .tup [.int r, .int x] := by
                show D.tup [.int (r.toNat : Int), .int x] = _
                rw [Int.toNat_of_nonneg c1]
              rw [wl, e]
              simp -dsimp -implicitDefEqProofs
          · rw [if_neg (fun h => c1 h.1)] at wl
            rw [wl]
            simp -dsimp -implicitDefEqProofs [brD]
end
end Tk64
namespace LD
open PK PySem PK.Lk
open PK.Ba (barOf join Unlike barD BarR)
def bw (l : Lad) (b : Br) (A : List En) : Ba.B := barOf (within (l.fm b.1 b.2) (l.fm b.1 (b.2 + 1)) A)
def brkF (l : Lad) (A B : List En) (b : Br) : Bool := !decide (barD (bw l b A) = barD (bw l b B))
def brk (l : Lad) (bs : List Br) (A B : List En) : Option Br := (sb bs).find? (brkF l A B)
def brD : Option Br → D
  | none => .non
  | some b => bD b
theorem take_one {α : Type} {xs : List α} {i : Nat} {a : α} (h : xs[i]? = some a) : xs.take (i + 1) = xs.take i ++ [a] := by
  rw [List.take_add_one, h]; rfl
theorem bind_b {s : PK.Env} {i j : Nat} {b : Br} : bindT [i, j] false s (bD b) = some ((s.set i (some (.int (b.1 : Int)))).set j (some (.int b.2))) := rfl
section
variable {T : Nat → Option Fn} {gl : Nat → Option D} {I : OIx} {N : LIx} {n : Nat} {ms : List Nat} {G : Hp} {p q k : Nat} {l : Lad} {bs : List Br} {b : Br}
end
end LD
namespace Tk64
open PK PySem LD PK.Lk TL
def allW (R : Int) : List Str → Option (List Br)
  | [] => some []
  | w :: ws => (wordF R w).bind fun b => (allW R ws).bind fun r => some (b :: r)
def ltB (a b : Br) : Bool := if (a.1 : Int) = (b.1 : Int) then decide (a.2 < b.2) else decide ((a.1 : Int) < (b.1 : Int))
def incB (bs : List Br) : Bool := (bs.zip bs.tail).all fun p => ltB p.1 p.2
def readF (R : Int) (t : Str) : Option (List Br) := (allW R (Txt.split t sp)).bind fun bs => if incB bs then some bs else none
def words (t : Str) : List Str := if t = Str.ofString "" then [] else Txt.split t sp
def readL (R : Int) (t : Str) : Option (List Br) := (allW R (words t)).bind fun bs => if incB bs then some bs else none
theorem allW_app (R : Int) : ∀ (a b : List Str), allW R (a ++ b) = (allW R a).bind fun x => (allW R b).bind fun y => some (x ++ y)
  | [], b => by
    show allW R b = (allW R b).bind fun y => some ([] ++ y)
    cases allW R b <;> rfl
  | w :: a, b => by
    show ((wordF R w).bind fun c => (allW R (a ++ b)).bind fun r => some (c :: r)) = ((wordF R w).bind fun c => (allW R a).bind fun r => some (c :: r)).bind fun x => (allW R b).bind fun y => some (x ++ y)
    rw [allW_app R a b]
    cases wordF R w with
    | none => rfl
    | some c =>
      cases allW R a with
      | none => rfl
      | some x => cases allW R b <;> rfl
theorem allW_none {R : Int} {w : Str} (h : wordF R w = none) : ∀ {ws : List Str}, w ∈ ws → allW R ws = none
  | a :: ws, hm => by
    show ((wordF R a).bind fun b => (allW R ws).bind fun r => some (b :: r)) = none
    rcases List.mem_cons.mp hm with rfl | hm
    · rw [h]; rfl
    · rw [allW_none h hm]
      cases wordF R a <;> rfl
theorem allW_some {R : Int} : ∀ {ws : List Str} {bs : List Br}, allW R ws = some bs → ws.map (wordF R) = bs.map some
  | [], bs, h => by cases h; rfl
  | w :: ws, bs, h => by
    have h : ((wordF R w).bind fun b => (allW R ws).bind fun r => some (b :: r)) = some bs := h
    cases q1 : wordF R w with
    | none => rw [q1] at h; cases h
    | some b =>
      cases q2 : allW R ws with
      | none => rw [q1, q2] at h; cases h
      | some r =>
        rw [q1, q2] at h
        cases h
        rw [List.map_cons, List.map_cons, q1, allW_some q2]
theorem allW_no {R : Int} : ∀ {ws : List Str}, allW R ws = none → ∃ w ∈ ws, wordF R w = none
  | [], h => by cases h
  | w :: ws, h => by
    have h : ((wordF R w).bind fun b => (allW R ws).bind fun r => some (b :: r)) = none := h
    cases q1 : wordF R w with
    | none => exact ⟨w, List.mem_cons_self, q1⟩
    | some b =>
      cases q2 : allW R ws with
      | none =>
        obtain ⟨x, h1, h2⟩ := allW_no q2
        exact ⟨x, List.mem_cons_of_mem _ h1, h2⟩
      | some r => rw [q1, q2] at h; cases h
theorem zip_bs : ∀ (as bs : List Br), zipD (as.map bD) (bs.map bD) = (as.zip bs).map fun p => D.tup [bD p.1, bD p.2]
  | [], bs => by cases bs <;> rfl
  | a :: as, [] => rfl
  | a :: as, b :: bs => by
    show D.tup [bD a, bD b] :: zipD (as.map bD) (bs.map bD) = _
    rw [zip_bs as bs]; rfl
theorem lt_bs (a b : Br) (G : Hp) : cmpD .lt (bD a) (bD b) G = .ok (.bl (ltB a b)) G := rfl
theorem tail_bs (bs : List Br) : (bs.map bD).drop 1 = bs.tail.map bD := by rw [List.drop_one, List.map_tail]
section
variable {n : Nat} {ms : List Nat} {G : Hp} {z : Str} {l : Lad}
theorem bind_p (i j : Nat) (s : PK.Env) (p : Br × Br) : bindT [i, j] false s (.tup [bD p.1, bD p.2]) = some ((s.set i (some (bD p.1))).set j (some (bD p.2))) := rfl
theorem split_m {w a : Str} {ms : List Nat} (ha : a.length ≠ 0) (hw : w.length ≤ 1000000) : mtD .split false ms (.str w) [.str a] G = .ok (.lst ((Txt.split w a).map .str)) G := by
  show (if decide (a.length ≠ 0 ∧ w.length ≤ 1000000) = true then mkl false ((Txt.split w a).map .str) G else .bad) = _
  rw [decide_eq_true ⟨ha, hw⟩]; rfl
def rdD : Option (List Br) → D
  | none => .non
  | some bs => .lst (bs.map bD)
def RInv (t : Str) (R : Int) (G : Hp) (i : Nat) (s : PK.Env) (H : Hp) : Prop := ∃ (bs : List Br) (x3 x4 x5 x6 x7 : Option D), allW R ((Txt.split t sp).take i) = some bs ∧ bs.length = i ∧ H = G ++ [.lst (bs.map bD)] ∧ s = [some (.str t), some (.int R), some (.ref G.length), x3, x4, x5, x6, x7]
theorem lawread_c {t : Str} {R : Int} (ht : t.length ≤ 20000) : call tab gl (n + 2) ms 49 [.str t, .int R] G = .ok (rdD (readF R t)) G := by
  apply PK.R.eq_of
  refine call_to (show tab 49 = some f_law_read from rfl) rfl ?_
  have sp1 : ∀ ms G, mtD .split false ms (.str t) [.str (Str.ofString " ")] G = .ok (.lst ((Txt.split t sp).map .str)) G := fun ms G => split_m (by decide) (by omega)
  have it : ∀ G, itD .val [.lst ((Txt.split t sp).map D.str)] G = some ((Txt.split t sp).map D.str, none) := fun G => rfl
  have ns : (Txt.split t sp).length ≤ 20002 := Nat.le_trans (PyProof.Rows.split_le t sp) (by omega)
  simp -dsimp -implicitDefEqProofs [sp1, it, -mt_splitS]
  refine forM_to (fun i s H => RInv t R G i s H) ⟨[], none, none, none, none, none, rfl, rfl, rfl, rfl⟩ ?_ ?_
  · rintro i w s H hi ⟨bs, x3, x4, x5, x6, x7, hb, hbl, rfl, rfl⟩
    refine ⟨_, rfl, ?_⟩
    have hwl : w.length ≤ 20000 := Nat.le_trans (piece_len (List.mem_of_getElem? hi)) ht
    have te := take_one hi
    have nx : ∀ (b : Br) (y3 y4 y5 y6 y7 : Option D), wordF R w = some b → RInv t R G (i + 1) [some (.str t), some (.int R), some (.ref G.length), y3, y4, y5, y6, y7] (G ++ [.lst (bs.map bD ++ [bD b])]) := fun b y3 y4 y5 y6 y7 hb2 =>
      ⟨bs ++ [b], y3, y4, y5, y6, y7, by rw [te, allW_app, hb]; show ((allW R [w]).bind fun y => some (bs ++ y)) = _; show ((((wordF R w).bind fun b => some [b])).bind fun y => some (bs ++ y)) = _; rw [hb2]; rfl, by rw [List.length_append, hbl]; rfl, by rw [List.map_append]; rfl, rfl⟩
    have no : wordF R w = none → readF R t = none := fun h => by
      unfold readF
      rw [allW_none h (List.mem_of_getElem? hi)]; rfl
    have sp2 : ∀ ms G, mtD .split false ms (.str w) [.str (Str.ofString "/")] G = .ok (.lst ((Txt.split w slash).map .str)) G := fun ms G => split_m (by decide) (by omega)
    have zz : szOk (Txt.split w slash).length = true := decide_eq_true (by have := PyProof.Rows.split_le w slash; omega)
    have wl : ∀ xs : List Str, Txt.split w slash = xs → wordF R w = match xs with
      | [a, b] => match numF a, numF b with
        | some r, some x => if 0 ≤ r ∧ r < R then some (r.toNat, x) else none
        | _, _ => none
      | _ => none := fun xs e => by unfold wordF; first | (rw [e]; rfl) | rw [e]
    have nu : ∀ p ∈ Txt.split w slash, ∀ ms G, call tab gl (n + 1) ms 48 [.str p] G = .ok (numD (numF p)) G := fun p hp ms G => lawnum_c (Nat.le_trans (piece_len hp) (by omega))
    have hl6 : (G ++ [Cell.lst (bs.map bD)])[G.length]? = some (.lst (bs.map bD)) := by rw [hp_0]; rfl
    have hs6 : ∀ c d, (G ++ [c]).set G.length d = G ++ [d] := fun c d => by rw [hp_s0]; rfl
    simp -dsimp -implicitDefEqProofs [sp2, zz, -mt_splitS]
    refine compF_map_to (q := D.str) (f := fun p => numD (numF p)) (l := Txt.split w slash) (by rfl) (fun p hp => ?_) ?_
    · have nu := nu p hp
      simp -dsimp -implicitDefEqProofs [wipes, nu]
    generalize hS : Txt.split w slash = S at *
    have wl := wl S rfl
    have hdn : ∀ ps : List Str, (ps.map fun p => numD (numF p)).all (dat false 7) = true := fun ps => dat_map fun p _ => numD_dat _
    have hin : ∀ G, cmpD .inp .non (.lst (S.map fun p => numD (numF p))) G = _ := fun G => inN (hdn S)
    have lenS : ∀ G, biD .len false [.lst (S.map fun p => numD (numF p))] G = .ok (.int (S.length : Nat)) G := fun G => by
      show (match lenD G (.lst (S.map fun p => numD (numF p))) with | some n => PK.R.ok (.int n) G | none => .bad) = _
      show PK.R.ok (.int ((S.map fun p => numD (numF p)).length : Nat)) G = _
      rw [List.length_map]
    have lenS2 : (S.map fun p => numD (numF p)).length = S.length := List.length_map ..
    generalize hNS : (S.map fun p => numD (numF p)) = NS at *
    have quit : readF R t = none → ∀ H : Hp, (∃ X, H = G ++ X) → O.to (.ret .non H) (fK (Rs.is (rdD (readF R t)) G) true true G.length) := fun e H ⟨X, hX⟩ => by
      subst hX
      rw [e]
      simp -dsimp -implicitDefEqProofs [rdD]
    have quit1 : readF R t = none → (fK (Rs.is (rdD (readF R t)) G) true true G.length).rt .non (G ++ [Cell.lst (bs.map bD)]) := fun e => quit e _ ⟨_, rfl⟩
    generalize hK : fK (Rs.is (rdD (readF R t)) G) true true G.length = KK at *
    simp -dsimp -implicitDefEqProofs [lenS2]
    refine to_ite (fun c => ?_) (fun c => ?_)
    · have c : ¬ S.length = 2 := by
        have : ¬ ((S.length : Nat) : Int) = 2 := by simpa using c
        omega
      have e : wordF R w = none := by
        rw [wl]
        match S, c with
        | [], _ => rfl
        | [a], _ => rfl
        | [a, b], c => exact absurd rfl c
        | a :: b :: d :: r, _ => rfl
      simp -dsimp -implicitDefEqProofs
      exact quit1 (no e)
    · have c : S.length = 2 := by
        have : ((S.length : Nat) : Int) = 2 := by simpa using c
        omega
      match S, c with
      | [a, b], _ =>
        have hns : NS = [numD (numF a), numD (numF b)] := hNS.symm
        subst hns
        have wl : wordF R w = match numF a, numF b with
          | some r, some x => if 0 ≤ r ∧ r < R then some (r.toNat, x) else none
          | _, _ => none := wl
        cases q1 : numF a with
        | none =>
          rw [q1] at wl
          have e : wordF R w = none := wl
          have nd0 : numD none = .non := rfl
          have hin0 : ∀ G, cmpD .inp .non (.lst [.non, numD (numF b)]) G = .ok (.bl true) G := fun G => by
            rw [inN (ds := [.non, numD (numF b)]) (by show (true && (dat false 7 (numD (numF b)) && true)) = true; rw [numD_dat]; rfl), decide_eq_true List.mem_cons_self]
          simp -dsimp -implicitDefEqProofs [nd0, hin0]
          exact quit1 (no e)
        | some r =>
          cases q2 : numF b with
          | none =>
            rw [q1, q2] at wl
            have e : wordF R w = none := wl
            have nd0 : numD none = .non := rfl
            have nd1 : numD (some r) = .int r := rfl
            have hin0 : ∀ G, cmpD .inp .non (.lst [.int r, .non]) G = .ok (.bl true) G := fun G => by
              rw [inN (ds := [.int r, .non]) rfl, decide_eq_true (by simp)]
            simp -dsimp -implicitDefEqProofs [nd0, nd1, hin0]
            exact quit1 (no e)
          | some x =>
            rw [q1, q2] at wl
            have wl : wordF R w = if 0 ≤ r ∧ r < R then some (r.toNat, x) else none := wl
            have nd0 : numD (some x) = .int x := rfl
            have nd1 : numD (some r) = .int r := rfl
            have hin0 : ∀ G, cmpD .inp .non (.lst [.int r, .int x]) G = .ok (.bl false) G := fun G => by
              rw [inN (ds := [.int r, .int x]) rfl, decide_eq_false (by simp)]
            simp -dsimp -implicitDefEqProofs [nd0, nd1, hin0]
            refine to_iteD (fun c1 => ?_) (fun c1 => ?_)
            · simp -dsimp -implicitDefEqProofs
              refine to_iteNO (fun c2 => ?_) (fun c2 => ?_)
              · have e : wordF R w = none := by rw [wl, if_neg fun h => c2 h.2]
                simp -dsimp -implicitDefEqProofs
                exact quit1 (no e)
              · have e : wordF R w = some (r.toNat, x) := by rw [wl, if_pos ⟨c1, c2⟩]
                simp -dsimp -implicitDefEqProofs [hl6]
                refine app_to hl6 (wok_tree fun _ => rfl) (by
                  have : i < (Txt.split t sp).length := (List.getElem?_eq_some_iff.mp hi).1
                  rw [List.length_map]; omega) ?_
                have z := nx (r.toNat, x) (some (.str w)) (some (.lst [.int r, .int x])) x5 x6 x7 e
                have e2 : bD (r.toNat, x) = .tup [.int r, .int x] := by
                  show D.tup [.int (r.toNat : Int), .int x] = _
                  rw [Int.toNat_of_nonneg c1]
                rw [e2] at z
                simp -dsimp -implicitDefEqProofs [hs6]
                exact z
            · have e : wordF R w = none := by rw [wl, if_neg fun h => c1 h.1]
              simp -dsimp -implicitDefEqProofs
              exact quit1 (no e)
  · rintro s H ⟨bs, x3, x4, x5, x6, x7, hb, hbl, rfl, rfl⟩
    rw [List.take_of_length_le (Nat.le_refl _)] at hb
    have hl6 : (G ++ [Cell.lst (bs.map bD)])[G.length]? = some (.lst (bs.map bD)) := by rw [hp_0]; rfl
    have slz : slD false (.ref G.length) (.int 1) (.exc 0) (G ++ [Cell.lst (bs.map bD)]) = .ok (.lst (bs.tail.map bD)) (G ++ [Cell.lst (bs.map bD)]) := by
      have e : cutD (bs.map bD) (some 1) none = bs.tail.map bD := by
        by_cases c : 1 ≤ (bs.map bD).length
        · rw [show (some (1 : Int)) = some ((1 : Nat) : Int) from rfl, cut_lo c, tail_bs]
        · have : bs = [] := by
            cases bs with
            | nil => rfl
            | cons _ _ => simp at c
          subst this; rfl
      show (match seqD (G ++ [Cell.lst (bs.map bD)]) (.ref G.length) with | some ds => mkl false (cutD ds (some 1) none) _ | none => PK.R.bad) = _
      have q : seqD (G ++ [Cell.lst (bs.map bD)]) (.ref G.length) = some (bs.map bD) := by
        unfold seqD; dsimp only; rw [hl6]
      rw [q]
      show mkl false (cutD (bs.map bD) (some 1) none) _ = _
      rw [e]; rfl
    have iz : itD .zip [.ref G.length, .lst (bs.tail.map bD)] (G ++ [Cell.lst (bs.map bD)]) = some ((bs.zip bs.tail).map fun p => D.tup [bD p.1, bD p.2], some (G.length, .lst (bs.map bD))) := by
      show (match (G ++ [Cell.lst (bs.map bD)])[G.length]? with | some (.lst a) => some (zipD a (bs.tail.map bD), some (G.length, Cell.lst a)) | _ => none) = _
      rw [hl6, ← zip_bs]
    have hz : szOk (min bs.length bs.tail.length) = true := decide_eq_true (by omega)
    have al : ∀ G, biD .all false [.lst ((bs.zip bs.tail).map fun p => D.bl (ltB p.1 p.2))] G = .ok (.bl (incB bs)) G := fun G => all_bl (fun p : Br × Br => ltB p.1 p.2) (bs.zip bs.tail) G
    have st : still (G ++ [Cell.lst (bs.map bD)]) (some (G.length, .lst (bs.map bD))) = true := decide_eq_true hl6
    have rd : readF R t = if incB bs then some bs else none := by unfold readF; rw [hb]; rfl
    generalize bs.tail = ts at *
    simp -dsimp -implicitDefEqProofs [slz, iz, hz]
    refine compF_map_to (q := fun p : Br × Br => D.tup [bD p.1, bD p.2]) (f := fun p => .bl (ltB p.1 p.2)) (l := bs.zip ts) st (fun p hp => ?_) ?_
    · have lt := lt_bs p.1 p.2
      simp -dsimp -implicitDefEqProofs [wipes, bind_p, lt]
    generalize ((bs.zip ts).map fun p => D.bl (ltB p.1 p.2)) = BL at *
    simp -dsimp -implicitDefEqProofs [al]
    refine to_iteO (fun c => ?_) (fun c => ?_)
    · have c : incB bs = false := by simpa using c
      rw [rd, c]
      simp -dsimp -implicitDefEqProofs [rdD]
    · have c : incB bs = true := by simpa using c
      rw [rd, c]
      have hfr : frzD (G ++ [Cell.lst (bs.map bD)]) G.length (.ref G.length) = .lst (bs.map bD) := by
        unfold frzD
        dsimp only
        rw [if_neg (Nat.lt_irrefl _), hl6]
      have bl : belows G.length (bs.map bD) = true := belows_map (fun e => rfl) _
      simp -dsimp -implicitDefEqProofs [hfr, bl, rdD]

theorem ltB_iff {a b : Br} : ltB a b = true ↔ a.1 < b.1 ∨ (a.1 = b.1 ∧ a.2 < b.2) := by
  unfold ltB
  by_cases c : (a.1 : Int) = (b.1 : Int)
  · rw [if_pos c]
    simp
    omega
  · rw [if_neg c]
    simp
    omega
theorem ltB_trans {a b c : Br} (h1 : ltB a b = true) (h2 : ltB b c = true) : ltB a c = true := by
  rw [ltB_iff] at *
  omega
theorem inc_pw : ∀ {bs : List Br}, incB bs = true → bs.Pairwise fun a b => ltB a b = true
  | [], _ => .nil
  | [a], _ => by simp
  | a :: b :: r, h => by
    have h : (ltB a b && ((b :: r).zip r).all fun p => ltB p.1 p.2) = true := h
    obtain ⟨h1, h2⟩ := Bool.and_eq_true_iff.mp h
    have ih := inc_pw (bs := b :: r) h2
    refine List.Pairwise.cons (fun x hx => ?_) ih
    rcases List.mem_cons.mp hx with rfl | hx
    · exact h1
    · exact ltB_trans h1 ((List.pairwise_cons.mp ih).1 x hx)
theorem pw_inc : ∀ {bs : List Br}, (bs.Pairwise fun a b => ltB a b = true) → incB bs = true
  | [], _ => rfl
  | [a], _ => rfl
  | a :: b :: r, h => by
    obtain ⟨h1, h2⟩ := List.pairwise_cons.mp h
    show (ltB a b && ((b :: r).zip r).all fun p => ltB p.1 p.2) = true
    rw [h1 b List.mem_cons_self]
    exact pw_inc (bs := b :: r) h2
theorem ltB_ne {a b : Br} (h : ltB a b = true) : a ≠ b := fun e => by
  rw [ltB_iff, e] at h
  omega
theorem word_ok {R : Int} {w : Str} {b : Br} (h : wordF R w = some b) : (b.1 : Int) < R ∧ W40 b.2 ∧ w = nstr (b.1 : Int) ++ slash ++ nstr b.2 := by
  unfold wordF at h
  split at h
  · rename_i x y e
    split at h
    · rename_i r v e1 e2
      split at h
      · rename_i c
        cases h
        obtain ⟨n1, n2⟩ := numF_some e1
        obtain ⟨n3, n4⟩ := numF_some e2
        refine ⟨by show (r.toNat : Int) < R; omega, ?_, ?_⟩
        · have : (10 : Nat) ^ 40 = 10000000000000000000000000000000000000000 := by decide
          rw [this] at n4
          unfold W40
          show _ < v ∧ v < _
          omega
        · have j := PySem.StrLaws.join_split w slash
          rw [e] at j
          have j : x ++ slash ++ y = w := j
          rw [← j, n1, n3]
          show nstr r ++ slash ++ nstr v = nstr (r.toNat : Int) ++ slash ++ nstr v
          rw [Int.toNat_of_nonneg c.1]
      · cases h
    · cases h
  · cases h
theorem initK (hm : Mk ms G) : call tab gl (n + 1) ms 1 [.ref G.length, l.d] (G ++ [.ins 1 []]) = .ok .non (G ++ [.ins 1 [l.d, .ref (G.length + 1)], .dT []]) := by
  apply PK.R.eq_of
  refine call_to (show tab 1 = some f_Locks___init from rfl) rfl ?_
  simp -dsimp -implicitDefEqProofs
  refine putF_to (by rw [hp_0]; rfl) (wok_tree fun k => below_lad _ _) rfl ?_
  have e1 : ∀ c, (G ++ [Cell.ins 1 []]).set G.length c = G ++ [c] := fun c => by rw [hp_s0]; rfl
  simp -dsimp -implicitDefEqProofs [e1]
  refine putF_to (by rw [hp_0]; rfl) (hm.wok (Nat.le_refl _)) rfl ?_
  have e2 : ∀ c d, (G ++ [c, d]).set G.length (Cell.ins 1 [l.d, .ref (G.length + 1)]) = G ++ [Cell.ins 1 [l.d, .ref (G.length + 1)], d] := fun c d => by rw [hp_s0]; rfl
  simp -dsimp -implicitDefEqProofs [e2]
def lkC (l : Lad) (G : Hp) (bs : List Br) : Hp := G ++ [.ins 1 [l.d, .ref (G.length + 1)], dtB bs]
theorem lkC_at (bs : List Br) : LkAt (lkC l G bs) G.length (G.length + 1) l bs := ⟨by unfold lkC; rw [hp_0]; rfl, by unfold lkC; rw [hp_k]; rfl⟩
theorem lkC_set (bs cs : List Br) : (lkC l G bs).set (G.length + 1) (dtB cs) = lkC l G cs := by unfold lkC; rw [hp_sk]; rfl
theorem lkC_fin (bs : List Br) : fin true true G.length (.ret (.ref G.length) (lkC l G bs)) = .ok (.ref G.length) (lkC l G bs) := by
  have hf : frzD (lkC l G bs) G.length (.ref G.length) = .ins 1 [l.d, .ref (G.length + 1)] := by
    unfold frzD
    dsimp only
    rw [if_neg (Nat.lt_irrefl _), (lkC_at (l := l) bs).o]
  show leave true true G.length (.ref G.length) (lkC l G bs) = _
  unfold leave
  dsimp only
  rw [if_pos rfl, if_pos rfl, hf]
  have : below G.length (.ins 1 [l.d, .ref (G.length + 1)]) = false := by
    show (below G.length l.d && (decide (G.length + 1 < G.length) && true)) = false
    rw [decide_eq_false (by omega)]
    cases below G.length l.d <;> rfl
  rw [this]; rfl
theorem mem_none {R : Int} (ws : List Str) : decide (D.non ∈ ws.map fun w => brD (wordF R w)) = (allW R ws).isNone := by
  cases q : allW R ws with
  | none =>
    obtain ⟨w, h1, h2⟩ := allW_no q
    rw [decide_eq_true (List.mem_map.mpr ⟨w, h1, by rw [h2]; rfl⟩)]; rfl
  | some bs =>
    rw [decide_eq_false]
    · rfl
    · intro z
      obtain ⟨w, h1, h2⟩ := List.mem_map.mp z
      cases q2 : wordF R w with
      | none => rw [allW_none q2 h1] at q; cases q
      | some b => rw [q2] at h2; cases h2
theorem map_some {R : Int} {ws : List Str} {bs : List Br} (h : allW R ws = some bs) : (ws.map fun w => brD (wordF R w)) = bs.map bD := by
  have e := allW_some h
  have : (ws.map fun w => brD (wordF R w)) = (ws.map (wordF R)).map brD := by rw [List.map_map]; rfl
  rw [this, e, List.map_map]; rfl
theorem allW_ok {R : Int} {ws : List Str} {bs : List Br} (h : allW R ws = some bs) : ∀ b ∈ bs, ∃ w, wordF R w = some b := fun b hb => by
  have e := allW_some h
  have hm : some b ∈ bs.map some := List.mem_map.mpr ⟨b, hb, rfl⟩
  rw [← e] at hm
  obtain ⟨w, _, h2⟩ := List.mem_map.mp hm
  exact ⟨w, h2⟩
theorem read_to (O : l.Ok) (hm : Mk ms G) {t : Str} (ht : t.length ≤ 20000) : R.to (call tab gl (n + 7) ms 13 [l.d, .str t] G)
    ⟨fun v G' => ∃ bs, readL ((l.rs.length : Nat) + 1) t = some bs ∧ v = .ref G.length ∧ G' = lkC l G bs, fun c G' => readL ((l.rs.length : Nat) + 1) t = none ∧ c = 4 ∧ G' = G⟩ := by
  refine call_to (show tab 13 = some f_read_locks from rfl) rfl ?_
  have sp1 : ∀ ms G, mtD .split false ms (.str t) [.str (Str.ofString " ")] G = .ok (.lst ((Txt.split t sp).map .str)) G := fun ms G => split_m (by decide) (by omega)
  have ns : (Txt.split t sp).length ≤ 20002 := Nat.le_trans (PyProof.Rows.split_le t sp) (by omega)
  have nw : (words t).length ≤ 20002 := by
    unfold words
    split
    · exact Nat.zero_le _
    · exact ns
  have wm : ∀ w ∈ words t, w.length ≤ 20000 := fun w hw => by
    unfold words at hw
    split at hw
    · cases hw
    · exact Nat.le_trans (piece_len hw) ht
  have ty : ∀ G, typed G (.str t) = true := fun G => rfl
  have isy : ∀ G, isTy G (.str t) .str = true := fun G => rfl
  simp -dsimp -implicitDefEqProofs [ty, isy]
  generalize hKK : fK ⟨fun v G' => ∃ bs, readL ((l.rs.length : Nat) + 1) t = some bs ∧ v = .ref G.length ∧ G' = lkC l G bs, fun c G' => readL ((l.rs.length : Nat) + 1) t = none ∧ c = 4 ∧ G' = G⟩ true true G.length = KK at *
  refine to_mid (fun s H => H = G ∧ s = [some l.d, some (.str t), some (.lst ((words t).map .str)), none, none, none, none, none, none, none]) ?_ ?_
  · refine to_iteNO (fun c => ?_) (fun c => ?_)
    · simp -dsimp -implicitDefEqProofs [sp1, -mt_splitS]
      unfold words
      rw [if_neg c]
    · simp -dsimp -implicitDefEqProofs
      unfold words
      rw [if_pos c]
  · rintro _ H ⟨rfl, rfl⟩
    have sw : szOk (words t).length = true := decide_eq_true (by omega)
    have bw : ∀ w ∈ words t, ∀ ms G, call tab gl (n + 6) ms 12 [l.d, .str w] G = .ok (brD (wordF ((l.rs.length : Nat) + 1) w)) G := fun w hw ms G => barword_c (n := n + 4) (by have := wm w hw; omega)
    have rl : readL ((l.rs.length : Nat) + 1) t = (allW ((l.rs.length : Nat) + 1) (words t)).bind fun bs => if incB bs then some bs else none := rfl
    generalize hW : words t = ws at *
    simp -dsimp -implicitDefEqProofs [sw]
    refine compF_map_to (q := D.str) (f := fun w => brD (wordF ((l.rs.length : Nat) + 1) w)) (l := ws) (by rfl) (fun w hw => ?_) ?_
    · have bw := bw w hw
      simp -dsimp -implicitDefEqProofs [wipes, bw]
    have dd : (ws.map fun w => brD (wordF ((l.rs.length : Nat) + 1) w)).all (dat false 7) = true := dat_map fun w _ => brD_dat _
    have hin : ∀ G, cmpD .inp .non (.lst (ws.map fun w => brD (wordF ((l.rs.length : Nat) + 1) w))) G = .ok (.bl (allW ((l.rs.length : Nat) + 1) ws).isNone) G := fun G => by rw [inN dd, mem_none]
    cases qA : allW ((l.rs.length : Nat) + 1) ws with
    | none =>
      rw [qA] at hin rl
      have rl : readL ((l.rs.length : Nat) + 1) t = none := rl
      have hin : ∀ G, cmpD .inp .non (.lst (ws.map fun w => brD (wordF ((l.rs.length : Nat) + 1) w))) G = .ok (.bl true) G := hin
      generalize (ws.map fun w => brD (wordF ((l.rs.length : Nat) + 1) w)) = BB at *
      simp -dsimp -implicitDefEqProofs [hin]
      rw [← hKK]
      exact ⟨rl, rfl, by simp⟩
    | some bs =>
      rw [qA] at hin rl
      have rl : readL ((l.rs.length : Nat) + 1) t = if incB bs then some bs else none := rl
      have hin : ∀ G, cmpD .inp .non (.lst (ws.map fun w => brD (wordF ((l.rs.length : Nat) + 1) w))) G = .ok (.bl false) G := hin
      rw [map_some qA] at hin ⊢
      have bl : bs.length = ws.length := by
        have := congrArg List.length (allW_some qA)
        simpa using this.symm
      have slz : ∀ G, slD false (.lst (bs.map bD)) (.int 1) (.exc 0) G = .ok (.lst (bs.tail.map bD)) G := fun G => by
        have e : cutD (bs.map bD) (some 1) none = bs.tail.map bD := by
          by_cases c : 1 ≤ (bs.map bD).length
          · rw [show (some (1 : Int)) = some ((1 : Nat) : Int) from rfl, cut_lo c, tail_bs]
          · have : bs = [] := by
              cases bs with
              | nil => rfl
              | cons _ _ => simp at c
            subst this; rfl
        show mkl false (cutD (bs.map bD) (some 1) none) _ = _
        rw [e]; rfl
      have iz : ∀ G, itD .zip [.lst (bs.map bD), .lst (bs.tail.map bD)] G = some ((bs.zip bs.tail).map fun p => D.tup [bD p.1, bD p.2], none) := fun G => by
        rw [← zip_bs]; rfl
      have hz : szOk (min bs.length bs.tail.length) = true := decide_eq_true (by omega)
      have al : ∀ G, biD .all false [.lst ((bs.zip bs.tail).map fun p => D.bl (ltB p.1 p.2))] G = .ok (.bl (incB bs)) G := fun G => all_bl (fun p : Br × Br => ltB p.1 p.2) (bs.zip bs.tail) G
      have itb : ∀ G, itD .val [.lst (bs.map bD)] G = some (bs.map bD, none) := fun G => rfl
      generalize hts : bs.tail = ts at *
      simp -dsimp -implicitDefEqProofs [hin, slz, -sl_l10]
      simp -dsimp -implicitDefEqProofs [iz, hz]
      refine compF_map_to (q := fun p : Br × Br => D.tup [bD p.1, bD p.2]) (f := fun p => .bl (ltB p.1 p.2)) (l := bs.zip ts) (by rfl) (fun p hp => ?_) ?_
      · have lt := lt_bs p.1 p.2
        simp -dsimp -implicitDefEqProofs [wipes, bind_p, lt]
      generalize ((bs.zip ts).map fun p => D.bl (ltB p.1 p.2)) = BL at *
      simp -dsimp -implicitDefEqProofs [al]
      refine to_iteO (fun c => ?_) (fun c => ?_)
      · have c : incB bs = false := by simpa using c
        rw [c] at rl
        have rl : readL ((l.rs.length : Nat) + 1) t = none := rl
        simp -dsimp -implicitDefEqProofs
        rw [← hKK]
        exact ⟨rl, rfl, by simp⟩
      · have c : incB bs = true := by simpa using c
        rw [c] at rl
        have rl : readL ((l.rs.length : Nat) + 1) t = some bs := rl
        have pw := inc_pw c
        have ok : ∀ b ∈ bs, BrOk l b := fun b hb => by
          obtain ⟨w, hw⟩ := allW_ok qA b hb
          obtain ⟨h1, h2, _⟩ := word_ok hw
          exact ⟨by omega, h2⟩
        have in2 : call tab gl (n + 6) (H.length :: ms) 1 [.ref H.length, l.d] (H ++ [.ins 1 []]) = .ok .non (H ++ [.ins 1 [l.d, .ref (H.length + 1)], .dT []]) := initK (n := n + 5) hm.cons
        simp -dsimp -implicitDefEqProofs [in2, itb]
        refine forM_to (fun i s H' => H' = lkC l H (bs.take i) ∧ ∃ x5 x6, s = [some l.d, some (.str t), some (.lst (ws.map .str)), some (.lst (bs.map bD)), some (.ref H.length), x5, x6, none, none, none]) ⟨rfl, none, none, rfl⟩ ?_ ?_
        · rintro i b s H' hi ⟨rfl, x5, x6, rfl⟩
          refine ⟨_, bind_b, ?_⟩
          have te := take_one hi
          have L := lkC_at (l := l) (G := H) (bs.take i)
          have hb := ok b (List.mem_of_getElem? hi)
          have hn : b ∉ bs.take i := fun z => by
            obtain ⟨j, hj⟩ := List.getElem?_of_mem z
            have hji : j < i := by
              have := (List.getElem?_eq_some_iff.mp hj).1
              rw [List.length_take] at this; omega
            rw [List.getElem?_take_of_lt hji] at hj
            obtain ⟨q1, q2⟩ := List.getElem?_eq_some_iff.mp hj
            obtain ⟨q3, q4⟩ := List.getElem?_eq_some_iff.mp hi
            have := List.pairwise_iff_getElem.mp pw j i q1 q3 hji
            rw [q2, q4] at this
            exact ltB_ne this rfl
          have sh : ∀ ms, call tab gl (n + 6) ms 3 [.ref H.length, .int (b.1 : Nat), .int b.2] (lkC l H (bs.take i)) = .ok .non (lkC l H (bs.take (i + 1))) := fun ms => by
            have := shut_run (n := n) (ms := ms) lok jj la O L hb hn (by rw [List.length_take]; omega)
            rw [lkC_set, ← te] at this
            exact this
          have cl := cls_1 L
          simp -dsimp -implicitDefEqProofs [cl, sh]
        · rintro s H' ⟨rfl, x5, x6, rfl⟩
          rw [List.take_of_length_le (Nat.le_refl _)]
          simp -dsimp -implicitDefEqProofs
          rw [← hKK]
          show R.to (fin true true H.length (.ret (.ref H.length) (lkC l H bs))) _
          rw [lkC_fin]
          exact ⟨bs, rl, rfl, rfl⟩
end
end Tk64
namespace Tk64
open PK PySem LD PK.Lk TL
def wrd (b : Br) : Str := nstr (b.1 : Int) ++ slash ++ nstr b.2
def wrB (bs : List Br) : Str := Txt.join sp (bs.map wrd)
theorem data_lt (a b : Br) : PySem.W.dataLt (keyTD (bk a)) (keyTD (bk b)) = ltB a b := by
  show PySem.W.dataLt (.tuple [.int (a.1 : Int), .int a.2]) (.tuple [.int (b.1 : Int), .int b.2]) = _
  rw [PySem.W.dataLt_ii]
  unfold ltB
  by_cases c : (a.1 : Int) = (b.1 : Int)
  · rw [if_pos c]
    exact decide_eq_decide.mpr (by omega)
  · rw [if_neg c]
    exact decide_eq_decide.mpr (by omega)
theorem leB_eq (a b : Br) : leB a b = !ltB b a := by
  show (!PySem.W.dataLt (keyTD (bk b)) (keyTD (bk a))) = _
  rw [data_lt]
theorem leB_ne {a b : Br} (h : leB a b = true) (hn : a ≠ b) : ltB a b = true := by
  rw [leB_eq] at h
  have h : ¬ ltB b a = true := by simpa using h
  rw [ltB_iff] at h ⊢
  have : ¬ (a.1 = b.1 ∧ a.2 = b.2) := fun e => hn (Prod.ext e.1 e.2)
  omega
theorem leB_total : PySem.W.TotalLe leB := by
  have := PySem.W.sortLe_total (PyProof.Rows.listOrd PyProof.Rows.itemOrd) false fun b : Br => PySem.W.keyToks (keyTD (bk b))
  exact this
theorem sb_pw {bs : List Br} (h : bs.Nodup) : (sb bs).Pairwise fun a b => ltB a b = true := by
  have p1 : (sb bs).Pairwise fun a b => leB a b = true := PySem.W.sort_pairwise leB_total bs
  have p2 : (sb bs).Nodup := (List.mergeSort_perm bs leB).nodup_iff.mpr h
  exact (p1.and p2).imp fun h => leB_ne h.1 h.2
theorem pw_uniq : ∀ {a b : List Br}, (a.Pairwise fun a b => ltB a b = true) → (b.Pairwise fun a b => ltB a b = true) → (∀ x, x ∈ a ↔ x ∈ b) → a = b
  | [], [], _, _, _ => rfl
  | [], y :: b, _, _, h => by have := (h y).mpr List.mem_cons_self; cases this
  | x :: a, [], _, _, h => by have := (h x).mp List.mem_cons_self; cases this
  | x :: a, y :: b, pa, pb, h => by
    obtain ⟨a1, a2⟩ := List.pairwise_cons.mp pa
    obtain ⟨b1, b2⟩ := List.pairwise_cons.mp pb
    have e : x = y := by
      rcases List.mem_cons.mp ((h x).mp List.mem_cons_self) with e | e
      · exact e
      · rcases List.mem_cons.mp ((h y).mpr List.mem_cons_self) with e2 | e2
        · exact e2.symm
        · have l1 := b1 x e
          have l2 := a1 y e2
          exact absurd rfl (ltB_ne (ltB_trans l1 l2))
    subst e
    rw [pw_uniq a2 b2 fun z => ?_]
    constructor
    · intro hz
      rcases List.mem_cons.mp ((h z).mp (List.mem_cons_of_mem _ hz)) with e | e
      · exact absurd e.symm (ltB_ne (a1 z hz))
      · exact e
    · intro hz
      rcases List.mem_cons.mp ((h z).mpr (List.mem_cons_of_mem _ hz)) with e | e
      · exact absurd e.symm (ltB_ne (b1 z hz))
      · exact e
theorem pw_nodup {bs : List Br} (h : bs.Pairwise fun a b => ltB a b = true) : bs.Nodup := h.imp fun h => ltB_ne h
theorem sb_of {as bs : List Br} (h : bs.Pairwise fun a b => ltB a b = true) (hn : as.Nodup) (hm : ∀ x, x ∈ as ↔ x ∈ bs) : sb as = bs :=
  pw_uniq (sb_pw hn) h fun x => sb_mem.trans (hm x)
theorem sb_self {bs : List Br} (h : bs.Pairwise fun a b => ltB a b = true) : sb bs = bs := sb_of h (pw_nodup h) fun _ => Iff.rfl

theorem wr_back {R : Int} {t : Str} {bs : List Br} (h : readL R t = some bs) : wrB bs = t ∧ (bs.Pairwise fun a b => ltB a b = true) ∧ (∀ b ∈ bs, (b.1 : Int) < R ∧ W40 b.2) := by
  have h : ((allW R (words t)).bind fun bs => if incB bs then some bs else none) = some bs := h
  cases q : allW R (words t) with
  | none => rw [q] at h; cases h
  | some cs =>
    rw [q] at h
    have h : (if incB cs then some cs else none) = some bs := h
    split at h
    · rename_i c
      cases h
      refine ⟨?_, inc_pw c, fun b hb => ?_⟩
      · have e : bs.map wrd = words t := by
          have e := allW_some q
          have l : bs.length = (words t).length := by have := congrArg List.length e; simpa using this.symm
          apply List.ext_getElem?
          intro i
          rw [List.getElem?_map]
          have ei := congrArg (fun l => l[i]?) e
          simp only [List.getElem?_map] at ei
          cases q1 : bs[i]? with
          | none =>
            rw [q1] at ei
            cases q2 : (words t)[i]? with
            | none => rfl
            | some w => rw [q2] at ei; cases ei
          | some b =>
            rw [q1] at ei
            cases q2 : (words t)[i]? with
            | none => rw [q2] at ei; cases ei
            | some w =>
              rw [q2] at ei
              have ei : wordF R w = some b := Option.some.inj ei
              rw [(word_ok ei).2.2]; rfl
        unfold wrB
        rw [e, join_eq]
        unfold words
        by_cases c : t = Str.ofString ""
        · rw [if_pos c, c]; rfl
        · rw [if_neg c, PySem.StrLaws.join_split]
      · obtain ⟨w, hw⟩ := allW_ok q b hb
        exact ⟨(word_ok hw).1, (word_ok hw).2.1⟩
    · cases h
theorem wrd_tl (b : Br) : tl (wrd b) = numT (b.1 : Int) ++ (47 :: numT b.2) := by
  unfold wrd
  rw [tl_app, tl_app, tl_nstr, tl_nstr, show tl slash = [47] by decide]
  simp
theorem w40n {x : Int} (h : W40 x) : x.natAbs < 10 ^ 40 := by
  have : (10 : Nat) ^ 40 = 10000000000000000000000000000000000000000 := by decide
  rw [this]
  unfold W40 at h
  omega
theorem word_back {R : Int} {b : Br} (h1 : (b.1 : Int) < R) (h2 : W40 b.2) (h3 : b.1 ≤ 100) : wordF R (wrd b) = some b := by
  have e : wrd b = Txt.join slash [nstr (b.1 : Int), nstr b.2] := by
    rw [join_eq]; rfl
  have s : Txt.split (wrd b) slash = [nstr (b.1 : Int), nstr b.2] := by
    rw [e]
    refine split_join (s := 47) (S := []) (by decide) (by decide +kernel) (by simp) fun p hp => ?_
    simp only [List.mem_cons, List.not_mem_nil, or_false] at hp
    rcases hp with rfl | rfl <;> (rw [tl_nstr]; exact numT_free (by decide) (by decide))
  unfold wordF
  rw [s]
  dsimp only
  rw [numF_nstr (w40n (by unfold W40; omega)), numF_nstr (w40n h2)]
  dsimp only
  rw [if_pos ⟨by omega, h1⟩, Int.toNat_natCast]
theorem allW_back {R : Int} : ∀ {bs : List Br}, (∀ b ∈ bs, (b.1 : Int) < R ∧ W40 b.2 ∧ b.1 ≤ 100) → allW R (bs.map wrd) = some bs
  | [], _ => rfl
  | b :: bs, h => by
    obtain ⟨h1, h2, h3⟩ := h b List.mem_cons_self
    show ((wordF R (wrd b)).bind fun c => (allW R (bs.map wrd)).bind fun r => some (c :: r)) = _
    rw [word_back h1 h2 h3, allW_back fun c hc => h c (List.mem_cons_of_mem _ hc)]; rfl
theorem words_wr (bs : List Br) : words (wrB bs) = bs.map wrd := by
  cases bs with
  | nil => rfl
  | cons b r =>
    have ne : wrB (b :: r) ≠ Str.ofString "" := fun e => by
      have := congrArg tl e
      unfold wrB at this
      rw [join_eq, tl_join, List.map_cons, List.map_cons, LD.joinL_cons, wrd_tl, show tl (Str.ofString "") = [] by decide] at this
      simp at this
    unfold words
    rw [if_neg ne]
    unfold wrB
    refine split_join (s := 32) (S := []) (by decide) (by decide +kernel) (by simp) fun p hp => ?_
    obtain ⟨c, _, rfl⟩ := List.mem_map.mp hp
    rw [wrd_tl]
    intro z
    rcases List.mem_append.mp z with z | z
    · exact numT_free (by decide) (by decide) z
    · rcases List.mem_cons.mp z with z | z
      · cases z
      · exact numT_free (by decide) (by decide) z
theorem read_wr {R : Int} {bs : List Br} (h : bs.Pairwise fun a b => ltB a b = true) (ok : ∀ b ∈ bs, (b.1 : Int) < R ∧ W40 b.2 ∧ b.1 ≤ 100) : readL R (wrB bs) = some bs := by
  unfold readL
  rw [words_wr, allW_back ok]
  show (if incB bs then some bs else none) = _
  rw [pw_inc h]; rfl
section
variable {n : Nat} {ms : List Nat} {G H : Hp} {z : Str} {l : Lad} {bs : List Br} {q k : Nat}
theorem read_some (O : l.Ok) (hm : Mk ms G) {t : Str} (ht : t.length ≤ 20000) (h : readL ((l.rs.length : Nat) + 1) t = some bs) : call tab gl (n + 7) ms 13 [l.d, .str t] G = .ok (.ref G.length) (lkC l G bs) := by
  have r := read_to (n := n) O hm ht
  cases e : call tab gl (n + 7) ms 13 [l.d, .str t] G with
  | ok v G' =>
    rw [e] at r
    obtain ⟨cs, h1, rfl, rfl⟩ := (show ∃ bs, readL ((l.rs.length : Nat) + 1) t = some bs ∧ v = .ref G.length ∧ G' = lkC l G bs from r)
    rw [h] at h1
    cases h1; rfl
  | exc c G' =>
    rw [e] at r
    obtain ⟨h1, _⟩ := (show readL ((l.rs.length : Nat) + 1) t = none ∧ c = 4 ∧ G' = G from r)
    rw [h] at h1; cases h1
  | bad => rw [e] at r; exact False.elim r
theorem read_none (O : l.Ok) (hm : Mk ms G) {t : Str} (ht : t.length ≤ 20000) (h : readL ((l.rs.length : Nat) + 1) t = none) : call tab gl (n + 7) ms 13 [l.d, .str t] G = .exc 4 G := by
  have r := read_to (n := n) O hm ht
  cases e : call tab gl (n + 7) ms 13 [l.d, .str t] G with
  | ok v G' =>
    rw [e] at r
    obtain ⟨cs, h1, _⟩ := (show ∃ bs, readL ((l.rs.length : Nat) + 1) t = some bs ∧ v = .ref G.length ∧ G' = lkC l G bs from r)
    rw [h] at h1; cases h1
  | exc c G' =>
    rw [e] at r
    obtain ⟨_, rfl, rfl⟩ := (show readL ((l.rs.length : Nat) + 1) t = none ∧ c = 4 ∧ G' = G from r)
    rfl
  | bad => rw [e] at r; exact False.elim r
theorem told_some (O : l.Ok) (hm : Mk ms G) {t : Str} (ht : t.length ≤ 20000) (h : readL ((l.rs.length : Nat) + 1) t = some bs) : call tab gl (n + 8) ms 50 [l.d, .str t] G = .ok (.ref G.length) (lkC l G bs) := by
  apply PK.R.eq_of
  refine call_to (show tab 50 = some f_law_told from rfl) rfl ?_
  have rd : call tab gl (n + 7) (G.length :: ms) 13 [l.d, .str t] G = .ok (.ref G.length) (lkC l G bs) := read_some O hm.cons ht h
  simp -dsimp -implicitDefEqProofs [rd]
  show R.to (fin true true G.length (.ret (.ref G.length) (lkC l G bs))) _
  rw [lkC_fin]
  exact ⟨rfl, rfl⟩
theorem told_exc (x : D) (rd : ∀ ms, call tab gl (n + 7) ms 13 [l.d, x] G = .exc 4 G) : call tab gl (n + 8) ms 50 [l.d, x] G = .ok .non G := by
  apply PK.R.eq_of
  refine call_to (show tab 50 = some f_law_told from rfl) rfl ?_
  have rd := rd (G.length :: ms)
  simp -dsimp -implicitDefEqProofs [rd]
theorem told_none (O : l.Ok) (hm : Mk ms G) {t : Str} (ht : t.length ≤ 20000) (h : readL ((l.rs.length : Nat) + 1) t = none) : call tab gl (n + 8) ms 50 [l.d, .str t] G = .ok .non G := by
  apply PK.R.eq_of
  refine call_to (show tab 50 = some f_law_told from rfl) rfl ?_
  have rd : call tab gl (n + 7) (G.length :: ms) 13 [l.d, .str t] G = .exc 4 G := read_none O hm.cons ht h
  simp -dsimp -implicitDefEqProofs [rd]
theorem read_odd {x : D} (h1 : typed G x = true) (h2 : isTy G x .str = false) : call tab gl (n + 7) ms 13 [l.d, x] G = .exc 4 G := by
  have r : R.to (call tab gl (n + 7) ms 13 [l.d, x] G) ⟨fun _ _ => False, fun c G' => c = 4 ∧ G' = G⟩ := by
    refine call_to (show tab 13 = some f_read_locks from rfl) rfl ?_
    simp -dsimp -implicitDefEqProofs [h1, h2]
  cases e : call tab gl (n + 7) ms 13 [l.d, x] G with
  | ok v G' => rw [e] at r; exact False.elim r
  | exc c G' =>
    rw [e] at r
    obtain ⟨rfl, rfl⟩ := (show c = 4 ∧ G' = G from r)
    rfl
  | bad => rw [e] at r; exact False.elim r
theorem wrd_len {b : Br} (h1 : b.1 ≤ 100) (h2 : W40 b.2) : (nstr (b.1 : Int)).length ≤ 4 ∧ (nstr b.2).length ≤ 41 ∧ (wrd b).length ≤ 46 := by
  have a := nstr_len (i := (b.1 : Int)) (k := 3) (by omega) (by simp; omega)
  have c := nstr_len (i := b.2) (k := 40) (by omega) (w40n h2)
  refine ⟨a, c, ?_⟩
  unfold wrd
  rw [len_tl, tl_app, tl_app, List.length_append, List.length_append, ← len_tl, ← len_tl, ← len_tl, show slash.length = 1 by decide]
  omega
theorem sum_wrd : ∀ {bs : List Br}, (∀ b ∈ bs, b.1 ≤ 100 ∧ W40 b.2) → ((bs.map wrd).map Str.length).sum ≤ 46 * bs.length
  | [], _ => Nat.le_refl _
  | b :: bs, h => by
    have h1 := h b List.mem_cons_self
    have := sum_wrd fun c hc => h c (List.mem_cons_of_mem _ hc)
    have := (wrd_len h1.1 h1.2).2.2
    rw [List.map_cons, List.map_cons, List.sum_cons, List.length_cons]
    omega
theorem text_g {f : Nat} {bs : List Br} (ok : ∀ b ∈ bs, b.1 ≤ 100 ∧ W40 b.2) (hl : bs.length ≤ 20002) :
    ∀ ms (G : Hp), mtD .join false ms (.str (Str.ofString " ")) [.lst (bs.map fun b => D.str (wrd b))] G = .ok (.str (wrB bs)) G := fun ms G => by
  have e : (bs.map fun b => D.str (wrd b)) = (bs.map wrd).map D.str := by rw [List.map_map]; rfl
  rw [e]
  show (match strsD ((bs.map wrd).map D.str) with | some ys => if decide ((ys.map Str.length).sum + ys.length * sp.length ≤ 1000000) then PK.R.ok (.str (Txt.join sp ys)) G else .bad | none => .bad) = _
  rw [LD.strsD_map]
  have s := sum_wrd ok
  show (if decide (((bs.map wrd).map Str.length).sum + (bs.map wrd).length * sp.length ≤ 1000000) = true then PK.R.ok (.str (Txt.join sp (bs.map wrd))) G else .bad) = _
  rw [decide_eq_true (by rw [List.length_map, show sp.length = 1 by decide]; omega)]; rfl
theorem bind_b' {s : PK.Env} {i j : Nat} {b : Br} : bindT [i, j] false s (bD b) = some ((s.set i (some (.int (b.1 : Int)))).set j (some (.int b.2))) := rfl
theorem written_c (L : LkAt G q k l bs) (ok : ∀ b ∈ bs, b.1 ≤ 100 ∧ W40 b.2) (hl : bs.length ≤ 20002) : call tab gl (n + 2) ms 9 [.ref q] G = .ok (.str (wrB (sb bs))) G := by
  apply PK.R.eq_of
  refine call_to (show tab 9 = some f_Locks_written from rfl) rfl ?_
  have cl := cls_1 L
  have br : ∀ ms, call tab gl (n + 1) ms 5 [.ref q] G = .ok (.lst ((sb bs).map bD)) G := fun ms => bars_run lok L
  have sl := sb_len bs
  have ok2 : ∀ b ∈ sb bs, b.1 ≤ 100 ∧ W40 b.2 := fun b hb => ok b (sb_mem.mp hb)
  have it : ∀ G, itD .val [.lst ((sb bs).map bD)] G = some ((sb bs).map bD, none) := fun G => rfl
  have tx := text_g (f := 0) ok2 (by omega)
  generalize sb bs = S at *
  have hz : szOk S.length = true := decide_eq_true (by omega)
  simp -dsimp -implicitDefEqProofs [cl, br, it, hz]
  refine compF_map_to (q := bD) (f := fun b => D.str (wrd b)) (l := S) (by rfl) (fun b hb => ?_) ?_
  · obtain ⟨h1, h2⟩ := ok2 b hb
    obtain ⟨w1, w2, w3⟩ := wrd_len h1 h2
    have s1 : strOkI (b.1 : Int) = true := str40 (w40n (by unfold W40; omega))
    have s2 : strOkI b.2 = true := str40 (w40n h2)
    have z1 : szOk ((nstr (b.1 : Int)).length + (Str.ofString "/").length) = true := decide_eq_true (by rw [show (Str.ofString "/").length = 1 by decide]; omega)
    have z2 : szOk ((nstr (b.1 : Int) ++ Str.ofString "/").length + (nstr b.2).length) = true := decide_eq_true (by
      rw [len_tl, tl_app, List.length_append, ← len_tl, ← len_tl, show (Str.ofString "/").length = 1 by decide]; omega)
    simp -dsimp -implicitDefEqProofs [wipes, bind_b', s1, s2, z1, z2]
    rfl
  · generalize (S.map fun b => D.str (wrd b)) = BB at *
    simp -dsimp -implicitDefEqProofs [tx]
end
end Tk64
namespace Tk64
open PK PySem LD PK.Lk TL
section
variable {n : Nat} {ms : List Nat} {G H : Hp} {z : Str} {l : Lad} {bs : List Br} {p q k : Nat}
theorem rf_rl {R : Int} {t : Str} (h : t ≠ Str.ofString "") : readF R t = readL R t := by
  unfold readF readL words
  rw [if_neg h]
theorem lkC_take (bs : List Br) : (lkC l G bs).take G.length = G := by unfold lkC; simp
theorem agrees_c (O : l.Ok) (hm : Mk ms G) {t : Str} (ht : t.length ≤ 20000) : call tab gl (n + 10) ms 51 [l.d, .str t] G = .ok (.bl true) G := by
  apply PK.R.eq_of
  refine call_to (show tab 51 = some f_law_agrees from rfl) rfl ?_
  have r4 := O.r4
  have ro : ∀ ms (H : Hp), call tab gl (n + 9) ms 27 [l.d] H = .ok (.int ((l.rs.length : Nat) + 1)) H := fun ms H => rollsK_run (n := n + 8) rok
  have cl : ∀ G, clsD G l.d = some 0 := fun G => rfl
  have lr : ∀ ms G, call tab gl (n + 9) ms 49 [.str t, .int ((l.rs.length : Nat) + 1)] G = .ok (rdD (readF ((l.rs.length : Nat) + 1) t)) G := fun ms G => lawread_c (n := n + 7) ht
  simp -dsimp -implicitDefEqProofs only [ex_seq, to_then]
  refine to_mid (fun s H => H = G ∧ s = [some l.d, some (.str t), some (.lst []), none, none, none]) (by simp -dsimp -implicitDefEqProofs) ?_
  rintro _ H ⟨rfl, rfl⟩
  simp -dsimp -implicitDefEqProofs only [kt_nx, ex_seq, to_then]
  refine to_mid (fun s H' => H' = H ∧ s = [some l.d, some (.str t), some (rdD (readL ((l.rs.length : Nat) + 1) t)), none, none, none]) ?_ ?_
  · simp -dsimp -implicitDefEqProofs
    refine to_iteNO (fun c => ?_) (fun c => ?_)
    · simp -dsimp -implicitDefEqProofs [ro, cl, lr]
      rw [rf_rl c]
    · simp -dsimp -implicitDefEqProofs
      subst c
      rfl
  · rintro _ H ⟨rfl, rfl⟩
    cases q : readL ((l.rs.length : Nat) + 1) t with
    | none =>
      have td : call tab gl (n + 9) (H.length :: ms) 50 [l.d, .str t] H = .ok .non H := told_none (n := n + 1) O hm.cons ht q
      have rn : rdD none = .non := rfl
      simp -dsimp -implicitDefEqProofs [td, rn]
    | some bs =>
      have td : call tab gl (n + 9) (H.length :: ms) 50 [l.d, .str t] H = .ok (.ref H.length) (lkC l H bs) := told_some (n := n + 1) O hm.cons ht q
      obtain ⟨w1, w2, w3⟩ := wr_back q
      have hbl : bs.length ≤ 20002 := by
        have q : ((allW ((l.rs.length : Nat) + 1) (words t)).bind fun bs => if incB bs then some bs else none) = some bs := q
        cases q2 : allW ((l.rs.length : Nat) + 1) (words t) with
        | none => rw [q2] at q; cases q
        | some cs =>
          rw [q2] at q
          have q : (if incB cs then some cs else none) = some bs := q
          split at q
          · cases q
            have e : bs.length = (words t).length := by have := congrArg List.length (allW_some q2); simpa using this.symm
            rw [e]
            unfold words
            split
            · exact Nat.zero_le _
            · exact Nat.le_trans (PyProof.Rows.split_le t sp) (by omega)
          · cases q
      have L := lkC_at (l := l) (G := H) bs
      have wr : ∀ ms, call tab gl (n + 9) ms 9 [.ref H.length] (lkC l H bs) = .ok (.str t) (lkC l H bs) := fun ms => by
        have := written_c (n := n + 7) (ms := ms) L (fun b hb => ⟨by have := (w3 b hb).1; omega, (w3 b hb).2⟩) hbl
        rw [sb_self w2, w1] at this
        exact this
      have cl1 := cls_1 L
      have rn : rdD (some bs) = .lst (bs.map bD) := rfl
      have itb : ∀ G, itD .val [.lst (bs.map bD)] G = some (bs.map bD, none) := fun G => rfl
      have hz : szOk bs.length = true := decide_eq_true (by omega)
      have tk := lkC_take (l := l) (G := H) bs
      simp -dsimp -implicitDefEqProofs [td, rn]
      simp -dsimp -implicitDefEqProofs [cl1, wr, itb, hz]
      refine compF_map_to (q := bD) (f := fun b => D.bl true) (l := bs) (by rfl) (fun b hb => ?_) ?_
      · have is : ∀ ms, call tab gl (n + 9) ms 2 [.ref H.length, .int (b.1 : Nat), .int b.2] (lkC l H bs) = .ok (.bl true) (lkC l H bs) := fun ms => by
          have := isShut_run (n := n + 4) (ms := ms) (b := b) lok jj la O L ⟨by have := (w3 b hb).1; omega, (w3 b hb).2⟩
          rw [decide_eq_true hb] at this
          exact this
        simp -dsimp -implicitDefEqProofs [wipes, bind_b', cl1, is]
      · have al := all_bl (fun _ : Br => true) bs
        have : (bs.all fun _ => true) = true := List.all_eq_true.mpr fun _ _ => rfl
        rw [this] at al
        generalize (bs.map fun _ => D.bl true) = BB at *
        simp -dsimp -implicitDefEqProofs [al, tk]
theorem ladder_c (h : PotAt G p) (hp0 : Mk ms G) : Drawn (call tab gl (n + 7) ms 43 [.ref p] G) G p fun v => ∃ l : Lad, v = l.d ∧ l.Ok := by
  apply Drawn.of
  refine call_to (show tab 43 = some f_law_ladder from rfl) rfl ?_
  obtain ⟨a, b, o, hG⟩ := h.eq
  have hp := h.lt
  have hG2 : G ++ [Cell.lst []] = G.set p (potC a b) ++ [Cell.lst []] := by rw [← hG]
  have hl6 : ∀ a b : Int, (G.set p (potC a b)).length = G.length := fun a b => List.length_set
  have hq6 : ∀ a b : Int, ∀ c, (G.set p (potC a b) ++ [c])[G.length]? = some c := fun a b c => by
    rw [← hl6 a b]; exact hp_0
  have hs6 : ∀ a b : Int, ∀ c d, (G.set p (potC a b) ++ [c]).set G.length d = G.set p (potC a b) ++ [d] := fun a b c d => by
    rw [← hl6 a b, hp_s0]; rfl
  simp -dsimp -implicitDefEqProofs
  rw [hG2]
  refine dig_to dk hp o (by omega) (by unfold Bg; omega) fun c a1 b1 o1 c0 c1 => ?_
  obtain ⟨c, rfl⟩ : ∃ j : Nat, c = (j : Int) := ⟨c.toNat, by omega⟩
  have rr : ∀ G, itD .range1 [.int (c : Nat)] G = some (rangeD 0 c, none) := fun G => by
    rw [it_r1, if_pos (decide_eq_true (by omega)), show (((c : Nat) : Int)).toNat = c by omega]
  simp -dsimp -implicitDefEqProofs [rr, -it_r1]
  refine range0_to (fun i s H => ∃ (rs : List (Int × List Int)) (a b : Int) (x2 x3 : Option D), PotOk b ∧ rs.length = i ∧ (∀ r ∈ rs, W30 r.1 ∧ 1 ≤ r.2.length ∧ r.2.length ≤ 12 ∧ ∀ s ∈ r.2, 1 ≤ s ∧ s ≤ 1000) ∧ s = [some (.ref p), some (.ref G.length), x2, x3] ∧ H = G.set p (potC a b) ++ [Cell.lst (rs.map rowL)])
    ⟨[], a1, b1, none, none, o1, rfl, (fun _ h => nomatch h), rfl, rfl⟩ ?_ ?_
  · rintro i s H hi ⟨rs, a, b, x2, x3, o, hx, hr, rfl, rfl⟩
    simp -dsimp -implicitDefEqProofs
    refine dig_to dk hp o (by omega) (by unfold Bg; omega) fun u a2 b2 o2 u0 u1 => ?_
    simp -dsimp -implicitDefEqProofs
    refine dig_to dk hp o2 (by omega) (by unfold Bg; omega) fun d a3 b3 o3 d0 d1 => ?_
    obtain ⟨d, rfl⟩ : ∃ j : Nat, d = (j : Int) := ⟨d.toNat, by omega⟩
    have rr : ∀ G, itD .range1 [.int (1 + (d : Nat))] G = some (rangeD 0 (d + 1), none) := fun G => by
      rw [it_r1, if_pos (decide_eq_true (by omega)), show ((1 + ((d : Nat) : Int))).toNat = d + 1 by omega]
    have rl : (rangeD 0 (d + 1)).length = d + 1 := rangeD_len _ _
    have zz : szOk (d + 1) = true := decide_eq_true (by omega)
    simp -dsimp -implicitDefEqProofs [rr, -it_r1, rl, zz]
    refine comp_to (fun j acc H => ∃ (ss : List Int) (a b : Int), acc = iL ss ∧ PotOk b ∧ ss.length = j ∧ (∀ s ∈ ss, 1 ≤ s ∧ s ≤ 1000) ∧ H = G.set p (potC a b) ++ [Cell.lst (rs.map rowL)]) ⟨[], a3, b3, rfl, o3, rfl, (fun _ h => nomatch h), rfl⟩ ?_ ?_
    · rintro j x acc H hx' ⟨ss, a, b, rfl, o, hj, hss, rfl⟩
      rw [rangeD_get] at hx'
      by_cases cj : j < d + 1
      · rw [if_pos cj] at hx'
        cases hx'
        simp -dsimp -implicitDefEqProofs [wipes]
        refine dig_to dk hp o (by omega) (by unfold Bg; omega) fun y a4 b4 o4 y0 y1 => ?_
        simp -dsimp -implicitDefEqProofs [wipes]
        refine ⟨ss ++ [1 + y], by unfold iL; rw [List.map_append]; rfl, a4, b4, o4, by rw [List.length_append, hj]; rfl, fun s hs => ?_, rfl⟩
        rcases List.mem_append.mp hs with h | h
        · exact hss s h
        · rw [List.mem_singleton.mp h]; omega
      · rw [if_neg cj] at hx'; cases hx'
    · rintro acc H ⟨ss, a, b, rfl, o, hj, hss, rfl⟩
      rw [rl] at hj
      simp -dsimp -implicitDefEqProofs [hq6]
      refine app_to (hq6 _ _ _) (wok_tree fun k => below_rowL k (u - 4, ss)) (by rw [List.length_map]; omega) ?_
      simp -dsimp -implicitDefEqProofs [hs6]
      refine ⟨rs ++ [(u - 4, ss)], a, b, o, by rw [List.length_append, hx]; rfl, fun v w h => ?_, rfl, by rw [List.map_append]; rfl⟩
      rcases List.mem_append.mp h with h | h
      · exact hr (v, w) h
      · have h := List.mem_singleton.mp h
        cases h
        exact ⟨by unfold W30; omega, by omega, by omega, hss⟩
  · rintro s H ⟨rs, a, b, x2, x3, o, hx, hr, rfl, rfl⟩
    simp -dsimp -implicitDefEqProofs
    refine dig_to dk hp o (by omega) (by unfold Bg; omega) fun u a2 b2 o2 u0 u1 => ?_
    simp -dsimp -implicitDefEqProofs
    refine dig_to dk hp o2 (by omega) (by unfold Bg; omega) fun v a3 b3 o3 v0 v1 => ?_
    simp -dsimp -implicitDefEqProofs
    refine dig_to dk hp o3 (by omega) (by unfold Bg; omega) fun w a4 b4 o4 w0 w1 => ?_
    have O : Lad.Ok ⟨u - 49, [1 + v, -1 - w], rs⟩ := ⟨by unfold W30; dsimp only; omega, by show 1 ≤ 2; omega, by show 2 ≤ 12; omega, fun q hq => by
      have hq : q ∈ [1 + v, -1 - w] := hq
      simp only [List.mem_cons, List.not_mem_nil, or_false] at hq
      rcases hq with rfl | rfl <;> omega, ⟨1 + v, [-1 - w], rfl, by omega⟩, by show rs.length ≤ 4; omega, hr⟩
    generalize hL : (⟨u - 49, [1 + v, -1 - w], rs⟩ : Lad) = l at O
    have e1 : u - 49 = l.b := by rw [← hL]
    have e2 : [D.int (1 + v), D.int (-1 - w)] = iL l.ps := by rw [← hL]; rfl
    have e3 : rs = l.rs := by rw [← hL]
    have ge : (G.set p (potC a4 b4) ++ [Cell.lst (rs.map rowL)]).length = G.length + 1 := by simp
    have ini : ∀ ms, call tab gl (n + 6) ms 23 [.ref (G.length + 1), .int l.b, .lst (iL l.ps), .ref G.length] (G.set p (potC a4 b4) ++ [Cell.lst (rs.map rowL), .ins 0 []]) = .ok .non (G.set p (potC a4 b4) ++ [Cell.lst (rs.map rowL), .ins 0 l.ds]) := fun ms => by
      have := init_run0 (n := n + 1) (ms := ms) (G := G.set p (potC a4 b4) ++ [Cell.lst (rs.map rowL)]) (R := .ref G.length) (qs := rs.map fun r => (r, rowL r)) la O (.inl rfl) EnumV.lst (.inr (.inr ⟨G.length, rfl, by rw [hq6, List.map_map]; rfl⟩)) (by rw [List.map_map, ← e3]; exact List.map_id' _) (fun q hq => by
        obtain ⟨r, hr, rfl⟩ := List.mem_map.mp hq
        exact ⟨.lst (iL r.2), .inr (.inl rfl), .inl rfl⟩)
      rw [ge] at this
      simpa using this
    have mad : madeD false (G.length + 1) (G.set p (potC a4 b4) ++ [Cell.lst (rs.map rowL), .ins 0 l.ds]) = .ok l.d (G.set p (potC a4 b4) ++ [Cell.lst (rs.map rowL)]) := by
      have := madeL (G := G.set p (potC a4 b4) ++ [Cell.lst (rs.map rowL)]) (l := l)
      rw [ge] at this
      simpa using this
    have bl := below_lad G.length l
    have fz : ∀ G m, frzD G m l.d = l.d := fun _ _ => rfl
    have tk : (G.set p (potC a4 b4) ++ [Cell.lst (rs.map rowL)]).take G.length = G.set p (potC a4 b4) := by
      rw [List.take_append_of_le_length (by rw [List.length_set]; exact Nat.le_refl _), List.take_of_length_le (by rw [List.length_set]; exact Nat.le_refl _)]
    have ini2 : ∀ ms, call tab gl (n + 6) ms 23 [.ref (G.length + 1), .int (u - 49), .lst [D.int (1 + v), D.int (-1 - w)], .ref G.length] (G.set p (potC a4 b4) ++ [Cell.lst (rs.map rowL), .ins 0 []]) = .ok .non (G.set p (potC a4 b4) ++ [Cell.lst (rs.map rowL), .ins 0 l.ds]) := fun ms => by
      rw [e1, e2]; exact ini ms
    simp -dsimp -implicitDefEqProofs [ini2, mad, fz, bl, tk]
    exact ⟨a4, b4, rfl, o4, l, rfl, O⟩

theorem put_bs2 (bs : List Br) (b : Br) : ∃ cs : List Br, putD (bs.map kvB) (bk b) (.bl true) = cs.map kvB ∧ (bs.Nodup → cs.Nodup) ∧ cs.length ≤ bs.length + 1 ∧ ∀ x ∈ cs, x ∈ bs ∨ x = b := by
  by_cases h : b ∈ bs
  · refine ⟨bs, ?_, fun h => h, by omega, fun x hx => .inl hx⟩
    unfold putD
    rw [if_pos (List.any_eq_true.mpr ⟨kvB b, List.mem_map.mpr ⟨b, h, rfl⟩, decide_eq_true rfl⟩), List.map_map]
    refine List.map_congr_left fun c _ => ?_
    show (if (kvB c).1 = bk b then ((kvB c).1, D.bl true) else kvB c) = kvB c
    split <;> rfl
  · refine ⟨bs ++ [b], put_bs h, fun hn => ?_, by rw [List.length_append]; exact Nat.le_refl _, fun x hx => ?_⟩
    · rw [List.nodup_append]
      refine ⟨hn, by simp, fun x hx y hy => ?_⟩
      rw [List.mem_singleton.mp hy]
      exact fun e => h (e ▸ hx)
    · rcases List.mem_append.mp hx with h | h
      · exact .inl h
      · exact .inr (List.mem_singleton.mp h)
theorem put_b {i : Nat} {m : List Nat} {s : PK.Env} {b : Br} (h : H[i]? = some (dtB bs)) (hl : bs.length < 1000000) : putV m (.ref i) (.tup [.int (b.1 : Nat), .int b.2]) (.bl true) s H = .nx s (H.set i (.dT (putD (bs.map kvB) (bk b) (.bl true)))) := by
  show cellK H[i]? _ _ _ _ _ = _
  rw [h]
  show putDT i m (bs.map kvB) (.tup [.int (b.1 : Nat), .int b.2]) (.bl true) s H = _
  unfold putDT
  dsimp only
  rw [keys_b]
  dsimp only
  rw [wok_tree (fun _ => rfl), List.length_map, decide_eq_true hl]; rfl
theorem bars_c (h : PotAt G p) {R : Nat} (hR : 0 < R) (hR2 : R ≤ 100) : Drawn (call tab gl (n + 2) ms 44 [.ref p, .int (R : Nat)] G) G p fun v => ∃ L : List Br, v = .lst (L.map bD) ∧ (L.Pairwise fun a b => ltB a b = true) ∧ L.length ≤ 8 ∧ ∀ b ∈ L, b.1 < R ∧ W40 b.2 := by
  apply Drawn.of
  refine call_to (show tab 44 = some f_law_bars from rfl) rfl ?_
  obtain ⟨a, b, o, hG⟩ := h.eq
  have hp := h.lt
  have hG2 : G ++ [Cell.dT []] = G.set p (potC a b) ++ [Cell.dT []] := by rw [← hG]
  have hl6 : ∀ a b : Int, (G.set p (potC a b)).length = G.length := fun a b => List.length_set
  have hq6 : ∀ a b : Int, ∀ c, (G.set p (potC a b) ++ [c])[G.length]? = some c := fun a b c => by
    rw [← hl6 a b]; exact hp_0
  have hs6 : ∀ a b : Int, ∀ c d, (G.set p (potC a b) ++ [c]).set G.length d = G.set p (potC a b) ++ [d] := fun a b c d => by
    rw [← hl6 a b, hp_s0]; rfl
  simp -dsimp -implicitDefEqProofs
  rw [hG2]
  refine dig_to dk hp o (by omega) (by unfold Bg; omega) fun c a1 b1 o1 c0 c1 => ?_
  obtain ⟨c, rfl⟩ : ∃ j : Nat, c = (j : Int) := ⟨c.toNat, by omega⟩
  have rr : ∀ G, itD .range1 [.int (c : Nat)] G = some (rangeD 0 c, none) := fun G => by
    rw [it_r1, if_pos (decide_eq_true (by omega)), show (((c : Nat) : Int)).toNat = c by omega]
  simp -dsimp -implicitDefEqProofs [rr, -it_r1]
  refine range0_to (fun i s H => ∃ (bs : List Br) (a b : Int) (x3 x4 x5 x6 : Option D), PotOk b ∧ bs.Nodup ∧ bs.length ≤ i ∧ (∀ b ∈ bs, b.1 < R ∧ W40 b.2) ∧ s = [some (.ref p), some (.int (R : Nat)), some (.ref G.length), x3, x4, x5, x6] ∧ H = G.set p (potC a b) ++ [dtB bs])
    ⟨[], a1, b1, none, none, none, none, o1, .nil, Nat.le_refl _, (fun _ h => nomatch h), rfl, rfl⟩ ?_ ?_
  · rintro i s H hi ⟨bs, a, b, x3, x4, x5, x6, o, hn, hbl, hbo, rfl, rfl⟩
    simp -dsimp -implicitDefEqProofs [-pv_ref]
    refine dig_to dk hp o (by omega) (by unfold Bg; omega) fun u a2 b2 o2 u0 u1 => ?_
    simp -dsimp -implicitDefEqProofs [↓pw40, ml40, -pv_ref]
    refine dig_to dk hp o2 (by omega) (by unfold Bg; omega) fun v a3 b3 o3 v0 v1 => ?_
    simp -dsimp -implicitDefEqProofs [↓pw40, -pv_ref]
    refine dig_to dk hp o3 (by omega) (by unfold Bg; omega) fun w a4 b4 o4 w0 w1 => ?_
    simp -dsimp -implicitDefEqProofs [-pv_ref]
    refine dig_to dk hp o4 (by omega) (by unfold Bg; omega) fun y a5 b5 o5 y0 y1 => ?_
    obtain ⟨x, hx, xw⟩ : ∃ x : Int, L2.atI [D.int (u - 11), .int (u - 11), .int (v - 10000000000000000000000000000000000000000 + 1), .int (9999999999999999999999999999999999999999 - if u - 11 < 0 then -(u - 11) else u - 11), .int ((if u - 11 < 0 then -(u - 11) else u - 11) - 10000000000000000000000000000000000000000 + 1)] y = some (.int x) ∧ W40 x := by
      have : y = 0 ∨ y = 1 ∨ y = 2 ∨ y = 3 ∨ y = 4 := by omega
      rcases this with rfl | rfl | rfl | rfl | rfl
      · exact ⟨_, rfl, by unfold W40; omega⟩
      · exact ⟨_, rfl, by unfold W40; omega⟩
      · exact ⟨_, rfl, by unfold W40; omega⟩
      · exact ⟨_, rfl, by unfold W40; split <;> omega⟩
      · exact ⟨_, rfl, by unfold W40; split <;> omega⟩
    obtain ⟨w, rfl⟩ : ∃ j : Nat, w = (j : Int) := ⟨w.toNat, by omega⟩
    obtain ⟨cs, k1, k2, k3, k4⟩ := put_bs2 bs (w, x)
    have pv : ∀ m s, putV m (.ref G.length) (.tup [.int (w : Nat), .int x]) (.bl true) s (G.set p (potC a5 b5) ++ [dtB bs]) = .nx s (G.set p (potC a5 b5) ++ [dtB cs]) := fun m s => by
      have := put_b (b := (w, x)) (m := m) (s := s) (hq6 a5 b5 (dtB bs)) (by omega)
      rw [k1, hs6] at this
      exact this
    simp -dsimp -implicitDefEqProofs [hx, pv, -pv_ref]
    refine ⟨cs, a5, b5, o5, k2 hn, by omega, fun u v h => ?_, rfl, rfl⟩
    rcases k4 (u, v) h with h | h
    · exact hbo (u, v) h
    · cases h; exact ⟨by omega, xw⟩
  · rintro s H ⟨bs, a, b, x3, x4, x5, x6, o, hn, hbl, hbo, rfl, rfl⟩
    have so := sort_bs (hq6 a b (dtB bs))
    have tk : (G.set p (potC a b) ++ [dtB bs]).take G.length = G.set p (potC a b) := by
      rw [List.take_append_of_le_length (by rw [List.length_set]; exact Nat.le_refl _), List.take_of_length_le (by rw [List.length_set]; exact Nat.le_refl _)]
    have bl : belows G.length ((sb bs).map bD) = true := belows_map (fun e => rfl) _
    simp -dsimp -implicitDefEqProofs [so, tk, bl]
    exact ⟨a, b, rfl, o, sb bs, rfl, sb_pw hn, by rw [sb_len]; omega, fun u v h => hbo (u, v) (sb_mem.mp h)⟩
end
end Tk64
namespace Tk64
open PK PySem LD PK.Lk TL
section
variable {n : Nat} {ms : List Nat} {G H : Hp} {z : Str} {l : Lad} {bs : List Br} {p q k : Nat}
theorem len_app (a b : Str) : (a ++ b).length = a.length + b.length := by rw [len_tl, tl_app, List.length_append, ← len_tl, ← len_tl]
theorem cut_le (z : Str) (a b : Option Int) : (L2.cutS z a b).length ≤ z.length := by
  rw [len_tl, len_tl z]
  show (((tl z).drop _).take _).length ≤ _
  rw [List.length_take, List.length_drop]
  omega
theorem lawtext_c {S : List Br} (ok : ∀ b ∈ S, b.1 ≤ 100 ∧ W40 b.2) (hl : S.length ≤ 20002) : call tab gl (n + 1) ms 45 [.lst (S.map bD)] G = .ok (.str (wrB S)) G := by
  apply PK.R.eq_of
  refine call_to (show tab 45 = some f_law_text from rfl) rfl ?_
  have it : ∀ G, itD .val [.lst (S.map bD)] G = some (S.map bD, none) := fun G => rfl
  have tx := text_g (f := 0) ok hl
  have hz : szOk S.length = true := decide_eq_true (by omega)
  simp -dsimp -implicitDefEqProofs [it, hz]
  refine compF_map_to (q := bD) (f := fun b => D.str (wrd b)) (l := S) (by rfl) (fun b hb => ?_) ?_
  · obtain ⟨h1, h2⟩ := ok b hb
    obtain ⟨w1, w2, w3⟩ := wrd_len h1 h2
    have s1 : strOkI (b.1 : Int) = true := str40 (w40n (by unfold W40; omega))
    have s2 : strOkI b.2 = true := str40 (w40n h2)
    have z1 : szOk ((nstr (b.1 : Int)).length + (Str.ofString "/").length) = true := decide_eq_true (by rw [show (Str.ofString "/").length = 1 by decide]; omega)
    have z2 : szOk ((nstr (b.1 : Int) ++ Str.ofString "/").length + (nstr b.2).length) = true := decide_eq_true (by rw [len_app, show (Str.ofString "/").length = 1 by decide]; omega)
    simp -dsimp -implicitDefEqProofs [wipes, bind_b', s1, s2, z1, z2]
    rfl
  · generalize (S.map fun b => D.str (wrd b)) = BB at *
    simp -dsimp -implicitDefEqProofs [tx]
def Txt1 (M : Nat) (v : D) : Prop := ∃ t : Str, v = .str t ∧ t.length ≤ M
theorem sign_c (h : PotAt G p) {t : Str} {M : Nat} (ht : t.length ≤ M) (hM : M ≤ 10000) : Drawn (call tab gl (n + 2) ms 46 [.ref p, .str t] G) G p (Txt1 (M + 1)) := by
  apply Drawn.of
  refine call_to (show tab 46 = some f_law_sign_spoilt from rfl) rfl ?_
  have hp := h.lt
  have lw : ∀ G, lenD G (.str t) = some t.length := fun G => by
    show (if t.length ≤ 1000000 then some t.length else none) = _
    rw [if_pos (by omega)]
  have sz : szOk t.length = true := decide_eq_true (by omega)
  simp -dsimp -implicitDefEqProofs [lw]
  refine dig_toA dk h (by omega) (by unfold Bg; omega) fun a a1 b1 o1 x0 x1 => ?_
  simp -dsimp -implicitDefEqProofs
  refine dig_to0 dk hp o1 (by omega) (by unfold Bg; omega) fun s a2 b2 o2 s0 s1 => ?_
  obtain ⟨c, hc⟩ : ∃ c : Nat, ∀ G, ixD (.str (Str.ofString "0123456789-/ +_.ab\n\t")) (.int s) G = .ok (.str ⟨#[c]⟩) G := by
    obtain ⟨s, rfl⟩ : ∃ j : Nat, s = (j : Int) := ⟨s.toNat, by omega⟩
    have hl : (Str.ofString "0123456789-/ +_.ab\n\t").cps.toList.length = 20 := by decide
    refine ⟨(Str.ofString "0123456789-/ +_.ab\n\t").cps.toList.getD s 0, fun G => ?_⟩
    have e : L2.atI (Str.ofString "0123456789-/ +_.ab\n\t").cps.toList (s : Int) = some ((Str.ofString "0123456789-/ +_.ab\n\t").cps.toList.getD s 0) := by
      unfold L2.atI L2.ixN
      rw [if_pos (by omega), if_pos (by rw [hl]; omega), List.getD_eq_getElem?_getD]
      show (Str.ofString "0123456789-/ +_.ab\n\t").cps.toList[s]? = _
      rw [List.getElem?_eq_getElem (by rw [hl]; omega)]; rfl
    show (if szOk (Str.ofString "0123456789-/ +_.ab\n\t").length then match L2.atI (Str.ofString "0123456789-/ +_.ab\n\t").cps.toList (s : Int) with | some c => PK.R.ok (.str ⟨#[c]⟩) G | none => .bad else .bad) = _
    rw [e, if_pos (by decide +kernel)]
  have k1 := cut_le t none (some a)
  have k2 := cut_le t (some a) none
  have k3 := cut_le t (some (a + 1)) none
  have one : (⟨#[c]⟩ : Str).length = 1 := rfl
  simp -dsimp -implicitDefEqProofs [hc]
  refine dig_to0 dk hp o2 (by omega) (by unfold Bg; omega) fun w a3 b3 o3 w0 w1 => ?_
  generalize hA : L2.cutS t none (some a) = A at *
  generalize hB : L2.cutS t (some a) none = B at *
  generalize hC : L2.cutS t (some (a + 1)) none = C at *
  generalize hcc : (⟨#[c]⟩ : Str) = cc at *
  have z1 : szOk (A.length + cc.length) = true := decide_eq_true (by omega)
  have z2 : szOk ((A ++ cc).length + B.length) = true := decide_eq_true (by rw [len_app]; omega)
  have z3 : szOk ((A ++ cc).length + C.length) = true := decide_eq_true (by rw [len_app]; omega)
  have z4 : szOk (A.length + C.length) = true := decide_eq_true (by omega)
  have sum1 : (tl t).length = t.length := (len_tl t).symm
  have tot : A.length + B.length = t.length ∧ A.length + C.length ≤ t.length := by
    obtain ⟨a, rfl⟩ : ∃ j : Nat, a = (j : Int) := ⟨a.toNat, by omega⟩
    have ea : A.length = a := by
      rw [← hA, len_tl, tl_cutB, List.length_take]; omega
    have eb : B.length = t.length - a := by
      rw [← hB, len_tl, tl_cutA, List.length_drop]; omega
    have ec : C.length = t.length - (a + 1) := by
      rw [← hC, len_tl, show ((a : Int) + 1) = ((a + 1 : Nat) : Int) by omega, tl_cutA, List.length_drop]; omega
    omega
  simp -dsimp -implicitDefEqProofs
  refine to_iteDO (fun c1 => ?_) (fun c1 => ?_)
  · simp -dsimp -implicitDefEqProofs [sz, hA, hB, z1, z2]
    exact ⟨a3, b3, rfl, o3, A ++ cc ++ B, rfl, by rw [len_app, len_app]; omega⟩
  · simp -dsimp -implicitDefEqProofs
    refine to_iteDO (fun c2 => ?_) (fun c2 => ?_)
    · simp -dsimp -implicitDefEqProofs [sz, hA, hC, z4]
      exact ⟨a3, b3, rfl, o3, A ++ C, rfl, by rw [len_app]; omega⟩
    · simp -dsimp -implicitDefEqProofs [sz, hA, hC, z1, z3]
      exact ⟨a3, b3, rfl, o3, A ++ cc ++ C, rfl, by rw [len_app, len_app]; omega⟩
theorem join_len (a : Str) (xs : List Str) : (Str.join sp (a :: xs)).length + 1 = ((a :: xs).map Str.length).sum + (a :: xs).length := by
  rw [len_tl, tl_join, List.map_cons, LD.joinL_cons, List.length_append]
  have : ∀ xs : List Str, (((xs.map tl).map fun x => tl sp ++ x).flatten).length = (xs.map Str.length).sum + xs.length := by
    intro xs
    induction xs with
    | nil => rfl
    | cons x xs ih =>
      rw [List.map_cons, List.map_cons, List.flatten_cons, List.length_append, ih, List.length_append, List.map_cons, List.sum_cons, List.length_cons, show tl sp = [32] by decide, len_tl x]
      simp
      omega
  rw [this xs, List.map_cons, List.sum_cons, List.length_cons, len_tl a]
  omega
theorem join_le (xs : List Str) : (Txt.join sp xs).length ≤ (xs.map Str.length).sum + xs.length := by
  rw [join_eq]
  cases xs with
  | nil => exact Nat.le_refl _
  | cons a xs => have := join_len a xs; omega
theorem join_g {xs : List Str} (h : (xs.map Str.length).sum + xs.length ≤ 1000000) (ms : List Nat) (G : Hp) : mtD .join false ms (.str (Str.ofString " ")) [.lst (xs.map D.str)] G = .ok (.str (Txt.join sp xs)) G := by
  show (match strsD (xs.map D.str) with | some ys => if decide ((ys.map Str.length).sum + ys.length * sp.length ≤ 1000000) then PK.R.ok (.str (Txt.join sp ys)) G else .bad | none => .bad) = _
  rw [LD.strsD_map]
  show (if decide ((xs.map Str.length).sum + xs.length * sp.length ≤ 1000000) = true then PK.R.ok (.str (Txt.join sp xs)) G else .bad) = _
  rw [decide_eq_true (by rw [show sp.length = 1 by decide]; omega)]; rfl
theorem split_sum (t : Str) : ((Txt.split t sp).map Str.length).sum + (Txt.split t sp).length = t.length + 1 ∧ 1 ≤ (Txt.split t sp).length := by
  have j := PySem.StrLaws.join_split t sp
  have p := PyProof.Rows.split_pos t sp
  cases q : Txt.split t sp with
  | nil => rw [q] at p; simp at p
  | cons a xs =>
    rw [q] at j p
    have := join_len a xs
    rw [j] at this
    exact ⟨this.symm, p⟩
theorem sum_take : ∀ (xs : List Nat) (k : Nat), (xs.take k).sum + (xs.drop k).sum = xs.sum
  | xs, 0 => by simp
  | [], k + 1 => by simp
  | x :: xs, k + 1 => by
    rw [List.take_succ_cons, List.drop_succ_cons, List.sum_cons, List.sum_cons]
    have := sum_take xs k
    omega
theorem mem_le : ∀ {xs : List Nat} {x : Nat}, x ∈ xs → x ≤ xs.sum
  | a :: xs, x, h => by
    rw [List.sum_cons]
    rcases List.mem_cons.mp h with rfl | h
    · omega
    · have := mem_le h; omega
theorem mul0 (d : Int) (h0 : 0 ≤ d) (h1 : d < 2) : (Txt.mul (Str.ofString "0") (40 + d)).length ≤ 41 := by
  have : d = 0 ∨ d = 1 := by omega
  rcases this with rfl | rfl <;> decide +kernel
theorem add_strs {X Y : List Str} (h : X.length + Y.length ≤ 100000) (G : Hp) : binD .add false (.lst (X.map D.str)) (.lst (Y.map D.str)) G = .ok (.lst ((X ++ Y).map D.str)) G := by
  rw [bd_addl, List.length_map, List.length_map, show szOk (X.length + Y.length) = true from decide_eq_true (by omega), List.map_append]; rfl
theorem spoilt_c (h : PotAt G p) {t : Str} {M R : Nat} (ht : t.length ≤ M) (hM : M ≤ 10000) (hR : R ≤ 100) : Drawn (call tab gl (n + 3) ms 47 [.ref p, .str t, .int (R : Nat)] G) G p (Txt1 (2 * M + 60)) := by
  apply Drawn.of
  refine call_to (show tab 47 = some f_law_spoilt from rfl) rfl ?_
  have hp := h.lt
  have spl : ∀ ms G, mtD .split false ms (.str t) [.str (Str.ofString " ")] G = .ok (.lst ((Txt.split t sp).map .str)) G := fun ms G => split_m (by decide) (by omega)
  obtain ⟨sm, p1⟩ := split_sum t
  generalize Txt.split t sp = W at *
  simp -dsimp -implicitDefEqProofs [spl, -mt_splitS]
  refine dig_toA dk h (by omega) (by unfold Bg; omega) fun x a1 b1 o1 x0 x1 => ?_
  simp -dsimp -implicitDefEqProofs [spl, -mt_splitS]
  refine dig_to0 dk hp o1 (by omega) (by unfold Bg; omega) fun a a2 b2 o2 a0 a1' => ?_
  obtain ⟨a, rfl⟩ : ∃ j : Nat, a = (j : Int) := ⟨a.toNat, by omega⟩
  have ha : a < W.length := by omega
  have t1 : cutD (W.map D.str) none (some (a : Int)) = (W.take a).map D.str := by rw [cut_take, List.map_take]
  have t2 : cutD (W.map D.str) (some (a : Int)) none = (W.drop a).map D.str := by rw [cut_lo (by rw [List.length_map]; omega), List.map_drop]
  have s1 := sum_take (W.map Str.length) a
  have l1 : (W.take a).length = a := by rw [List.length_take]; omega
  have l2 : (W.drop a).length = W.length - a := List.length_drop ..
  have wm : W[a].length ≤ (W.map Str.length).sum := mem_le (List.mem_map.mpr ⟨W[a], List.getElem_mem _, rfl⟩)
  have ixa : ∀ G, ixD (.lst (W.map D.str)) (.int (a : Nat)) G = .ok (.str W[a]) G := fun G => by
    rw [ix_lst, at_nat, List.getElem?_map, List.getElem?_eq_getElem ha]; rfl
  generalize hw : W[a] = w at *
  have m1 : (W.map Str.length).take a = (W.take a).map Str.length := List.map_take.symm
  have m2 : (W.map Str.length).drop a = (W.drop a).map Str.length := List.map_drop.symm
  rw [m1, m2] at s1
  generalize W.take a = A at *
  generalize W.drop a = B at *
  simp -dsimp -implicitDefEqProofs only [kt_nx, ex_seq, to_then]
  have lA : (A.map D.str).length = A.length := List.length_map ..
  have lB : (B.map D.str).length = B.length := List.length_map ..
  have pt : PotAt (G.set p (potC a2 b2)) p := ⟨a2, b2, List.getElem?_set_self hp, o2⟩
  have as1 : ∀ (w : Str) G, binD .add false (.lst (A.map D.str)) (.lst [.str w]) G = .ok (.lst ((A ++ [w]).map D.str)) G := fun w G => add_strs (Y := [w]) (by rw [List.length_singleton]; omega) G
  have as2 : ∀ (w : Str) G, binD .add false (.lst ((A ++ [w]).map D.str)) (.lst (B.map D.str)) G = .ok (.lst ((A ++ [w] ++ B).map D.str)) G := fun w G => add_strs (by rw [List.length_append, List.length_singleton]; omega) G
  have as3 : ∀ G, binD .add false (.lst (B.map D.str)) (.lst (A.map D.str)) G = .ok (.lst ((B ++ A).map D.str)) G := fun G => add_strs (by omega) G
  have jn : ∀ (w : Str), w.length ≤ t.length + 50 → (∀ ms G, mtD .join false ms (.str (Str.ofString " ")) [.lst ((A ++ [w]).map D.str)] G = .ok (.str (Txt.join sp (A ++ [w]))) G) ∧ (Txt.join sp (A ++ [w])).length ≤ 2 * M + 60 := fun w hw => by
    have su : ((A ++ [w]).map Str.length).sum = (A.map Str.length).sum + w.length := by rw [List.map_append, List.sum_append]; simp
    have le : (A ++ [w]).length = A.length + 1 := by rw [List.length_append, List.length_singleton]
    have k := join_le (A ++ [w])
    rw [su, le] at k
    exact ⟨fun ms G => join_g (by rw [su, le]; omega) ms G, by omega⟩
  simp -dsimp -implicitDefEqProofs
  refine to_iteDO (fun c1 => ?_) (fun c1 => ?_)
  · simp -dsimp -implicitDefEqProofs
    refine Drawn.then (sign_c (n := n) pt ht hM) ?_
    rintro v a3 b3 o3 ⟨s, rfl, hs⟩
    simp -dsimp -implicitDefEqProofs
    exact ⟨a3, b3, rfl, o3, s, rfl, by omega⟩
  simp -dsimp -implicitDefEqProofs
  refine to_iteDO (fun c2 => ?_) (fun c2 => ?_)
  · have su : ((A ++ [w] ++ B).map Str.length).sum = (A.map Str.length).sum + w.length + (B.map Str.length).sum := by
      rw [List.map_append, List.map_append, List.sum_append, List.sum_append]; simp
    have le : (A ++ [w] ++ B).length = A.length + 1 + B.length := by rw [List.length_append, List.length_append, List.length_singleton]
    have j := fun ms G => join_g (xs := A ++ [w] ++ B) (by rw [su, le]; omega) ms G
    have k := join_le (A ++ [w] ++ B)
    rw [su, le] at k
    have as1 := as1 w
    have as2 := as2 w
    generalize A ++ [w] ++ B = X at *
    generalize A ++ [w] = Y at *
    simp -dsimp -implicitDefEqProofs [t1, t2, ixa, as1, as2, j, -bd_addl]
    exact ⟨a2, b2, rfl, o2, _, rfl, by omega⟩
  simp -dsimp -implicitDefEqProofs
  refine to_iteDO (fun c3 => ?_) (fun c3 => ?_)
  · have su : ((B ++ A).map Str.length).sum = (B.map Str.length).sum + (A.map Str.length).sum := by
      rw [List.map_append, List.sum_append]
    have le : (B ++ A).length = B.length + A.length := List.length_append ..
    have j := fun ms G => join_g (xs := B ++ A) (by rw [su, le]; omega) ms G
    have k := join_le (B ++ A)
    rw [su, le] at k
    generalize B ++ A = X at *
    simp -dsimp -implicitDefEqProofs [t1, t2, as3, j, -bd_addl]
    exact ⟨a2, b2, rfl, o2, _, rfl, by omega⟩
  simp -dsimp -implicitDefEqProofs
  refine to_iteDO (fun c4 => ?_) (fun c4 => ?_)
  · simp -dsimp -implicitDefEqProofs [t1]
    refine dig_to0 dk hp o2 (by omega) (by unfold Bg; omega) fun d a3 b3 o3 d0 d1 => ?_
    have bz : (nstr ((R : Int) + d)).length ≤ 4 := nstr_len (k := 3) (by omega) (by omega)
    have s1 : strOkI ((R : Int) + d) = true := str40 (by omega)
    have z1 : szOk ((nstr ((R : Int) + d)).length + (Str.ofString "/0").length) = true := decide_eq_true (by rw [show (Str.ofString "/0").length = 2 by decide]; omega)
    have l9 : (nstr ((R : Int) + d) ++ Str.ofString "/0").length = (nstr ((R : Int) + d)).length + 2 := by rw [len_app]; rfl
    generalize hw9 : nstr ((R : Int) + d) ++ Str.ofString "/0" = w9 at *
    obtain ⟨j, k⟩ := jn w9 (by omega)
    have as1 := as1 w9
    generalize A ++ [w9] = X at *
    simp -dsimp -implicitDefEqProofs [t1, s1, z1, hw9, as1, j, -bd_addl]
    exact ⟨a3, b3, rfl, o3, _, rfl, by omega⟩
  · have z0 : szOk ((Str.ofString "0/").length + (Str.ofString "1").length) = true := by decide
    simp -dsimp -implicitDefEqProofs [t1, z0]
    refine dig_to0 dk hp o2 (by omega) (by unfold Bg; omega) fun d a3 b3 o3 d0 d1 => ?_
    have m := mul0 d d0 d1
    have bm : ∀ G, binD .mul false (.str (Str.ofString "0")) (.int (40 + d)) G = .ok (.str (Txt.mul (Str.ofString "0") (40 + d))) G := fun G => by
      show (if (decide (0 ≤ 40 + d ∧ 40 + d ≤ 1000) && decide ((Str.ofString "0").length ≤ 1000)) = true then _ else _) = _
      rw [decide_eq_true (show 0 ≤ 40 + d ∧ 40 + d ≤ 1000 by omega), decide_eq_true (show (Str.ofString "0").length ≤ 1000 by decide)]; rfl
    generalize Txt.mul (Str.ofString "0") (40 + d) = u at *
    have lx : (Str.ofString "0/" ++ Str.ofString "1").length = 3 := by decide +kernel
    generalize hx : Str.ofString "0/" ++ Str.ofString "1" = X0 at *
    have z1 : szOk (X0.length + u.length) = true := decide_eq_true (by omega)
    have l9 : (X0 ++ u).length = X0.length + u.length := len_app ..
    generalize hw9 : X0 ++ u = w9 at *
    obtain ⟨j, k⟩ := jn w9 (by omega)
    have as1 := as1 w9
    generalize A ++ [w9] = X at *
    simp -dsimp -implicitDefEqProofs [t1, bm, hx, z1, hw9, as1, j, -bd_addl]
    exact ⟨a3, b3, rfl, o3, _, rfl, by omega⟩
end
end Tk64
namespace Tk64
open PK PySem LD PK.Lk TL
section
variable {n : Nat} {ms : List Nat} {G H : Hp} {p q : Nat} {l : Lad} {bs : List Br}
abbrev things : List D := [.non, .int 0, .bl true, .lst [], .lst [.str (Str.ofString "0/0")], .tup [.str (Str.ofString "0/0")], .ref 0, .int 7]
def Hp0 (H : Hp) : Prop := ∃ c, H[0]? = some (.dK c)
theorem Hp0.more (h : Hp0 H) (X : Hp) : Hp0 (H ++ X) := by
  obtain ⟨c, e⟩ := h
  exact ⟨c, hp_in e⟩
theorem Hp0.pot (h : Hp0 H) (k : PotAt H p) (a b : Int) : Hp0 (H.set p (potC a b)) := by
  obtain ⟨c, e⟩ := h
  obtain ⟨a', b', e', _⟩ := k
  have : p ≠ 0 := fun z => by subst z; rw [e] at e'; cases e'
  exact ⟨c, by rw [List.getElem?_set_ne this]; exact e⟩
theorem Hp0.odd (h : Hp0 H) : ∀ x ∈ things, typed H x = true ∧ isTy H x .str = false := by
  obtain ⟨c, e⟩ := h
  intro x hx
  simp only [things, List.mem_cons, List.not_mem_nil, or_false] at hx
  rcases hx with rfl | rfl | rfl | rfl | rfl | rfl | rfl | rfl <;> first | exact ⟨rfl, rfl⟩ | exact ⟨by unfold typed; dsimp only; rw [e], rfl⟩
theorem pot_now (k : PotAt H p) {a b : Int} (o : PotOk b) : PotAt (H.set p (potC a b)) p := ⟨a, b, List.getElem?_set_self k.lt, o⟩
theorem pot_more (k : PotAt H p) (X : Hp) : PotAt (H ++ X) p := by
  obtain ⟨a, b, e, o⟩ := k
  exact ⟨a, b, hp_in e, o⟩
def TInv (ns : List Int) (s : PK.Env) (H : Hp) : Prop := Hp0 H ∧ ∃ x2 x3 x4 x5 x6 x7 x8 x9 x10 x11 x12 : Option D, s = [some (.fz (ns.map .int)), some (.lst things), x2, x3, x4, x5, x6, x7, x8, x9, x10, x11, x12]
def SInv (ns : List Int) (i p : Nat) (l : Lad) (L : List Br) (H3 : Hp) (j : Nat) (s : PK.Env) (H : Hp) : Prop := H = lkC l H3 (L.reverse.take j) ∧ ∃ x7 x8 x9 x10 x11 x12 : Option D, s = [some (.fz (ns.map .int)), some (.lst things), some (.int (i : Nat)), some (.ref p), some l.d, some (.lst (L.map bD)), some (.ref H3.length), x7, x8, x9, x10, x11, x12]
def JInv (ns : List Int) (i p q : Nat) (l : Lad) (L : List Br) (s : PK.Env) (H : Hp) : Prop := Hp0 H ∧ PotAt H p ∧ ∃ x7 x8 x10 x11 x12 : Option D, s = [some (.fz (ns.map .int)), some (.lst things), some (.int (i : Nat)), some (.ref p), some l.d, some (.lst (L.map bD)), some (.ref q), x7, x8, some (.str (wrB L)), x10, x11, x12]
def mx : Nat → Nat | 0 => 400 | k + 1 => 2 * mx k + 60
def KInv (ns : List Int) (i p q : Nat) (l : Lad) (L : List Br) (k : Nat) (s : PK.Env) (H : Hp) : Prop := Hp0 H ∧ PotAt H p ∧ ∃ (t : Str) (x7 x8 x10 x12 : Option D), t.length ≤ mx k ∧ s = [some (.fz (ns.map .int)), some (.lst things), some (.int (i : Nat)), some (.ref p), some l.d, some (.lst (L.map bD)), some (.ref q), x7, x8, some (.str (wrB L)), x10, some (.str t), x12]
theorem wrB_len {S : List Br} (ok : ∀ b ∈ S, b.1 ≤ 100 ∧ W40 b.2) (hl : S.length ≤ 8) : (wrB S).length ≤ 400 := by
  have a := join_le (S.map wrd)
  have b := sum_wrd ok
  rw [List.length_map] at a
  unfold wrB
  omega
theorem plain (ns : List Int) (hl : ns.length ≤ 63) (_ : ∀ z ∈ ns, PySem.Builtin.Int.intBits z ≤ 1048576) : ∃ G', PK.call tab gl 20 [] 52 [.fz (ns.map .int)] [] = .ok (.bl true) G' := by
  suffices h : R.to (PK.call tab gl 20 [] 52 [.fz (ns.map .int)] []) (Rs.ok fun v _ => v = .bl true) by
    obtain ⟨v, G, e, rfl⟩ := R.ex_of h
    exact ⟨G, e⟩
  refine call_to (show tab 52 = some f_law from rfl) rfl ?_
  obtain ⟨N, hN, hN10⟩ : ∃ N : Nat, (if (if (10 : Int) < (ns.length : Int) then (10 : Int) else (ns.length : Int)) > 1 then (if (10 : Int) < (ns.length : Int) then (10 : Int) else (ns.length : Int)) else 1) = (N : Int) ∧ N ≤ 10 := by
    by_cases c : (10 : Int) < (ns.length : Int)
    · exact ⟨10, by rw [if_pos c]; rfl, by omega⟩
    · rw [if_neg c]
      by_cases d : (ns.length : Int) > 1
      · exact ⟨ns.length, by rw [if_pos d], by omega⟩
      · exact ⟨1, by rw [if_neg d]; rfl, by omega⟩
  have d1 : ∀ s : PK.Env, pairsL (.cons (.c (.str (Str.ofString "0/0"))) (.cons (.c (.bl true)) .nil)) s = some [(.str (Str.ofString "0/0"), .bl true)] := fun s => rfl
  have d2 : dlitD [(.str (Str.ofString "0/0"), .bl true)] [] = .ok (.ref 0) [.dK [(.inr (Str.ofString "0/0"), .bl true)]] := rfl
  simp -dsimp -implicitDefEqProofs only [ex_seq, to_then]
  refine to_mid (fun s H => TInv ns s H) ?_ ?_
  · simp -dsimp -implicitDefEqProofs [d1, d2]
    exact ⟨⟨_, rfl⟩, _, _, _, _, _, _, _, _, _, _, _, rfl⟩
  rintro _ H ⟨T0, x2, x3, x4, x5, x6, x7, x8, x9, x10, x11, x12, rfl⟩
  have rr : ∀ G, itD .range1 [.int (N : Nat)] G = some (rangeD 0 N, none) := fun G => by
    rw [it_r1, if_pos (decide_eq_true (by omega)), show (((N : Nat) : Int)).toNat = N by omega]
  have lF : ∀ G, biD .len false [.fz (ns.map D.int)] G = .ok (.int (ns.length : Nat)) G := fun G => by
    rw [show biD .len false [.fz (ns.map D.int)] G = _ from rfl]
    simp -dsimp -implicitDefEqProofs
  simp -dsimp -implicitDefEqProofs only [kt_nx, ex_seq, to_then]
  simp -dsimp -implicitDefEqProofs [rr, hN, -it_r1]
  refine range0_to (fun i s H => TInv ns s H) ⟨T0, _, _, _, _, _, _, _, _, _, _, _, rfl⟩ ?_ ?_
  · clear T0 H
    rintro i s H hi ⟨T0, x2, x3, x4, x5, x6, x7, x8, x9, x10, x11, x12, rfl⟩
    obtain ⟨a, b, hb, e1⟩ := potK_g (n := 18) (ms := [0]) (G := H) dk ns hl i (by omega)
    have e1 : call tab gl 19 [0] 41 [.fz (ns.map .int), .int (i : Nat)] H = .ok (.ref H.length) (H ++ [potC a b]) := e1
    have T1 := T0.more [potC a b]
    have P1 : PotAt (H ++ [potC a b]) H.length := ⟨a, b, by rw [hp_0]; rfl, hb⟩
    simp -dsimp -implicitDefEqProofs [e1]
    clear e1 T0
    generalize H ++ [potC a b] = H1 at *
    generalize H.length = p at *
    clear e1
    refine Drawn.then (ladder_c (n := 12) P1 (fun k hk => by rw [List.mem_singleton.mp hk]; exact Nat.zero_le _)) ?_
    rintro _ a1 b1 o1 ⟨l, rfl, O⟩
    have T2 := T1.pot P1 a1 b1
    have P2 := pot_now (a := a1) P1 o1
    generalize H1.set p (potC a1 b1) = H2 at *
    have ro : ∀ ms (H : Hp), call tab gl 19 ms 27 [l.d] H = .ok (.int ((l.rs.length : Nat) + 1)) H := fun ms H => rollsK_run (n := 18) rok
    have cl : ∀ G, clsD G l.d = some 0 := fun G => rfl
    have r4 := O.r4
    have Rc : (((l.rs.length : Nat) : Int) + 1) = ((l.rs.length + 1 : Nat) : Int) := by omega
    simp -dsimp -implicitDefEqProofs [ro, cl]
    rw [Rc]
    refine Drawn.then (bars_c (n := 17) P2 (R := l.rs.length + 1) (by omega) (by omega)) ?_
    rintro _ a2 b2 o2 ⟨L, rfl, Lp, Ll, Lo⟩
    have T3 := T2.pot P2 a2 b2
    have P3 := pot_now (a := a2) P2 o2
    generalize H2.set p (potC a2 b2) = H3 at *
    clear T1 P1 T2 P2
    have mk : ∀ {X : Hp}, Mk [0] X := fun k hk => by rw [List.mem_singleton.mp hk]; exact Nat.zero_le _
    have in2 : call tab gl 19 [0] 1 [.ref H3.length, l.d] (H3 ++ [.ins 1 []]) = .ok .non (lkC l H3 []) := initK (n := 18) (ms := [0]) (G := H3) mk
    simp -dsimp -implicitDefEqProofs [in2]
    have itv : itD .rev [.lst (L.map bD)] (lkC l H3 []) = some (L.reverse.map bD, none) := by
      show some ((L.map bD).reverse, none) = _
      rw [List.map_reverse]
    have nd : L.Nodup := pw_nodup Lp
    have ndr : L.reverse.Nodup := List.pairwise_reverse.mpr (nd.imp fun h => h.symm)
    rw [itv]
    simp -dsimp -implicitDefEqProofs [-List.map_reverse]
    refine forM_to (q := bD) (fun j s H => SInv ns i p l L H3 j s H) ⟨rfl, _, _, _, _, _, _, rfl⟩ ?_ ?_
    · rintro j u s H hu ⟨rfl, x7, x8, x9, x10, x11, x12, rfl⟩
      refine ⟨_, bind_b', ?_⟩
      have hj : j < L.reverse.length := (List.getElem?_eq_some_iff.mp hu).1
      have hm : u ∈ L := List.mem_reverse.mp (List.mem_of_getElem? hu)
      have tk : L.reverse.take (j + 1) = L.reverse.take j ++ [u] := by rw [List.take_succ, hu]; rfl
      have hn : u ∉ L.reverse.take j := fun h => by
        have nd2 : (L.reverse.take (j + 1)).Nodup := List.Nodup.sublist (List.take_sublist ..) ndr
        rw [tk, List.nodup_append] at nd2
        exact nd2.2.2 u h u List.mem_cons_self rfl
      have hb := Lo u hm
      have LA := lkC_at (l := l) (G := H3) (L.reverse.take j)
      have sh : call tab gl 19 [0] 3 [.ref H3.length, .int (u.1 : Nat), .int u.2] (lkC l H3 (L.reverse.take j)) = .ok .non (lkC l H3 (L.reverse.take (j + 1))) := by
        have := shut_run (n := 13) (ms := [0]) (b := u) lok jj la O LA ⟨by omega, hb.2⟩ hn (by rw [List.length_take, List.length_reverse]; omega)
        rw [lkC_set, ← tk] at this
        exact this
      have cl1 := cls_1 LA
      simp -dsimp -implicitDefEqProofs [cl1, sh]
      exact ⟨rfl, _, _, _, _, _, _, rfl⟩
    · rintro s H ⟨rfl, x7, x8, x9, x10, x11, x12, rfl⟩
      rw [List.take_length]
      have ok1 : ∀ b ∈ L, b.1 ≤ 100 ∧ W40 b.2 := fun b hb => ⟨by have := (Lo b hb).1; omega, (Lo b hb).2⟩
      have LA := lkC_at (l := l) (G := H3) L.reverse
      have wr : ∀ ms, call tab gl 19 ms 9 [.ref H3.length] (lkC l H3 L.reverse) = .ok (.str (wrB L)) (lkC l H3 L.reverse) := fun ms => by
        have := written_c (n := 17) (ms := ms) LA (fun b hb => ok1 b (List.mem_reverse.mp hb)) (by rw [List.length_reverse]; omega)
        rw [sb_of Lp ndr (fun x => List.mem_reverse)] at this
        exact this
      have lw : ∀ ms G, call tab gl 19 ms 45 [.lst (L.map bD)] G = .ok (.str (wrB L)) G := fun ms G => lawtext_c (n := 18) ok1 (by omega)
      have wl := wrB_len ok1 Ll
      have rw1 : readL ((l.rs.length : Nat) + 1) (wrB L) = some L := read_wr Lp fun b hb => ⟨by have := (Lo b hb).1; omega, (Lo b hb).2, (ok1 b hb).1⟩
      have cl1 := cls_1 LA
      have T4 : Hp0 (lkC l H3 L.reverse) := T3.more _
      have P4 : PotAt (lkC l H3 L.reverse) p := pot_more P3 _
      simp -dsimp -implicitDefEqProofs [cl1, wr]
      clear LA cl1 wr in2
      generalize hH4 : lkC l H3 L.reverse = H4 at *
      have td : call tab gl 19 [0] 50 [l.d, .str (wrB L)] H4 = .ok (.ref H4.length) (lkC l H4 L) := told_some (n := 11) O mk (by omega) rw1
      have LB := lkC_at (l := l) (G := H4) L
      have wr2 : ∀ ms, call tab gl 19 ms 9 [.ref H4.length] (lkC l H4 L) = .ok (.str (wrB L)) (lkC l H4 L) := fun ms => by
        have := written_c (n := 17) (ms := ms) LB ok1 (by omega)
        rw [sb_self Lp] at this
        exact this
      have cl2 := cls_1 LB
      have T5 : Hp0 (lkC l H4 L) := T4.more _
      have P5 : PotAt (lkC l H4 L) p := pot_more P4 _
      simp -dsimp -implicitDefEqProofs [lw, td, cl2, wr2]
      clear td LB wr2 cl2
      generalize lkC l H4 L = H5 at *
      clear hH4 T4 P4 H4
      refine range0_to (fun _ s H => JInv ns i p H3.length l L s H) ⟨T5, P5, _, _, _, _, _, rfl⟩ ?_ ?_
      · clear T5 P5 H5
        rintro j s H hj ⟨T, P, x7, x8, x10, x11, x12, rfl⟩
        simp -dsimp -implicitDefEqProofs only [kt_nx, ex_seq, to_then]
        refine to_mid (fun s H => KInv ns i p H3.length l L 0 s H) ?_ ?_
        · simp -dsimp -implicitDefEqProofs
          exact ⟨T, P, _, _, _, _, _, wl, rfl⟩
        clear T P
        rintro s H ⟨T, P, t, x7, x8, x10, x12, ht, rfl⟩
        simp -dsimp -implicitDefEqProofs only [kt_nx, ex_seq, to_then]
        refine to_mid (fun s H => ∃ k, k ≤ 3 ∧ KInv ns i p H3.length l L k s H) ?_ ?_
        · simp -dsimp -implicitDefEqProofs
          refine dig_toA dk P (by omega) (by unfold Bg; omega) fun c a3 b3 o3 c0 c1 => ?_
          obtain ⟨c, rfl⟩ : ∃ j : Nat, c = (j : Int) := ⟨c.toNat, by omega⟩
          have T2 := T.pot P a3 b3
          have P2 := pot_now (a := a3) P o3
          generalize H.set p (potC a3 b3) = H2 at *
          have rc : ∀ G, itD .range1 [.int (1 + (c : Nat))] G = some (rangeD 0 (c + 1), none) := fun G => by
            rw [it_r1, if_pos (decide_eq_true (by omega)), show ((1 + ((c : Nat) : Int))).toNat = c + 1 by omega]
          simp -dsimp -implicitDefEqProofs [rc, -it_r1]
          refine range0_to (fun k s H => KInv ns i p H3.length l L k s H) ⟨T2, P2, _, _, _, _, _, ht, rfl⟩ ?_ ?_
          · clear T P T2 P2 ht
            rintro k s H hk ⟨T, P, t, x7, x8, x10, x12, ht, rfl⟩
            have hm : mx k ≤ 10000 := by
              have : k = 0 ∨ k = 1 ∨ k = 2 := by omega
              rcases this with rfl | rfl | rfl <;> decide
            simp -dsimp -implicitDefEqProofs [ro, cl]
            rw [Rc]
            refine Drawn.then (spoilt_c (n := 16) (ms := [0]) P (R := l.rs.length + 1) ht hm (by omega)) ?_
            rintro _ a4 b4 o4 ⟨t', rfl, ht'⟩
            simp -dsimp -implicitDefEqProofs
            exact ⟨T.pot P a4 b4, pot_now P o4, _, _, _, _, _, ht', rfl⟩
          · rintro s H h
            exact ⟨c + 1, by omega, h⟩
        · clear T P ht
          rintro s H ⟨k, hk, T, P, t, x7, x8, x10, x12, ht, rfl⟩
          have hm : mx k ≤ 10000 := by
            have : k = 0 ∨ k = 1 ∨ k = 2 ∨ k = 3 := by omega
            rcases this with rfl | rfl | rfl | rfl <;> decide
          have ag : call tab gl 19 [0] 51 [l.d, .str t] H = .ok (.bl true) H := agrees_c (n := 9) O mk (by omega)
          have ag2 : call tab gl 19 [0] 51 [l.d, .str (wrB L)] H = .ok (.bl true) H := agrees_c (n := 9) O mk (by omega)
          simp -dsimp -implicitDefEqProofs [ag, ag2]
          exact ⟨T, P, _, _, _, _, _, rfl⟩
      · clear T5 P5 H5
        rintro s H ⟨T, P, x7, x8, x10, x11, x12, rfl⟩
        simp -dsimp -implicitDefEqProofs
        refine dig_toA dk P (by omega) (by unfold Bg; omega) fun c a3 b3 o3 c0 c1 => ?_
        obtain ⟨c, rfl⟩ : ∃ j : Nat, c = (j : Int) := ⟨c.toNat, by omega⟩
        have T2 := T.pot P a3 b3
        have P2 := pot_now (a := a3) P o3
        generalize H.set p (potC a3 b3) = H2 at *
        have hc : c < things.length := by show c < 8; omega
        have hx := List.getElem_mem hc
        have hg := List.getElem?_eq_getElem hc
        generalize things[c] = x at *
        obtain ⟨x1, x2⟩ := T2.odd x hx
        have te : call tab gl 19 [0] 50 [l.d, x] H2 = .ok .non H2 := told_exc (n := 11) x fun ms => read_odd (n := 11) x1 x2
        generalize hth : things = th at *
        simp -dsimp -implicitDefEqProofs [at_nat, hg, te]
        rw [← hth]
        exact ⟨T2, _, _, _, _, _, _, _, _, _, _, _, rfl⟩
  · rintro s H ⟨T0, x2, x3, x4, x5, x6, x7, x8, x9, x10, x11, x12, rfl⟩
    simp -dsimp -implicitDefEqProofs
theorem done : PySem.Challenge.rw_peakroll_k64_locks_text.Holds := holds plain
end
end Tk64
theorem PySem.Challenge.cw_peakroll_k64_locks_text_holds : PySem.Challenge.rw_peakroll_k64_locks_text.Holds := by
  exact Tk64.done
