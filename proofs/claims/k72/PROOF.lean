import PyProof.Rows.All
import Wide.All
import OpenK.AllK
import Wide.FinOn
import HandS.ForMost
import KE.SortData
import PyProof.StrBlock2
import HandS.Wide
import HandS.WideBits
import HandS.TupAny
import HandS.Style
import HandS.IsInst
import HandS.SortInts
import HandS.Codes
import HandS.RaiseMore
import KE.KDictWalk
import KE.KDictList
import KE.KEqDict
import HandS.DictEq
import HandS.DictTup
import HandS.More
import KE.KDictCopyH
import HandS.TupLen
import HandS.Conv
import HandS.WordsDict
import PyProof.Rows.SumAny
import HandS.List
import KE.KDictSum
import KE.KDictOf
import PyProof.DictMoreH
import KE.KSortedM
import PyProof.ReprLen
import PyProof.ReprRoads
import HandS.Text
import HandS.HeadWalk
import HandS.ExcCtx
import HandS.EndBits
import HandS.HeadEnd
import HandS.Exc
import HandS.ExcOwn
import HandS.SetKeys
import HandS.Small
import HandS.Zip
import HandS.Iter
import HandS.TryOnly
import PyProof.ExcBaseAll.ValueError
import HandS.Base
import HandS.Call
import PyProof.LongRange
import PyProof.WalksT
import KE.GoesMore
import KE.GoesComp
import KE.GoesRaise
import HandS.Comp
import HandS.ExcIs
import HandS.HotCalls
import HandS.SuiteRaise
import KE.KMinKey
import HandS.TupLe
import HandS.SortKw
import KE.SortKeyHeap
import HandS.Rev
import PyProof.Rows.SetFrom
import PyProof.SetRoads
import HandS.Dict
import HandS.Defaults
import HandS.Head0
import HandS.Head1
import HandS.Head2
import HandS.HeadHook1
import HandS.HeadHook2
import KE.KStateDown
import KE.IntTextLaws
import PyProof.StrLawsRepr
import PySem.Challenge.RW_peakroll_k72_none_where_none
set_option Elab.async false
set_option linter.all false
set_option maxRecDepth 100000
set_option maxHeartbeats 0
set_option exponentiation.threshold 3000
namespace PK
open PySem


inductive D where
  | non | bl (b : Bool) | int (i : Int) | str (s : Str)
  | tup (ds : List D) | lst (ds : List D) | fz (ds : List D)
  | ref (i : Nat) | ins (c : Nat) (ds : List D) | exc (c : Nat)
deriving Inhabited

mutual
def D.beq : D → D → Bool
  | .non, .non => true
  | .bl a, .bl b => a == b
  | .int a, .int b => a == b
  | .str a, .str b => decide (a = b)
  | .tup a, .tup b => D.beqs a b
  | .lst a, .lst b => D.beqs a b
  | .fz a, .fz b => D.beqs a b
  | .ref a, .ref b => a == b
  | .ins c a, .ins d b => c == d && D.beqs a b
  | .exc a, .exc b => a == b
  | _, _ => false
def D.beqs : List D → List D → Bool
  | [], [] => true
  | a :: as, b :: bs => D.beq a b && D.beqs as bs
  | _, _ => false
end
mutual
theorem D.beq_self : ∀ a : D, D.beq a a = true
  | .non => rfl
  | .bl a => by simp [D.beq]
  | .int a => by simp [D.beq]
  | .str a => by simp [D.beq]
  | .tup a => by simp [D.beq, D.beqs_self a]
  | .lst a => by simp [D.beq, D.beqs_self a]
  | .fz a => by simp [D.beq, D.beqs_self a]
  | .ref a => by simp [D.beq]
  | .ins c a => by simp [D.beq, D.beqs_self a]
  | .exc a => by simp [D.beq]
theorem D.beqs_self : ∀ a : List D, D.beqs a a = true
  | [] => rfl
  | a :: as => by simp [D.beqs, D.beq_self a, D.beqs_self as]
end
mutual
theorem D.beq_eq : ∀ a b : D, D.beq a b = true → a = b := fun a b h => by
  cases a <;> cases b <;> simp [D.beq] at h <;> first
    | rfl
    | (subst h; rfl)
    | exact congrArg _ (D.beqs_eq _ _ h)
    | (obtain ⟨rfl, h⟩ := h; exact congrArg _ (D.beqs_eq _ _ h))
theorem D.beqs_eq : ∀ a b : List D, D.beqs a b = true → a = b
  | [], [], _ => rfl
  | a :: as, b :: bs, h => by
    simp [D.beqs] at h
    rw [D.beq_eq a b h.1, D.beqs_eq as bs h.2]
  | [], _ :: _, h => by simp [D.beqs] at h
  | _ :: _, [], h => by simp [D.beqs] at h
end
instance : DecidableEq D := fun a b => if h : D.beq a b = true then .isTrue (D.beq_eq a b h) else .isFalse fun e => h (e ▸ D.beq_self a)

inductive Cell where
  | lst (ds : List D) | dK (kvs : List (L2.Key × D)) | dT (kvs : List (List L2.Key × D)) | ins (c : Nat) (ds : List D)
  /-- a dict that is walked: read, not written -/
  | frK (kvs : List (L2.Key × D))
deriving DecidableEq, Inhabited
abbrev Hp := List Cell
abbrev Env := List (Option D)

inductive R where
  | ok (v : D) (G : Hp) | exc (c : Nat) (G : Hp) | bad
inductive O where
  | nx (s : Env) (G : Hp) | ret (v : D) (G : Hp) | brk (s : Env) (G : Hp) | cnt (s : Env) (G : Hp) | exc (c : Nat) (s : Env) (G : Hp) | bad
inductive Tag {α : Sort u} (f : α) : Type | mk
section
variable {α β : Type}
def R.bind (r : R) (f : D → Hp → R) (_t : Tag f := .mk) : R := match r with
  | .ok v G => f v G
  | .exc c G => .exc c G
  | .bad => .bad
def R.st (s : Env) (r : R) (f : D → Hp → O) (_t : Tag f := .mk) : O := match r with
  | .ok v G => f v G
  | .exc c G => .exc c s G
  | .bad => .bad
def O.then (o : O) (f : Env → Hp → O) (_t : Tag f := .mk) : O := match o with
  | .nx s G => f s G
  | .ret v G => .ret v G
  | .brk s G => .brk s G
  | .cnt s G => .cnt s G
  | .exc c s G => .exc c s G
  | .bad => .bad
def O.turn (o : O) (f : Env → Hp → O) (_t : Tag f := .mk) : O := match o with
  | .nx s G => f s G
  | .cnt s G => f s G
  | .brk s G => .nx s G
  | .ret v G => .ret v G
  | .exc c s G => .exc c s G
  | .bad => .bad
def O.thru (o : O) : O := match o with
  | .exc _ _ _ => .bad
  | .nx s G => .nx s G
  | .ret v G => .ret v G
  | .brk s G => .brk s G
  | .cnt s G => .cnt s G
  | .bad => .bad
def R.safe (r : R) : R := match r with
  | .ok v G => .ok v G
  | .exc _ _ => .bad
  | .bad => .bad
def O.catch (o : O) (f : Nat → Env → Hp → O) (_t : Tag f := .mk) : O := match o with
  | .exc c s G => f c s G
  | .nx s G => .nx s G
  | .ret v G => .ret v G
  | .brk s G => .brk s G
  | .cnt s G => .cnt s G
  | .bad => .bad
def wipeO (n : Option Nat) (s : Env) : Env := match n with
  | none => s
  | some i => s.set i none
def O.clr (n : Option Nat) (o : O) : O := match o with
  | .exc _ _ _ => .bad
  | .nx s G => .nx (wipeO n s) G
  | .ret v G => .ret v G
  | .brk s G => .brk (wipeO n s) G
  | .cnt s G => .cnt (wipeO n s) G
  | .bad => .bad
def iteK (c : Bool) (a b : Unit → α) (_t : Tag a := .mk) (_u : Tag b := .mk) : α := match c with
  | true => a ()
  | false => b ()
def optK (o : Option β) (f : β → α) (d : α) (_t : Tag f := .mk) : α := match o with
  | some x => f x
  | none => d
def tupK (x : D) (f : List D → α) (d : α) (_t : Tag f := .mk) : α := match x with
  | .tup ds => f ds
  | _ => d
def blK (x : D) (f : Bool → α) (d : α) (_t : Tag f := .mk) : α := match x with
  | .bl b => f b
  | _ => d
end

section
variable {α : Type}
def cellK (c : Option Cell) (f : List D → α) (g : List (L2.Key × D) → α) (h : List (List L2.Key × D) → α) (k : Nat → List D → α) (d : α) (_a : Tag f := .mk) (_b : Tag g := .mk) (_c : Tag h := .mk) (_d : Tag k := .mk) : α := match c with
  | some (.lst ds) => f ds
  | some (.dK kvs) => g kvs
  | some (.dT kvs) => h kvs
  | some (.ins c ds) => k c ds
  | some (.frK _) => d
  | none => d
end

mutual
def below (m : Nat) : D → Bool
  | .tup ds => belows m ds
  | .lst ds => belows m ds
  | .fz ds => belows m ds
  | .ins _ ds => belows m ds
  | .ref i => decide (i < m)
  | _ => true
def belows (m : Nat) : List D → Bool
  | [] => true
  | d :: ds => below m d && belows m ds
end
def wok (p : Nat) (m : List Nat) (v : D) : Bool := m.all fun k => below k v || decide (k ≤ p)


inductive Bo where | add | sub | mul | fdiv | mod | pow
deriving DecidableEq
inductive Co where | eq | ne | lt | le | gt | ge | isin | notin | is_ | isnot | inp | notinp
deriving DecidableEq
inductive Bi where
  | abs | len | int | str | repr | sum | min1 | max1 | min2 | max2 | all | any | divmod | tuple | list | sorted | listK | listT | sortD | sortT
deriving DecidableEq
inductive Mt where
  | append | pop0 | pop1 | clear | extend | join | split | startswith | get1 | get2 | popT | popK | setd | reverse
deriving DecidableEq
inductive Ty where
  | int | bool | str | list | tuple | own (c : Nat)
deriving DecidableEq
inductive Ik where | val | range1 | range2 | range3 | enum | zip | items | values | rev
deriving DecidableEq

mutual
inductive L where
  | c (d : D) | v (i : Nat) | g (i : Nat)
  | bin (o : Bo) (w : Bool) (a b : L) | neg (a : L)
  | cmp (o : Co) (a b : L) | chain (o o' : Co) (a b c : L)
  | and_ (a b : L) | or_ (a b : L) | not_ (a : L) | ite (t a b : L)
  | tup (l : Ls) | lst (w : Bool) (l : Ls)
  | ix (a i : L) | sl (w : Bool) (a lo hi : L) | rev (w : Bool) (a : L) | setlen (a : L)
  | call (f : Nat) (l : Ls) | meth (f : Nat) (c : Nat) (o : L) (l : Ls) | new (w : Bool) (c f : Nat) (l : Ls)
  | fld (c j : Nat) (a : L)
  | bi (b : Bi) (w : Bool) (l : Ls) | mt (b : Mt) (w : Bool) (o : L) (l : Ls)
  | isi (ts : List Ty) (a : L)
  | key2 (mx : Bool) (f : Nat) (a b : L) | skey (w : Bool) (f : Nat) (a : L) | dnew (t : Bool) | dlit (l : Ls)
  | comp (w : Bool) (k : Ik) (own : List Nat) (pt : List Nat) (one : Bool) (it : Ls) (cond elt : L)
  /-- the firsts of the pairs whose seconds are so: while an exception is held -/
  | pick (i j k : Nat)
  /-- b, while the dict that a names is read, not written -/
  | lock (a b : L)
  /-- its parts may raise -/
  | compx (w : Bool) (k : Ik) (own : List Nat) (pt : List Nat) (one : Bool) (it : Ls) (cond elt : L)
inductive Ls where
  | nil | cons (a : L) (l : Ls)
end
inductive P where
  | nm (i : Nat) | sb (o i : L) | fld (c j : Nat) (o : L)
inductive M where
  | pass | seq (a b : M) | ex (l : L)
  | set (i : Nat) (l : L) | asg (ps : List P) (l : L) | put (p : P) (l : L) | par (is : List Nat) (l : Ls)
  | ite (t : L) (a b : M) | «for» (k : Ik) (pt : List Nat) (one : Bool) (it : Ls) (b : M) | «while» (n : Nat) (t : L) (b : M)
  | ret (l : L) | retN | raise (c : Nat) | brk | cnt | try_ (b : M)
  | tryc (b : M) (ks os : List Nat) (n : Option Nat) (h : Nat → M)
  /-- what is caught is raised as c -/
  | tryx (b : M) (ks : List Nat) (c : Nat)

structure Fn where
  np : Nat
  ns : Nat
  trn : Bool
  frz : Bool
  body : M


def mkl (w : Bool) (ds : List D) (G : Hp) : R := if w then .ok (.ref G.length) (G ++ [.lst ds]) else .ok (.lst ds) G
def lstD (G : Hp) : D → Option (List D)
  | .lst ds => some ds
  | .ref i => match G[i]? with
    | some (.lst ds) => some ds
    | _ => none
  | _ => none
def seqD (G : Hp) : D → Option (List D)
  | .lst ds => some ds
  | .fz ds => some ds
  | .tup ds => some ds
  | .ref i => match G[i]? with
    | some (.lst ds) => some ds
    | _ => none
  | _ => none
def lenD (G : Hp) : D → Option Nat
  | .lst ds => some ds.length
  | .fz ds => some ds.length
  | .tup ds => some ds.length
  | .str s => if s.length ≤ 1000000 then some s.length else none
  | .ref i => match G[i]? with
    | some (.lst ds) => some ds.length
    | some (.dK kvs) => some kvs.length
    | some (.dT kvs) => some kvs.length
    | _ => none
  | _ => none
def mulOk (i j : Int) : Bool := decide ((i.natAbs < 2 ^ 1000 ∧ j.natAbs < 2 ^ 1000) ∨ j.natAbs < 2 ^ 60)
def divOk (j : Int) : Bool := decide (0 < j ∧ j < 2 ^ 1000)
def szOk (n : Nat) : Bool := decide (n ≤ 1000000)
def strOkI (i : Int) : Bool := decide (i.natAbs < 2 ^ 1900)
def nstr (i : Int) : Str := Str.ofString (toString i)
def intsD : List D → Option (List Int)
  | [] => some []
  | .int i :: ds => (intsD ds).map (i :: ·)
  | _ => none
def blsD : List D → Option (List Bool)
  | [] => some []
  | .bl i :: ds => (blsD ds).map (i :: ·)
  | _ => none
def strsD : List D → Option (List Str)
  | [] => some []
  | .str i :: ds => (strsD ds).map (i :: ·)
  | _ => none
def pds (f : D → Option PyData) : List D → Option (List PyData)
  | [] => some []
  | d :: ds => (f d).bind fun x => (pds f ds).bind fun xs => some (x :: xs)
def pd (G : Hp) : Nat → D → Option PyData
  | 0, _ => none
  | _ + 1, .non => some .none
  | _ + 1, .bl b => some (.bool b)
  | _ + 1, .int i => some (.int i)
  | _ + 1, .str s => some (.str s)
  | n + 1, .tup ds => (pds (pd G n) ds).map .tuple
  | n + 1, .lst ds => (pds (pd G n) ds).map .list
  | n + 1, .fz ds => (pds (pd G n) ds).map .list
  | n + 1, .ref i => match G[i]? with
    | some (.lst ds) => (pds (pd G n) ds).map .list
    | _ => none
  | _ + 1, _ => none
mutual
def ub : PyData → Nat
  | .none => 5 | .bool _ => 5
  | .int i => if i.natAbs < 10 ^ 60 then 62 else 700
  | .str x => (reprText x).length
  | .list xs => uba xs + 3 | .tuple xs => uba xs + 3 | .dict _ => 100000000
def uba : List PyData → Nat
  | [] => 0
  | d :: ds => ub d + 2 + uba ds
end
def isSeq : D → Bool
  | .tup _ | .lst _ | .fz _ | .ref _ => true
  | _ => false
def reprD (G : Hp) (x : D) : R := match pd G 8 x with
  | some d => if isSeq x && PyData.showable d && decide (ub d ≤ 10000000) then .ok (.str (PyData.shown d)) G else .bad
  | none => .bad
def scalD : D → D → Option Bool
  | .non, .non => some true
  | .int a, .int b => some (decide (a = b))
  | .bl a, .bl b => some (decide (a = b))
  | .str a, .str b => some (decide (a = b))
  | .non, .int _ => some false | .int _, .non => some false
  | .non, .bl _ => some false | .bl _, .non => some false
  | .non, .str _ => some false | .str _, .non => some false
  | .int _, .str _ => some false | .str _, .int _ => some false
  | .bl _, .str _ => some false | .str _, .bl _ => some false
  | _, _ => none
def dlen : Option Cell → Option Nat
  | some (.dK kvs) => some kvs.length
  | some (.dT kvs) => some kvs.length
  | _ => none
def eqE (G : Hp) (x y : D) : Option Bool := match x, y with
  | .ref i, .ref j => match dlen G[i]?, dlen G[j]? with
    | some n, some 0 => some (n == 0)
    | _, _ => none
  | _, _ => none
def eqD (G : Hp) (x y : D) : Option Bool := match scalD x y with
  | some b => some b
  | none => match pd G 8 x, pd G 8 y with
    | some d, some e => if SeqAt.shaped d && SeqAt.shaped e then some (PyData.eqv d e) else none
    | _, _ => eqE G x y
def flatD : D → Option L2.V
  | .non => some .non
  | .bl b => some (.bl b)
  | .int i => some (.int i)
  | .str s => some (.str s)
  | _ => none
def flats : List D → Option (List L2.V)
  | [] => some []
  | d :: ds => (flatD d).bind fun x => (flats ds).bind fun xs => some (x :: xs)
def keyD : D → Option L2.Key
  | .int i => some (.inl i)
  | .str s => some (.inr s)
  | _ => none
def keysD : List D → Option (List L2.Key)
  | [] => some []
  | d :: ds => (keyD d).bind fun x => (keysD ds).bind fun xs => some (x :: xs)
def valD {κ : Type} [DecidableEq κ] (kvs : List (κ × D)) (k : κ) : Option D := (kvs.find? fun kv => decide (kv.1 = k)).map (·.2)
def putD {κ : Type} [DecidableEq κ] (kvs : List (κ × D)) (k : κ) (v : D) : List (κ × D) :=
  if (kvs.any fun kv => decide (kv.1 = k)) = true then kvs.map (fun kv => if kv.1 = k then (kv.1, v) else kv) else kvs ++ [(k, v)]
def dropD {κ : Type} [DecidableEq κ] (kvs : List (κ × D)) (k : κ) : List (κ × D) := kvs.filter fun kv => decide (kv.1 ≠ k)
def lookD (G : Hp) (d k : D) : Option (Option D) := match d with
  | .ref i => match G[i]? with
    | some (.dK kvs) => (keyD k).map fun q => valD kvs q
    | some (.frK kvs) => (keyD k).map fun q => valD kvs q
    | some (.dT kvs) => match k with
      | .tup ks => (keysD ks).map fun q => valD kvs q
      | _ => none
    | _ => none
  | _ => none
def inD (G : Hp) (x y : D) : Option Bool := match y with
  | .str z => match x with
    | .str ⟨⟨[c]⟩⟩ => some (decide (c ∈ z.cps.toList))
    | _ => none
  | .ref i => match G[i]? with
    | some (.lst ds) => (flatD x).bind fun a => (flats ds).map fun bs => L2.inV a bs
    | _ => (lookD G y x).map Option.isSome
  | _ => (seqD G y).bind fun ds => (flatD x).bind fun a => (flats ds).map fun bs => L2.inV a bs
def inP (G : Hp) (x y : D) : Option Bool := match pd G 8 x, pd G 8 y with
  | some d, some (.list ds) => if SeqAt.shaped d && SeqAt.shaped (.list ds) then some (ds.any fun z => PyData.eqv z d) else none
  | _, _ => none
def cmpD (o : Co) (x y : D) (G : Hp) : R :=
  let b (r : Option Bool) : R := match r with
    | some c => .ok (.bl c) G
    | none => .bad
  match o with
  | .eq => b (eqD G x y)
  | .ne => b ((eqD G x y).map (!·))
  | .isin => b (inD G x y)
  | .notin => b ((inD G x y).map (!·))
  | .is_ => match y with
    | .non => .ok (.bl (decide (x = .non))) G
    | _ => .bad
  | .isnot => match y with
    | .non => .ok (.bl (!decide (x = .non))) G
    | _ => .bad
  | .lt => match x, y with
    | .int i, .int j => .ok (.bl (decide (i < j))) G
    | .str i, .str j => .ok (.bl (decide (i.cps.toList < j.cps.toList))) G
    | .tup [.int a, .int b], .tup [.int c, .int d] => .ok (.bl (if a = c then decide (b < d) else decide (a < c))) G
    | _, _ => .bad
  | .le => match x, y with
    | .int i, .int j => .ok (.bl (decide (i ≤ j))) G
    | _, _ => .bad
  | .gt => match x, y with
    | .int i, .int j => .ok (.bl (decide (j < i))) G
    | _, _ => .bad
  | .ge => match x, y with
    | .int i, .int j => .ok (.bl (decide (j ≤ i))) G
    | _, _ => .bad
  | .inp => b (inP G x y)
  | .notinp => b ((inP G x y).map (!·))
def binD (o : Bo) (w : Bool) (x y : D) (G : Hp) : R := match o with
  | .add => match x, y with
    | .int i, .int j => .ok (.int (i + j)) G
    | .str a, .str b => if szOk (a.length + b.length) then .ok (.str (a ++ b)) G else .bad
    | .tup a, .tup b => if szOk (a.length + b.length) then .ok (.tup (a ++ b)) G else .bad
    | _, _ => match lstD G x, lstD G y with
      | some a, some b => if szOk (a.length + b.length) then mkl w (a ++ b) G else .bad
      | _, _ => .bad
  | .sub => match x, y with
    | .int i, .int j => .ok (.int (i - j)) G
    | _, _ => .bad
  | .mul => match x, y with
    | .int i, .int j => if mulOk i j then .ok (.int (i * j)) G else .bad
    | .str a, .int k => if decide (0 ≤ k ∧ k ≤ 5000) && decide (a.length ≤ 200) then .ok (.str (Txt.mul a k)) G else .bad
    | _, .int k => match lstD G x with
      | some a => if szOk (a.length * k.toNat) && decide (-(2 ^ 63) ≤ k ∧ k < 2 ^ 63) then mkl w (List.replicate k.toNat a).flatten G else .bad
      | none => .bad
    | _, _ => .bad
  | .fdiv => match x, y with
    | .int i, .int j => if divOk j then .ok (.int (i / j)) G else .bad
    | _, _ => .bad
  | .mod => match x, y with
    | .int i, .int j => if decide (0 < j) then .ok (.int (i % j)) G else .bad
    | _, _ => .bad
  | .pow => match x, y with
    | .int i, .int j => if decide (0 ≤ j ∧ j ≤ 1000 ∧ i.natAbs < 2 ^ 64) then .ok (.int (i ^ j.toNat)) G else .bad
    | _, _ => .bad
def ixL (ds : List D) (y : D) (G : Hp) : R := match y with
  | .int i => match L2.atI ds i with
    | some d => .ok d G
    | none => .bad
  | _ => .bad
def ixK (o : Option (Option D)) (G : Hp) : R := match o with
  | some (some d) => .ok d G
  | _ => .bad
def ixD (x y : D) (G : Hp) : R := match x with
  | .str z => match y with
    | .int i => if szOk z.length then match L2.atI z.cps.toList i with
      | some c => .ok (.str ⟨#[c]⟩) G
      | none => .bad
      else .bad
    | _ => .bad
  | _ => match seqD G x with
    | some ds => ixL ds y G
    | none => ixK (lookD G x y) G
def partD : D → Option (Option Int)
  | .exc _ => some none
  | .int i => some (some i)
  | _ => none
def cutD (xs : List D) (lo hi : Option Int) : List D := (xs.drop (HT.sIx xs.length 0 lo)).take (HT.sIx xs.length xs.length hi - HT.sIx xs.length 0 lo)
def slD (w : Bool) (x lo hi : D) (G : Hp) : R := match partD lo, partD hi with
  | some l, some h => match x with
    | .str z => if szOk z.length then .ok (.str (L2.cutS z l h)) G else .bad
    | .tup ds => .ok (.tup (cutD ds l h)) G
    | _ => match seqD G x with
      | some ds => mkl w (cutD ds l h) G
      | none => .bad
  | _, _ => .bad
def revD (w : Bool) (x : D) (G : Hp) : R := match x with
  | .tup _ => .bad
  | _ => match seqD G x with
    | some ds => mkl w ds.reverse G
    | none => .bad
def uniq {K : Type} [DecidableEq K] (ks : List K) : List K := ks.foldl (fun acc k => if k ∈ acc then acc else acc ++ [k]) []
def setlenD (x : D) (G : Hp) : R := match (seqD G x).bind keysD with
  | some ks => if decide (ks.length ≤ 1000) then .ok (.int (uniq ks).length) G else .bad
  | none => .bad
def minL : List Int → Int
  | [] => 0
  | a :: r => r.foldl (fun a b => if b < a then b else a) a
def maxL : List Int → Int
  | [] => 0
  | a :: r => r.foldl (fun a b => if b > a then b else a) a
def insI (a : Int) : List Int → List Int
  | [] => [a]
  | b :: r => if a ≤ b then a :: b :: r else b :: insI a r
def srtI : List Int → List Int
  | [] => []
  | a :: r => insI a (srtI r)
def kD : L2.Key → D
  | .inl i => .int i
  | .inr s => .str s
def sortB (es : List PyData) : Bool := (es.all fun d => es.all fun e => PySem.W.alike d e) && ((es.all fun d => match d with | .tuple (_ :: _) => true | _ => false) || es.all fun d => match d with | .none => false | .tuple _ => false | _ => true)
def keyPD : L2.Key → PyData
  | .inl i => .int i
  | .inr s => .str s
def keyTD (k : List L2.Key) : PyData := .tuple (k.map keyPD)
def sortDs (ds : List D) (es : List PyData) : List D := ((ds.zip es).mergeSort (PySem.W.dataLe false fun b => b.2)).map (·.1)
def biD (b : Bi) (w : Bool) (xs : List D) (G : Hp) : R := match b, xs with
  | .abs, [.int i] => .ok (.int (if i < 0 then -i else i)) G
  | .len, [x] => match lenD G x with
    | some n => .ok (.int n) G
    | none => .bad
  | .int, [.int i] => .ok (.int i) G
  | .int, [.bl k] => .ok (.int (if k then 1 else 0)) G
  | .int, [.str a] => match PySem.intText? a with
    | some n => if decide (a.length ≤ 640) then .ok (.int n) G else .bad
    | none => .bad
  | .str, [.int i] => if strOkI i then .ok (.str (nstr i)) G else .bad
  | .str, [.str a] => .ok (.str a) G
  | .repr, [x] => reprD G x
  | .sum, [x] => match (seqD G x).bind intsD with
    | some ns => .ok (.int ns.sum) G
    | none => .bad
  | .min1, [x] => match x with
    | .tup _ => .bad
    | _ => match (seqD G x).bind intsD with
      | some ns => if ns.isEmpty then .bad else .ok (.int (minL ns)) G
      | none => .bad
  | .max1, [x] => match x with
    | .tup _ => .bad
    | _ => match (seqD G x).bind intsD with
      | some ns => if ns.isEmpty then .bad else .ok (.int (maxL ns)) G
      | none => .bad
  | .min2, [.int i, .int j] => .ok (.int (if j < i then j else i)) G
  | .max2, [.int i, .int j] => .ok (.int (if j > i then j else i)) G
  | .all, [x] => match x with
    | .tup _ => .bad
    | _ => match (seqD G x).bind blsD with
      | some bs => .ok (.bl (bs.all id)) G
      | none => .bad
  | .any, [x] => match x with
    | .tup _ => .bad
    | _ => match (seqD G x).bind blsD with
      | some bs => .ok (.bl (bs.any id)) G
      | none => .bad
  | .divmod, [.int i, .int j] => if divOk j then .ok (.tup [.int (i / j), .int (i % j)]) G else .bad
  | .tuple, [x] => match seqD G x with
    | some ds => .ok (.tup ds) G
    | none => .bad
  | .list, [x] => match seqD G x with
    | some ds => mkl w ds G
    | none => .bad
  | .sorted, [x] => match x with
    | .tup _ => .bad
    | _ => match (seqD G x).bind intsD with
      | some ns => mkl w ((srtI ns).map .int) G
      | none => .bad
  | .listK, [.ref i] => match G[i]? with
    | some (.dK kvs) => mkl w (kvs.map fun kv => kD kv.1) G
    | _ => .bad
  | .sortD, [x] => match x with
    | .tup _ => .bad
    | _ => match seqD G x with
      | some ds => match pds (pd G 8) ds with
        | some es => if sortB es then mkl w (sortDs ds es) G else .bad
        | none => .bad
      | none => .bad
  | .sortT, [.ref i] => match G[i]? with
    | some (.dT kvs) => if sortB (kvs.map fun kv => keyTD kv.1) then mkl w (sortDs (kvs.map fun kv => .tup (kv.1.map kD)) (kvs.map fun kv => keyTD kv.1)) G else .bad
    | _ => .bad
  | .listT, [.ref i] => match G[i]? with
    | some (.dT kvs) => mkl w (kvs.map fun kv => .tup (kv.1.map kD)) G
    | _ => .bad
  | _, _ => .bad
def setC (G : Hp) (i : Nat) (c : Cell) : Hp := G.set i c
def mtD (b : Mt) (w : Bool) (m : List Nat) (o : D) (xs : List D) (G : Hp) : R := match b, o, xs with
  | .append, .ref i, [v] => match G[i]? with
    | some (.lst ds) => if wok i m v && decide (ds.length < 1000000) then .ok .non (setC G i (.lst (ds ++ [v]))) else .bad
    | _ => .bad
  | .extend, .ref i, [x] => match G[i]? with
    | some (.lst ds) => match lstD G x with
      | some es => if (es.all fun v => wok i m v) && decide (ds.length + es.length < 1000000) then .ok .non (setC G i (.lst (ds ++ es))) else .bad
      | none => .bad
    | _ => .bad
  | .clear, .ref i, [] => match G[i]? with
    | some (.lst _) => .ok .non (setC G i (.lst []))
    | _ => .bad
  | .pop0, .ref i, [] => match G[i]? with
    | some (.lst ds) => match ds.getLast? with
      | some d => .ok d (setC G i (.lst ds.dropLast))
      | none => .bad
    | _ => .bad
  | .pop1, .ref i, [.int k] => match G[i]? with
    | some (.lst ds) => if 0 ≤ k ∧ k < 1000000 then match ds[k.toNat]? with
      | some d => .ok d (setC G i (.lst (ds.eraseIdx k.toNat)))
      | none => .bad
      else .bad
    | _ => .bad
  | .popT, .ref i, [.tup ks] => match G[i]? with
    | some (.dT kvs) => match keysD ks with
      | some k => match valD kvs k with
        | some v => .ok v (setC G i (.dT (dropD kvs k)))
        | none => .bad
      | none => .bad
    | _ => .bad
  | .popK, .ref i, [x] => match G[i]? with
    | some (.dK kvs) => match keyD x with
      | some k => match valD kvs k with
        | some v => .ok v (setC G i (.dK (dropD kvs k)))
        | none => .bad
      | none => .bad
    | _ => .bad
  | .setd, .ref i, [x, y] => match G[i]? with
    | some (.dK kvs) => match keyD x with
      | some k => if decide (kvs.length < 1000000) then match valD kvs k with
        | some v => .ok v G
        | none => if wok i m y then .ok y (setC G i (.dK (putD kvs k y))) else .bad
        else .bad
      | none => .bad
    | _ => .bad
  | .get1, .ref i, [x] => match lookD G (.ref i) x with
    | some o => .ok (o.getD .non) G
    | none => .bad
  | .get2, .ref i, [x, y] => match lookD G (.ref i) x with
    | some o => .ok (o.getD y) G
    | none => .bad
  | .reverse, .ref i, [] => match G[i]? with
    | some (.lst ds) => .ok .non (setC G i (.lst ds.reverse))
    | _ => .bad
  | .join, .str a, [x] => match (seqD G x).bind strsD with
    | some ys => if decide ((ys.map (·.length)).sum + ys.length * a.length ≤ 1000000) then .ok (.str (Txt.join a ys)) G else .bad
    | none => .bad
  | .split, .str a, [.str s] => if decide (s.length ≠ 0 ∧ a.length ≤ 1000000) then mkl w ((Txt.split a s).map .str) G else .bad
  | .startswith, .str a, [.str s] => .ok (.bl (Txt.startswith a s)) G
  | _, _, _ => .bad
def isLst : Option Cell → Bool
  | some (.lst _) => true
  | _ => false
def isDT : Option Cell → Bool
  | some (.dT _) => true
  | _ => false
def isDG : Option Cell → Bool
  | some (.dK _) => true
  | some (.dT _) => true
  | some (.frK _) => true
  | _ => false
def isDK : Option Cell → Bool
  | some (.dK _) => true
  | _ => false
def mtOk (b : Mt) (G : Hp) (y : D) : Bool := match b, y with
  | .append, .ref i => isLst G[i]?
  | .clear, .ref i => isLst G[i]?
  | .extend, .ref i => isLst G[i]?
  | .pop0, .ref i => isLst G[i]?
  | .pop1, .ref i => isLst G[i]?
  | .popT, .ref i => isDT G[i]?
  | .popK, .ref i => isDK G[i]?
  | .setd, .ref i => isDK G[i]?
  | .get1, .ref i => isDG G[i]?
  | .get2, .ref i => isDG G[i]?
  | .reverse, .ref i => isLst G[i]?
  | .join, .str _ => true
  | .split, .str _ => true
  | .startswith, .str _ => true
  | _, _ => false
def isTy (G : Hp) (x : D) : Ty → Bool
  | .int => match x with | .int _ => true | .bl _ => true | _ => false
  | .bool => match x with | .bl _ => true | _ => false
  | .str => match x with | .str _ => true | _ => false
  | .list => match x with
    | .lst _ => true | .fz _ => true
    | .ref i => match G[i]? with
      | some (.lst _) => true
      | _ => false
    | _ => false
  | .tuple => match x with | .tup _ => true | _ => false
  | .own _ => false
def typed (G : Hp) : D → Bool
  | .non | .bl _ | .int _ | .str _ | .tup _ | .lst _ | .fz _ => true
  | .ref i => match G[i]? with
    | some (.ins _ _) => false
    | some (.frK _) => false
    | some _ => true
    | none => false
  | _ => false
def fldD (G : Hp) (c j : Nat) : D → Option D
  | .ins c' ds => if c' = c then ds[j]? else none
  | .ref i => match G[i]? with
    | some (.ins c' ds) => if c' = c then ds[j]? else none
    | _ => none
  | _ => none
def clsD (G : Hp) : D → Option Nat
  | .ins c _ => some c
  | .ref i => match G[i]? with
    | some (.ins c _) => some c
    | _ => none
  | _ => none


def frzD (G : Hp) (m : Nat) (v : D) : D := match v with
  | .ref i => if i < m then v else match G[i]? with
    | some (.lst ds) => .lst ds
    | some (.ins c ds) => .ins c ds
    | _ => v
  | _ => v
def leave (trn frz : Bool) (m : Nat) (v : D) (G : Hp) : R :=
  if trn then
    let v' := if frz then frzD G m v else v
    if below m v' then .ok v' (G.take m) else .ok v G
  else .ok v G
def fin (trn frz : Bool) (m : Nat) : O → R
  | .ret v G => leave trn frz m v G
  | .nx _ G => leave trn frz m .non G
  | .exc c _ G => .exc c (if trn then G.take m else G)
  | _ => .bad


def seti (s : Env) (i : Nat) (v : D) : Env := s.set i (some v)
def bindT (pt : List Nat) (one : Bool) (s : Env) (x : D) : Option Env :=
  if one then (match pt with
    | [i] => some (seti s i x)
    | _ => none)
  else match x with
    | .tup ds => if ds.length = pt.length then some ((pt.zip ds).foldl (fun s p => seti s p.1 p.2) s) else none
    | _ => none
def zipD : List D → List D → List D
  | a :: as, b :: bs => .tup [a, b] :: zipD as bs
  | _, _ => []
def enumD (k : Int) : List D → List D
  | [] => []
  | a :: as => .tup [.int k, a] :: enumD (k + 1) as
def rangeD (lo : Int) : Nat → List D
  | 0 => []
  | n + 1 => .int lo :: rangeD (lo + 1) n
def downD (hi : Int) : Nat → List D
  | 0 => []
  | n + 1 => .int hi :: downD (hi - 1) n
def signs (s : Str) : List D := s.cps.toList.map fun c => .str ⟨#[c]⟩
def fixedS : D → Option (Bool × List D)
  | .lst a => some (false, a)
  | .fz a => some (false, a)
  | .tup a => some (true, a)
  | _ => none
def itD (k : Ik) (xs : List D) (G : Hp) : Option (List D × Option (Nat × Cell)) := match k, xs with
  | .val, [.str s] => some (signs s, none)
  | .val, [.ref i] => match G[i]? with
    | some (.lst ds) => some (ds, some (i, .lst ds))
    | some (.frK kvs) => some (kvs.map fun kv => kD kv.1, none)
    | _ => none
  | .val, [x] => (seqD G x).map fun ds => (ds, none)
  | .range1, [.int n] => if decide (-(2 ^ 62) ≤ n ∧ n < 2 ^ 62) then some (rangeD 0 n.toNat, none) else none
  | .range2, [.int a, .int b] => if decide (-(2 ^ 62) ≤ a ∧ a < 2 ^ 62 ∧ -(2 ^ 62) ≤ b ∧ b < 2 ^ 62) then some (rangeD a (b - a).toNat, none) else some (rangeD a (b - a).toNat, none)
  | .range3, [.int a, .int b, .int c] => if decide (-(2 ^ 62) ≤ a ∧ a < 2 ^ 62 ∧ -(2 ^ 62) ≤ b ∧ b < 2 ^ 62 ∧ c = -1) then some (downD a (a - b).toNat, none) else none
  | .enum, [x] => match x with
    | .tup ds => some (enumD 0 ds, none)
    | .ref i => match G[i]? with
      | some (.lst ds) => some (enumD 0 ds, some (i, .lst ds))
      | _ => none
    | _ => (seqD G x).map fun ds => (enumD 0 ds, none)
  | .rev, [x] => match x with
    | .tup _ => none
    | .ref i => match G[i]? with
      | some (.lst ds) => some (ds.reverse, some (i, .lst ds))
      | _ => none
    | _ => (seqD G x).map fun ds => (ds.reverse, none)
  | .zip, [x, y] => match fixedS x, fixedS y with
    | some (t, a), some (u, b) => if t = u then some (zipD a b, none) else none
    | none, some (false, b) => match x with
      | .ref i => match G[i]? with
        | some (.lst a) => some (zipD a b, some (i, .lst a))
        | _ => none
      | _ => none
    | _, _ => none
  | _, _ => none
def still (G : Hp) : Option (Nat × Cell) → Bool
  | none => true
  | some (i, c) => decide (G[i]? = some c)
def wipes (s : Env) (is : List Nat) : Env := is.foldl (fun s i => s.set i none) s

def stepK (x : D) (f : D → R) (g : Unit → R) (_t : Tag f := .mk) (_u : Tag g := .mk) : R := match x with
  | .tup [y] => f y
  | .non => g ()
  | _ => .bad
def ltK (mx : Bool) (k l : D) : Option Bool := match k, l with
  | .tup [.int i, .str z], .tup [.int j, .str u] =>
    some (if mx then decide (i < j) || (decide (i = j) && decide (z.cps.toList < u.cps.toList)) else decide (j < i) || (decide (j = i) && decide (u.cps.toList < z.cps.toList)))
  | _, _ => none
def keyS : D → Option (Int × Str)
  | .tup [.int i, .str z] => some (i, z)
  | _ => none
def ltKS (a b : Int × Str) : Bool := decide (a.1 < b.1) || (decide (a.1 = b.1) && decide (a.2.cps.toList < b.2.cps.toList))
def leKV {α : Type} (a b : (Int × Str) × α) : Bool := !ltKS b.1 a.1
def sortKV {α : Type} (is : List (Int × Str)) (xs : List α) : List α := ((is.zip xs).mergeSort leKV).map (·.2)
def keysF (step : D → Hp → R) : List D → Hp → List (Int × Str) → (List (Int × Str) → Hp → R) → R
  | [], G, acc, k => k acc G
  | d :: ds, G, acc, k => (step d G).safe.bind fun x G1 => optK (keyS x) (fun i => keysF step ds G1 (acc ++ [i]) k) .bad
def negD (x : D) (G : Hp) : R := match x with
  | .int i => .ok (.int (-i)) G
  | _ => .bad
def madeD (w : Bool) (n : Nat) (G : Hp) : R := if w then .ok (.ref n) G else
  let v := frzD G n (.ref n)
  if below n v then .ok v (G.take n) else .bad
def putL (q : Nat) (m : List Nat) (ds : List D) (y v : D) (s : Env) (G : Hp) : O := match y with
  | .int k => match L2.ixN ds.length k with
    | some j => if wok q m v then .nx s (setC G q (.lst (ds.set j v))) else .bad
    | none => .bad
  | _ => .bad
def putDK (q : Nat) (m : List Nat) (kvs : List (L2.Key × D)) (y v : D) (s : Env) (G : Hp) : O := match keyD y with
  | some k => if wok q m v && decide (kvs.length < 1000000) then .nx s (setC G q (.dK (putD kvs k v))) else .bad
  | none => .bad
def putDT (q : Nat) (m : List Nat) (kvs : List (List L2.Key × D)) (y v : D) (s : Env) (G : Hp) : O := match y with
  | .tup ks => match keysD ks with
    | some k => if wok q m v && decide (kvs.length < 1000000) then .nx s (setC G q (.dT (putD kvs k v))) else .bad
    | none => .bad
  | _ => .bad
def putV (m : List Nat) (x y v : D) (s : Env) (G : Hp) : O := match x with
  | .ref q => cellK G[q]? (fun ds => putL q m ds y v s G) (fun ds => putDK q m ds y v s G) (fun ds => putDT q m ds y v s G) (fun _ _ => .bad) .bad
  | _ => .bad
def putF (m : List Nat) (c j : Nat) (x v : D) (s : Env) (G : Hp) : O := match x with
  | .ref q => match G[q]? with
    | some (.ins c' ds) => if c' = c ∧ wok q m v = true then (if j < ds.length then .nx s (setC G q (.ins c (ds.set j v))) else if j = ds.length then .nx s (setC G q (.ins c (ds ++ [v]))) else .bad) else .bad
    | _ => .bad
  | _ => .bad
def pars (is : List Nat) (ds : List D) (s : Env) : Env := (is.zip ds).foldl (fun s p => seti s p.1 p.2) s

def atomL : L → Env → Option D
  | .c d, _ => some d
  | .v i, s => s[i]?.join
  | _, _ => none
def pairsL : Ls → Env → Option (List (D × D))
  | .nil, _ => some []
  | .cons a (.cons b l), s => (atomL a s).bind fun x => (atomL b s).bind fun y => (pairsL l s).bind fun r => some ((x, y) :: r)
  | _, _ => none
def keyP : List (D × D) → Option (List (L2.Key × D))
  | [] => some []
  | (x, y) :: r => (keyD x).bind fun k => (keyP r).bind fun r => some ((k, y) :: r)
def dlitD (ps : List (D × D)) (G : Hp) : R := match keyP ps with
  | some kvs => .ok (.ref G.length) (G ++ [.dK (kvs.foldl (fun acc kv => putD acc kv.1 kv.2) [])])
  | none => .bad
section
variable (cl : List Nat → Nat → List D → Hp → R) (gl : Nat → Option D) (m : List Nat)
def compF (step : D → Hp → R) (g : Option (Nat × Cell)) : List D → Hp → List D → (List D → Hp → R) → R
  | [], G, acc, k => iteK (still G g) (fun _ => k acc G) fun _ => .bad
  | x :: xs, G, acc, k => iteK (still G g) (fun _ => (step x G).bind fun r G1 => stepK r (fun y => compF step g xs G1 (acc ++ [y]) k) (fun _ => compF step g xs G1 acc k)) fun _ => .bad
def lockK (x : D) (G : Hp) (f : Hp → R) : R := match x with
  | .ref i => match G[i]? with
    | some (.dK kvs) => (f (G.set i (.frK kvs))).safe.bind fun v G2 => match G2[i]? with
      | some (.frK ls) => .ok v (G2.set i (.dK ls))
      | _ => .bad
    | _ => .bad
  | _ => .bad
def pickD : List D → Option (List D)
  | [] => some []
  | .tup [.str x, .bl b] :: ds => (pickD ds).map fun r => if b then .str x :: r else r
  | _ => none
def pickX : D → Option (List D)
  | .lst ds => if ds.length ≤ 1000 then pickD ds else none
  | _ => none
mutual
def eval : L → Env → Hp → R
  | .c d, _, G => .ok d G
  | .v i, s, G => optK (s[i]?.join) (fun d => .ok d G) .bad
  | .g i, _, G => optK (gl i) (fun d => .ok d G) .bad
  | .bin o w a b, s, G => (eval a s G).bind fun x G1 => (eval b s G1).bind fun y G2 => binD o w x y G2
  | .neg a, s, G => (eval a s G).bind fun x G1 => negD x G1
  | .cmp o a b, s, G => (eval a s G).bind fun x G1 => (eval b s G1).bind fun y G2 => cmpD o x y G2
  | .chain o o' a b c, s, G => (eval a s G).bind fun x G1 => (eval b s G1).bind fun y G2 => (cmpD o x y G2).bind fun z G3 =>
    blK z (fun t => iteK t (fun _ => (eval c s G3).bind fun u G4 => cmpD o' y u G4) fun _ => .ok (.bl false) G3) .bad
  | .and_ a b, s, G => (eval a s G).bind fun x G1 => blK x (fun t => iteK t (fun _ => eval b s G1) fun _ => .ok (.bl false) G1) .bad
  | .or_ a b, s, G => (eval a s G).bind fun x G1 => blK x (fun t => iteK t (fun _ => .ok (.bl true) G1) fun _ => eval b s G1) .bad
  | .not_ a, s, G => (eval a s G).bind fun x G1 => blK x (fun t => .ok (.bl (!t)) G1) .bad
  | .ite t a b, s, G => (eval t s G).bind fun x G1 => blK x (fun t => iteK t (fun _ => eval a s G1) fun _ => eval b s G1) .bad
  | .tup l, s, G => evals l s G
  | .lst w l, s, G => (evals l s G).bind fun x G1 => tupK x (fun ds => mkl w ds G1) .bad
  | .ix a i, s, G => (eval a s G).bind fun x G1 => (eval i s G1).bind fun y G2 => ixD x y G2
  | .sl w a lo hi, s, G => (eval a s G).bind fun x G1 => (eval lo s G1).bind fun l G2 => optK (partD l) (fun _ => (eval hi s G2).bind fun h G3 => slD w x l h G3) .bad
  | .rev w a, s, G => (eval a s G).bind fun x G1 => revD w x G1
  | .setlen a, s, G => (eval a s G).bind fun x G1 => setlenD x G1
  | .call f l, s, G => (evals l s G).bind fun x G1 => tupK x (fun ds => cl m f ds G1) .bad
  | .meth f c o l, s, G => (eval o s G).bind fun y G1 => iteK (decide (clsD G1 y = some c)) (fun _ => (evals l s G1).bind fun x G2 => tupK x (fun ds => cl m f (y :: ds) G2) .bad) fun _ => .bad
  | .new w c f l, s, G => (evals l s G).bind fun x G1 => tupK x (fun ds => (cl (if w then m else G1.length :: m) f (.ref G1.length :: ds) (G1 ++ [.ins c []])).bind fun r G2 => iteK (decide (r = .non)) (fun _ => madeD w G1.length G2) fun _ => .bad) .bad
  | .fld c j a, s, G => (eval a s G).bind fun x G1 => optK (fldD G1 c j x) (fun d => .ok d G1) .bad
  | .bi b w l, s, G => (evals l s G).bind fun x G1 => tupK x (fun ds => biD b w ds G1) .bad
  | .mt b w o l, s, G => (eval o s G).bind fun y G1 => iteK (mtOk b G1 y) (fun _ => (evals l s G1).bind fun x G2 => tupK x (fun ds => mtD b w m y ds G2) .bad) fun _ => .bad
  | .isi ts a, s, G => (eval a s G).bind fun x G1 => iteK (typed G1 x) (fun _ => .ok (.bl (ts.any (isTy G1 x))) G1) fun _ => .bad
  | .key2 mx f a b, s, G => (eval a s G).bind fun x G1 => (eval b s G1).bind fun y G2 => (cl m f [x] G2).safe.bind fun k G3 => (cl m f [y] G3).safe.bind fun l G4 =>
    optK (ltK mx k l) (fun t => .ok (if t then y else x) G4) .bad
  | .skey w f a, s, G => (eval a s G).bind fun x G1 => optK (lstD G1 x) (fun ds => keysF (fun d G => cl m f [d] G) ds G1 [] fun is G2 => mkl w (sortKV is ds) G2) .bad
  | .dnew t, _, G => .ok (.ref G.length) (G ++ [if t then .dT [] else .dK []])
  | .dlit l, s, G => optK (pairsL l s) (fun ps => dlitD ps G) .bad
  | .comp w k own pt one it cond elt, s, G => (evals it s G).bind fun x G1 => tupK x (fun ds => optK (itD k ds G1) (fun xg => iteK (szOk xg.1.length) (fun _ =>
      (compF (fun x G => optK (bindT pt one (wipes s own) x) (fun s' => (eval cond s' G).bind fun c G2 => blK c (fun t => iteK t (fun _ => (eval elt s' G2).bind fun y G3 => .ok (.tup [y]) G3) fun _ => .ok .non G2) .bad) .bad) xg.2 xg.1 G1 [] (mkl w)).safe) fun _ => .bad) .bad) .bad
  | .lock a b, s, G => (eval a s G).bind fun x G1 => lockK x G1 fun G2 => eval b s G2
  | .pick _ _ k, s, G => optK (s[k]?.join.bind pickX) (fun xs => .ok (.lst xs) G) .bad
  | .compx w k own pt one it cond elt, s, G => (evals it s G).bind fun x G1 => tupK x (fun ds => optK (itD k ds G1) (fun xg => iteK (szOk xg.1.length) (fun _ =>
      compF (fun x G => optK (bindT pt one (wipes s own) x) (fun s' => (eval cond s' G).bind fun c G2 => blK c (fun t => iteK t (fun _ => (eval elt s' G2).bind fun y G3 => .ok (.tup [y]) G3) fun _ => .ok .non G2) .bad) .bad) xg.2 xg.1 G1 [] (mkl w)) fun _ => .bad) .bad) .bad
def evals : Ls → Env → Hp → R
  | .nil, _, G => .ok (.tup []) G
  | .cons a l, s, G => (eval a s G).bind fun x G1 => (evals l s G1).bind fun xs G2 => tupK xs (fun ds => .ok (.tup (x :: ds)) G2) .bad
end
def putP (p : P) (v : D) (s : Env) (G : Hp) : O := match p with
  | .nm i => .nx (seti s i v) G
  | .sb o i => R.st s (eval cl gl m o s G) fun x G1 => R.st s (eval cl gl m i s G1) fun y G2 => putV m x y v s G2
  | .fld c j o => R.st s (eval cl gl m o s G) fun x G1 => putF m c j x v s G1
def putPs : List P → List D → Env → Hp → O
  | [], [], s, G => .nx s G
  | p :: ps, v :: vs, s, G => (putP cl gl m p v s G).then fun s1 G1 => putPs ps vs s1 G1
  | _, _, _, _ => .bad
def forF (pt : List Nat) (one : Bool) (step : Env → Hp → O) (g : Option (Nat × Cell)) : List D → Env → Hp → O
  | [], s, G => iteK (still G g) (fun _ => .nx s G) fun _ => .bad
  | x :: xs, s, G => iteK (still G g) (fun _ => optK (bindT pt one s x) (fun s' => (step s' G).turn fun s1 G1 => forF pt one step g xs s1 G1) .bad) fun _ => .bad
def whlF (test : Env → Hp → R) (step : Env → Hp → O) : Nat → Env → Hp → O
  | 0, _, _ => .bad
  | n + 1, s, G => R.st s (test s G) fun c G1 => blK c (fun t => iteK t (fun _ => (step s G1).turn fun s1 G2 => whlF test step n s1 G2) fun _ => .nx s G1) .bad
def exec : M → Env → Hp → O
  | .pass, s, G => .nx s G
  | .seq a b, s, G => (exec a s G).then fun s1 G1 => exec b s1 G1
  | .ex l, s, G => R.st s (eval cl gl m l s G) fun _ G1 => .nx s G1
  | .set i l, s, G => R.st s (eval cl gl m l s G) fun v G1 => .nx (seti s i v) G1
  | .asg ps l, s, G => R.st s (eval cl gl m l s G) fun v G1 => optK (seqD G1 v) (fun ds => iteK (decide (ds.length = ps.length)) (fun _ => putPs cl gl m ps ds s G1) fun _ => .bad) .bad
  | .put p l, s, G => R.st s (eval cl gl m l s G) fun v G1 => putP cl gl m p v s G1
  | .par is l, s, G => R.st s (evals cl gl m l s G) fun x G1 => tupK x (fun ds => iteK (decide (ds.length = is.length)) (fun _ => .nx (pars is ds s) G1) fun _ => .bad) .bad
  | .ite t a b, s, G => R.st s (eval cl gl m t s G) fun c G1 => blK c (fun t => iteK t (fun _ => exec a s G1) fun _ => exec b s G1) .bad
  | .«for» k pt one it b, s, G => R.st s (evals cl gl m it s G) fun x G1 => tupK x (fun ds => optK (itD k ds G1) (fun xg => forF pt one (fun s G => exec b s G) xg.2 xg.1 s G1) .bad) .bad
  | .«while» n t b, s, G => whlF (fun s G => eval cl gl m t s G) (fun s G => exec b s G) n s G
  | .ret l, s, G => R.st s (eval cl gl m l s G) fun v G1 => .ret v G1
  | .retN, _, G => .ret .non G
  | .raise c, s, G => .exc c s G
  | .brk, s, G => .brk s G
  | .cnt, s, G => .cnt s G
  | .try_ b, s, G => (exec b s G).thru
  | .tryc b ks os n h, s, G => (exec b s G).catch fun c s1 G1 => iteK (decide (c ∈ ks)) (fun _ => (exec (h c) (wipeO n s1) G1).clr n) fun _ => iteK (decide (c ∈ os)) (fun _ => .exc c s1 G1) fun _ => .bad
  | .tryx b ks c, s, G => (exec b s G).catch fun c1 s1 G1 => iteK (decide (c1 ∈ ks)) (fun _ => .exc c s1 G1) fun _ => .bad
end
def run (cl : List Nat → Nat → List D → Hp → R) (gl : Nat → Option D) (m : List Nat) (f : Fn) (args : List D) (G : Hp) : R :=
  if args.length = f.np then fin f.trn f.frz G.length (exec cl gl (if f.trn then G.length :: m else m) f.body (args.map some ++ List.replicate (f.ns - f.np) none) G) else .bad
def call (T : Nat → Option Fn) (gl : Nat → Option D) : Nat → List Nat → Nat → List D → Hp → R
  | 0, _, _, _, _ => .bad
  | n + 1, m, f, args, G => optK (T f) (fun fn => run (call T gl n) gl m fn args G) .bad
end PK
namespace PK
section
end
end PK
namespace PKS
open PySem PySem.Spec PyProof.Rows L2

structure Lk where
  CA : Nat → Addr
  FN : Nat → List Str
  EA : Nat → Addr
  /-- objects of no value: a comprehension's list under way -/
  Z : Addr → Prop
  /-- what is known of the names' values in a clause -/
  P : L2.St → Prop
def Lk.w (lk : Lk) (Z : Addr → Prop) : Lk := { lk with Z := Z }
section
end
def Lk.p (lk : Lk) (P : L2.St → Prop) : Lk := { lk with P := P }
section
end
section
variable {K : PySem.W.Frag} {lk : Lk} {ρ ρ' ρ1 ρ2 : Nm} {n n' n1 n2 m : Nat} {H H' H1 H2 : Hp} {p : Addr} {o : HO} {G : Cells}
def Lk.add (lk : Lk) (A : Addr) : Lk := lk.w fun a => lk.Z a ∨ a = A
end

section
end
end PKS
namespace PKS
open PySem PySem.Spec PyProof.Rows L2
section
end
section
end
end PKS
namespace PKS
open PySem PySem.Spec PyProof.Rows L2
section
end
end PKS
namespace PKS
open PySem PySem.Spec PyProof.Rows L2
section
end
end PKS
namespace PKS
open PySem PySem.Spec PyProof.Rows L2
section
end
end PKS
namespace PKS
open PySem PySem.Spec PyProof.Rows L2
section
end
end PKS
namespace PKS
open PySem PySem.Spec PyProof.Rows L2
section
end
end PKS
namespace PKS
open PySem PySem.Spec PyProof.Rows L2
section
end
end PKS
namespace PKS
open PySem PySem.Spec PyProof.Rows L2
end PKS
namespace PKS
open PySem PySem.Spec PyProof.Rows L2

end PKS
namespace PKS
open PySem PySem.Spec PyProof.Rows L2
section
end
end PKS
namespace PKS
open PySem PySem.Spec PyProof.Rows L2
section
end
end PKS
namespace PKS
open PySem PySem.Spec PyProof.Rows L2
section
end

section
end
end PKS
namespace PKS
open PySem PySem.Spec PyProof.Rows L2
section
end
end PKS
namespace PKS
open PySem PySem.Spec PyProof.Rows L2
section
end
section
end
end PKS
namespace PKS
open PySem PySem.Spec PyProof.Rows L2
section
end
section
end
end PKS
namespace PKS
open PySem PySem.Spec PyProof.Rows L2
section
variable {X : Cx} {pins : List (Addr × Obj)} {σ : L2.St} {H : Hp} {s : Shared} {E : Value → Shared → Prop} {tg : Expr}
abbrev Recs (X : Cx) (pins : List (Addr × Obj)) (H : Hp) (ch : List Addr) : Prop := ∀ b ∈ ch, FpOk X pins H b
end
section
end
end PKS
namespace PKS
open PySem PySem.Spec PyProof.Rows L2
section
end
section
end
end PKS
namespace PKS
open PySem PySem.Spec PyProof.Rows L2
section
end
section
end
section
end
end PKS
namespace PKS
open PySem PySem.Spec PyProof.Rows L2 RZ
section
end
section
end
end PKS
namespace PKS
open PySem PySem.Spec PyProof.Rows L2
abbrev blkY (X : Cx) (s : Shared) (H : Hp) (scope : Scope) (fp : List Addr) (pn : List (Addr × Obj)) (xe : Env → Value → Shared → Prop) (ce : Env) : Cx := (X.blk s H scope ce fp).tr pn (xe ce)
section
end
section
variable {X : Cx} {pins : List (Addr × Obj)} {σ : L2.St} {H H' : Hp} {s s' : Shared} {fp : List Addr} {D : Addr}
theorem leave {scope : Scope} {ce : Env} {pn : List (Addr × Obj)} {xe : Env → Value → Shared → Prop} {σ2 : L2.St} (I : Inv X pins σ H s) (f : Recs X pins H fp) (K : Inv (blkY X s H scope fp pn xe ce) [] σ2 H' s') (hc : ce.locals = s.heap.objs.size) :
    Inv X pins σ H' s' ∧ (∃ m, s'.heap.Ns ce.locals m) ∧ FpOk X pins H' ce.locals := by
  obtain ⟨m, ns, _⟩ := K.loc
  have free : H' ce.locals = none := K.free
  exact ⟨I.call' K.os K.base K.hok K.bare fun b hb => let ⟨_, l, _, y, c, p⟩ := f b hb; ⟨y, l, c, p⟩, ⟨m, ns⟩, hc ▸ I.fpOk (Nat.le_refl _) (hc ▸ free)⟩
end
end PKS
namespace PKS
open PySem PySem.Spec PyProof.Rows L2
section
end

section
end
section
end
end PKS
namespace PKS
open PySem PySem.Spec PyProof.Rows L2
section
end
section
end
end PKS
namespace PKS
open PySem PySem.Spec PyProof.Rows L2
section
end
section
end
section
end
end PKS
namespace PKS
open PySem PySem.Spec PyProof.Rows L2
section
end
end PKS
namespace PKS
open PySem PySem.Spec PyProof.Rows L2
section
section
end
section
end
end
end PKS
namespace PKS
open PySem PySem.Spec PyProof.Rows L2
section
end
end PKS
namespace PKS
open PySem PySem.Spec PyProof.Rows L2
open PySem.W (EachIs)
open PK (leKV sortKV)
section
end
end PKS
namespace PKS
open PySem PySem.Spec PyProof.Rows L2
section
end
section
end
end PKS
namespace PKS
open PySem PySem.Spec PyProof.Rows L2
section
end
section
end
section
end
end PKS
namespace PKS
open PySem PySem.Spec PyProof.Rows L2
structure Sig where
  N : List Str
  sc : Scope
  fn : Str → Bool
  fnm : List (Option Str)
  gnm : List Str
  free : List Str
  mth : List (Option (Nat × Str))
  cnm : List Str
  fld : List (List Str)
  /-- the classes of errors, and which are under which -/
  exn : List Str
  sub : List (List Nat)
  /-- nothing is handled; else: the clause's name, the class (by its number) of what it holds -/
  calm : Bool
  hx : Option (Option Nat × Nat)
  /-- defs that are asked about what is held: name, class, answer -/
  xfn : List (Str × Nat × PK.D)
  /-- the def's own block: nothing is tried around it -/
  top : Bool
  /-- within a comprehension -/
  blk : Bool
  /-- what is held has no context -/
  bare : Bool := false
def Sig.hot (Γ : Sig) (b : Bool) (n : Option Nat) (c : Nat) : Sig := { Γ with fnm := [], mth := [], calm := false, hx := some (n, c), top := false, bare := b }
def initN : Str := "__init__"
section
end
end PKS
namespace PKS
open PySem PySem.Spec PyProof.Rows L2
section
end
section
end
end PKS
namespace PKS
open PySem PySem.Spec PyProof.Rows L2
section
end

section
open PK (uniq)
end
open PK (uniq)
section
end
section
end
end PKS
namespace PKS
open PySem PySem.Spec PyProof.Rows L2
open PK (uniq)
section
end
end PKS
namespace PKS
open PySem PySem.Spec PyProof.Rows L2
section
end
end PKS
namespace PKS
open PySem PySem.Spec PyProof.Rows L2
open HotX (HotAt)
section
section
end
end
end PKS
namespace PKS
open PySem PySem.Spec PyProof.Rows L2
open HotX (HotAt)
section
end
section
end
section
end
end PKS
namespace PKS
open PySem PySem.Spec PyProof.Rows L2
section
end
section
end
end PKS
namespace PKS
open PySem PySem.Spec PyProof.Rows L2
section
end
end PKS
namespace PKS
open PySem PySem.Spec PyProof.Rows L2
section
end
end PKS
namespace PKS
open PySem PySem.Spec PyProof.Rows L2
section
end
end PKS
namespace PKS
open PySem PySem.Spec PyProof.Rows L2
section
end

structure Ent where
  name : Str
  qual : Str
  cn : Option (Nat × Str)
  st : Stmt
  N : List Str
  ps : List Str
  fn : PK.Fn
  /-- a def that is asked about exceptions: class, answer, text -/
  hot : List (Nat × PK.D × PK.M)
abbrev Clss := List (Str × List Str)
abbrev Exs := List (Str × List Nat)
def Ent.at_ (e : Ent) : Str × Option Str := match e.cn with
  | none => (e.name, none)
  | some (_, x) => (x, some e.name)
def Ent.dd (e : Ent) : He.DefD := ⟨e.at_, e.name, e.qual, defArgs e.st, defBody e.st, defScope e.st, [], []⟩
section
end

section
end
end PKS
namespace PKS
open PySem PySem.Spec PyProof.Rows L2
def conF : Str × PK.D → He.Fa
  | (x, .int i) => .int x i
  | (x, .str s) => .str x s
  | (x, _) => .glo x
def dvO : PK.D → Option He.Dv
  | .non => some .non
  | .bl b => some (.bl b)
  | .int i => some (.int i)
  | .str s => some (.str s)
  | _ => none
def dvs : List PK.D → Option (List He.Dv)
  | [] => some []
  | d :: ds => (dvO d).bind fun x => (dvs ds).bind fun xs => some (x :: xs)
def exC (K : PySem.W.Frag) : Str × PK.D → Bool
  | (x, .tup ds) => match dvs ds with
    | some vs => He.tupB K x vs
    | none => false
  | _ => true
def excB (K : PySem.W.Frag) (x : Str) : Bool :=
  He.eqO (PySem.W.findIn K (.ref (He.ga K x)) "__getattribute__") (some (some (.builtin "BaseException.__getattribute__"))) && (He.eqO (PySem.W.findIn K (.ref (He.ga K x)) "__getattr__") (some none) &&
  (decide (PySem.W.subIn K (.ref (He.ga K x)) (.type "BaseException") = some true) && (PySem.W.hasDictIn K (He.ga K x) && (He.eqO (PySem.W.findIn K (.ref (He.ga K x)) "__class__") (some (some (.builtin "object.__class__"))) &&
  (He.eqO (PySem.W.specialIn K (.builtin "object.__class__") "__get__") (some (some (.builtin "getset_descriptor.__get__"))) && (decide (PySem.W.takesIn K (.builtin "object.__class__") = some true) && (decide (PySem.W.mroIn K (He.ga K x) (.type "object") = some true) && decide (PySem.W.kitOne K (.ref (He.ga K x)) (.type "ValueError") = some true))))))))
def exmB (K : PySem.W.Frag) (xs : Exs) (i j : Nat) : Bool :=
  decide (PySem.W.exmOne K (.ref (He.ga K ((xs.map (·.1)).getD i Str.empty))) (.ref (He.ga K ((xs.map (·.1)).getD j Str.empty))) = some (decide (i ∈ (xs.map (·.2)).getD j []))) &&
  decide (PySem.W.kitOne K (.ref (He.ga K ((xs.map (·.1)).getD i Str.empty))) (.ref (He.ga K ((xs.map (·.1)).getD j Str.empty))) = some (decide (i ∈ (xs.map (·.2)).getD j [])))
def exX (xs : Exs) (K : PySem.W.Frag) : Bool := xs.all (fun p => excB K p.1) && (List.range xs.length).all fun i => (List.range xs.length).all fun j => exmB K xs i j
def exF (cons : List (Str × PK.D)) (xs : Exs) (K : PySem.W.Frag) : Bool := cons.all (exC K) && exX xs K
abbrev AlP : Type := He.AlD × Bool
def obsP (n : Nat) (fa : List He.Fa) (fn : List He.DefD) (ex : PySem.W.Frag → Bool) (g : Addr → Option Obj) : AlP := (He.obsD fa fn (He.frG g (He.asD g n)), ex (He.frG g (He.asD g n)))
def hookP (n : Nat) (fa : List He.Fa) (fn : List He.DefD) (ex : PySem.W.Frag → Bool) : PySem.W.Hook where
  α := AlP
  obs := fun s => obsP n fa fn ex s.heap.get?
  val := fun _ => (He.valD fn, true)
  says := fun _ h => ∃ K : PySem.W.Frag, K.In h ∧ He.SaysD fa fn K ∧ ex K = true
  of := fun _ _ e => ⟨_, He.frG_in, congrArg (fun z : AlP => z.1) e, congrArg (fun z : AlP => z.2) e⟩
  keeps := fun _ _ _ ⟨K, hK, c⟩ k => ⟨K, PySem.W.Frag.In.keeps hK k, c⟩
def entF (e : Ent) : He.Fa := match e.cn with
  | none => .glo e.name
  | some (_, x) => if e.name = initN then .mkr x else .meth x e.name
def clsF (p : Str × List Str) : List He.Fa := .glo p.1 :: .cls p.1 :: p.2.map (.noat p.1)
def errF (p : Str × List Nat) : List He.Fa := [.glo p.1, .exc p.1]
def faOf (ents : List Ent) (free : List Str) (cons : List (Str × PK.D)) (cs : Clss) (xs : Exs) : List He.Fa := ents.map entF ++ (free.map .free ++ (cons.map conF ++ (cs.flatMap clsF ++ xs.flatMap errF)))
def glOf (cons : List (Str × PK.D)) : Nat → Option PK.D := fun i => (cons[i]?).map (·.2)
section
end
end PKS
namespace Tk72
open PK
def f_is_whole : Fn := ⟨1, 1, true, true, (.ret (.and_ (.isi [.int] (.v 0)) (.not_ (.isi [.bool] (.v 0)))))⟩
def f_is_wide : Fn := ⟨1, 1, true, true, (.ret (.and_ (.call 0 (.cons (.v 0) .nil)) (.chain .le .le (.neg (.g 1)) (.v 0) (.g 1))))⟩
def f_is_none : Fn := ⟨1, 5, true, true, (.seq (.asg [(.nm 1), (.nm 2), (.nm 3), (.nm 4)] (.v 0))
  (.ret (.and_ (.call 0 (.cons (.v 1) .nil)) (.and_ (.cmp .eq (.v 1) (.c (.int 0))) (.and_ (.call 0 (.cons (.v 2) .nil)) (.and_ (.cmp .eq (.v 2) (.c (.int 0))) (.and_ (.cmp .is_ (.v 3) (.c .non)) (.cmp .is_ (.v 4) (.c .non)))))))))⟩
def f_is_some : Fn := ⟨1, 5, true, true, (.seq (.asg [(.nm 1), (.nm 2), (.nm 3), (.nm 4)] (.v 0))
  (.seq (.ite (.or_ (.not_ (.call 0 (.cons (.v 1) .nil))) (.or_ (.not_ (.call 0 (.cons (.v 2) .nil))) (.or_ (.not_ (.call 1 (.cons (.v 3) .nil))) (.not_ (.call 1 (.cons (.v 4) .nil)))))) (.ret (.c (.bl false)))
  .pass)
  (.seq (.ite (.or_ (.not_ (.chain .le .le (.c (.int 1)) (.v 1) (.g 0))) (.cmp .gt (.v 3) (.v 4))) (.ret (.c (.bl false)))
  .pass)
  (.seq (.ite (.cmp .eq (.v 1) (.c (.int 1))) (.ret (.and_ (.cmp .eq (.v 2) (.v 3)) (.cmp .eq (.v 3) (.v 4))))
  .pass)
  (.ret (.chain .le .le (.bin .add false (.bin .mul false (.v 3) (.bin .sub false (.v 1) (.c (.int 1)))) (.v 4)) (.v 2) (.bin .add false (.bin .mul false (.v 4) (.bin .sub false (.v 1) (.c (.int 1)))) (.v 3))))))))⟩
def f_state_of : Fn := ⟨1, 1, true, true, (.seq (.ite (.or_ (.not_ (.isi [.tuple, .list] (.v 0))) (.cmp .ne (.bi .len false (.cons (.v 0) .nil)) (.c (.int 4)))) (.raise 2)
  .pass)
  (.seq (.ite (.and_ (.not_ (.call 2 (.cons (.v 0) .nil))) (.not_ (.call 3 (.cons (.v 0) .nil)))) (.raise 2)
  .pass)
  (.ret (.bi .tuple false (.cons (.v 0) .nil)))))⟩
def f_want_bounds : Fn := ⟨2, 2, true, true, (.ite (.or_ (.not_ (.call 1 (.cons (.v 0) .nil))) (.or_ (.not_ (.call 1 (.cons (.v 1) .nil))) (.cmp .gt (.v 0) (.v 1)))) (.raise 1)
  .pass)⟩
def f_musts : Fn := ⟨2, 3, true, true, (.seq (.set 2 (.lst true .nil))
  (.seq (.ite (.or_ (.cmp .eq (.v 0) (.g 3)) (.cmp .lt (.ix (.v 1) (.c (.int 2))) (.ix (.v 0) (.c (.int 2))))) (.ex (.mt .append false (.v 2) (.cons (.ix (.v 1) (.c (.int 2))) .nil)))
  .pass)
  (.seq (.ite (.and_ (.or_ (.cmp .eq (.v 0) (.g 3)) (.cmp .gt (.ix (.v 1) (.c (.int 3))) (.ix (.v 0) (.c (.int 3))))) (.cmp .notin (.ix (.v 1) (.c (.int 3))) (.v 2))) (.ex (.mt .append false (.v 2) (.cons (.ix (.v 1) (.c (.int 3))) .nil)))
  .pass)
  (.ret (.v 2)))))⟩
def f_even : Fn := ⟨4, 6, true, true, (.seq (.ite (.cmp .eq (.v 0) (.c (.int 0))) (.ret (.ite (.cmp .eq (.v 1) (.c (.int 0))) (.lst false .nil) (.c .non)))
  .pass)
  (.seq (.asg [(.nm 4), (.nm 5)] (.bi .divmod false (.cons (.v 1) (.cons (.v 0) .nil))))
  (.seq (.ite (.or_ (.cmp .gt (.v 2) (.v 3)) (.not_ (.chain .le .le (.bin .mul false (.v 0) (.v 2)) (.v 1) (.bin .mul false (.v 0) (.v 3))))) (.ret (.c .non))
  .pass)
  (.ret (.bin .add false (.bin .mul false (.lst false (.cons (.v 4) .nil)) (.bin .sub false (.v 0) (.v 5))) (.bin .mul false (.lst false (.cons (.bin .add false (.v 4) (.c (.int 1))) .nil)) (.v 5)))))))⟩
def f_is_within : Fn := ⟨2, 2, true, true, (.ret (.or_ (.cmp .eq (.v 0) (.g 3)) (.and_ (.cmp .le (.ix (.v 1) (.c (.int 2))) (.ix (.v 0) (.c (.int 2)))) (.cmp .ge (.ix (.v 1) (.c (.int 3))) (.ix (.v 0) (.c (.int 3)))))))⟩
def f_plan_between : Fn := ⟨4, 8, true, true, (.seq (.set 4 (.call 6 (.cons (.v 0) (.cons (.v 1) .nil))))
  (.seq (.set 5 (.bin .sub false (.bin .sub false (.ix (.v 1) (.c (.int 0))) (.ix (.v 0) (.c (.int 0)))) (.bi .len false (.cons (.v 4) .nil))))
  (.seq (.ite (.or_ (.cmp .lt (.v 5) (.c (.int 0))) (.not_ (.bi .all false (.cons (.comp false .val [7] [7] true (.cons (.v 4) .nil) (.c (.bl true)) (.chain .le .le (.v 2) (.v 7) (.v 3))) .nil)))) (.ret (.c .non))
  .pass)
  (.seq (.set 6 (.call 7 (.cons (.v 5) (.cons (.bin .sub false (.bin .sub false (.ix (.v 1) (.c (.int 1))) (.ix (.v 0) (.c (.int 1)))) (.bi .sum false (.cons (.v 4) .nil))) (.cons (.bi .max2 false (.cons (.v 2) (.cons (.ix (.v 1) (.c (.int 2))) .nil))) (.cons (.bi .min2 false (.cons (.v 3) (.cons (.ix (.v 1) (.c (.int 3))) .nil))) .nil))))))
  (.seq (.ite (.cmp .is_ (.v 6) (.c .non)) (.ret (.c .non))
  .pass)
  (.ret (.bi .sorted false (.cons (.bin .add false (.v 4) (.v 6)) .nil))))))))⟩
def f_plan : Fn := ⟨4, 4, true, true, (.seq (.set 0 (.call 4 (.cons (.v 0) .nil)))
  (.seq (.set 1 (.call 4 (.cons (.v 1) .nil)))
  (.seq (.ex (.call 5 (.cons (.v 2) (.cons (.v 3) .nil))))
  (.seq (.ite (.cmp .eq (.v 0) (.v 1)) (.ret (.lst false .nil))
  .pass)
  (.seq (.ite (.or_ (.not_ (.chain .lt .le (.c (.int 0)) (.bin .sub false (.ix (.v 1) (.c (.int 0))) (.ix (.v 0) (.c (.int 0)))) (.g 2))) (.not_ (.call 8 (.cons (.v 0) (.cons (.v 1) .nil))))) (.ret (.c .non))
  .pass)
  (.ret (.call 9 (.cons (.v 0) (.cons (.v 1) (.cons (.v 2) (.cons (.v 3) .nil)))))))))))⟩
def f_law_cell : Fn := ⟨2, 2, true, true, (.seq (.ite (.cmp .lt (.v 1) (.bi .len false (.cons (.v 0) .nil))) (.ret (.ix (.v 0) (.v 1)))
  .pass)
  (.ret (.c (.int 0))))⟩
def f_law_pot : Fn := ⟨1, 1, true, false, (.ret (.lst true (.cons (.bi .max2 false (.cons (.c (.int 0)) (.cons (.bin .sub false (.bi .abs false (.cons (.v 0) .nil)) (.bin .pow false (.c (.int 10)) (.c (.int 18)))) .nil))) (.cons (.bin .add false (.bin .mod false (.bi .abs false (.cons (.v 0) .nil)) (.c (.int 2147483563))) (.c (.int 1))) .nil))))⟩
def f_law_take : Fn := ⟨2, 3, true, true, (.seq (.ite (.cmp .gt (.ix (.v 0) (.c (.int 0))) (.c (.int 0))) (.seq (.asg [(.sb (.v 0) (.c (.int 0))), (.nm 2)] (.bi .divmod false (.cons (.ix (.v 0) (.c (.int 0))) (.cons (.v 1) .nil))))
  (.ret (.v 2)))
  .pass)
  (.seq (.put (.sb (.v 0) (.c (.int 1))) (.bin .mod false (.bin .add false (.bin .mul false (.ix (.v 0) (.c (.int 1))) (.c (.int 39373))) (.c (.int 7919))) (.c (.int 2147483629))))
  (.ret (.bin .mod false (.bin .fdiv false (.bin .mod false (.bin .mul false (.ix (.v 0) (.c (.int 1))) (.ix (.v 0) (.c (.int 1)))) (.c (.int 2147483563))) (.c (.int 11))) (.v 1)))))⟩
def f_law_added : Fn := ⟨2, 7, true, true, (.seq (.asg [(.nm 2), (.nm 3), (.nm 4), (.nm 5)] (.v 0))
  (.seq (.for .val [6] true (.cons (.v 1) .nil) (.seq (.set 2 (.bin .add false (.v 2) (.c (.int 1))))
  (.seq (.set 3 (.bin .add false (.v 3) (.v 6)))
  (.seq (.ite (.or_ (.cmp .is_ (.v 4) (.c .non)) (.cmp .lt (.v 6) (.v 4))) (.set 4 (.v 6))
  .pass)
  (.ite (.or_ (.cmp .is_ (.v 5) (.c .non)) (.cmp .gt (.v 6) (.v 5))) (.set 5 (.v 6))
  .pass)))))
  (.ret (.tup (.cons (.v 2) (.cons (.v 3) (.cons (.v 4) (.cons (.v 5) .nil))))))))⟩
def f_law_leads : Fn := ⟨5, 7, true, true, (.seq (.ite (.or_ (.not_ (.isi [.list] (.v 4))) (.cmp .ne (.bi .len false (.cons (.v 4) .nil)) (.bin .sub false (.ix (.v 1) (.c (.int 0))) (.ix (.v 0) (.c (.int 0)))))) (.ret (.c (.bl false)))
  .pass)
  (.seq (.for .enum [5, 6] false (.cons (.v 4) .nil) (.seq (.ite (.or_ (.not_ (.isi [.int] (.v 6))) (.or_ (.isi [.bool] (.v 6)) (.not_ (.chain .le .le (.v 2) (.v 6) (.v 3))))) (.ret (.c (.bl false)))
  .pass)
  (.ite (.and_ (.cmp .gt (.v 5) (.c (.int 0))) (.cmp .gt (.ix (.v 4) (.bin .sub false (.v 5) (.c (.int 1)))) (.v 6))) (.ret (.c (.bl false)))
  .pass)))
  (.ret (.cmp .eq (.call 14 (.cons (.v 0) (.cons (.v 4) .nil))) (.v 1)))))⟩
def f_law_goal : Fn := ⟨2, 7, true, true, (.seq (.ite (.cmp .lt (.v 1) (.c (.int 1))) (.ret (.tup (.cons (.c (.int 0)) (.cons (.c (.int 0)) (.cons (.c .non) (.cons (.c .non) .nil))))))
  .pass)
  (.seq (.par [2, 3] (.cons (.bin .sub false (.call 13 (.cons (.v 0) (.cons (.c (.int 11)) .nil))) (.c (.int 5))) (.cons (.bin .sub false (.call 13 (.cons (.v 0) (.cons (.c (.int 11)) .nil))) (.c (.int 5))) .nil)))
  (.seq (.par [4, 5] (.cons (.bi .min2 false (.cons (.v 2) (.cons (.v 3) .nil))) (.cons (.bi .max2 false (.cons (.v 2) (.cons (.v 3) .nil))) .nil)))
  (.seq (.ite (.cmp .eq (.v 1) (.c (.int 1))) (.ret (.tup (.cons (.c (.int 1)) (.cons (.v 4) (.cons (.v 4) (.cons (.v 4) .nil))))))
  .pass)
  (.seq (.set 6 (.bin .add false (.bin .mul false (.v 4) (.bin .sub false (.v 1) (.c (.int 1)))) (.v 5)))
  (.ret (.tup (.cons (.v 1) (.cons (.bin .add false (.v 6) (.call 13 (.cons (.v 0) (.cons (.bin .add false (.bin .mul false (.bin .sub false (.v 5) (.v 4)) (.bin .sub false (.v 1) (.c (.int 2)))) (.c (.int 1))) .nil)))) (.cons (.v 4) (.cons (.v 5) .nil)))))))))))⟩
def f_law_all : Fn := ⟨3, 8, true, true, (.seq (.set 3 (.lst true (.cons (.lst false (.cons (.v 0) .nil)) .nil)))
  (.seq (.for .range1 [4] true (.cons (.c (.int 5)) .nil) (.seq (.set 5 (.dnew true))
  (.seq (.for .val [6] true (.cons (.ix (.v 3) (.neg (.c (.int 1)))) .nil) (.for .range2 [7] true (.cons (.v 1) (.cons (.bin .add false (.v 2) (.c (.int 1))) .nil)) (.put (.sb (.v 5) (.call 14 (.cons (.v 6) (.cons (.lst false (.cons (.v 7) .nil)) .nil)))) (.c (.bl true)))))
  (.ex (.mt .append false (.v 3) (.cons (.bi .listT false (.cons (.v 5) .nil)) .nil))))))
  (.ret (.v 3))))⟩
def f_law : Fn := ⟨1, 13, true, true, (.seq (.for .range1 [1] true (.cons (.bi .max2 false (.cons (.c (.int 2)) (.cons (.bi .min2 false (.cons (.bi .len false (.cons (.v 0) .nil)) (.cons (.c (.int 6)) .nil))) .nil))) .nil) (.seq (.set 2 (.call 12 (.cons (.bin .add false (.call 11 (.cons (.v 0) (.cons (.v 1) .nil))) (.v 1)) .nil)))
  (.seq (.set 3 (.call 14 (.cons (.tup (.cons (.c (.int 0)) (.cons (.c (.int 0)) (.cons (.c .non) (.cons (.c .non) .nil))))) (.cons (.comp false .range1 [9] [9] true (.cons (.call 13 (.cons (.v 2) (.cons (.c (.int 4)) .nil))) .nil) (.c (.bl true)) (.bin .sub false (.call 13 (.cons (.v 2) (.cons (.c (.int 9)) .nil))) (.c (.int 4)))) .nil))))
  (.seq (.par [4, 5] (.cons (.bin .sub false (.call 13 (.cons (.v 2) (.cons (.c (.int 7)) .nil))) (.c (.int 3))) (.cons (.bin .sub false (.call 13 (.cons (.v 2) (.cons (.c (.int 7)) .nil))) (.c (.int 3))) .nil)))
  (.seq (.par [6, 7] (.cons (.bi .min2 false (.cons (.v 4) (.cons (.v 5) .nil))) (.cons (.bi .max2 false (.cons (.v 4) (.cons (.v 5) .nil))) .nil)))
  (.seq (.set 8 (.call 17 (.cons (.v 3) (.cons (.v 6) (.cons (.v 7) .nil)))))
  (.for .range1 [9] true (.cons (.c (.int 40)) .nil) (.seq (.set 10 (.bin .sub false (.call 13 (.cons (.v 2) (.cons (.c (.int 7)) .nil))) (.c (.int 1))))
  (.seq (.set 11 (.call 16 (.cons (.v 2) (.cons (.bin .add false (.ix (.v 3) (.c (.int 0))) (.v 10)) .nil))))
  (.seq (.ite (.and_ (.cmp .eq (.call 13 (.cons (.v 2) (.cons (.c (.int 2)) .nil))) (.c (.int 0))) (.cmp .ge (.v 10) (.c (.int 0)))) (.set 11 (.ix (.ix (.v 8) (.v 10)) (.call 13 (.cons (.v 2) (.cons (.bi .len false (.cons (.ix (.v 8) (.v 10)) .nil)) .nil)))))
  .pass)
  (.seq (.set 12 (.call 10 (.cons (.v 3) (.cons (.v 11) (.cons (.v 6) (.cons (.v 7) .nil))))))
  (.ite (.cmp .is_ (.v 12) (.c .non)) (.ite (.and_ (.cmp .ge (.v 10) (.c (.int 0))) (.cmp .inp (.v 11) (.ix (.v 8) (.v 10)))) (.ret (.c (.bl false)))
  .pass)
  (.ite (.not_ (.call 15 (.cons (.v 3) (.cons (.v 11) (.cons (.v 6) (.cons (.v 7) (.cons (.v 12) .nil))))))) (.ret (.c (.bl false)))
  .pass)))))))))))))
  (.ret (.c (.bl true))))⟩
open PySem PKS
def st (i : Nat) : Stmt := PySem.Challenge.pw_peakroll_k72_none_where_none.main.body.getD i (.Pass ⟨0, 0, 0, 0⟩)
def e_is_whole : Ent := ⟨PySem.Str.ofString "is_whole", PySem.Str.ofString "is_whole", none, st 9, [PySem.Str.ofString "thing"], [PySem.Str.ofString "thing"], f_is_whole, []⟩
def e_is_wide : Ent := ⟨PySem.Str.ofString "is_wide", PySem.Str.ofString "is_wide", none, st 10, [PySem.Str.ofString "thing"], [PySem.Str.ofString "thing"], f_is_wide, []⟩
def e_is_none : Ent := ⟨PySem.Str.ofString "is_none", PySem.Str.ofString "is_none", none, st 11, [PySem.Str.ofString "thing", PySem.Str.ofString "count", PySem.Str.ofString "total", PySem.Str.ofString "least", PySem.Str.ofString "greatest"], [PySem.Str.ofString "thing"], f_is_none, []⟩
def e_is_some : Ent := ⟨PySem.Str.ofString "is_some", PySem.Str.ofString "is_some", none, st 12, [PySem.Str.ofString "thing", PySem.Str.ofString "count", PySem.Str.ofString "total", PySem.Str.ofString "least", PySem.Str.ofString "greatest"], [PySem.Str.ofString "thing"], f_is_some, []⟩
def e_state_of : Ent := ⟨PySem.Str.ofString "state_of", PySem.Str.ofString "state_of", none, st 13, [PySem.Str.ofString "thing"], [PySem.Str.ofString "thing"], f_state_of, []⟩
def e_want_bounds : Ent := ⟨PySem.Str.ofString "want_bounds", PySem.Str.ofString "want_bounds", none, st 14, [PySem.Str.ofString "low", PySem.Str.ofString "high"], [PySem.Str.ofString "low", PySem.Str.ofString "high"], f_want_bounds, []⟩
def e_musts : Ent := ⟨PySem.Str.ofString "musts", PySem.Str.ofString "musts", none, st 15, [PySem.Str.ofString "state", PySem.Str.ofString "goal", PySem.Str.ofString "found"], [PySem.Str.ofString "state", PySem.Str.ofString "goal"], f_musts, []⟩
def e_even : Ent := ⟨PySem.Str.ofString "even", PySem.Str.ofString "even", none, st 16, [PySem.Str.ofString "many", PySem.Str.ofString "total", PySem.Str.ofString "low", PySem.Str.ofString "high", PySem.Str.ofString "least", PySem.Str.ofString "more"], [PySem.Str.ofString "many", PySem.Str.ofString "total", PySem.Str.ofString "low", PySem.Str.ofString "high"], f_even, []⟩
def e_is_within : Ent := ⟨PySem.Str.ofString "is_within", PySem.Str.ofString "is_within", none, st 17, [PySem.Str.ofString "state", PySem.Str.ofString "goal"], [PySem.Str.ofString "state", PySem.Str.ofString "goal"], f_is_within, []⟩
def e_plan_between : Ent := ⟨PySem.Str.ofString "plan_between", PySem.Str.ofString "plan_between", none, st 18, [PySem.Str.ofString "state", PySem.Str.ofString "goal", PySem.Str.ofString "low", PySem.Str.ofString "high", PySem.Str.ofString "needed", PySem.Str.ofString "left", PySem.Str.ofString "rest", PySem.Str.ofString "value"], [PySem.Str.ofString "state", PySem.Str.ofString "goal", PySem.Str.ofString "low", PySem.Str.ofString "high"], f_plan_between, []⟩
def e_plan : Ent := ⟨PySem.Str.ofString "plan", PySem.Str.ofString "plan", none, st 19, [PySem.Str.ofString "state", PySem.Str.ofString "goal", PySem.Str.ofString "low", PySem.Str.ofString "high"], [PySem.Str.ofString "state", PySem.Str.ofString "goal", PySem.Str.ofString "low", PySem.Str.ofString "high"], f_plan, []⟩
def e_law_cell : Ent := ⟨PySem.Str.ofString "_law_cell", PySem.Str.ofString "_law_cell", none, st 21, [PySem.Str.ofString "_law_script", PySem.Str.ofString "_law_k"], [PySem.Str.ofString "_law_script", PySem.Str.ofString "_law_k"], f_law_cell, []⟩
def e_law_pot : Ent := ⟨PySem.Str.ofString "_law_pot", PySem.Str.ofString "_law_pot", none, st 22, [PySem.Str.ofString "_law_cell_here"], [PySem.Str.ofString "_law_cell_here"], f_law_pot, []⟩
def e_law_take : Ent := ⟨PySem.Str.ofString "_law_take", PySem.Str.ofString "_law_take", none, st 23, [PySem.Str.ofString "_law_pot_here", PySem.Str.ofString "_law_many", PySem.Str.ofString "_law_digit"], [PySem.Str.ofString "_law_pot_here", PySem.Str.ofString "_law_many"], f_law_take, []⟩
def e_law_added : Ent := ⟨PySem.Str.ofString "_law_added", PySem.Str.ofString "_law_added", none, st 24, [PySem.Str.ofString "_law_state", PySem.Str.ofString "_law_values", PySem.Str.ofString "_law_count", PySem.Str.ofString "_law_total", PySem.Str.ofString "_law_least", PySem.Str.ofString "_law_greatest", PySem.Str.ofString "_law_value"], [PySem.Str.ofString "_law_state", PySem.Str.ofString "_law_values"], f_law_added, []⟩
def e_law_leads : Ent := ⟨PySem.Str.ofString "_law_leads", PySem.Str.ofString "_law_leads", none, st 25, [PySem.Str.ofString "_law_state", PySem.Str.ofString "_law_goal_here", PySem.Str.ofString "_law_low", PySem.Str.ofString "_law_high", PySem.Str.ofString "_law_told", PySem.Str.ofString "_law_k", PySem.Str.ofString "_law_value"], [PySem.Str.ofString "_law_state", PySem.Str.ofString "_law_goal_here", PySem.Str.ofString "_law_low", PySem.Str.ofString "_law_high", PySem.Str.ofString "_law_told"], f_law_leads, []⟩
def e_law_goal : Ent := ⟨PySem.Str.ofString "_law_goal", PySem.Str.ofString "_law_goal", none, st 26, [PySem.Str.ofString "_law_pot_here", PySem.Str.ofString "_law_count", PySem.Str.ofString "_law_one", PySem.Str.ofString "_law_other", PySem.Str.ofString "_law_least", PySem.Str.ofString "_law_greatest", PySem.Str.ofString "_law_low"], [PySem.Str.ofString "_law_pot_here", PySem.Str.ofString "_law_count"], f_law_goal, []⟩
def e_law_all : Ent := ⟨PySem.Str.ofString "_law_all", PySem.Str.ofString "_law_all", none, st 27, [PySem.Str.ofString "_law_state", PySem.Str.ofString "_law_low", PySem.Str.ofString "_law_high", PySem.Str.ofString "_law_found", PySem.Str.ofString "_law_k", PySem.Str.ofString "_law_some", PySem.Str.ofString "_law_one", PySem.Str.ofString "_law_value"], [PySem.Str.ofString "_law_state", PySem.Str.ofString "_law_low", PySem.Str.ofString "_law_high"], f_law_all, []⟩
def e_law : Ent := ⟨PySem.Str.ofString "law", PySem.Str.ofString "law", none, st 28, [PySem.Str.ofString "_law_script", PySem.Str.ofString "_law_k", PySem.Str.ofString "_law_pot_here", PySem.Str.ofString "_law_state", PySem.Str.ofString "_law_one", PySem.Str.ofString "_law_other", PySem.Str.ofString "_law_low", PySem.Str.ofString "_law_high", PySem.Str.ofString "_law_found", PySem.Str.ofString "_law_j", PySem.Str.ofString "_law_more", PySem.Str.ofString "_law_goal_here", PySem.Str.ofString "_law_told"], [PySem.Str.ofString "_law_script"], f_law, []⟩
def ents0 : List Ent := [e_is_whole, e_is_wide, e_is_none, e_is_some, e_state_of, e_want_bounds, e_musts, e_even, e_is_within, e_plan_between, e_plan, e_law_cell, e_law_pot, e_law_take, e_law_added, e_law_leads, e_law_goal, e_law_all, e_law]
abbrev ents : List Ent := ents0
def free0 : List Str := [PySem.Str.ofString "isinstance", PySem.Str.ofString "int", PySem.Str.ofString "bool", PySem.Str.ofString "tuple", PySem.Str.ofString "len", PySem.Str.ofString "list", PySem.Str.ofString "divmod", PySem.Str.ofString "sorted", PySem.Str.ofString "max", PySem.Str.ofString "min", PySem.Str.ofString "all", PySem.Str.ofString "sum", PySem.Str.ofString "abs", PySem.Str.ofString "enumerate", PySem.Str.ofString "range"]
abbrev free : List Str := free0
def cons0 : List (Str × D) := [(PySem.Str.ofString "MOST_COUNT", (.int 1000000000000000000000000000000)), (PySem.Str.ofString "MOST_WIDE", (.int 999999999999999999999999999999)), (PySem.Str.ofString "MOST_MORE", (.int 200)), (PySem.Str.ofString "NONE", (.tup [(.int 0), (.int 0), .non, .non]))]
abbrev cons : List (Str × D) := cons0
def clss : Clss := []
def exs : Exs := [(PySem.Str.ofString "PeakError", [0, 1, 2]), (PySem.Str.ofString "NoBounds", [1]), (PySem.Str.ofString "NoState", [2])]
abbrev gl : Nat → Option D := glOf cons
abbrev hk : PySem.W.Hook := hookP 4 (faOf ents free cons clss exs) (ents.map Ent.dd) (exF cons exs)
def ob (s : PySem.W.SharedT) : AlP := obsP 4 (faOf ents free cons clss exs) (ents.map Ent.dd) (exF cons exs) (HandSHeadRun.getT s)
def loose0 : List Str := [PySem.Str.ofString "__name__", PySem.Str.ofString "PeakError", PySem.Str.ofString "NoBounds", PySem.Str.ofString "NoState", PySem.Str.ofString "MOST_COUNT", PySem.Str.ofString "MOST_WIDE", PySem.Str.ofString "MOST_MORE", PySem.Str.ofString "NONE", PySem.Str.ofString "is_whole", PySem.Str.ofString "is_wide", PySem.Str.ofString "is_none", PySem.Str.ofString "is_some", PySem.Str.ofString "state_of", PySem.Str.ofString "want_bounds", PySem.Str.ofString "musts", PySem.Str.ofString "even", PySem.Str.ofString "is_within", PySem.Str.ofString "plan_between", PySem.Str.ofString "plan", PySem.Str.ofString "_law_cell", PySem.Str.ofString "_law_pot", PySem.Str.ofString "_law_take", PySem.Str.ofString "_law_added", PySem.Str.ofString "_law_leads", PySem.Str.ofString "_law_goal", PySem.Str.ofString "_law_all"]
abbrev loose : List Str := loose0
theorem run (w : World) : HandSHeadRun.RunEq (PySem.W.OpenLaw.row PySem.Challenge.rw_peakroll_k72_none_where_none) (PySem.W.view (PySem.W.OpenLaw.row PySem.Challenge.rw_peakroll_k72_none_where_none).prog [28]) hk ob 12000 loose w := by
  intro os
  kernel_rfl
end Tk72
set_option Elab.async false
set_option linter.all false
set_option maxRecDepth 100000
set_option maxHeartbeats 0
set_option exponentiation.threshold 3000
namespace PK
open PySem


def unl : Cell → Bool
  | .frK _ => false
  | _ => true

section
variable {α β : Type}
theorem R.bind_ok {v G f t} : (R.ok v G).bind f t = f v G := rfl
theorem R.st_ok {s v G f t} : R.st s (R.ok v G) f t = f v G := rfl
theorem O.then_nx {s G f t} : (O.nx s G).then f t = f s G := rfl
theorem O.then_ret {v G f t} : (O.ret v G).then f t = .ret v G := rfl
theorem O.turn_nx {s G f t} : (O.nx s G).turn f t = f s G := rfl
theorem iteK_true {a b : Unit → α} {t u} : iteK true a b t u = a () := rfl
theorem optK_some {x : β} {f : β → α} {d t} : optK (some x) f d t = f x := rfl
theorem tupK_tup {ds} {f : List D → α} {d t} : tupK (.tup ds) f d t = f ds := rfl
theorem blK_bl {b} {f : Bool → α} {d t} : blK (.bl b) f d t = f b := rfl
end

section
variable {α : Type}
end

section
variable (cl : List Nat → Nat → List D → Hp → R) (gl : Nat → Option D) (m : List Nat)
end
end PK
namespace PK
def cBel (k : Nat) : Cell → Prop
  | .lst ds => belows k ds = true
  | .dK kvs => belows k (kvs.map (·.2)) = true
  | .dT kvs => belows k (kvs.map (·.2)) = true
  | .ins _ ds => belows k ds = true
  | .frK kvs => belows k (kvs.map (·.2)) = true
def WF (k : Nat) (G : Hp) : Prop := k ≤ G.length ∧ ∀ i c, i < k → G[i]? = some c → cBel k c
def KR (k : Nat) : R → Prop
  | .ok _ G => WF k G
  | .exc _ G => WF k G
  | .bad => True
def KO (k : Nat) : O → Prop
  | .nx _ G => WF k G
  | .ret _ G => WF k G
  | .brk _ G => WF k G
  | .cnt _ G => WF k G
  | .exc _ _ G => WF k G
  | .bad => True
section
variable {k : Nat} {G : Hp} {m : List Nat}
theorem belows_append : ∀ {a b : List D}, belows k a = true → belows k b = true → belows k (a ++ b) = true
  | [], b, _, h => h
  | x :: a, b, h, h' => by
    obtain ⟨h1, h2⟩ := Bool.and_eq_true_iff.mp (show (below k x && belows k a) = true from h)
    show (below k x && belows k (a ++ b)) = true
    rw [h1, belows_append h2 h']; rfl
theorem belows_mem : ∀ {a : List D}, belows k a = true ↔ ∀ x ∈ a, below k x = true
  | [] => ⟨(fun _ _ h => nomatch h), fun _ => rfl⟩
  | x :: a => by
    show (below k x && belows k a) = true ↔ _
    rw [Bool.and_eq_true_iff, belows_mem (a := a)]
    simp
theorem WF.app (h : WF k G) (c : Cell) : WF k (G ++ [c]) := ⟨by rw [List.length_append]; exact Nat.le_trans h.1 (Nat.le_add_right _ _), fun i d hi e => h.2 i d hi (by rw [List.getElem?_append_left (Nat.lt_of_lt_of_le hi h.1)] at e; exact e)⟩
theorem WF.set {i : Nat} {c : Cell} (h : WF k G) (hc : i < k → cBel k c) : WF k (setC G i c) := ⟨by unfold setC; rw [List.length_set]; exact h.1, fun j d hj e => by
  unfold setC at e
  by_cases q : i = j
  · subst q
    rw [List.getElem?_set_self (Nat.lt_of_lt_of_le hj h.1)] at e
    cases e; exact hc hj
  · rw [List.getElem?_set_ne q] at e; exact h.2 j d hj e⟩
theorem WF.take {n : Nat} (h : WF k G) (hn : k ≤ n) : WF k (G.take n) := ⟨by rw [List.length_take]; exact Nat.le_min.mpr ⟨hn, h.1⟩, fun i c hi e => h.2 i c hi (by rw [List.getElem?_take_of_lt (Nat.lt_of_lt_of_le hi hn)] at e; exact e)⟩
theorem wok_of {i : Nat} {v : D} (hk : k ∈ m) (h : wok i m v = true) (hi : i < k) : below k v = true := by
  have := List.all_eq_true.mp h k hk
  rcases Bool.or_eq_true_iff.mp this with z | z
  · exact z
  · have := of_decide_eq_true z; omega
theorem KR.bind {r : R} {f : D → Hp → R} {t} (h : KR k r) (hf : ∀ v G', WF k G' → KR k (f v G')) : KR k (r.bind f t) := by
  cases r with
  | ok v G' => exact hf v G' h
  | exc c G' => exact h
  | bad => exact h
theorem KO.st {s : Env} {r : R} {f : D → Hp → O} {t} (h : KR k r) (hf : ∀ v G', WF k G' → KO k (f v G')) : KO k (R.st s r f t) := by
  cases r with
  | ok v G' => exact hf v G' h
  | exc c G' => exact h
  | bad => exact h
theorem KO.then {o : O} {f : Env → Hp → O} {t} (h : KO k o) (hf : ∀ s G', WF k G' → KO k (f s G')) : KO k (o.then f t) := by
  cases o with
  | nx s G' => exact hf s G' h
  | _ => exact h
theorem KO.turn {o : O} {f : Env → Hp → O} {t} (h : KO k o) (hf : ∀ s G', WF k G' → KO k (f s G')) : KO k (o.turn f t) := by
  cases o with
  | nx s G' => exact hf s G' h
  | cnt s G' => exact hf s G' h
  | _ => exact h
theorem KR.ite {c : Bool} {a b : Unit → R} {t u} (ha : KR k (a ())) (hb : KR k (b ())) : KR k (iteK c a b t u) := by cases c <;> assumption
theorem KO.ite {c : Bool} {a b : Unit → O} {t u} (ha : KO k (a ())) (hb : KO k (b ())) : KO k (iteK c a b t u) := by cases c <;> assumption
theorem KR.bl {x : D} {f : Bool → R} {t} (h : ∀ b, KR k (f b)) : KR k (blK x f .bad t) := by cases x <;> first | exact h _ | trivial
theorem KO.bl {x : D} {f : Bool → O} {t} (h : ∀ b, KO k (f b)) : KO k (blK x f .bad t) := by cases x <;> first | exact h _ | trivial
theorem KR.tup {x : D} {f : List D → R} {t} (h : ∀ b, KR k (f b)) : KR k (tupK x f .bad t) := by cases x <;> first | exact h _ | trivial
theorem KO.tup {x : D} {f : List D → O} {t} (h : ∀ b, KO k (f b)) : KO k (tupK x f .bad t) := by cases x <;> first | exact h _ | trivial
theorem KR.opt {β : Type} {x : Option β} {f : β → R} {t} (h : ∀ b, KR k (f b)) : KR k (optK x f .bad t) := by cases x <;> first | exact h _ | trivial
theorem KO.opt {β : Type} {x : Option β} {f : β → O} {t} (h : ∀ b, KO k (f b)) : KO k (optK x f .bad t) := by cases x <;> first | exact h _ | trivial
theorem k_mkl {w : Bool} {ds : List D} (h : WF k G) : KR k (mkl w ds G) := by cases w; exact h; exact h.app _
theorem KR.if {c : Prop} [Decidable c] {a b : R} (ha : KR k a) (hb : KR k b) : KR k (if c then a else b) := by split <;> assumption
theorem KO.if {c : Prop} [Decidable c] {a b : O} (ha : KO k a) (hb : KO k b) : KO k (if c then a else b) := by split <;> assumption
theorem k_cmp {o : Co} {x y : D} (h : WF k G) : KR k (cmpD o x y G) := by
  unfold cmpD
  cases o <;> dsimp only <;> (repeat' split) <;> first | exact h | trivial
theorem k_bin {o : Bo} {w : Bool} {x y : D} (h : WF k G) : KR k (binD o w x y G) := by
  unfold binD
  cases o <;> dsimp only <;> (repeat' split) <;> first | exact h | trivial | exact k_mkl h
theorem k_ixL {ds : List D} {y : D} (h : WF k G) : KR k (ixL ds y G) := by
  unfold ixL
  (repeat' split) <;> first | exact h | trivial
theorem k_ixK {o : Option (Option D)} (h : WF k G) : KR k (ixK o G) := by
  unfold ixK
  (repeat' split) <;> first | exact h | trivial
theorem k_ix {x y : D} (h : WF k G) : KR k (ixD x y G) := by
  unfold ixD
  (repeat' split) <;> first | exact h | trivial | exact k_ixL h | exact k_ixK h
theorem k_sl {w : Bool} {x l u : D} (h : WF k G) : KR k (slD w x l u G) := by
  unfold slD
  (repeat' split) <;> first | exact h | trivial | exact k_mkl h
theorem k_rev {w : Bool} {x : D} (h : WF k G) : KR k (revD w x G) := by
  unfold revD
  (repeat' split) <;> first | exact h | trivial | exact k_mkl h
theorem k_setlen {x : D} (h : WF k G) : KR k (setlenD x G) := by
  unfold setlenD
  (repeat' split) <;> first | exact h | trivial
theorem k_repr {x : D} (h : WF k G) : KR k (reprD G x) := by
  unfold reprD
  (repeat' split) <;> first | exact h | trivial
theorem k_bi {b : Bi} {w : Bool} {xs : List D} (h : WF k G) : KR k (biD b w xs G) := by
  unfold biD
  (repeat' split) <;> first | exact h | trivial | exact k_mkl h | exact k_repr h
theorem cell_of {i : Nat} {c : Cell} (h : WF k G) (e : G[i]? = some c) (hi : i < k) : cBel k c := h.2 i c hi e
theorem dropD_mem {κ : Type} [DecidableEq κ] {kvs : List (κ × D)} {q : κ} (h : belows k (kvs.map (·.2)) = true) : belows k ((dropD kvs q).map (·.2)) = true :=
  belows_mem.mpr fun x hx => by
    obtain ⟨kv, h1, h2⟩ := List.mem_map.mp hx
    exact belows_mem.mp h x (List.mem_map.mpr ⟨kv, (List.mem_filter.mp h1).1, h2⟩)
theorem putD_mem {κ : Type} [DecidableEq κ] {kvs : List (κ × D)} {q : κ} {v : D} (h : belows k (kvs.map (·.2)) = true) (hv : below k v = true) : belows k ((putD kvs q v).map (·.2)) = true := by
  unfold putD
  split
  · refine belows_mem.mpr fun x hx => ?_
    obtain ⟨p, hp, e⟩ := List.mem_map.mp hx
    obtain ⟨p', hp', e'⟩ := List.mem_map.mp hp
    subst e
    subst e'
    split
    · exact hv
    · exact belows_mem.mp h _ (List.mem_map.mpr ⟨p', hp', rfl⟩)
  · rw [List.map_append]
    exact belows_append h (by show (below k v && true) = true; rw [hv]; rfl)
theorem k_mt {b : Mt} {w : Bool} {o : D} {xs : List D} (hk : k ∈ m) (h : WF k G) : KR k (mtD b w m o xs G) := by
  unfold mtD
  split
  · split
    · rename_i i v _ ds e
      split
      · rename_i c
        obtain ⟨c1, c2⟩ := Bool.and_eq_true_iff.mp c
        exact h.set fun hi => belows_append (cell_of h e hi) (by show (below k v && true) = true; rw [wok_of hk c1 hi]; rfl)
      · trivial
    · trivial
  · split
    · rename_i i x _ ds e
      split
      · rename_i es e2
        split
        · rename_i c
          obtain ⟨c1, c2⟩ := Bool.and_eq_true_iff.mp c
          exact h.set fun hi => belows_append (cell_of h e hi) (belows_mem.mpr fun y hy => wok_of hk (List.all_eq_true.mp c1 y hy) hi)
        · trivial
      · trivial
    · trivial
  · split
    · exact h.set fun _ => rfl
    · trivial
  · split
    · rename_i i ds e
      split
      · exact h.set fun hi => belows_mem.mpr fun x hx => belows_mem.mp (cell_of h e hi) x (List.dropLast_subset _ hx)
      · trivial
    · trivial
  · split
    · rename_i i ki ds e
      split
      · split
        · exact h.set fun hi => belows_mem.mpr fun x hx => belows_mem.mp (cell_of h e hi) x (List.eraseIdx_subset hx)
        · trivial
      · trivial
    · trivial
  · split
    · rename_i i ks kvs e
      split
      · rename_i q e2
        split
        · exact h.set fun hi => dropD_mem (cell_of h e hi)
        · trivial
      · trivial
    · trivial
  · split
    · rename_i i ks kvs e
      split
      · rename_i q e2
        split
        · exact h.set fun hi => dropD_mem (cell_of h e hi)
        · trivial
      · trivial
    · trivial
  · split
    · rename_i i x y kvs e
      split
      · split
        · split
          · exact h
          · split
            · rename_i c
              exact h.set fun hi => putD_mem (cell_of h e hi) (wok_of hk c hi)
            · trivial
        · trivial
      · trivial
    · trivial
  · split
    · exact h
    · trivial
  · split
    · exact h
    · trivial
  · split
    · rename_i i ds e
      exact h.set fun hi => belows_mem.mpr fun x hx => belows_mem.mp (cell_of h e hi) x (List.mem_reverse.mp hx)
    · trivial
  all_goals ((repeat' split) <;> first | exact h | trivial | exact k_mkl h)
theorem k_made {w : Bool} {n : Nat} (h : WF k G) (hn : k ≤ n) : KR k (madeD w n G) := by
  unfold madeD
  cases w
  · rw [if_neg Bool.false_ne_true]
    dsimp only
    split
    · exact h.take hn
    · trivial
  · rw [if_pos rfl]; exact h
theorem k_putV {x y v : D} {s : Env} (hk : k ∈ m) (h : WF k G) : KO k (putV m x y v s G) := by
  unfold putV
  split
  · rename_i q
    cases e : G[q]? with
    | none => trivial
    | some c =>
      cases c with
      | lst ds =>
        show KO k (putL q m ds y v s G)
        unfold putL
        split
        · split
          · split
            · rename_i c
              exact h.set fun hi => belows_mem.mpr fun x hx => by
                rcases List.mem_or_eq_of_mem_set hx with z | z
                · exact belows_mem.mp (cell_of h e hi) x z
                · rw [z]; exact wok_of hk c hi
            · trivial
          · trivial
        · trivial
      | dK kvs =>
        show KO k (putDK q m kvs y v s G)
        unfold putDK
        split
        · split
          · rename_i c
            exact h.set fun hi => putD_mem (cell_of h e hi) (wok_of hk (Bool.and_eq_true_iff.mp c).1 hi)
          · trivial
        · trivial
      | dT kvs =>
        show KO k (putDT q m kvs y v s G)
        unfold putDT
        split
        · split
          · split
            · rename_i c
              exact h.set fun hi => putD_mem (cell_of h e hi) (wok_of hk (Bool.and_eq_true_iff.mp c).1 hi)
            · trivial
          · trivial
        · trivial
      | ins c ds => trivial
      | frK kvs => trivial
  · trivial
theorem k_putF {c j : Nat} {x v : D} {s : Env} (hk : k ∈ m) (h : WF k G) : KO k (putF m c j x v s G) := by
  unfold putF
  split
  · rename_i q
    split
    · rename_i c' ds e
      split
      · rename_i hc
        split
        · exact h.set fun hi => belows_mem.mpr fun x hx => by
            rcases List.mem_or_eq_of_mem_set hx with z | z
            · exact belows_mem.mp (cell_of h e hi) x z
            · rw [z]; exact wok_of hk hc.2 hi
        · split
          · exact h.set fun hi => belows_append (cell_of h e hi) (by show (below k v && true) = true; rw [wok_of hk hc.2 hi]; rfl)
          · trivial
      · trivial
    · trivial
  · trivial
variable {cl : List Nat → Nat → List D → Hp → R} {gl : Nat → Option D}
theorem k_comp {step : D → Hp → R} {g : Option (Nat × Cell)} {fin : List D → Hp → R} (hs : ∀ x G, WF k G → KR k (step x G)) (hf : ∀ acc G, WF k G → KR k (fin acc G)) : ∀ (xs : List D) (G : Hp) (acc : List D), WF k G → KR k (compF step g xs G acc fin)
  | [], G, acc, h => KR.ite (hf acc G h) trivial
  | x :: xs, G, acc, h => KR.ite (KR.bind (hs x G h) fun r G1 h1 => by
      unfold stepK
      split
      · exact k_comp hs hf xs _ _ h1
      · exact k_comp hs hf xs _ _ h1
      · trivial) trivial
theorem k_dnew {t : Bool} {G : Hp} (h : WF k G) : KR k (.ok (.ref G.length) (G ++ [if t then .dT [] else .dK []])) := h.app _
theorem k_safe {r : R} (h : KR k r) : KR k r.safe := by cases r <;> first | exact h | trivial
theorem k_keys {step : D → Hp → R} {f : List (Int × PySem.Str) → Hp → R} (hs : ∀ d G, WF k G → KR k (step d G)) (hf : ∀ is G, WF k G → KR k (f is G)) : ∀ (ds : List D) (acc : List (Int × PySem.Str)) (G : Hp), WF k G → KR k (keysF step ds G acc f)
  | [], acc, G, h => hf acc G h
  | d :: ds, acc, G, h => KR.bind (k_safe (hs d G h)) fun x G1 h1 => KR.opt fun i => k_keys hs hf ds (acc ++ [i]) G1 h1
mutual
theorem k_eval (hk : k ∈ m) (hcl : ∀ m' f args G, k ∈ m' → WF k G → KR k (cl m' f args G)) : ∀ (l : L) (s : Env) (G : Hp), WF k G → KR k (eval cl gl m l s G)
  | .c d, s, G, h => h
  | .v i, s, G, h => KR.opt fun _ => h
  | .g i, s, G, h => KR.opt fun _ => h
  | .bin o w a b, s, G, h => KR.bind (k_eval hk hcl a s G h) fun x G1 h1 => KR.bind (k_eval hk hcl b s G1 h1) fun y G2 h2 => k_bin h2
  | .neg a, s, G, h => KR.bind (k_eval hk hcl a s G h) fun x G1 h1 => by unfold negD; split <;> first | exact h1 | trivial
  | .cmp o a b, s, G, h => KR.bind (k_eval hk hcl a s G h) fun x G1 h1 => KR.bind (k_eval hk hcl b s G1 h1) fun y G2 h2 => k_cmp h2
  | .chain o o' a b c, s, G, h => KR.bind (k_eval hk hcl a s G h) fun x G1 h1 => KR.bind (k_eval hk hcl b s G1 h1) fun y G2 h2 => KR.bind (k_cmp h2) fun z G3 h3 =>
      KR.bl fun t => KR.ite (KR.bind (k_eval hk hcl c s G3 h3) fun u G4 h4 => k_cmp h4) h3
  | .and_ a b, s, G, h => KR.bind (k_eval hk hcl a s G h) fun x G1 h1 => KR.bl fun t => KR.ite (k_eval hk hcl b s G1 h1) h1
  | .or_ a b, s, G, h => KR.bind (k_eval hk hcl a s G h) fun x G1 h1 => KR.bl fun t => KR.ite h1 (k_eval hk hcl b s G1 h1)
  | .not_ a, s, G, h => KR.bind (k_eval hk hcl a s G h) fun x G1 h1 => KR.bl fun t => h1
  | .ite t a b, s, G, h => KR.bind (k_eval hk hcl t s G h) fun x G1 h1 => KR.bl fun t => KR.ite (k_eval hk hcl a s G1 h1) (k_eval hk hcl b s G1 h1)
  | .tup l, s, G, h => k_evals hk hcl l s G h
  | .lst w l, s, G, h => KR.bind (k_evals hk hcl l s G h) fun x G1 h1 => KR.tup fun ds => k_mkl h1
  | .ix a i, s, G, h => KR.bind (k_eval hk hcl a s G h) fun x G1 h1 => KR.bind (k_eval hk hcl i s G1 h1) fun y G2 h2 => k_ix h2
  | .sl w a lo hi, s, G, h => KR.bind (k_eval hk hcl a s G h) fun x G1 h1 => KR.bind (k_eval hk hcl lo s G1 h1) fun l G2 h2 => KR.opt fun _ => KR.bind (k_eval hk hcl hi s G2 h2) fun u G3 h3 => k_sl h3
  | .rev w a, s, G, h => KR.bind (k_eval hk hcl a s G h) fun x G1 h1 => k_rev h1
  | .setlen a, s, G, h => KR.bind (k_eval hk hcl a s G h) fun x G1 h1 => k_setlen h1
  | .call f l, s, G, h => KR.bind (k_evals hk hcl l s G h) fun x G1 h1 => KR.tup fun ds => hcl _ _ _ _ hk h1
  | .meth f c o l, s, G, h => KR.bind (k_eval hk hcl o s G h) fun y G1 h1 => KR.ite (KR.bind (k_evals hk hcl l s G1 h1) fun x G2 h2 => KR.tup fun ds => hcl _ _ _ _ hk h2) trivial
  | .new w c f l, s, G, h => KR.bind (k_evals hk hcl l s G h) fun x G1 h1 => KR.tup fun ds => KR.bind (hcl _ _ _ _ (by cases w; exact List.mem_cons_of_mem _ hk; exact hk) (h1.app _)) fun r G2 h2 => KR.ite (k_made h2 h1.1) trivial
  | .fld c j a, s, G, h => KR.bind (k_eval hk hcl a s G h) fun x G1 h1 => KR.opt fun d => h1
  | .bi b w l, s, G, h => KR.bind (k_evals hk hcl l s G h) fun x G1 h1 => KR.tup fun ds => k_bi h1
  | .mt b w o l, s, G, h => KR.bind (k_eval hk hcl o s G h) fun y G1 h1 => KR.ite (KR.bind (k_evals hk hcl l s G1 h1) fun x G2 h2 => KR.tup fun ds => k_mt hk h2) trivial
  | .isi ts a, s, G, h => KR.bind (k_eval hk hcl a s G h) fun x G1 h1 => KR.ite h1 trivial
  | .key2 mx f a b, s, G, h => KR.bind (k_eval hk hcl a s G h) fun x G1 h1 => KR.bind (k_eval hk hcl b s G1 h1) fun y G2 h2 => KR.bind (k_safe (hcl _ _ _ _ hk h2)) fun u G3 h3 => KR.bind (k_safe (hcl _ _ _ _ hk h3)) fun l G4 h4 => KR.opt fun t => h4
  | .skey w f a, s, G, h => KR.bind (k_eval hk hcl a s G h) fun x G1 h1 => KR.opt fun ds => k_keys (fun d G h => hcl _ _ _ _ hk h) (fun is G h => k_mkl h) ds [] G1 h1
  | .dnew t, s, G, h => k_dnew h
  | .dlit l, s, G, h => KR.opt fun ps => by
      unfold dlitD
      split
      · exact h.app _
      · trivial
  | .comp w k' own pt one it cond elt, s, G, h => KR.bind (k_evals hk hcl it s G h) fun x G1 h1 => KR.tup fun ds => KR.opt fun xg => KR.ite (k_safe (k_comp (fun x G h => KR.opt fun s' => KR.bind (k_eval hk hcl cond s' G h) fun c G2 h2 => KR.bl fun t =>
      KR.ite (KR.bind (k_eval hk hcl elt s' G2 h2) fun y G3 h3 => (show KR k (.ok (.tup [y]) G3) from h3)) (show KR k (.ok .non G2) from h2)) (fun acc G h => k_mkl h) _ _ _ h1)) trivial
  | .lock a b, s, G, h => KR.bind (k_eval hk hcl a s G h) fun x G1 h1 => by
      unfold lockK
      split
      · split
        · rename_i i kvs e
          refine KR.bind (k_safe (k_eval hk hcl b s _ (h1.set fun hi => (show belows k (kvs.map (·.2)) = true from cell_of h1 e hi)))) fun v G2 h2 => ?_
          split
          · rename_i ls e2
            exact h2.set fun hi => (show belows k (ls.map (·.2)) = true from cell_of h2 e2 hi)
          · trivial
        · trivial
      · trivial
  | .pick i j k' , s, G, h => KR.opt fun xs => h
  | .compx w k' own pt one it cond elt, s, G, h => KR.bind (k_evals hk hcl it s G h) fun x G1 h1 => KR.tup fun ds => KR.opt fun xg => KR.ite (k_comp (fun x G h => KR.opt fun s' => KR.bind (k_eval hk hcl cond s' G h) fun c G2 h2 => KR.bl fun t =>
      KR.ite (KR.bind (k_eval hk hcl elt s' G2 h2) fun y G3 h3 => (show KR k (.ok (.tup [y]) G3) from h3)) (show KR k (.ok .non G2) from h2)) (fun acc G h => k_mkl h) _ _ _ h1) trivial
theorem k_evals (hk : k ∈ m) (hcl : ∀ m' f args G, k ∈ m' → WF k G → KR k (cl m' f args G)) : ∀ (l : Ls) (s : Env) (G : Hp), WF k G → KR k (evals cl gl m l s G)
  | .nil, s, G, h => h
  | .cons a l, s, G, h => KR.bind (k_eval hk hcl a s G h) fun x G1 h1 => KR.bind (k_evals hk hcl l s G1 h1) fun xs G2 h2 => KR.tup fun ds => h2
end
theorem k_putP (hk : k ∈ m) (hcl : ∀ m' f args G, k ∈ m' → WF k G → KR k (cl m' f args G)) (p : P) (v : D) (s : Env) (G : Hp) (h : WF k G) : KO k (putP cl gl m p v s G) := by
  cases p with
  | nm i => exact h
  | sb o i => exact KO.st (t := .mk) (k_eval hk hcl o s G h) fun x G1 h1 => KO.st (t := .mk) (k_eval hk hcl i s G1 h1) fun y G2 h2 => k_putV hk h2
  | fld c j o => exact KO.st (t := .mk) (k_eval hk hcl o s G h) fun x G1 h1 => k_putF hk h1
theorem k_putPs (hk : k ∈ m) (hcl : ∀ m' f args G, k ∈ m' → WF k G → KR k (cl m' f args G)) : ∀ (ps : List P) (vs : List D) (s : Env) (G : Hp), WF k G → KO k (putPs cl gl m ps vs s G)
  | [], [], s, G, h => h
  | p :: ps, v :: vs, s, G, h => KO.then (k_putP hk hcl p v s G h) fun s1 G1 h1 => k_putPs hk hcl ps vs s1 G1 h1
  | [], _ :: _, s, G, h => trivial
  | _ :: _, [], s, G, h => trivial
theorem k_for {pt : List Nat} {one : Bool} {step : Env → Hp → O} {g : Option (Nat × Cell)} (hs : ∀ s G, WF k G → KO k (step s G)) : ∀ (xs : List D) (s : Env) (G : Hp), WF k G → KO k (forF pt one step g xs s G)
  | [], s, G, h => KO.ite h trivial
  | x :: xs, s, G, h => KO.ite (KO.opt fun s' => KO.turn (hs s' G h) fun s1 G1 h1 => k_for hs xs s1 G1 h1) trivial
theorem k_whl {test : Env → Hp → R} {step : Env → Hp → O} (ht : ∀ s G, WF k G → KR k (test s G)) (hs : ∀ s G, WF k G → KO k (step s G)) : ∀ (n : Nat) (s : Env) (G : Hp), WF k G → KO k (whlF test step n s G)
  | 0, s, G, h => trivial
  | n + 1, s, G, h => KO.st (ht s G h) fun c G1 h1 => KO.bl fun t => KO.ite (KO.turn (hs s G1 h1) fun s1 G2 h2 => k_whl ht hs n s1 G2 h2) h1
theorem k_exec (hk : k ∈ m) (hcl : ∀ m' f args G, k ∈ m' → WF k G → KR k (cl m' f args G)) : ∀ (a : M) (s : Env) (G : Hp), WF k G → KO k (exec cl gl m a s G)
  | .pass, s, G, h => h
  | .seq a b, s, G, h => KO.then (k_exec hk hcl a s G h) fun s1 G1 h1 => k_exec hk hcl b s1 G1 h1
  | .ex l, s, G, h => KO.st (k_eval hk hcl l s G h) fun _ G1 h1 => h1
  | .set i l, s, G, h => KO.st (k_eval hk hcl l s G h) fun _ G1 h1 => h1
  | .asg ps l, s, G, h => KO.st (k_eval hk hcl l s G h) fun v G1 h1 => KO.opt fun ds => KO.ite (k_putPs hk hcl ps ds s G1 h1) trivial
  | .put p l, s, G, h => KO.st (k_eval hk hcl l s G h) fun v G1 h1 => k_putP hk hcl p v s G1 h1
  | .par is l, s, G, h => KO.st (k_evals hk hcl l s G h) fun x G1 h1 => KO.tup fun ds => KO.ite h1 trivial
  | .ite t a b, s, G, h => KO.st (k_eval hk hcl t s G h) fun c G1 h1 => KO.bl fun t => KO.ite (k_exec hk hcl a s G1 h1) (k_exec hk hcl b s G1 h1)
  | .for k' pt one it b, s, G, h => KO.st (k_evals hk hcl it s G h) fun x G1 h1 => KO.tup fun ds => KO.opt fun xg => k_for (fun s G h => k_exec hk hcl b s G h) _ _ _ h1
  | .while n t b, s, G, h => k_whl (fun s G h => k_eval hk hcl t s G h) (fun s G h => k_exec hk hcl b s G h) n s G h
  | .ret l, s, G, h => KO.st (k_eval hk hcl l s G h) fun v G1 h1 => h1
  | .retN, s, G, h => h
  | .raise c, s, G, h => h
  | .brk, s, G, h => h
  | .cnt, s, G, h => h
  | .try_ b, s, G, h => by
    have q := k_exec hk hcl b s G h
    show KO k (exec cl gl m b s G).thru
    cases e : exec cl gl m b s G <;> rw [e] at q <;> first | exact q | trivial
  | .tryc b ks os n hs, s, G, h => by
    have q := k_exec hk hcl b s G h
    show KO k ((exec cl gl m b s G).catch _)
    cases e : exec cl gl m b s G with
    | exc c s1 G1 =>
      rw [e] at q
      show KO k (iteK (decide (c ∈ ks)) (fun _ => (exec cl gl m (hs c) (wipeO n s1) G1).clr n) (fun _ => iteK (decide (c ∈ os)) (fun _ => .exc c s1 G1) fun _ => .bad))
      cases decide (c ∈ ks) with
      | false =>
        show KO k (iteK (decide (c ∈ os)) (fun _ => .exc c s1 G1) fun _ => .bad)
        cases decide (c ∈ os) with
        | false => trivial
        | true => exact q
      | true =>
        have q2 := k_exec hk hcl (hs c) (wipeO n s1) G1 q
        show KO k ((exec cl gl m (hs c) (wipeO n s1) G1).clr n)
        cases e2 : exec cl gl m (hs c) (wipeO n s1) G1 <;> rw [e2] at q2 <;> first | exact q2 | trivial
    | _ => rw [e] at q; exact q
  | .tryx b ks c, s, G, h => by
    have q := k_exec hk hcl b s G h
    show KO k ((exec cl gl m b s G).catch _)
    cases e : exec cl gl m b s G with
    | exc c1 s1 G1 =>
      rw [e] at q
      show KO k (iteK (decide (c1 ∈ ks)) (fun _ => .exc c s1 G1) fun _ => .bad)
      cases decide (c1 ∈ ks) with
      | false => trivial
      | true => exact q
    | _ => rw [e] at q; exact q
theorem k_leave {trn frz : Bool} {n : Nat} {v : D} (h : WF k G) (hn : k ≤ n) : KR k (leave trn frz n v G) := by
  unfold leave
  cases trn
  · exact h
  · cases frz
    · show KR k (if below n v = true then _ else _)
      split
      · exact h.take hn
      · exact h
    · show KR k (if below n (frzD G n v) = true then _ else _)
      split
      · exact h.take hn
      · exact h
theorem k_run (hk : k ∈ m) (hcl : ∀ m' f args G, k ∈ m' → WF k G → KR k (cl m' f args G)) (f : Fn) (args : List D) (G : Hp) (h : WF k G) : KR k (run cl gl m f args G) := by
  unfold run
  split
  · have hm : k ∈ (if f.trn then G.length :: m else m) := by
      cases f.trn
      · exact hk
      · exact List.mem_cons_of_mem _ hk
    have q := k_exec (gl := gl) hm hcl f.body (args.map some ++ List.replicate (f.ns - f.np) none) G h
    cases e : exec cl gl (if f.trn then G.length :: m else m) f.body (args.map some ++ List.replicate (f.ns - f.np) none) G with
    | nx s G' => rw [e] at q; exact k_leave q h.1
    | ret v G' => rw [e] at q; exact k_leave q h.1
    | exc c s G' =>
      rw [e] at q
      unfold fin
      dsimp only
      cases f.trn
      · exact q
      · exact WF.take q h.1
    | _ => trivial
  · trivial
theorem k_call {T : Nat → Option Fn} : ∀ (n : Nat) (m : List Nat) (f : Nat) (args : List D) (G : Hp), k ∈ m → WF k G → KR k (call T gl n m f args G)
  | 0, _, _, _, _, _, _ => trivial
  | n + 1, m, f, args, G, hk, h => KR.opt fun fn => k_run hk (fun m' f' a' G' h1 h2 => k_call n m' f' a' G' h1 h2) fn args G h
end
end PK
namespace PKS
open PySem PySem.Spec PyProof.Rows L2

abbrev Lk.EV (lk : Lk) (c : Nat) : Value := .ref (lk.EA (c % 1000))
def tnt (c : Nat) : Option Addr := if c < 1000 then none else some 0
theorem tnt_lo {c : Nat} (h : c < 1000) : tnt c = none := by unfold tnt; rw [if_pos h]
theorem tnt_hi {c : Nat} (h : ¬ c < 1000) : tnt c = some 0 := by unfold tnt; rw [if_neg h]
theorem EV_lo {lk : Lk} {c : Nat} (h : c < 1000) : lk.EV c = .ref (lk.EA c) := by unfold Lk.EV; rw [Nat.mod_eq_of_lt h]
abbrev Cells := PK.Hp
abbrev Nm := Nat → Addr
def TupAt (K : PySem.W.Frag) (H : Hp) (ds : List PK.D) (a : Addr) (vs : List V) : Prop := H a = some (.tup vs) ∨ (SqT K H a vs ∧ PK.keysD ds = none)
theorem TupAt.sq {K : PySem.W.Frag} {H : Hp} {ds : List PK.D} {a : Addr} {vs : List V} (h : TupAt K H ds a vs) : SqT K H a vs := by
  rcases h with h | h
  · exact .inl (.inl h)
  · exact h.1
def Off (lk : Lk) (ρ : Nm) (n : Nat) (a : Addr) : Prop := (∀ i, i < n → ρ i ≠ a) ∧ ¬ lk.Z a
section
variable (K : PySem.W.Frag) (lk : Lk)
mutual
def Rep (ρ : Nm) (n : Nat) (H : Hp) : PK.D → V → Prop
  | .non, v => v = .non
  | .bl b, v => v = .bl b
  | .int i, v => v = .int i
  | .str s, v => v = .str s
  | .tup ds, v => ∃ a vs, v = .ref a ∧ TupAt K H ds a vs ∧ Reps ρ n H ds vs
  | .lst ds, v => ∃ a vs, v = .ref a ∧ H a = some (.lst vs) ∧ Off lk ρ n a ∧ Reps ρ n H ds vs
  | .fz ds, v => ∃ a vs, v = .ref a ∧ ((∃ o, H a = some (.frz o (.lst vs))) ∨ ∃ (o : Obj) (its : Array Value) (n : Nat), K.lookup a = some o ∧ o.cls = .type "list" ∧ o.dict = none ∧ o.data = .seq its n ∧ its.size ≤ sizeLine ∧ Vals vs its.toList) ∧ Reps ρ n H ds vs
  | .ref i, v => i < n ∧ v = .ref (ρ i)
  | .ins c ds, v => ∃ a dx fs vs, v = .ref a ∧ H a = some (.ins (lk.CA c) dx fs) ∧ Off lk ρ n a ∧ fs = (lk.FN c).zip vs ∧ vs.length ≤ (lk.FN c).length ∧ Reps ρ n H ds vs
  | .exc _, _ => False
def Reps (ρ : Nm) (n : Nat) (H : Hp) : List PK.D → List V → Prop
  | [], vs => vs = []
  | d :: ds, vs => ∃ x xs, vs = x :: xs ∧ Rep ρ n H d x ∧ Reps ρ n H ds xs
end
def RepK {κ : Type} (ρ : Nm) (n : Nat) (H : Hp) (kvs : List (κ × PK.D)) (zs : List (κ × V)) : Prop := zs.map (·.1) = kvs.map (·.1) ∧ Reps K lk ρ n H (kvs.map (·.2)) (zs.map (·.2))
def RepC (ρ : Nm) (n : Nat) (H : Hp) : PK.Cell → HO → Prop
  | .lst ds, o => ∃ vs, o = .lst vs ∧ Reps K lk ρ n H ds vs
  | .dK kvs, o => ∃ zs, o = .dK zs ∧ RepK K lk ρ n H kvs zs
  | .dT kvs, o => ∃ zs, o = .dT zs ∧ RepK K lk ρ n H kvs zs
  | .frK kvs, o => ∃ zs od, o = .frz od (.dK zs) ∧ RepK K lk ρ n H kvs zs
  | .ins c ds, o => ∃ dx fs vs, o = .ins (lk.CA c) dx fs ∧ fs = (lk.FN c).zip vs ∧ vs.length ≤ (lk.FN c).length ∧ Reps K lk ρ n H ds vs
structure Rel (ρ : Nm) (G : Cells) (H : Hp) : Prop where
  cell : ∀ i c, G[i]? = some c → ∃ o, H (ρ i) = some o ∧ RepC K lk ρ G.length H c o
  inj : ∀ i j, i < G.length → j < G.length → ρ i = ρ j → i = j
  zs : ∀ a, lk.Z a → H a ≠ none
  zc : ∀ i, i < G.length → ¬ lk.Z (ρ i)
structure REnv (ρ : Nm) (n : Nat) (H : Hp) (s : PK.Env) (σ : L2.St) : Prop where
  len : s.length = σ.length
  at_ : ∀ (i : Nat) d, s[i]? = some (some d) → ∃ v, σ[i]? = some (some v) ∧ Rep K lk ρ n H d v
  pr : lk.P σ
end
def Lk.Free (lk : Lk) : Prop := ∀ σ, lk.P σ
theorem Lk.Free.wipe {lk : Lk} (h : lk.Free) {σ : L2.St} (is : List Nat) (_ : lk.P σ) : lk.P (L2.wipe σ is) := h _
structure Ext (ρ : Nm) (n : Nat) (H : Hp) (ρ' : Nm) (n' : Nat) (H' : Hp) : Prop where
  le : n ≤ n'
  agr : ∀ i, i < n → ρ' i = ρ i
  pres : ∀ a o, H a = some o → (∀ i, i < n → ρ i ≠ a) → H' a = some o
  tups : ∀ a xs, H a = some (.tup xs) → H' a = some (.tup xs)
  frzs : ∀ a o u, H a = some (.frz o u) → H' a = some (.frz o u)
  keep : ∀ a, H' a = none → H a = none
  new : ∀ i, n ≤ i → i < n' → H (ρ' i) = none
section
variable {ρ ρ' ρ1 ρ2 : Nm} {n n' n1 n2 m : Nat} {H H' H1 H2 : Hp} {p : Addr} {o : HO}
theorem Ext.refl : Ext ρ n H ρ n H := ⟨Nat.le_refl _, fun _ _ => rfl, fun _ _ h _ => h, fun _ _ h => h, fun _ _ _ h => h, fun _ h => h, fun i h1 h2 => absurd h2 (by omega)⟩
theorem Ext.trans (a : Ext ρ n H ρ1 n1 H1) (b : Ext ρ1 n1 H1 ρ2 n2 H2) : Ext ρ n H ρ2 n2 H2 where
  le := Nat.le_trans a.le b.le
  agr := fun i h => (b.agr i (Nat.lt_of_lt_of_le h a.le)).trans (a.agr i h)
  pres := fun c o h hc => b.pres c o (a.pres c o h hc) fun i hi => by
    by_cases q : i < n
    · rw [a.agr i q]; exact hc i q
    · intro e
      have := a.new i (by omega) hi
      rw [e, h] at this; cases this
  tups := fun c xs h => b.tups c xs (a.tups c xs h)
  frzs := fun c o u h => b.frzs c o u (a.frzs c o u h)
  keep := fun c h => a.keep c (b.keep c h)
  new := fun i h1 h2 => by
    by_cases q : i < n1
    · rw [b.agr i q]; exact a.new i h1 q
    · exact a.keep _ (b.new i (by omega) h2)
theorem Ext.cut (a : Ext ρ n H ρ1 n1 H1) (h1 : n ≤ m) (h2 : m ≤ n1) : Ext ρ n H ρ1 m H1 := ⟨h1, a.agr, a.pres, a.tups, a.frzs, a.keep, fun i q1 q2 => a.new i q1 (by omega)⟩
theorem Ext.laid (h : H p = none) : Ext ρ n H ρ n (upd H p o) where
  le := Nat.le_refl _
  agr := fun _ _ => rfl
  pres := fun a u e _ => by rw [upd_ne (ne_of_none e h)]; exact e
  tups := fun a u e => by rw [upd_ne (ne_of_none e h)]; exact e
  frzs := fun a u v e => by rw [upd_ne (ne_of_none e h)]; exact e
  keep := fun a e => by
    by_cases q : a = p
    · rw [q]; exact h
    · rw [upd_ne q] at e; exact e
  new := fun i h1 h2 => absurd h2 (by omega)
def nset (ρ : Nm) (n : Nat) (p : Addr) : Nm := fun i => if i = n then p else ρ i
theorem nset_same : nset ρ n p n = p := by unfold nset; rw [if_pos rfl]
theorem nset_ne {i : Nat} (h : i ≠ n) : nset ρ n p i = ρ i := by unfold nset; rw [if_neg h]
theorem Ext.celled (h : H p = none) : Ext ρ n H (nset ρ n p) (n + 1) (upd H p o) where
  le := Nat.le_succ _
  agr := fun i h => nset_ne (by omega)
  pres := fun a u e _ => by rw [upd_ne (ne_of_none e h)]; exact e
  tups := fun a u e => by rw [upd_ne (ne_of_none e h)]; exact e
  frzs := fun a u v e => by rw [upd_ne (ne_of_none e h)]; exact e
  keep := fun a e => by
    by_cases q : a = p
    · rw [q]; exact h
    · rw [upd_ne q] at e; exact e
  new := fun i h1 h2 => by
    have : i = n := by omega
    rw [this, nset_same]; exact h
theorem Ext.written {i : Nat} {u : HO} (hi : i < n) (h : H (ρ i) = some u) (ht : ∀ xs, u ≠ .tup xs) (hf : ∀ a b, u ≠ .frz a b) : Ext ρ n H ρ n (upd H (ρ i) o) where
  le := Nat.le_refl _
  agr := fun _ _ => rfl
  pres := fun a v e na => by rw [upd_ne (na i hi).symm]; exact e
  tups := fun a xs e => by
    rw [upd_ne]; exact e
    intro q; rw [q, h] at e; cases e; exact ht xs rfl
  frzs := fun a v w e => by
    rw [upd_ne]; exact e
    intro q; rw [q, h] at e; cases e; exact hf v w rfl
  keep := fun a e => by
    by_cases q : a = ρ i
    · rw [q, upd_same] at e; cases e
    · rw [upd_ne q] at e; exact e
  new := fun i h1 h2 => absurd h2 (by omega)
end
section
variable {K : PySem.W.Frag} {lk : Lk} {ρ ρ' ρ1 ρ2 : Nm} {n n' n1 n2 m : Nat} {H H' H1 H2 : Hp} {p : Addr} {o : HO} {G : Cells}
theorem SqT.ext {a : Addr} {vs : List V} (e : Ext ρ n H ρ' n' H') (h : SqT K H a vs) : SqT K H' a vs := by
  rcases h with (h | ⟨o, h⟩) | h
  · exact .inl (.inl (e.tups _ _ h))
  · exact .inl (.inr ⟨o, e.frzs _ _ _ h⟩)
  · exact .inr h
theorem notcell {a : Addr} {u : HO} (e : Ext ρ n H ρ' n' H') (h : H a = some u) (na : Off lk ρ n a) : Off lk ρ' n' a := by
  refine ⟨fun i hi q => ?_, na.2⟩
  by_cases z : i < n
  · rw [e.agr i z] at q; exact na.1 i z q
  · have := e.new i (by omega) hi
    rw [q, h] at this; cases this
mutual
theorem Rep.ext (e : Ext ρ n H ρ' n' H') : ∀ (d : PK.D) (v : V), Rep K lk ρ n H d v → Rep K lk ρ' n' H' d v
  | .non, _, h => h
  | .bl _, _, h => h
  | .int _, _, h => h
  | .str _, _, h => h
  | .tup ds, v, h => by
    obtain ⟨a, vs, h1, h2, h3⟩ := h
    refine ⟨a, vs, h1, ?_, Reps.ext e ds vs h3⟩
    rcases h2 with h2 | h2
    · exact .inl (e.tups _ _ h2)
    · exact .inr ⟨SqT.ext e h2.1, h2.2⟩
  | .lst ds, v, h => by
    obtain ⟨a, vs, h1, h2, h3, h4⟩ := h
    exact ⟨a, vs, h1, e.pres _ _ h2 h3.1, notcell e h2 h3, Reps.ext e ds vs h4⟩
  | .fz ds, v, h => by
    obtain ⟨a, vs, h1, h2, h3⟩ := h
    refine ⟨a, vs, h1, ?_, Reps.ext e ds vs h3⟩
    rcases h2 with ⟨o, h2⟩ | h2
    · exact .inl ⟨o, e.frzs _ _ _ h2⟩
    · exact .inr h2
  | .ref i, v, h => by
    obtain ⟨h1, h2⟩ := h
    exact ⟨Nat.lt_of_lt_of_le h1 e.le, by rw [e.agr i h1]; exact h2⟩
  | .ins c ds, v, h => by
    obtain ⟨a, dx, fs, vs, h1, h2, h3, h4, h5, h6⟩ := h
    exact ⟨a, dx, fs, vs, h1, e.pres _ _ h2 h3.1, notcell e h2 h3, h4, h5, Reps.ext e ds vs h6⟩
  | .exc _, _, h => h
theorem Reps.ext (e : Ext ρ n H ρ' n' H') : ∀ (ds : List PK.D) (vs : List V), Reps K lk ρ n H ds vs → Reps K lk ρ' n' H' ds vs
  | [], _, h => h
  | d :: ds, vs, h => by
    obtain ⟨x, xs, h1, h2, h3⟩ := h
    exact ⟨x, xs, h1, Rep.ext e d x h2, Reps.ext e ds xs h3⟩
end
mutual
theorem Rep.cut (hm : m ≤ n) : ∀ (d : PK.D) (v : V), PK.below m d = true → Rep K lk ρ n H d v → Rep K lk ρ m H d v
  | .non, _, _, h => h
  | .bl _, _, _, h => h
  | .int _, _, _, h => h
  | .str _, _, _, h => h
  | .tup ds, v, b, h => by
    obtain ⟨a, vs, h1, h2, h3⟩ := h
    exact ⟨a, vs, h1, h2, Reps.cut hm ds vs b h3⟩
  | .lst ds, v, b, h => by
    obtain ⟨a, vs, h1, h2, h3, h4⟩ := h
    exact ⟨a, vs, h1, h2, ⟨fun i hi => h3.1 i (Nat.lt_of_lt_of_le hi hm), h3.2⟩, Reps.cut hm ds vs b h4⟩
  | .fz ds, v, b, h => by
    obtain ⟨a, vs, h1, h2, h3⟩ := h
    exact ⟨a, vs, h1, h2, Reps.cut hm ds vs b h3⟩
  | .ref i, v, b, h => ⟨of_decide_eq_true b, h.2⟩
  | .ins c ds, v, b, h => by
    obtain ⟨a, dx, fs, vs, h1, h2, h3, h4, h5, h6⟩ := h
    exact ⟨a, dx, fs, vs, h1, h2, ⟨fun i hi => h3.1 i (Nat.lt_of_lt_of_le hi hm), h3.2⟩, h4, h5, Reps.cut hm ds vs b h6⟩
  | .exc _, _, _, h => h
theorem Reps.cut (hm : m ≤ n) : ∀ (ds : List PK.D) (vs : List V), PK.belows m ds = true → Reps K lk ρ n H ds vs → Reps K lk ρ m H ds vs
  | [], _, _, h => h
  | d :: ds, vs, b, h => by
    obtain ⟨x, xs, h1, h2, h3⟩ := h
    obtain ⟨b1, b2⟩ := Bool.and_eq_true_iff.mp b
    exact ⟨x, xs, h1, Rep.cut hm d x b1 h2, Reps.cut hm ds xs b2 h3⟩
end
mutual
theorem Rep.below : ∀ (d : PK.D) (v : V), Rep K lk ρ n H d v → PK.below n d = true
  | .non, _, _ => rfl
  | .bl _, _, _ => rfl
  | .int _, _, _ => rfl
  | .str _, _, _ => rfl
  | .tup ds, v, h => by
    obtain ⟨a, vs, h1, h2, h3⟩ := h
    exact Reps.below ds vs h3
  | .lst ds, v, h => by
    obtain ⟨a, vs, h1, h2, h3, h4⟩ := h
    exact Reps.below ds vs h4
  | .fz ds, v, h => by
    obtain ⟨a, vs, h1, h2, h3⟩ := h
    exact Reps.below ds vs h3
  | .ref i, v, h => decide_eq_true h.1
  | .ins c ds, v, h => by
    obtain ⟨a, dx, fs, vs, h1, h2, h3, h4, h5, h6⟩ := h
    exact Reps.below ds vs h6
  | .exc _, _, h => rfl
theorem Reps.below : ∀ (ds : List PK.D) (vs : List V), Reps K lk ρ n H ds vs → PK.belows n ds = true
  | [], _, _ => rfl
  | d :: ds, vs, h => by
    obtain ⟨x, xs, h1, h2, h3⟩ := h
    show (PK.below n d && PK.belows n ds) = true
    rw [Rep.below d x h2, Reps.below ds xs h3]; rfl
end
theorem Reps.length : ∀ {ds : List PK.D} {vs : List V}, Reps K lk ρ n H ds vs → ds.length = vs.length
  | [], vs, h => by rw [show vs = [] from h]; rfl
  | d :: ds, vs, h => by
    obtain ⟨x, xs, h1, h2, h3⟩ := h
    rw [h1, List.length_cons, List.length_cons, Reps.length h3]
theorem Reps.get : ∀ {ds : List PK.D} {vs : List V} {i : Nat} {d : PK.D}, Reps K lk ρ n H ds vs → ds[i]? = some d → ∃ v, vs[i]? = some v ∧ Rep K lk ρ n H d v
  | [], vs, i, d, h, e => by simp at e
  | d :: ds, vs, 0, d', h, e => by
    obtain ⟨x, xs, h1, h2, h3⟩ := h
    simp at e; subst e
    exact ⟨x, by rw [h1]; rfl, h2⟩
  | d :: ds, vs, i + 1, d', h, e => by
    obtain ⟨x, xs, h1, h2, h3⟩ := h
    obtain ⟨v, q1, q2⟩ := Reps.get (i := i) h3 (by simpa using e)
    exact ⟨v, by rw [h1]; simpa using q1, q2⟩
theorem Reps.append : ∀ {ds es : List PK.D} {vs ws : List V}, Reps K lk ρ n H ds vs → Reps K lk ρ n H es ws → Reps K lk ρ n H (ds ++ es) (vs ++ ws)
  | [], es, vs, ws, h, q => by rw [show vs = [] from h]; exact q
  | d :: ds, es, vs, ws, h, q => by
    obtain ⟨x, xs, h1, h2, h3⟩ := h
    rw [h1]
    exact ⟨x, xs ++ ws, rfl, h2, Reps.append h3 q⟩
theorem Reps.one {d : PK.D} {v : V} (h : Rep K lk ρ n H d v) : Reps K lk ρ n H [d] [v] := ⟨v, [], rfl, h, rfl⟩
theorem Reps.set : ∀ {ds : List PK.D} {vs : List V} {i : Nat} {d : PK.D} {v : V}, Reps K lk ρ n H ds vs → Rep K lk ρ n H d v → Reps K lk ρ n H (ds.set i d) (vs.set i v)
  | [], vs, i, d, v, h, q => by rw [show vs = [] from h]; rfl
  | d :: ds, vs, 0, d', v, h, q => by
    obtain ⟨x, xs, h1, h2, h3⟩ := h
    rw [h1]; exact ⟨v, xs, rfl, q, h3⟩
  | d :: ds, vs, i + 1, d', v, h, q => by
    obtain ⟨x, xs, h1, h2, h3⟩ := h
    rw [h1]; exact ⟨x, xs.set i v, rfl, h2, Reps.set h3 q⟩
theorem Reps.drop : ∀ {ds : List PK.D} {vs : List V} (i : Nat), Reps K lk ρ n H ds vs → Reps K lk ρ n H (ds.drop i) (vs.drop i)
  | _, _, 0, h => by simpa using h
  | [], vs, i + 1, h => by rw [show vs = [] from h]; rfl
  | d :: ds, vs, i + 1, h => by
    obtain ⟨x, xs, h1, h2, h3⟩ := h
    rw [h1]; exact Reps.drop i h3
theorem Reps.take : ∀ {ds : List PK.D} {vs : List V} (i : Nat), Reps K lk ρ n H ds vs → Reps K lk ρ n H (ds.take i) (vs.take i)
  | ds, vs, 0, h => by simp only [List.take_zero]; rfl
  | [], vs, i + 1, h => by rw [show vs = [] from h]; rfl
  | d :: ds, vs, i + 1, h => by
    obtain ⟨x, xs, h1, h2, h3⟩ := h
    rw [h1]; exact ⟨x, xs.take i, rfl, h2, Reps.take i h3⟩
theorem Reps.reverse : ∀ {ds : List PK.D} {vs : List V}, Reps K lk ρ n H ds vs → Reps K lk ρ n H ds.reverse vs.reverse
  | [], vs, h => by rw [show vs = [] from h]; rfl
  | d :: ds, vs, h => by
    obtain ⟨x, xs, h1, h2, h3⟩ := h
    rw [h1, List.reverse_cons, List.reverse_cons]
    exact (Reps.reverse h3).append (Reps.one h2)
theorem Reps.flatten_replicate {ds : List PK.D} {vs : List V} (h : Reps K lk ρ n H ds vs) : ∀ k : Nat, Reps K lk ρ n H (List.replicate k ds).flatten (List.replicate k vs).flatten
  | 0 => rfl
  | k + 1 => by
    rw [List.replicate_succ, List.replicate_succ, List.flatten_cons, List.flatten_cons]
    exact h.append (Reps.flatten_replicate h k)
theorem RepK.ext {κ : Type} {kvs : List (κ × PK.D)} {zs : List (κ × V)} (e : Ext ρ n H ρ' n' H') (h : RepK K lk ρ n H kvs zs) : RepK K lk ρ' n' H' kvs zs := ⟨h.1, Reps.ext e _ _ h.2⟩
theorem RepC.ext {c : PK.Cell} {o : HO} (e : Ext ρ n H ρ' n' H') (h : RepC K lk ρ n H c o) : RepC K lk ρ' n' H' c o := by
  cases c with
  | lst ds => obtain ⟨vs, h1, h2⟩ := h; exact ⟨vs, h1, Reps.ext e _ _ h2⟩
  | dK kvs => obtain ⟨vs, h1, h2⟩ := h; exact ⟨vs, h1, h2.ext e⟩
  | dT kvs => obtain ⟨vs, h1, h2⟩ := h; exact ⟨vs, h1, h2.ext e⟩
  | frK kvs => obtain ⟨vs, od, h1, h2⟩ := h; exact ⟨vs, od, h1, h2.ext e⟩
  | ins c ds => obtain ⟨dx, fs, vs, h1, h2, h3, h4⟩ := h; exact ⟨dx, fs, vs, h1, h2, h3, Reps.ext e _ _ h4⟩
theorem RepC.nt {c : PK.Cell} {o : HO} (h : RepC K lk ρ n H c o) (hu : PK.unl c = true) : (∀ xs, o ≠ .tup xs) ∧ ∀ a b, o ≠ .frz a b := by
  cases c with
  | lst ds => obtain ⟨vs, rfl, h2⟩ := h; exact ⟨fun _ z => (nomatch z), fun _ _ z => (nomatch z)⟩
  | dK kvs => obtain ⟨vs, rfl, h2⟩ := h; exact ⟨fun _ z => (nomatch z), fun _ _ z => (nomatch z)⟩
  | dT kvs => obtain ⟨vs, rfl, h2⟩ := h; exact ⟨fun _ z => (nomatch z), fun _ _ z => (nomatch z)⟩
  | frK kvs => cases hu
  | ins c ds => obtain ⟨dx, fs, vs, rfl, h2, h3⟩ := h; exact ⟨fun _ z => (nomatch z), fun _ _ z => (nomatch z)⟩
theorem REnv.ext {s : PK.Env} {σ : L2.St} (e : Ext ρ n H ρ' n' H') (h : REnv K lk ρ n H s σ) : REnv K lk ρ' n' H' s σ := ⟨h.len, fun i d q => by
  obtain ⟨v, h1, h2⟩ := h.at_ i d q
  exact ⟨v, h1, Rep.ext e _ _ h2⟩, h.pr⟩
theorem REnv.set {s : PK.Env} {σ : L2.St} {i : Nat} {d : PK.D} {v : V} (h : REnv K lk ρ n H s σ) (r : Rep K lk ρ n H d v) (hP : lk.P σ → lk.P (σ.set i (some v))) : REnv K lk ρ n H (PK.seti s i d) (σ.set i (some v)) := ⟨by simp [PK.seti, h.len], fun j e q => by
  unfold PK.seti at q
  by_cases z : i = j
  · subst z
    by_cases y : i < s.length
    · rw [List.getElem?_set_self y] at q
      cases q
      exact ⟨v, by rw [List.getElem?_set_self (by rw [← h.len]; exact y)], r⟩
    · rw [List.getElem?_eq_none (by simpa using y)] at q; cases q
  · rw [List.getElem?_set_ne z] at q ⊢
    exact h.at_ j e q, hP h.pr⟩
theorem upd_some {H : Hp} {a p : Addr} {o : HO} (h : H a ≠ none) : upd H p o a ≠ none := by
  by_cases q : a = p
  · rw [q, upd_same]; exact fun z => nomatch z
  · rw [upd_ne q]; exact h
theorem Rel.other (r : Rel K lk ρ G H) (h : H p = none) : Rel K lk ρ G (upd H p o) := ⟨fun i c q => by
  obtain ⟨u, h1, h2⟩ := r.cell i c q
  exact ⟨u, by rw [upd_ne (ne_of_none h1 h)]; exact h1, h2.ext (Ext.laid h)⟩, r.inj, fun a z => upd_some (r.zs a z), r.zc⟩
theorem Rel.laid {c : PK.Cell} (r : Rel K lk ρ G H) (h : H p = none) (rc : RepC K lk ρ G.length H c o) : Rel K lk (nset ρ G.length p) (G ++ [c]) (upd H p o) := by
  have ex : Ext ρ G.length H (nset ρ G.length p) (G ++ [c]).length (upd H p o) := by rw [List.length_append]; exact Ext.celled h
  refine ⟨fun i d q => ?_, fun i j hi hj e => ?_, fun a z => upd_some (r.zs a z), fun i hi z => ?_⟩
  rotate_right
  · rw [List.length_append] at hi
    by_cases c : i < G.length
    · rw [nset_ne (by omega)] at z; exact r.zc i c z
    · have : i = G.length := by simp at hi; omega
      rw [this, nset_same] at z; exact r.zs p z h
  · by_cases z : i < G.length
    · rw [List.getElem?_append_left z] at q
      obtain ⟨u, h1, h2⟩ := r.cell i d q
      exact ⟨u, by rw [nset_ne (by omega), upd_ne (ne_of_none h1 h)]; exact h1, h2.ext ex⟩
    · have hi : i < (G ++ [c]).length := (List.getElem?_eq_some_iff.mp q).1
      rw [List.length_append] at hi
      have hi : i = G.length := by simp at hi; omega
      subst hi
      rw [List.getElem?_append_right (Nat.le_refl _), Nat.sub_self] at q
      cases q
      exact ⟨o, by rw [nset_same, upd_same], rc.ext ex⟩
  · have lt : ∀ k, k < G.length → ρ k ≠ p := fun k hk z => by
      obtain ⟨u, h1, _⟩ := r.cell k G[k] (by simp [hk])
      rw [z, h] at h1; cases h1
    rw [List.length_append] at hi hj
    simp at hi hj
    by_cases z : i = G.length
    · by_cases y : j = G.length
      · omega
      · rw [z, nset_same, nset_ne y] at e
        exact absurd e.symm (lt j (by omega))
    · by_cases y : j = G.length
      · rw [y, nset_same, nset_ne z] at e
        exact absurd e (lt i (by omega))
      · rw [nset_ne z, nset_ne y] at e
        exact r.inj i j (by omega) (by omega) e
theorem Rel.at_ {i : Nat} {c : PK.Cell} (r : Rel K lk ρ G H) (q : G[i]? = some c) : i < G.length ∧ ∃ u, H (ρ i) = some u ∧ RepC K lk ρ G.length H c u ∧ Ext ρ G.length H ρ G.length H := by
  obtain ⟨u, h1, h2⟩ := r.cell i c q
  exact ⟨(List.getElem?_eq_some_iff.mp q).1, u, h1, h2, Ext.refl⟩
theorem Rel.exw {i : Nat} {c : PK.Cell} (r : Rel K lk ρ G H) (q : G[i]? = some c) (hu : PK.unl c = true := by rfl) : Ext ρ G.length H ρ G.length (upd H (ρ i) o) := by
  obtain ⟨u, h1, h2⟩ := r.cell i c q
  exact Ext.written (List.getElem?_eq_some_iff.mp q).1 h1 (h2.nt hu).1 (h2.nt hu).2
theorem Rel.written {i : Nat} {c c' : PK.Cell} (r : Rel K lk ρ G H) (q : G[i]? = some c) (rc : RepC K lk ρ G.length H c' o) (hu : PK.unl c = true := by rfl) : Rel K lk ρ (G.set i c') (upd H (ρ i) o) := by
  have hi := (List.getElem?_eq_some_iff.mp q).1
  have ex : Ext ρ G.length H ρ (G.set i c').length (upd H (ρ i) o) := by rw [List.length_set]; exact r.exw q hu
  refine ⟨fun j d z => ?_, fun j k hj hk e => r.inj j k (by simpa using hj) (by simpa using hk) e, fun a z => upd_some (r.zs a z), fun j hj => r.zc j (by simpa using hj)⟩
  by_cases y : i = j
  · subst y
    rw [List.getElem?_set_self hi] at z
    cases z
    exact ⟨o, upd_same, rc.ext ex⟩
  · rw [List.getElem?_set_ne y] at z
    obtain ⟨v, h3, h4⟩ := r.cell j d z
    have hj : j < G.length := (List.getElem?_eq_some_iff.mp z).1
    exact ⟨v, by rw [upd_ne fun e => y (r.inj i j hi hj e.symm)]; exact h3, h4.ext ex⟩

mutual
theorem Rep.add {A : Addr} (hA : H A = none) : ∀ (d : PK.D) (v : V), Rep K lk ρ n H d v → Rep K (lk.add A) ρ n H d v
  | .non, _, h => h
  | .bl _, _, h => h
  | .int _, _, h => h
  | .str _, _, h => h
  | .tup ds, v, h => by obtain ⟨a, vs, h1, h2, h3⟩ := h; exact ⟨a, vs, h1, h2, Reps.add hA ds vs h3⟩
  | .lst ds, v, h => by
    obtain ⟨a, vs, h1, h2, h3, h4⟩ := h
    exact ⟨a, vs, h1, h2, ⟨h3.1, fun z => z.elim h3.2 fun e => by rw [e, hA] at h2; cases h2⟩, Reps.add hA ds vs h4⟩
  | .fz ds, v, h => by obtain ⟨a, vs, h1, h2, h3⟩ := h; exact ⟨a, vs, h1, h2, Reps.add hA ds vs h3⟩
  | .ref i, v, h => h
  | .ins c ds, v, h => by
    obtain ⟨a, dx, fs, vs, h1, h2, h3, h4, h5, h6⟩ := h
    exact ⟨a, dx, fs, vs, h1, h2, ⟨h3.1, fun z => z.elim h3.2 fun e => by rw [e, hA] at h2; cases h2⟩, h4, h5, Reps.add hA ds vs h6⟩
  | .exc _, _, h => h
theorem Reps.add {A : Addr} (hA : H A = none) : ∀ (ds : List PK.D) (vs : List V), Reps K lk ρ n H ds vs → Reps K (lk.add A) ρ n H ds vs
  | [], _, h => h
  | d :: ds, vs, h => by obtain ⟨x, xs, h1, h2, h3⟩ := h; exact ⟨x, xs, h1, Rep.add hA d x h2, Reps.add hA ds xs h3⟩
end
mutual
theorem Rep.sub {A : Addr} : ∀ (d : PK.D) (v : V), Rep K (lk.add A) ρ n H d v → Rep K lk ρ n H d v
  | .non, _, h => h
  | .bl _, _, h => h
  | .int _, _, h => h
  | .str _, _, h => h
  | .tup ds, v, h => by obtain ⟨a, vs, h1, h2, h3⟩ := h; exact ⟨a, vs, h1, h2, Reps.sub ds vs h3⟩
  | .lst ds, v, h => by
    obtain ⟨a, vs, h1, h2, h3, h4⟩ := h
    exact ⟨a, vs, h1, h2, ⟨h3.1, fun z => h3.2 (.inl z)⟩, Reps.sub ds vs h4⟩
  | .fz ds, v, h => by obtain ⟨a, vs, h1, h2, h3⟩ := h; exact ⟨a, vs, h1, h2, Reps.sub ds vs h3⟩
  | .ref i, v, h => h
  | .ins c ds, v, h => by
    obtain ⟨a, dx, fs, vs, h1, h2, h3, h4, h5, h6⟩ := h
    exact ⟨a, dx, fs, vs, h1, h2, ⟨h3.1, fun z => h3.2 (.inl z)⟩, h4, h5, Reps.sub ds vs h6⟩
  | .exc _, _, h => h
theorem Reps.sub {A : Addr} : ∀ (ds : List PK.D) (vs : List V), Reps K (lk.add A) ρ n H ds vs → Reps K lk ρ n H ds vs
  | [], _, h => h
  | d :: ds, vs, h => by obtain ⟨x, xs, h1, h2, h3⟩ := h; exact ⟨x, xs, h1, Rep.sub d x h2, Reps.sub ds xs h3⟩
end
theorem TupAt.upd {A a : Addr} {ds : List PK.D} {xs vs : List V} (hA : H A = some (.lst xs)) (h : TupAt K H ds a vs) : TupAt K (upd H A o) ds a vs := by
  have ne : ∀ {u}, H a = some u → (∀ xs, u ≠ .lst xs) → a ≠ A := fun {u} h z e => by rw [e, hA] at h; cases h; exact z _ rfl
  rcases h with h | ⟨h, hk⟩
  · exact .inl (by rw [upd_ne (ne h (fun _ z => nomatch z))]; exact h)
  · refine .inr ⟨?_, hk⟩
    rcases h with (h | ⟨o, h⟩) | h
    · exact .inl (.inl (by rw [upd_ne (ne h (fun _ z => nomatch z))]; exact h))
    · exact .inl (.inr ⟨o, by rw [upd_ne (ne h (fun _ z => nomatch z))]; exact h⟩)
    · exact .inr h
mutual
theorem Rep.push {A : Addr} {xs : List V} (hA : H A = some (.lst xs)) : ∀ (d : PK.D) (v : V), Rep K (lk.add A) ρ n H d v → Rep K (lk.add A) ρ n (upd H A o) d v
  | .non, _, h => h
  | .bl _, _, h => h
  | .int _, _, h => h
  | .str _, _, h => h
  | .tup ds, v, h => by obtain ⟨a, vs, h1, h2, h3⟩ := h; exact ⟨a, vs, h1, h2.upd hA, Reps.push hA ds vs h3⟩
  | .lst ds, v, h => by
    obtain ⟨a, vs, h1, h2, h3, h4⟩ := h
    exact ⟨a, vs, h1, by rw [upd_ne fun e => h3.2 (.inr e)]; exact h2, h3, Reps.push hA ds vs h4⟩
  | .fz ds, v, h => by
    obtain ⟨a, vs, h1, h2, h3⟩ := h
    refine ⟨a, vs, h1, ?_, Reps.push hA ds vs h3⟩
    rcases h2 with ⟨o, h2⟩ | h2
    · exact .inl ⟨o, by rw [upd_ne fun e => by rw [e, hA] at h2; cases h2]; exact h2⟩
    · exact .inr h2
  | .ref i, v, h => h
  | .ins c ds, v, h => by
    obtain ⟨a, dx, fs, vs, h1, h2, h3, h4, h5, h6⟩ := h
    exact ⟨a, dx, fs, vs, h1, by rw [upd_ne fun e => h3.2 (.inr e)]; exact h2, h3, h4, h5, Reps.push hA ds vs h6⟩
  | .exc _, _, h => h
theorem Reps.push {A : Addr} {xs : List V} (hA : H A = some (.lst xs)) : ∀ (ds : List PK.D) (vs : List V), Reps K (lk.add A) ρ n H ds vs → Reps K (lk.add A) ρ n (upd H A o) ds vs
  | [], _, h => h
  | d :: ds, vs, h => by obtain ⟨x, xs', h1, h2, h3⟩ := h; exact ⟨x, xs', h1, Rep.push hA d x h2, Reps.push hA ds xs' h3⟩
end
theorem RepC.map {lk lk' : Lk} {n n' : Nat} {H H' : Hp} {ρ ρ' : Nm} (e : lk'.CA = lk.CA) (e2 : lk'.FN = lk.FN) (f : ∀ ds vs, Reps K lk ρ n H ds vs → Reps K lk' ρ' n' H' ds vs) {c : PK.Cell} {o : HO} (h : RepC K lk ρ n H c o) : RepC K lk' ρ' n' H' c o := by
  cases c with
  | lst ds => obtain ⟨vs, h1, h2⟩ := h; exact ⟨vs, h1, f _ _ h2⟩
  | dK kvs => obtain ⟨vs, h1, h2⟩ := h; exact ⟨vs, h1, h2.1, f _ _ h2.2⟩
  | dT kvs => obtain ⟨vs, h1, h2⟩ := h; exact ⟨vs, h1, h2.1, f _ _ h2.2⟩
  | frK kvs => obtain ⟨vs, od, h1, h2⟩ := h; exact ⟨vs, od, h1, h2.1, f _ _ h2.2⟩
  | ins c ds => obtain ⟨dx, fs, vs, h1, h2, h3, h4⟩ := h; exact ⟨dx, fs, vs, by rw [e]; exact h1, by rw [e2]; exact h2, by rw [e2]; exact h3, f _ _ h4⟩
theorem Rel.add {A : Addr} (r : Rel K lk ρ G H) (hA : H A = none) : Rel K (lk.add A) ρ G (upd H A o) := by
  refine ⟨fun i c q => ?_, r.inj, fun a z => ?_, fun i hi z => ?_⟩
  · obtain ⟨u, h1, h2⟩ := r.cell i c q
    have h3 : RepC K (lk.add A) ρ G.length H c u := RepC.map (lk := lk) (lk' := lk.add A) rfl rfl (fun _ _ => Reps.add hA _ _) h2
    exact ⟨u, by rw [upd_ne (ne_of_none h1 hA)]; exact h1, h3.ext (Ext.laid hA)⟩
  · rcases z with z | z
    · exact upd_some (r.zs a z)
    · rw [z, upd_same]; exact fun z => by cases z
  · rcases z with z | z
    · exact r.zc i hi z
    · obtain ⟨u, h1, _⟩ := r.cell i G[i] (by simp [hi])
      rw [z, hA] at h1; cases h1
theorem Rel.sub {A : Addr} (r : Rel K (lk.add A) ρ G H) : Rel K lk ρ G H := by
  refine ⟨fun i c q => ?_, r.inj, fun a z => r.zs a (.inl z), fun i hi z => r.zc i hi (.inl z)⟩
  obtain ⟨u, h1, h2⟩ := r.cell i c q
  exact ⟨u, h1, RepC.map (lk := lk.add A) (lk' := lk) rfl rfl (fun _ _ => Reps.sub _ _) h2⟩
theorem Rel.push {A : Addr} {xs : List V} (r : Rel K (lk.add A) ρ G H) (hA : H A = some (.lst xs)) : Rel K (lk.add A) ρ G (upd H A o) := by
  refine ⟨fun i c q => ?_, r.inj, fun a z => upd_some (r.zs a z), r.zc⟩
  obtain ⟨u, h1, h2⟩ := r.cell i c q
  refine ⟨u, ?_, RepC.map (lk := lk.add A) (lk' := lk.add A) rfl rfl (fun _ _ => Reps.push hA _ _) h2⟩
  rw [upd_ne fun e => r.zc i (List.getElem?_eq_some_iff.mp q).1 (.inr e)]
  exact h1
theorem REnv.add {A : Addr} {s : PK.Env} {σ : L2.St} (h : REnv K lk ρ n H s σ) (hA : H A = none) : REnv K (lk.add A) ρ n (upd H A o) s σ := ⟨h.len, fun i d q => by
  obtain ⟨v, h1, h2⟩ := h.at_ i d q
  exact ⟨v, h1, Rep.ext (Ext.laid hA) _ _ (Rep.add hA _ _ h2)⟩, h.pr⟩
theorem REnv.push {A : Addr} {xs : List V} {s : PK.Env} {σ : L2.St} (h : REnv K (lk.add A) ρ n H s σ) (hA : H A = some (.lst xs)) : REnv K (lk.add A) ρ n (upd H A o) s σ := ⟨h.len, fun i d q => by
  obtain ⟨v, h1, h2⟩ := h.at_ i d q
  exact ⟨v, h1, Rep.push hA _ _ h2⟩, h.pr⟩
theorem REnv.wipe {s : PK.Env} {σ : L2.St} (hF : lk.Free) : ∀ (is : List Nat), REnv K lk ρ n H s σ → REnv K lk ρ n H (PK.wipes s is) (L2.wipe σ is) := fun is h => by
  have hw : ∀ (is : List Nat) (s : PK.Env), (PK.wipes s is).length = s.length ∧ ∀ i d, (PK.wipes s is)[i]? = some (some d) → s[i]? = some (some d) ∧ i ∉ is := fun is => by
    induction is with
    | nil => intro s; exact ⟨rfl, fun i d q => ⟨q, by simp⟩⟩
    | cons k is ih =>
      intro s
      obtain ⟨h1, h2⟩ := ih (s.set k none)
      refine ⟨h1.trans (by simp), fun i d q => ?_⟩
      obtain ⟨h3, h4⟩ := h2 i d q
      by_cases z : k = i
      · subst z
        by_cases y : k < s.length
        · rw [List.getElem?_set_self y] at h3; cases h3
        · rw [List.getElem?_eq_none (by simpa using y)] at h3; cases h3
      · rw [List.getElem?_set_ne z] at h3
        exact ⟨h3, by simp only [List.mem_cons, not_or]; exact ⟨fun e => z e.symm, h4⟩⟩
  have hv : ∀ (is : List Nat) (i : Nat), i ∉ is → (L2.wipe σ is)[i]? = σ[i]? := fun is => by
    induction is with
    | nil => intro i _; rfl
    | cons k is ih =>
      intro i hi
      simp only [List.mem_cons, not_or] at hi
      unfold L2.wipe
      rw [List.getElem?_set_ne fun e => hi.1 e.symm]
      exact ih i hi.2
  obtain ⟨h1, h2⟩ := hw is s
  refine ⟨by rw [h1, h.len, L2.wipe_length], fun i d q => ?_, hF.wipe _ h.pr⟩
  obtain ⟨h3, h4⟩ := h2 i d q
  obtain ⟨v, h5, h6⟩ := h.at_ i d h3
  exact ⟨v, by rw [hv is i h4]; exact h5, h6⟩
theorem REnv.addH {A : Addr} {s : PK.Env} {σ : L2.St} (h : REnv K lk ρ n H s σ) (hA : H A = none) : REnv K (lk.add A) ρ n H s σ := ⟨h.len, fun i d q => by
  obtain ⟨v, h1, h2⟩ := h.at_ i d q
  exact ⟨v, h1, Rep.add hA _ _ h2⟩, h.pr⟩
theorem Ext.over {A : Addr} (e : Ext ρ n H ρ' n' H') (hA : H A = none) : Ext ρ n H ρ' n' (upd H' A o) where
  le := e.le
  agr := e.agr
  pres := fun a u h z => by rw [upd_ne (ne_of_none h hA)]; exact e.pres a u h z
  tups := fun a u h => by rw [upd_ne (ne_of_none h hA)]; exact e.tups a u h
  frzs := fun a u v h => by rw [upd_ne (ne_of_none h hA)]; exact e.frzs a u v h
  keep := fun a h => by
    by_cases q : a = A
    · rw [q]; exact hA
    · rw [upd_ne q] at h; exact e.keep a h
  new := e.new
theorem Rel.off {A : Addr} (r : Rel K (lk.add A) ρ G H) : ∀ i, i < G.length → ρ i ≠ A := fun i hi e => r.zc i hi (.inr e)
theorem Off.name {A a : Addr} (h : Off (lk.add A) ρ n a) : Off lk (nset ρ n A) (n + 1) a := ⟨fun i hi e => by
  by_cases q : i = n
  · rw [q, nset_same] at e; exact h.2 (.inr e.symm)
  · rw [nset_ne q] at e; exact h.1 i (by omega) e, fun z => h.2 (.inl z)⟩
mutual
theorem Rep.name {A : Addr} : ∀ (d : PK.D) (v : V), Rep K (lk.add A) ρ n H d v → Rep K lk (nset ρ n A) (n + 1) H d v
  | .non, _, h => h
  | .bl _, _, h => h
  | .int _, _, h => h
  | .str _, _, h => h
  | .tup ds, v, h => by obtain ⟨a, vs, h1, h2, h3⟩ := h; exact ⟨a, vs, h1, h2, Reps.name ds vs h3⟩
  | .lst ds, v, h => by
    obtain ⟨a, vs, h1, h2, h3, h4⟩ := h
    exact ⟨a, vs, h1, h2, h3.name, Reps.name ds vs h4⟩
  | .fz ds, v, h => by obtain ⟨a, vs, h1, h2, h3⟩ := h; exact ⟨a, vs, h1, h2, Reps.name ds vs h3⟩
  | .ref i, v, h => ⟨Nat.lt_succ_of_lt h.1, by rw [nset_ne (Nat.ne_of_lt h.1)]; exact h.2⟩
  | .ins c ds, v, h => by
    obtain ⟨a, dx, fs, vs, h1, h2, h3, h4, h5, h6⟩ := h
    exact ⟨a, dx, fs, vs, h1, h2, h3.name, h4, h5, Reps.name ds vs h6⟩
  | .exc _, _, h => h
theorem Reps.name {A : Addr} : ∀ (ds : List PK.D) (vs : List V), Reps K (lk.add A) ρ n H ds vs → Reps K lk (nset ρ n A) (n + 1) H ds vs
  | [], _, h => h
  | d :: ds, vs, h => by obtain ⟨x, xs, h1, h2, h3⟩ := h; exact ⟨x, xs, h1, Rep.name d x h2, Reps.name ds xs h3⟩
end
theorem Rel.name {A : Addr} {ds : List PK.D} {vs : List V} (r : Rel K (lk.add A) ρ G H) (hA : H A = some (.lst vs)) (p : Reps K (lk.add A) ρ G.length H ds vs) (hz : ¬ lk.Z A) : Rel K lk (nset ρ G.length A) (G ++ [.lst ds]) H := by
  have lt : ∀ k, k < (G ++ [PK.Cell.lst ds]).length → k = G.length ∨ k < G.length := fun k hk => by rw [List.length_append] at hk; simp at hk; omega
  refine ⟨fun i c q => ?_, fun i j hi hj e => ?_, fun a z => r.zs a (.inl z), fun i hi z => ?_⟩
  · rw [List.length_append]
    rcases lt i (List.getElem?_eq_some_iff.mp q).1 with e | e
    · subst e
      rw [List.getElem?_append_right (Nat.le_refl _), Nat.sub_self] at q
      cases q
      exact ⟨_, by rw [nset_same]; exact hA, vs, rfl, Reps.name _ _ p⟩
    · rw [List.getElem?_append_left e] at q
      obtain ⟨u, h1, h2⟩ := r.cell i c q
      exact ⟨u, by rw [nset_ne (Nat.ne_of_lt e)]; exact h1, RepC.map (lk := lk.add A) (lk' := lk) rfl rfl (fun _ _ => Reps.name _ _) h2⟩
  · rcases lt i hi with e1 | e1 <;> rcases lt j hj with e2 | e2
    · omega
    · rw [e1, nset_same, nset_ne (Nat.ne_of_lt e2)] at e
      exact absurd e.symm (r.off j e2)
    · rw [e2, nset_same, nset_ne (Nat.ne_of_lt e1)] at e
      exact absurd e (r.off i e1)
    · rw [nset_ne (Nat.ne_of_lt e1), nset_ne (Nat.ne_of_lt e2)] at e
      exact r.inj i j e1 e2 e
  · rcases lt i hi with e | e
    · rw [e, nset_same] at z; exact hz z
    · rw [nset_ne (Nat.ne_of_lt e)] at z; exact r.zc i e (.inl z)
theorem Ext.named {A : Addr} (e : Ext ρ n H ρ' n' H') (hA : H A = none) : Ext ρ n H (nset ρ' n' A) (n' + 1) H' where
  le := Nat.le_succ_of_le e.le
  agr := fun i h => by rw [nset_ne (Nat.ne_of_lt (Nat.lt_of_lt_of_le h e.le))]; exact e.agr i h
  pres := e.pres
  tups := e.tups
  frzs := e.frzs
  keep := e.keep
  new := fun i h1 h2 => by
    by_cases q : i = n'
    · rw [q, nset_same]; exact hA
    · rw [nset_ne q]; exact e.new i h1 (by omega)
end

section
variable {K : PySem.W.Frag} {lk lk' : Lk} {ρ : Nm} {n : Nat} {H : Hp} {G : Cells}
structure Alike (lk lk' : Lk) : Prop where
  ca : lk'.CA = lk.CA
  fn : lk'.FN = lk.FN
  z : lk'.Z = lk.Z
theorem Alike.back (e : Alike lk lk') : Alike lk' lk := ⟨e.ca.symm, e.fn.symm, e.z.symm⟩
theorem Alike.p {lk : Lk} (P : L2.St → Prop) : Alike lk (lk.p P) := ⟨rfl, rfl, rfl⟩
theorem Off.cg (e : Alike lk lk') {a : Addr} (h : Off lk ρ n a) : Off lk' ρ n a := ⟨h.1, by rw [e.z]; exact h.2⟩
mutual
theorem Rep.cg (e : Alike lk lk') : ∀ (d : PK.D) (v : V), Rep K lk ρ n H d v → Rep K lk' ρ n H d v
  | .non, _, h => h
  | .bl _, _, h => h
  | .int _, _, h => h
  | .str _, _, h => h
  | .tup ds, v, h => by obtain ⟨a, vs, h1, h2, h3⟩ := h; exact ⟨a, vs, h1, h2, Reps.cg e ds vs h3⟩
  | .lst ds, v, h => by
    obtain ⟨a, vs, h1, h2, h3, h4⟩ := h
    exact ⟨a, vs, h1, h2, h3.cg e, Reps.cg e ds vs h4⟩
  | .fz ds, v, h => by obtain ⟨a, vs, h1, h2, h3⟩ := h; exact ⟨a, vs, h1, h2, Reps.cg e ds vs h3⟩
  | .ref i, v, h => h
  | .ins c ds, v, h => by
    obtain ⟨a, dx, fs, vs, h1, h2, h3, h4, h5, h6⟩ := h
    exact ⟨a, dx, fs, vs, h1, by rw [e.ca]; exact h2, h3.cg e, by rw [e.fn]; exact h4, by rw [e.fn]; exact h5, Reps.cg e ds vs h6⟩
  | .exc _, _, h => h
theorem Reps.cg (e : Alike lk lk') : ∀ (ds : List PK.D) (vs : List V), Reps K lk ρ n H ds vs → Reps K lk' ρ n H ds vs
  | [], _, h => h
  | d :: ds, vs, h => by obtain ⟨x, xs, h1, h2, h3⟩ := h; exact ⟨x, xs, h1, Rep.cg e d x h2, Reps.cg e ds xs h3⟩
end
theorem Rel.cg (e : Alike lk lk') (r : Rel K lk ρ G H) : Rel K lk' ρ G H := by
  refine ⟨fun i c q => ?_, r.inj, fun a z => r.zs a (by rw [← e.z]; exact z), fun i hi => by rw [e.z]; exact r.zc i hi⟩
  obtain ⟨u, h1, h2⟩ := r.cell i c q
  exact ⟨u, h1, RepC.map e.ca e.fn (fun _ _ => Reps.cg e _ _) h2⟩
theorem REnv.cg (e : Alike lk lk') {s : PK.Env} {σ : L2.St} (h : REnv K lk ρ n H s σ) (hp : lk'.P σ) : REnv K lk' ρ n H s σ := ⟨h.len, fun i d q => by
  obtain ⟨v, h1, h2⟩ := h.at_ i d q
  exact ⟨v, h1, Rep.cg e _ _ h2⟩, hp⟩
end
end PKS
namespace PKS
open PySem PySem.Spec PyProof.Rows L2
section
variable (K : PySem.W.Frag) (lk : Lk)
def OutE (W : WX) (σ : L2.St) (ρ : Nm) (G : Cells) (H : Hp) (r : PK.R) (Q : VK) : Prop := match r with
  | .ok v G' => ∀ ρ' H' x, Ext ρ G.length H ρ' G'.length H' → Rel K lk ρ' G' H' → Rep K lk ρ' G'.length H' v x → Q x H'
  | .exc c G' => ∀ ρ' H', Ext ρ G.length H ρ' G'.length H' → Rel K lk ρ' G' H' → W (lk.EV c) (tnt c) σ H'
  | .bad => False
def OutA (W : WX) (σ : L2.St) (ρ : Nm) (G : Cells) (H : Hp) (r : PK.R) (Q : List V → Hp → Prop) : Prop := match r with
  | .ok v G' => ∀ ρ' H' xs, Ext ρ G.length H ρ' G'.length H' → Rel K lk ρ' G' H' → (∃ ds, v = .tup ds ∧ Reps K lk ρ' G'.length H' ds xs) → Q xs H'
  | .exc c G' => ∀ ρ' H', Ext ρ G.length H ρ' G'.length H' → Rel K lk ρ' G' H' → W (lk.EV c) (tnt c) σ H'
  | .bad => False
def lift (W : WX) (ev : PK.Env → Cells → PK.R) : TE := fun σ H Q => ∃ ρ G s, Rel K lk ρ G H ∧ REnv K lk ρ G.length H s σ ∧ OutE K lk W σ ρ G H (ev s G) Q
def liftA (W : WX) (ev : PK.Env → Cells → PK.R) : TA := fun σ H Q => ∃ ρ G s, Rel K lk ρ G H ∧ REnv K lk ρ G.length H s σ ∧ OutA K lk W σ ρ G H (ev s G) Q
def OutT (W : WX) (σ : L2.St) (ρ : Nm) (G : Cells) (H : Hp) (r : PK.R) (Q : Bool → Hp → Prop) : Prop := match r with
  | .ok v G' => ∃ b, v = .bl b ∧ ∀ ρ' H', Ext ρ G.length H ρ' G'.length H' → Rel K lk ρ' G' H' → Q b H'
  | .exc c G' => ∀ ρ' H', Ext ρ G.length H ρ' G'.length H' → Rel K lk ρ' G' H' → W (lk.EV c) (tnt c) σ H'
  | .bad => False
def liftT (W : WX) (ev : PK.Env → Cells → PK.R) : TT := fun σ H Q => ∃ ρ G s, Rel K lk ρ G H ∧ REnv K lk ρ G.length H s σ ∧ OutT K lk W σ ρ G H (ev s G) Q
end
section
variable {K : PySem.W.Frag} {lk : Lk} {W : WX} {σ : L2.St} {ρ ρ1 : Nm} {G G1 : Cells} {H H1 : Hp} {Q Q1 : VK}
theorem OutE.ext {r : PK.R} (e : Ext ρ G.length H ρ1 G1.length H1) (h : OutE K lk W σ ρ G H r Q) : OutE K lk W σ ρ1 G1 H1 r Q := by
  cases r with
  | ok v G' => exact fun ρ' H' x e' r' p' => h ρ' H' x (e.trans e') r' p'
  | exc c G' => exact fun ρ' H' e' r' => h ρ' H' (e.trans e') r'
  | bad => exact h
theorem OutA.ext {r : PK.R} {Q : List V → Hp → Prop} (e : Ext ρ G.length H ρ1 G1.length H1) (h : OutA K lk W σ ρ G H r Q) : OutA K lk W σ ρ1 G1 H1 r Q := by
  cases r with
  | ok v G' => exact fun ρ' H' x e' r' p' => h ρ' H' x (e.trans e') r' p'
  | exc c G' => exact fun ρ' H' e' r' => h ρ' H' (e.trans e') r'
  | bad => exact h
theorem OutT.ext {r : PK.R} {Q : Bool → Hp → Prop} (e : Ext ρ G.length H ρ1 G1.length H1) (h : OutT K lk W σ ρ G H r Q) : OutT K lk W σ ρ1 G1 H1 r Q := by
  cases r with
  | ok v G' => obtain ⟨b, e1, h⟩ := h; exact ⟨b, e1, fun ρ' H' e' r' => h ρ' H' (e.trans e') r'⟩
  | exc c G' => exact fun ρ' H' e' r' => h ρ' H' (e.trans e') r'
  | bad => exact h
theorem OutE.bind {r : PK.R} {f : PK.D → Cells → PK.R} {t} (h : OutE K lk W σ ρ G H (r.bind f t) Q)
    (k : ∀ v G1, r = .ok v G1 → ∀ ρ1 H1 x, Ext ρ G.length H ρ1 G1.length H1 → Rel K lk ρ1 G1 H1 → Rep K lk ρ1 G1.length H1 v x → OutE K lk W σ ρ1 G1 H1 (f v G1) Q → Q1 x H1) : OutE K lk W σ ρ G H r Q1 := by
  cases r with
  | ok v G1 => exact fun ρ1 H1 x e1 r1 p1 => k v G1 rfl ρ1 H1 x e1 r1 p1 (OutE.ext e1 h)
  | exc c G' => exact h
  | bad => exact h
theorem OutT.bind {r : PK.R} {f : PK.D → Cells → PK.R} {t} {Q : Bool → Hp → Prop} (h : OutT K lk W σ ρ G H (r.bind f t) Q)
    (k : ∀ v G1, r = .ok v G1 → ∀ ρ1 H1 x, Ext ρ G.length H ρ1 G1.length H1 → Rel K lk ρ1 G1 H1 → Rep K lk ρ1 G1.length H1 v x → OutT K lk W σ ρ1 G1 H1 (f v G1) Q → Q1 x H1) : OutE K lk W σ ρ G H r Q1 := by
  cases r with
  | ok v G1 => exact fun ρ1 H1 x e1 r1 p1 => k v G1 rfl ρ1 H1 x e1 r1 p1 (OutT.ext e1 h)
  | exc c G' => exact h
  | bad => exact h
theorem OutE.bindT {r : PK.R} {f : PK.D → Cells → PK.R} {t} {Q1 : Bool → Hp → Prop} (h : OutE K lk W σ ρ G H (r.bind f t) Q) (hf : ∀ v G1, (∀ b, v ≠ .bl b) → f v G1 = .bad)
    (k : ∀ b G1, r = .ok (.bl b) G1 → ∀ ρ1 H1, Ext ρ G.length H ρ1 G1.length H1 → Rel K lk ρ1 G1 H1 → OutE K lk W σ ρ1 G1 H1 (f (.bl b) G1) Q → Q1 b H1) : OutT K lk W σ ρ G H r Q1 := by
  cases r with
  | ok v G1 =>
    cases v with
    | bl b => exact ⟨b, rfl, fun ρ1 H1 e1 r1 => k b G1 rfl ρ1 H1 e1 r1 (OutE.ext e1 h)⟩
    | _ => exact absurd (show OutE K lk W σ ρ G H (f _ G1) Q from h) (by rw [hf _ _ (fun b z => by cases z)]; exact id)
  | exc c G' => exact h
  | bad => exact h
theorem OutE.here {v : PK.D} {x : V} (h : OutE K lk W σ ρ G H (.ok v G) Q) (r : Rel K lk ρ G H) (p : Rep K lk ρ G.length H v x) : Q x H := h ρ H x Ext.refl r p
theorem OutE.imp {W' : WX} {r : PK.R} {σ' : L2.St} (h : OutE K lk W σ ρ G H r Q) (hW : ∀ c H', W (lk.EV c) (tnt c) σ H' → W' (lk.EV c) (tnt c) σ' H') : OutE K lk W' σ' ρ G H r Q := by
  cases r with
  | ok v G' => exact h
  | exc c G' => exact fun ρ' H' e r => hW _ _ (h ρ' H' e r)
  | bad => exact h
theorem OutT.imp {W' : WX} {r : PK.R} {σ' : L2.St} {Q : Bool → Hp → Prop} (h : OutT K lk W σ ρ G H r Q) (hW : ∀ c H', W (lk.EV c) (tnt c) σ H' → W' (lk.EV c) (tnt c) σ' H') : OutT K lk W' σ' ρ G H r Q := by
  cases r with
  | ok v G' => exact h
  | exc c G' => exact fun ρ' H' e r => hW _ _ (h ρ' H' e r)
  | bad => exact h
theorem OutE.safe {W' : WX} {r : PK.R} {σ' : L2.St} (h : OutE K lk W σ ρ G H r.safe Q) : OutE K lk W' σ' ρ G H r Q := by
  cases r with
  | ok v G' => exact h
  | exc c G' => exact False.elim h
  | bad => exact h
theorem OutE.mkl {w : Bool} {ds : List PK.D} {vs : List V} (h : OutE K lk W σ ρ G H (PK.mkl w ds G) Q) (r : Rel K lk ρ G H) (p : Reps K lk ρ G.length H ds vs) : ∀ a, H a = none → Q (.ref a) (upd H a (.lst vs)) := fun a ha => by
  cases w with
  | true =>
    have h : OutE K lk W σ ρ G H (.ok (.ref G.length) (G ++ [.lst ds])) Q := h
    refine h (nset ρ G.length a) _ _ ?_ (r.laid ha ⟨vs, rfl, p⟩) ⟨by simp, by rw [nset_same]⟩
    rw [List.length_append]
    exact Ext.celled ha
  | false =>
    have h : OutE K lk W σ ρ G H (.ok (.lst ds) G) Q := h
    refine h ρ _ _ (Ext.laid ha) (r.other ha) ⟨a, vs, rfl, upd_same, ⟨fun i hi z => ?_, fun z => r.zs a z ha⟩, Reps.ext (Ext.laid ha) _ _ p⟩
    obtain ⟨u, h1, _⟩ := r.cell i G[i] (by simp [hi])
    rw [z, ha] at h1; cases h1
theorem OutE.tup {ds : List PK.D} {vs : List V} (h : OutE K lk W σ ρ G H (.ok (.tup ds) G) Q) (r : Rel K lk ρ G H) (p : Reps K lk ρ G.length H ds vs) : ∀ a, H a = none → Q (.ref a) (upd H a (.tup vs)) := fun a ha =>
  h ρ _ _ (Ext.laid ha) (r.other ha) ⟨a, vs, rfl, .inl upd_same, Reps.ext (Ext.laid ha) _ _ p⟩
theorem OutE.put {i : Nat} {c c' : PK.Cell} {o : HO} {v : PK.D} {x : V} (h : OutE K lk W σ ρ G H (.ok v (PK.setC G i c')) Q) (r : Rel K lk ρ G H) (q : G[i]? = some c) (rc : RepC K lk ρ G.length H c' o) (p : Rep K lk ρ G.length H v x) (hu : PK.unl c = true := by rfl) : Q x (upd H (ρ i) o) := by
  have e : Ext ρ G.length H ρ (PK.setC G i c').length (upd H (ρ i) o) := by
    show Ext ρ G.length H ρ (G.set i c').length _
    rw [List.length_set]
    exact r.exw q hu
  exact h ρ _ x e (r.written q rc hu) (Rep.ext e _ _ p)

theorem seq_of {x : PK.D} {v : V} {ds : List PK.D} (e : PK.seqD G x = some ds) (r : Rel K lk ρ G H) (p : Rep K lk ρ G.length H x v) : ∃ a vs, v = .ref a ∧ (SqL K H a vs ∨ SqT K H a vs) ∧ Reps K lk ρ G.length H ds vs ∧ ((∀ es, x ≠ .tup es) → SqL K H a vs) ∧ ((∃ es, x = .tup es) → SqT K H a vs) := by
  cases x with
  | tup es =>
    cases e
    obtain ⟨a, vs, h1, h2, h3⟩ := p
    exact ⟨a, vs, h1, .inr h2.sq, h3, fun z => absurd rfl (z _), fun _ => h2.sq⟩
  | lst es =>
    cases e
    obtain ⟨a, vs, h1, h2, _, h3⟩ := p
    exact ⟨a, vs, h1, .inl (SqL.of h2), h3, fun _ => SqL.of h2, fun ⟨_, z⟩ => nomatch z⟩
  | fz es =>
    cases e
    obtain ⟨a, vs, h1, h2, h3⟩ := p
    have q : SqL K H a vs := by
      rcases h2 with ⟨o, h2⟩ | h2
      · exact .inl (.inr ⟨o, h2⟩)
      · exact .inr h2
    exact ⟨a, vs, h1, .inl q, h3, fun _ => q, fun ⟨_, z⟩ => nomatch z⟩
  | ref i =>
    obtain ⟨hi, hv⟩ := p
    unfold PK.seqD at e
    cases q : G[i]? with
    | none => simp [q] at e
    | some c =>
      cases c with
      | lst es =>
        simp only [q] at e
        cases e
        obtain ⟨u, h1, vs, h2, h3⟩ := r.cell i _ q
        subst h2
        exact ⟨ρ i, vs, hv, .inl (SqL.of h1), h3, fun _ => SqL.of h1, fun ⟨_, z⟩ => nomatch z⟩
      | _ => simp [q] at e
  | _ => cases e
theorem lst_of {x : PK.D} {v : V} {ds : List PK.D} (e : PK.lstD G x = some ds) (r : Rel K lk ρ G H) (p : Rep K lk ρ G.length H x v) : ∃ a vs, v = .ref a ∧ H a = some (.lst vs) ∧ Reps K lk ρ G.length H ds vs := by
  cases x with
  | lst es =>
    cases e
    obtain ⟨a, vs, h1, h2, _, h3⟩ := p
    exact ⟨a, vs, h1, h2, h3⟩
  | ref i =>
    obtain ⟨hi, hv⟩ := p
    unfold PK.lstD at e
    cases q : G[i]? with
    | none => simp [q] at e
    | some c =>
      cases c with
      | lst es =>
        simp only [q] at e
        cases e
        obtain ⟨u, h1, vs, h2, h3⟩ := r.cell i _ q
        subst h2
        exact ⟨ρ i, vs, hv, h1, h3⟩
      | _ => simp [q] at e
  | _ => cases e
theorem ints_of : ∀ {ds : List PK.D} {vs : List V} {ns : List Int} {n : Nat}, PK.intsD ds = some ns → Reps K lk ρ n H ds vs → vs = ns.map V.int
  | [], vs, ns, n, e, p => by cases e; exact p
  | d :: ds, vs, ns, n, e, p => by
    obtain ⟨x, xs, h1, h2, h3⟩ := p
    cases d with
    | int i =>
      have e : (PK.intsD ds).map (i :: ·) = some ns := e
      cases q : PK.intsD ds with
      | none => rw [q] at e; cases e
      | some ms =>
        rw [q] at e; cases e
        rw [h1, show x = V.int i from h2, ints_of q h3]; rfl
    | _ => cases e
theorem bls_of : ∀ {ds : List PK.D} {vs : List V} {ns : List Bool} {n : Nat}, PK.blsD ds = some ns → Reps K lk ρ n H ds vs → vs = ns.map V.bl
  | [], vs, ns, n, e, p => by cases e; exact p
  | d :: ds, vs, ns, n, e, p => by
    obtain ⟨x, xs, h1, h2, h3⟩ := p
    cases d with
    | bl i =>
      have e : (PK.blsD ds).map (i :: ·) = some ns := e
      cases q : PK.blsD ds with
      | none => rw [q] at e; cases e
      | some ms =>
        rw [q] at e; cases e
        rw [h1, show x = V.bl i from h2, bls_of q h3]; rfl
    | _ => cases e
theorem strs_of : ∀ {ds : List PK.D} {vs : List V} {ns : List Str} {n : Nat}, PK.strsD ds = some ns → Reps K lk ρ n H ds vs → vs = ns.map V.str
  | [], vs, ns, n, e, p => by cases e; exact p
  | d :: ds, vs, ns, n, e, p => by
    obtain ⟨x, xs, h1, h2, h3⟩ := p
    cases d with
    | str i =>
      have e : (PK.strsD ds).map (i :: ·) = some ns := e
      cases q : PK.strsD ds with
      | none => rw [q] at e; cases e
      | some ms =>
        rw [q] at e; cases e
        rw [h1, show x = V.str i from h2, strs_of q h3]; rfl
    | _ => cases e
theorem of_ints : ∀ (ns : List Int) {n : Nat}, Reps K lk ρ n H (ns.map .int) (ns.map V.int)
  | [], _ => rfl
  | i :: ns, _ => ⟨_, _, rfl, rfl, of_ints ns⟩
theorem of_strs : ∀ (ns : List Str) {n : Nat}, Reps K lk ρ n H (ns.map .str) (ns.map V.str)
  | [], _ => rfl
  | i :: ns, _ => ⟨_, _, rfl, rfl, of_strs ns⟩

mutual
theorem dp_of (r : Rel K lk ρ G H) : ∀ (n : Nat) (x : PK.D) (v : V) (d : PyData), PK.pd G n x = some d → Rep K lk ρ G.length H x v → Dp K H v d
  | 0, x, v, d, e, _ => by cases x <;> cases e
  | n + 1, .non, v, d, e, p => by cases e; rw [show v = .non from p]; exact .non
  | n + 1, .bl b, v, d, e, p => by cases e; rw [show v = .bl b from p]; exact .bl b
  | n + 1, .int i, v, d, e, p => by cases e; rw [show v = .int i from p]; exact .int i
  | n + 1, .str b, v, d, e, p => by cases e; rw [show v = .str b from p]; exact .str b
  | n + 1, .tup ds, v, d, e, p => by
    have e : (PK.pds (PK.pd G n) ds).map .tuple = some d := e
    obtain ⟨a, vs, h1, h2, h3⟩ := p
    cases q : PK.pds (PK.pd G n) ds with
    | none => rw [q] at e; cases e
    | some xs => rw [q] at e; cases e; rw [h1]; exact .tup h2.sq (dps_of r n ds vs xs q h3)
  | n + 1, .lst ds, v, d, e, p => by
    have e : (PK.pds (PK.pd G n) ds).map .list = some d := e
    obtain ⟨a, vs, h1, h2, _, h3⟩ := p
    cases q : PK.pds (PK.pd G n) ds with
    | none => rw [q] at e; cases e
    | some xs => rw [q] at e; cases e; rw [h1]; exact .lst (SqL.of h2) (dps_of r n ds vs xs q h3)
  | n + 1, .fz ds, v, d, e, p => by
    have e : (PK.pds (PK.pd G n) ds).map .list = some d := e
    obtain ⟨a, vs, h1, h2, h3⟩ := p
    cases q : PK.pds (PK.pd G n) ds with
    | none => rw [q] at e; cases e
    | some xs =>
      rw [q] at e; cases e; rw [h1]
      refine .lst ?_ (dps_of r n ds vs xs q h3)
      rcases h2 with ⟨o, h2⟩ | h2
      · exact .inl (.inr ⟨o, h2⟩)
      · exact .inr h2
  | n + 1, .ref i, v, d, e, p => by
    obtain ⟨hi, hv⟩ := p
    unfold PK.pd at e
    cases q : G[i]? with
    | none => simp [q] at e
    | some c =>
      cases c with
      | lst es =>
        simp only [q] at e
        obtain ⟨u, h1, vs, h2, h3⟩ := r.cell i _ q
        subst h2
        cases q2 : PK.pds (PK.pd G n) es with
        | none => rw [q2] at e; cases e
        | some xs => rw [q2] at e; cases e; rw [hv]; exact .lst (SqL.of h1) (dps_of r n es vs xs q2 h3)
      | _ => simp [q] at e
  | n + 1, .ins c ds, v, d, e, p => by cases e
  | n + 1, .exc c, v, d, e, p => by cases e
termination_by n => (n, 0)
theorem dps_of (r : Rel K lk ρ G H) : ∀ (n : Nat) (xs : List PK.D) (vs : List V) (ds : List PyData), PK.pds (PK.pd G n) xs = some ds → Reps K lk ρ G.length H xs vs → DpAll K H vs ds
  | n, [], vs, ds, e, p => by cases e; rw [show vs = [] from p]; exact .nil
  | n, x :: xs, vs, ds, e, p => by
    obtain ⟨y, ys, h1, h2, h3⟩ := p
    have e : ((PK.pd G n x).bind fun x => (PK.pds (PK.pd G n) xs).bind fun xs => some (x :: xs)) = some ds := e
    cases q1 : PK.pd G n x with
    | none => rw [q1] at e; cases e
    | some d =>
      cases q2 : PK.pds (PK.pd G n) xs with
      | none => rw [q1, q2] at e; cases e
      | some es =>
        rw [q1, q2] at e; cases e
        rw [h1]
        exact .cons (dp_of r n x y d q1 h2) (dps_of r n xs ys es q2 h3)
termination_by n xs => (n, xs.length + 1)
end
end
end PKS
namespace PKS
open PySem PySem.Spec PyProof.Rows L2
section
variable {prog : Program} {w : World} {A : Around} {E : Value → Shared → Prop} {s : Shared}
theorem shown_ {x : Addr} {Q : Unit → Shared → Prop} (l : (x == sysModules) = false) (q : Q () s) : wpAny (model prog w) A (Builtin.Dict.showsAll x) Q E s := by
  rw [show Builtin.Dict.showsAll x = pure () by simp [Builtin.Dict.showsAll, l]]
  exact wpAny_pure q
theorem none_there {nm : String} {x y : Addr} {xs : Array DictEntry} {ex ey : Nat} {Q : Bool → Shared → Prop} (lx : (x == sysModules) = false) (ly : (y == sysModules) = false)
    (dx : s.heap.DictRaw x xs ex) (dy : s.heap.DictRaw y #[] ey) (h : Q (xs.size == 0) s) : wpAny (model prog w) A (Builtin.Dict.samePairs nm x y) Q E s := by
  obtain ⟨ox, gx, _, hx⟩ := dx
  obtain ⟨oy, gy, _, hy⟩ := dy
  refine wpAny_bind (shown_ lx (wpAny_bind (shown_ ly (wpAny_bind (wpAny_dictEntries gx hx (wpAny_bind (wpAny_dictEntries gy hy ?_)))))))
  rcases Nat.eq_zero_or_pos xs.size with z | z
  · have e : xs = #[] := Array.eq_empty_of_size_eq_zero z
    subst e
    refine wpAny_bind (wpAny_dictEpoch gx hx (wpAny_bind ?_))
    rw [Std.Legacy.Range.forIn_eq_forIn_range']
    exact wpAny_pure (wpAny_pure h)
  · have ne : (xs.size == 0) = false := beq_eq_false_iff_ne.mpr (by omega)
    have e : (xs.size != (#[] : Array DictEntry).size) = true := by
      show (!(xs.size == 0)) = true
      rw [ne]; rfl
    rw [if_pos e]
    rw [ne] at h
    exact wpAny_bind (wpAny_rule (wpAny_pure h))
def cmpE : Bool → CmpOp
  | false => .Eq
  | true => .NotEq
theorem both_empty (neg : Bool) {x y : Addr} {xs : Array DictEntry} {ex ey : Nat} {Q : Value → Shared → Prop} (lx : (x == sysModules) = false) (ly : (y == sysModules) = false)
    (dx : s.heap.DictRaw x xs ex) (dy : s.heap.DictRaw y #[] ey) (hu : A.units < cLine) (h : Q (.bool (if neg then !(xs.size == 0) else xs.size == 0)) s) : wpAny (model prog w) A (richCompare (cmpE neg) (.ref x) (.ref y)) Q E s := by
  have args : ∀ {B : Around} {E : Value → Shared → Prop} (nm : String) (R : Value × Value → Shared → Prop), R (.ref x, .ref y) s → wpAny (model prog w) B (Builtin.Dict.dictSlotArgs nm ⟨[.ref x, .ref y], []⟩) R E s := fun nm R r => by
    unfold Builtin.Dict.dictSlotArgs
    exact wpAny_bind (wpAny_notOrdered_dict dx.typeIs (wpAny_pure r))
  have inst : ∀ {B : Around} {E : Value → Shared → Prop} (R : Bool → Shared → Prop), R true s → wpAny (model prog w) B (isInstance (.ref y) (.type "dict")) R E s := fun R r => wpAny_isInstance (T := "dict") dy.typeIs PySem.F.sub_dict_dict r
  cases neg with
  | false =>
    refine wpAny_richCompare_same_room (op := .Eq) dx.typeIs dy.typeIs PySem.F.slot_dict_eq (wpAny_call_entry PySem.F.slot_dict_eq dx.typeIs PySem.F.entry_dict_eq (wpAny_bind (args _ _ (wpAny_bind (inst _ ?_)))) (PySem.F.args_dict_eq_2 _ _)) hu
    refine wpAny_bind (wpAny_pure (wpAny_bind (wpAny_pure (wpAny_bind (none_there lx ly dx dy (wpAny_pure ?_))))))
    exact ⟨_, rfl, (fun z => nomatch z), by simpa using h⟩
  | true =>
    refine wpAny_richCompare_same_room (op := .NotEq) dx.typeIs dy.typeIs PySem.F.slot_dict_ne (wpAny_call_entry PySem.F.slot_dict_ne dx.typeIs PySem.F.entry_dict_ne (wpAny_bind (args _ _ (wpAny_bind (inst _ ?_)))) (PySem.F.args_dict_ne_2 _ _)) hu
    refine wpAny_bind (wpAny_pure (wpAny_bind (wpAny_pure (wpAny_bind (none_there lx ly dx dy (wpAny_pure ?_))))))
    exact ⟨_, rfl, (fun z => nomatch z), by simpa using h⟩
end
def DLen (H : Hp) (a : Addr) (n : Nat) : Prop := (∃ kvs, H a = some (.dK kvs) ∧ kvs.length = n) ∨ ∃ kvs, H a = some (.dT kvs) ∧ kvs.length = n
theorem raw_of {X : Cx} {pins : List (Addr × Obj)} {σ : L2.St} {H : Hp} {s : Shared} {a : Addr} {n : Nat} (I : Inv X pins σ H s) (h : DLen H a n) : (a == sysModules) = false ∧ ∃ es ep, s.heap.DictRaw a es ep ∧ es.size = n := by
  rcases h with ⟨kvs, h, e⟩ | ⟨kvs, h, e⟩
  · obtain ⟨z, lo, vs, rel, o, es, ep, ho, hx, hd, hk, hp, nd⟩ := (show ObjOk X.prog X.w H s.heap a (.dK kvs) from I.hok a _ h)
    refine ⟨lo, es, ep, ⟨o, ho, hx, hd⟩, ?_⟩
    have h1 : vs.length = es.size := by rw [← hp.length]; exact Array.length_toList
    rw [← h1, ← rel.length]; exact e
  · obtain ⟨z, lo, ys, rk, o, es, ep, ho, hx, hd, he, nd⟩ := (show ObjOk X.prog X.w H s.heap a (.dT kvs) from I.hok a _ h)
    refine ⟨lo, es, ep, ⟨o, ho, hx, hd⟩, ?_⟩
    have hsz : es.size = ys.length := by
      have := congrArg List.length he
      simpa using this
    rw [hsz, ← Paired.length rk]; exact e
def rEqE (neg : Bool) : R2 := fun x y H Q => ∃ a b n, x = .ref a ∧ y = .ref b ∧ DLen H a n ∧ DLen H b 0 ∧ Q (.bl (if neg then !(n == 0) else n == 0)) H
theorem op_eqE {X : Cx} (hu : X.A.units + 64 < cLine) : OpR X (compareOp .Eq) (rEqE false) := by
  intro pins s σ H x y v u Q I rx ry h
  obtain ⟨a, b, n, rfl, rfl, h1, h2, q⟩ := h
  cases rx
  cases ry
  obtain ⟨l1, es, ep, d1, e1⟩ := raw_of I h1
  obtain ⟨l2, es2, ep2, d2, e2⟩ := raw_of I h2
  have e3 : es2 = #[] := Array.eq_empty_of_size_eq_zero e2
  subst e3
  exact both_empty false l1 l2 d1 d2 (by omega) ⟨.bl _, H, I, rfl, by rw [e1]; exact q⟩
theorem op_neE {X : Cx} (hu : X.A.units + 64 < cLine) : OpR X (compareOp .NotEq) (rEqE true) := by
  intro pins s σ H x y v u Q I rx ry h
  obtain ⟨a, b, n, rfl, rfl, h1, h2, q⟩ := h
  cases rx
  cases ry
  obtain ⟨l1, es, ep, d1, e1⟩ := raw_of I h1
  obtain ⟨l2, es2, ep2, d2, e2⟩ := raw_of I h2
  have e3 : es2 = #[] := Array.eq_empty_of_size_eq_zero e2
  subst e3
  exact both_empty true l1 l2 d1 d2 (by omega) ⟨.bl _, H, I, rfl, by rw [e1]; exact q⟩
end PKS
namespace PKS
open PySem PySem.Spec PyProof.Rows L2
section
variable {K : PySem.W.Frag} {lk : Lk} {W : WX} {σ : L2.St} {ρ : Nm} {G : Cells} {H : Hp} {Q : VK} {X : Cx}

theorem log_of {i : Int} (h : i.natAbs < 2 ^ 1000) : i.natAbs.log2 < 1000 := PySem.Flt.log2_lt_of (by decide) h
def CMulZ (i j : Int) : Prop := CMulW i j ∨ j.natAbs < 2 ^ 60
theorem CMulZ.ok {i j : Int} (h : CMulZ i j) : IntMulOk i j := by
  rcases h with h | h
  · exact h.ok
  · exact .of_right (intBits_le_64 (by omega) (by omega))
def rMulS : R2 := fun x y H Q => ∃ (a : Str) (k : Int), x = .str a ∧ y = .int k ∧ (0 ≤ k ∧ k ≤ 5000) ∧ a.length ≤ 200 ∧ Q (.str (Txt.mul a k)) H
theorem op_mulS {X : Cx} : OpR X (binaryOp .Mult) rMulS := by
  intro pins s σ H x y v u Q I rx ry h
  obtain ⟨a, k, rfl, rfl, ⟨h1, h2⟩, h3, q⟩ := h
  obtain ⟨t, rfl⟩ := rx
  obtain ⟨t2, rfl⟩ := ry
  refine SB.mul ⟨?_, fun hk _ => ?_, fun hk _ => ?_⟩ fun t' k' => ⟨.str (Txt.mul a k), H, I.kept (h' := s.heap) (t' := k') fun _ _ e => e, ⟨t', rfl⟩, q⟩
  · rw [decide_eq_false (by omega), decide_eq_false (by omega)]; rfl
  · have m1 : (a.length : Int) * k ≤ 200 * 5000 := Int.mul_le_mul (by omega) h2 (by omega) (by omega)
    have m2 : (a.length : Int) ≤ (2 ^ 63 - 1) / k := (Int.le_ediv_iff_mul_le (by omega)).mpr (by omega)
    omega
  · have m1 : a.length * k.toNat ≤ 200 * 5000 := Nat.mul_le_mul h3 (by omega)
    unfold Builtin.Str.tooLong
    rw [decide_eq_false]
    rw [sizeLine_eq]
    omega
theorem op_mulZ {X : Cx} : OpR X (binaryOp .Mult) (rI CMulZ fun i j => .int (i * j)) := opI fun _ _ _ _ _ _ _ hc q => mul_int q hc.ok
def rBin (K : PySem.W.Frag) : PK.Bo → R2
  | .add => fun x y H Q => rI0 (fun i j => .int (i + j)) x y H Q ∨ (∃ i j, x = .str i ∧ y = .str j ∧ i.length + j.length ≤ sizeLine ∧ Q (.str (i ++ j)) H) ∨ rCatA K x y H Q ∨ rCat x y H Q
  | .sub => rI0 fun i j => .int (i - j)
  | .mul => fun x y H Q => rI CMulZ (fun i j => .int (i * j)) x y H Q ∨ rRep x y H Q ∨ rMulS x y H Q
  | .fdiv => rI CDivW fun i j => .int (i / j)
  | .mod => rI (fun _ j => 0 < j) fun i j => .int (i % j)
  | .pow => rI CPow fun i j => .int (i ^ j.toNat)
def opOf : PK.Bo → Operator
  | .add => .Add | .sub => .Sub | .mul => .Mult | .fdiv => .FloorDiv | .mod => .Mod | .pow => .Pow
theorem op_bin (o : PK.Bo) : OpR X (binaryOp (opOf o)) (rBin X.K o) := by
  cases o with
  | add => exact op_add.or (op_add_str.or (op_catA.or op_cat))
  | sub => exact op_sub
  | mul => exact op_mulZ.or (op_rep.or op_mulS)
  | fdiv => exact op_fdivW
  | mod => exact op_mod
  | pow => exact op_pow
theorem szOk_le {n : Nat} (h : PK.szOk n = true) : n ≤ sizeLine := Nat.le_trans (of_decide_eq_true h) (by rw [sizeLine_eq]; decide)
theorem bin_lists {w : Bool} {v u : PK.D} {x y : V} {a b : List PK.D} (r : Rel K lk ρ G H) (e1 : PK.lstD G v = some a) (e2 : PK.lstD G u = some b) (p : Rep K lk ρ G.length H v x) (p' : Rep K lk ρ G.length H u y)
    (hs : PK.szOk (a.length + b.length) = true) (h : OutE K lk W σ ρ G H (PK.mkl w (a ++ b) G) Q) : rBin K .add x y H Q := by
  obtain ⟨A, vs, h1, h2, h3⟩ := lst_of e1 r p
  obtain ⟨B, ws, h4, h5, h6⟩ := lst_of e2 r p'
  exact .inr (.inr (.inr ⟨A, B, vs, ws, h1, h4, h2, h5, by rw [← h3.length, ← h6.length]; exact szOk_le hs, h.mkl r (h3.append h6)⟩))
theorem bin_val (o : PK.Bo) {w : Bool} {v u : PK.D} {x y : V} (r : Rel K lk ρ G H) (p : Rep K lk ρ G.length H v x) (p' : Rep K lk ρ G.length H u y) (h : OutE K lk W σ ρ G H (PK.binD o w v u G) Q) : rBin K o x y H Q := by
  cases o with
  | add =>
    have lists : (∀ i j, ¬ (v = .int i ∧ u = .int j)) → (∀ i j, ¬ (v = .str i ∧ u = .str j)) → (∀ i j, ¬ (v = .tup i ∧ u = .tup j)) → rBin K .add x y H Q := fun n1 n2 n3 => by
      have e : PK.binD .add w v u G = match PK.lstD G v, PK.lstD G u with
          | some a, some b => if PK.szOk (a.length + b.length) then PK.mkl w (a ++ b) G else .bad
          | _, _ => .bad := by
        cases v <;> cases u <;> first | rfl | exact absurd ⟨rfl, rfl⟩ (n1 _ _) | exact absurd ⟨rfl, rfl⟩ (n2 _ _) | exact absurd ⟨rfl, rfl⟩ (n3 _ _)
      rw [e] at h
      cases q1 : PK.lstD G v with
      | none => rw [q1] at h; exact h.elim
      | some a =>
        cases q2 : PK.lstD G u with
        | none => rw [q1, q2] at h; exact h.elim
        | some b =>
          rw [q1, q2] at h
          simp only at h
          split at h
          · exact bin_lists r q1 q2 p p' (by assumption) h
          · exact h.elim
    cases v with
    | int i =>
      cases u with
      | int j => exact .inl ⟨i, j, p, p', h.here r rfl⟩
      | _ => exact lists (by intro _ _ z; cases z.2) (by intro _ _ z; cases z.1) (by intro _ _ z; cases z.1)
    | str i =>
      cases u with
      | str j =>
        have h : OutE K lk W σ ρ G H (if PK.szOk (i.length + j.length) then .ok (.str (i ++ j)) G else .bad) Q := h
        split at h
        · exact .inr (.inl ⟨i, j, p, p', szOk_le (by assumption), h.here r rfl⟩)
        · exact h.elim
      | _ => exact lists (by intro _ _ z; cases z.1) (by intro _ _ z; cases z.2) (by intro _ _ z; cases z.1)
    | tup i =>
      cases u with
      | tup j =>
        have h : OutE K lk W σ ρ G H (if PK.szOk (i.length + j.length) then .ok (.tup (i ++ j)) G else .bad) Q := h
        split at h
        · obtain ⟨A, vs, h1, h2, h3⟩ := p
          obtain ⟨B, ws, h4, h5, h6⟩ := p'
          have ha := h3.append h6
          refine .inr (.inr (.inl ⟨A, B, vs, ws, h1, h4, h2.sq, h5.sq, by rw [← h3.length, ← h6.length]; exact szOk_le (by assumption), fun e => ?_, fun e1 e2 => ?_, fun _ _ => h.tup r ha⟩))
          · subst e
            have ei : i = [] := List.length_eq_zero_iff.mp h3.length
            subst ei
            exact h.here r ⟨B, ws, rfl, h5, ha⟩
          · subst e2
            have ei : j = [] := List.length_eq_zero_iff.mp h6.length
            subst ei
            exact h.here r ⟨A, vs, rfl, by rw [List.append_nil]; exact h2, by simpa using ha⟩
        · exact h.elim
      | _ => exact lists (by intro _ _ z; cases z.1) (by intro _ _ z; cases z.1) (by intro _ _ z; cases z.2)
    | _ => exact lists (by intro _ _ z; cases z.1) (by intro _ _ z; cases z.1) (by intro _ _ z; cases z.1)
  | sub =>
    cases v <;> cases u <;> first | exact h.elim | exact ⟨_, _, p, p', OutE.here h r rfl⟩
  | mul =>
    have lists : ∀ k, u = .int k → (∀ i, v ≠ .int i) → (∀ i, v ≠ .str i) → rBin K .mul x y H Q := fun k hk nv ns => by
      subst hk
      have e : PK.binD .mul w v (.int k) G = match PK.lstD G v with
          | some a => if PK.szOk (a.length * k.toNat) && decide (-(2 ^ 63) ≤ k ∧ k < 2 ^ 63) then PK.mkl w (List.replicate k.toNat a).flatten G else .bad
          | none => .bad := by
        cases v <;> first | rfl | exact absurd rfl (nv _) | exact absurd rfl (ns _)
      rw [e] at h
      cases q1 : PK.lstD G v with
      | none => rw [q1] at h; exact h.elim
      | some a =>
        rw [q1] at h
        simp only at h
        split at h
        · rename_i hc
          obtain ⟨c1, c2⟩ := Bool.and_eq_true_iff.mp hc
          have c2 := of_decide_eq_true c2
          obtain ⟨A, vs, h1, h2, h3⟩ := lst_of q1 r p
          exact .inr (.inl ⟨A, k, vs, h1, p', h2, c2.1, c2.2, by rw [← h3.length]; exact szOk_le c1, h.mkl r (h3.flatten_replicate k.toNat)⟩)
        · exact h.elim
    cases v with
    | int i =>
      cases u with
      | int j =>
        have h : OutE K lk W σ ρ G H (if PK.mulOk i j then .ok (.int (i * j)) G else .bad) Q := h
        split at h
        · rename_i hc
          have hc := of_decide_eq_true hc
          exact .inl ⟨i, j, p, p', by
            rcases hc with hc | hc
            · have a1 := log_of hc.1
              have a2 := log_of hc.2
              exact .inl (by unfold CMulW; omega)
            · exact .inr hc, h.here r rfl⟩
        · exact h.elim
      | _ => exact h.elim
    | str i => cases u with
      | int k =>
        have h : OutE K lk W σ ρ G H (if (decide (0 ≤ k ∧ k ≤ 5000) && decide (i.length ≤ 200)) = true then .ok (.str (Txt.mul i k)) G else .bad) Q := h
        split at h
        · rename_i hc
          obtain ⟨c1, c2⟩ := Bool.and_eq_true_iff.mp hc
          exact .inr (.inr ⟨i, k, p, p', of_decide_eq_true c1, of_decide_eq_true c2, h.here r rfl⟩)
        · exact h.elim
      | _ => exact False.elim h
    | _ => cases u with
      | int k => exact lists k rfl (by intro _ z; cases z) (by intro _ z; cases z)
      | _ => exact False.elim h
  | fdiv =>
    cases v with
    | int i =>
      cases u with
      | int j =>
        have h : OutE K lk W σ ρ G H (if PK.divOk j then .ok (.int (i / j)) G else .bad) Q := h
        split at h
        · rename_i hc
          have hc := of_decide_eq_true hc
          refine ⟨i, j, p, p', ⟨hc.1, ?_⟩, h.here r rfl⟩
          have : j.natAbs < 2 ^ 1000 := by omega
          exact Nat.lt_trans (log_of this) (by decide)
        · exact h.elim
      | _ => exact h.elim
    | _ => cases u <;> exact h.elim
  | mod =>
    cases v with
    | int i =>
      cases u with
      | int j =>
        have h : OutE K lk W σ ρ G H (if decide (0 < j) then .ok (.int (i % j)) G else .bad) Q := h
        split at h
        · rename_i hc
          exact ⟨i, j, p, p', of_decide_eq_true hc, h.here r rfl⟩
        · exact h.elim
      | _ => exact h.elim
    | _ => cases u <;> exact h.elim
  | pow =>
    cases v with
    | int i =>
      cases u with
      | int j =>
        have h : OutE K lk W σ ρ G H (if decide (0 ≤ j ∧ j ≤ 1000 ∧ i.natAbs < 2 ^ 64) then .ok (.int (i ^ j.toNat)) G else .bad) Q := h
        split at h
        · rename_i hc
          have hc := of_decide_eq_true hc
          exact ⟨i, j, p, p', ⟨hc.1, by omega, hc.2.2⟩, h.here r rfl⟩
        · exact h.elim
      | _ => exact h.elim
    | _ => cases u <;> exact h.elim

def rInDk : R2 := fun y x H Q => ∃ a o, x = .ref a ∧ DGet H a y o ∧ Q (.bl o.isSome) H
def rNotInDk : R2 := fun y x H Q => ∃ a o, x = .ref a ∧ DGet H a y o ∧ Q (.bl (!o.isSome)) H
theorem op_inDk (hu : X.A.units + 1 < cLine) : OpR X (compareOp .In) rInDk := by
  intro pins s σ H y x iv u Q I ry rx h
  obtain ⟨a, ov, ex, g, q⟩ := h
  subst ex
  obtain rfl : u = Value.ref a := rx
  exact d_in hu I g ry fun s3 I3 => ⟨.bl ov.isSome, H, I3, rfl, q⟩
theorem op_notInDk (hu : X.A.units + 1 < cLine) : OpR X (compareOp .NotIn) rNotInDk := by
  intro pins s σ H y x iv u Q I ry rx h
  obtain ⟨a, ov, ex, g, q⟩ := h
  subst ex
  obtain rfl : u = Value.ref a := rx
  exact d_notIn hu I g ry fun s3 I3 => ⟨.bl (!ov.isSome), H, I3, rfl, q⟩
def rInP (K : PySem.W.Frag) (neg : Bool) : R2 := fun x y H Q => ∃ d ds, Dp K H x d ∧ Dp K H y (.list ds) ∧ SeqAt.shaped d = true ∧ SeqAt.shaped (.list ds) = true ∧ d.depth ≤ 8 ∧ Q (.bl (if neg then !(ds.any fun z => PyData.eqv z d) else ds.any fun z => PyData.eqv z d)) H
theorem op_inP (hu : X.A.units + 64 < cLine) : OpR X (compareOp .In) (rInP X.K false) := by
  intro pins s σ H x y v u Q I rx ry h
  obtain ⟨d, ds, hd, he, sd, se, dp, q⟩ := h
  obtain ⟨as, r1⟩ := Dp.reads I d x v hd rx
  obtain ⟨bs, r2⟩ := Dp.reads I (.list ds) y u he ry
  exact SeqAt.in_list_reads r2 r1 (SeqAt.canLay_of_shaped se) (SeqAt.canLay_of_shaped sd) (by have := Nat.min_le_right (PyData.depthAll ds) d.depth; omega) ⟨.bl _, H, I, rfl, q⟩
theorem op_notInP (hu : X.A.units + 64 < cLine) : OpR X (compareOp .NotIn) (rInP X.K true) := by
  intro pins s σ H x y v u Q I rx ry h
  obtain ⟨d, ds, hd, he, sd, se, dp, q⟩ := h
  obtain ⟨as, r1⟩ := Dp.reads I d x v hd rx
  obtain ⟨bs, r2⟩ := Dp.reads I (.list ds) y u he ry
  exact SeqAt.notIn_list_reads r2 r1 (SeqAt.canLay_of_shaped se) (SeqAt.canLay_of_shaped sd) (by have := Nat.min_le_right (PyData.depthAll ds) d.depth; omega) ⟨.bl _, H, I, rfl, q⟩
mutual
theorem pd_depth : ∀ (n : Nat) (x : PK.D) (d : PyData), PK.pd G n x = some d → d.depth ≤ n ∧ d.hasDict = false
  | 0, x, d, e => by cases x <;> cases e
  | n + 1, .non, d, e => by cases e; simp [PyData.depth, PyData.hasDict]
  | n + 1, .bl b, d, e => by cases e; simp [PyData.depth, PyData.hasDict]
  | n + 1, .int i, d, e => by cases e; simp [PyData.depth, PyData.hasDict]
  | n + 1, .str b, d, e => by cases e; simp [PyData.depth, PyData.hasDict]
  | n + 1, .tup ds, d, e => by
    have e : (PK.pds (PK.pd G n) ds).map .tuple = some d := e
    cases q : PK.pds (PK.pd G n) ds with
    | none => rw [q] at e; cases e
    | some xs =>
      rw [q] at e; cases e
      obtain ⟨a, b⟩ := pds_depth n ds xs q
      simp only [PyData.depth, PyData.hasDict]; exact ⟨by omega, b⟩
  | n + 1, .lst ds, d, e => by
    have e : (PK.pds (PK.pd G n) ds).map .list = some d := e
    cases q : PK.pds (PK.pd G n) ds with
    | none => rw [q] at e; cases e
    | some xs =>
      rw [q] at e; cases e
      obtain ⟨a, b⟩ := pds_depth n ds xs q
      simp only [PyData.depth, PyData.hasDict]; exact ⟨by omega, b⟩
  | n + 1, .fz ds, d, e => by
    have e : (PK.pds (PK.pd G n) ds).map .list = some d := e
    cases q : PK.pds (PK.pd G n) ds with
    | none => rw [q] at e; cases e
    | some xs =>
      rw [q] at e; cases e
      obtain ⟨a, b⟩ := pds_depth n ds xs q
      simp only [PyData.depth, PyData.hasDict]; exact ⟨by omega, b⟩
  | n + 1, .ref i, d, e => by
    unfold PK.pd at e
    cases q : G[i]? with
    | none => simp [q] at e
    | some c =>
      cases c with
      | lst es =>
        simp only [q] at e
        cases q2 : PK.pds (PK.pd G n) es with
        | none => rw [q2] at e; cases e
        | some xs =>
          rw [q2] at e; cases e
          obtain ⟨a, b⟩ := pds_depth n es xs q2
          simp only [PyData.depth, PyData.hasDict]; exact ⟨by omega, b⟩
      | _ => simp [q] at e
  | n + 1, .ins c ds, d, e => by cases e
  | n + 1, .exc c, d, e => by cases e
termination_by n => (n, 0)
theorem pds_depth : ∀ (n : Nat) (xs : List PK.D) (ds : List PyData), PK.pds (PK.pd G n) xs = some ds → PyData.depthAll ds ≤ n ∧ PyData.hasDictAll ds = false
  | n, [], ds, e => by cases e; simp [PyData.depthAll, PyData.hasDictAll]
  | n, x :: xs, ds, e => by
    have e : ((PK.pd G n x).bind fun x => (PK.pds (PK.pd G n) xs).bind fun xs => some (x :: xs)) = some ds := e
    cases q1 : PK.pd G n x with
    | none => rw [q1] at e; cases e
    | some d =>
      cases q2 : PK.pds (PK.pd G n) xs with
      | none => rw [q1, q2] at e; cases e
      | some es =>
        rw [q1, q2] at e; cases e
        obtain ⟨a, b⟩ := pd_depth n x d q1
        obtain ⟨a2, b2⟩ := pds_depth n xs es q2
        simp only [PyData.depthAll, PyData.hasDictAll, b, b2]
        exact ⟨by omega, rfl⟩
termination_by n xs => (n, xs.length + 1)
end
def rCmp (K : PySem.W.Frag) (w : World) : PK.Co → R2
  | .eq => fun x y H Q => rEq x y H Q ∨ rEqD K x y H Q ∨ rEqE false x y H Q
  | .ne => fun x y H Q => rNe x y H Q ∨ rNeD K x y H Q ∨ rEqE true x y H Q
  | .lt => fun x y H Q => rI0 (fun i j => .bl (decide (i < j))) x y H Q ∨ (∃ i j, x = .str i ∧ y = .str j ∧ Q (.bl (decide (i.cps.toList < j.cps.toList))) H) ∨ rLtT K x y H Q
  | .le => rI0 fun i j => .bl (decide (i ≤ j))
  | .gt => rI0 fun i j => .bl (decide (j < i))
  | .ge => rI0 fun i j => .bl (decide (j ≤ i))
  | .isin => fun x y H Q => (∃ (c : Nat) (z : Str), x = .str ⟨#[c]⟩ ∧ y = .str z ∧ Q (.bl (decide (c ∈ z.cps.toList))) H) ∨ rIn K false x y H Q ∨ rInDk x y H Q
  | .notin => fun x y H Q => (∃ (c : Nat) (z : Str), x = .str ⟨#[c]⟩ ∧ y = .str z ∧ Q (.bl (!decide (c ∈ z.cps.toList))) H) ∨ rIn K true x y H Q ∨ rNotInDk x y H Q
  | .is_ => fun x y H Q => y = .non ∧ Q (.bl (decide (x = .non))) H
  | .isnot => fun x y H Q => y = .non ∧ Q (.bl (!decide (x = .non))) H
  | .inp => rInP K false
  | .notinp => rInP K true
def cmOf : PK.Co → CmpOp
  | .eq => .Eq | .ne => .NotEq | .lt => .Lt | .le => .LtE | .gt => .Gt | .ge => .GtE | .isin => .In | .notin => .NotIn | .is_ => .Is | .isnot => .IsNot | .inp => .In | .notinp => .NotIn
theorem op_cmp (hu : X.A.units + 64 < cLine) (o : PK.Co) : OpR X (compareOp (cmOf o)) (rCmp X.K X.w o) := by
  cases o with
  | eq => exact op_eq.or ((op_eqD hu).or (op_eqE hu))
  | ne => exact op_ne.or ((op_neD hu).or (op_neE hu))
  | lt => exact op_lt.or (op_lt_str.or (op_ltT (by omega)))
  | le => exact op_le
  | gt => exact op_gt
  | ge => exact op_ge
  | isin => exact op_in_sign.or (op_in_seq.or (op_inDk (by omega)))
  | notin => exact op_notIn_sign.or (op_notIn_seq.or (op_notInDk (by omega)))
  | is_ => exact op_isN
  | isnot => exact op_notN
  | inp => exact op_inP hu
  | notinp => exact op_notInP hu
theorem scal_of {v u : PK.D} {x y : V} {n : Nat} {b : Bool} (p : Rep K lk ρ n H v x) (p' : Rep K lk ρ n H u y) (e : PK.scalD v u = some b) : scal x y = true ∧ decide (x = y) = b := by
  cases v <;> cases u <;> first
    | (cases e; done)
    | (rw [show x = _ from p, show y = _ from p']; cases e; refine ⟨rfl, ?_⟩; simp; done)
    | (rw [show x = _ from p, show y = _ from p']; cases e; refine ⟨rfl, ?_⟩; rfl)
theorem dlen_of {i : Nat} {n : Nat} {x : V} (r : Rel K lk ρ G H) (p : Rep K lk ρ G.length H (.ref i) x) (e : PK.dlen G[i]? = some n) : ∃ a, x = .ref a ∧ DLen H a n := by
  obtain ⟨hi, hv⟩ := p
  cases q : G[i]? with
  | none => rw [q] at e; cases e
  | some c =>
    obtain ⟨u, h1, h2⟩ := r.cell i c q
    rw [q] at e
    cases c with
    | dK kvs =>
      cases e
      obtain ⟨zs, rfl, h3⟩ := h2
      exact ⟨ρ i, hv, .inl ⟨zs, h1, by have := congrArg List.length h3.1; simpa using this⟩⟩
    | dT kvs =>
      cases e
      obtain ⟨zs, rfl, h3⟩ := h2
      exact ⟨ρ i, hv, .inr ⟨zs, h1, by have := congrArg List.length h3.1; simpa using this⟩⟩
    | _ => cases e
theorem eqE_val {v u : PK.D} {x y : V} {b : Bool} (r : Rel K lk ρ G H) (p : Rep K lk ρ G.length H v x) (p' : Rep K lk ρ G.length H u y) (e : PK.eqE G v u = some b) :
    ∃ a c n, x = .ref a ∧ y = .ref c ∧ DLen H a n ∧ DLen H c 0 ∧ (n == 0) = b := by
  cases v with
  | ref i => cases u with
    | ref j =>
      have e : (match PK.dlen G[i]?, PK.dlen G[j]? with | some n, some 0 => some (n == 0) | _, _ => none) = some b := e
      cases q1 : PK.dlen G[i]? with
      | none => rw [q1] at e; cases e
      | some n => cases q2 : PK.dlen G[j]? with
        | none => rw [q1, q2] at e; cases e
        | some m => cases m with
          | succ m => rw [q1, q2] at e; cases e
          | zero =>
            rw [q1, q2] at e
            cases e
            obtain ⟨a, h1, h2⟩ := dlen_of r p q1
            obtain ⟨c, h3, h4⟩ := dlen_of r p' q2
            exact ⟨a, c, n, h1, h3, h2, h4, rfl⟩
    | _ => cases e
  | _ => cases e
theorem eq_val {v u : PK.D} {x y : V} {b : Bool} (r : Rel K lk ρ G H) (p : Rep K lk ρ G.length H v x) (p' : Rep K lk ρ G.length H u y) (e : PK.eqD G v u = some b) :
    (scal x y = true ∧ decide (x = y) = b) ∨ (∃ d e, Dp K H x d ∧ Dp K H y e ∧ SeqAt.shaped d = true ∧ SeqAt.shaped e = true ∧ PyData.eqv d e = b) ∨ ∃ a c n, x = .ref a ∧ y = .ref c ∧ DLen H a n ∧ DLen H c 0 ∧ (n == 0) = b := by
  unfold PK.eqD at e
  cases q : PK.scalD v u with
  | some c => rw [q] at e; cases e; exact .inl (scal_of p p' q)
  | none =>
    rw [q] at e
    simp only at e
    cases q1 : PK.pd G 8 v with
    | none => rw [q1] at e; exact .inr (.inr (eqE_val r p p' e))
    | some d =>
      cases q2 : PK.pd G 8 u with
      | none => rw [q1, q2] at e; exact .inr (.inr (eqE_val r p p' e))
      | some d' =>
        rw [q1, q2] at e
        simp only at e
        split at e
        · rename_i hc
          obtain ⟨c1, c2⟩ := Bool.and_eq_true_iff.mp hc
          cases e
          exact .inr (.inl ⟨d, d', dp_of r 8 v x d q1 p, dp_of r 8 u y d' q2 p', c1, c2, rfl⟩)
        · cases e
theorem flat_of {v : PK.D} {x a : V} {n : Nat} (p : Rep K lk ρ n H v x) (e : PK.flatD v = some a) : x = a ∧ flatV a = true := by
  cases v <;> cases e <;> exact ⟨p, rfl⟩
theorem flats_of : ∀ {ds : List PK.D} {vs as : List V} {n : Nat}, Reps K lk ρ n H ds vs → PK.flats ds = some as → vs = as ∧ as.all flatV = true
  | [], vs, as, n, p, e => by cases e; exact ⟨p, rfl⟩
  | d :: ds, vs, as, n, p, e => by
    obtain ⟨x, xs, h1, h2, h3⟩ := p
    have e : ((PK.flatD d).bind fun x => (PK.flats ds).bind fun xs => some (x :: xs)) = some as := e
    cases q1 : PK.flatD d with
    | none => rw [q1] at e; cases e
    | some a =>
      cases q2 : PK.flats ds with
      | none => rw [q1, q2] at e; cases e
      | some bs =>
        rw [q1, q2] at e; cases e
        obtain ⟨f1, f2⟩ := flat_of h2 q1
        obtain ⟨g1, g2⟩ := flats_of h3 q2
        subst f1 g1
        refine ⟨h1, ?_⟩
        rw [List.all_cons, f2, g2]; rfl
theorem key_of {v : PK.D} {x : V} {n : Nat} {k : Key} (p : Rep K lk ρ n H v x) (e : PK.keyD v = some k) : x = kV k := by
  cases v <;> cases e <;> exact p
theorem keys_of : ∀ {ds : List PK.D} {vs : List V} {n : Nat} {ks : List Key}, Reps K lk ρ n H ds vs → PK.keysD ds = some ks → vs = ks.map kV
  | [], vs, n, ks, p, e => by cases e; exact p
  | d :: ds, vs, n, ks, p, e => by
    obtain ⟨x, xs, h1, h2, h3⟩ := p
    have e : ((PK.keyD d).bind fun x => (PK.keysD ds).bind fun xs => some (x :: xs)) = some ks := e
    cases q1 : PK.keyD d with
    | none => rw [q1] at e; cases e
    | some a =>
      cases q2 : PK.keysD ds with
      | none => rw [q1, q2] at e; cases e
      | some bs =>
        rw [q1, q2] at e; cases e
        rw [h1, key_of h2 q1, keys_of h3 q2]; rfl
theorem valD_of {κ : Type} [DecidableEq κ] : ∀ {kvs : List (κ × PK.D)} {zs : List (κ × V)} {n : Nat} (k : κ), RepK K lk ρ n H kvs zs →
    (PK.valD kvs k = none ∧ valV zs k = none) ∨ ∃ d v, PK.valD kvs k = some d ∧ valV zs k = some v ∧ Rep K lk ρ n H d v
  | [], zs, n, k, h => by
    have : zs = [] := by have := h.1; simpa using this
    subst this
    exact .inl ⟨rfl, rfl⟩
  | (k', d) :: kvs, zs, n, k, h => by
    obtain ⟨h1, x, xs, h2, h3, h4⟩ := h
    cases zs with
    | nil => cases h1
    | cons z zs =>
      obtain ⟨kz, vz⟩ := z
      simp only [List.map_cons, List.cons.injEq] at h1 h2
      obtain ⟨h1a, h1b⟩ := h1
      obtain ⟨h2a, h2b⟩ := h2
      subst h1a h2a
      by_cases q : kz = k
      · refine .inr ⟨d, vz, ?_, valV_pos q, h3⟩
        simp [PK.valD, q]
      · have ih := valD_of (kvs := kvs) (zs := zs) k ⟨h1b, by rw [h2b]; exact h4⟩
        rw [valV_neg q]
        have e : PK.valD ((kz, d) :: kvs) k = PK.valD kvs k := by simp [PK.valD, q]
        rw [e]
        exact ih
theorem look_of {d k : PK.D} {x y : V} {o : Option PK.D} (r : Rel K lk ρ G H) (p : Rep K lk ρ G.length H d x) (p' : Rep K lk ρ G.length H k y) (e : PK.lookD G d k = some o) :
    ∃ a z, x = .ref a ∧ DGet H a y z ∧ ((o = none ∧ z = none) ∨ ∃ d' v, o = some d' ∧ z = some v ∧ Rep K lk ρ G.length H d' v) := by
  cases d with
  | ref i =>
    obtain ⟨hi, hv⟩ := p
    unfold PK.lookD at e
    simp only at e
    cases q : G[i]? with
    | none => rw [q] at e; cases e
    | some c =>
      rw [q] at e
      cases c with
      | dK kvs =>
        obtain ⟨u, h1, zs, h2, h3⟩ := r.cell i _ q
        subst h2
        simp only at e
        cases q1 : PK.keyD k with
        | none => rw [q1] at e; cases e
        | some kk =>
          rw [q1] at e; cases e
          refine ⟨ρ i, valV zs kk, hv, ?_, ?_⟩
          · rw [key_of p' q1]; exact DGet.k h1
          · rcases valD_of kk h3 with ⟨a, b⟩ | ⟨d', v, a, b, c⟩
            · exact .inl ⟨a, b⟩
            · exact .inr ⟨d', v, a, b, c⟩
      | frK kvs =>
        obtain ⟨u, h1, zs, od, h2, h3⟩ := r.cell i _ q
        subst h2
        simp only at e
        cases q1 : PK.keyD k with
        | none => rw [q1] at e; cases e
        | some kk =>
          rw [q1] at e; cases e
          refine ⟨ρ i, valV zs kk, hv, ?_, ?_⟩
          · rw [key_of p' q1]; exact .inl ⟨zs, kk, .inr ⟨od, h1⟩, rfl, rfl⟩
          · rcases valD_of kk h3 with ⟨a, b⟩ | ⟨d', v, a, b, c⟩
            · exact .inl ⟨a, b⟩
            · exact .inr ⟨d', v, a, b, c⟩
      | dT kvs =>
        obtain ⟨u, h1, zs, h2, h3⟩ := r.cell i _ q
        subst h2
        simp only at e
        cases k with
        | tup es =>
          obtain ⟨a, vs, e1, e2, e3⟩ := p'
          simp only at e
          cases q1 : PK.keysD es with
          | none => rw [q1] at e; cases e
          | some kk =>
            rw [q1] at e; cases e
            refine ⟨ρ i, valV zs kk, hv, ?_, ?_⟩
            · rw [e1]
              refine DGet.t h1 ?_
              rw [← keys_of e3 q1]
              rcases e2 with e2 | e2
              · exact e2
              · rw [e2.2] at q1; cases q1
            · rcases valD_of kk h3 with ⟨a, b⟩ | ⟨d', v, a, b, c⟩
              · exact .inl ⟨a, b⟩
              · exact .inr ⟨d', v, a, b, c⟩
        | _ => cases e
      | _ => cases e
  | _ => cases e
theorem in_val {v u : PK.D} {x y : V} {b : Bool} (r : Rel K lk ρ G H) (p : Rep K lk ρ G.length H v x) (p' : Rep K lk ρ G.length H u y) (e : PK.inD G v u = some b) :
    (∃ (c : Nat) (z : Str), x = .str ⟨#[c]⟩ ∧ y = .str z ∧ decide (c ∈ z.cps.toList) = b) ∨ (∃ a xs, y = .ref a ∧ (SqL K H a xs ∨ SqT K H a xs) ∧ flatV x = true ∧ xs.all flatV = true ∧ inV x xs = b) ∨ ∃ a o, y = .ref a ∧ DGet H a x o ∧ o.isSome = b := by
  have sq : ∀ {ds}, PK.seqD G u = some ds → ((PK.flatD v).bind fun a => (PK.flats ds).map fun bs => L2.inV a bs) = some b → ∃ a xs, y = .ref a ∧ (SqL K H a xs ∨ SqT K H a xs) ∧ flatV x = true ∧ xs.all flatV = true ∧ inV x xs = b := by
    intro ds q e
    cases q1 : PK.flatD v with
    | none => rw [q1] at e; cases e
    | some a =>
      cases q2 : PK.flats ds with
      | none => rw [q1, q2] at e; cases e
      | some bs =>
        rw [q1, q2] at e; cases e
        obtain ⟨A, vs, h1, h2, h3, _⟩ := seq_of q r p'
        obtain ⟨f1, f2⟩ := flat_of p q1
        obtain ⟨g1, g2⟩ := flats_of h3 q2
        subst f1 g1
        exact ⟨A, _, h1, h2, f2, g2, rfl⟩
  cases u with
  | str z =>
    cases v with
    | str s =>
      obtain ⟨⟨l⟩⟩ := s
      match l, e, p with
      | [c], e, p => exact .inl ⟨c, z, p, p', Option.some.inj e⟩
      | [], e, _ => cases e
      | _ :: _ :: _, e, _ => cases e
    | _ => cases e
  | tup ds => exact .inr (.inl (sq rfl e))
  | lst ds => exact .inr (.inl (sq rfl e))
  | fz ds => exact .inr (.inl (sq rfl e))
  | ref i =>
    unfold PK.inD at e
    simp only at e
    have dk : (PK.lookD G (.ref i) v).map Option.isSome = some b → ∃ a o, y = .ref a ∧ DGet H a x o ∧ o.isSome = b := fun e => by
      cases q2 : PK.lookD G (.ref i) v with
      | none => rw [q2] at e; cases e
      | some o =>
        rw [q2] at e
        obtain ⟨a, z, h1, h2, h3⟩ := look_of r p' p q2
        refine ⟨a, z, h1, h2, ?_⟩
        cases e
        rcases h3 with ⟨e1, e2⟩ | ⟨d', v', e1, e2, _⟩ <;> rw [e1, e2] <;> rfl
    cases q : G[i]? with
    | none => rw [q] at e; exact .inr (.inr (dk e))
    | some c =>
      cases c with
      | lst ds =>
        rw [q] at e
        exact .inr (.inl (sq (by unfold PK.seqD; simp only [q]) e))
      | _ => rw [q] at e; exact .inr (.inr (dk e))
  | _ => cases e
end
end PKS
namespace PKS
open PySem PySem.Spec PyProof.Rows L2
section
variable {K : PySem.W.Frag} {lk : Lk} {W : WX} {σ : L2.St} {ρ : Nm} {G : Cells} {H : Hp} {Q : VK} {X : Cx}
theorem inP_val {v u : PK.D} {x y : V} {b : Bool} (r : Rel K lk ρ G H) (p : Rep K lk ρ G.length H v x) (p' : Rep K lk ρ G.length H u y) (e : PK.inP G v u = some b) :
    ∃ d ds, Dp K H x d ∧ Dp K H y (.list ds) ∧ SeqAt.shaped d = true ∧ SeqAt.shaped (.list ds) = true ∧ d.depth ≤ 8 ∧ (ds.any fun z => PyData.eqv z d) = b := by
  unfold PK.inP at e
  split at e
  · rename_i d ds e1 e2
    split at e
    · rename_i c
      obtain ⟨c1, c2⟩ := Bool.and_eq_true_iff.mp c
      exact ⟨d, ds, dp_of r 8 v x d e1 p, dp_of r 8 u y _ e2 p', c1, c2, (pd_depth 8 v d e1).1, Option.some.inj e⟩
    · cases e
  · cases e
theorem lt_tup (ds : List PK.D) (u : PK.D) (G : Cells) : PK.cmpD .lt (.tup ds) u G = .bad ∨ ∃ a b c d, ds = [.int a, .int b] ∧ u = .tup [.int c, .int d] := by
  unfold PK.cmpD
  dsimp only
  split
  · rename_i q; cases q
  · rename_i q; cases q
  · rename_i a b c d q1
    cases q1
    exact .inr ⟨_, _, _, _, rfl, rfl⟩
  · exact .inl rfl
theorem cmp_val (o : PK.Co) {w : World} {v u : PK.D} {x y : V} (r : Rel K lk ρ G H) (p : Rep K lk ρ G.length H v x) (p' : Rep K lk ρ G.length H u y) (h : OutE K lk W σ ρ G H (PK.cmpD o v u G) Q) : rCmp K w o x y H Q := by
  have ans : ∀ {ob : Option Bool} , OutE K lk W σ ρ G H (match ob with | some c => .ok (.bl c) G | none => .bad) Q → ∃ b, ob = some b ∧ Q (.bl b) H := fun {ob} h => by
    cases ob with
    | none => exact h.elim
    | some b => exact ⟨b, rfl, OutE.here h r rfl⟩
  cases o with
  | eq =>
    obtain ⟨b, e, q⟩ := ans h
    rcases eq_val r p p' e with ⟨a, c⟩ | ⟨d, d', h1, h2, h3, h4, h5⟩ | ⟨a, c, n, h1, h2, h3, h4, h5⟩
    · exact .inl ⟨a, by rw [c]; exact q⟩
    · exact .inr (.inl ⟨d, d', h1, h2, h3, h4, by rw [h5]; exact q⟩)
    · exact .inr (.inr ⟨a, c, n, h1, h2, h3, h4, by rw [h5]; exact q⟩)
  | ne =>
    obtain ⟨b, e, q⟩ := ans h
    cases e2 : PK.eqD G v u with
    | none => rw [e2] at e; cases e
    | some b' =>
      rw [e2] at e; cases e
      rcases eq_val r p p' e2 with ⟨a, c⟩ | ⟨d, d', h1, h2, h3, h4, h5⟩ | ⟨a, c, n, h1, h2, h3, h4, h5⟩
      · exact .inl ⟨a, by rw [c]; exact q⟩
      · exact .inr (.inl ⟨d, d', h1, h2, h3, h4, by rw [h5]; exact q⟩)
      · exact .inr (.inr ⟨a, c, n, h1, h2, h3, h4, by rw [h5]; exact q⟩)
  | isin =>
    obtain ⟨b, e, q⟩ := ans h
    rcases in_val r p p' e with ⟨c, z, h1, h2, h3⟩ | ⟨a, xs, h1, h2, h3, h4, h5⟩ | ⟨a, o, h1, h2, h3⟩
    · exact .inl ⟨c, z, h1, h2, by rw [h3]; exact q⟩
    · exact .inr (.inl ⟨a, xs, h1, h2, h3, h4, by rw [← h5] at q; exact q⟩)
    · exact .inr (.inr ⟨a, o, h1, h2, by rw [h3]; exact q⟩)
  | notin =>
    obtain ⟨b, e, q⟩ := ans h
    cases e2 : PK.inD G v u with
    | none => rw [e2] at e; cases e
    | some b' =>
      rw [e2] at e; cases e
      rcases in_val r p p' e2 with ⟨c, z, h1, h2, h3⟩ | ⟨a, xs, h1, h2, h3, h4, h5⟩ | ⟨a, o, h1, h2, h3⟩
      · exact .inl ⟨c, z, h1, h2, by rw [h3]; exact q⟩
      · exact .inr (.inl ⟨a, xs, h1, h2, h3, h4, by rw [← h5] at q; exact q⟩)
      · exact .inr (.inr ⟨a, o, h1, h2, by rw [h3]; exact q⟩)
  | inp =>
    obtain ⟨b, e, q⟩ := ans h
    obtain ⟨d, ds, h1, h2, h3, h4, h5, h6⟩ := inP_val r p p' e
    exact ⟨d, ds, h1, h2, h3, h4, h5, by rw [← h6] at q; exact q⟩
  | notinp =>
    obtain ⟨b, e, q⟩ := ans h
    cases e2 : PK.inP G v u with
    | none => rw [e2] at e; cases e
    | some b' =>
      rw [e2] at e; cases e
      obtain ⟨d, ds, h1, h2, h3, h4, h5, h6⟩ := inP_val r p p' e2
      exact ⟨d, ds, h1, h2, h3, h4, h5, by rw [← h6] at q; exact q⟩
  | is_ =>
    cases u with
    | non =>
      refine ⟨p', ?_⟩
      have q : Q (.bl (decide (v = .non))) H := OutE.here h r rfl
      have e : decide (x = .non) = decide (v = .non) := by
        cases v with
        | non => rw [show x = .non from p]; simp
        | bl _ => rw [show x = _ from p]; rfl
        | int _ => rw [show x = _ from p]; rfl
        | str _ => rw [show x = _ from p]; rfl
        | tup _ => obtain ⟨_, _, z, _⟩ := p; rw [z]; rfl
        | lst _ => obtain ⟨_, _, z, _⟩ := p; rw [z]; rfl
        | fz _ => obtain ⟨_, _, z, _⟩ := p; rw [z]; rfl
        | ref _ => rw [p.2]; rfl
        | ins _ _ => obtain ⟨_, _, _, _, z, _⟩ := p; rw [z]; rfl
        | exc _ => exact p.elim
      rw [e]; exact q
    | _ => exact h.elim
  | isnot =>
    cases u with
    | non =>
      refine ⟨p', ?_⟩
      have q : Q (.bl (!decide (v = .non))) H := OutE.here h r rfl
      have e : decide (x = .non) = decide (v = .non) := by
        cases v with
        | non => rw [show x = .non from p]; simp
        | bl _ => rw [show x = _ from p]; rfl
        | int _ => rw [show x = _ from p]; rfl
        | str _ => rw [show x = _ from p]; rfl
        | tup _ => obtain ⟨_, _, z, _⟩ := p; rw [z]; rfl
        | lst _ => obtain ⟨_, _, z, _⟩ := p; rw [z]; rfl
        | fz _ => obtain ⟨_, _, z, _⟩ := p; rw [z]; rfl
        | ref _ => rw [p.2]; rfl
        | ins _ _ => obtain ⟨_, _, _, _, z, _⟩ := p; rw [z]; rfl
        | exc _ => exact p.elim
      rw [e]; exact q
    | _ => exact h.elim
  | lt =>
    have tups : ∀ ds, v = .tup ds → rCmp K w .lt x y H Q := fun ds e1 => by
      subst e1
      rcases lt_tup ds u G with z | ⟨a, b, c, d, q1, q2⟩
      · rw [z] at h; exact False.elim h
      · subst q1 q2
        obtain ⟨A, vs, h1, h2, h3⟩ := p
        obtain ⟨B, ws, h4, h5, h6⟩ := p'
        obtain ⟨y1, _, rfl, t1, y2, _, rfl, t2, rfl⟩ := h3
        obtain ⟨z1, _, rfl, t3, z2, _, rfl, t4, rfl⟩ := h6
        cases (show y1 = V.int a from t1); cases (show y2 = V.int b from t2); cases (show z1 = V.int c from t3); cases (show z2 = V.int d from t4)
        refine .inr (.inr ⟨A, B, [a, b], [c, d], h1, h4, h2.sq, h5.sq, ?_⟩)
        have e : HT.lexLt [a, b] [c, d] = if a = c then decide (b < d) else decide (a < c) := by
          rw [HT.lexLt_cons, HT.lexLt_cons]
          by_cases q : a = c
          · rw [if_pos q, if_pos q]
            by_cases q2 : b = d
            · rw [if_pos q2, q2, HT.lexLt_nil_nil, decide_eq_false (by omega)]
            · rw [if_neg q2]
          · rw [if_neg q, if_neg q]
        rw [e]
        exact OutE.here h r rfl
    cases v <;> cases u <;> first
      | exact tups _ rfl
      | exact False.elim h
      | exact .inl ⟨_, _, p, p', OutE.here h r rfl⟩
      | exact .inr (.inl ⟨_, _, p, p', OutE.here h r rfl⟩)
  | le => cases v <;> cases u <;> first | exact h.elim | exact ⟨_, _, p, p', OutE.here h r rfl⟩
  | gt => cases v <;> cases u <;> first | exact h.elim | exact ⟨_, _, p, p', OutE.here h r rfl⟩
  | ge => cases v <;> cases u <;> first | exact h.elim | exact ⟨_, _, p, p', OutE.here h r rfl⟩

def rDk : R2 := fun x y H Q => ∃ a v, x = .ref a ∧ DGet H a y (some v) ∧ Q v H
theorem ix_dk (hu : X.A.units + 1 < cLine) : IxR X rDk := by
  intro value slice pins s σ H x y v u Q I rx ry h hs
  obtain ⟨a, z, rfl, g, q⟩ := h
  obtain rfl : v = Value.ref a := rx
  have hT := dict_typeIs I g
  unfold subscriptTail
  refine wpAny_bind ?_
  rw [getitemInPython_of_ne hT.not_modules]
  refine wpAny_bind (wpAny_specialOf hT PySem.F.slot_dict_getitem.lookup ?_)
  have fin : wpAny (model X.prog X.w) X.A (subscripted slice false (.ref a) u) (fun r s₃ => wpAny (model X.prog X.w) X.A (letTemporaryGo value (.ref a) r >>= fun _ => pure r) (EP X pins σ Q) X.xe s₃) X.xe s := by
    rw [hs]
    exact wpAny_operating (d_getItem hu I g ry fun w' s3 I3 rw' => wpAny_bind (wpAny_letTemporaryGo (wpAny_pure ⟨z, H, I3, rw', q⟩)))
  first
    | exact wpAny_pure (wpAny_bind fin)
    | exact wpAny_bind (wpAny_pure (wpAny_bind fin))
    | exact wpAny_bind fin
def rIxA (K : PySem.W.Frag) : R2 := fun x y H Q => rIxL K x y H Q ∨ rIxT K x y H Q ∨ rIxS x y H Q ∨ rDk x y H Q
theorem ix_all (hu : X.A.units + 1 < cLine) : IxR X (rIxA X.K) := ix_list.or (ix_tup.or (ix_str.or (ix_dk hu)))
theorem at_of {ds : List PK.D} {vs : List V} {i : Int} {d : PK.D} {n : Nat} (p : Reps K lk ρ n H ds vs) (e : L2.atI ds i = some d) : ∃ v, L2.atI vs i = some v ∧ Rep K lk ρ n H d v := by
  unfold L2.atI at e ⊢
  rw [← p.length]
  cases q : L2.ixN ds.length i with
  | none => rw [q] at e; cases e
  | some j =>
    rw [q] at e
    exact p.get e
theorem ix_val {v u : PK.D} {x y : V} (r : Rel K lk ρ G H) (p : Rep K lk ρ G.length H v x) (p' : Rep K lk ρ G.length H u y) (h : OutE K lk W σ ρ G H (PK.ixD v u G) Q) : rIxA K x y H Q := by
  have gen : (∀ z, v ≠ .str z) → rIxA K x y H Q := fun nz => by
    have e : PK.ixD v u G = match PK.seqD G v with
        | some ds => PK.ixL ds u G
        | none => PK.ixK (PK.lookD G v u) G := by
      cases v <;> first | rfl | (exfalso; exact nz _ rfl)
    rw [e] at h
    cases q : PK.seqD G v with
    | some ds =>
      rw [q] at h
      cases u with
      | int i =>
        simp only [PK.ixL] at h
        cases q1 : L2.atI ds i with
        | none => rw [q1] at h; exact h.elim
        | some d =>
          rw [q1] at h
          obtain ⟨A, vs, h1, h2, h3, h4, h5⟩ := seq_of q r p
          obtain ⟨z, h6, h7⟩ := at_of h3 q1
          rcases h2 with h2 | h2
          · exact .inl ⟨A, vs, i, z, h1, p', h2, h6, OutE.here h r h7⟩
          · exact .inr (.inl ⟨A, vs, i, z, h1, p', h2, h6, OutE.here h r h7⟩)
      | _ => exact h.elim
    | none =>
      rw [q] at h
      simp only at h
      cases q1 : PK.lookD G v u with
      | none => rw [q1] at h; exact h.elim
      | some o =>
        rw [q1] at h
        cases o with
        | none => exact h.elim
        | some d =>
          obtain ⟨a, z, h1, h2, h3⟩ := look_of r p p' q1
          rcases h3 with ⟨e1, _⟩ | ⟨d', v', e1, e2, e3⟩
          · cases e1
          · cases e1; subst e2
            exact .inr (.inr (.inr ⟨a, v', h1, h2, OutE.here h r e3⟩))
  cases v with
  | str z =>
    cases u with
    | int i =>
      have h : OutE K lk W σ ρ G H (if PK.szOk z.length then match L2.atI z.cps.toList i with
          | some c => .ok (.str ⟨#[c]⟩) G
          | none => .bad else .bad) Q := h
      split at h
      · rename_i hc
        cases q1 : L2.atI z.cps.toList i with
        | none => rw [q1] at h; exact h.elim
        | some c =>
          rw [q1] at h
          exact .inr (.inr (.inl ⟨z, i, c, p, p', szOk_le hc, q1, OutE.here h r rfl⟩))
      · exact h.elim
    | _ => exact h.elim
  | _ => exact gen (by intro _ z; cases z)

def rSlAll (K : PySem.W.Frag) : V → Option Int → Option Int → Hp → VK → Prop := fun x lo hi H Q => rSlL K x lo hi H Q ∨ rSlA K x lo hi H Q ∨ rSlS x lo hi H Q
theorem sl_all : SlR X (rSlAll X.K) := sl_list.or (sl_tupA.or sl_str)
theorem cut_of {ds : List PK.D} {vs : List V} {n : Nat} (p : Reps K lk ρ n H ds vs) (lo hi : Option Int) : Reps K lk ρ n H (PK.cutD ds lo hi) (cutV vs lo hi) := by
  unfold PK.cutD cutV
  rw [← p.length]
  exact Reps.take _ (Reps.drop _ p)
theorem sl_val {w : Bool} {v : PK.D} {x : V} {lo hi : PK.D} {l h' : Option Int} (r : Rel K lk ρ G H) (p : Rep K lk ρ G.length H v x) (e1 : PK.partD lo = some l) (e2 : PK.partD hi = some h') (h : OutE K lk W σ ρ G H (PK.slD w v lo hi G) Q) : rSlAll K x l h' H Q := by
  unfold PK.slD at h
  rw [e1, e2] at h
  simp only at h
  have gen : (∀ z, v ≠ .tup z) → OutE K lk W σ ρ G H (match PK.seqD G v with
      | some ds => PK.mkl w (PK.cutD ds l h') G
      | none => .bad) Q → rSlAll K x l h' H Q := fun nz h => by
    cases q : PK.seqD G v with
    | none => rw [q] at h; exact h.elim
    | some ds =>
      rw [q] at h
      obtain ⟨A, vs, h1, _, h3, h4, _⟩ := seq_of q r p
      exact .inl ⟨A, vs, h1, h4 nz, h.mkl r (cut_of h3 l h')⟩
  cases v with
  | str z =>
    have h : OutE K lk W σ ρ G H (if PK.szOk z.length then .ok (.str (L2.cutS z l h')) G else .bad) Q := h
    split at h
    · rename_i hc
      exact .inr (.inr ⟨z, p, szOk_le hc, OutE.here h r rfl⟩)
    · exact h.elim
  | tup ds =>
    obtain ⟨A, vs, h1, h2, h3⟩ := p
    have hc := cut_of h3 l h'
    refine .inr (.inl ⟨A, vs, h1, h2.sq, fun ⟨c1, c2⟩ => OutE.here h r ⟨A, vs, rfl, ?_, ?_⟩, fun _ => OutE.tup h r hc⟩)
    · have : PK.cutD ds l h' = ds := by
        unfold PK.cutD
        rw [h3.length, c1, c2]
        simp [← h3.length]
      rw [this]; exact h2
    · have : PK.cutD ds l h' = ds := by
        unfold PK.cutD
        rw [h3.length, c1, c2]
        simp [← h3.length]
      rw [this]; exact h3
  | lst ds => exact gen (by intro _ z; cases z) h
  | fz ds => exact gen (by intro _ z; cases z) h
  | ref i => exact gen (by intro _ z; cases z) h
  | _ => exact h.elim
theorem rev_val {w : Bool} {v : PK.D} {x : V} (r : Rel K lk ρ G H) (p : Rep K lk ρ G.length H v x) (h : OutE K lk W σ ρ G H (PK.revD w v G) Q) : ∃ a xs, x = .ref a ∧ SqL K H a xs ∧ ∀ p, H p = none → Q (.ref p) (upd H p (.lst xs.reverse)) := by
  have gen : (∀ z, v ≠ .tup z) → ∃ a xs, x = .ref a ∧ SqL K H a xs ∧ ∀ p, H p = none → Q (.ref p) (upd H p (.lst xs.reverse)) := fun nz => by
    have e : PK.revD w v G = match PK.seqD G v with
        | some ds => PK.mkl w ds.reverse G
        | none => .bad := by
      cases v <;> first | rfl | exact absurd rfl (nz _)
    rw [e] at h
    cases q : PK.seqD G v with
    | none => rw [q] at h; exact h.elim
    | some ds =>
      rw [q] at h
      obtain ⟨A, vs, h1, _, h3, h4, _⟩ := seq_of q r p
      exact ⟨A, vs, h1, h4 nz, h.mkl r h3.reverse⟩
  cases v with
  | tup _ => exact h.elim
  | _ => exact gen (by intro _ z; cases z)
end
end PKS
namespace PKS
open PySem PySem.Spec PyProof.Rows L2
section
variable {prog : Program} {w : World} {d : Addr}
theorem kdl_raw {K : Type} {xs : List (K × Addr × Value)} {es : Array DictEntry} {ep : Nat} (lo : (d == sysModules) = false) (hx : ∀ i (hi : i < es.size), ∃ y, xs[i]? = some y ∧ es[i].key = .ref y.2.1 ∧ es[i].val = y.2.2) :
    PySem.W.KdlSrc prog w "dict" d d es.size (fun i v => ∃ y, xs[i]? = some y ∧ v = .ref y.2.1) (fun h => h.DictRaw d es ep) where
  type := fun _ hm => hm.typeIs
  there := fun _ hm => ⟨hm.lt_size, hm.lt_size⟩
  keep := fun _ _ hm hk => hm.at fun o e => hk d (.inl rfl) o e
  notList := by decide
  notTuple := by decide
  hint := fun _ _ _ _ hm hq => PySem.W.kdl_hint_dict hm.typeIs hq
  iter := fun _ _ hh hm => ⟨_, _, (fun _ _ hq => wpAny_pyIter_dict_raw lo hm hq), Walks.keysH hh _ d (Nat.ne_of_lt hm.lt_size) es ep hx, ⟨⟨_, Heap.get?_push_size _ rfl, rfl, rfl⟩, hm.push _⟩⟩
end
def KeysAt (H : Hp) : List Addr → List (List L2.Key × V) → Prop
  | [], [] => True
  | a :: as, kv :: kvs => H a = some (.tup (kv.1.map kV)) ∧ KeysAt H as kvs
  | _, _ => False
def rListT : List V → Hp → VK → Prop := fun xs H Q => ∃ p kvs, xs = [.ref p] ∧ H p = some (.dT kvs) ∧ ∀ q as, H q = none → KeysAt H as kvs → Q (.ref q) (upd H q (.lst (as.map V.ref)))
theorem keysAt_of {H : Hp} : ∀ {kvs : List (List L2.Key × V)} {xs : List (List L2.Key × Addr × Value)}, Paired (fun (p : List L2.Key × V) (q : List L2.Key × Addr × Value) => p.1 = q.1 ∧ H q.2.1 = some (.tup (p.1.map kV)) ∧ RelV p.2 q.2.2) kvs xs → KeysAt H (xs.map (·.2.1)) kvs
  | _, _, .nil => trivial
  | _, _, .cons h t => ⟨h.2.1, keysAt_of t⟩
theorem cr_listT {X : Cx} (hc : X.calm = true) : CallR X (.type "list") rListT := by
  intro pins s σ H xs us Q I r h
  obtain ⟨p, kvs, rfl, hk, q⟩ := h
  rw [Vals.ref1 r]
  obtain ⟨z, lo, ys, rk, o, es, ep, ho, hx, hd, he, nd⟩ := (show ObjOk X.prog X.w H s.heap p (.dT kvs) from I.hok p _ hk)
  have hl : kvs.length = ys.length := Paired.length rk
  have hsz : es.size = ys.length := by
    have := congrArg List.length he
    simpa using this
  have hes : ∀ i (hi : i < es.size), ∃ y, ys[i]? = some y ∧ es[i].key = .ref y.2.1 ∧ es[i].val = y.2.2 := fun i hi => by
    have e1 : es.toList[i]? = some es[i] := by simp [hi]
    rw [he, List.getElem?_map] at e1
    cases e2 : ys[i]? with
    | none => rw [e2] at e1; cases e1
    | some y =>
      rw [e2] at e1
      have e1 : some (entryOfKey (tupleKind (mixKind X.prog X.w)) y) = some es[i] := e1
      have := Option.some.inj e1
      exact ⟨y, rfl, by rw [← this]; rfl, by rw [← this]; rfl⟩
  have raw : s.heap.DictRaw p es ep := ⟨o, ho, hx, hd⟩
  refine PySem.W.kdl_call (kdl_raw (prog := X.prog) (w := X.w) lo hes) (I.ok.hd hc) raw (by rw [hsz, ← hl]; exact z) fun h' tk acc c hkeep hS hacc => ?_
  have ka := keysAt_of rk
  have hal : acc.toList = (ys.map (·.2.1)).map Value.ref := by
    refine List.ext_getElem? fun j => ?_
    obtain ⟨n1, n2⟩ := hacc
    rw [List.map_map, List.getElem?_map, Array.getElem?_toList]
    cases e : acc[j]? with
    | none =>
      have : acc.size ≤ j := Array.getElem?_eq_none_iff.mp e
      rw [List.getElem?_eq_none (by rw [← hsz, ← n1]; exact this)]; rfl
    | some v =>
      obtain ⟨y, h1, h2⟩ := n2 j v e
      rw [h1, h2]; rfl
  refine ⟨.ref s.heap.objs.size, upd H s.heap.objs.size (.lst ((ys.map (·.2.1)).map V.ref)), I.laid hkeep (Nat.le_refl _) (show ObjOk X.prog X.w _ _ _ (.lst ((ys.map (·.2.1)).map V.ref)) from ⟨?_, acc.toList, c, ?_, ?_⟩), rfl, q _ _ (I.hok.fresh (Nat.le_refl _)) ka⟩
  · rw [List.length_map, List.length_map, ← hl]; exact z
  · rw [hal]
    have : ∀ l : List Addr, Vals (l.map V.ref) (l.map Value.ref) := fun l => by
      induction l with
      | nil => exact .nil
      | cons a l ih => exact .cons rfl ih
    exact this _
  · rw [Array.toArray_toList]; exact hS
end PKS
namespace PKS
open PySem PySem.Spec PyProof.Rows L2
section
variable {prog : Program} {w : World} {A : Around} {E : Value → Shared → Prop} {s : Shared} {l : Addr} {its : List Value} {ns : List Int} {Q : Value → Shared → Prop}
theorem sum_rawT (hh : A.handled = none) (hl : s.heap.IsTuple l its.toArray) (hi : IntsAre its ns)
    (h : ∀ {h' tk t'}, (∀ b o, s.heap.get? b = some o → h'.get? b = some o) → Q (.int ns.sum t') { s with heap := h', toks := tk }) : wpAny (model prog w) A (call (.builtin "sum") [.ref l]) Q E s := by
  obtain ⟨xs, same⟩ := hi.allInts.items
  have val : preSum (numAt xs) (intItems xs).size = ns.sum := by
    have all : numsOf (intItems xs).toList = ns := (congrArg (numsOf ∘ Array.toList) same.symm).trans hi.numsOf
    rw [nums_intItems] at all
    have z : (intItems xs).size = xs.size := by simp [intItems]
    rw [z, preSum_eq, List.take_of_length_le (by simp), all]
  have lt : l < s.heap.objs.size := hl.elim fun _ q => Heap.lt_size q.1
  rw [same] at hl
  have up : ∀ b o, s.heap.get? b = some o → (s.heap.push { cls := .type "tuple_iterator", data := .fields #[.ref l, .int 0 0] }).get? b = some o := fun _ _ => Heap.get?_push_of_some _
  have low : ∀ b ∈ [s.heap.objs.size, l], b < (s.heap.push { cls := .type "tuple_iterator", data := .fields #[.ref l, .int 0 0] }).objs.size := fun b m => by
    rw [Heap.size_push]
    cases m with
    | head => exact Nat.lt_succ_self _
    | tail _ m => exact List.mem_singleton.mp m ▸ Nat.lt_succ_of_lt lt
  exact call_sum_walkG (wpAny_pyIter_tuple hl ⟨s.heap.objs.size, _, [s.heap.objs.size], _, _, _, numAt xs, rfl, Walks.tuple (A := A.in1) hh _ l (Nat.ne_of_lt lt) (intItems xs), ⟨⟨_, Heap.get?_push_size _ rfl, rfl, rfl⟩, hl.at (up l)⟩, low, fun _ _ => intItems_at,
    fun h' tk t' keep => val ▸ h fun b o q => keep b o (fun m => Nat.ne_of_lt (Heap.lt_size q) (List.mem_singleton.mp m)) (up b o q)⟩)
end
def rSumT (K : PySem.W.Frag) : List V → Hp → VK → Prop := fun vs H Q => ∃ (a : Addr) (ns : List Int), vs = [V.ref a] ∧ SqT K H a (ns.map V.int) ∧ Q (.int ns.sum) H
theorem cr_sumT {X : Cx} (hc : X.calm = true) : CallR X (.builtin "sum") (rSumT X.K) := by
  intro pins s σ H vs us Q I r h
  obtain ⟨a, ns, rfl, hs, q⟩ := h
  obtain ⟨its, rv, ⟨o, ho, hcl, n, hd⟩, _⟩ := I.tuple hs
  rw [Vals.ref1 r]
  exact sum_rawT (I.ok.hd hc) ⟨o, ho, hcl, n, hd⟩ rv.ints fun hk => ⟨.int _, H, I.kept hk, ⟨_, rfl⟩, q⟩
end PKS
namespace PKS
open PySem PySem.Spec PyProof.Rows L2
def rSortD (K : PySem.W.Frag) : List V → Hp → VK → Prop := fun vs H Q => ∃ (a : Addr) (bs : List (V × PyData)), vs = [V.ref a] ∧ SqL K H a (bs.map (·.1)) ∧ (∀ b ∈ bs, Dp K H b.1 b.2) ∧ PK.sortB (bs.map (·.2)) = true ∧ (∀ b ∈ bs, b.2.depth ≤ 8) ∧
  ∀ p, H p = none → Q (.ref p) (upd H p (.lst ((bs.mergeSort (PySem.W.dataLe false fun b => b.2)).map (·.1))))
theorem each_vals : ∀ {bs : List (V × PyData)} {its : List Value}, Vals (bs.map (·.1)) its → PySem.W.EachIs (fun v (b : V × PyData) => RelV b.1 v) its bs
  | [], [], _ => .nil
  | b :: bs, i :: its, h => by
    cases h with
    | cons h t => exact .cons h (each_vals t)
  | [], _ :: _, h => by cases h
  | _ :: _, [], h => by cases h
theorem vals_each : ∀ {bs : List (V × PyData)} {its : List Value}, PySem.W.EachIs (fun v (b : V × PyData) => RelV b.1 v) its bs → Vals (bs.map (·.1)) its
  | [], _, h => by cases h; exact .nil
  | b :: bs, _, h => by
    cases h with
    | cons h t => exact .cons h (vals_each t)
theorem each_and {α β : Type} {R S : α → β → Prop} : ∀ {as : List α} {bs : List β}, PySem.W.EachIs R as bs → (∀ a b, b ∈ bs → R a b → S a b) → PySem.W.EachIs S as bs
  | _, _, .nil, _ => .nil
  | _, _, .cons r t, h => .cons (h _ _ List.mem_cons_self r) (each_and t fun a b hb => h a b (List.mem_cons_of_mem _ hb))
theorem cr_sortD {X : Cx} (hu : X.A.units + 64 < cLine) : CallR X (.builtin "sorted") (rSortD X.K) := by
  intro pins s σ H vs us Q I r h
  obtain ⟨a, bs, rfl, hs, hd, hb, h7, q⟩ := h
  obtain ⟨its, rv, hl, hz⟩ := I.list hs
  rw [Vals.ref1 r]
  have hz' : bs.length ≤ sizeLine := by rw [List.length_map] at hz; exact hz
  have e := each_vals rv
  obtain ⟨hb1, hb2⟩ := Bool.and_eq_true_iff.mp hb
  have hal : PySem.W.AllAlike (bs.map fun b => b.2) := fun d hd d' hd' => List.all_eq_true.mp (List.all_eq_true.mp hb1 d hd) d' hd'
  have hk : PySem.W.Sortable (bs.map fun b => b.2) := by
    rcases Bool.or_eq_true_iff.mp hb2 with z | z
    · refine .inl fun d hd => ?_
      have := List.all_eq_true.mp z d hd
      match d, this with
      | .tuple (x :: r), _ => exact ⟨x, r, rfl⟩
    · refine .inr fun d hd => ?_
      have := List.all_eq_true.mp z d hd
      constructor
      · intro e; rw [e] at this; cases this
      · intro xs e; rw [e] at this; cases this
  refine PySem.W.sorted_data (enc := fun b : V × PyData => b.2) (R := fun v b => RelV b.1 v) hl.isList e (each_and e fun v b hb rb => Dp.reads I b.2 b.1 v (hd b hb) rb) hal hk hz' (fun b hb => by have := h7 b hb; omega) fun out h1 h2 => ?_
  obtain ⟨ep, he'⟩ := PyProof.Rows.sortedAll_at s.heap its out.toArray
  have hlen : ((bs.mergeSort (PySem.W.dataLe false fun b => b.2)).map (·.1)).length ≤ sizeLine := by
    rw [List.length_map, List.length_mergeSort]; exact hz'
  exact ⟨.ref _, upd H (s.heap.objs.size + 1) (.lst ((bs.mergeSort (PySem.W.dataLe false fun b => b.2)).map (·.1))), I.laid (t' := s.toks) (fun _ _ => PyProof.Rows.sortedAll_old) (Nat.le_succ _) ⟨hlen, out, ep, vals_each h2, he'⟩, rfl, q _ (I.hok.fresh (Nat.le_succ _))⟩
section
variable {K : PySem.W.Frag} {lk : Lk} {ρ : Nm} {G : Cells} {H : Hp}
theorem dpz_of {n : Nat} (r : Rel K lk ρ G H) : ∀ {ds : List PK.D} {es : List PyData} {vs : List V}, PK.pds (PK.pd G n) ds = some es → Reps K lk ρ G.length H ds vs → es.length = ds.length ∧ vs.length = ds.length ∧ (∀ b ∈ vs.zip es, Dp K H b.1 b.2) ∧ (∀ d ∈ es, d.depth ≤ n) ∧ ∀ c ∈ ds.zip (vs.zip es), Rep K lk ρ G.length H c.1 c.2.1
  | [], es, vs, e, p => by
    cases e
    rw [show vs = [] from p]
    exact ⟨rfl, rfl, fun b hb => (nomatch hb), fun d hd => (nomatch hd), fun c hc => (nomatch hc)⟩
  | d :: ds, es, vs, e, p => by
    have e : (PK.pd G n d).bind (fun x => (PK.pds (PK.pd G n) ds).bind fun xs => some (x :: xs)) = some es := e
    cases q : PK.pd G n d with
    | none => rw [q] at e; cases e
    | some x =>
      cases q2 : PK.pds (PK.pd G n) ds with
      | none => rw [q, q2] at e; cases e
      | some xs =>
        rw [q, q2] at e
        cases e
        obtain ⟨v, us, rfl, p1, p2⟩ := p
        obtain ⟨h1, h2, h3, h4, h5⟩ := dpz_of r q2 p2
        refine ⟨by rw [List.length_cons, List.length_cons, h1], by rw [List.length_cons, List.length_cons, h2], fun b hb => ?_, fun d' hd => ?_, fun c hc => ?_⟩
        · rw [List.zip_cons_cons] at hb
          rcases List.mem_cons.mp hb with rfl | hb
          · exact dp_of r n d v x q p1
          · exact h3 b hb
        · rcases List.mem_cons.mp hd with rfl | hd
          · exact (pd_depth n d _ q).1
          · exact h4 _ hd
        · rw [List.zip_cons_cons, List.zip_cons_cons] at hc
          rcases List.mem_cons.mp hc with rfl | hc
          · exact p1
          · exact h5 c hc
theorem reps_of {n : Nat} : ∀ {cs : List (PK.D × (V × PyData))}, (∀ c ∈ cs, Rep K lk ρ n H c.1 c.2.1) → Reps K lk ρ n H (cs.map (·.1)) (cs.map (·.2.1))
  | [], _ => rfl
  | c :: cs, h => ⟨c.2.1, cs.map (·.2.1), rfl, h c List.mem_cons_self, reps_of fun d hd => h d (List.mem_cons_of_mem _ hd)⟩
theorem reps_zip {n : Nat} : ∀ {ds : List PK.D} {vs : List V} {es : List PyData}, Reps K lk ρ n H ds vs → ∀ c ∈ ds.zip (vs.zip es), Rep K lk ρ n H c.1 c.2.1
  | [], _, _, _, c, hc => nomatch hc
  | d :: ds, vs, es, p, c, hc => by
    obtain ⟨v, us, rfl, p1, p2⟩ := p
    match es, hc with
    | [], hc => exact absurd hc (by simp)
    | e :: es, hc =>
      rw [List.zip_cons_cons, List.zip_cons_cons] at hc
      rcases List.mem_cons.mp hc with rfl | hc
      · exact p1
      · exact reps_zip p2 c hc
theorem zip_fst {α β : Type} : ∀ {as : List α} {bs : List β}, as.length = bs.length → (as.zip bs).map (·.1) = as
  | [], _, _ => rfl
  | a :: as, b :: bs, h => by rw [List.zip_cons_cons, List.map_cons, zip_fst (by simpa using h)]
  | _ :: _, [], h => by cases h
theorem zip_snd {α β : Type} : ∀ {as : List α} {bs : List β}, as.length = bs.length → (as.zip bs).map (·.2) = bs
  | [], [], _ => rfl
  | [], _ :: _, h => by cases h
  | a :: as, b :: bs, h => by rw [List.zip_cons_cons, List.map_cons, zip_snd (by simpa using h)]
  | _ :: _, [], h => by cases h
theorem sort_reps {n : Nat} {ds : List PK.D} {vs : List V} {es : List PyData} (h1 : es.length = ds.length) (h2 : vs.length = ds.length) (h : ∀ c ∈ ds.zip (vs.zip es), Rep K lk ρ n H c.1 c.2.1) :
    Reps K lk ρ n H (PK.sortDs ds es) (((vs.zip es).mergeSort (PySem.W.dataLe false fun b => b.2)).map (·.1)) := by
  have hl : (vs.zip es).length = ds.length := by rw [List.length_zip]; omega
  have a1 : ((ds.zip (vs.zip es)).mergeSort (PySem.W.dataLe false fun c => c.2.2)).map (fun c => (c.1, c.2.2)) = (ds.zip es).mergeSort (PySem.W.dataLe false fun b => b.2) := by
    rw [List.map_mergeSort (r := PySem.W.dataLe false fun c : PK.D × (V × PyData) => c.2.2) (s := PySem.W.dataLe false fun b : PK.D × PyData => b.2) (f := fun c : PK.D × (V × PyData) => (c.1, c.2.2)) fun a _ b _ => rfl]
    congr 1
    clear h hl
    induction ds generalizing vs es with
    | nil => rfl
    | cons d ds ih =>
      match vs, es, h1, h2 with
      | v :: vs, e :: es, h1, h2 =>
        rw [List.zip_cons_cons, List.zip_cons_cons, List.map_cons, List.zip_cons_cons, ih (by simpa using h1) (by simpa using h2)]
  have a2 : ((ds.zip (vs.zip es)).mergeSort (PySem.W.dataLe false fun c => c.2.2)).map (fun c => c.2) = (vs.zip es).mergeSort (PySem.W.dataLe false fun b => b.2) := by
    rw [List.map_mergeSort (r := PySem.W.dataLe false fun c : PK.D × (V × PyData) => c.2.2) (s := PySem.W.dataLe false fun b : V × PyData => b.2) (f := fun c : PK.D × (V × PyData) => c.2) fun a _ b _ => rfl, zip_snd hl.symm]
  unfold PK.sortDs
  rw [← a1, ← a2, List.map_map, List.map_map]
  exact reps_of fun c hc => h c (List.mem_mergeSort.mp hc)
end
end PKS
namespace PKS
open PySem PySem.Spec PyProof.Rows L2
def rPopT1 : V → List V → Hp → VK → Prop := fun x xs H Q => ∃ (a : Addr) (kvs : List (List L2.Key × V)) (k : List L2.Key) (b : Addr) (v : V), x = .ref a ∧ xs = [.ref b] ∧ H a = some (.dT kvs) ∧ H b = some (.tup (k.map kV)) ∧
  valV kvs k = some v ∧ Q v (upd H a (.dT (dropK kvs k)))
theorem mt_popT1 {X : Cx} (hu : X.A.units + 1 < cLine) : MtR X "dict.pop" rPopT1 := by
  intro pins s σ H x xs v us Q I rx rxs h
  obtain ⟨a, kvs, k, b, d, rfl, rfl, ha, hb, hk, q⟩ := h
  cases rx
  obtain ⟨u1, rfl, r1⟩ := vals1 rxs
  cases r1
  obtain ⟨z, lo, ys, rel, dd⟩ := dt_of I.hok ha
  have hz : ys.length ≤ sizeLine := by rw [← Paired.length rel]; exact z
  have rv := rel.val k
  rw [hk] at rv
  cases e : atKey ys k with
  | none => rw [e] at rv; exact False.elim rv
  | some p =>
    rw [e] at rv
    refine call_pop_heap (knd := tupleKind (mixKind X.prog X.w)) (.inl rfl) (PySem.F.args_dict_pop_2 _ _) (tupleKind_room_in1 hu) (L2.key_of I.hok hb) lo dd e (fun h' dd' hs => ?_) hz
    obtain ⟨o, es, ep, hq, h2, h3, h4, h6, h5⟩ := dd'
    have kt : L2.KT H (dropK kvs k) (withoutH ys k) := L2.DX.KT_drop k rel
    have J : Inv X pins σ (upd H a (.dT (dropK kvs k))) { s with heap := h', toks := s.toks + (tupleKind (mixKind X.prog X.w)).draws k } :=
      d_write I (by rw [ha]; exact True.intro) hs ⟨o, hq⟩ ⟨Nat.le_trans (dropK_le kvs k) z, lo, withoutH ys k, kt.keeps (fun c zs ec => by rw [upd_ne (ne_of ec ha (fun z => nomatch z))]; exact ec), o, es, ep, hq, h2, h3, h4, h5⟩
    exact ⟨d, _, J, rv, q⟩

theorem dp_key {K : PySem.W.Frag} {H : Hp} : ∀ (k : List L2.Key), DpAll K H (k.map kV) (k.map PK.keyPD)
  | [] => .nil
  | .inl i :: k => .cons (.int i) (dp_key k)
  | .inr s :: k => .cons (.str s) (dp_key k)
theorem depth_key : ∀ (k : List L2.Key), PyData.depthAll (k.map PK.keyPD) ≤ 1
  | [] => by simp [PyData.depthAll]
  | .inl i :: k => by have := depth_key k; simp only [List.map_cons, PK.keyPD, PyData.depthAll, PyData.depth]; omega
  | .inr i :: k => by have := depth_key k; simp only [List.map_cons, PK.keyPD, PyData.depthAll, PyData.depth]; omega
theorem depth_keyT (k : List L2.Key) : (PK.keyTD k).depth ≤ 2 := by
  have := depth_key k
  simp only [PK.keyTD, PyData.depth]; omega
theorem reads_flat {h : Heap} : ∀ (k : List L2.Key) {vs : List Value} {as : List Addr}, ReadsAll h vs (k.map PK.keyPD) as → as = []
  | [], _, _, r => by cases r; rfl
  | .inl i :: k, _, _, r => by
    cases r with
    | cons h1 h2 =>
      cases h1
      rw [reads_flat k h2]; rfl
  | .inr i :: k, _, _, r => by
    cases r with
    | cons h1 h2 =>
      cases h1
      rw [reads_flat k h2]; rfl
theorem reads_keyT {h : Heap} {k : List L2.Key} {v : Value} {as : List Addr} (r : Reads h v (PK.keyTD k) as) : as = [] := by
  cases r with
  | tuple h1 h2 h3 h4 => exact reads_flat k h4
def rSortT : List V → Hp → VK → Prop := fun xs H Q => ∃ p kvs, xs = [.ref p] ∧ H p = some (.dT kvs) ∧ PK.sortB (kvs.map fun kv => PK.keyTD kv.1) = true ∧
  ∀ q as, H q = none → KeysAt H as kvs → Q (.ref q) (upd H q (.lst ((((as.map V.ref).zip (kvs.map fun kv => PK.keyTD kv.1)).mergeSort (PySem.W.dataLe false fun b => b.2)).map (·.1))))
theorem keysAt_get {H : Hp} : ∀ {as : List Addr} {kvs : List (List L2.Key × V)}, KeysAt H as kvs → as.length = kvs.length ∧ ∀ b ∈ (as.map V.ref).zip (kvs.map fun kv => PK.keyTD kv.1), ∃ a k, b = (V.ref a, PK.keyTD k) ∧ H a = some (.tup (k.map kV))
  | [], [], _ => ⟨rfl, fun b h => (nomatch h)⟩
  | a :: as, kv :: kvs, h => by
    obtain ⟨h1, h2⟩ := keysAt_get h.2
    refine ⟨by rw [List.length_cons, List.length_cons, h1], fun b hb => ?_⟩
    rw [List.map_cons, List.map_cons, List.zip_cons_cons] at hb
    rcases List.mem_cons.mp hb with rfl | hb
    · exact ⟨a, kv.1, rfl, h.1⟩
    · exact h2 b hb
  | [], _ :: _, h => h.elim
  | _ :: _, [], h => h.elim
theorem each_refs : ∀ {as : List Addr} {es : List PyData}, as.length = es.length → PySem.W.EachIs (fun v (b : V × PyData) => RelV b.1 v) (as.map Value.ref) ((as.map V.ref).zip es)
  | [], [], _ => .nil
  | a :: as, e :: es, h => .cons rfl (each_refs (by simpa using h))
  | [], _ :: _, h => by cases h
  | _ :: _, [], h => by cases h
theorem cr_sortT {X : Cx} (hc : X.calm = true) (hu : X.A.units + 64 < cLine) : CallR X (.builtin "sorted") rSortT := by
  intro pins s σ H xs us Q I r h
  obtain ⟨p, kvs, rfl, hk, hsb, q⟩ := h
  rw [Vals.ref1 r]
  obtain ⟨z, lo, ys, rk, o, es, ep, ho, hx, hd, he, nd⟩ := (show ObjOk X.prog X.w H s.heap p (.dT kvs) from I.hok p _ hk)
  have hl : kvs.length = ys.length := Paired.length rk
  have hsz : es.size = ys.length := by
    have := congrArg List.length he
    simpa using this
  have hes : ∀ i (hi : i < es.size), ∃ y, ys[i]? = some y ∧ es[i].key = .ref y.2.1 ∧ es[i].val = y.2.2 := fun i hi => by
    have e1 : es.toList[i]? = some es[i] := by simp [hi]
    rw [he, List.getElem?_map] at e1
    cases e2 : ys[i]? with
    | none => rw [e2] at e1; cases e1
    | some y =>
      rw [e2] at e1
      have e1 : some (entryOfKey (tupleKind (mixKind X.prog X.w)) y) = some es[i] := e1
      have := Option.some.inj e1
      exact ⟨y, rfl, by rw [← this]; rfl, by rw [← this]; rfl⟩
  have raw : s.heap.DictRaw p es ep := ⟨o, ho, hx, hd⟩
  have ka := keysAt_of rk
  obtain ⟨kl, kg⟩ := keysAt_get ka
  refine Calls.call_function_entry PyProof.Rows.kind_sorted PyProof.Rows.plain_sorted PyProof.Rows.entry_sorted (PyProof.Rows.args_sorted1 _) ?_
  unfold Builtin.«sorted»
  refine wpAny_bind (m := checkCount "sorted" 1 1 _) (wpAny_pure ?_)
  refine wpAny_bind (PySem.W.kdu_collect (A := X.A.in1) (kdl_raw (prog := X.prog) (w := X.w) lo hes) (I.ok.hd hc) raw (by rw [hsz, ← hl]; exact z) fun h' tk acc hkeep hacc => ?_)
  have hal : acc.toList = (ys.map (·.2.1)).map Value.ref := by
    refine List.ext_getElem? fun j => ?_
    obtain ⟨n1, n2⟩ := hacc
    rw [List.map_map, List.getElem?_map, Array.getElem?_toList]
    cases e : acc[j]? with
    | none =>
      have : acc.size ≤ j := Array.getElem?_eq_none_iff.mp e
      rw [List.getElem?_eq_none (by rw [← hsz, ← n1]; exact this)]; rfl
    | some v =>
      obtain ⟨y, h1, h2⟩ := n2 j v e
      rw [h1, h2]; rfl
  generalize hys : ys.map (·.2.1) = as at hal ka kl kg
  have I1 : Inv X pins σ H { s with heap := h', toks := tk } := I.kept hkeep
  have hll : acc.toList.length = kvs.length := by rw [hal, List.length_map, kl]
  refine wpAny_bind (wpAny_newList ?_ (by rw [hll]; exact z))
  have hoL : (h'.push (seqObj "list" acc.toList.toArray 0)).get? h'.objs.size = some (seqObj "list" acc.toList.toArray 0) := Heap.get?_push_size _ rfl
  show wpAny _ _ _ _ _ { s with heap := h'.push (seqObj "list" acc.toList.toArray 0), toks := tk }
  have hlen : as.length = (kvs.map fun kv => PK.keyTD kv.1).length := by rw [kl, List.length_map]
  have hEa : PySem.W.EachIs (fun v (b : V × PyData) => RelV b.1 v) acc.toList ((as.map V.ref).zip (kvs.map fun kv => PK.keyTD kv.1)) := by
    rw [hal]; exact each_refs hlen
  have hz2 : ((as.map V.ref).zip (kvs.map fun kv => PK.keyTD kv.1)).map (fun b => b.2) = kvs.map fun kv => PK.keyTD kv.1 := zip_snd (by rw [List.length_map, List.length_map, kl])
  have hzl : ((as.map V.ref).zip (kvs.map fun kv => PK.keyTD kv.1)).length = kvs.length := by rw [List.length_zip, List.length_map, List.length_map, kl]; omega
  obtain ⟨hb1, hb2⟩ := Bool.and_eq_true_iff.mp hsb
  have hall : PySem.W.AllAlike (((as.map V.ref).zip (kvs.map fun kv => PK.keyTD kv.1)).map fun b => b.2) := by
    rw [hz2]; exact fun d hd d' hd' => List.all_eq_true.mp (List.all_eq_true.mp hb1 d hd) d' hd'
  have hsrt : PySem.W.Sortable (((as.map V.ref).zip (kvs.map fun kv => PK.keyTD kv.1)).map fun b => b.2) := by
    rw [hz2]
    rcases Bool.or_eq_true_iff.mp hb2 with z | z
    · refine .inl fun d hd => ?_
      have := List.all_eq_true.mp z d hd
      match d, this with
      | .tuple (x :: r), _ => exact ⟨x, r, rfl⟩
    · refine .inr fun d hd => ?_
      have := List.all_eq_true.mp z d hd
      constructor
      · intro e; rw [e] at this; cases this
      · intro xs e; rw [e] at this; cases this
  have hr : PySem.W.EachIs (fun v (b : V × PyData) => ∃ bs, Reads (h'.push (seqObj "list" acc.toList.toArray 0)) v b.2 bs ∧ h'.objs.size ∉ bs) acc.toList ((as.map V.ref).zip (kvs.map fun kv => PK.keyTD kv.1)) :=
    each_and hEa fun v b hb rb => by
      obtain ⟨a, k, rfl, ha⟩ := kg b hb
      obtain ⟨bs, rd⟩ := Dp.reads I1 (PK.keyTD k) (.ref a) v (.tup (.inl (.inl ha)) (dp_key k)) rb
      refine ⟨bs, PyProof.Rows.Reads.keeps (fun _ _ e => Heap.get?_push_of_some _ e) rd, ?_⟩
      rw [reads_keyT rd]
      exact List.not_mem_nil
  refine wpAny_bind (wpAny_holding (PySem.W.list_sort_data (s := { s with heap := h'.push (seqObj "list" acc.toList.toArray 0), toks := tk }) (enc := fun b : V × PyData => b.2) (R := fun v b => RelV b.1 v) hoL hEa hr hall hsrt (by rw [hzl]; exact z) (fun b hb => ?_) fun out h1 h2 => ?_))
  · obtain ⟨a, k, rfl, ha⟩ := kg b hb
    have := depth_keyT k
    show X.A.units + 1 + 1 + (PK.keyTD k).depth < cLine
    omega
  · obtain ⟨e', he'⟩ := PyProof.Rows.sortedHeap_at (vs := acc.toList) (out := out.toArray) hoL
    have hlen2 : ((((as.map V.ref).zip (kvs.map fun kv => PK.keyTD kv.1)).mergeSort (PySem.W.dataLe false fun b => b.2)).map (·.1)).length ≤ sizeLine := by
      rw [List.length_map, List.length_mergeSort, hzl]; exact z
    refine wpAny_pure ⟨_, rfl, .ref h'.objs.size, upd H h'.objs.size (.lst ((((as.map V.ref).zip (kvs.map fun kv => PK.keyTD kv.1)).mergeSort (PySem.W.dataLe false fun b => b.2)).map (·.1))), I1.laid (t' := tk) (fun b u e => ?_) (Nat.le_refl _)
      (show ObjOk X.prog X.w _ _ _ (.lst _) from ⟨hlen2, out, e', vals_each h2, he'⟩), rfl, q _ as (I1.hok.fresh (Nat.le_refl _)) ka⟩
    have hb : b < h'.objs.size := Heap.lt_size e
    show (PyProof.Rows.sortedHeap _ _ _ _).get? b = _
    rw [PyProof.Rows.sortedHeap_old (Nat.ne_of_lt hb) (by rw [size_push']; exact Nat.lt_succ_of_lt hb)]
    exact Heap.get?_push_of_some _ e
end PKS
namespace PKS
open PySem PySem.Spec PyProof.Rows L2

theorem toString_len (i : Int) : (PyData.shown (.int i)).length ≤ (Nat.toDigits 10 i.natAbs).length + 1 := by
  have e : PyData.shown (.int i) = Str.ofString (toString i) := by simp only [PyData.shown]
  rw [e]
  have h2 : (Str.ofString (toString i)).length = (toString i).toList.length := by
    rw [Str.ofString_eq_toList]
    show ((toString i).toList.map Char.toNat).toArray.size = _
    simp
  rw [h2]
  cases i with
  | ofNat n =>
    show (Nat.repr n).toList.length ≤ _
    simp [Nat.repr]
  | negSucc n =>
    show (("-" : String) ++ Nat.repr (n + 1)).toList.length ≤ (Nat.toDigits 10 (n + 1)).length + 1
    simp [Nat.repr]
theorem digits_len {n k : Nat} (hk : 0 < k) (h : n < 10 ^ k) : (Nat.toDigits 10 n).length ≤ k := by
  have := TL.numL_len hk h
  unfold TL.numL at this
  simpa using this
mutual
theorem shown_ub : ∀ d : PyData, PyData.showable d = true → PyData.hasDict d = false → (PyData.shown d).length ≤ PK.ub d
  | .none, _, _ => by simp only [PyData.shown, PK.ub]; decide
  | .bool b, _, _ => by cases b <;> (simp only [PyData.shown, PK.ub]; decide)
  | .int i, h, _ => by
    have hs : i.natAbs.log2 < 1920 := of_decide_eq_true (by simpa [PyData.showable] using h)
    have h1 := toString_len i
    unfold PK.ub
    split
    · rename_i hc
      have := digits_len (by decide) hc
      omega
    · have hb : i.natAbs < 2 ^ 1920 := by
        by_cases z : i.natAbs = 0
        · rw [z]; exact Nat.two_pow_pos _
        · exact (Nat.log2_lt z).mp hs
      have : i.natAbs < 10 ^ 600 := Nat.lt_of_lt_of_le hb (by decide)
      have := digits_len (by decide) this
      omega
  | .str x, _, _ => by simp only [PyData.shown, PK.ub]; exact Nat.le_refl _
  | .list xs, h, hd => by
    have := shownAll_ub xs (by simpa [PyData.showable] using h) (by simpa [PyData.hasDict] using hd)
    simp only [PyData.shown, PK.ub]
    have := listText_len_le (PyData.shownAll xs)
    omega
  | .tuple xs, h, hd => by
    have := shownAll_ub xs (by simpa [PyData.showable] using h) (by simpa [PyData.hasDict] using hd)
    simp only [PyData.shown, PK.ub]
    have := tupleText_len_le (PyData.shownAll xs)
    omega
  | .dict _, _, hd => by simp [PyData.hasDict] at hd
theorem shownAll_ub : ∀ ds : List PyData, PyData.showableAll ds = true → PyData.hasDictAll ds = false → ((PyData.shownAll ds).map (·.length)).sum + 2 * (PyData.shownAll ds).length ≤ PK.uba ds
  | [], _, _ => by simp [PyData.shownAll, PK.uba]
  | d :: ds, h, hd => by
    simp only [PyData.showableAll, Bool.and_eq_true] at h
    simp only [PyData.hasDictAll, Bool.or_eq_false_iff] at hd
    have h1 := shown_ub d h.1 hd.1
    have h2 := shownAll_ub ds h.2 hd.2
    simp only [PyData.shownAll, PK.uba, List.map_cons, List.sum_cons, List.length_cons]
    omega
end
end PKS
namespace PKS
open PySem PySem.Spec PyProof.Rows L2
section
variable {K : PySem.W.Frag} {lk : Lk} {W : WX} {σ : L2.St} {ρ : Nm} {G : Cells} {H : Hp} {Q : VK} {X : Cx}
def rRepr (K : PySem.W.Frag) : List V → Hp → VK → Prop := fun xs H Q => ∃ a d, xs = [.ref a] ∧ Dp K H (.ref a) d ∧ PyData.showable d = true ∧ PyData.hasDict d = false ∧ d.depth ≤ 8 ∧ (PyData.shown d).length ≤ sizeLine ∧ Q (.str (PyData.shown d)) H
theorem cr_repr (hg : X.A.guards = some []) (hu : X.A.units + 64 < cLine) : CallR X (.builtin "repr") (rRepr X.K) := by
  intro pins s σ H xs us Q I r h
  obtain ⟨a, d, rfl, hd, hs, hn, h8, hz, q⟩ := h
  obtain ⟨u, rfl, rx⟩ := vals1 r
  obtain ⟨as, rd⟩ := Dp.reads I d _ u hd rx
  cases rx
  refine repr_of_reads' (h₀ := s.heap) rd hs (fun z => by rw [hn] at z; cases z) hg (by omega) (fun _ _ e => e) (fun h' u tk hk => ?_) hz
  exact ⟨.str _, H, I.kept (t' := tk) hk, ⟨_, rfl⟩, q⟩
theorem divP {i j : Int} (h : PK.divOk j = true) : CDivP i j := by
  have hc := of_decide_eq_true h
  refine ⟨hc.1, PyProof.noPylong_of_log2 ?_⟩
  have : j.natAbs < 2 ^ 1000 := by omega
  exact Nat.lt_trans (log_of this) (by decide)
theorem fold_min : ∀ (r : List Int) (a : Int), (r.foldl (fun a b => if b < a then b else a) a = a ∨ r.foldl (fun a b => if b < a then b else a) a ∈ r) ∧ r.foldl (fun a b => if b < a then b else a) a ≤ a ∧ ∀ y ∈ r, r.foldl (fun a b => if b < a then b else a) a ≤ y
  | [], a => ⟨.inl rfl, Int.le_refl _, fun _ h => nomatch h⟩
  | b :: r, a => by
    obtain ⟨h1, h2, h3⟩ := fold_min r (if b < a then b else a)
    simp only [List.foldl_cons]
    refine ⟨?_, ?_, fun y hy => ?_⟩
    · rcases h1 with h1 | h1
      · rw [h1]; split
        · exact .inr List.mem_cons_self
        · exact .inl rfl
      · exact .inr (List.mem_cons_of_mem _ h1)
    · exact Int.le_trans h2 (by split <;> omega)
    · rcases List.mem_cons.mp hy with e | e
      · rw [e]; exact Int.le_trans h2 (by split <;> omega)
      · exact h3 y e
theorem fold_max : ∀ (r : List Int) (a : Int), (r.foldl (fun a b => if b > a then b else a) a = a ∨ r.foldl (fun a b => if b > a then b else a) a ∈ r) ∧ a ≤ r.foldl (fun a b => if b > a then b else a) a ∧ ∀ y ∈ r, y ≤ r.foldl (fun a b => if b > a then b else a) a
  | [], a => ⟨.inl rfl, Int.le_refl _, fun _ h => nomatch h⟩
  | b :: r, a => by
    obtain ⟨h1, h2, h3⟩ := fold_max r (if b > a then b else a)
    simp only [List.foldl_cons]
    refine ⟨?_, ?_, fun y hy => ?_⟩
    · rcases h1 with h1 | h1
      · rw [h1]; split
        · exact .inr List.mem_cons_self
        · exact .inl rfl
      · exact .inr (List.mem_cons_of_mem _ h1)
    · exact Int.le_trans (by split <;> omega) h2
    · rcases List.mem_cons.mp hy with e | e
      · rw [e]; exact Int.le_trans (by split <;> omega) h2
      · exact h3 y e
theorem minL_is {ns : List Int} {m : Int} (h : m ∈ ns) (hl : ∀ y, y ∈ ns → m ≤ y) : PK.minL ns = m := by
  cases ns with
  | nil => cases h
  | cons a r =>
    obtain ⟨h1, h2, h3⟩ := fold_min r a
    have z : PK.minL (a :: r) ∈ a :: r := by
      rcases h1 with h1 | h1
      · exact List.mem_cons.mpr (.inl h1)
      · exact List.mem_cons_of_mem _ h1
    have le : PK.minL (a :: r) ≤ m := by
      rcases List.mem_cons.mp h with e | e
      · rw [e]; exact h2
      · exact h3 m e
    have := hl _ z
    omega
theorem maxL_is {ns : List Int} {m : Int} (h : m ∈ ns) (hl : ∀ y, y ∈ ns → y ≤ m) : PK.maxL ns = m := by
  cases ns with
  | nil => cases h
  | cons a r =>
    obtain ⟨h1, h2, h3⟩ := fold_max r a
    have z : PK.maxL (a :: r) ∈ a :: r := by
      rcases h1 with h1 | h1
      · exact List.mem_cons.mpr (.inl h1)
      · exact List.mem_cons_of_mem _ h1
    have le : m ≤ PK.maxL (a :: r) := by
      rcases List.mem_cons.mp h with e | e
      · rw [e]; exact h2
      · exact h3 m e
    have := hl _ z
    omega
theorem insI_perm (a : Int) : ∀ l : List Int, (PK.insI a l).Perm (a :: l)
  | [] => .refl _
  | b :: r => by
    unfold PK.insI
    split
    · exact .refl _
    · exact ((insI_perm a r).cons b).trans (.swap a b r)
theorem insI_mem {a y : Int} {l : List Int} (h : y ∈ PK.insI a l) : y = a ∨ y ∈ l := List.mem_cons.mp ((insI_perm a l).mem_iff.mp h)
theorem insI_pw (a : Int) : ∀ l : List Int, l.Pairwise (· ≤ ·) → (PK.insI a l).Pairwise (· ≤ ·)
  | [], _ => by simp [PK.insI]
  | b :: r, h => by
    unfold PK.insI
    obtain ⟨h1, h2⟩ := List.pairwise_cons.mp h
    split
    · refine List.pairwise_cons.mpr ⟨fun y hy => ?_, h⟩
      rcases List.mem_cons.mp hy with e | e
      · rw [e]; assumption
      · have := h1 y e; omega
    · refine List.pairwise_cons.mpr ⟨fun y hy => ?_, insI_pw a r h2⟩
      rcases insI_mem hy with e | e
      · rw [e]; omega
      · exact h1 y e
theorem srtI_perm : ∀ l : List Int, (PK.srtI l).Perm l
  | [] => .refl _
  | a :: r => (insI_perm a (PK.srtI r)).trans ((srtI_perm r).cons a)
theorem srtI_pw : ∀ l : List Int, (PK.srtI l).Pairwise (· ≤ ·)
  | [] => .nil
  | a :: r => insI_pw a _ (srtI_pw r)
def biVal : PK.Bi → Value
  | .abs => .builtin "abs" | .len => .builtin "len" | .int => .type "int" | .str => .type "str" | .repr => .builtin "repr" | .sum => .builtin "sum" | .min1 => .builtin "min" | .max1 => .builtin "max" | .min2 => .builtin "min" | .max2 => .builtin "max"
  | .all => .builtin "all" | .any => .builtin "any" | .divmod => .builtin "divmod" | .tuple => .type "tuple" | .list => .type "list" | .sorted => .builtin "sorted" | .listK => .type "list" | .listT => .type "list" | .sortD => .builtin "sorted" | .sortT => .builtin "sorted"
def biName : PK.Bi → String
  | .abs => "abs" | .len => "len" | .int => "int" | .str => "str" | .repr => "repr" | .sum => "sum" | .min1 => "min" | .max1 => "max" | .min2 => "min" | .max2 => "max"
  | .all => "all" | .any => "any" | .divmod => "divmod" | .tuple => "tuple" | .list => "list" | .sorted => "sorted" | .listK => "list" | .listT => "list" | .sortD => "sorted" | .sortT => "sorted"
def rBi (K : PySem.W.Frag) : PK.Bi → List V → Hp → VK → Prop
  | .abs => fun xs H Q => ∃ i, xs = [.int i] ∧ Q (.int (if i < 0 then -i else i)) H
  | .len => fun xs H Q => (∃ x n, xs = [x] ∧ LenV K x H n ∧ Q (.int n) H) ∨ (∃ a kvs, xs = [V.ref a] ∧ H a = some (.dK kvs) ∧ Q (.int kvs.length) H) ∨ rLenT xs H Q
  | .int => fun xs H Q => ((∃ i, xs = [.int i] ∧ Q (.int i) H) ∨ ∃ k, xs = [.bl k] ∧ Q (.int (if k then 1 else 0)) H) ∨ ∃ a n, xs = [.str a] ∧ PySem.intText? a = some n ∧ a.length ≤ 640 ∧ Q (.int n) H
  | .str => fun xs H Q => (∃ i, xs = [.int i] ∧ i.natAbs.log2 < 1920 ∧ Q (.str (toString i)) H) ∨ ∃ a, xs = [.str a] ∧ Q (.str a) H
  | .repr => rRepr K
  | .sum => fun vs H Q => rSum K vs H Q ∨ rSumT K vs H Q
  | .min1 => rMin K
  | .max1 => rMax K
  | .min2 => fun xs H Q => ∃ i j, xs = [.int i, .int j] ∧ Q (.int (if j < i then j else i)) H
  | .max2 => fun xs H Q => ∃ i j, xs = [.int i, .int j] ∧ Q (.int (if j > i then j else i)) H
  | .all => rAll K
  | .any => rAny K
  | .divmod => fun xs H Q => ∃ i j, xs = [.int i, .int j] ∧ CDivP i j ∧ ∀ p, H p = none → Q (.ref p) (upd H p (.tup [.int (i / j), .int (i % j)]))
  | .tuple => fun xs H Q => ∃ p ys, xs = [.ref p] ∧ ((SqL K H p ys ∧ ∀ l, H l = none → Q (.ref l) (upd H l (.tup ys))) ∨ (SqT K H p ys ∧ Q (.ref p) H))
  | .list => fun xs H Q => ∃ p ys, xs = [.ref p] ∧ (SqL K H p ys ∨ SqT K H p ys) ∧ ∀ l, H l = none → Q (.ref l) (upd H l (.lst ys))
  | .sorted => rSortedI K
  | .listK => rListD
  | .listT => rListT
  | .sortD => rSortD K
  | .sortT => rSortT
theorem cr_bi {b : PK.Bi} (hc0 : X.calm = true ∨ b = .int) (hg : X.A.guards = some []) (hu : X.A.units + 64 < cLine) : CallR X (biVal b) (rBi X.K b) := by
  have hc : b ≠ .int → X.calm = true := fun h => hc0.resolve_right h
  cases b with
  | abs => exact call_abs
  | len => exact call_len.or (call_lenD.or call_len_dT)
  | int => exact call_int1.or call_int_str
  | str => exact call_str_int.or SkE.call_str_str
  | repr => exact cr_repr hg hu
  | sum => exact (cr_sum (hc (by decide))).or (cr_sumT (hc (by decide)))
  | min1 => exact cr_min (hc (by decide))
  | max1 => exact cr_max (hc (by decide))
  | min2 => exact call_min2 (hc (by decide))
  | max2 => exact call_max2 (hc (by decide))
  | all => exact cr_all (hc (by decide))
  | any => exact cr_any (hc (by decide))
  | divmod => exact call_divmodW
  | tuple => exact call_tuple_of
  | list => exact call_list_of
  | sorted => exact cr_sortedI
  | listK => exact call_list_dK (hc (by decide))
  | listT => exact cr_listT (hc (by decide))
  | sortD => exact cr_sortD hu
  | sortT => exact cr_sortT (hc (by decide)) hu
theorem Reps.one_of {d : PK.D} {vs : List V} {n : Nat} (p : Reps K lk ρ n H [d] vs) : ∃ x, vs = [x] ∧ Rep K lk ρ n H d x := by
  obtain ⟨x, xs, h1, h2, h3⟩ := p
  rw [show xs = [] from h3] at h1
  exact ⟨x, h1, h2⟩
theorem Reps.two_of {d e : PK.D} {vs : List V} {n : Nat} (p : Reps K lk ρ n H [d, e] vs) : ∃ x y, vs = [x, y] ∧ Rep K lk ρ n H d x ∧ Rep K lk ρ n H e y := by
  obtain ⟨x, xs, h1, h2, h3⟩ := p
  obtain ⟨y, h4, h5⟩ := h3.one_of
  rw [h4] at h1
  exact ⟨x, y, h1, h2, h5⟩
theorem ints_at {x : PK.D} {v : V} {ns : List Int} (r : Rel K lk ρ G H) (p : Rep K lk ρ G.length H x v) (nt : ∀ ds, x ≠ .tup ds) (e : (PK.seqD G x).bind PK.intsD = some ns) : ∃ a, v = .ref a ∧ SqL K H a (ns.map V.int) := by
  cases q : PK.seqD G x with
  | none => rw [q] at e; cases e
  | some ds =>
    rw [q] at e
    obtain ⟨A, vs, h1, _, h3, h4, _⟩ := seq_of q r p
    rw [ints_of e h3] at h4
    exact ⟨A, h1, h4 nt⟩
theorem bls_at {x : PK.D} {v : V} {ns : List Bool} (r : Rel K lk ρ G H) (p : Rep K lk ρ G.length H x v) (nt : ∀ ds, x ≠ .tup ds) (e : (PK.seqD G x).bind PK.blsD = some ns) : ∃ a, v = .ref a ∧ SqL K H a (ns.map V.bl) := by
  cases q : PK.seqD G x with
  | none => rw [q] at e; cases e
  | some ds =>
    rw [q] at e
    obtain ⟨A, vs, h1, _, h3, h4, _⟩ := seq_of q r p
    rw [bls_of e h3] at h4
    exact ⟨A, h1, h4 nt⟩
theorem len_val {v : PK.D} {x : V} {n : Nat} (r : Rel K lk ρ G H) (p : Rep K lk ρ G.length H v x) (e : PK.lenD G v = some n) (q : Q (.int n) H) : rBi K .len [x] H Q := by
  cases v with
  | tup ds => cases e; obtain ⟨A, vs, h1, h2, h3⟩ := p; exact .inl ⟨x, _, rfl, by rw [h1]; exact .inr ⟨vs, h2.sq, h3.length⟩, q⟩
  | lst ds => cases e; obtain ⟨A, vs, h1, h2, _, h3⟩ := p; exact .inl ⟨x, _, rfl, by rw [h1]; exact .inl ⟨vs, SqL.of h2, h3.length⟩, q⟩
  | fz ds =>
    cases e; obtain ⟨A, vs, h1, h2, h3⟩ := p
    have h2' : SqL K H A vs := by
      rcases h2 with ⟨o, h2⟩ | h2
      · exact .inl (.inr ⟨o, h2⟩)
      · exact .inr h2
    exact .inl ⟨x, _, rfl, by rw [h1]; exact .inl ⟨vs, h2', h3.length⟩, q⟩
  | str s =>
    have e : (if s.length ≤ 1000000 then some s.length else none) = some n := e
    split at e
    · cases e
      exact .inl ⟨x, _, rfl, by rw [show x = .str s from p]; exact ⟨Nat.le_trans (by assumption) (by rw [sizeLine_eq]; decide), rfl⟩, q⟩
    · cases e
  | ref i =>
    obtain ⟨hi, hv⟩ := p
    unfold PK.lenD at e
    cases z : G[i]? with
    | none => simp [z] at e
    | some c =>
      obtain ⟨u, h1, h2⟩ := r.cell i c z
      cases c with
      | lst ds => simp only [z] at e; cases e; obtain ⟨vs, e1, h3⟩ := h2; subst e1; exact .inl ⟨x, _, rfl, by rw [hv]; exact .inl ⟨vs, SqL.of h1, h3.length⟩, q⟩
      | dK kvs =>
        simp only [z] at e; cases e; obtain ⟨zs, e1, h3⟩ := h2; subst e1
        have hl : kvs.length = zs.length := by have := congrArg List.length h3.1; simpa using this.symm
        exact .inr (.inl ⟨ρ i, zs, by rw [hv], h1, by rw [← hl]; exact q⟩)
      | dT kvs =>
        simp only [z] at e; cases e; obtain ⟨zs, e1, h3⟩ := h2; subst e1
        have hl : kvs.length = zs.length := by have := congrArg List.length h3.1; simpa using this.symm
        exact .inr (.inr ⟨ρ i, zs, by rw [hv], h1, by rw [← hl]; exact q⟩)
      | ins c ds => simp [z] at e
      | frK ds => simp [z] at e
  | _ => cases e
theorem reps_keys {n : Nat} : ∀ ks : List L2.Key, Reps K lk ρ n H (ks.map PK.kD) (ks.map kV)
  | [] => rfl
  | .inl i :: ks => ⟨.int i, ks.map kV, rfl, rfl, reps_keys ks⟩
  | .inr z :: ks => ⟨.str z, ks.map kV, rfl, rfl, reps_keys ks⟩
theorem reps_tkeys {n : Nat} : ∀ {as : List Addr} {kvs : List (List L2.Key × V)}, KeysAt H as kvs → Reps K lk ρ n H (kvs.map fun kv => PK.D.tup (kv.1.map PK.kD)) (as.map V.ref)
  | [], [], _ => rfl
  | a :: as, kv :: kvs, h => ⟨.ref a, as.map V.ref, rfl, ⟨a, kv.1.map kV, rfl, .inl h.1, reps_keys _⟩, reps_tkeys h.2⟩
  | [], _ :: _, h => h.elim
  | _ :: _, [], h => h.elim
theorem bi_val (b : PK.Bi) {w : Bool} {ds : List PK.D} {vs : List V} (r : Rel K lk ρ G H) (p : Reps K lk ρ G.length H ds vs) (h : OutE K lk W σ ρ G H (PK.biD b w ds G) Q) : rBi K b vs H Q := by
  match ds, p, h with
  | [], _, h => cases b <;> exact h.elim
  | [d], p, h =>
    obtain ⟨x, rfl, px⟩ := p.one_of
    cases b with
    | abs => cases d <;> first | exact h.elim | exact ⟨_, by rw [show x = _ from px], OutE.here h r rfl⟩
    | len =>
      have h : OutE K lk W σ ρ G H (match PK.lenD G d with | some n => .ok (.int n) G | none => .bad) Q := h
      cases e : PK.lenD G d with
      | none => rw [e] at h; exact h.elim
      | some n => rw [e] at h; exact len_val r px e (OutE.here h r rfl)
    | int =>
      cases d with
      | int i => exact .inl (.inl ⟨i, by rw [show x = _ from px], OutE.here h r rfl⟩)
      | bl i => exact .inl (.inr ⟨i, by rw [show x = _ from px], OutE.here h r rfl⟩)
      | str a =>
        have h : OutE K lk W σ ρ G H (match PySem.intText? a with | some n => if decide (a.length ≤ 640) then .ok (.int n) G else .bad | none => .bad) Q := h
        cases e : PySem.intText? a with
        | none => rw [e] at h; exact h.elim
        | some n =>
          rw [e] at h
          simp only at h
          split at h
          · rename_i hc
            exact .inr ⟨a, n, by rw [show x = _ from px], e, of_decide_eq_true hc, OutE.here h r rfl⟩
          · exact h.elim
      | _ => exact h.elim
    | str =>
      cases d with
      | int i =>
        have h : OutE K lk W σ ρ G H (if PK.strOkI i then .ok (.str (PK.nstr i)) G else .bad) Q := h
        split at h
        · rename_i hc
          have hc : i.natAbs < 2 ^ 1900 := of_decide_eq_true hc
          exact .inl ⟨i, by rw [show x = _ from px], Nat.lt_trans (PySem.Flt.log2_lt_of (by decide) hc) (by decide), OutE.here h r rfl⟩
        · exact h.elim
      | str a => exact .inr ⟨a, by rw [show x = _ from px], OutE.here h r rfl⟩
      | _ => exact h.elim
    | repr =>
      have h : OutE K lk W σ ρ G H (PK.reprD G d) Q := h
      unfold PK.reprD at h
      cases e : PK.pd G 8 d with
      | none => rw [e] at h; exact h.elim
      | some y =>
        rw [e] at h
        simp only at h
        split at h
        · rename_i hc
          simp only [Bool.and_eq_true, decide_eq_true_eq] at hc
          obtain ⟨⟨c1, c2⟩, c3⟩ := hc
          obtain ⟨d1, d2⟩ := pd_depth 8 d y e
          have hx : ∃ a, x = .ref a := by
            cases d <;> first | (cases c1; done) | skip
            · obtain ⟨a, _, z, _⟩ := px; exact ⟨a, z⟩
            · obtain ⟨a, _, z, _⟩ := px; exact ⟨a, z⟩
            · obtain ⟨a, _, z, _⟩ := px; exact ⟨a, z⟩
            · exact ⟨_, px.2⟩
          obtain ⟨a, ha⟩ := hx
          have hp := dp_of r 8 d x y e px
          rw [ha] at hp
          exact ⟨a, y, by rw [ha], hp, c2, d2, d1, Nat.le_trans (shown_ub y c2 d2) (Nat.le_trans c3 (by rw [sizeLine_eq]; decide)), OutE.here h r rfl⟩
        · exact h.elim
    | sum =>
      have h : OutE K lk W σ ρ G H (match (PK.seqD G d).bind PK.intsD with | some ns => .ok (.int ns.sum) G | none => .bad) Q := h
      have e : (∃ ds, d = .tup ds) ∨ ∀ ds, d ≠ .tup ds := by cases d <;> first | exact .inl ⟨_, rfl⟩ | exact .inr (by intro _ z; cases z)
      cases e2 : (PK.seqD G d).bind PK.intsD with
      | none => rw [e2] at h; exact h.elim
      | some ns =>
        rw [e2] at h
        have q : Q (.int ns.sum) H := OutE.here (v := .int ns.sum) h r rfl
        rcases e with ⟨ds, rfl⟩ | nt
        · obtain ⟨A, us, h1, h2, h3⟩ := px
          have e3 : PK.intsD ds = some ns := e2
          rw [ints_of e3 h3] at h2
          exact .inr ⟨A, ns, by rw [h1], h2.sq, q⟩
        · obtain ⟨a, h1, h2⟩ := ints_at r px nt e2
          exact .inl ⟨a, ns, by rw [h1], h2, q⟩
    | min1 =>
      have e : (∃ ds, d = .tup ds) ∨ ∀ ds, d ≠ .tup ds := by cases d <;> first | exact .inl ⟨_, rfl⟩ | exact .inr (by intro _ z; cases z)
      rcases e with ⟨ds, rfl⟩ | nt
      · exact h.elim
      · have h : OutE K lk W σ ρ G H (match (PK.seqD G d).bind PK.intsD with | some ns => if ns.isEmpty then .bad else .ok (.int (PK.minL ns)) G | none => .bad) Q := by
          cases d <;> first | exact h | exact absurd rfl (nt _)
        cases e : (PK.seqD G d).bind PK.intsD with
        | none => rw [e] at h; exact h.elim
        | some ns =>
          rw [e] at h
          simp only at h
          split at h
          · exact h.elim
          · rename_i hn
            obtain ⟨a, h1, h2⟩ := ints_at r px nt e
            refine ⟨a, ns, by rw [h1], h2, ?_, fun m hm hl => ?_⟩
            · cases ns with
              | nil => exact absurd rfl hn
              | cons _ _ => simp
            · have q : Q (.int (PK.minL ns)) H := OutE.here h r rfl
              rw [minL_is hm hl] at q; exact q
    | max1 =>
      have e : (∃ ds, d = .tup ds) ∨ ∀ ds, d ≠ .tup ds := by cases d <;> first | exact .inl ⟨_, rfl⟩ | exact .inr (by intro _ z; cases z)
      rcases e with ⟨ds, rfl⟩ | nt
      · exact h.elim
      · have h : OutE K lk W σ ρ G H (match (PK.seqD G d).bind PK.intsD with | some ns => if ns.isEmpty then .bad else .ok (.int (PK.maxL ns)) G | none => .bad) Q := by
          cases d <;> first | exact h | exact absurd rfl (nt _)
        cases e : (PK.seqD G d).bind PK.intsD with
        | none => rw [e] at h; exact h.elim
        | some ns =>
          rw [e] at h
          simp only at h
          split at h
          · exact h.elim
          · rename_i hn
            obtain ⟨a, h1, h2⟩ := ints_at r px nt e
            refine ⟨a, ns, by rw [h1], h2, ?_, fun m hm hl => ?_⟩
            · cases ns with
              | nil => exact absurd rfl hn
              | cons _ _ => simp
            · have q : Q (.int (PK.maxL ns)) H := OutE.here h r rfl
              rw [maxL_is hm hl] at q; exact q
    | all =>
      have e : (∃ ds, d = .tup ds) ∨ ∀ ds, d ≠ .tup ds := by cases d <;> first | exact .inl ⟨_, rfl⟩ | exact .inr (by intro _ z; cases z)
      rcases e with ⟨ds, rfl⟩ | nt
      · exact h.elim
      · have h : OutE K lk W σ ρ G H (match (PK.seqD G d).bind PK.blsD with | some ns => .ok (.bl (ns.all id)) G | none => .bad) Q := by
          cases d <;> first | exact h | exact absurd rfl (nt _)
        cases e : (PK.seqD G d).bind PK.blsD with
        | none => rw [e] at h; exact h.elim
        | some ns =>
          rw [e] at h
          obtain ⟨a, h1, h2⟩ := bls_at r px nt e
          exact ⟨a, ns, by rw [h1], h2, OutE.here h r rfl⟩
    | any =>
      have e : (∃ ds, d = .tup ds) ∨ ∀ ds, d ≠ .tup ds := by cases d <;> first | exact .inl ⟨_, rfl⟩ | exact .inr (by intro _ z; cases z)
      rcases e with ⟨ds, rfl⟩ | nt
      · exact h.elim
      · have h : OutE K lk W σ ρ G H (match (PK.seqD G d).bind PK.blsD with | some ns => .ok (.bl (ns.any id)) G | none => .bad) Q := by
          cases d <;> first | exact h | exact absurd rfl (nt _)
        cases e : (PK.seqD G d).bind PK.blsD with
        | none => rw [e] at h; exact h.elim
        | some ns =>
          rw [e] at h
          obtain ⟨a, h1, h2⟩ := bls_at r px nt e
          exact ⟨a, ns, by rw [h1], h2, OutE.here h r rfl⟩
    | tuple =>
      have h : OutE K lk W σ ρ G H (match PK.seqD G d with | some ds => .ok (.tup ds) G | none => .bad) Q := h
      cases e : PK.seqD G d with
      | none => rw [e] at h; exact h.elim
      | some es =>
        rw [e] at h
        obtain ⟨A, vs, h1, _, h3, h4, h5⟩ := seq_of e r px
        have c : (∃ ds, d = .tup ds) ∨ ∀ ds, d ≠ .tup ds := by cases d <;> first | exact .inl ⟨_, rfl⟩ | exact .inr (by intro _ z; cases z)
        rcases c with ⟨ds, rfl⟩ | nt
        · cases e
          exact ⟨A, vs, by rw [h1], .inr ⟨h5 ⟨_, rfl⟩, by rw [← h1]; exact OutE.here h r px⟩⟩
        · exact ⟨A, vs, by rw [h1], .inl ⟨h4 nt, OutE.tup h r h3⟩⟩
    | list =>
      have h : OutE K lk W σ ρ G H (match PK.seqD G d with | some ds => PK.mkl w ds G | none => .bad) Q := h
      cases e : PK.seqD G d with
      | none => rw [e] at h; exact h.elim
      | some es =>
        rw [e] at h
        obtain ⟨A, vs, h1, h2, h3, h4, h5⟩ := seq_of e r px
        exact ⟨A, vs, by rw [h1], h2, h.mkl r h3⟩
    | sorted =>
      have e : (∃ ds, d = .tup ds) ∨ ∀ ds, d ≠ .tup ds := by cases d <;> first | exact .inl ⟨_, rfl⟩ | exact .inr (by intro _ z; cases z)
      rcases e with ⟨ds, rfl⟩ | nt
      · exact h.elim
      · have h : OutE K lk W σ ρ G H (match (PK.seqD G d).bind PK.intsD with | some ns => PK.mkl w ((PK.srtI ns).map .int) G | none => .bad) Q := by
          cases d <;> first | exact h | exact absurd rfl (nt _)
        cases e : (PK.seqD G d).bind PK.intsD with
        | none => rw [e] at h; exact h.elim
        | some ns =>
          rw [e] at h
          obtain ⟨a, h1, h2⟩ := ints_at r px nt e
          refine ⟨a, ns, by rw [h1], h2, fun ns' p hp hs hn => ?_⟩
          have : ns' = PK.srtI ns := PySem.W.ksm_same (hp.trans (srtI_perm ns).symm) hs (srtI_pw ns)
          rw [this]
          exact h.mkl r (of_ints _) p hn
    | listK =>
      cases d with
      | ref i =>
        have h : OutE K lk W σ ρ G H (match G[i]? with | some (.dK kvs) => PK.mkl w (kvs.map fun kv => PK.kD kv.1) G | _ => .bad) Q := h
        obtain ⟨hi, hv⟩ := px
        cases q : G[i]? with
        | none => rw [q] at h; exact h.elim
        | some c =>
          obtain ⟨u, h1, h2⟩ := r.cell i c q
          cases c with
          | dK kvs =>
            rw [q] at h
            obtain ⟨zs, rfl, h3⟩ := h2
            refine ⟨ρ i, zs, by rw [hv], h1, fun p hp => OutE.mkl h r ?_ p hp⟩
            have e : (kvs.map fun kv => PK.kD kv.1) = (kvs.map (·.1)).map PK.kD := by rw [List.map_map]; rfl
            have e' : (zs.map fun kv => kV kv.1) = (zs.map (·.1)).map kV := by rw [List.map_map]; rfl
            rw [e, e', h3.1]
            exact reps_keys _
          | _ => rw [q] at h; exact h.elim
      | _ => exact h.elim
    | listT =>
      cases d with
      | ref i =>
        have h : OutE K lk W σ ρ G H (match G[i]? with | some (.dT kvs) => PK.mkl w (kvs.map fun kv => .tup (kv.1.map PK.kD)) G | _ => .bad) Q := h
        obtain ⟨hi, hv⟩ := px
        cases q : G[i]? with
        | none => rw [q] at h; exact h.elim
        | some c =>
          obtain ⟨u, h1, h2⟩ := r.cell i c q
          cases c with
          | dT kvs =>
            rw [q] at h
            obtain ⟨zs, rfl, h3⟩ := h2
            refine ⟨ρ i, zs, by rw [hv], h1, fun p as hp hk => OutE.mkl h r ?_ p hp⟩
            have e : (kvs.map fun kv => PK.D.tup (kv.1.map PK.kD)) = (zs.map fun kv => PK.D.tup (kv.1.map PK.kD)) := by
              have e1 : (kvs.map fun kv => PK.D.tup (kv.1.map PK.kD)) = (kvs.map (·.1)).map fun k => PK.D.tup (k.map PK.kD) := by rw [List.map_map]; rfl
              have e2 : (zs.map fun kv => PK.D.tup (kv.1.map PK.kD)) = (zs.map (·.1)).map fun k => PK.D.tup (k.map PK.kD) := by rw [List.map_map]; rfl
              rw [e1, e2, h3.1]
            rw [e]
            exact reps_tkeys hk
          | _ => rw [q] at h; exact h.elim
      | _ => exact h.elim
    | sortT =>
      cases d with
      | ref i =>
        have h : OutE K lk W σ ρ G H (match G[i]? with | some (.dT kvs) => (if PK.sortB (kvs.map fun kv => PK.keyTD kv.1) then PK.mkl w (PK.sortDs (kvs.map fun kv => .tup (kv.1.map PK.kD)) (kvs.map fun kv => PK.keyTD kv.1)) G else .bad) | _ => .bad) Q := h
        obtain ⟨hi, hv⟩ := px
        cases q : G[i]? with
        | none => rw [q] at h; exact h.elim
        | some c =>
          obtain ⟨u, h1, h2⟩ := r.cell i c q
          cases c with
          | dT kvs =>
            rw [q] at h
            dsimp only at h
            split at h
            · rename_i hb
              obtain ⟨zs, rfl, h3⟩ := h2
              have e1 : (kvs.map fun kv => PK.D.tup (kv.1.map PK.kD)) = (kvs.map (·.1)).map fun k => PK.D.tup (k.map PK.kD) := by rw [List.map_map]; rfl
              have e2 : (zs.map fun kv => PK.D.tup (kv.1.map PK.kD)) = (zs.map (·.1)).map fun k => PK.D.tup (k.map PK.kD) := by rw [List.map_map]; rfl
              have e3 : (kvs.map fun kv => PK.keyTD kv.1) = (kvs.map (·.1)).map fun k => PK.keyTD k := by rw [List.map_map]; rfl
              have e4 : (zs.map fun kv => PK.keyTD kv.1) = (zs.map (·.1)).map fun k => PK.keyTD k := by rw [List.map_map]; rfl
              have e0 : (kvs.map fun kv => PK.keyTD kv.1) = zs.map fun kv => PK.keyTD kv.1 := by rw [e3, e4, h3.1]
              refine ⟨ρ i, zs, by rw [hv], h1, by rw [← e0]; exact hb, fun p as hp hk => OutE.mkl h r ?_ p hp⟩
              rw [e0, e1, ← h3.1, ← e2]
              have rp := reps_tkeys (K := K) (lk := lk) (ρ := ρ) (n := G.length) hk
              have l1 := rp.length
              refine sort_reps (by rw [List.length_map, List.length_map]) (by rw [l1]) fun c hc => reps_zip rp c hc
            · exact h.elim
          | _ => rw [q] at h; exact h.elim
      | _ => exact h.elim
    | sortD =>
      have e : (∃ ds, d = .tup ds) ∨ ∀ ds, d ≠ .tup ds := by cases d <;> first | exact .inl ⟨_, rfl⟩ | exact .inr (by intro _ z; cases z)
      rcases e with ⟨ds, rfl⟩ | nt
      · exact h.elim
      · have h : OutE K lk W σ ρ G H (match PK.seqD G d with | some ds => (match PK.pds (PK.pd G 8) ds with | some es => if PK.sortB es then PK.mkl w (PK.sortDs ds es) G else .bad | none => .bad) | none => .bad) Q := by
          cases d <;> first | exact h | exact absurd rfl (nt _)
        cases e : PK.seqD G d with
        | none => rw [e] at h; exact h.elim
        | some ds =>
          rw [e] at h
          dsimp only at h
          cases e2 : PK.pds (PK.pd G 8) ds with
          | none => rw [e2] at h; exact h.elim
          | some es =>
            rw [e2] at h
            dsimp only at h
            split at h
            · rename_i hb
              obtain ⟨A, vs, h1, _, h3, h4, _⟩ := seq_of e r px
              obtain ⟨k1, k2, k3, k4, k5⟩ := dpz_of r e2 h3
              refine ⟨A, vs.zip es, by rw [h1], by rw [zip_fst (by omega)]; exact h4 nt, k3, by rw [zip_snd (by omega)]; exact hb, fun b hm => ?_, h.mkl r (sort_reps k1 k2 k5)⟩
              exact k4 _ (List.of_mem_zip hm).2
            · exact h.elim
    | min2 => cases d <;> exact h.elim
    | max2 => cases d <;> exact h.elim
    | divmod => cases d <;> exact h.elim
  | [d, e], p, h =>
    obtain ⟨x, y, rfl, px, py⟩ := p.two_of
    cases b with
    | min2 => cases d <;> cases e <;> first | exact h.elim | exact ⟨_, _, by rw [show x = _ from px, show y = _ from py], OutE.here h r rfl⟩
    | max2 => cases d <;> cases e <;> first | exact h.elim | exact ⟨_, _, by rw [show x = _ from px, show y = _ from py], OutE.here h r rfl⟩
    | divmod =>
      cases d with
      | int i =>
        cases e with
        | int j =>
          have h : OutE K lk W σ ρ G H (if PK.divOk j then .ok (.tup [.int (i / j), .int (i % j)]) G else .bad) Q := h
          split at h
          · rename_i hc
            exact ⟨i, j, by rw [show x = _ from px, show y = _ from py], divP hc, OutE.tup h r ⟨_, _, rfl, rfl, ⟨_, _, rfl, rfl, rfl⟩⟩⟩
          · exact h.elim
        | _ => exact h.elim
      | _ => exact h.elim
    | _ => cases d <;> cases e <;> exact h.elim
  | d :: e :: f :: ds, p, h => cases b <;> cases d <;> first | exact False.elim h | (cases e <;> exact False.elim h)
end
end PKS
namespace PKS
open PySem PySem.Spec PyProof.Rows L2
abbrev W0 : WX := fun _ _ _ _ => False
theorem XE.up {X : Cx} {W : WX} {u : Value} {s' : Shared} (x : L2N.XE X W u s') : XE X W u s' := by
  obtain ⟨a, B, sI, pins, σ, H, cls, d, e, I, nb, up, sky, na, os, ag, w⟩ := x
  refine ⟨a, B, sI, pins, σ, H, cls, d, e, I, nb, up, ?_, na, os, ag, w⟩
  have tz : ∀ {fl : Value}, HandSPX.TracedZ s'.heap B a (L2N.Zn cls d) fl → HandSPX.TracedZ s'.heap B a (Zc cls d) fl := fun ⟨oe, vs, T, oT, ts, he, hz, r⟩ => ⟨oe, vs, T, oT, ts, he, hz.zc, r⟩
  rcases sky with ⟨h1, h2, h3, oe, vs, he, hz, hd, h4⟩ | ⟨h1, h2, h3, h4⟩ | ⟨h1, h2, h3, h4⟩
  · exact .inl ⟨h1, h2, h3, oe, vs, he, hz.zc, hd, h4⟩
  · exact .inr (.inl ⟨h1, h2, h3, tz h4⟩)
  · exact .inr (.inr ⟨h1, h2, h3, tz h4⟩)
def WXo (X : Cx) : WX := fun cls d σ H => match d with
  | none => ∀ u s', L2N.XE X (fun c' d' σ' H' => c' = cls ∧ d' = none ∧ σ' = σ ∧ H' = H) u s' → X.xe u s'
  | some _ => ∀ u s', XE X (fun c' d' σ' H' => c' = cls ∧ d' = none ∧ σ' = σ ∧ H' = H) u s' → X.xe u s'
theorem takes_n (X : Cx) : L2N.Takes X (fun cls d σ H => d = none ∧ WXo X cls none σ H) := fun u s' ⟨a, B, sI, pins, σ, H, cls, d, e, I, nb, up, sky, na, os, ag, w0, w⟩ => w u s' ⟨a, B, sI, pins, σ, H, cls, d, e, I, nb, up, sky, na, os, ag, rfl, w0, rfl, rfl⟩
theorem takes_z (X : Cx) : Takes X (fun cls d σ H => d = none ∧ WXo X cls (some 0) σ H) := fun u s' ⟨a, B, sI, pins, σ, H, cls, d, e, I, nb, up, sky, na, os, ag, w0, w⟩ => w u s' ⟨a, B, sI, pins, σ, H, cls, d, e, I, nb, up, sky, na, os, ag, rfl, w0, rfl, rfl⟩
theorem wx_n {X : Cx} {W : WX} (tk : L2N.Takes X W) {cls : Value} {σ : L2.St} {H : Hp} (h : W cls none σ H) : WXo X cls none σ H := fun u s' x => tk.imp (W' := fun c' d' σ' H' => c' = cls ∧ d' = none ∧ σ' = σ ∧ H' = H) (fun c d' σ' H' ⟨e1, e2, e3, e4⟩ => by rw [e1, e2, e3, e4]; exact h) u s' x
theorem wx_z {X : Cx} {W : WX} (tk : Takes X W) {cls : Value} {d : Option Addr} {σ : L2.St} {H : Hp} (h : W cls none σ H) : WXo X cls d σ H := by
  have z : ∀ u s', XE X (fun c' d' σ' H' => c' = cls ∧ d' = none ∧ σ' = σ ∧ H' = H) u s' → X.xe u s' := fun u s' x => tk.imp (W' := fun c' d' σ' H' => c' = cls ∧ d' = none ∧ σ' = σ ∧ H' = H) (fun c d' σ' H' ⟨e1, e2, e3, e4⟩ => by rw [e1, e2, e3, e4]; exact h) u s' x
  cases d with
  | none => exact fun u s' x => z u s' (XE.up x)
  | some _ => exact z
abbrev Ev := PK.Env → Cells → PK.R
abbrev LE (X : Cx) (lk : Lk) (e : Expr) (ev : Ev) : Prop := PE X e (lift X.K lk (WXo X) ev)
abbrev LA (X : Cx) (lk : Lk) (es : List Expr) (ev : Ev) : Prop := PA X es (liftA X.K lk (WXo X) ev)
abbrev LT (X : Cx) (lk : Lk) (e : Expr) (ev : Ev) : Prop := PT X e (liftT X.K lk (WXo X) ev)
abbrev LW (X : Cx) (lk : Lk) (e : Expr) (ev : Ev) : Prop := PW X e (liftT X.K lk (WXo X) ev)
section
variable {X : Cx} {lk : Lk} {W : WX} {a b c e o : Expr} {es : List Expr} {ea eb ec ev : Ev} {pos p p1 p2 p3 apos : Pos} {t t' : TE} {k : Nat}
theorem pe_imp (h : PE X e t) (hi : ∀ σ H Q, t' σ H Q → t σ H Q) : PE X e t' := ⟨fun pins s σ H Q I q => h.run pins s σ H Q I (hi σ H Q q)⟩
theorem pt_imp {t t' : TT} (h : PT X e t) (hi : ∀ σ H Q, t' σ H Q → t σ H Q) : PT X e t' := ⟨fun pins s σ H Q I q => h.run pins s σ H Q I (hi σ H Q q)⟩
theorem pw_imp {t t' : TT} (h : PW X e t) (hi : ∀ σ H Q, t' σ H Q → t σ H Q) : PW X e t' := ⟨fun w pins s σ H Q I q => h.run w pins s σ H Q I (hi σ H Q q)⟩
theorem pa_imp {t t' : TA} (h : PA X es t) (hi : ∀ σ H Q, t' σ H Q → t σ H Q) : PA X es t' := ⟨fun p pins s σ H Q I q => h.run p pins s σ H Q I (hi σ H Q q)⟩
theorem le_of {ev ev' : Ev} (h : LE X lk e ev) (hi : ∀ s G, ev' s G = ev s G) : LE X lk e ev' := by
  have : ev' = ev := funext fun s => funext fun G => hi s G
  rw [this]; exact h

theorem le_int {i : Int} : LE X lk (.Constant (.int i) k pos) (fun _ G => .ok (.int i) G) := pe_imp pe_int fun _ _ _ ⟨_, _, _, r, _, h⟩ => h.here r rfl
theorem le_bl {i : Bool} : LE X lk (.Constant (.bool i) k pos) (fun _ G => .ok (.bl i) G) := pe_imp pe_bl fun _ _ _ ⟨_, _, _, r, _, h⟩ => h.here r rfl
theorem le_str {i : Str} : LE X lk (.Constant (.str i) k pos) (fun _ G => .ok (.str i) G) := pe_imp pe_str fun _ _ _ ⟨_, _, _, r, _, h⟩ => h.here r rfl
theorem le_non : LE X lk (.Constant .none k pos) (fun _ G => .ok .non G) := pe_imp pe_non fun _ _ _ ⟨_, _, _, r, _, h⟩ => h.here r rfl
theorem le_var {i : Nat} {x : Str} (hN : X.N[i]? = some x) (hv : Vis X.env.scope x) (hd : (x == ("__debug__" : Str)) = false) (hcd : (x == ("__classdict__" : Str)) = false) :
    LE X lk (.Name x pos) (fun s G => PK.optK (s[i]?.join) (fun d => .ok d G) .bad) := by
  refine pe_imp (pe_var hN hv hd hcd) fun σ H Q ⟨ρ, G, s, r, en, h⟩ => ?_
  cases q : s[i]? with
  | none => simp [q, PK.optK] at h; exact h.elim
  | some z =>
    cases z with
    | none => simp [q, PK.optK] at h; exact h.elim
    | some d =>
      obtain ⟨v, h1, h2⟩ := en.at_ i d q
      simp [q, PK.optK] at h
      exact ⟨v, h1, h.here r h2⟩
theorem le_glob {x : Str} {i : Nat} {gl : Nat → Option PK.D} (hg : Gl X x) (hd : (x == ("__debug__" : Str)) = false) (h : ∀ d, gl i = some d → ∃ v u, X.mg x = some u ∧ RelV v u ∧ ∀ ρ n H, Rep X.K lk ρ n H d v) :
    LE X lk (.Name x pos) (fun _ G => PK.optK (gl i) (fun d => .ok d G) .bad) := by
  cases q : gl i with
  | none => exact ⟨fun _ _ _ _ _ _ ⟨_, _, _, _, _, h⟩ => h.elim⟩
  | some d =>
    obtain ⟨v, u, h1, h2, h3⟩ := h d q
    exact pe_imp (pe_glob hg h1 h2 hd) fun σ H Q ⟨ρ, G, s, r, en, h⟩ => h.here r (h3 _ _ _)

theorem le_bin (o : PK.Bo) (w : Bool) (ha : LE X lk a ea) (hb : LE X lk b eb) : LE X lk (.BinOp a (opOf o) b pos) (fun s G => (ea s G).bind fun x G1 => (eb s G1).bind fun y G2 => PK.binD o w x y G2) :=
  pe_imp (pe_op (op_bin o) ha hb) fun σ H Q ⟨ρ, G, s, r, en, h⟩ => ⟨ρ, G, s, r, en, h.bind fun v G1 _ ρ1 H1 x e1 r1 p1 h1 => ⟨ρ1, G1, s, r1, en.ext e1, h1.bind fun u G2 _ ρ2 H2 y e2 r2 p2 h2 =>
    bin_val o r2 (Rep.ext e2 _ _ p1) p2 h2⟩⟩
theorem le_neg (ha : LE X lk a ea) : LE X lk (.UnaryOp .USub a pos) (fun s G => (ea s G).bind fun x G1 => PK.negD x G1) :=
  pe_imp (pe_un un_neg ha) fun σ H Q ⟨ρ, G, s, r, en, h⟩ => ⟨ρ, G, s, r, en, h.bind fun v G1 _ ρ1 H1 x e1 r1 p1 h1 => by
    cases v with
    | int i => exact ⟨i, p1, OutE.here h1 r1 rfl⟩
    | _ => exact False.elim h1⟩
theorem le_cmp (hu : X.A.units + 64 < cLine) (o : PK.Co) (hm : behindInMarks (cmOf o) b = false) (ha : LE X lk a ea) (hb : LE X lk b eb) :
    LE X lk (.Compare a [cmOf o] [b] pos) (fun s G => (ea s G).bind fun x G1 => (eb s G1).bind fun y G2 => PK.cmpD o x y G2) :=
  pe_imp (pe_cmpR (op_cmp hu o) ha hb hm) fun σ H Q ⟨ρ, G, s, r, en, h⟩ => ⟨ρ, G, s, r, en, h.bind fun v G1 _ ρ1 H1 x e1 r1 p1 h1 => ⟨ρ1, G1, s, r1, en.ext e1, h1.bind fun u G2 _ ρ2 H2 y e2 r2 p2 h2 =>
    cmp_val o r2 (Rep.ext e2 _ _ p1) p2 h2⟩⟩
theorem OutT.cmp {K : PySem.W.Frag} {σ : L2.St} {ρ : Nm} {G : Cells} {H : Hp} {o : PK.Co} {w : World} {v u : PK.D} {x y : V} {Q : Bool → Hp → Prop} (r : Rel K lk ρ G H) (p : Rep K lk ρ G.length H v x) (p' : Rep K lk ρ G.length H u y)
    (h : OutT K lk W σ ρ G H (PK.cmpD o v u G) Q) : rCmp K w o x y H (fun z H' => ∃ k, z = .bl k ∧ Q k H') := by
  refine cmp_val (W := W) (σ := σ) o r p p' ?_
  cases q : PK.cmpD o v u G with
  | ok z G' =>
    rw [q] at h
    obtain ⟨b, rfl, h⟩ := h
    exact fun ρ' H' x e r' p' => ⟨b, p', h ρ' H' e r'⟩
  | exc c G' => rw [q] at h; exact h
  | bad => rw [q] at h; exact h
theorem lt_cmp (hu : X.A.units + 64 < cLine) (o : PK.Co) (hm : behindInMarks (cmOf o) b = false) (ha : LE X lk a ea) (hb : LE X lk b eb) :
    LT X lk (.Compare a [cmOf o] [b] pos) (fun s G => (ea s G).bind fun x G1 => (eb s G1).bind fun y G2 => PK.cmpD o x y G2) :=
  pt_imp (pt_cmpR (op_cmp hu o) ha hb hm) fun σ H Q ⟨ρ, G, s, r, en, h⟩ => ⟨ρ, G, s, r, en, h.bind fun v G1 _ ρ1 H1 x e1 r1 p1 h1 => ⟨ρ1, G1, s, r1, en.ext e1, h1.bind fun u G2 _ ρ2 H2 y e2 r2 p2 h2 =>
    OutT.cmp r2 (Rep.ext e2 _ _ p1) p2 h2⟩⟩
def chainE (o o' : PK.Co) (ea eb ec : Ev) : Ev := fun s G => (ea s G).bind fun x G1 => (eb s G1).bind fun y G2 => (PK.cmpD o x y G2).bind fun z G3 =>
    PK.blK z (fun t => PK.iteK t (fun _ => (ec s G3).bind fun u G4 => PK.cmpD o' y u G4) fun _ => .ok (.bl false) G3) .bad
theorem blK_bad {v : PK.D} {f : Bool → PK.R} {t} (h : ∀ b, v ≠ .bl b) : PK.blK v f .bad t = .bad := by cases v <;> first | rfl | exact absurd rfl (h _)
theorem cmp_then {K : PySem.W.Frag} {σ : L2.St} {ρ : Nm} {G : Cells} {H : Hp} {o : PK.Co} {w : World} {v u : PK.D} {x y : V} {f : PK.D → Cells → PK.R} {Q Q1 : VK} (r : Rel K lk ρ G H) (p : Rep K lk ρ G.length H v x) (p' : Rep K lk ρ G.length H u y)
    (h : OutE K lk W σ ρ G H ((PK.cmpD o v u G).bind f) Q) (hf : ∀ z G1, (∀ b, z ≠ .bl b) → f z G1 = .bad)
    (k : ∀ b G1 ρ1 H1, Ext ρ G.length H ρ1 G1.length H1 → Rel K lk ρ1 G1 H1 → OutE K lk W σ ρ1 G1 H1 (f (.bl b) G1) Q → Q1 (.bl b) H1) : rCmp K w o x y H Q1 := by
  refine cmp_val (W := W) (σ := σ) o r p p' (h.bind fun z G1 _ ρ1 H1 x e1 r1 p1 h1 => ?_)
  cases z with
  | bl b => rw [show x = V.bl b from p1]; exact k b G1 ρ1 H1 e1 r1 h1
  | _ => rw [hf _ _ (fun _ z => by cases z)] at h1; exact h1.elim
theorem le_chain (hu : X.A.units + 64 < cLine) (o o' : PK.Co) (hm : lastMarks [cmOf o, cmOf o'] [b, c] = false) (ha : LE X lk a ea) (hb : LE X lk b eb) (hc : LE X lk c ec) :
    LE X lk (.Compare a [cmOf o, cmOf o'] [b, c] pos) (chainE o o' ea eb ec) :=
  pe_imp (pe_chain (op_cmp hu o) (op_cmp hu o') ha hb hc hm) fun σ H Q ⟨ρ, G, s, r, en, h⟩ => ⟨ρ, G, s, r, en, OutE.bind h fun v G1 _ ρ1 H1 x e1 r1 p1 h1 => ⟨ρ1, G1, s, r1, en.ext e1, h1.bind fun u G2 _ ρ2 H2 y e2 r2 p2 h2 => by
    refine cmp_then r2 (Rep.ext e2 _ _ p1) p2 h2 (fun _ _ z => blK_bad z) fun b G3 ρ3 H3 e3 r3 h3 => ⟨b, rfl, ?_⟩
    cases b with
    | true => exact ⟨ρ3, G3, s, r3, (en.ext e1).ext (e2.trans e3), OutE.bind (t := .mk) h3 fun u' G4 _ ρ4 H4 y' e4 r4 p4 h4 => cmp_val o' r4 (Rep.ext (e3.trans e4) _ _ p2) p4 h4⟩
    | false => exact OutE.here h3 r3 rfl⟩⟩
theorem OutT.toE {K : PySem.W.Frag} {σ : L2.St} {ρ : Nm} {G : Cells} {H : Hp} {r : PK.R} {Q : Bool → Hp → Prop} (h : OutT K lk W σ ρ G H r Q) : OutE K lk W σ ρ G H r (fun z H' => ∃ k, z = .bl k ∧ Q k H') := by
  cases r with
  | ok z G' =>
    obtain ⟨b, rfl, h⟩ := h
    exact fun ρ' H' x e r' p' => ⟨b, p', h ρ' H' e r'⟩
  | exc c G' => exact h
  | bad => exact h
theorem lt_chain (hu : X.A.units + 64 < cLine) (o o' : PK.Co) (hm : lastMarks [cmOf o, cmOf o'] [b, c] = false) (ha : LE X lk a ea) (hb : LE X lk b eb) (hc : LE X lk c ec) :
    LT X lk (.Compare a [cmOf o, cmOf o'] [b, c] pos) (chainE o o' ea eb ec) :=
  pt_imp (pt_chain (op_cmp hu o) (op_cmp hu o') ha hb hc hm) fun σ H Q ⟨ρ, G, s, r, en, h⟩ => ⟨ρ, G, s, r, en, OutE.bind (OutT.toE h) fun v G1 _ ρ1 H1 x e1 r1 p1 h1 => ⟨ρ1, G1, s, r1, en.ext e1, h1.bind fun u G2 _ ρ2 H2 y e2 r2 p2 h2 => by
    refine cmp_then r2 (Rep.ext e2 _ _ p1) p2 h2 (fun _ _ z => blK_bad z) fun b G3 ρ3 H3 e3 r3 h3 => ⟨b, rfl, ?_⟩
    cases b with
    | true => exact ⟨ρ3, G3, s, r3, (en.ext e1).ext (e2.trans e3), OutE.bind (t := .mk) h3 fun u' G4 _ ρ4 H4 y' e4 r4 p4 h4 => cmp_val o' r4 (Rep.ext (e3.trans e4) _ _ p2) p4 h4⟩
    | false => exact OutE.here h3 r3 rfl⟩⟩

def andE (ea eb : Ev) : Ev := fun s G => (ea s G).bind fun x G1 => PK.blK x (fun t => PK.iteK t (fun _ => eb s G1) fun _ => .ok (.bl false) G1) .bad
def orE (ea eb : Ev) : Ev := fun s G => (ea s G).bind fun x G1 => PK.blK x (fun t => PK.iteK t (fun _ => .ok (.bl true) G1) fun _ => eb s G1) .bad
def notE (ea : Ev) : Ev := fun s G => (ea s G).bind fun x G1 => PK.blK x (fun t => .ok (.bl (!t)) G1) .bad
def iteE (et ea eb : Ev) : Ev := fun s G => (et s G).bind fun x G1 => PK.blK x (fun t => PK.iteK t (fun _ => ea s G1) fun _ => eb s G1) .bad
theorem bl_of {K : PySem.W.Frag} {σ : L2.St} {ρ : Nm} {G : Cells} {H : Hp} {v : PK.D} {x : V} {f : Bool → PK.R} {Q : VK} {t} (p : Rep K lk ρ G.length H v x) (h : OutE K lk W σ ρ G H (PK.blK v f .bad t) Q) : ∃ b, x = .bl b ∧ OutE K lk W σ ρ G H (f b) Q := by
  cases v with
  | bl b => exact ⟨b, p, h⟩
  | _ => exact False.elim h
theorem le_and {rest : List Expr} (ha : LE X lk a ea) (hb : LE X lk (.BoolOp .And (b :: rest) pos) eb) : LE X lk (.BoolOp .And (a :: b :: rest) pos) (andE ea eb) :=
  pe_imp (pe_and ha hb) fun σ H Q ⟨ρ, G, s, r, en, h⟩ => ⟨ρ, G, s, r, en, OutE.bind h fun v G1 _ ρ1 H1 x e1 r1 p1 h1 => by
    obtain ⟨b, hx, h1⟩ := bl_of p1 h1
    refine ⟨b, hx, ?_⟩
    cases b with
    | true => rw [if_pos rfl]; exact ⟨ρ1, G1, s, r1, en.ext e1, h1⟩
    | false => rw [if_neg Bool.false_ne_true]; exact OutE.here h1 r1 rfl⟩
theorem le_or {rest : List Expr} (ha : LE X lk a ea) (hb : LE X lk (.BoolOp .Or (b :: rest) pos) eb) : LE X lk (.BoolOp .Or (a :: b :: rest) pos) (orE ea eb) :=
  pe_imp (pe_or ha hb) fun σ H Q ⟨ρ, G, s, r, en, h⟩ => ⟨ρ, G, s, r, en, OutE.bind h fun v G1 _ ρ1 H1 x e1 r1 p1 h1 => by
    obtain ⟨b, hx, h1⟩ := bl_of p1 h1
    refine ⟨b, hx, ?_⟩
    cases b with
    | true => rw [if_pos rfl]; exact OutE.here h1 r1 rfl
    | false => rw [if_neg Bool.false_ne_true]; exact ⟨ρ1, G1, s, r1, en.ext e1, h1⟩⟩
theorem le_not (ha : LE X lk a ea) : LE X lk (.UnaryOp .Not a pos) (notE ea) :=
  pe_imp (pe_not ha) fun σ H Q ⟨ρ, G, s, r, en, h⟩ => ⟨ρ, G, s, r, en, OutE.bind h fun v G1 _ ρ1 H1 x e1 r1 p1 h1 => by
    obtain ⟨b, hx, h1⟩ := bl_of p1 h1
    exact ⟨b, hx, OutE.here h1 r1 rfl⟩⟩
theorem le_ite (hc : LT X lk c ec) (ha : LE X lk a ea) (hb : LE X lk b eb) : LE X lk (.IfExp c a b pos) (iteE ec ea eb) :=
  pe_imp (pe_ifExp hc ha hb) fun σ H Q ⟨ρ, G, s, r, en, h⟩ => ⟨ρ, G, s, r, en, OutE.bindT h (fun _ _ z => blK_bad z) fun b G1 _ ρ1 H1 e1 r1 h1 => by
    cases b with
    | true => exact ⟨ρ1, G1, s, r1, en.ext e1, h1⟩
    | false => exact ⟨ρ1, G1, s, r1, en.ext e1, h1⟩⟩
theorem OutT.bindT {K : PySem.W.Frag} {σ : L2.St} {ρ : Nm} {G : Cells} {H : Hp} {r : PK.R} {f : Bool → Cells → PK.R} {Q Q1 : Bool → Hp → Prop} (h : OutT K lk W σ ρ G H (r.bind (fun x G1 => PK.blK x (fun b => f b G1) .bad)) Q)
    (k : ∀ b G1, ∀ ρ1 H1, Ext ρ G.length H ρ1 G1.length H1 → Rel K lk ρ1 G1 H1 → OutT K lk W σ ρ1 G1 H1 (f b G1) Q → Q1 b H1) : OutT K lk W σ ρ G H r Q1 := by
  cases r with
  | ok v G1 =>
    cases v with
    | bl b => exact ⟨b, rfl, fun ρ1 H1 e1 r1 => k b G1 ρ1 H1 e1 r1 (OutT.ext e1 h)⟩
    | _ => exact False.elim h
  | exc c G' => exact h
  | bad => exact h
theorem OutT.here {K : PySem.W.Frag} {σ : L2.St} {ρ : Nm} {G : Cells} {H : Hp} {b : Bool} {Q : Bool → Hp → Prop} (h : OutT K lk W σ ρ G H (.ok (.bl b) G) Q) (r : Rel K lk ρ G H) : Q b H := by
  obtain ⟨b', e, h⟩ := h
  cases e
  exact h ρ H Ext.refl r
theorem lw_and {rest : List Expr} (ha : LT X lk a ea) (hb : LW X lk (.BoolOp .And (b :: rest) pos) eb) : LW X lk (.BoolOp .And (a :: b :: rest) pos) (andE ea eb) :=
  pw_imp (pw_and ha hb) fun σ H Q ⟨ρ, G, s, r, en, h⟩ => ⟨ρ, G, s, r, en, OutT.bindT h fun b G1 ρ1 H1 e1 r1 h1 => by
    cases b with
    | true => rw [if_pos rfl]; exact ⟨ρ1, G1, s, r1, en.ext e1, h1⟩
    | false => rw [if_neg Bool.false_ne_true]; exact OutT.here h1 r1⟩
theorem lw_or {rest : List Expr} (ha : LT X lk a ea) (hb : LW X lk (.BoolOp .Or (b :: rest) pos) eb) : LW X lk (.BoolOp .Or (a :: b :: rest) pos) (orE ea eb) :=
  pw_imp (pw_or ha hb) fun σ H Q ⟨ρ, G, s, r, en, h⟩ => ⟨ρ, G, s, r, en, OutT.bindT h fun b G1 ρ1 H1 e1 r1 h1 => by
    cases b with
    | true => rw [if_pos rfl]; exact OutT.here h1 r1
    | false => rw [if_neg Bool.false_ne_true]; exact ⟨ρ1, G1, s, r1, en.ext e1, h1⟩⟩
theorem lt_not (ha : LT X lk a ea) : LT X lk (.UnaryOp .Not a pos) (notE ea) :=
  pt_imp (pt_not ha) fun σ H Q ⟨ρ, G, s, r, en, h⟩ => ⟨ρ, G, s, r, en, OutT.bindT (f := fun t G1 => .ok (.bl (!t)) G1) h fun b G1 ρ1 H1 e1 r1 h1 => OutT.here h1 r1⟩
theorem lt_val (ha : LE X lk a ea) (he : ∀ whole, isTrue a X.env whole = (do let v ← whole; standAt a.pos; holding [v] (truthy v))) : LT X lk a ea :=
  pt_imp (pt_val ha he) fun σ H Q ⟨ρ, G, s, r, en, h⟩ => ⟨ρ, G, s, r, en, OutT.toE h⟩

theorem la_nil : LA X lk [] (fun _ G => .ok (.tup []) G) := pa_imp pa_nil fun σ H Q ⟨ρ, G, s, r, en, h⟩ => h ρ H [] Ext.refl r ⟨[], rfl, rfl⟩
theorem la_cons {er : Ev} (ha : LE X lk a ea) (hr : LA X lk es er) (hs : starEach (a :: es) X.env = (false, eval a X.env) :: starEach es X.env) :
    LA X lk (a :: es) (fun s G => (ea s G).bind fun x G1 => (er s G1).bind fun xs G2 => PK.tupK xs (fun ds => .ok (.tup (x :: ds)) G2) .bad) :=
  pa_imp (pa_cons ha hr hs) fun σ H Q ⟨ρ, G, s, r, en, h⟩ => by
    refine ⟨ρ, G, s, r, en, ?_⟩
    have h : OutA X.K lk (WXo X) σ ρ G H ((ea s G).bind fun x G1 => (er s G1).bind fun xs G2 => PK.tupK xs (fun ds => .ok (.tup (x :: ds)) G2) .bad) Q := h
    cases q : ea s G with
    | ok v G1 =>
      rw [q] at h
      intro ρ1 H1 x e1 r1 p1
      refine ⟨ρ1, G1, s, r1, en.ext e1, ?_⟩
      have h : OutA X.K lk (WXo X) σ ρ G H ((er s G1).bind fun xs G2 => PK.tupK xs (fun ds => .ok (.tup (v :: ds)) G2) .bad) Q := h
      have h := OutA.ext e1 h
      cases q2 : er s G1 with
      | ok u G2 =>
        rw [q2] at h
        intro ρ2 H2 xs e2 r2 ⟨ds, eu, p2⟩
        subst eu
        exact h ρ2 H2 (x :: xs) e2 r2 ⟨v :: ds, rfl, x, xs, rfl, Rep.ext e2 _ _ p1, p2⟩
      | exc c G' => rw [q2] at h; exact h
      | bad => rw [q2] at h; exact h
    | exc c G' => rw [q] at h; exact h
    | bad => rw [q] at h; exact h
def thenA (er : Ev) (f : List PK.D → Cells → PK.R) : Ev := fun s G => (er s G).bind fun x G1 => PK.tupK x (fun ds => f ds G1) .bad
theorem OutE.args {K : PySem.W.Frag} {σ : L2.St} {ρ : Nm} {G : Cells} {H : Hp} {r : PK.R} {f : List PK.D → Cells → PK.R} {Q : VK} {Q1 : List V → Hp → Prop} (h : OutE K lk W σ ρ G H (r.bind (fun x G1 => PK.tupK x (fun ds => f ds G1) .bad)) Q)
    (k : ∀ ds G1, ∀ ρ1 H1 xs, Ext ρ G.length H ρ1 G1.length H1 → Rel K lk ρ1 G1 H1 → Reps K lk ρ1 G1.length H1 ds xs → OutE K lk W σ ρ1 G1 H1 (f ds G1) Q → Q1 xs H1) : OutA K lk W σ ρ G H r Q1 := by
  cases r with
  | ok v G1 =>
    intro ρ1 H1 xs e1 r1 ⟨ds, hv, p1⟩
    subst hv
    exact k ds G1 ρ1 H1 xs e1 r1 p1 (OutE.ext e1 h)
  | exc c G' => exact h
  | bad => exact h
theorem len_of {K : PySem.W.Frag} {ρ : Nm} {G : Cells} {H : Hp} {ds : List PK.D} {xs : List V} (p : Reps K lk ρ G.length H ds xs) (h : ds.length ≤ 1000000) : xs.length ≤ sizeLine := by
  rw [← p.length]; exact Nat.le_trans h (by rw [sizeLine_eq]; decide)
theorem le_tup {er : Ev} (ha : LA X lk es er) (hl : ∀ s G ds G', er s G = .ok (.tup ds) G' → ds.length ≤ 1000000) (hv : ∀ s G v G', er s G = .ok v G' → ∃ ds, v = .tup ds) : LE X lk (.Tuple es k pos) er :=
  pe_imp (pe_tup ha) fun σ H Q ⟨ρ, G, s, r, en, h⟩ => by
    refine ⟨ρ, G, s, r, en, ?_⟩
    cases q : er s G with
    | ok v G1 =>
      rw [q] at h
      obtain ⟨ds, rfl⟩ := hv _ _ _ _ q
      intro ρ1 H1 xs e1 r1 ⟨ds', e, p1⟩
      cases e
      exact ⟨len_of p1 (hl _ _ _ _ q), OutE.tup (OutE.ext e1 h) r1 p1⟩
    | exc c G' => rw [q] at h; exact h
    | bad => rw [q] at h; exact h
theorem le_lst {er : Ev} (w : Bool) (ha : LA X lk es er) (hl : ∀ s G ds G', er s G = .ok (.tup ds) G' → ds.length ≤ 1000000) : LE X lk (.List es pos) (thenA er fun ds G => PK.mkl w ds G) :=
  pe_imp (pe_lst ha) fun σ H Q ⟨ρ, G, s, r, en, h⟩ => by
    refine ⟨ρ, G, s, r, en, ?_⟩
    have h : OutE X.K lk (WXo X) σ ρ G H ((er s G).bind fun x G1 => PK.tupK x (fun ds => PK.mkl w ds G1) .bad) Q := h
    cases q : er s G with
    | ok v G1 =>
      rw [q] at h
      intro ρ1 H1 xs e1 r1 ⟨ds', e, p1⟩
      subst e
      exact ⟨len_of p1 (hl _ _ _ _ q), OutE.mkl (OutE.ext e1 h) r1 p1⟩
    | exc c G' => rw [q] at h; exact h
    | bad => rw [q] at h; exact h
theorem le_ix (hu : X.A.units + 1 < cLine) (hs : PlainIx b) (ha : LE X lk a ea) (hb : LE X lk b eb) : LE X lk (.Subscript a b pos) (fun s G => (ea s G).bind fun x G1 => (eb s G1).bind fun y G2 => PK.ixD x y G2) :=
  pe_imp (pe_ix (ix_all hu) ha hb hs) fun σ H Q ⟨ρ, G, s, r, en, h⟩ => ⟨ρ, G, s, r, en, h.bind fun v G1 _ ρ1 H1 x e1 r1 p1 h1 => ⟨ρ1, G1, s, r1, en.ext e1, h1.bind fun u G2 _ ρ2 H2 y e2 r2 p2 h2 =>
    ix_val r2 (Rep.ext e2 _ _ p1) p2 h2⟩⟩
theorem le_rev (w : Bool) (ha : LE X lk a ea) : LE X lk (.Subscript a (.Slice none none (some (.UnaryOp .USub (.Constant (.int 1) k p1) p2)) p3) pos) (fun s G => (ea s G).bind fun x G1 => PK.revD w x G1) :=
  pe_imp (pe_revL ha) fun σ H Q ⟨ρ, G, s, r, en, h⟩ => ⟨ρ, G, s, r, en, h.bind fun v G1 _ ρ1 H1 x e1 r1 p1 h1 => rev_val r1 p1 h1⟩
def OutP (K : PySem.W.Frag) (lk : Lk) (W : WX) (σ : L2.St) (ρ : Nm) (G : Cells) (H : Hp) (r : PK.R) (Q : Option Int → Hp → Prop) : Prop := match r with
  | .ok (.exc _) G' => ∀ ρ' H', Ext ρ G.length H ρ' G'.length H' → Rel K lk ρ' G' H' → Q none H'
  | .ok (.int i) G' => ∀ ρ' H', Ext ρ G.length H ρ' G'.length H' → Rel K lk ρ' G' H' → Q (some i) H'
  | .exc c G' => ∀ ρ' H', Ext ρ G.length H ρ' G'.length H' → Rel K lk ρ' G' H' → W (lk.EV c) (tnt c) σ H'
  | _ => False
def tPo (K : PySem.W.Frag) (lk : Lk) (W : WX) (el : Ev) : TO := fun σ H Q => ∃ ρ G s, Rel K lk ρ G H ∧ REnv K lk ρ G.length H s σ ∧ OutP K lk W σ ρ G H (el s G) Q
def PoL (X : Cx) (lk : Lk) (lo : Option Expr) (el : Ev) : Prop := (lo = none ∧ el = fun _ G => .ok (.exc 0) G) ∨ ∃ e, lo = some e ∧ LE X lk e el
theorem po_of {lo : Option Expr} {el : Ev} (h : PoL X lk lo el) : PO X lo (tPo X.K lk (WXo X) el) := by
  rcases h with ⟨rfl, rfl⟩ | ⟨e, rfl, h⟩
  · refine ⟨fun pins s σ H Q I hw => (po_none (X := X)).run pins s σ H Q I ?_⟩
    obtain ⟨ρ, G, s', r, en, h⟩ := hw
    exact h ρ H Ext.refl r
  · refine ⟨fun pins s σ H Q I hw => (po_some (X := X) h).run pins s σ H Q I ?_⟩
    obtain ⟨ρ, G, s', r, en, h⟩ := hw
    refine ⟨ρ, G, s', r, en, ?_⟩
    cases q : el s' G with
    | ok v G1 =>
      rw [q] at h
      cases v with
      | int i => exact fun ρ' H' x e' r' p' => ⟨i, p', h ρ' H' e' r'⟩
      | exc c => exact fun ρ' H' x e' r' p' => False.elim p'
      | _ => exact False.elim h
    | exc c G' => rw [q] at h; exact h
    | bad => rw [q] at h; exact h
theorem OutP.of {K : PySem.W.Frag} {σ : L2.St} {ρ : Nm} {G : Cells} {H : Hp} {r : PK.R} {f : PK.D → Cells → PK.R} {Q : VK} {Q1 : Option Int → Hp → Prop} (h : OutE K lk W σ ρ G H (r.bind f) Q) (hf : ∀ v G1, PK.partD v = none → f v G1 = .bad)
    (k : ∀ v l G1, PK.partD v = some l → ∀ ρ1 H1, Ext ρ G.length H ρ1 G1.length H1 → Rel K lk ρ1 G1 H1 → OutE K lk W σ ρ1 G1 H1 (f v G1) Q → Q1 l H1) : OutP K lk W σ ρ G H r Q1 := by
  cases r with
  | ok v G1 =>
    cases v with
    | int i => exact fun ρ1 H1 e1 r1 => k _ _ G1 rfl ρ1 H1 e1 r1 (OutE.ext e1 h)
    | exc c => exact fun ρ1 H1 e1 r1 => k _ _ G1 rfl ρ1 H1 e1 r1 (OutE.ext e1 h)
    | _ =>
      have h : OutE K lk W σ ρ G H (f _ G1) Q := h
      rw [hf _ _ rfl] at h; exact h.elim
  | exc c G' => exact h
  | bad => exact h
theorem slD_bad {w : Bool} {x l h : PK.D} {G : Cells} (q : PK.partD l = none ∨ PK.partD h = none) : PK.slD w x l h G = .bad := by
  unfold PK.slD
  rcases q with q | q
  · rw [q]
  · rw [q]; split <;> first | rfl | contradiction
theorem le_sl {lo hi : Option Expr} {el eh : Ev} (w : Bool) (ha : LE X lk a ea) (hl : PoL X lk lo el) (hh : PoL X lk hi eh) :
    LE X lk (.Subscript a (.Slice lo hi none p2) pos) (fun s G => (ea s G).bind fun x G1 => (el s G1).bind fun l G2 => PK.optK (PK.partD l) (fun _ => (eh s G2).bind fun h G3 => PK.slD w x l h G3) .bad) :=
  pe_imp (pe_slice (sl_all) ha (po_of hl) (po_of hh)) fun σ H Q ⟨ρ, G, s, r, en, h⟩ => ⟨ρ, G, s, r, en, h.bind fun v G1 _ ρ1 H1 x e1 r1 p1 h1 => ⟨ρ1, G1, s, r1, en.ext e1, by
    cases q : el s G1 with
    | ok l G2 =>
      rw [q] at h1
      have go : ∀ l' ρ2 H2, PK.partD l = some l' → OutE X.K lk (WXo X) σ ρ1 G1 H1 ((eh s G2).bind fun h G3 => PK.slD w v l h G3) Q → Ext ρ1 G1.length H1 ρ2 G2.length H2 → Rel X.K lk ρ2 G2 H2 → tPo X.K lk (WXo X) eh σ H2 fun u H3 => rSlAll X.K x l' u H3 Q := fun l' ρ2 H2 pl h1 e2 r2 =>
        ⟨ρ2, G2, s, r2, en.ext (e1.trans e2), OutP.of (OutE.ext e2 h1) (fun v G z => slD_bad (.inr z)) fun h' u G3 ph ρ3 H3 e3 r3 h3 => sl_val r3 (Rep.ext (e2.trans e3) _ _ p1) pl ph h3⟩
      cases l with
      | int i => exact fun ρ2 H2 e2 r2 => go _ ρ2 H2 rfl h1 e2 r2
      | exc c => exact fun ρ2 H2 e2 r2 => go _ ρ2 H2 rfl h1 e2 r2
      | _ => exact False.elim h1
    | exc c G' => rw [q] at h1; exact h1
    | bad => rw [q] at h1; exact h1⟩⟩
theorem le_dnew (t : Bool) : LE X lk (.Dict [] [] pos) (fun _ G => .ok (.ref G.length) (G ++ [if t then .dT [] else .dK []])) := by
  cases t with
  | true =>
    refine pe_imp pe_dnewT fun σ H Q ⟨ρ, G, s, r, en, h⟩ p hp => ?_
    have h : OutE X.K lk (WXo X) σ ρ G H (.ok (.ref G.length) (G ++ [.dT []])) Q := h
    refine h (nset ρ G.length p) _ _ ?_ (r.laid hp ⟨[], rfl, rfl, rfl⟩) ⟨by simp, by rw [nset_same]⟩
    rw [List.length_append]
    exact Ext.celled hp
  | false =>
    refine pe_imp pe_dnewK fun σ H Q ⟨ρ, G, s, r, en, h⟩ p hp => ?_
    have h : OutE X.K lk (WXo X) σ ρ G H (.ok (.ref G.length) (G ++ [.dK []])) Q := h
    refine h (nset ρ G.length p) _ _ ?_ (r.laid hp ⟨[], rfl, rfl, rfl⟩) ⟨by simp, by rw [nset_same]⟩
    rw [List.length_append]
    exact Ext.celled hp
end
end PKS
namespace PKS
open PySem PySem.Spec PyProof.Rows L2
structure RoomG (k : Nat) (A : Around) : Prop where
  r : Room k A
  g : A.guards = some []
theorem RoomG.mono {j k : Nat} {A : Around} (r : RoomG k A) (h : j ≤ k) : RoomG j A := ⟨r.r.mono h, r.g⟩
theorem RoomG.deeper {k : Nat} {A : Around} (r : RoomG (k + 1) A) (env : Env) : RoomG k (A.deeper env) := ⟨r.r.deeper env, r.g⟩
theorem make_guards {A : Around} {C : Addr} {us : List Value} {kw : List (Str × Value)} (h : A.guards = some []) : (A.under (.builtin "type.__call__" ⟨.ref C :: us, kw⟩)).guards = some [] := by
  first | exact h | simp [Around.under, Code.weight, Code.isCreation, Code.isGuard, Code.isCaller, Code.frames, Code.isFrame, guardIds, h]
theorem RoomG.make {k : Nat} {A : Around} (r : RoomG (k + 1) A) (C : Addr) (us : List Value) (kw : List (Str × Value)) : RoomG k (A.under (.builtin "type.__call__" ⟨.ref C :: us, kw⟩)) := ⟨r.r.make C us kw, make_guards r.g⟩
def CXm (P : Program) (w : World) : CXT := fun outer H s E u s' => L2N.CX P w outer H s (fun cls d H => d = none ∧ E cls none H) u s' ∨ L2.CX P w outer H s (fun cls d H => d = none ∧ E cls (some 0) H) u s'
theorem passM (X : Cx) (σ : L2.St) : PassesAt (CXm X.prog X.w) X σ (WE (WXo X) σ) := fun pins H s e s' I c => by
  rcases c with c | c
  · exact L2N.passAt (takes_n X) σ pins H s e s' I c
  · exact passAt (takes_z X) σ pins H s e s' I c
structure FnG (P : Program) (w : World) (K : PySem.W.Frag) (mg : Str → Option Value) (base : Heap) (k : Nat) (f : Addr) (fd : FuncData) (ps : List Str) (sp : Sp) : Prop where
  len : ∀ vs H Q E, sp vs H Q E → vs.length = ps.length
  run : ∀ (A : Around) (outer : List Env) (s : Shared) (H : Hp) (args : Args) (us : List Value) (vs : List V) (Q : VK) (E : XK), RoomG k A → Env0 P w K mg base A outer s H → BindsTo s fd args (ps.zip us) → Vals vs us → sp vs H Q E →
    codeAny (model P w) A (.call (.ref f) args) (CR (CXm P w) outer P w H s Q E) s
section
variable {X : Cx} {k : Nat} {f C : Addr} {fd : FuncData} {ps : List Str} {sp : Sp} {x m : Str} {p pos apos : Pos} {e o : Expr} {es : List Expr} {ta : TE} {t : TA} {E : XK}
theorem CR_back {pins : List (Addr × Obj)} {σ : L2.St} {H : Hp} {s : Shared} {Q : VK} {r : Result} {s' : Shared} (I : Inv X pins σ H s) (hq : CR (CXm X.prog X.w) X.stack X.prog X.w H s Q E0 r s') : match r with
    | .ok (.ret u) => EP X pins σ Q u s'
    | _ => False := by
  cases r with
  | error e =>
    rcases hq with ⟨_, _, _, _, _, _, _, _, _, _, _, _, z⟩ | ⟨_, _, _, _, _, _, _, _, _, _, _, _, z⟩
    · exact False.elim z.2
    · exact False.elim z.2
  | ok fl =>
    cases fl with
    | ret u => exact I.after hq
    | _ => exact hq
theorem run_G {pins : List (Addr × Obj)} {σ : L2.St} {H : Hp} {s : Shared} {Q : VK} {us : List Value} {vs : List V} (F : FnG X.prog X.w X.K X.mg X.base k f fd ps sp) (hr : RoomG k X.A) (hb : Binds X.K fd ps [])
    (I : Inv X pins σ H s) (r : Vals vs us) (h : sp vs H Q (WE (WXo X) σ)) : wpAny (model X.prog X.w) X.A (call (.ref f) us) (EP X pins σ Q) X.xe s := by
  have hl : (us ++ []).length = ps.length := by rw [List.append_nil, ← r.length]; exact F.len _ _ _ _ h
  refine wpAny_call (codeAny_mono (F.run X.A X.stack s H ⟨us, []⟩ (us ++ []) vs Q _ hr I.env0 (hb s us I.kIn hl) (by rw [List.append_nil]; exact r) h) fun r' s' hq => ?_)
  cases r' with
  | error e => exact passM X σ pins H s e s' I hq
  | ok fl =>
    cases fl with
    | ret u => exact I.after hq
    | _ => exact False.elim hq
def tCl (X : Cx) (sp : Sp) (t : TA) : TE := fun σ H Q => t σ H fun vs H1 => sp vs H1 Q (WE (WXo X) σ)
theorem pe_callG (F : FnG X.prog X.w X.K X.mg X.base k f fd ps sp) (hr : RoomG k X.A) (hg : Gl X x) (hm : X.mg x = some (.ref f)) (hk : PySem.W.keepIn X.K (.ref f) = true) (hb : Binds X.K fd ps [])
    (ha : PA X (e :: es) t) (hdb : (x == ("__debug__" : Str)) = false) (he : starEach (e :: es) X.env = (false, eval e X.env) :: starEach es X.env) (hpl : (backTo pos (starEach es X.env)).any (·.1) = false) :
    PE X (.Call (.Name x p) (e :: es) [] pos) (tCl X sp t) := by
  refine ⟨fun pins s σ H Q I h => wpAny_Call_Name_kw (ld_glob I hg hm ?_ hdb)⟩
  refine PySem.W.callWith_K (h₀ := X.base) I.ok.mod.kin hk (thn (ha.run pos pins s σ H _ I h) fun us s1 ⟨vs, H1, I1, r, q⟩ => ⟨I1.kIn, ?_⟩) he hpl
  exact run_G F hr hb I1 r q
theorem pe_callG0 (F : FnG X.prog X.w X.K X.mg X.base k f fd ps sp) (hr : RoomG k X.A) (hg : Gl X x) (hm : X.mg x = some (.ref f)) (hk : PySem.W.keepIn X.K (.ref f) = true) (hb : Binds X.K fd ps [])
    (hdb : (x == ("__debug__" : Str)) = false) : PE X (.Call (.Name x p) [] [] pos) (tCl X sp tNil) :=
  ⟨fun pins s σ H Q I h => wpAny_Call_Name_kw (ld_glob I hg hm (PySem.W.callWith_K0 I.kIn hk (run_G (us := []) F hr hb I .nil h)) hdb)⟩
def tMe (X : Cx) (C : Addr) (m : Str) (sp : Sp) (ta : TE) (t : TA) : TE := fun σ H Q => ta σ H fun x H1 => ∃ a dx fs, x = .ref a ∧ H1 a = some (.ins C dx fs) ∧ fs.lookup m = none ∧ t σ H1 fun vs H2 => sp (x :: vs) H2 Q (WE (WXo X) σ)
theorem pe_methG (he : PE X o ta) (c : Cls X.K C) (hm : Meth X.K C m f) (F : FnG X.prog X.w X.K X.mg X.base k f fd ps sp) (hr : RoomG k X.A) (hb : Binds X.K fd ps []) (ha : PA X (e :: es) t)
    (hst : starEach (e :: es) X.env = (false, eval e X.env) :: starEach es X.env) (hpl : (backTo pos (starEach es X.env)).any (·.1) = false)
    (ht : eval (.Call (.Attribute o m apos) (e :: es) [] pos) X.env = (do
      let ov ← eval o X.env
      standAt apos.atName
      let (f, first) ← holding [ov] (getMethod ov m (plainOf o X.env))
      callWith pos f first (backTo pos (starEach (e :: es) X.env)) (backToKw pos (keywordEach [] X.env)))) :
    PE X (.Call (.Attribute o m apos) (e :: es) [] pos) (tMe X C m sp ta t) := by
  refine ⟨fun pins s σ H Q I h => PySem.W.methodCall_KW (pl := plainOf o X.env) (thn (he.run pins s σ H _ I h) fun u s1 ⟨x, H1, I1, rx, a, dx, fs, ex, ea, l, q⟩ => ?_) ht⟩
  subst ex
  obtain rfl : u = Value.ref a := rx
  refine getmeth_ok I1 ea c hm l (PySem.W.callWith_K (first := [.ref a]) (h₀ := X.base) I.ok.mod.kin hm.kp (thn (ha.run pos pins s1 σ H1 _ I1 q) fun us s2 ⟨vs, H2, I2, r, q2⟩ => ⟨I2.kIn, ?_⟩) hst hpl)
  exact run_G (us := .ref a :: us) (vs := .ref a :: vs) F hr hb I2 (.cons rfl r) q2
theorem pe_methG0 (he : PE X o ta) (c : Cls X.K C) (hm : Meth X.K C m f) (F : FnG X.prog X.w X.K X.mg X.base k f fd ps sp) (hr : RoomG k X.A) (hb : Binds X.K fd ps [])
    (ht : eval (.Call (.Attribute o m apos) [] [] pos) X.env = (do
      let ov ← eval o X.env
      standAt apos.atName
      let (f, first) ← holding [ov] (getMethod ov m (plainOf o X.env))
      callWith pos f first (backTo pos (starEach [] X.env)) (backToKw pos (keywordEach [] X.env)))) :
    PE X (.Call (.Attribute o m apos) [] [] pos) (tMe X C m sp ta tNil) := by
  refine ⟨fun pins s σ H Q I h => PySem.W.methodCall_KW (pl := plainOf o X.env) (thn (he.run pins s σ H _ I h) fun u s1 ⟨x, H1, I1, rx, a, dx, fs, ex, ea, l, q⟩ => ?_) ht⟩
  subst ex
  obtain rfl : u = Value.ref a := rx
  exact getmeth_ok I1 ea c hm l (PySem.W.callWith_K0 (first := [.ref a]) I1.kIn hm.kp (run_G (us := [.ref a]) (vs := [.ref a]) F hr hb I1 (.cons rfl .nil) q))
def tMk (X : Cx) (C : Addr) (sp : Sp) (t : TA) : TE := fun σ H Q => t σ H fun vs H1 => ∀ x dx, H1 x = none → H1 dx = none → dx ≠ x → sp (.ref x :: vs) (upd (upd H1 dx (.own x)) x (.ins C dx [])) (fun v H2 => v = .non ∧ Q (.ref x) H2) (WE (WXo X) σ)
theorem run_mkG {pins : List (Addr × Obj)} {σ : L2.St} {H : Hp} {s : Shared} {Q : VK} {us : List Value} {vs : List V} (M : Mk X.K C f) (F : FnG X.prog X.w X.K X.mg X.base k f fd ps sp) (hr : RoomG (k + 1) X.A) (hb : Binds X.K fd ps [])
    (I : Inv X pins σ H s) (r : Vals vs us)
    (h : ∀ x dx, H x = none → H dx = none → dx ≠ x → sp (.ref x :: vs) (upd (upd H dx (.own x)) x (.ins C dx [])) (fun v H2 => v = .non ∧ Q (.ref x) H2) (WE (WXo X) σ)) :
    wpAny (model X.prog X.w) X.A (call (.ref C) us) (EP X pins σ Q) X.xe s := by
  let n := s.heap.objs.size
  have hq := h (n + 1) n (I.hok.fresh (Nat.le_succ _)) (I.hok.fresh (Nat.le_refl _)) (Nat.ne_of_lt (Nat.lt_succ_self _))
  have I2 := Inv.made (C := C) I
  have r2 : Vals (V.ref (n + 1) :: vs) (Value.ref (n + 1) :: us) := .cons rfl r
  have hl : (Value.ref (n + 1) :: us ++ []).length = ps.length := by
    rw [List.append_nil]
    exact r2.length.symm.trans (F.len _ _ _ _ hq)
  have hb2 := hb _ (Value.ref (n + 1) :: us) I2.kIn hl
  rw [List.append_nil] at hb2
  refine wpAny_call (make_map (f := f) I.kIn M.makes M.init (beq_iff_eq.mp M.fn) (codeAny_mono (F.run _ X.stack _ _ ⟨Value.ref (n + 1) :: us, []⟩ (Value.ref (n + 1) :: us) _ _ _ (hr.make C us []) (I2.env0.make C us []) hb2 r2 hq) fun r' s' hq' => ?_))
  cases r' with
  | error e => exact passM X σ _ _ _ e s' I2 hq'
  | ok fl =>
    cases fl with
    | ret u =>
      obtain ⟨v, H', I3, rv, ev, q3⟩ := I2.after hq'
      subst ev
      exact ⟨rv, ⟨V.ref (n + 1), H', I3, rfl, q3⟩⟩
    | _ => exact False.elim hq'
theorem pe_mkG (M : Mk X.K C f) (F : FnG X.prog X.w X.K X.mg X.base k f fd ps sp) (hr : RoomG (k + 1) X.A) (hg : Gl X x) (hm : X.mg x = some (.ref C)) (hb : Binds X.K fd ps [])
    (ha : PA X (e :: es) t) (hdb : (x == ("__debug__" : Str)) = false) (he : starEach (e :: es) X.env = (false, eval e X.env) :: starEach es X.env) (hpl : (backTo pos (starEach es X.env)).any (·.1) = false) :
    PE X (.Call (.Name x p) (e :: es) [] pos) (tMk X C sp t) := by
  refine ⟨fun pins s σ H Q I h => wpAny_Call_Name_kw (ld_glob I hg hm ?_ hdb)⟩
  exact PySem.W.callWith_K (h₀ := X.base) I.ok.mod.kin M.kp (thn (ha.run pos pins s σ H _ I h) fun us s1 ⟨vs, H1, I1, r, q⟩ => ⟨I1.kIn, run_mkG M F hr hb I1 r q⟩) he hpl
theorem pe_mkG0 (M : Mk X.K C f) (F : FnG X.prog X.w X.K X.mg X.base k f fd ps sp) (hr : RoomG (k + 1) X.A) (hg : Gl X x) (hm : X.mg x = some (.ref C)) (hb : Binds X.K fd ps [])
    (hdb : (x == ("__debug__" : Str)) = false) : PE X (.Call (.Name x p) [] [] pos) (tMk X C sp tNil) :=
  ⟨fun pins s σ H Q I h => wpAny_Call_Name_kw (ld_glob I hg hm (PySem.W.callWith_K0 I.kIn M.kp (run_mkG (us := []) M F hr hb I .nil h)) hdb)⟩
end

section
variable {P : Program} {w : World} {K : PySem.W.Frag} {mg : Str → Option Value} {base : Heap} {f : Addr} {name qual : Str} {params : Arguments} {body : List Stmt} {scope : Scope} {dV kV doc pm cdv ct oc : Value} {an od : Option Addr}
  {osl : Array (Option Value)} {N ps : List Str} {A : Around} {outer : List Env} {s : Shared} {H : Hp} {args : Args} {us : List Value} {Q : VK} {X : Cx} {D : Ends}
theorem frame_run (lk : K.lookup f = some ⟨oc, od, .func (PySem.W.fnOf name qual params body scope dV kV doc pm an cdv ct), osl⟩) (hcd : PySem.W.codeIn K cdv qual = true) (S : FnScope N ps scope) (hd : A.depth < recursionLimit) (e0 : Env0 P w K mg base A outer s H)
    (hb : BindsTo s (PySem.W.fnOf name qual params body scope dV kV doc pm an cdv ct) args (ps.zip us)) {R : Result → Shared → Prop}
    (k : ∀ s1, InCallC s s.heap.objs.size (bindL (envOfC qual scope s.heap.objs.size f cdv).kindOf (ps.zip us) fun _ => none) (cellsFrom (s.heap.objs.size + 1) scope.names []) (bindC (envOfC qual scope s.heap.objs.size f cdv).kindOf (ps.zip us) fun _ => none) s1 →
      wpAny (model P w) (A.deeper (envOfC qual scope s.heap.objs.size f cdv)) (execs body (envOfC qual scope s.heap.objs.size f cdv)) (fun fl s' => R (.ok (.ret (match fl with | .ret v => v | _ => .none))) s')
        (fun e s' => wpAny (model P w) (A.deeper (envOfC qual scope s.heap.objs.size f cdv)) (leaving (envOfC qual scope s.heap.objs.size f cdv) e) (fun _ s'' => R (.error e) s'') (fun e' s'' => R (.error e') s'') s') s1) :
    codeAny (model P w) A (.call (.ref f) args) R s := by
  have old : ∀ b o, base.get? b = some o → s.heap.get? b = some o := fun b o q => (e0.bs b o q).1
  have ours := e0.mod.kin.keeps old
  refine codeAny_call_function hd (ours _ _ lk) rfl S.co S.gen rfl (PySem.W.codeRec_of ours hcd) (hb _ _ _ _ (wpAny_newFunctionEnv_cells S.kind (fun y hy => ?_) ?_))
  · exact (S.par y.1 (List.of_mem_zip hy).1).imp_right fun q => ⟨q, PySem.W.cellsFrom_some _ _ _ (.inl q)⟩
  · rintro _ rfl s1 x
    exact ⟨(e0.mod.nolimit.keeps old).keeps x.toInCall.keep, codeAny_func (k s1 x)⟩
theorem told (hD : D = { nx := fun _ H' => Q .non H', rt := Q }) (hx : X.s_0 = s) (hH : X.H_0 = H) (ho : X.outer = outer) (he : X.ex = []) (hp : X.prog = P) (hw : X.w = w) {fl : Flow} {s' : Shared} (h : SP X [] D fl s') : CE outer P w H s Q (match (generalizing := false) fl with | .ret v => v | _ => .none) s' := by
  subst hD hx hH ho hp hw
  have out : ∀ {σ' H' v u}, Inv X [] σ' H' s' → RelV v u → Q v H' → CE X.outer X.prog X.w X.H_0 X.s_0 Q u s' := fun {_ H' v _} J r q => ⟨v, H', J.os, J.bare, he ▸ J.base, J.hok, r, q⟩
  match fl, h with
  | .ret _, ⟨_, _, _, J, r, q⟩ => exact out J r q
  | .next, ⟨_, _, J, q⟩ => exact out (v := .non) J rfl q
  | .brk, ⟨_, _, _, q⟩ => exact q.elim
  | .cont, ⟨_, _, _, q⟩ => exact q.elim
theorem fn_G {k : Nat} {sp : Sp} (lk : K.lookup f = some ⟨oc, od, .func (PySem.W.fnOf name qual params body scope dV kV doc pm an cdv ct), osl⟩) (hcd : PySem.W.codeIn K cdv qual = true) (S : FnScope N ps scope) (len : ∀ vs H Q E, sp vs H Q E → vs.length = ps.length)
    (hbody : ∀ (A : Around) (outer : List Env) (s : Shared) (H : Hp) (vs : List V) (Q : VK) (E : XK), RoomG k (A.deeper (envOfC qual scope s.heap.objs.size f cdv)) → sp vs H Q E →
      ∃ t, PSs (cxOf (CXm P w) P w K mg base N qual scope f cdv A outer s H E) body t ∧ t { nx := fun _ H' => Q .non H', rt := Q } (start N vs) H) :
    FnG P w K mg base (k + 1) f (PySem.W.fnOf name qual params body scope dV kV doc pm an cdv ct) ps sp where
  len := len
  run A outer s H args us vs Q E room e0 hb r hsp :=
    let ⟨_, walk, z⟩ := hbody A outer s H vs Q E (room.deeper _) hsp
    frame_run lk hcd S room.r.depth e0 hb fun s1 x => thn (walk.run [] s1 _ H _ (inv_start S room.r.hd e0 (len _ _ _ _ hsp) r x) z) fun _ _ h => told rfl rfl rfl rfl rfl rfl rfl h
end
end PKS
namespace PKS
open PySem PySem.Spec PyProof.Rows L2
abbrev Cl := List Nat → List PK.D → Cells → PK.R
def spC (K : PySem.W.Frag) (lk : Lk) (c : Cl) : Sp := fun vs H Q E => ∃ Z m ρ G ds, Rel K (lk.w Z) ρ G H ∧ Reps K (lk.w Z) ρ G.length H ds vs ∧ OutE K (lk.w Z) (fun cls d _ H => E cls d H) [] ρ G H (c m ds G) Q
theorem OutE.st {K : PySem.W.Frag} {lk : Lk} {W : WX} {σ σ' : L2.St} {ρ : Nm} {G : Cells} {H : Hp} {r : PK.R} {Q : VK} (h : OutE K lk W σ ρ G H r Q) : OutE K lk (fun cls d _ H => WE W σ cls d H) σ' ρ G H r Q := h.imp fun _ _ z => z
section
variable {X : Cx} {lk : Lk} {a b c e o : Expr} {es : List Expr} {ea eb ec ev eo er : Ev} {pos p p1 p2 p3 apos : Pos} {k : Nat} {f : Addr} {fd : FuncData} {ps : List Str} {x : Str} {cl : Cl} {m : List Nat}
theorem le_call (F : FnG X.prog X.w X.K X.mg X.base k f fd ps (spC X.K lk cl)) (hr : RoomG k X.A) (hg : Gl X x) (hm : X.mg x = some (.ref f)) (hk : PySem.W.keepIn X.K (.ref f) = true) (hb : Binds X.K fd ps [])
    (ha : LA X lk (e :: es) er) (hdb : (x == ("__debug__" : Str)) = false) (he : starEach (e :: es) X.env = (false, eval e X.env) :: starEach es X.env) (hpl : (backTo pos (starEach es X.env)).any (·.1) = false) :
    LE X lk (.Call (.Name x p) (e :: es) [] pos) (thenA er fun ds G => cl m ds G) :=
  pe_imp (pe_callG F hr hg hm hk hb ha hdb he hpl) fun σ H Q ⟨ρ, G, s, r, en, h⟩ => ⟨ρ, G, s, r, en, OutE.args h fun ds G1 ρ1 H1 xs e1 r1 p1 h1 => ⟨lk.Z, m, ρ1, G1, ds, r1, p1, OutE.st h1⟩⟩
theorem le_call0 (F : FnG X.prog X.w X.K X.mg X.base k f fd ps (spC X.K lk cl)) (hr : RoomG k X.A) (hg : Gl X x) (hm : X.mg x = some (.ref f)) (hk : PySem.W.keepIn X.K (.ref f) = true) (hb : Binds X.K fd ps [])
    (hdb : (x == ("__debug__" : Str)) = false) : LE X lk (.Call (.Name x p) [] [] pos) (thenA (fun _ G => .ok (.tup []) G) fun ds G => cl m ds G) :=
  pe_imp (pe_callG0 F hr hg hm hk hb hdb) fun σ H Q ⟨ρ, G, s, r, en, h⟩ => ⟨lk.Z, m, ρ, G, [], r, rfl, OutE.st h⟩

theorem boot_bi (b : PK.Bi) : bootBuiltins (Str.ofString (biName b)) = some (biVal b) := by cases b <;> decide +kernel
theorem bi_ne (b : PK.Bi) : Str.ofString (biName b) ≠ "__name__" := by cases b <;> decide +kernel
theorem bi_nd (b : PK.Bi) : (Str.ofString (biName b) == ("__debug__" : Str)) = false := by cases b <;> decide +kernel
theorem le_bi (b : PK.Bi) (w : Bool) (hc : X.calm = true ∨ b = .int) (hgd : X.A.guards = some []) (hu : X.A.units + 64 < cLine) (hg : Gl X (Str.ofString (biName b))) (hm : X.mg (Str.ofString (biName b)) = none)
    (ha : LA X lk (e :: es) er) (he : starEach (e :: es) X.env = (false, eval e X.env) :: starEach es X.env) (hpl : (backTo pos (starEach es X.env)).any (·.1) = false) :
    LE X lk (.Call (.Name (Str.ofString (biName b)) p) (e :: es) [] pos) (thenA er fun ds G => PK.biD b w ds G) := by
  have R := cr_bi hc hgd hu
  have hv := boot_bi b
  have T : PE X (.Call (.Name (Str.ofString (biName b)) p) (e :: es) [] pos) (tCB (rBi X.K b) (liftA X.K lk (WXo X) er)) := by
    generalize hB : biVal b = B at R hv
    cases B with
    | builtin id => exact pe_callB R hg hm hv ha (bi_ne b) (bi_nd b) he hpl
    | type T => exact pe_callTy R hg hm hv ha (bi_ne b) (bi_nd b) he hpl
    | _ => cases b <;> cases hB
  exact pe_imp T fun σ H Q ⟨ρ, G, s, r, en, h⟩ => ⟨ρ, G, s, r, en, OutE.args h fun ds G1 ρ1 H1 xs e1 r1 p1 h1 => bi_val b r1 p1 h1⟩

def tyS : PK.Ty → String
  | .int => "int" | .bool => "bool" | .str => "str" | .list => "list" | .tuple => "tuple" | .own _ => ""
def tyOwn : PK.Ty → Bool
  | .own _ => true
  | _ => false
theorem kb_of {n : String} {b1 b2 b3 b4 b5 : Bool} {G : Cells} {v : PK.D} (h1 : kitB n "int" = some b1) (h2 : kitB n "bool" = some b2) (h3 : kitB n "str" = some b3) (h4 : kitB n "list" = some b4) (h5 : kitB n "tuple" = some b5)
    (e1 : PK.isTy G v .int = b1) (e2 : PK.isTy G v .bool = b2) (e3 : PK.isTy G v .str = b3) (e4 : PK.isTy G v .list = b4) (e5 : PK.isTy G v .tuple = b5) : ∀ y, tyOwn y = false → kitB n (tyS y) = some (PK.isTy G v y) := fun y h => by
  cases y with
  | int => rw [e1]; exact h1
  | bool => rw [e2]; exact h2
  | str => rw [e3]; exact h3
  | list => rw [e4]; exact h4
  | tuple => rw [e5]; exact h5
  | own c => cases h
theorem typed_is {K : PySem.W.Frag} {ρ : Nm} {G : Cells} {H : Hp} {v : PK.D} {x : V} (r : Rel K lk ρ G H) (p : Rep K lk ρ G.length H v x) (t : PK.typed G v = true) : ∃ n : String, TyX K H x (.type n) ∧ ∀ y, tyOwn y = false → kitB n (tyS y) = some (PK.isTy G v y) := by
  cases v with
  | non => rw [show x = V.non from p]; exact ⟨_, .base .non, kb_of (b1 := false) (b2 := false) (b3 := false) (b4 := false) (b5 := false) (by decide +kernel) (by decide +kernel) (by decide +kernel) (by decide +kernel) (by decide +kernel) rfl rfl rfl rfl rfl⟩
  | bl b => rw [show x = V.bl b from p]; exact ⟨_, .base (.bl b), kb_of (b1 := true) (b2 := true) (b3 := false) (b4 := false) (b5 := false) (by decide +kernel) (by decide +kernel) (by decide +kernel) (by decide +kernel) (by decide +kernel) rfl rfl rfl rfl rfl⟩
  | int b => rw [show x = V.int b from p]; exact ⟨_, .base (.int b), kb_of (b1 := true) (b2 := false) (b3 := false) (b4 := false) (b5 := false) (by decide +kernel) (by decide +kernel) (by decide +kernel) (by decide +kernel) (by decide +kernel) rfl rfl rfl rfl rfl⟩
  | str b => rw [show x = V.str b from p]; exact ⟨_, .base (.str b), kb_of (b1 := false) (b2 := false) (b3 := true) (b4 := false) (b5 := false) (by decide +kernel) (by decide +kernel) (by decide +kernel) (by decide +kernel) (by decide +kernel) rfl rfl rfl rfl rfl⟩
  | tup ds =>
    obtain ⟨a, vs, h1, h2, h3⟩ := p
    refine ⟨"tuple", ?_, kb_of (b1 := false) (b2 := false) (b3 := false) (b4 := false) (b5 := true) (by decide +kernel) (by decide +kernel) (by decide +kernel) (by decide +kernel) (by decide +kernel) rfl rfl rfl rfl rfl⟩
    rw [h1]
    rcases h2.sq with (h2 | ⟨o, h2⟩) | ⟨o, its, n, h2, h3, _⟩
    · exact .base (.tup h2)
    · exact .fTuple h2
    · exact .kTuple h2 h3
  | lst ds =>
    obtain ⟨a, vs, h1, h2, h3, h4⟩ := p
    rw [h1]
    exact ⟨"list", .base (.lst h2), kb_of (b1 := false) (b2 := false) (b3 := false) (b4 := true) (b5 := false) (by decide +kernel) (by decide +kernel) (by decide +kernel) (by decide +kernel) (by decide +kernel) rfl rfl rfl rfl rfl⟩
  | fz ds =>
    obtain ⟨a, vs, h1, h2, h3⟩ := p
    refine ⟨"list", ?_, kb_of (b1 := false) (b2 := false) (b3 := false) (b4 := true) (b5 := false) (by decide +kernel) (by decide +kernel) (by decide +kernel) (by decide +kernel) (by decide +kernel) rfl rfl rfl rfl rfl⟩
    rw [h1]
    rcases h2 with ⟨o, h2⟩ | ⟨o, its, n, h2, h3, _⟩
    · exact .base (.frz h2)
    · exact .kList h2 h3
  | ref i =>
    obtain ⟨hi, hv⟩ := p
    unfold PK.typed at t
    cases q : G[i]? with
    | none => simp [q] at t
    | some c =>
      obtain ⟨u, h1, h2⟩ := r.cell i _ q
      cases c with
      | lst es =>
        obtain ⟨vs, rfl, h3⟩ := h2
        refine ⟨"list", by rw [hv]; exact .base (.lst h1), kb_of (b1 := false) (b2 := false) (b3 := false) (b4 := true) (b5 := false) (by decide +kernel) (by decide +kernel) (by decide +kernel) (by decide +kernel) (by decide +kernel) (by simp [PK.isTy, q]) (by simp [PK.isTy, q]) (by simp [PK.isTy, q]) (by simp [PK.isTy, q]) (by simp [PK.isTy, q]) ⟩
      | dK es =>
        obtain ⟨vs, rfl, h3⟩ := h2
        refine ⟨"dict", by rw [hv]; exact .base (.dK h1), kb_of (b1 := false) (b2 := false) (b3 := false) (b4 := false) (b5 := false) (by decide +kernel) (by decide +kernel) (by decide +kernel) (by decide +kernel) (by decide +kernel) (by simp [PK.isTy, q]) (by simp [PK.isTy, q]) (by simp [PK.isTy, q]) (by simp [PK.isTy, q]) (by simp [PK.isTy, q]) ⟩
      | dT es =>
        obtain ⟨vs, rfl, h3⟩ := h2
        refine ⟨"dict", by rw [hv]; exact .base (.dT h1), kb_of (b1 := false) (b2 := false) (b3 := false) (b4 := false) (b5 := false) (by decide +kernel) (by decide +kernel) (by decide +kernel) (by decide +kernel) (by decide +kernel) (by simp [PK.isTy, q]) (by simp [PK.isTy, q]) (by simp [PK.isTy, q]) (by simp [PK.isTy, q]) (by simp [PK.isTy, q]) ⟩
      | ins c es => simp [q] at t
      | frK es => simp [q] at t
  | _ => cases t
theorem boot_ty (y : PK.Ty) (h : tyOwn y = false) : bootBuiltins (Str.ofString (tyS y)) = some (.type (tyS y)) := by
  cases y with
  | own c => cases h
  | _ => decide +kernel
theorem ty_ne (y : PK.Ty) : Str.ofString (tyS y) ≠ "__name__" := by
  cases y with
  | own c => exact (by decide +kernel : Str.ofString "" ≠ "__name__")
  | _ => decide +kernel
theorem ty_nd (y : PK.Ty) : (Str.ofString (tyS y) == ("__debug__" : Str)) = false := by
  cases y with
  | own c => exact (by decide +kernel : (Str.ofString "" == ("__debug__" : Str)) = false)
  | _ => decide +kernel
theorem pe_ty (y : PK.Ty) (h : tyOwn y = false) (hg : Gl X (Str.ofString (tyS y))) (hm : X.mg (Str.ofString (tyS y)) = none) : PE X (.Name (Str.ofString (tyS y)) p) (tC (.ty (tyS y))) :=
  pe_bltn hg hm (boot_ty y h) rfl (ty_ne y) (ty_nd y)
def isiE (ts : List PK.Ty) (ea : Ev) : Ev := fun s G => (ea s G).bind fun x G1 => PK.iteK (PK.typed G1 x) (fun _ => .ok (.bl (ts.any (PK.isTy G1 x))) G1) fun _ => .bad
theorem le_isi1 (y : PK.Ty) (hy : tyOwn y = false) (hg : Gl X "isinstance") (hm : X.mg "isinstance" = none) (hg2 : Gl X (Str.ofString (tyS y))) (hm2 : X.mg (Str.ofString (tyS y)) = none) (ha : LE X lk a ea)
    (hs : starEach [a, .Name (Str.ofString (tyS y)) p1] X.env = (false, eval a X.env) :: starEach [.Name (Str.ofString (tyS y)) p1] X.env) :
    LE X lk (.Call (.Name "isinstance" p) [a, .Name (Str.ofString (tyS y)) p1] [] pos) (isiE [y] ea) :=
  pe_imp (pe_callB call_isi hg hm (by decide +kernel) (pa_cons ha (pa_cons (pe_ty y hy hg2 hm2) pa_nil rfl) hs) (by decide) (by decide) hs rfl) fun σ H Q ⟨ρ, G, s, r, en, h⟩ => ⟨ρ, G, s, r, en, OutE.bind h fun v G1 _ ρ1 H1 x e1 r1 p1 h1 => by
    cases q : PK.typed G1 v with
    | false => rw [q] at h1; exact h1.elim
    | true =>
      rw [q] at h1
      obtain ⟨n, h2, h3⟩ := typed_is r1 p1 q
      refine ⟨x, .ty (tyS y), _, _, _, rfl, .ty _, h2, kit_ty (h3 y hy), ?_⟩
      have := OutE.here h1 r1 rfl
      simpa using this⟩
theorem paired_ty : ∀ ts : List PK.Ty, Paired ClsV (ts.map fun y => V.ty (tyS y)) (ts.map fun y => Value.type (tyS y))
  | [] => .nil
  | y :: ts => .cons (.ty _) (paired_ty ts)
theorem any_ty {K : PySem.W.Frag} {G : Cells} {v : PK.D} {n : String} (h : ∀ y, tyOwn y = false → kitB n (tyS y) = some (PK.isTy G v y)) : ∀ ts : List PK.Ty, ts.all (fun y => !tyOwn y) = true → PySem.W.kitAny K (.type n) (ts.map fun y => Value.type (tyS y)) = some (ts.any (PK.isTy G v))
  | [], _ => rfl
  | y :: ts, z => by
    simp only [List.all_cons, Bool.and_eq_true, Bool.not_eq_true'] at z
    have k := kit_ty (K := K) (h y z.1)
    have ih := any_ty (K := K) h ts z.2
    show PySem.W.kitAny K _ (Value.type (tyS y) :: _) = some (PK.isTy G v y || ts.any (PK.isTy G v))
    unfold PySem.W.kitAny
    rw [k]
    cases PK.isTy G v y with
    | true => rfl
    | false => exact ih
inductive TyEs (X : Cx) : List PK.Ty → List Expr → Prop where
  | nil : TyEs X [] []
  | cons {y ts p es} (hy : tyOwn y = false) (hg : Gl X (Str.ofString (tyS y))) (hm : X.mg (Str.ofString (tyS y)) = none) (t : TyEs X ts es) : TyEs X (y :: ts) (.Name (Str.ofString (tyS y)) p :: es)
def tTys (ts : List PK.Ty) : TA := fun _ H Q => Q (ts.map fun y => V.ty (tyS y)) H
theorem pa_tys : ∀ {ts : List PK.Ty} {es : List Expr}, TyEs X ts es → PA X es (tTys ts)
  | _, _, .nil => pa_nil
  | _, _, .cons hy hg hm t => pa_imp (pa_cons (pe_ty _ hy hg hm) (pa_tys t) rfl) fun σ H Q h => h
theorem TyEs.own : ∀ {ts : List PK.Ty} {es : List Expr}, TyEs X ts es → ts.all (fun y => !tyOwn y) = true
  | _, _, .nil => rfl
  | _, _, .cons hy _ _ t => by simp [hy]; simpa using t.own
theorem le_isiT {ts : List PK.Ty} (hts : TyEs X ts es) (hl : ts.length ≤ 1000) (hg : Gl X "isinstance") (hm : X.mg "isinstance" = none) (ha : LE X lk a ea)
    (hs : starEach [a, .Tuple es k p1] X.env = (false, eval a X.env) :: starEach [.Tuple es k p1] X.env) :
    LE X lk (.Call (.Name "isinstance" p) [a, .Tuple es k p1] [] pos) (isiE ts ea) :=
  pe_imp (pe_callB call_isiT hg hm (by decide +kernel) (pa_cons ha (pa_cons (pe_tup (pa_tys hts)) pa_nil rfl) hs) (by decide) (by decide) hs rfl) fun σ H Q ⟨ρ, G, s, r, en, h⟩ => ⟨ρ, G, s, r, en, OutE.bind h fun v G1 _ ρ1 H1 x e1 r1 p1 h1 => by
    cases q : PK.typed G1 v with
    | false => rw [q] at h1; exact h1.elim
    | true =>
      rw [q] at h1
      refine ⟨by rw [List.length_map, sizeLine_eq]; exact Nat.le_trans hl (by decide), fun a ha => ?_⟩
      have e2 : Ext ρ1 G1.length H1 ρ1 G1.length (upd H1 a (.tup (ts.map fun y => V.ty (tyS y)))) := Ext.laid ha
      have r2 := r1.other (o := .tup (ts.map fun y => V.ty (tyS y))) ha
      obtain ⟨n, h2, h3⟩ := typed_is r2 (Rep.ext e2 _ _ p1) q
      refine ⟨x, a, _, _, _, _, rfl, upd_same, paired_ty ts, h2, any_ty h3 ts hts.own, ?_⟩
      exact OutE.here (OutE.ext e2 h1) r2 rfl⟩
end
end PKS
namespace PKS
open PySem PySem.Spec PyProof.Rows L2
def mtT : PK.Mt → String
  | .append | .clear | .pop0 | .pop1 | .extend | .reverse => "list"
  | .join | .split | .startswith => "str"
  | .get1 | .get2 | .popT | .popK | .setd => "dict"
def mtN : PK.Mt → String
  | .append => "append" | .clear => "clear" | .pop0 | .pop1 | .popT | .popK => "pop" | .reverse => "reverse" | .extend => "extend" | .join => "join" | .split => "split" | .startswith => "startswith" | .get1 | .get2 => "get" | .setd => "setdefault"
def rPopK1 : V → List V → Hp → VK → Prop := fun x xs H Q => ∃ (a : Addr) (kvs : List (L2.Key × V)) (k : L2.Key) (v : V), x = .ref a ∧ xs = [kV k] ∧ H a = some (.dK kvs) ∧ valV kvs k = some v ∧ Q v (upd H a (.dK (dropK kvs k)))
def rSetd : V → List V → Hp → VK → Prop := fun x xs H Q => ∃ (a : Addr) (kvs : List (L2.Key × V)) (k : L2.Key) (z : V), x = .ref a ∧ xs = [kV k, z] ∧ H a = some (.dK kvs) ∧ kvs.length < sizeLine ∧ (∀ v, valV kvs k = some v → Q v H) ∧ (valV kvs k = none → Q z (upd H a (.dK (putK kvs k z))))
theorem mt_setd {X : Cx} : MtR X "dict.setdefault" rSetd := by
  intro pins s σ H x xs v us Q I rx rxs h
  obtain ⟨a, kvs, k, z, rfl, rfl, ha, hl, q1, q2⟩ := h
  cases rx
  obtain ⟨u1, u2, rfl, r1, r2⟩ := vals2 rxs
  exact d_setd I ha r1 r2 hl (fun v e w' s' I' rw' => ⟨v, H, I', rw', q1 v e⟩) fun e w' s' I' rw' => ⟨z, _, I', rw', q2 e⟩
def rGet1 : V → List V → Hp → VK → Prop := fun x xs H Q => ∃ (a : Addr) (y : V) (o : Option V), x = .ref a ∧ xs = [y] ∧ DGet H a y o ∧ Q (o.getD .non) H
def rGet2 : V → List V → Hp → VK → Prop := fun x xs H Q => ∃ (a : Addr) (y z : V) (o : Option V), x = .ref a ∧ xs = [y, z] ∧ DGet H a y o ∧ Q (o.getD z) H
theorem mt_popK1 {X : Cx} : MtR X "dict.pop" rPopK1 := by
  intro pins s σ H x xs v us Q I rx rxs h
  obtain ⟨a, kvs, k, d, rfl, rfl, ha, hk, q⟩ := h
  cases rx
  obtain ⟨u1, rfl, r1⟩ := vals1 rxs
  exact d_pop I ha r1 hk (.inl rfl) fun w' s' I' rw' => ⟨d, _, I', rw', q⟩
theorem mt_get1 {X : Cx} (hu : X.A.units + 1 < cLine) : MtR X "dict.get" rGet1 := by
  intro pins s σ H x xs v us Q I rx rxs h
  obtain ⟨a, y, o, rfl, rfl, g, q⟩ := h
  cases rx
  obtain ⟨u1, rfl, r1⟩ := vals1 rxs
  exact d_get1 hu I g r1 fun w' s' I' rw' => ⟨_, H, I', rw', q⟩
theorem mt_get2 {X : Cx} (hu : X.A.units + 1 < cLine) : MtR X "dict.get" rGet2 := by
  intro pins s σ H x xs v us Q I rx rxs h
  obtain ⟨a, y, z, o, rfl, rfl, g, q⟩ := h
  cases rx
  obtain ⟨u1, u2, rfl, r1, r2⟩ := vals2 rxs
  exact d_get2 hu I g r1 r2 fun w' s' I' rw' => ⟨_, H, I', rw', q⟩
def rMt (K : PySem.W.Frag) : PK.Mt → V → List V → Hp → VK → Prop
  | .append => rAppend
  | .extend => rExtend
  | .clear => rClear
  | .pop0 => rPop
  | .pop1 => rPopAt
  | .popT => rPopT1
  | .popK => rPopK1
  | .setd => rSetd
  | .get1 => rGet1
  | .get2 => rGet2
  | .reverse => rReverse
  | .join => fun x xs H Q => ∃ a p, ∃ ys : List Str, x = .str a ∧ xs = [.ref p] ∧ (SqL K H p (ys.map V.str) ∨ SqT K H p (ys.map V.str)) ∧ (ys.map (·.length)).sum + ys.length * a.length ≤ 16777216 ∧ Q (.str (Txt.join a ys)) H
  | .split => fun x xs H Q => ∃ a b, x = .str a ∧ xs = [.str b] ∧ (b.length == 0) = false ∧ a.length + 2 ≤ sizeLine ∧ rNewStrs (Txt.split a b) H Q
  | .startswith => fun x xs H Q => ∃ a b, x = .str a ∧ xs = [.str b] ∧ Q (.bl (Txt.startswith a b)) H
section
variable {K : PySem.W.Frag} {lk : Lk} {W : WX} {σ : L2.St} {ρ : Nm} {G G' : Cells} {H H' : Hp} {Q : VK} {X : Cx}
theorem mtOk_is {b : PK.Mt} (nb : b ≠ .get1 ∧ b ≠ .get2) {v : PK.D} {x : V} (r : Rel K lk ρ G H) (p : Rep K lk ρ G.length H v x) (h : PK.mtOk b G v = true) : tyV K (mtT b) x H := by
  have L : ∀ i, v = .ref i → PK.isLst G[i]? = true → ∃ a xs, x = .ref a ∧ SqL K H a xs := fun i e z => by
    subst e
    obtain ⟨hi, hv⟩ := p
    cases q : G[i]? with
    | none => rw [q] at z; cases z
    | some c =>
      obtain ⟨u, h1, h2⟩ := r.cell i _ q
      cases c with
      | lst es => obtain ⟨vs, rfl, h3⟩ := h2; exact ⟨_, vs, hv, SqL.of h1⟩
      | _ => rw [q] at z; cases z
  cases b with
  | append => cases v with
    | ref i => obtain ⟨a, xs, h1, h2⟩ := L i rfl h; rw [h1]; exact .inl ⟨rfl, xs, h2⟩
    | _ => cases h
  | clear => cases v with
    | ref i => obtain ⟨a, xs, h1, h2⟩ := L i rfl h; rw [h1]; exact .inl ⟨rfl, xs, h2⟩
    | _ => cases h
  | extend => cases v with
    | ref i => obtain ⟨a, xs, h1, h2⟩ := L i rfl h; rw [h1]; exact .inl ⟨rfl, xs, h2⟩
    | _ => cases h
  | pop0 => cases v with
    | ref i => obtain ⟨a, xs, h1, h2⟩ := L i rfl h; rw [h1]; exact .inl ⟨rfl, xs, h2⟩
    | _ => cases h
  | pop1 => cases v with
    | ref i => obtain ⟨a, xs, h1, h2⟩ := L i rfl h; rw [h1]; exact .inl ⟨rfl, xs, h2⟩
    | _ => cases h
  | reverse => cases v with
    | ref i => obtain ⟨a, xs, h1, h2⟩ := L i rfl h; rw [h1]; exact .inl ⟨rfl, xs, h2⟩
    | _ => cases h
  | popT => cases v with
    | ref i =>
      obtain ⟨hi, hv⟩ := p
      have h : PK.isDT G[i]? = true := h
      cases q : G[i]? with
      | none => rw [q] at h; cases h
      | some c =>
        obtain ⟨u, h1, h2⟩ := r.cell i _ q
        cases c with
        | dT es => obtain ⟨vs, rfl, h3⟩ := h2; rw [hv]; exact .inr (.inr (.inl ⟨rfl, .inr ⟨vs, h1⟩⟩))
        | _ => rw [q] at h; cases h
    | _ => cases h
  | popK => cases v with
    | ref i =>
      obtain ⟨hi, hv⟩ := p
      have h : PK.isDK G[i]? = true := h
      cases q : G[i]? with
      | none => rw [q] at h; cases h
      | some c =>
        obtain ⟨u, h1, h2⟩ := r.cell i _ q
        cases c with
        | dK es => obtain ⟨vs, rfl, h3⟩ := h2; rw [hv]; exact .inr (.inr (.inl ⟨rfl, .inl ⟨vs, h1⟩⟩))
        | _ => rw [q] at h; cases h
    | _ => cases h
  | setd => cases v with
    | ref i =>
      obtain ⟨hi, hv⟩ := p
      have h : PK.isDK G[i]? = true := h
      cases q : G[i]? with
      | none => rw [q] at h; cases h
      | some c =>
        obtain ⟨u, h1, h2⟩ := r.cell i _ q
        cases c with
        | dK es => obtain ⟨vs, rfl, h3⟩ := h2; rw [hv]; exact .inr (.inr (.inl ⟨rfl, .inl ⟨vs, h1⟩⟩))
        | _ => rw [q] at h; cases h
    | _ => cases h
  | get1 => exact absurd rfl nb.1
  | get2 => exact absurd rfl nb.2
  | join => cases v with
    | str i => rw [show x = V.str i from p]; rfl
    | _ => cases h
  | split => cases v with
    | str i => rw [show x = V.str i from p]; rfl
    | _ => cases h
  | startswith => cases v with
    | str i => rw [show x = V.str i from p]; rfl
    | _ => cases h
theorem mtOk_d {b : PK.Mt} (hb : b = .get1 ∨ b = .get2) {v : PK.D} {x : V} (r : Rel K lk ρ G H) (p : Rep K lk ρ G.length H v x) (h : PK.mtOk b G v = true) : ∃ a, x = .ref a ∧ IsD H a := by
  obtain ⟨i, hvi, hg⟩ : ∃ i, v = .ref i ∧ PK.isDG G[i]? = true := by
    rcases hb with rfl | rfl <;> (cases v <;> first | exact ⟨_, rfl, h⟩ | cases h)
  subst hvi
  clear h
  obtain ⟨hi, hv⟩ := p
  cases q : G[i]? with
  | none => rw [q] at hg; cases hg
  | some c =>
    obtain ⟨u, h1, h2⟩ := r.cell i _ q
    cases c with
    | dK es => obtain ⟨vs, rfl, h3⟩ := h2; exact ⟨_, hv, .inl ⟨vs, .inl h1⟩⟩
    | dT es => obtain ⟨vs, rfl, h3⟩ := h2; exact ⟨_, hv, .inr ⟨vs, .inl h1⟩⟩
    | frK es => obtain ⟨vs, od, rfl, h3⟩ := h2; exact ⟨_, hv, .inl ⟨vs, .inr ⟨od, h1⟩⟩⟩
    | _ => rw [q] at hg; cases hg
theorem last_of {n : Nat} : ∀ {ds : List PK.D} {vs : List V} {d : PK.D}, Reps K lk ρ n H ds vs → ds.getLast? = some d → ∃ v, vs[vs.length - 1]? = some v ∧ Rep K lk ρ n H d v := fun {ds vs d} p e => by
  rw [List.getLast?_eq_getElem?] at e
  obtain ⟨v, h1, h2⟩ := p.get e
  rw [p.length] at h1
  exact ⟨v, h1, h2⟩
theorem dropLast_of {n : Nat} {ds : List PK.D} {vs : List V} (p : Reps K lk ρ n H ds vs) : Reps K lk ρ n H ds.dropLast vs.dropLast := by
  rw [List.dropLast_eq_take, List.dropLast_eq_take, p.length]
  exact p.take _
theorem reverse_of {n : Nat} : ∀ {ds : List PK.D} {vs : List V}, Reps K lk ρ n H ds vs → Reps K lk ρ n H ds.reverse vs.reverse
  | [], vs, p => by rw [show vs = [] from p]; rfl
  | d :: ds, vs, p => by
    obtain ⟨v, us, rfl, p1, p2⟩ := p
    rw [List.reverse_cons, List.reverse_cons]
    exact (reverse_of p2).append (Reps.one p1)
theorem put_repM {κ : Type} [DecidableEq κ] {K : PySem.W.Frag} {ρ : Nm} {n : Nat} {H : Hp} {k : κ} {d : PK.D} {v : V} (q : Rep K lk ρ n H d v) : ∀ {kvs : List (κ × PK.D)} {zs : List (κ × V)}, RepK K lk ρ n H kvs zs → RepK K lk ρ n H (PK.putD kvs k d) (putK zs k v) := by
  intro kvs zs h
  obtain ⟨h1, h2⟩ := h
  have any : ∀ {α β : Type} (f : κ → Bool) (l : List (κ × α)) (l' : List (κ × β)), l.map (·.1) = l'.map (·.1) → (l.any fun kv => f kv.1) = l'.any fun kv => f kv.1 := fun f l l' e => by
    have e1 : (l.any fun kv => f kv.1) = (l.map (·.1)).any f := by rw [List.any_map]; rfl
    have e2 : (l'.any fun kv => f kv.1) = (l'.map (·.1)).any f := by rw [List.any_map]; rfl
    rw [e1, e2, e]
  have ea := any (fun z => decide (z = k)) zs kvs h1
  unfold PK.putD putK
  by_cases c : (kvs.any fun kv => decide (kv.1 = k)) = true
  · rw [if_pos c, if_pos (ea.trans c)]
    clear ea c
    have go : ∀ (kvs : List (κ × PK.D)) (zs : List (κ × V)), zs.map (·.1) = kvs.map (·.1) → Reps K lk ρ n H (kvs.map (·.2)) (zs.map (·.2)) →
        RepK K lk ρ n H (kvs.map fun kv => if kv.1 = k then (kv.1, d) else kv) (zs.map fun kv => if kv.1 = k then (kv.1, v) else kv) := by
      intro kvs
      induction kvs with
      | nil =>
        intro zs h1 h2
        cases zs with
        | nil => exact ⟨rfl, rfl⟩
        | cons z zs => simp at h1
      | cons kv kvs ih =>
        intro zs h1 h2
        cases zs with
        | nil => simp at h1
        | cons z zs =>
          obtain ⟨x, xs, e, h3, h4⟩ := h2
          simp only [List.map_cons, List.cons.injEq] at h1 e
          obtain ⟨i1, i2⟩ := ih zs h1.2 (by rw [e.2]; exact h4)
          refine ⟨?_, ?_⟩
          · simp only [List.map_cons, List.cons.injEq]
            refine ⟨?_, i1⟩
            rw [h1.1]
            split <;> simp [h1.1]
          · rw [List.map_cons, List.map_cons, List.map_cons, List.map_cons]
            refine ⟨_, _, rfl, ?_, i2⟩
            rw [h1.1]
            split
            · exact q
            · rw [e.1]; exact h3
    exact go kvs zs h1 h2
  · rw [if_neg c, if_neg (by rw [ea]; exact c)]
    exact ⟨by rw [List.map_append, List.map_append, h1]; rfl, by rw [List.map_append, List.map_append]; exact h2.append (Reps.one q)⟩
theorem drop_rep {κ : Type} [DecidableEq κ] {n : Nat} {k : κ} : ∀ {kvs : List (κ × PK.D)} {zs : List (κ × V)}, RepK K lk ρ n H kvs zs → RepK K lk ρ n H (PK.dropD kvs k) (dropK zs k)
  | [], [], h => h
  | [], _ :: _, h => by have := h.1; simp at this
  | _ :: _, [], h => by have := h.1; simp at this
  | kv :: kvs, z :: zs, h => by
    obtain ⟨h1, h2⟩ := h
    obtain ⟨x, xs, e, h3, h4⟩ := h2
    simp only [List.map_cons, List.cons.injEq] at h1 e
    obtain ⟨i1, i2⟩ := drop_rep (k := k) (kvs := kvs) (zs := zs) ⟨h1.2, by rw [e.2]; exact h4⟩
    by_cases c : kv.1 = k
    · have c2 : z.1 = k := h1.1.trans c
      have e1 : PK.dropD (kv :: kvs) k = PK.dropD kvs k := by unfold PK.dropD; rw [List.filter_cons_of_neg (by simp [c])]
      have e2 : dropK (z :: zs) k = dropK zs k := by unfold dropK; rw [List.filter_cons_of_neg (by simp [c2])]
      rw [e1, e2]; exact ⟨i1, i2⟩
    · have c2 : ¬ z.1 = k := fun h => c (h1.1.symm.trans h)
      have e1 : PK.dropD (kv :: kvs) k = kv :: PK.dropD kvs k := by unfold PK.dropD; rw [List.filter_cons_of_pos (by simp [c])]
      have e2 : dropK (z :: zs) k = z :: dropK zs k := by unfold dropK; rw [List.filter_cons_of_pos (by simp [c2])]
      rw [e1, e2]
      refine ⟨by rw [List.map_cons, List.map_cons, i1, h1.1], ?_⟩
      rw [List.map_cons, List.map_cons]
      exact ⟨_, _, rfl, by rw [e.1]; exact h3, i2⟩
theorem val_rep {κ : Type} [DecidableEq κ] {n : Nat} {k : κ} {d : PK.D} {kvs : List (κ × PK.D)} {zs : List (κ × V)} (h : RepK K lk ρ n H kvs zs) (e : PK.valD kvs k = some d) : ∃ v, valV zs k = some v ∧ Rep K lk ρ n H d v := by
  rcases valD_of k h with ⟨a, _⟩ | ⟨d', v, a, b, c⟩
  · rw [e] at a; cases a
  · rw [e] at a; cases a; exact ⟨v, b, c⟩
theorem erase_of {n : Nat} : ∀ {ds : List PK.D} {vs : List V} (k : Nat), Reps K lk ρ n H ds vs → Reps K lk ρ n H (ds.eraseIdx k) (vs.eraseIdx k)
  | [], vs, k, p => by rw [show vs = [] from p]; rfl
  | d :: ds, vs, 0, p => by obtain ⟨v, us, rfl, p1, p2⟩ := p; exact p2
  | d :: ds, vs, k + 1, p => by obtain ⟨v, us, rfl, p1, p2⟩ := p; exact ⟨v, us.eraseIdx k, rfl, p1, erase_of k p2⟩
theorem lst_at {d : PK.D} {y : V} {fs : List PK.D} (r : Rel K lk ρ G H) (p : Rep K lk ρ G.length H d y) (e : PK.lstD G d = some fs) : ∃ b us, y = .ref b ∧ H b = some (.lst us) ∧ Reps K lk ρ G.length H fs us := by
  cases d with
  | lst ds => cases e; obtain ⟨a, vs, h1, h2, _, h3⟩ := p; exact ⟨a, vs, h1, h2, h3⟩
  | ref i =>
    obtain ⟨hi, hv⟩ := p
    unfold PK.lstD at e
    cases z : G[i]? with
    | none => simp [z] at e
    | some c =>
      obtain ⟨u, h1, h2⟩ := r.cell i c z
      cases c with
      | lst ds => simp only [z] at e; cases e; obtain ⟨vs, e1, h3⟩ := h2; subst e1; exact ⟨_, vs, hv, h1, h3⟩
      | _ => simp [z] at e
  | _ => cases e
theorem mt_val (b : PK.Mt) {w : Bool} {m : List Nat} {v : PK.D} {x : V} {ds : List PK.D} {vs : List V} (r : Rel K lk ρ G H) (p : Rep K lk ρ G.length H v x) (ps : Reps K lk ρ G.length H ds vs)
    (h : OutE K lk W σ ρ G H (PK.mtD b w m v ds G) Q) : rMt K b x vs H Q := by
  cases b with
  | append => cases v with
    | ref i => match ds, ps, h with
      | [], _, h => exact False.elim h
      | _ :: _ :: _, _, h => exact False.elim h
      | [d], ps, h =>
        obtain ⟨y, rfl, py⟩ := ps.one_of
        obtain ⟨hi, hv⟩ := p
        unfold PK.mtD at h
        cases q : G[i]? with
        | none => simp only [q] at h; exact False.elim h
        | some c =>
          obtain ⟨u, h1, h2⟩ := r.cell i _ q
          cases c with
          | lst es =>
            simp only [q] at h
            obtain ⟨zs, rfl, h3⟩ := h2
            split at h
            · rename_i hc
              simp only [Bool.and_eq_true, decide_eq_true_eq] at hc
              refine ⟨ρ i, zs, y, hv, rfl, h1, ?_, OutE.put h r q ⟨_, rfl, h3.append (Reps.one py)⟩ rfl⟩
              rw [← h3.length, sizeLine_eq]; exact Nat.lt_of_lt_of_le hc.2 (by decide)
            · exact False.elim h
          | _ => simp only [q] at h; exact False.elim h
    | _ => exact False.elim h
  | extend => cases v with
    | ref i => match ds, ps, h with
      | [], _, h => exact False.elim h
      | _ :: _ :: _, _, h => exact False.elim h
      | [d], ps, h =>
        obtain ⟨y, rfl, py⟩ := ps.one_of
        obtain ⟨hi, hv⟩ := p
        unfold PK.mtD at h
        cases q : G[i]? with
        | none => simp only [q] at h; exact False.elim h
        | some c =>
          obtain ⟨u, h1, h2⟩ := r.cell i _ q
          cases c with
          | lst es =>
            simp only [q] at h
            obtain ⟨zs, rfl, h3⟩ := h2
            cases q2 : PK.lstD G d with
            | none => simp only [q2] at h; exact False.elim h
            | some fs =>
              simp only [q2] at h
              split at h
              · rename_i hc
                simp only [Bool.and_eq_true, decide_eq_true_eq] at hc
                obtain ⟨b, us, h4, h5, h6⟩ := lst_at r py q2
                refine ⟨ρ i, b, zs, us, hv, by rw [h4], h1, h5, ?_, OutE.put h r q ⟨_, rfl, h3.append h6⟩ rfl⟩
                rw [← h3.length, ← h6.length, sizeLine_eq]; exact Nat.le_trans (Nat.le_of_lt hc.2) (by decide)
              · exact False.elim h
          | _ => simp only [q] at h; exact False.elim h
    | _ => exact False.elim h
  | clear => cases v with
    | ref i => match ds, ps, h with
      | _ :: _, _, h => exact False.elim h
      | [], ps, h =>
        have e : vs = [] := ps
        obtain ⟨hi, hv⟩ := p
        unfold PK.mtD at h
        cases q : G[i]? with
        | none => simp only [q] at h; exact False.elim h
        | some c =>
          obtain ⟨u, h1, h2⟩ := r.cell i _ q
          cases c with
          | lst es =>
            simp only [q] at h
            obtain ⟨zs, rfl, h3⟩ := h2
            exact ⟨ρ i, zs, hv, e, h1, OutE.put (o := .lst []) h r q ⟨_, rfl, rfl⟩ rfl⟩
          | _ => simp only [q] at h; exact False.elim h
    | _ => exact False.elim h
  | pop0 => cases v with
    | ref i => match ds, ps, h with
      | _ :: _, _, h => exact False.elim h
      | [], ps, h =>
        have e : vs = [] := ps
        obtain ⟨hi, hv⟩ := p
        unfold PK.mtD at h
        cases q : G[i]? with
        | none => simp only [q] at h; exact False.elim h
        | some c =>
          obtain ⟨u, h1, h2⟩ := r.cell i _ q
          cases c with
          | lst es =>
            simp only [q] at h
            obtain ⟨zs, rfl, h3⟩ := h2
            cases q2 : es.getLast? with
            | none => simp only [q2] at h; exact False.elim h
            | some d =>
              simp only [q2] at h
              obtain ⟨y, h4, h5⟩ := last_of h3 q2
              exact ⟨ρ i, zs, y, hv, e, h1, h4, OutE.put h r q ⟨_, rfl, dropLast_of h3⟩ h5⟩
          | _ => simp only [q] at h; exact False.elim h
    | _ => exact False.elim h
  | pop1 => cases v with
    | ref i => match ds, ps, h with
      | [], _, h => exact False.elim h
      | d :: _ :: _, _, h => cases d <;> exact False.elim h
      | [d], ps, h =>
        obtain ⟨y, rfl, py⟩ := ps.one_of
        obtain ⟨hi, hv⟩ := p
        cases d with
        | int k =>
          rw [show y = V.int k from py]
          have h : OutE K lk W σ ρ G H (match G[i]? with | some (.lst ds) => (if 0 ≤ k ∧ k < 1000000 then match ds[k.toNat]? with | some d => .ok d (PK.setC G i (.lst (ds.eraseIdx k.toNat))) | none => .bad else .bad) | _ => .bad) Q := h
          cases q : G[i]? with
          | none => simp only [q] at h; exact False.elim h
          | some c =>
            obtain ⟨u, h1, h2⟩ := r.cell i _ q
            cases c with
            | lst es =>
              simp only [q] at h
              obtain ⟨zs, rfl, h3⟩ := h2
              split at h
              · rename_i hk
                cases q2 : es[k.toNat]? with
                | none => simp only [q2] at h; exact False.elim h
                | some d =>
                  simp only [q2] at h
                  obtain ⟨y, h4, h5⟩ := h3.get q2
                  have hlt := (List.getElem?_eq_some_iff.mp q2).1
                  have hlz := h3.length
                  have six : seqIndex? k zs.length = some k.toNat := by
                    have k0 : ¬ k < 0 := by omega
                    have k1 : k < (zs.length : Int) := by omega
                    simp [seqIndex?, k0, hk.1, k1]
                  exact ⟨ρ i, zs, k, k.toNat, y, hv, rfl, h1, by omega, by omega, six, h4, OutE.put h r q ⟨_, rfl, erase_of _ h3⟩ h5⟩
              · exact False.elim h
            | _ => simp only [q] at h; exact False.elim h
        | _ => exact False.elim h
    | _ => exact False.elim h
  | reverse => cases v with
    | ref i => match ds, ps, h with
      | _ :: _, _, h => exact False.elim h
      | [], ps, h =>
        have e : vs = [] := ps
        obtain ⟨hi, hv⟩ := p
        have h : OutE K lk W σ ρ G H (match G[i]? with | some (.lst ds) => .ok .non (PK.setC G i (.lst ds.reverse)) | _ => .bad) Q := h
        cases q : G[i]? with
        | none => simp only [q] at h; exact False.elim h
        | some c =>
          obtain ⟨u, h1, h2⟩ := r.cell i _ q
          cases c with
          | lst es =>
            simp only [q] at h
            obtain ⟨zs, rfl, h3⟩ := h2
            exact ⟨ρ i, zs, hv, e, h1, OutE.put h r q ⟨_, rfl, reverse_of h3⟩ rfl⟩
          | _ => simp only [q] at h; exact False.elim h
    | _ => exact False.elim h
  | popT => cases v with
    | ref i => match ds, ps, h with
      | [], _, h => exact False.elim h
      | d :: _ :: _, _, h => cases d <;> exact False.elim h
      | [d], ps, h =>
        obtain ⟨y, rfl, py⟩ := ps.one_of
        obtain ⟨hi, hv⟩ := p
        cases d with
        | tup ks =>
          have h : OutE K lk W σ ρ G H (match G[i]? with | some (.dT kvs) => (match PK.keysD ks with | some k => (match PK.valD kvs k with | some v => .ok v (PK.setC G i (.dT (PK.dropD kvs k))) | none => .bad) | none => .bad) | _ => .bad) Q := h
          cases q : G[i]? with
          | none => simp only [q] at h; exact False.elim h
          | some c =>
            obtain ⟨u, h1, h2⟩ := r.cell i _ q
            cases c with
            | dT kvs =>
              simp only [q] at h
              obtain ⟨zs, rfl, h3⟩ := h2
              cases e3 : PK.keysD ks with
              | none => simp only [e3] at h; exact False.elim h
              | some k =>
                simp only [e3] at h
                cases e4 : PK.valD kvs k with
                | none => simp only [e4] at h; exact False.elim h
                | some d =>
                  simp only [e4] at h
                  obtain ⟨b, ws, hb, ht, hks⟩ := py
                  have ht : H b = some (.tup ws) := by
                    rcases ht with ht | ht
                    · exact ht
                    · rw [e3] at ht; cases ht.2
                  rw [keys_of hks e3] at ht
                  obtain ⟨z, h4, h5⟩ := val_rep h3 e4
                  exact ⟨ρ i, zs, k, b, z, hv, by rw [hb], h1, ht, h4, OutE.put h r q ⟨_, rfl, drop_rep h3⟩ h5⟩
            | _ => simp only [q] at h; exact False.elim h
        | _ => exact False.elim h
    | _ => exact False.elim h
  | popK => cases v with
    | ref i => match ds, ps, h with
      | [], _, h => exact False.elim h
      | _ :: _ :: _, _, h => exact False.elim h
      | [d], ps, h =>
        obtain ⟨y, rfl, py⟩ := ps.one_of
        obtain ⟨hi, hv⟩ := p
        have h : OutE K lk W σ ρ G H (match G[i]? with | some (.dK kvs) => (match PK.keyD d with | some k => (match PK.valD kvs k with | some v => .ok v (PK.setC G i (.dK (PK.dropD kvs k))) | none => .bad) | none => .bad) | _ => .bad) Q := h
        cases q : G[i]? with
        | none => simp only [q] at h; exact False.elim h
        | some c =>
          obtain ⟨u, h1, h2⟩ := r.cell i _ q
          cases c with
          | dK kvs =>
            simp only [q] at h
            obtain ⟨zs, rfl, h3⟩ := h2
            cases e3 : PK.keyD d with
            | none => simp only [e3] at h; exact False.elim h
            | some k =>
              simp only [e3] at h
              cases e4 : PK.valD kvs k with
              | none => simp only [e4] at h; exact False.elim h
              | some d' =>
                simp only [e4] at h
                obtain ⟨z, h4, h5⟩ := val_rep h3 e4
                exact ⟨ρ i, zs, k, z, hv, by rw [key_of py e3], h1, h4, OutE.put h r q ⟨_, rfl, drop_rep h3⟩ h5⟩
          | _ => simp only [q] at h; exact False.elim h
    | _ => exact False.elim h
  | setd => cases v with
    | ref i => match ds, ps, h with
      | [], _, h => exact False.elim h
      | [_], _, h => exact False.elim h
      | _ :: _ :: _ :: _, _, h => exact False.elim h
      | [d, e], ps, h =>
        obtain ⟨y, xs1, rfl, py, z0, xs2, rfl, pz, rfl⟩ := ps
        obtain ⟨hi, hv⟩ := p
        have h : OutE K lk W σ ρ G H (match G[i]? with | some (.dK kvs) => (match PK.keyD d with | some k => if decide (kvs.length < 1000000) then (match PK.valD kvs k with | some v => .ok v G | none => if PK.wok i m e then .ok e (PK.setC G i (.dK (PK.putD kvs k e))) else .bad) else .bad | none => .bad) | _ => .bad) Q := h
        cases q : G[i]? with
        | none => simp only [q] at h; exact False.elim h
        | some c =>
          obtain ⟨u, h1, h2⟩ := r.cell i _ q
          cases c with
          | dK kvs =>
            simp only [q] at h
            obtain ⟨zs, rfl, h3⟩ := h2
            cases e3 : PK.keyD d with
            | none => simp only [e3] at h; exact False.elim h
            | some k =>
              simp only [e3] at h
              have hlen : zs.length = kvs.length := by have := congrArg List.length h3.1; simpa using this
              split at h
              · rename_i hc
                have hl : zs.length < sizeLine := by
                  rw [hlen, sizeLine_eq]; exact Nat.lt_of_lt_of_le (of_decide_eq_true hc) (by decide)
                cases e4 : PK.valD kvs k with
                | some d' =>
                  simp only [e4] at h
                  obtain ⟨z, h4, h5⟩ := val_rep h3 e4
                  exact ⟨ρ i, zs, k, z0, hv, by rw [key_of py e3], h1, hl, fun v e => by rw [h4] at e; cases e; exact OutE.here h r h5, fun e => by rw [h4] at e; cases e⟩
                | none =>
                  simp only [e4] at h
                  split at h
                  · rcases valD_of k h3 with ⟨a, b⟩ | ⟨d2, v2, a, b, c⟩
                    · exact ⟨ρ i, zs, k, z0, hv, by rw [key_of py e3], h1, hl, (fun v e => by rw [b] at e; cases e), fun _ => OutE.put h r q ⟨_, rfl, put_repM pz h3⟩ pz⟩
                    · rw [e4] at a; cases a
                  · exact False.elim h
              · exact False.elim h
          | _ => simp only [q] at h; exact False.elim h
    | _ => exact False.elim h
  | get1 => cases v with
    | ref i => match ds, ps, h with
      | [], _, h => exact False.elim h
      | _ :: _ :: _, _, h => exact False.elim h
      | [d], ps, h =>
        obtain ⟨y, rfl, py⟩ := ps.one_of
        have h : OutE K lk W σ ρ G H (match PK.lookD G (.ref i) d with | some o => .ok (o.getD .non) G | none => .bad) Q := h
        cases q : PK.lookD G (.ref i) d with
        | none => rw [q] at h; exact False.elim h
        | some o =>
          rw [q] at h
          obtain ⟨a, z, hx, hg, hz⟩ := look_of r p py q
          refine ⟨a, y, z, hx, rfl, hg, ?_⟩
          rcases hz with ⟨rfl, rfl⟩ | ⟨d', v', rfl, rfl, pv⟩
          · exact OutE.here h r rfl
          · exact OutE.here h r pv
    | _ => exact False.elim h
  | get2 => cases v with
    | ref i => match ds, ps, h with
      | [], _, h => exact False.elim h
      | [_], _, h => exact False.elim h
      | _ :: _ :: _ :: _, _, h => exact False.elim h
      | [d, e], ps, h =>
        obtain ⟨y, xs1, rfl, py, z0, xs2, rfl, pz, rfl⟩ := ps
        have h : OutE K lk W σ ρ G H (match PK.lookD G (.ref i) d with | some o => .ok (o.getD e) G | none => .bad) Q := h
        cases q : PK.lookD G (.ref i) d with
        | none => rw [q] at h; exact False.elim h
        | some o =>
          rw [q] at h
          obtain ⟨a, z, hx, hg, hz⟩ := look_of r p py q
          refine ⟨a, y, z0, z, hx, rfl, hg, ?_⟩
          rcases hz with ⟨rfl, rfl⟩ | ⟨d', v', rfl, rfl, pv⟩
          · exact OutE.here h r pz
          · exact OutE.here h r pv
    | _ => exact False.elim h
  | join => cases v with
    | str a => match ds, ps, h with
      | [], _, h => exact False.elim h
      | _ :: _ :: _, _, h => exact False.elim h
      | [d], ps, h =>
        obtain ⟨y, rfl, py⟩ := ps.one_of
        have h : OutE K lk W σ ρ G H (match (PK.seqD G d).bind PK.strsD with | some ys => if decide ((ys.map (·.length)).sum + ys.length * a.length ≤ 1000000) then .ok (.str (Txt.join a ys)) G else .bad | none => .bad) Q := h
        cases q : PK.seqD G d with
        | none => rw [q] at h; exact False.elim h
        | some es =>
          rw [q] at h
          have h : OutE K lk W σ ρ G H (match PK.strsD es with | some ys => if decide ((ys.map (·.length)).sum + ys.length * a.length ≤ 1000000) then .ok (.str (Txt.join a ys)) G else .bad | none => .bad) Q := h
          cases q2 : PK.strsD es with
          | none => rw [q2] at h; exact False.elim h
          | some ys =>
            rw [q2] at h
            simp only at h
            obtain ⟨A, zs, h1, h2, h3, _⟩ := seq_of q r py
            rw [strs_of q2 h3] at h2
            split at h
            · rename_i hc
              exact ⟨a, A, ys, p, by rw [h1], h2, Nat.le_trans (of_decide_eq_true hc) (by decide), OutE.here h r rfl⟩
            · exact False.elim h
    | _ => exact False.elim h
  | split => cases v with
    | str a => match ds, ps, h with
      | [], _, h => exact False.elim h
      | d1 :: _ :: _, _, h => cases d1 <;> exact False.elim h
      | [d], ps, h =>
        obtain ⟨y, rfl, py⟩ := ps.one_of
        cases d with
        | str s =>
          have h : OutE K lk W σ ρ G H (if decide (s.length ≠ 0 ∧ a.length ≤ 1000000) then PK.mkl w ((Txt.split a s).map .str) G else .bad) Q := h
          split at h
          · rename_i hc
            obtain ⟨c1, c2⟩ := of_decide_eq_true hc
            exact ⟨a, s, p, by rw [show y = V.str s from py], by simpa using c1, Nat.le_trans (Nat.add_le_add_right c2 2) (by rw [sizeLine_eq]; decide), OutE.mkl h r (of_strs _)⟩
          · exact False.elim h
        | _ => exact False.elim h
    | _ => exact False.elim h
  | startswith => cases v with
    | str a => match ds, ps, h with
      | [], _, h => exact False.elim h
      | d1 :: _ :: _, _, h => cases d1 <;> exact False.elim h
      | [d], ps, h =>
        obtain ⟨y, rfl, py⟩ := ps.one_of
        cases d with
        | str s => exact ⟨a, s, p, by rw [show y = V.str s from py], OutE.here h r rfl⟩
        | _ => exact False.elim h
    | _ => exact False.elim h
end
section
variable {X : Cx} {lk : Lk} {o e : Expr} {es : List Expr} {eo er : Ev} {pos apos : Pos} {m : List Nat}
def mtE (b : PK.Mt) (w : Bool) (m : List Nat) (eo er : Ev) : Ev := fun s G => (eo s G).bind fun y G1 => PK.iteK (PK.mtOk b G1 y) (fun _ => (er s G1).bind fun x G2 => PK.tupK x (fun ds => PK.mtD b w m y ds G2) .bad) fun _ => .bad
theorem few_of {pos : Pos} {env : Env} {e : Expr} {es : List Expr} (he : starEach (e :: es) env = (false, eval e env) :: starEach es env) (hpl : (backTo pos (starEach es env)).any (·.1) = false) (hl : es.length < 20) :
    ((backTo pos (starEach (e :: es) env)).all (fun x => !x.1) && (backToKw pos (keywordEach [] env)).all (fun x => x.1.isSome)
      && decide ((e :: es).length + ([] : List Keyword).length + (if ([] : List Keyword).isEmpty then 0 else 1) < 30)) = true := by
  rw [he]
  have h1 : (backTo pos ((false, eval e env) :: starEach es env)).all (fun x => !x.1) = true := by
    show (!false && (backTo pos (starEach es env)).all (fun x => !x.1)) = true
    have : (backTo pos (starEach es env)).all (fun x => !x.1) = true := by
      rw [List.all_eq_not_any_not]
      simpa using hpl
    rw [this]; rfl
  rw [h1]
  show (true && true && decide (es.length + 1 + 0 + 0 < 30)) = true
  simp; omega
theorem tBM_of {X : Cx} {b : PK.Mt} (nb : b ≠ .get1 ∧ b ≠ .get2) {w : Bool} {t : TA} (ht : ∀ σ H Q, liftA X.K lk (WXo X) er σ H Q → t σ H Q) : ∀ σ H Q, lift X.K lk (WXo X) (mtE b w m eo er) σ H Q → tBM X.K (mtT b) (rMt X.K b) (lift X.K lk (WXo X) eo) t σ H Q := fun σ H Q ⟨ρ, G, s, r, en, h⟩ => ⟨ρ, G, s, r, en, OutE.bind h fun v G1 _ ρ1 H1 x e1 r1 p1 h1 => by
  cases q : PK.mtOk b G1 v with
  | false => rw [q] at h1; exact False.elim h1
  | true =>
    rw [q] at h1
    refine ⟨mtOk_is nb r1 p1 q, ht _ _ _ ⟨ρ1, G1, s, r1, en.ext e1, ?_⟩⟩
    exact OutE.args h1 fun ds G2 ρ2 H2 xs e2 r2 p2 h2 => mt_val b r2 (Rep.ext e2 _ _ p1) p2 h2⟩
def tBMD (r : V → List V → Hp → VK → Prop) (to : TE) (t : TA) : TE := fun σ H Q => to σ H fun x H1 => (∃ a, x = .ref a ∧ IsD H1 a) ∧ t σ H1 fun xs H2 => r x xs H2 Q
theorem pe_bmD {X : Cx} {o e : Expr} {es : List Expr} {to : TE} {t : TA} {name : Str} {apos cpos : Pos} {id : String} {r : V → List V → Hp → VK → Prop} (slot : Slot "dict" name id) (hty : typeOf (.builtin id) = pure (.type "method_descriptor")) (hm : MtR X id r) (ho : PE X o to) (ha : PA X (e :: es) t)
    (hbase : attributeBase o name X.env (eval o X.env) = eval o X.env)
    (hfew : ((backTo cpos (starEach (e :: es) X.env)).all (fun x => !x.1) && (backToKw cpos (keywordEach [] X.env)).all (fun x => x.1.isSome) && decide ((e :: es).length + ([] : List Keyword).length + (if ([] : List Keyword).isEmpty then 0 else 1) < 30)) = true)
    (hline : (apos.endLine == cpos.line) = true) (hs : starEach (e :: es) X.env = (false, eval e X.env) :: starEach es X.env) (hplain : (backTo cpos (starEach es X.env)).any (·.1) = false) :
    PE X (.Call (.Attribute o name apos) (e :: es) [] cpos) (tBMD r to t) := by
  refine ⟨fun pins s σ H Q I h => ?_⟩
  refine wpAny_Call_method_late hbase hfew hline rfl (thn (ho.run pins s σ H _ I h) fun v s1 ⟨x, H1, I1, r1, ⟨a, ea, d⟩, q1⟩ => ?_)
  subst ea
  obtain rfl : v = Value.ref a := r1
  obtain ⟨h1, h2, _⟩ := isD_at I1 d
  refine ⟨"dict", id, F.plainAttrs_dict, slot, hty, h1, h2, ?_⟩
  have hA := ha.run cpos pins s1 σ H1 _ I1 q1
  rw [hs] at hA ⊢
  refine Calls.callWith_builtin (by show (false || (backTo cpos (starEach es X.env)).any (·.1)) = false; rw [hplain] <;> rfl) (Calls.evalArgs_plain ?_)
  exact thn hA fun us s2 ⟨vs, H2, I2, r2, q2⟩ => hm pins s2 σ H2 (.ref a) vs (.ref a) us Q I2 rfl r2 q2
theorem tBMD_of {X : Cx} {b : PK.Mt} (hb : b = .get1 ∨ b = .get2) {w : Bool} : ∀ σ H Q, lift X.K lk (WXo X) (mtE b w m eo er) σ H Q → tBMD (rMt X.K b) (lift X.K lk (WXo X) eo) (liftA X.K lk (WXo X) er) σ H Q := fun σ H Q ⟨ρ, G, s, r, en, h⟩ => ⟨ρ, G, s, r, en, OutE.bind h fun v G1 _ ρ1 H1 x e1 r1 p1 h1 => by
  cases q : PK.mtOk b G1 v with
  | false => rw [q] at h1; exact False.elim h1
  | true =>
    rw [q] at h1
    refine ⟨mtOk_d hb r1 p1 q, ⟨ρ1, G1, s, r1, en.ext e1, ?_⟩⟩
    exact OutE.args h1 fun ds G2 ρ2 H2 xs e2 r2 p2 h2 => mt_val b r2 (Rep.ext e2 _ _ p1) p2 h2⟩
theorem le_m1 (hu : X.A.units + 1 < cLine) (b : PK.Mt) (w : Bool) (hb : b = .append ∨ b = .join ∨ b = .split ∨ b = .startswith ∨ b = .extend ∨ b = .pop1 ∨ b = .popT ∨ b = .popK ∨ b = .get1 ∨ b = .get2 ∨ b = .setd) (ho : LE X lk o eo) (ha : LA X lk (e :: es) er) (hbase : attributeBase o (Str.ofString (mtN b)) X.env (eval o X.env) = eval o X.env) (hline : (apos.endLine == pos.line) = true)
    (he : starEach (e :: es) X.env = (false, eval e X.env) :: starEach es X.env) (hpl : (backTo pos (starEach es X.env)).any (·.1) = false) (hl : es.length < 20) :
    LE X lk (.Call (.Attribute o (Str.ofString (mtN b)) apos) (e :: es) [] pos) (mtE b w m eo er) := by
  have few := few_of he hpl hl
  have N : ∀ {b : PK.Mt}, b ≠ .get1 ∧ b ≠ .get2 → ∀ σ H Q, lift X.K lk (WXo X) (mtE b w m eo er) σ H Q → tBM X.K (mtT b) (rMt X.K b) (lift X.K lk (WXo X) eo) (liftA X.K lk (WXo X) er) σ H Q := fun nb => tBM_of nb fun _ _ _ h => h
  rcases hb with rfl | rfl | rfl | rfl | rfl | rfl | rfl | rfl | rfl | rfl | rfl
  · exact pe_imp (pe_bm F.plainAttrs_list F.slot_list_append F.type_list_append mt_append ho ha hbase few hline he hpl) (N (by decide))
  · exact pe_imp (pe_bm F.plainAttrs_str F.slot_str_join F.type_str_join mt_join ho ha hbase few hline he hpl) (N (by decide))
  · exact pe_imp (pe_bm F.plainAttrs_str F.slot_str_split F.type_str_split mt_split ho ha hbase few hline he hpl) (N (by decide))
  · exact pe_imp (pe_bm F.plainAttrs_str F.slot_str_startswith F.type_str_startswith mt_startswith ho ha hbase few hline he hpl) (N (by decide))
  · exact pe_imp (pe_bm F.plainAttrs_list F.slot_list_extend F.type_list_extend mt_extend ho ha hbase few hline he hpl) (N (by decide))
  · exact pe_imp (pe_bm F.plainAttrs_list F.slot_list_pop F.type_list_pop mt_popAt ho ha hbase few hline he hpl) (N (by decide))
  · exact pe_imp (pe_bm F.plainAttrs_dict F.slot_dict_pop F.type_dict_pop (mt_popT1 hu) ho ha hbase few hline he hpl) (N (by decide))
  · exact pe_imp (pe_bm F.plainAttrs_dict F.slot_dict_pop F.type_dict_pop mt_popK1 ho ha hbase few hline he hpl) (N (by decide))
  · exact pe_imp (pe_bmD F.slot_dict_get F.type_dict_get (mt_get1 hu) ho ha hbase few hline he hpl) (tBMD_of (.inl rfl))
  · exact pe_imp (pe_bmD F.slot_dict_get F.type_dict_get (mt_get2 hu) ho ha hbase few hline he hpl) (tBMD_of (.inr rfl))
  · exact pe_imp (pe_bm F.plainAttrs_dict F.slot_dict_setdefault F.type_dict_setdefault mt_setd ho ha hbase few hline he hpl) (N (by decide))
theorem le_m0 (b : PK.Mt) (w : Bool) (hb : b = .clear ∨ b = .pop0 ∨ b = .reverse) (ho : LE X lk o eo) (hbase : attributeBase o (Str.ofString (mtN b)) X.env (eval o X.env) = eval o X.env) (hline : (apos.endLine == pos.line) = true) :
    LE X lk (.Call (.Attribute o (Str.ofString (mtN b)) apos) [] [] pos) (mtE b w m eo fun _ G => .ok (.tup []) G) := by
  have T : PE X (.Call (.Attribute o (Str.ofString (mtN b)) apos) [] [] pos) (tBM0 X.K (mtT b) (rMt X.K b) (lift X.K lk (WXo X) eo)) := by
    rcases hb with rfl | rfl | rfl
    · exact pe_bm0 F.plainAttrs_list F.slot_list_clear F.type_list_clear mt_clear ho hbase hline
    · exact pe_bm0 F.plainAttrs_list F.slot_list_pop F.type_list_pop mt_pop ho hbase hline
    · exact pe_bm0 F.plainAttrs_list F.slot_list_reverse F.type_list_reverse mt_reverse ho hbase hline
  exact pe_imp T fun σ H Q h => tBM_of (b := b) (by rcases hb with rfl | rfl | rfl <;> decide) (er := fun _ G => .ok (.tup []) G) (t := tNil) (fun σ H Q ⟨ρ, G, s, r, en, h⟩ => h ρ H [] Ext.refl r ⟨[], rfl, rfl⟩) σ H Q h
end
end PKS
namespace PKS
open PySem PySem.Spec PyProof.Rows L2
abbrev Ex := PK.Env → Cells → PK.O
def OutS (K : PySem.W.Frag) (lk : Lk) (W : WX) (ρ : Nm) (G : Cells) (H : Hp) (D : Ends) (r : PK.O) : Prop := match r with
  | .nx s G' => ∀ ρ' H' σ', Ext ρ G.length H ρ' G'.length H' → Rel K lk ρ' G' H' → REnv K lk ρ' G'.length H' s σ' → D.nx σ' H'
  | .brk s G' => ∀ ρ' H' σ', Ext ρ G.length H ρ' G'.length H' → Rel K lk ρ' G' H' → REnv K lk ρ' G'.length H' s σ' → D.bk σ' H'
  | .cnt s G' => ∀ ρ' H' σ', Ext ρ G.length H ρ' G'.length H' → Rel K lk ρ' G' H' → REnv K lk ρ' G'.length H' s σ' → D.ct σ' H'
  | .ret v G' => ∀ ρ' H' x, Ext ρ G.length H ρ' G'.length H' → Rel K lk ρ' G' H' → Rep K lk ρ' G'.length H' v x → D.rt x H'
  | .exc c s G' => ∀ ρ' H' σ', Ext ρ G.length H ρ' G'.length H' → Rel K lk ρ' G' H' → REnv K lk ρ' G'.length H' s σ' → W (lk.EV c) (tnt c) σ' H'
  | .bad => False
def liftS (K : PySem.W.Frag) (lk : Lk) (W : WX) (ex : Ex) : TS := fun D σ H => ∃ ρ G s, Rel K lk ρ G H ∧ REnv K lk ρ G.length H s σ ∧ OutS K lk W ρ G H D (ex s G)
abbrev LS (X : Cx) (lk : Lk) (st : Stmt) (ex : Ex) : Prop := PS X st (liftS X.K lk (WXo X) ex)
abbrev LSs (X : Cx) (lk : Lk) (sts : List Stmt) (ex : Ex) : Prop := PSs X sts (liftS X.K lk (WXo X) ex)
section
variable {K : PySem.W.Frag} {lk : Lk} {W : WX} {σ : L2.St} {ρ ρ1 : Nm} {G G1 : Cells} {H H1 : Hp} {s : PK.Env} {D : Ends}
theorem OutS.ext {r : PK.O} (e : Ext ρ G.length H ρ1 G1.length H1) (h : OutS K lk W ρ G H D r) : OutS K lk W ρ1 G1 H1 D r := by
  cases r with
  | nx s G' => exact fun ρ' H' x e' r' p' => h ρ' H' x (e.trans e') r' p'
  | brk s G' => exact fun ρ' H' x e' r' p' => h ρ' H' x (e.trans e') r' p'
  | cnt s G' => exact fun ρ' H' x e' r' p' => h ρ' H' x (e.trans e') r' p'
  | ret v G' => exact fun ρ' H' x e' r' p' => h ρ' H' x (e.trans e') r' p'
  | exc c s G' => exact fun ρ' H' σ' e' r' => h ρ' H' σ' (e.trans e') r'
  | bad => exact h
theorem OutS.seq {r : PK.O} {f : PK.Env → Cells → PK.O} (h : OutS K lk W ρ G H D (r.then f)) : OutS K lk W ρ G H { D with nx := liftS K lk W f D } r := by
  cases r with
  | nx s G' => exact fun ρ' H' σ' e' r' p' => ⟨ρ', G', s, r', p', OutS.ext e' h⟩
  | brk s G' => exact h
  | cnt s G' => exact h
  | ret v G' => exact h
  | exc c s G' => exact h
  | bad => exact h
theorem OutS.bind {r : PK.R} {f : PK.D → Cells → PK.O} {Q1 : VK} (en : REnv K lk ρ G.length H s σ) (h : OutS K lk W ρ G H D (PK.R.st s r f))
    (k : ∀ v G1, ∀ ρ1 H1 x, Ext ρ G.length H ρ1 G1.length H1 → Rel K lk ρ1 G1 H1 → Rep K lk ρ1 G1.length H1 v x → OutS K lk W ρ1 G1 H1 D (f v G1) → Q1 x H1) : OutE K lk W σ ρ G H r Q1 := by
  cases r with
  | ok v G1 => exact fun ρ1 H1 x e1 r1 p1 => k v G1 ρ1 H1 x e1 r1 p1 (OutS.ext e1 h)
  | exc c G' => exact fun ρ1 H1 e1 r1 => h ρ1 H1 σ e1 r1 (en.ext e1)
  | bad => exact h
theorem OutS.bindT {r : PK.R} {f : Bool → Cells → PK.O} {Q1 : Bool → Hp → Prop} (en : REnv K lk ρ G.length H s σ) (h : OutS K lk W ρ G H D (PK.R.st s r fun c G1 => PK.blK c (fun t => f t G1) .bad))
    (k : ∀ b G1, ∀ ρ1 H1, Ext ρ G.length H ρ1 G1.length H1 → Rel K lk ρ1 G1 H1 → OutS K lk W ρ1 G1 H1 D (f b G1) → Q1 b H1) : OutT K lk W σ ρ G H r Q1 := by
  cases r with
  | ok v G1 =>
    cases v with
    | bl b => exact ⟨b, rfl, fun ρ1 H1 e1 r1 => k b G1 ρ1 H1 e1 r1 (OutS.ext e1 h)⟩
    | _ => exact False.elim h
  | exc c G' => exact fun ρ1 H1 e1 r1 => h ρ1 H1 σ e1 r1 (en.ext e1)
  | bad => exact h
theorem OutS.here {s : PK.Env} (h : OutS K lk W ρ G H D (.nx s G)) (r : Rel K lk ρ G H) (en : REnv K lk ρ G.length H s σ) : D.nx σ H := h ρ H σ Ext.refl r en
end
section
variable {X : Cx} {lk : Lk} {a b c e o : Expr} {es : List Expr} {st : Stmt} {sts : List Stmt} {ea eb ec er : Ev} {ex ex1 ex2 : Ex} {pos p p1 p2 tpos : Pos} {t t' : TS} {x y : Str} {i j : Nat}
theorem ps_imp (h : PS X st t) (hi : ∀ D σ H, t' D σ H → t D σ H) : PS X st t' := ⟨fun pins s σ H D I q => h.run pins s σ H D I (hi D σ H q)⟩
theorem pss_imp (h : PSs X sts t) (hi : ∀ D σ H, t' D σ H → t D σ H) : PSs X sts t' := ⟨fun pins s σ H D I q => h.run pins s σ H D I (hi D σ H q)⟩
theorem ls_pass : LS X lk (.Pass pos) (fun s G => .nx s G) := ps_imp ps_pass fun D σ H ⟨ρ, G, s, r, en, h⟩ => OutS.here h r en
theorem lss_nil : LSs X lk [] (fun s G => .nx s G) := pss_imp pss_nil fun D σ H ⟨ρ, G, s, r, en, h⟩ => OutS.here h r en
theorem ls_brk : LS X lk (.Break pos) (fun s G => .brk s G) := ps_imp ps_break fun D σ H ⟨ρ, G, s, r, en, h⟩ => h ρ H σ Ext.refl r en
theorem ls_cnt : LS X lk (.Continue pos) (fun s G => .cnt s G) := ps_imp ps_continue fun D σ H ⟨ρ, G, s, r, en, h⟩ => h ρ H σ Ext.refl r en
structure ExcK (K : PySem.W.Frag) (C : Addr) : Prop where
  ex : PySem.W.excIn K C [.type "ValueError", .type "Exception", .type "BaseException", .type "object"] "ValueError.__new__" = true
  kp : PySem.W.keepIn K (.ref C) = true
  sb : PySem.W.subIn K (.ref C) (.type "BaseException") = some true
  ty : PySem.W.typeIn K (.ref C) = some (.type "type")
theorem ls_raise {n j : Nat} {m : Str} (hc : X.calm = true) (hn : n < 1000) (hg : Gl X x) (hm : X.mg x = some (.ref (lk.EA n))) (E : ExcK X.K (lk.EA n)) (hd : (x == ("__debug__" : Str)) = false) :
    LS X lk (.Raise (some (.Call (.Name x p) [.Constant (.str m) j p1] [] p2)) none pos) (fun s G => .exc n s G) :=
  ps_imp (L2N.ps_raise hc (takes_n X) (L2N.pmk_own PySem.F.excBase_ValueError E.ex hm E.kp (raises_own E.sb E.ty) hg hd)) fun D σ H ⟨ρ, G, s, r, en, h⟩ => ⟨rfl, by
    have h := h ρ H σ Ext.refl r en
    rw [EV_lo hn, tnt_lo hn] at h
    exact h⟩
theorem ls_try {body : List Stmt} {h₀ : ExceptHandler} {hs : List ExceptHandler} {pos : Pos} {ex : Ex} (h : LSs X.nox lk body ex) : LS X lk (.Try body (h₀ :: hs) [] [] pos) (fun s G => (ex s G).thru) :=
  ps_imp (ps_try_thru0 h) fun D σ H ⟨ρ, G, s, r, en, q⟩ => ⟨ρ, G, s, r, en, by
    have q : OutS X.K lk (WXo X) ρ G H D (ex s G).thru := q
    show OutS X.K lk (WXo X.nox) ρ G H D (ex s G)
    cases e : ex s G with
    | exc c s' G' => rw [e] at q; exact False.elim q
    | nx s' G' => rw [e] at q; exact q
    | ret v G' => rw [e] at q; exact q
    | brk s' G' => rw [e] at q; exact q
    | cnt s' G' => rw [e] at q; exact q
    | bad => rw [e] at q; exact q⟩
theorem lss_one (h : LS X lk st ex) : LSs X lk [st] ex := pss_one h
theorem lss_cons (h1 : LS X lk st ex1) (h2 : LSs X lk sts ex2) : LSs X lk (st :: sts) (fun s G => (ex1 s G).then fun s1 G1 => ex2 s1 G1) :=
  pss_imp (pss_cons h1 h2) fun D σ H ⟨ρ, G, s, r, en, h⟩ => ⟨ρ, G, s, r, en, OutS.seq h⟩
theorem ls_ex (hs : swapsWith e none pos.line X.env = pure false) (he : LE X lk e ea) : LS X lk (.Expr e pos) (fun s G => PK.R.st s (ea s G) fun _ G1 => .nx s G1) :=
  ps_imp (ps_expr he hs) fun D σ H ⟨ρ, G, s, r, en, h⟩ => ⟨ρ, G, s, r, en, OutS.bind en h fun v G1 ρ1 H1 x e1 r1 p1 h1 => OutS.here h1 r1 (en.ext e1)⟩
theorem ls_ret (he : LE X lk e ea) : LS X lk (.Return (some e) pos) (fun s G => PK.R.st s (ea s G) fun v G1 => .ret v G1) :=
  ps_imp (ps_ret he) fun D σ H ⟨ρ, G, s, r, en, h⟩ => ⟨ρ, G, s, r, en, OutS.bind en h fun v G1 ρ1 H1 x e1 r1 p1 h1 => h1 ρ1 H1 x Ext.refl r1 p1⟩
theorem ls_retN : LS X lk (.Return none pos) (fun s G => .ret .non G) :=
  ps_imp ps_retN fun D σ H ⟨ρ, G, s, r, en, h⟩ => h ρ H .non Ext.refl r rfl
theorem ls_set (hN : X.N.Nodup) (hi : X.N[i]? = some x) (hx : Loc X.env.scope x) (hf : X.fn x = true ∨ X.env.scope.names.lookup x = some .local) (hs : swapsWith e (some (.Name x p)) pos.line X.env = pure false) (hP : ∀ σ v, lk.P σ → lk.P (σ.set i (some v))) (he : LE X lk e ea) :
    LS X lk (.Assign [.Name x p] e pos) (fun s G => PK.R.st s (ea s G) fun v G1 => .nx (PK.seti s i v) G1) :=
  ps_imp (ps_set hN hi hx he hs hf) fun D σ H ⟨ρ, G, s, r, en, h⟩ => ⟨ρ, G, s, r, en, OutS.bind en h fun v G1 ρ1 H1 x e1 r1 p1 h1 => OutS.here h1 r1 ((en.ext e1).set p1 (hP _ _))⟩
theorem ls_if {sa sb : List Stmt} (hc : LT X lk c ec) (ha : LSs X lk sa ex1) (hb : LSs X lk sb ex2) :
    LS X lk (.If c sa sb pos) (fun s G => PK.R.st s (ec s G) fun c G1 => PK.blK c (fun t => PK.iteK t (fun _ => ex1 s G1) fun _ => ex2 s G1) .bad) :=
  ps_imp (ps_if hc ha hb) fun D σ H ⟨ρ, G, s, r, en, h⟩ => ⟨ρ, G, s, r, en, OutS.bindT (f := fun t G1 => PK.iteK t (fun _ => ex1 s G1) fun _ => ex2 s G1) en h fun b G1 ρ1 H1 e1 r1 h1 => by
    cases b with
    | true => rw [if_pos rfl]; exact ⟨ρ1, G1, s, r1, en.ext e1, h1⟩
    | false => rw [if_neg Bool.false_ne_true]; exact ⟨ρ1, G1, s, r1, en.ext e1, h1⟩⟩

def LG (X : Cx) (lk : Lk) (tg : Expr) (f : PK.D → PK.Env → Cells → PK.O) : Prop :=
  PG X tg (fun v σ H Q => ∃ ρ G s d, Rel X.K lk ρ G H ∧ REnv X.K lk ρ G.length H s σ ∧ Rep X.K lk ρ G.length H d v ∧ OutS X.K lk (WXo X) ρ G H { nx := Q, rt := fun _ _ => False } (f d s G))
theorem lg_nm (hN : X.N.Nodup) (hi : X.N[i]? = some x) (hx : Loc X.env.scope x) (hf : X.fn x = true ∨ X.env.scope.names.lookup x = some .local) (hP : ∀ σ v, lk.P σ → lk.P (σ.set i (some v))) : LG X lk (.Name x p) (fun d s G => .nx (PK.seti s i d) G) :=
  ⟨fun pins s' σ H v u Q I ru ⟨ρ, G, s, d, r, en, pv, h⟩ => (pg_name (pos := p) hN hi hx hf).run pins s' σ H v u Q I ru (OutS.here h r (en.set pv (hP _ _)))⟩
theorem put_rep {κ : Type} [DecidableEq κ] {K : PySem.W.Frag} {ρ : Nm} {n : Nat} {H : Hp} {k : κ} {d : PK.D} {v : V} (q : Rep K lk ρ n H d v) : ∀ {kvs : List (κ × PK.D)} {zs : List (κ × V)}, RepK K lk ρ n H kvs zs → RepK K lk ρ n H (PK.putD kvs k d) (putK zs k v) := by
  intro kvs zs h
  obtain ⟨h1, h2⟩ := h
  have any : ∀ {α β : Type} (f : κ → Bool) (l : List (κ × α)) (l' : List (κ × β)), l.map (·.1) = l'.map (·.1) → (l.any fun kv => f kv.1) = l'.any fun kv => f kv.1 := fun f l l' e => by
    have e1 : (l.any fun kv => f kv.1) = (l.map (·.1)).any f := by rw [List.any_map]; rfl
    have e2 : (l'.any fun kv => f kv.1) = (l'.map (·.1)).any f := by rw [List.any_map]; rfl
    rw [e1, e2, e]
  have ea := any (fun z => decide (z = k)) zs kvs h1
  unfold PK.putD putK
  by_cases c : (kvs.any fun kv => decide (kv.1 = k)) = true
  · rw [if_pos c, if_pos (ea.trans c)]
    clear ea c
    have go : ∀ (kvs : List (κ × PK.D)) (zs : List (κ × V)), zs.map (·.1) = kvs.map (·.1) → Reps K lk ρ n H (kvs.map (·.2)) (zs.map (·.2)) →
        RepK K lk ρ n H (kvs.map fun kv => if kv.1 = k then (kv.1, d) else kv) (zs.map fun kv => if kv.1 = k then (kv.1, v) else kv) := by
      intro kvs
      induction kvs with
      | nil =>
        intro zs h1 h2
        cases zs with
        | nil => exact ⟨rfl, rfl⟩
        | cons z zs => simp at h1
      | cons kv kvs ih =>
        intro zs h1 h2
        cases zs with
        | nil => simp at h1
        | cons z zs =>
          obtain ⟨x, xs, e, h3, h4⟩ := h2
          simp only [List.map_cons, List.cons.injEq] at h1 e
          obtain ⟨i1, i2⟩ := ih zs h1.2 (by rw [e.2]; exact h4)
          refine ⟨?_, ?_⟩
          · simp only [List.map_cons, List.cons.injEq]
            refine ⟨?_, i1⟩
            rw [h1.1]
            split <;> simp [h1.1]
          · rw [List.map_cons, List.map_cons, List.map_cons, List.map_cons]
            refine ⟨_, _, rfl, ?_, i2⟩
            rw [h1.1]
            split
            · exact q
            · rw [e.1]; exact h3
    exact go kvs zs h1 h2
  · rw [if_neg c, if_neg (by rw [ea]; exact c)]
    exact ⟨by rw [List.map_append, List.map_append, h1]; rfl, by rw [List.map_append, List.map_append]; exact h2.append (Reps.one q)⟩
def rPut (K : PySem.W.Frag) : TSet := fun o i v H Q => rSetL o i v H Q ∨ rSetD o i v H Q
theorem set_all (hu : X.A.units + 1 < cLine) : PSet X (rPut X.K) := fun pins s σ H o i v ov iv u Q I ro ri rv h => h.elim (set_list pins s σ H o i v ov iv u Q I ro ri rv) (set_dict hu pins s σ H o i v ov iv u Q I ro ri rv)
theorem ix_len {l n : Nat} {k : Int} {j : Nat} (e : l = n) (h : L2.ixN l k = some j) : L2.ixN n k = some j := e ▸ h
theorem put_val {K : PySem.W.Frag} {σ : L2.St} {ρ : Nm} {G : Cells} {H : Hp} {m : List Nat} {x y v : PK.D} {xo xi xv : V} {s : PK.Env} {D : Ends} (r : Rel K lk ρ G H) (en : REnv K lk ρ G.length H s σ) (p1 : Rep K lk ρ G.length H x xo) (p2 : Rep K lk ρ G.length H y xi) (p3 : Rep K lk ρ G.length H v xv)
    (h : OutS K lk W ρ G H D (PK.putV m x y v s G)) : rPut K xo xi xv H (D.nx σ) := by
  cases x with
  | ref q =>
    obtain ⟨hq, ho⟩ := p1
    cases e : G[q]? with
    | none => unfold PK.putV at h; simp only [e] at h; exact False.elim h
    | some cl =>
      obtain ⟨u, h1, h2⟩ := r.cell q _ e
      have fin : PK.unl cl = true → ∀ {c' : PK.Cell} {o : HO}, OutS K lk W ρ G H D (.nx s (PK.setC G q c')) → RepC K lk ρ G.length H c' o → D.nx σ (upd H (ρ q) o) := fun hu {c' o} h rc => by
        have e2 : Ext ρ G.length H ρ (PK.setC G q c').length (upd H (ρ q) o) := by
          show Ext ρ G.length H ρ (G.set q c').length _
          rw [List.length_set]; exact r.exw e hu
        exact h ρ _ σ e2 (r.written e rc hu) (en.ext e2)
      cases cl with
      | lst ds =>
        obtain ⟨zs, rfl, h3⟩ := h2
        have h : OutS K lk W ρ G H D (PK.putL q m ds y v s G) := by unfold PK.putV at h; simp only [e] at h; exact h
        cases y with
        | int k =>
          have h : OutS K lk W ρ G H D (match L2.ixN ds.length k with | some j => if PK.wok q m v then .nx s (PK.setC G q (.lst (ds.set j v))) else .bad | none => .bad) := h
          cases e3 : L2.ixN ds.length k with
          | none => rw [e3] at h; exact False.elim h
          | some j =>
            rw [e3] at h
            simp only at h
            split at h
            · exact .inl ⟨ρ q, zs, k, j, ho, p2, h1, ix_len h3.length e3, fin rfl h ⟨_, rfl, h3.set p3⟩⟩
            · exact False.elim h
        | _ => exact False.elim h
      | dK kvs =>
        obtain ⟨zs, rfl, h3⟩ := h2
        have h : OutS K lk W ρ G H D (PK.putDK q m kvs y v s G) := by unfold PK.putV at h; simp only [e] at h; exact h
        unfold PK.putDK at h
        cases e3 : PK.keyD y with
        | none => rw [e3] at h; exact False.elim h
        | some k =>
          rw [e3] at h
          simp only at h
          split at h
          · rename_i hc
            simp only [Bool.and_eq_true, decide_eq_true_eq] at hc
            have hl : zs.length < sizeLine := by
              have : zs.length = kvs.length := by have := congrArg List.length h3.1; simpa using this
              rw [this, sizeLine_eq]; exact Nat.lt_of_lt_of_le hc.2 (by decide)
            exact .inr ⟨ρ q, _, ho, .inl ⟨zs, k, h1, key_of p2 e3, hl, rfl⟩, fin rfl h ⟨_, rfl, put_rep p3 h3⟩⟩
          · exact False.elim h
      | dT kvs =>
        obtain ⟨zs, rfl, h3⟩ := h2
        have h : OutS K lk W ρ G H D (PK.putDT q m kvs y v s G) := by unfold PK.putV at h; simp only [e] at h; exact h
        cases y with
        | tup ks =>
          have h : OutS K lk W ρ G H D (match PK.keysD ks with | some k => if PK.wok q m v && decide (kvs.length < 1000000) then .nx s (PK.setC G q (.dT (PK.putD kvs k v))) else .bad | none => .bad) := h
          cases e3 : PK.keysD ks with
          | none => rw [e3] at h; exact False.elim h
          | some k =>
            rw [e3] at h
            simp only at h
            split at h
            · rename_i hc
              simp only [Bool.and_eq_true, decide_eq_true_eq] at hc
              have hl : zs.length < sizeLine := by
                have : zs.length = kvs.length := by have := congrArg List.length h3.1; simpa using this
                rw [this, sizeLine_eq]; exact Nat.lt_of_lt_of_le hc.2 (by decide)
              obtain ⟨b, ws, hb, ht, hks⟩ := p2
              have ht : H b = some (.tup ws) := by
                rcases ht with ht | ht
                · exact ht
                · rw [e3] at ht; cases ht.2
              rw [keys_of hks e3] at ht
              exact .inr ⟨ρ q, _, ho, .inr ⟨zs, k, b, h1, hb, ht, hl, rfl⟩, fin rfl h ⟨_, rfl, put_rep p3 h3⟩⟩
            · exact False.elim h
        | _ => exact False.elim h
      | ins c ds => unfold PK.putV at h; simp only [e] at h; exact False.elim h
      | frK ds => unfold PK.putV at h; simp only [e] at h; exact False.elim h
  | _ => exact False.elim h
theorem lg_sub {m : List Nat} {eo ei : Ev} (hu : X.A.units + 1 < cLine) (hs : ∀ lo hi st q, b ≠ .Slice lo hi st q) (ho : LE X lk a eo) (hi : LE X lk b ei)
    (ha : ∀ v, assign (.Subscript a b pos) X.env v = (do
      let ov ← holding [v] (eval a X.env)
      let iv ← holding [v, ov] (eval b X.env)
      standAt pos
      holding [v, ov, iv] (setItem ov iv v)
      release [v, ov, iv] [])) :
    LG X lk (.Subscript a b pos) (fun v s G => PK.R.st s (eo s G) fun x G1 => PK.R.st s (ei s G1) fun y G2 => PK.putV m x y v s G2) :=
  ⟨fun pins s' σ H v u Q I ru ⟨ρ, G, s, d, r, en, pv, h⟩ => (pg_sub ho hi (set_all hu) ha).run pins s' σ H v u Q I ru
    ⟨ρ, G, s, r, en, OutS.bind en h fun x G1 ρ1 H1 xo e1 r1 p1 h1 => ⟨ρ1, G1, s, r1, en.ext e1, OutS.bind (en.ext e1) h1 fun y G2 ρ2 H2 xi e2 r2 p2 h2 =>
      put_val r2 (en.ext (e1.trans e2)) (Rep.ext e2 _ _ p1) p2 (Rep.ext (e1.trans e2) _ _ pv) h2⟩⟩⟩
theorem ls_put {f : PK.D → PK.Env → Cells → PK.O} {tg : Expr} (hg : LG X lk tg f) (hv : ∀ v s G, match f v s G with | .nx _ _ => True | .exc _ _ _ => True | .bad => True | _ => False) (he : LE X lk e ea) (hs : swapsWithSole [tg] e pos.line X.env = pure false) (hw : swappedStores [tg] e X.env = pure none)
    (h1 : (assignEach [tg] X.env).map (·.2) = [assign tg X.env]) : LS X lk (.Assign [tg] e pos) (fun s G => PK.R.st s (ea s G) fun v G1 => f v s G1) :=
  ps_imp (ps_asg he hg hs hw h1) fun D σ H ⟨ρ, G, s, r, en, h⟩ => ⟨ρ, G, s, r, en, OutS.bind en h fun v G1 ρ1 H1 x e1 r1 p1 h1 => ⟨ρ1, G1, s, v, r1, en.ext e1, p1, by
    have z := hv v s G1
    cases q : f v s G1 with
    | nx s' G' => rw [q] at h1; exact h1
    | exc c s' G' => rw [q] at h1; exact h1
    | bad => rw [q] at h1; exact h1
    | ret v G' => rw [q] at z; exact z.elim
    | brk v G' => rw [q] at z; exact z.elim
    | cnt v G' => rw [q] at z; exact z.elim⟩⟩

theorem REnv.same {K : PySem.W.Frag} {ρ : Nm} {n : Nat} {H : Hp} {s : PK.Env} {σ σ' : L2.St} (h : REnv K lk ρ n H s σ) (e : σ = σ') : REnv K lk ρ n H s σ' := e ▸ h
inductive Nms (X : Cx) : List Nat → List Expr → Prop where
  | nil : Nms X [] []
  | cons {i : Nat} {is : List Nat} {x : Str} {p : Pos} {es : List Expr} (hi : X.N[i]? = some x) (hx : Loc X.env.scope x) (hf : X.fn x = true ∨ X.env.scope.names.lookup x = some .local) (t : Nms X is es) : Nms X (i :: is) (.Name x p :: es)
def gNms : List Nat → TGs
  | [] => gNil
  | i :: is => gCons (gName i) (gNms is)
theorem assignEach_name {x : Str} {p : Pos} {es : List Expr} {env : Env} : assignEach (.Name x p :: es) env = (false, assign (.Name x p) env) :: assignEach es env := by
  first | rfl | (unfold assignEach; rfl)
theorem pgs_nms (hN : X.N.Nodup) : ∀ {is : List Nat} {es : List Expr}, Nms X is es → PGs X es (gNms is)
  | _, _, .nil => pgs_nil
  | _, _, .cons hi hx hf t => pgs_cons (pg_name hN hi hx hf) (pgs_nms hN t) (by rw [assignEach_name]; rfl)
theorem nms_len : ∀ {is : List Nat} {es : List Expr}, Nms X is es → (assignEach es X.env).length = is.length ∧ (assignEach es X.env).findIdx? (·.1) = none
  | _, _, .nil => ⟨rfl, rfl⟩
  | _, _, .cons hi hx hf t => by
    obtain ⟨h1, h2⟩ := nms_len t
    rw [assignEach_name]
    exact ⟨by rw [List.length_cons, List.length_cons, h1], by rw [List.findIdx?_cons, h2]; rfl⟩
theorem pg_nms {k : Nat} {is : List Nat} (hc : X.calm = true) (hN : X.N.Nodup) (h : Nms X is es) : PG X (.Tuple es k pos) (gTup X.K is.length (gNms is)) :=
  pg_tup hc (pgs_nms hN h) (nms_len h).1 (nms_len h).2
def setAll (is : List Nat) (vs : List V) (σ : L2.St) : L2.St := (is.zip vs).foldl (fun σ p => σ.set p.1 (some p.2)) σ
theorem gNms_of {is : List Nat} : ∀ {vs : List V} {σ : L2.St} {H : Hp} {Q : L2.St → Hp → Prop}, vs.length = is.length → Q (setAll is vs σ) H → gNms is vs σ H Q := by
  induction is with
  | nil =>
    intro vs σ H Q hl h
    cases vs with
    | nil => exact ⟨rfl, h⟩
    | cons _ _ => simp at hl
  | cons i is ih =>
    intro vs σ H Q hl h
    cases vs with
    | nil => simp at hl
    | cons v vs => exact ⟨v, vs, rfl, ih (by simpa using hl) h⟩
theorem pars_rel {K : PySem.W.Frag} {ρ : Nm} {n : Nat} {H : Hp} (hF : lk.Free) : ∀ {is : List Nat} {ds : List PK.D} {vs : List V} {s : PK.Env} {σ : L2.St}, Reps K lk ρ n H ds vs → REnv K lk ρ n H s σ → REnv K lk ρ n H ((is.zip ds).foldl (fun s p => PK.seti s p.1 p.2) s) (setAll is vs σ)
  | [], ds, vs, s, σ, p, en => en
  | i :: is, [], vs, s, σ, p, en => by rw [show vs = [] from p]; exact en
  | i :: is, d :: ds, vs, s, σ, p, en => by
    obtain ⟨x, xs, h1, h2, h3⟩ := p
    rw [h1]
    exact pars_rel hF (is := is) h3 (en.set h2 (fun _ => hF _))
inductive Pat (X : Cx) (tg : Expr) (pt : List Nat) : Bool → Prop where
  | one {i : Nat} {x : Str} {p : Pos} (h : tg = .Name x p) (hp : pt = [i]) (hi : X.N[i]? = some x) (hx : Loc X.env.scope x) (hf : X.fn x = true ∨ X.env.scope.names.lookup x = some .local) : Pat X tg pt true
  | tup {es : List Expr} {k : Nat} {p : Pos} (h : tg = .Tuple es k p) (hn : Nms X pt es) : Pat X tg pt false
def gPat (K : PySem.W.Frag) (pt : List Nat) : Bool → TG
  | true => fun v σ H Q => ∃ i, pt = [i] ∧ Q (σ.set i (some v)) H
  | false => fun v σ H Q => ∃ a xs, v = .ref a ∧ SqT K H a xs ∧ xs.length = pt.length ∧ Q (setAll pt xs σ) H
theorem pg_pat {tg : Expr} {pt : List Nat} {one : Bool} (hc : X.calm = true) (hN : X.N.Nodup) (h : Pat X tg pt one) : PG X tg (gPat X.K pt one) := by
  cases h with
  | one h hp hi hx hf =>
    subst h
    subst hp
    refine ⟨fun pins s σ H v u Q I ru ⟨i', e, h⟩ => (pg_name hN hi hx hf).run pins s σ H v u Q I ru ?_⟩
    cases e
    exact h
  | tup h hn =>
    subst h
    exact ⟨fun pins s σ H v u Q I ru ⟨a, xs, h1, h2, h3, h4⟩ => (pg_nms hc hN hn).run pins s σ H v u Q I ru ⟨a, xs, h1, h2, h3, gNms_of h3 h4⟩⟩
theorem pat_of {K : PySem.W.Frag} {ρ : Nm} {n : Nat} {H : Hp} {pt : List Nat} {one : Bool} {s s' : PK.Env} {σ : L2.St} {d : PK.D} {v : V} {Q : L2.St → Hp → Prop} (hF : lk.Free) (e : PK.bindT pt one s d = some s') (p : Rep K lk ρ n H d v) (en : REnv K lk ρ n H s σ)
    (h : ∀ σ', REnv K lk ρ n H s' σ' → (∀ vs, (∀ i ∈ pt, i ∈ vs) → L2.wipe σ' vs = L2.wipe σ vs) → Q σ' H) : gPat K pt one v σ H Q := by
  have wset : ∀ (i : Nat) (w : V) (vs : List Nat) (σ : L2.St), i ∈ vs → L2.wipe (σ.set i (some w)) vs = L2.wipe σ vs := fun i w vs => by
    induction vs with
    | nil => intro σ h; cases h
    | cons u us ih =>
      intro σ h
      unfold L2.wipe
      by_cases c : i = u
      · subst c
        by_cases c2 : i ∈ us
        · rw [ih σ c2]
        · have : ∀ (us : List Nat), i ∉ us → L2.wipe (σ.set i (some w)) us = (L2.wipe σ us).set i (some w) := fun us => by
            induction us with
            | nil => intro _; rfl
            | cons z zs ih2 =>
              intro hz
              simp only [List.mem_cons, not_or] at hz
              unfold L2.wipe
              rw [ih2 hz.2, List.set_comm _ _ hz.1]
          rw [this us c2, List.set_set]
      · rw [ih σ (by rcases List.mem_cons.mp h with e | e; exact absurd e c; exact e)]
  cases one with
  | true =>
    unfold PK.bindT at e
    rw [if_pos rfl] at e
    match pt, e with
    | [i], e =>
      cases e
      exact ⟨i, rfl, h _ (en.set p (fun _ => hF _)) fun vs hv => wset i v vs σ (hv i (by simp))⟩
  | false =>
    unfold PK.bindT at e
    rw [if_neg Bool.false_ne_true] at e
    cases d with
    | tup ds =>
      simp only at e
      split at e
      · rename_i hl
        cases e
        obtain ⟨a, xs, h1, h2, h3⟩ := p
        refine ⟨a, xs, h1, h2.sq, by rw [← h3.length]; exact hl, h _ (pars_rel hF h3 en) fun vs hv => ?_⟩
        have go : ∀ (pt : List Nat) (xs : List V) (σ : L2.St), (∀ i ∈ pt, i ∈ vs) → L2.wipe (setAll pt xs σ) vs = L2.wipe σ vs := fun pt => by
          induction pt with
          | nil => intro xs σ _; rfl
          | cons i pt ih =>
            intro xs σ hv
            cases xs with
            | nil => rfl
            | cons x xs =>
              have := ih xs (σ.set i (some x)) fun j hj => hv j (List.mem_cons_of_mem _ hj)
              exact this.trans (wset i x vs σ (hv i List.mem_cons_self))
        exact go pt xs σ hv
      · cases e
    | _ => cases e
theorem ls_asg {is : List Nat} {k : Nat} (hc : X.calm = true) (hF : lk.Free) (hN : X.N.Nodup) (hn : Nms X is es) (he : LE X lk e ea) (hs : swapsWithSole [.Tuple es k p] e pos.line X.env = pure false) (hw : swappedStores [.Tuple es k p] e X.env = pure none) (h1 : (assignEach [.Tuple es k p] X.env).map (·.2) = [assign (.Tuple es k p) X.env])
    {f : PK.D → Cells → PK.Env → PK.O} (hf : ∀ v G s, (f v G s = .bad ∨ ∃ ds, v = .tup ds ∧ ds.length = is.length ∧ f v G s = .nx (PK.pars is ds s) G)) :
    LS X lk (.Assign [.Tuple es k p] e pos) (fun s G => PK.R.st s (ea s G) fun v G1 => f v G1 s) :=
  ps_imp (ps_asg he (pg_nms hc hN hn) hs hw h1) fun D σ H ⟨ρ, G, s, r, en, h⟩ => ⟨ρ, G, s, r, en, OutS.bind en h fun v G1 ρ1 H1 x e1 r1 p1 h1 => by
    rcases hf v G1 s with q | ⟨ds, rfl, hl, q⟩
    · rw [q] at h1; exact False.elim h1
    · rw [q] at h1
      obtain ⟨a, xs, h2, h3, h4⟩ := p1
      have hx : xs.length = is.length := by rw [← h4.length]; exact hl
      exact ⟨a, xs, h2, h3.sq, hx, gNms_of hx (OutS.here h1 r1 (pars_rel hF h4 (en.ext e1)))⟩⟩
def LGs (X : Cx) (lk : Lk) (es : List Expr) (f : List PK.D → PK.Env → Cells → PK.O) : Prop :=
  PGs X es (fun vs σ H Q => ∃ ρ G s ds, Rel X.K lk ρ G H ∧ REnv X.K lk ρ G.length H s σ ∧ Reps X.K lk ρ G.length H ds vs ∧ ds.length = es.length ∧ OutS X.K lk (WXo X) ρ G H { nx := Q, rt := fun _ _ => False } (f ds s G))
theorem lgs_nil : LGs X lk [] (fun _ s G => .nx s G) := ⟨fun pins s' σ H vs us Q I ru ⟨ρ, G, s, ds, r, en, pv, hl, h⟩ => by
  cases ds with
  | nil => exact pgs_nil.run pins s' σ H vs us Q I ru ⟨pv, OutS.here h r en⟩
  | cons _ _ => simp at hl⟩
theorem lgs_cons {f : PK.D → PK.Env → Cells → PK.O} {g : List PK.D → PK.Env → Cells → PK.O} (h1 : LG X lk e f) (h2 : LGs X lk es g) (hs : (assignEach (e :: es) X.env).map (·.2) = assign e X.env :: (assignEach es X.env).map (·.2)) :
    LGs X lk (e :: es) (fun ds s G => match ds with | d :: ds => (f d s G).then fun s1 G1 => g ds s1 G1 | [] => .bad) := ⟨fun pins s' σ H vs us Q I ru ⟨ρ, G, s, ds, r, en, pv, hl, h⟩ => by
  cases ds with
  | nil => exact False.elim h
  | cons d ds =>
    obtain ⟨x, xs, hx, px, pxs⟩ := pv
    refine (pgs_cons h1 h2 hs).run pins s' σ H vs us Q I ru ⟨x, xs, hx, ρ, G, s, d, r, en, px, ?_⟩
    have h : OutS X.K lk (WXo X) ρ G H { nx := Q, rt := fun _ _ => False } ((f d s G).then fun s1 G1 => g ds s1 G1) := h
    cases q : f d s G with
    | nx s1 G1 => rw [q] at h; exact fun ρ1 H1 σ1 e1 r1 en1 => ⟨ρ1, G1, s1, ds, r1, en1, Reps.ext e1 _ _ pxs, by simpa using hl, OutS.ext e1 h⟩
    | ret v G1 => rw [q] at h; exact h
    | brk s1 G1 => rw [q] at h; exact h
    | cnt s1 G1 => rw [q] at h; exact h
    | exc c s1 G1 => rw [q] at h; exact h
    | bad => rw [q] at h; exact h⟩
theorem ls_asgG {k : Nat} {f : List PK.D → PK.Env → Cells → PK.O} (hc : X.calm = true) (hg : LGs X lk es f) (hv : ∀ v s G, match f v s G with | .nx _ _ => True | .exc _ _ _ => True | .bad => True | _ => False) (hn : (assignEach es X.env).length = es.length) (hst : (assignEach es X.env).findIdx? (·.1) = none) (he : LE X lk e ea)
    (hs : swapsWithSole [.Tuple es k p] e pos.line X.env = pure false) (hw : swappedStores [.Tuple es k p] e X.env = pure none) (h1 : (assignEach [.Tuple es k p] X.env).map (·.2) = [assign (.Tuple es k p) X.env]) :
    LS X lk (.Assign [.Tuple es k p] e pos) (fun s G => PK.R.st s (ea s G) fun v G1 => PK.optK (PK.seqD G1 v) (fun ds => PK.iteK (decide (ds.length = es.length)) (fun _ => f ds s G1) fun _ => .bad) .bad) :=
  ps_imp (ps_asg (g := fun v σ H Q => gTup X.K es.length _ v σ H Q ∨ gLst X.K es.length _ v σ H Q) he ⟨fun pins s' σ H v u Q I ru h => h.elim ((pg_tup hc hg hn hst).run pins s' σ H v u Q I ru) ((pg_lst hc hg hn hst).run pins s' σ H v u Q I ru)⟩ hs hw h1) fun D σ H ⟨ρ, G, s, r, en, h⟩ => ⟨ρ, G, s, r, en, OutS.bind en h fun v G1 ρ1 H1 x e1 r1 p1 h1 => by
    cases e : PK.seqD G1 v with
    | none => rw [e] at h1; exact False.elim h1
    | some ds =>
      rw [e] at h1
      have h1 : OutS X.K lk (WXo X) ρ1 G1 H1 D (PK.iteK (decide (ds.length = es.length)) (fun _ => f ds s G1) fun _ => .bad) := h1
      by_cases c : ds.length = es.length
      · rw [decide_eq_true c] at h1
        obtain ⟨a, xs, h2, h3, h4, h5, h6⟩ := seq_of e r1 p1
        have h1 : OutS X.K lk (WXo X) ρ1 G1 H1 D (f ds s G1) := h1
        have z := hv ds s G1
        have last : OutS X.K lk (WXo X) ρ1 G1 H1 { nx := D.nx, rt := fun _ _ => False } (f ds s G1) := by
          cases q : f ds s G1 with
          | nx s' G' => rw [q] at h1; exact h1
          | exc c s' G' => rw [q] at h1; exact h1
          | bad => rw [q] at h1; exact h1
          | ret v G' => rw [q] at z; exact z.elim
          | brk v G' => rw [q] at z; exact z.elim
          | cnt v G' => rw [q] at z; exact z.elim
        have hx : xs.length = es.length := by rw [← h4.length]; exact c
        rcases h3 with h3 | h3
        · exact .inr ⟨a, xs, h2, h3, hx, ρ1, G1, s, ds, r1, en.ext e1, h4, c, last⟩
        · exact .inl ⟨a, xs, h2, h3, hx, ρ1, G1, s, ds, r1, en.ext e1, h4, c, last⟩
      · rw [decide_eq_false c] at h1; exact False.elim h1⟩
theorem ls_par2 {k k2 : Nat} {px py pt pt2 : Pos} (hc : X.calm = true) (hF : lk.Free) (hN : X.N.Nodup) (hi : X.N[i]? = some x) (hj : X.N[j]? = some y) (hij : i ≠ j)
    (hx : X.env.scope.names.lookup x = some .local) (hy : X.env.scope.names.lookup y = some .local) (ha : LA X lk [a, b] er)
    (hw : swappedStores [.Tuple [.Name x px, .Name y py] k pt] (.Tuple [a, b] k2 pt2) X.env = pure (some [x, y])) :
    LS X lk (.Assign [.Tuple [.Name x px, .Name y py] k pt] (.Tuple [a, b] k2 pt2) pos) (fun s G => PK.R.st s (er s G) fun v G1 => PK.tupK v (fun ds => PK.iteK (decide (ds.length = [i, j].length)) (fun _ => .nx (PK.pars [i, j] ds s) G1) fun _ => .bad) .bad) :=
  ps_imp (ps_par hc hN hi hj hij hx hy ha hw) fun D σ H ⟨ρ, G, s, r, en, h⟩ => ⟨ρ, G, s, r, en, by
    dsimp only at h
    cases q : er s G with
    | ok v G1 =>
      rw [q] at h
      intro ρ1 H1 xs e1 r1 ⟨ds, hv, p1⟩
      subst hv
      have h : OutS X.K lk (WXo X) ρ G H D (PK.iteK (decide (ds.length = [i, j].length)) (fun _ => .nx (PK.pars [i, j] ds s) G1) fun _ => .bad) := h
      by_cases c : ds.length = [i, j].length
      · rw [decide_eq_true c] at h
        have hl := p1.length
        rw [c] at hl
        match xs, hl with
        | [v, w], _ => exact ⟨v, w, rfl, OutS.here (OutS.ext e1 h) r1 (pars_rel hF (is := [i, j]) p1 (en.ext e1))⟩
      · rw [decide_eq_false c] at h; exact False.elim h
    | exc c G' => rw [q] at h; exact fun ρ1 H1 e1 r1 => h ρ1 H1 σ e1 r1 (en.ext e1)
    | bad => rw [q] at h; exact h⟩
theorem ls_par3 {l k k2 : Nat} {z : Str} {px py pz pt pt2 : Pos} (hc : X.calm = true) (hF : lk.Free) (hN : X.N.Nodup) (hi : X.N[i]? = some x) (hj : X.N[j]? = some y) (hl : X.N[l]? = some z) (hij : i ≠ j) (hil : i ≠ l) (hjl : j ≠ l)
    (hx : X.env.scope.names.lookup x = some .local) (hy : X.env.scope.names.lookup y = some .local) (hz : X.env.scope.names.lookup z = some .local) (ha : LA X lk [a, b, c] er)
    (hw : swappedStores [.Tuple [.Name x px, .Name y py, .Name z pz] k pt] (.Tuple [a, b, c] k2 pt2) X.env = pure (some [x, y, z])) (hs : swapsWithSole [.Tuple [.Name x px, .Name y py, .Name z pz] k pt] (.Tuple [a, b, c] k2 pt2) pos.line X.env = pure false) :
    LS X lk (.Assign [.Tuple [.Name x px, .Name y py, .Name z pz] k pt] (.Tuple [a, b, c] k2 pt2) pos) (fun s G => PK.R.st s (er s G) fun v G1 => PK.tupK v (fun ds => PK.iteK (decide (ds.length = [i, j, l].length)) (fun _ => .nx (PK.pars [i, j, l] ds s) G1) fun _ => .bad) .bad) :=
  ps_imp (ps_par3 hc hN hi hj hl hij hil hjl hx hy hz ha hw hs) fun D σ H ⟨ρ, G, s, r, en, h⟩ => ⟨ρ, G, s, r, en, by
    dsimp only at h
    cases q : er s G with
    | ok v G1 =>
      rw [q] at h
      intro ρ1 H1 xs e1 r1 ⟨ds, hv, p1⟩
      subst hv
      have h : OutS X.K lk (WXo X) ρ G H D (PK.iteK (decide (ds.length = [i, j, l].length)) (fun _ => .nx (PK.pars [i, j, l] ds s) G1) fun _ => .bad) := h
      by_cases c : ds.length = [i, j, l].length
      · rw [decide_eq_true c] at h
        have hl := p1.length
        rw [c] at hl
        match xs, hl with
        | [v, w, z], _ => exact ⟨v, w, z, rfl, OutS.here (OutS.ext e1 h) r1 (pars_rel hF (is := [i, j, l]) p1 (en.ext e1))⟩
      · rw [decide_eq_false c] at h; exact False.elim h
    | exc c G' => rw [q] at h; exact fun ρ1 H1 e1 r1 => h ρ1 H1 σ e1 r1 (en.ext e1)
    | bad => rw [q] at h; exact h⟩
end
end PKS
namespace PKS
open PySem PySem.Spec PyProof.Rows L2
section
variable {X : Cx} {pins : List (Addr × Obj)} {σ : L2.St} {H : Hp} {s : Shared} {E : Value → Shared → Prop} {tg : Expr}
theorem Recs.one {a : Addr} (f : FpOk X pins H a) : Recs X pins H [a] := fun _ hb => List.mem_singleton.mp hb ▸ f
theorem Recs.young {ch : List Addr} (I : Inv X pins σ H s) (h : ∀ b ∈ ch, s.heap.objs.size ≤ b) : Recs X pins H ch := fun b hb => I.fpOk (h b hb) (I.hok.fresh (h b hb))
theorem step_plain {it : Addr} {n i : Nat} {Pv : Nat → Value → Prop} {tn : Nat → Heap → Prop} {P : V → Prop} (W : Walks X.prog X.w X.A it [it] [it] n Pv tn)
    (shape : ∀ h, tn (i + 1) h → ∃ (o : Obj) (nm : String) (vs : Array Value), h.get? it = some o ∧ o.cls = .type nm ∧ o.data = .fields vs ∧
      ["enumerate", "zip", "dict_itemiterator", "dict_reverseitemiterator", "odict_iterator", "itertools.zip_longest", "itertools.pairwise"].contains nm = false)
    (val : ∀ u, Pv i u → ∃ x, P x ∧ RelV x u) (I : Inv X pins σ H s) (f : Recs X pins H [it]) (st : tn i s.heap) (lt : i < n) :
    wpAny (model X.prog X.w) X.A (pyNext (.ref it)) (fun r s1 => ∃ u, r = some u ∧
      wpAny (model X.prog X.w) X.A (letOwnedTupleGo tg (.ref it) u) (fun _ s2 => ∃ x H', Inv X pins σ H' s2 ∧ RelV x u ∧ (H' = H ∧ P x) ∧ tn (i + 1) s2.heap ∧ ∀ b ∈ [it], H' b = none) E s1) E s :=
  W.item i s _ _ lt st fun u h' tk pu st' same =>
    let ⟨x, px, rx⟩ := val u pu
    let ⟨_, _, _, e, c, d, k⟩ := shape h' st'
    ⟨u, rfl, go_of (s := { s with heap := h', toks := tk }) e c d k ⟨x, H, I.turnedL same f, rx, ⟨rfl, px⟩, st', fun b hb => (f b hb).1⟩⟩
theorem step_tuple {e : Addr} {fp wr : List Addr} {n i : Nat} {Pv : Nat → Array Value → Prop} {St : Nat → Heap → Prop} {Md : Nat → Addr → Heap → Prop} {xs : List V} {elts : List Expr} {kk : Nat} {tpos : Pos}
    (W : WalksT X.prog X.w X.A e fp wr n Pv St Md) (val : ∀ us, Pv i us → Vals xs us.toList) (hz : xs.length ≤ sizeLine) (I : Inv X pins σ H s) (f : Recs X pins H wr) (st : St i s.heap) (lt : i < n) :
    wpAny (model X.prog X.w) X.A (pyNext (.ref e)) (fun r s1 => ∃ u, r = some u ∧
      wpAny (model X.prog X.w) X.A (letOwnedTupleGo (.Tuple elts kk tpos) (.ref e) u) (fun _ s2 => ∃ T, u = .ref T ∧ s.heap.objs.size ≤ T ∧ Inv X pins σ (upd H T (.tup xs)) s2 ∧ St (i + 1) s2.heap) E s1) E s :=
  W.item i s _ _ lt st fun T us h' tk pu young tup md same =>
    ⟨_, rfl, W.go elts kk tpos i T { s with heap := h', toks := tk } _ _ md fun h2 st2 same2 =>
      ⟨T, rfl, young, I.turnedNew (fun b o hb q => same2 b o hb (same b o hb q)) f young ⟨hz, us.toList, val us pu, tup.at fun o q => same2 T o (W.apart i T h' md) q⟩, st2⟩⟩
end
section
variable {X : Cx} {Q : Value → Shared → Prop} {pins : List (Addr × Obj)} {σ : L2.St} {H : Hp} {s : Shared}
theorem by_class {name : Str} {ty : String} {e : Expr} {es : List Expr} {ta : TA} {p pos : Pos} {q : List V → Hp → Prop} (hg : Gl X name) (hm : X.mg name = none) (hb : bootBuiltins name = some (.type ty)) (I : Inv X pins σ H s) (ha : PA X (e :: es) ta) (h : ta σ H q)
    (hs : starEach (e :: es) X.env = (false, eval e X.env) :: starEach es X.env) (hpl : (backTo pos (starEach es X.env)).any (·.1) = false)
    (k : ∀ us s1, AP X pins σ q us s1 → wpAny (model X.prog X.w) X.A (call (.type ty) us) Q X.xe s1) (hn : name ≠ "__name__" := by decide) (hd : (name == ("__debug__" : Str)) = false := by decide) :
    wpAny (model X.prog X.w) X.A (eval (.Call (.Name name p) (e :: es) [] pos) X.env) Q X.xe s :=
  Call_ (ld_blt I hg hm hb (callWith_type1 (thn (ha.run pos pins s σ H q I h) k) hs hpl) hn hd)
theorem by_class1 {name : Str} {ty : String} {e : Expr} {p pos : Pos} (hg : Gl X name) (hm : X.mg name = none) (hb : bootBuiltins name = some (.type ty)) (I : Inv X pins σ H s) (hs : starEach [e] X.env = (false, eval e X.env) :: starEach [] X.env)
    (k : wpAny (model X.prog X.w) X.A (eval e X.env) (fun u s1 => wpAny (model X.prog X.w) X.A (call (.type ty) [u]) Q X.xe s1) X.xe s) (hn : name ≠ "__name__" := by decide) (hd : (name == ("__debug__" : Str)) = false := by decide) :
    wpAny (model X.prog X.w) X.A (eval (.Call (.Name name p) [e] [] pos) X.env) Q X.xe s :=
  Call_ (ld_blt I hg hm hb (callWith_type1 (args_cons (thn k fun _ _ z => args_nil z) hs) hs rfl) hn hd)
end
end PKS
namespace PKS
open PySem PySem.Spec PyProof.Rows L2
abbrev Far (is : Heap → Addr → Int → Int → Int → Prop) (it : Addr) (lo : Int) (n i : Nat) (h : Heap) : Prop := is h it (lo + (i : Nat) * 1) ((n : Int) - (i : Nat)) 1
section
variable {X : Cx} {pins : List (Addr × Obj)} {σ : L2.St} {H : Hp} {s : Shared} {E : Value → Shared → Prop} {tg : Expr} {it : Addr} {lo : Int} {n i : Nat}
theorem far_step (hc : X.A.handled = none) (I : Inv X pins σ H s) (f : Recs X pins H [it]) (st : Far IsLongIter it lo n i s.heap) (lt : i < n) :
    wpAny (model X.prog X.w) X.A (pyNext (.ref it)) (fun r s1 => ∃ u, r = some u ∧
      wpAny (model X.prog X.w) X.A (letOwnedTupleGo tg (.ref it) u) (fun _ s2 => ∃ x H', Inv X pins σ H' s2 ∧ RelV x u ∧ (Itr lo n).yld i H x H' ∧ Far IsLongIter it lo n (i + 1) s2.heap ∧ ∀ b ∈ [it], H' b = none) E s1) E s :=
  step_plain (P := fun x => x = .int (lo + i)) (Walks.longrange hc it lo 1 n) (fun _ st => ⟨_, "longrange_iterator", _, st, rfl, rfl, by decide⟩)
    (fun u ⟨t, e⟩ => ⟨.int (lo + i), rfl, t, by rw [e, Int.mul_one]⟩) I f st lt
theorem far_end (hc : X.A.handled = none) (I : Inv X pins σ H s) (f : Recs X pins H [it]) (st : Far IsLongIter it lo n i s.heap) (le : n ≤ i) :
    wpAny (model X.prog X.w) X.A (pyNext (.ref it)) (fun r s1 => r = none ∧ Inv X pins σ H s1) E s :=
  wpAny_pyNext_long_end hc st (by omega) fun h' eb => ⟨rfl, I.turnedL (t' := s.toks) (fun b o hb => eb b o (by simpa using hb)) f⟩
end
theorem turn_long {P : Program} {w : World} {K : PySem.W.Frag} {tg : Expr} (it : Addr) (lo : Int) (n : Nat) : Turn P w K tg (Itr lo n) [it] it (Far IsLongIter it lo n) where
  mem := List.mem_singleton_self it
  obj := fun i h st b hb => by
    cases List.mem_singleton.mp hb
    exact ⟨_, st, fun v z => Data.noConfusion (show Data.fields _ = Data.cell v from z)⟩
  keep := fun _ _ _ st k => k _ (List.mem_singleton_self it) _ st
  item := by
    rintro X rfl rfl rfl hc i pins s σ H E I f st lt
    exact far_step (I.ok.hd hc) I f st lt
  done := by
    rintro X rfl rfl rfl hc i pins s σ H E I f st le
    exact far_end (I.ok.hd hc) I f st le
  self := fun _ _ _ _ _ => wpAny_pyIter_longiter
section
variable {X : Cx} {tg : Expr}
theorem far0 {is : Heap → Addr → Int → Int → Int → Prop} {it : Addr} {lo hi : Int} {h : Heap} (st : is h it lo (Builtin.Range.rangeSize lo hi 1) 1) : Far is it lo (hi - lo).toNat 0 h := by
  have c : (((hi - lo).toNat : Nat) : Int) = Builtin.Range.rangeSize lo hi 1 := by
    rw [rangeSize_one]
    split
    · exact Int.toNat_of_nonneg (by omega)
    · omega
  have z : lo + ((0 : Nat) : Int) * 1 = lo ∧ (((hi - lo).toNat : Nat) : Int) - ((0 : Nat) : Int) = Builtin.Range.rangeSize lo hi 1 := ⟨by omega, by omega⟩
  show is h it (lo + ((0 : Nat) : Int) * 1) ((((hi - lo).toNat : Nat) : Int) - ((0 : Nat) : Int)) 1
  rw [z.1, z.2]
  exact st
theorem two_of {x y : V} {us : List Value} (r : Vals [x, y] us) : ∃ u w, us = [u, w] ∧ RelV x u ∧ RelV y w := by
  rcases r with _ | ⟨a, _ | ⟨b, _ | _⟩⟩
  exact ⟨_, _, rfl, a, b⟩
def iRng2A (ta : TA) : TI := fun σ H R => ta σ H fun vs H1 => ∃ i j : Int, vs = [.int i, .int j] ∧ R (Itr i (j - i).toNat) H1
theorem pi_range2A {a b : Expr} {ta : TA} {p pos : Pos} (hg : Gl X "range") (hm : X.mg "range" = none) (ha : PA X [a, b] ta) (hs : starEach [a, b] X.env = [(false, eval a X.env), (false, eval b X.env)]) (hs2 : starEach [b] X.env = [(false, eval b X.env)]) :
    PI X tg (.Call (.Name "range" p) [a, b] [] pos) (iRng2A ta) where
  run := fun pins s σ H R I h => by_class hg hm boot_range I ha h (hs.trans (by rw [hs2])) (by rw [hs2]; rfl) fun us s1 ⟨vs, H1, I1, r, i, j, e, q⟩ => by
      subst e
      obtain ⟨u, u', rfl, ⟨t, rfl⟩, t', rfl⟩ := two_of r
      refine call_range_2 ?_
      have J := I1.kept (t' := s1.toks + 1) (h' := s1.heap.push { cls := .type "range", data := .fields #[.int i t, .int j t', .int 1 s1.toks] }) fun _ _ => Heap.get?_push_of_some _
      by_cases sm : Builtin.Range.small i j 1 = true
      · exact wpAny_pyIter_range (IsRange.new ..) sm (pi_one (tk := s1.toks + 1) J _ (turn_range _ i _) (far0 (is := IsRangeIter) (Heap.get?_push_size _ rfl)) q)
      · exact wpAny_pyIter_longrange (IsRange.new ..) (Bool.eq_false_iff.mpr sm) (pi_one (tk := s1.toks + 1) J _ (turn_long _ i _) (far0 (is := IsLongIter) (Heap.get?_push_size _ rfl)) q)
end
end PKS
namespace PKS
open PySem PySem.Spec PyProof.Rows L2
abbrev pairer (a : Addr) : Obj := { cls := .type "enumerate", data := .fields #[.none, .bool false, .ref a, rawInt 0, .none, .none] }
section
variable {M : Model} {A : Around} {s : Shared}
theorem through_any {α : Type} {c : Value} {k : Bool → Sem α} {Q : α → Shared → Prop} {E : Value → Shared → Prop} (h : ∀ b, wpAny M A (k b) Q E s) : wpAny M A (Builtin.SmallTypes.calledThroughType c >>= k) Q E s :=
  wpAny_bind (wpAny_bind (wpAny_stack_any fun _ => wpAny_pure (h _)))
end
theorem pairer_class {prog : Program} {w : World} {A : Around} {s : Shared} {v : Value} {α : Type} {k : Value × List Value → Sem α} {Q : α → Shared → Prop} {E : Value → Shared → Prop} (h : wpAny (model prog w) A (k (.type "enumerate", [v])) Q E s) :
    wpAny (model prog w) A (Builtin.SmallTypes.newClass "enumerate" ⟨[.type "enumerate", v], []⟩ >>= k) Q E s := by
  have sub := sub_enumerate
  refine wpAny_bind ?_
  wp_walk
  exact h
theorem new_pairer {v : Value} {o : Obj} {Hb : Heap → Prop} (B : Begins v o Hb) : Meets (Builtin.«enumerate.__new__» ⟨[.type "enumerate", v], []⟩)
    (fun _ R s => Hb s.heap ∧ R (.ok (.ret (.ref (s.heap.push o).objs.size))) { s with heap := (s.heap.push o).push (pairer s.heap.objs.size) }) :=
  .of_wp fun prog w A R s h => by
    have fin : wpAny (model prog w) A.in1 (do
        let it ← pyIter v
        let r ← Builtin.SmallTypes.newRecord (.type "enumerate") (Builtin.SmallTypes.ownedTupleFields ++ [it, rawInt 0, .none, .none])
        ret r) (fun fin s' => ∃ v, fin = .done (.ret v) ∧ R (.ok (.ret v)) s') (fun e s' => R (.error e) s') s := by
      refine wpAny_bind (B.iter _ _ _ _ _ _ h.1 (wpAny_bind ?_))
      show wpAny _ _ (newObj (.type "enumerate") (.fields #[.none, .bool false, .ref s.heap.objs.size, rawInt 0, .none, .none])) _ _ _
      exact wpAny_newObj_type (wpAny_pure ⟨_, rfl, h.2⟩)
    refine pairer_class ?_
    show wpAny _ _ (Builtin.SmallTypes.calledThroughType (.type "enumerate") >>= _) _ _ _
    exact through_any fun b => by cases b <;> exact fin
section
variable {prog : Program} {w : World} {A : Around} {E : Value → Shared → Prop} {s : Shared}
theorem call_pairer {v : Value} {o : Obj} {Hb : Heap → Prop} {Q : Value → Shared → Prop} (B : Begins v o Hb) (h : Hb s.heap)
    (k : ∀ h', h'.get? s.heap.objs.size = some o → h'.get? (s.heap.objs.size + 1) = some (pairer s.heap.objs.size) → (∀ b o, s.heap.get? b = some o → h'.get? b = some o) → Q (.ref (s.heap.objs.size + 1)) { s with heap := h' }) :
    wpAny (model prog w) A (call (.type "enumerate") [v]) Q E s := by
  have z : (s.heap.push o).objs.size = s.heap.objs.size + 1 := Heap.size_push ..
  have there : ((s.heap.push o).push (pairer s.heap.objs.size)).get? (s.heap.objs.size + 1) = some (pairer s.heap.objs.size) := z ▸ Heap.get?_push_size _ rfl
  refine callType_new F.called_enumerate (by decide) (F.typeCall_enumerate_1 _) (F.newCall_enumerate_1 _) (fun _ => F.args_object_init_2 _ _) F.entry_enumerate_new (new_pairer B) ⟨h, ?_⟩
  rw [z]
  exact ⟨⟨_, there, rfl⟩, k _ (Heap.get?_push_of_some _ (Heap.get?_push_size _ B.free)) there fun _ _ q => Heap.get?_push_of_some _ (Heap.get?_push_of_some _ q)⟩
end
def IteT (K : PySem.W.Frag) (a : Addr) : It where
  go i H := ∃ (xs : List V) (x : V), SqT K H a xs ∧ xs[i]? = some x
  yld i H v H' := ∃ T x, v = .ref T ∧ H T = none ∧ H' = upd H T (.tup [.int (i : Nat), x]) ∧ ∀ xs, SqT K H a xs → xs[i]? = some x
  stop i H := ∃ xs : List V, SqT K H a xs ∧ xs.length ≤ i
structure Pairs (a e it i : Nat) (h : Heap) : Prop where
  pr : ∃ old, IsEnum h e it ((i : Nat) : Int) old
  itr : h.IsTupleIter it a i
  un : e ≠ it ∧ a ≠ it
theorem Pairs.off {a e it i : Nat} {h : Heap} {items : Array Value} (st : Pairs a e it i h) (t : h.IsTuple a items) : e ∉ [it, a] := by
  intro m
  rcases List.mem_cons.mp m with q | q
  · exact st.un.1 q
  · obtain ⟨old, r⟩ := st.pr
    obtain ⟨o, g, c, _⟩ := t
    rw [← List.mem_singleton.mp q, r] at g
    cases g
    exact absurd (show Value.type "enumerate" = Value.type "tuple" from c) (by decide)
section
variable {X : Cx} {pins : List (Addr × Obj)} {σ : L2.St} {H : Hp} {s : Shared} {E : Value → Shared → Prop} {a e it i : Nat} {elts : List Expr} {kk : Nat} {tpos : Pos}
theorem pairs_step (hc : X.A.handled = none) (I : Inv X pins σ H s) (f : Recs X pins H [e, it]) (st : Pairs a e it i s.heap) (go : (IteT X.K a).go i H) :
    wpAny (model X.prog X.w) X.A (pyNext (.ref e)) (fun r s1 => ∃ u, r = some u ∧ wpAny (model X.prog X.w) X.A (letOwnedTupleGo (.Tuple elts kk tpos) (.ref e) u)
      (fun _ s2 => ∃ x H', Inv X pins σ H' s2 ∧ RelV x u ∧ (IteT X.K a).yld i H x H' ∧ Pairs a e it (i + 1) s2.heap ∧ ∀ b ∈ [e, it], H' b = none) E s1) E s := by
  obtain ⟨xs, x, hq, hx⟩ := go
  obtain ⟨its, rv, tup, _⟩ := I.tuple hq
  have W := WalksT.enumerateD (prog := X.prog) (w := X.w) (A := X.A) (Draws.tuple (A := X.A.in1) hc it a st.un.2 its.toArray) e st.un.1 (st.off tup) List.mem_cons_self
  have lt : i < its.toArray.size := by rw [List.size_toArray, ← rv.length]; exact (List.getElem?_eq_some_iff.mp hx).1
  have val : ∀ us : Array Value, (∃ t u, its.toArray[i]? = some u ∧ us = #[.int i t, u]) → Vals [.int (i : Nat), x] us.toList := by
    rintro _ ⟨t, u, hu, rfl⟩
    obtain ⟨v, hv, r⟩ := rv.get hx
    rw [List.getElem?_toArray, hv] at hu
    exact .cons ⟨t, rfl⟩ (.cons (Option.some.inj hu ▸ r) .nil)
  have old : ∀ b ∈ [e, it], b < s.heap.objs.size := by
    obtain ⟨_, q⟩ := st.pr
    obtain ⟨_, r, _⟩ := st.itr
    simpa using ⟨Heap.lt_size q, Heap.lt_size r⟩
  refine wpAny_mono (step_tuple W val (show 2 ≤ sizeLine by decide) I f ⟨st.pr, st.itr, tup⟩ lt) (fun r s1 ⟨u, er, h⟩ => ⟨u, er, thn h ?_⟩) fun _ _ z => z
  rintro - s2 ⟨T, rfl, young, J, e', it', _⟩
  exact ⟨.ref T, _, J, rfl, ⟨T, x, rfl, I.hok.fresh young, rfl, fun ys hy => I.tuple_inj hy hq ▸ hx⟩, ⟨e', it', st.un⟩, fun b hb => (upd_ne (Nat.ne_of_lt (Nat.lt_of_lt_of_le (old b hb) young))).trans (f b hb).1⟩
theorem Draws.behind {prog : Program} {w : World} {A : Around} (hc : A.handled = none) {items : Array Value} (big : items.size ≤ i) : Draws prog w A it [it, a] 0 (fun _ _ => False) (fun _ h => h.IsTupleIter it a i ∧ h.IsTuple a items) where
  live := fun _ _ ⟨⟨o, q, _⟩, _⟩ => ⟨o, q⟩
  frame := fun _ _ _ st k => ⟨st.1.at (k it List.mem_cons_self), st.2.at (k a (List.mem_cons_of_mem _ List.mem_cons_self))⟩
  item := fun i _ _ _ lt => absurd lt (Nat.not_lt_zero i)
  done := fun _ _ _ st => wpAny_nextOf_tuple_end hc st.1 st.2 (Array.getElem?_eq_none big)
theorem pairs_end (hc : X.A.handled = none) (I : Inv X pins σ H s) (f : Recs X pins H [e, it]) (st : Pairs a e it i s.heap) (stop : (IteT X.K a).stop i H) :
    wpAny (model X.prog X.w) X.A (pyNext (.ref e)) (fun r s1 => r = none ∧ Inv X pins σ H s1) E s := by
  obtain ⟨xs, hq, le⟩ := stop
  obtain ⟨its, rv, tup, _⟩ := I.tuple hq
  have big : its.toArray.size ≤ i := by rw [List.size_toArray, ← rv.length]; exact le
  obtain ⟨old, r⟩ := st.pr
  exact wpAny_pyNext_enum_endD (Draws.behind (A := X.A.in1) hc big) r ⟨st.itr, tup⟩ fun h' eb => ⟨rfl, I.turnedL (t' := s.toks) (ch := [e, it]) (fun b o hb => eb b o fun q => hb (q ▸ List.mem_cons_of_mem _ List.mem_cons_self)) f⟩
end
theorem turn_enumT {P : Program} {w : World} {K : PySem.W.Frag} {elts : List Expr} {kk : Nat} {tpos : Pos} (a e it : Addr) : Turn P w K (.Tuple elts kk tpos) (IteT K a) [e, it] e (fun i h => Pairs a e it i h) where
  mem := List.mem_cons_self
  obj := fun i h st b hb => by
    obtain ⟨_, r⟩ := st.pr
    obtain ⟨o, q, _, d⟩ := st.itr
    cases hb with
    | head => exact ⟨_, r, fun v z => Data.noConfusion (show Data.fields _ = Data.cell v from z)⟩
    | tail _ hb => exact ⟨o, List.mem_singleton.mp hb ▸ q, fun v z => Data.noConfusion (d.symm.trans z)⟩
  keep := fun i h h' st k => ⟨st.pr.imp fun _ r => k e List.mem_cons_self _ r, st.itr.at (k it (List.mem_cons_of_mem _ List.mem_cons_self)), st.un⟩
  item := by
    rintro X rfl rfl rfl hc i pins s σ H E I f st go
    exact pairs_step (I.ok.hd hc) I f st go
  done := by
    rintro X rfl rfl rfl hc i pins s σ H E I f st stop
    exact pairs_end (I.ok.hd hc) I f st stop
  self := fun _ _ _ _ _ st h => st.pr.elim fun _ r => wpAny_pyIter_enum r h
def iEnumT (K : PySem.W.Frag) (ta : TA) : TI := fun σ H R => ta σ H fun vs H1 => ∃ a xs, vs = [.ref a] ∧ ((SqL K H1 a xs ∧ R (Ite K a) H1) ∨ (SqT K H1 a xs ∧ R (IteT K a) H1))
theorem pi_enumT {X : Cx} {e : Expr} {ta : TA} {p pos tpos : Pos} {elts : List Expr} {kk : Nat} (hg : Gl X "enumerate") (hm : X.mg "enumerate" = none) (ha : PA X [e] ta) (hs : starEach [e] X.env = [(false, eval e X.env)] := by rfl) :
    PI X (.Tuple elts kk tpos) (.Call (.Name "enumerate" p) [e] [] pos) (iEnumT X.K ta) where
  run := fun pins s σ H R I h => by_class hg hm boot_enumerate I ha h hs rfl fun us s1 ⟨vs, H1, J, r, a, xs, ev, q⟩ => by
    subst ev
    obtain ⟨u, rfl, rfl⟩ : ∃ u, us = [u] ∧ u = Value.ref a := by
      rcases r with _ | ⟨r, _ | _⟩
      exact ⟨_, rfl, r⟩
    have young : ∀ b ∈ [s1.heap.objs.size + 1, s1.heap.objs.size], s1.heap.objs.size ≤ b := by simp
    have fp := Recs.young J young
    rcases q with ⟨hq, q⟩ | ⟨hq, q⟩
    · obtain ⟨its, _, lst, _⟩ := J.list hq
      exact call_pairer (begins_list a its.toArray) lst.isList fun h' gi ge same => wpAny_pyIter_enum ge
        ⟨_, _, _, _, H1, rfl, J.kept (t' := s1.toks) same, turn_enum a (s1.heap.objs.size + 1) s1.heap.objs.size, ⟨⟨.none, ge⟩, ⟨_, gi, rfl, rfl⟩, Nat.succ_ne_self _⟩, fp, q⟩
    · obtain ⟨its, _, tup, _⟩ := J.tuple hq
      have la : a < s1.heap.objs.size := tup.elim fun _ g => Heap.lt_size g.1
      exact call_pairer (begins_tuple a its.toArray) tup fun h' gi ge same => wpAny_pyIter_enum ge
        ⟨_, _, _, _, H1, rfl, J.kept (t' := s1.toks) same, turn_enumT a (s1.heap.objs.size + 1) s1.heap.objs.size, ⟨⟨.none, ge⟩, ⟨_, gi, rfl, rfl⟩, Nat.succ_ne_self _, Nat.ne_of_lt la⟩, fp, q⟩
end PKS
namespace PKS
open PySem PySem.Spec PyProof.Rows L2 RZ
def Src (K : PySem.W.Frag) (lk : Lk) (J : It) (xs : List PK.D) (g : Option (Nat × PK.Cell)) (ρ0 : Nm) (n0 : Nat) (H0 : Hp) : Prop := ∀ ρ G H, Ext ρ0 n0 H0 ρ G.length H → Rel K lk ρ G H → PK.still G g = true →
  ∀ i, (∀ d, xs[i]? = some d → J.go i H ∧ ∀ x H', J.yld i H x H' → Ext ρ G.length H ρ G.length H' ∧ Rel K lk ρ G H' ∧ Rep K lk ρ G.length H' d x) ∧ (xs.length ≤ i → J.stop i H)
def OutI (K : PySem.W.Frag) (lk : Lk) (W : WX) (σ : L2.St) (ρ : Nm) (G : Cells) (H : Hp) (k : PK.Ik) (r : PK.R) (R : It → Hp → Prop) : Prop := match r with
  | .ok (.tup ds) G1 => ∃ xg, PK.itD k ds G1 = some xg ∧ ∀ J ρ1 H1, Ext ρ G.length H ρ1 G1.length H1 → Rel K lk ρ1 G1 H1 → (∀ A, H1 A = none → Src K (lk.add A) J xg.1 xg.2 ρ1 G1.length H1) → Src K lk J xg.1 xg.2 ρ1 G1.length H1 → R J H1
  | .exc c G1 => ∀ ρ1 H1, Ext ρ G.length H ρ1 G1.length H1 → Rel K lk ρ1 G1 H1 → W (lk.EV c) (tnt c) σ H1
  | _ => False
def liftI (K : PySem.W.Frag) (lk : Lk) (W : WX) (k : PK.Ik) (er : Ev) : TI := fun σ H R => ∃ ρ G s, Rel K lk ρ G H ∧ REnv K lk ρ G.length H s σ ∧ OutI K lk W σ ρ G H k (er s G) R
abbrev LI (X : Cx) (lk : Lk) (tg it : Expr) (k : PK.Ik) (er : Ev) : Prop := PI X tg it (liftI X.K lk (WXo X) k er)
section
variable {K : PySem.W.Frag} {lk : Lk} {ρ0 : Nm} {n0 : Nat} {H0 : Hp} {xs : List PK.D} {g : Option (Nat × PK.Cell)}
theorem src_list {a : Addr} (h : ∀ ρ G H, Ext ρ0 n0 H0 ρ G.length H → Rel K lk ρ G H → PK.still G g = true → ∃ vs, SqL K H a vs ∧ Reps K lk ρ G.length H xs vs) : Src K lk (Itl K a) xs g ρ0 n0 H0 := fun ρ G H e r st i => by
  obtain ⟨vs, h1, h2⟩ := h ρ G H e r st
  refine ⟨fun d q => ?_, fun hl => ⟨vs, h1, by rw [← h2.length]; exact hl⟩⟩
  obtain ⟨v, h3, h4⟩ := h2.get q
  refine ⟨⟨vs, v, h1, h3⟩, fun x H' ⟨e1, e2⟩ => ?_⟩
  subst e1
  have := e2 vs h1
  rw [h3] at this; cases this
  exact ⟨Ext.refl, r, h4⟩
theorem src_keys {lk : Lk} {d : Addr} {od : Obj} {zs : List (L2.Key × V)} {kvs : List (L2.Key × PK.D)} (h : H0 d = some (.frz od (.dK zs))) (hk : zs.map (·.1) = kvs.map (·.1)) : Src K lk (Itk d od zs) (kvs.map fun kv => PK.kD kv.1) none ρ0 n0 H0 := fun ρ G H e r st i => by
  have hd := e.frzs d od _ h
  have hl : zs.length = kvs.length := by
    have := congrArg List.length hk
    rwa [List.length_map, List.length_map] at this
  refine ⟨fun dd q => ?_, fun l => ⟨hd, by rw [List.length_map] at l; omega⟩⟩
  rw [List.getElem?_map] at q
  cases q2 : kvs[i]? with
  | none => rw [q2] at q; cases q
  | some kv =>
    rw [q2] at q
    cases q
    have li := (List.getElem?_eq_some_iff.mp q2).1
    refine ⟨⟨hd, by omega⟩, fun x H' ⟨e1, k, v, h1, h2⟩ => ?_⟩
    subst e1
    refine ⟨Ext.refl, r, ?_⟩
    have e2 : (zs.map (·.1))[i]? = some k := by rw [List.getElem?_map, h1]; rfl
    rw [hk, List.getElem?_map, q2] at e2
    have e2 : some kv.1 = some k := e2
    cases e2
    rw [h2]
    obtain ⟨k, w⟩ := kv
    cases k with
    | inl i => exact rfl
    | inr s => exact rfl
theorem src_tup {a : Addr} (h : ∀ ρ G H, Ext ρ0 n0 H0 ρ G.length H → Rel K lk ρ G H → PK.still G g = true → ∃ vs, SqT K H a vs ∧ Reps K lk ρ G.length H xs vs) : Src K lk (Itt K a) xs g ρ0 n0 H0 := fun ρ G H e r st i => by
  obtain ⟨vs, h1, h2⟩ := h ρ G H e r st
  refine ⟨fun d q => ?_, fun hl => ⟨vs, h1, by rw [← h2.length]; exact hl⟩⟩
  obtain ⟨v, h3, h4⟩ := h2.get q
  refine ⟨⟨vs, v, h1, h3⟩, fun x H' ⟨e1, e2⟩ => ?_⟩
  subst e1
  have := e2 vs h1
  rw [h3] at this; cases this
  exact ⟨Ext.refl, r, h4⟩
theorem enum_get : ∀ {xs : List PK.D} {k : Int} {i : Nat}, (PK.enumD k xs)[i]? = (xs[i]?).map fun d => .tup [.int (k + i), d]
  | [], k, i => by simp [PK.enumD]
  | x :: xs, k, 0 => by simp [PK.enumD]
  | x :: xs, k, i + 1 => by
    show (PK.enumD (k + 1) xs)[i]? = _
    rw [enum_get]
    have : k + 1 + (i : Int) = k + ((i + 1 : Nat) : Int) := by omega
    rw [this]; rfl
theorem enum_len : ∀ {xs : List PK.D} {k : Int}, (PK.enumD k xs).length = xs.length
  | [], _ => rfl
  | x :: xs, k => by show (PK.enumD (k + 1) xs).length + 1 = _; rw [enum_len]; rfl
theorem src_enum {a : Addr} (h : ∀ ρ G H, Ext ρ0 n0 H0 ρ G.length H → Rel K lk ρ G H → PK.still G g = true → ∃ vs, SqL K H a vs ∧ Reps K lk ρ G.length H xs vs) : Src K lk (Ite K a) (PK.enumD 0 xs) g ρ0 n0 H0 := fun ρ G H e r st i => by
  obtain ⟨vs, h1, h2⟩ := h ρ G H e r st
  refine ⟨fun d q => ?_, fun hl => ⟨vs, h1, by rw [← h2.length]; rw [enum_len] at hl; exact hl⟩⟩
  rw [enum_get] at q
  cases q2 : xs[i]? with
  | none => rw [q2] at q; cases q
  | some d0 =>
    rw [q2] at q
    cases q
    obtain ⟨v, h3, h4⟩ := h2.get q2
    refine ⟨⟨vs, v, h1, h3⟩, fun x H' ⟨T, y, e1, e2, e3, e4⟩ => ?_⟩
    have := e4 vs h1
    rw [h3] at this; cases this
    subst e3
    have ex : Ext ρ G.length H ρ G.length (upd H T (.tup [.int (i : Nat), v])) := Ext.laid e2
    refine ⟨ex, r.other e2, T, _, e1, .inl upd_same, _, _, rfl, ?_, _, _, rfl, Rep.ext ex _ _ h4, rfl⟩
    show V.int _ = V.int _
    simp
theorem src_enumT {a : Addr} (h : ∀ ρ G H, Ext ρ0 n0 H0 ρ G.length H → Rel K lk ρ G H → PK.still G g = true → ∃ vs, SqT K H a vs ∧ Reps K lk ρ G.length H xs vs) : Src K lk (IteT K a) (PK.enumD 0 xs) g ρ0 n0 H0 := fun ρ G H e r st i => by
  obtain ⟨vs, h1, h2⟩ := h ρ G H e r st
  refine ⟨fun d q => ?_, fun hl => ⟨vs, h1, by rw [← h2.length]; rw [enum_len] at hl; exact hl⟩⟩
  rw [enum_get] at q
  cases q2 : xs[i]? with
  | none => rw [q2] at q; cases q
  | some d0 =>
    rw [q2] at q
    cases q
    obtain ⟨v, h3, h4⟩ := h2.get q2
    refine ⟨⟨vs, v, h1, h3⟩, fun x H' ⟨T, y, e1, e2, e3, e4⟩ => ?_⟩
    have := e4 vs h1
    rw [h3] at this; cases this
    subst e3
    have ex : Ext ρ G.length H ρ G.length (upd H T (.tup [.int (i : Nat), v])) := Ext.laid e2
    refine ⟨ex, r.other e2, T, _, e1, .inl upd_same, _, _, rfl, ?_, _, _, rfl, Rep.ext ex _ _ h4, rfl⟩
    show V.int _ = V.int _
    simp
theorem zip_get : ∀ {xs ys : List PK.D} {i : Nat} {d : PK.D}, (PK.zipD xs ys)[i]? = some d → ∃ a b, xs[i]? = some a ∧ ys[i]? = some b ∧ d = .tup [a, b]
  | [], ys, i, d, h => by simp [PK.zipD] at h
  | x :: xs, [], i, d, h => by simp [PK.zipD] at h
  | x :: xs, y :: ys, 0, d, h => by
    simp [PK.zipD] at h
    exact ⟨x, y, rfl, rfl, h.symm⟩
  | x :: xs, y :: ys, i + 1, d, h => by
    obtain ⟨a, b, h1, h2, h3⟩ := zip_get (xs := xs) (ys := ys) (i := i) h
    exact ⟨a, b, h1, h2, h3⟩
theorem zip_len : ∀ {xs ys : List PK.D} {i : Nat}, (PK.zipD xs ys).length ≤ i → xs.length ≤ i ∨ ys.length ≤ i
  | [], ys, i, h => .inl (Nat.zero_le _)
  | x :: xs, [], i, h => .inr (Nat.zero_le _)
  | x :: xs, y :: ys, 0, h => by simp [PK.zipD] at h
  | x :: xs, y :: ys, i + 1, h => by
    rcases zip_len (xs := xs) (ys := ys) (i := i) (by simpa [PK.zipD] using h) with z | z
    · exact .inl (by simpa using z)
    · exact .inr (by simpa using z)
theorem zip_item {ρ : Nm} {G : Cells} {H : Hp} {T : Addr} {x y : V} {a b : PK.D} (r : Rel K lk ρ G H) (e2 : H T = none) (h1 : Rep K lk ρ G.length H a x) (h2 : Rep K lk ρ G.length H b y) :
    Ext ρ G.length H ρ G.length (upd H T (.tup [x, y])) ∧ Rel K lk ρ G (upd H T (.tup [x, y])) ∧ Rep K lk ρ G.length (upd H T (.tup [x, y])) (.tup [a, b]) (.ref T) :=
  ⟨Ext.laid e2, r.other e2, T, _, rfl, .inl upd_same, _, _, rfl, Rep.ext (Ext.laid e2) _ _ h1, _, _, rfl, Rep.ext (Ext.laid e2) _ _ h2, rfl⟩
theorem src_zip {a b : Addr} {ys : List PK.D} (h : ∀ ρ G H, Ext ρ0 n0 H0 ρ G.length H → Rel K lk ρ G H → PK.still G g = true → ∃ vs, SqL K H a vs ∧ Reps K lk ρ G.length H xs vs) (h' : ∀ ρ G H, Ext ρ0 n0 H0 ρ G.length H → Rel K lk ρ G H → ∃ vs, SqL K H b vs ∧ Reps K lk ρ G.length H ys vs) :
    Src K lk (Itz K a b) (PK.zipD xs ys) g ρ0 n0 H0 := fun ρ G H e r st i => by
  obtain ⟨vs, h1, h2⟩ := h ρ G H e r st
  obtain ⟨us, h3, h4⟩ := h' ρ G H e r
  refine ⟨fun d q => ?_, fun hl => ⟨vs, us, h1, h3, by rw [← h2.length, ← h4.length]; exact zip_len hl⟩⟩
  obtain ⟨d1, d2, q1, q2, rfl⟩ := zip_get q
  obtain ⟨v, h5, h6⟩ := h2.get q1
  obtain ⟨u, h7, h8⟩ := h4.get q2
  refine ⟨⟨vs, us, v, u, h1, h3, h5, h7⟩, fun x H' ⟨T, x1, x2, e1, e2, e3, e4, e5⟩ => ?_⟩
  have t1 := e4 vs h1
  have t2 := e5 us h3
  rw [h5] at t1; cases t1
  rw [h7] at t2; cases t2
  rw [e3, e1]
  exact zip_item r e2 h6 h8
theorem src_zipT {a b : Addr} {ys : List PK.D} (h : ∀ ρ G H, Ext ρ0 n0 H0 ρ G.length H → Rel K lk ρ G H → ∃ vs, SqT K H a vs ∧ Reps K lk ρ G.length H xs vs) (h' : ∀ ρ G H, Ext ρ0 n0 H0 ρ G.length H → Rel K lk ρ G H → ∃ vs, SqT K H b vs ∧ Reps K lk ρ G.length H ys vs) :
    Src K lk (ItzT K a b) (PK.zipD xs ys) g ρ0 n0 H0 := fun ρ G H e r st i => by
  obtain ⟨vs, h1, h2⟩ := h ρ G H e r
  obtain ⟨us, h3, h4⟩ := h' ρ G H e r
  refine ⟨fun d q => ?_, fun hl => ⟨vs, us, h1, h3, by rw [← h2.length, ← h4.length]; exact zip_len hl⟩⟩
  obtain ⟨d1, d2, q1, q2, rfl⟩ := zip_get q
  obtain ⟨v, h5, h6⟩ := h2.get q1
  obtain ⟨u, h7, h8⟩ := h4.get q2
  refine ⟨⟨vs, us, v, u, h1, h3, h5, h7⟩, fun x H' ⟨T, x1, x2, e1, e2, e3, e4, e5⟩ => ?_⟩
  have t1 := e4 vs h1
  have t2 := e5 us h3
  rw [h5] at t1; cases t1
  rw [h7] at t2; cases t2
  rw [e3, e1]
  exact zip_item r e2 h6 h8
theorem range_get : ∀ {n : Nat} {lo : Int} {i : Nat}, (PK.rangeD lo n)[i]? = if i < n then some (.int (lo + i)) else none
  | 0, lo, i => by simp [PK.rangeD]
  | n + 1, lo, 0 => by simp [PK.rangeD]
  | n + 1, lo, i + 1 => by
    show (PK.rangeD (lo + 1) n)[i]? = _
    rw [range_get]
    have : lo + 1 + (i : Int) = lo + ((i + 1 : Nat) : Int) := by omega
    rw [this]
    by_cases c : i < n
    · rw [if_pos c, if_pos (by omega)]
    · rw [if_neg c, if_neg (by omega)]
theorem range_len : ∀ {n : Nat} {lo : Int}, (PK.rangeD lo n).length = n
  | 0, _ => rfl
  | n + 1, lo => by show (PK.rangeD (lo + 1) n).length + 1 = _; rw [range_len]
theorem src_range {lo : Int} {n : Nat} : Src K lk (Itr lo n) (PK.rangeD lo n) g ρ0 n0 H0 := fun ρ G H e r st i => by
  refine ⟨fun d q => ?_, fun hl => by rw [range_len] at hl; exact hl⟩
  rw [range_get] at q
  split at q
  · rename_i c
    cases q
    refine ⟨c, fun x H' ⟨e1, e2⟩ => ?_⟩
    subst e1
    exact ⟨Ext.refl, r, e2⟩
  · cases q
theorem down_get : ∀ {n : Nat} {hi : Int} {i : Nat}, (PK.downD hi n)[i]? = if i < n then some (.int (hi + (i : Int) * (-1))) else none
  | 0, hi, i => by simp [PK.downD]
  | n + 1, hi, 0 => by simp [PK.downD]
  | n + 1, hi, i + 1 => by
    show (PK.downD (hi - 1) n)[i]? = _
    rw [down_get]
    have : hi - 1 + (i : Int) * (-1) = hi + ((i + 1 : Nat) : Int) * (-1) := by omega
    rw [this]
    by_cases c : i < n
    · rw [if_pos c, if_pos (by omega)]
    · rw [if_neg c, if_neg (by omega)]
theorem down_len : ∀ {n : Nat} {hi : Int}, (PK.downD hi n).length = n
  | 0, _ => rfl
  | n + 1, hi => by show (PK.downD (hi - 1) n).length + 1 = _; rw [down_len]
theorem src_down {hi : Int} {n : Nat} : Src K lk (Itc hi (-1) n) (PK.downD hi n) g ρ0 n0 H0 := fun ρ G H e r st i => by
  refine ⟨fun d q => ?_, fun hl => by rw [down_len] at hl; exact hl⟩
  rw [down_get] at q
  split at q
  · rename_i c
    cases q
    refine ⟨c, fun x H' ⟨e1, e2⟩ => ?_⟩
    subst e1
    exact ⟨Ext.refl, r, e2⟩
  · cases q
theorem src_str {z : Str} : Src K lk (Its z) (PK.signs z) g ρ0 n0 H0 := fun ρ G H e r st i => by
  have hl : (PK.signs z).length = z.cps.size := by unfold PK.signs; rw [List.length_map]; rfl
  refine ⟨fun d q => ?_, fun h => by rw [hl] at h; exact h⟩
  have hi : i < z.cps.size := by rw [← hl]; exact (List.getElem?_eq_some_iff.mp q).1
  refine ⟨hi, fun x H' ⟨e1, c, e2, e3⟩ => ?_⟩
  subst e1
  unfold PK.signs at q
  rw [List.getElem?_map, Array.getElem?_toList, e2] at q
  cases q
  exact ⟨Ext.refl, r, e3⟩
end
section
variable {X : Cx} {lk : Lk} {tg e e2 : Expr} {es elts : List Expr} {ev ev2 er : Ev} {pos p tpos : Pos} {kk : Nat}
theorem itv_out {K : PySem.W.Frag} {W : WX} {σ : L2.St} {ρ : Nm} {G : Cells} {H : Hp} {r : PK.R} {v : PK.D} {G1 : Cells} {Q : VK} (q : r = .ok v G1) (h : ∀ ρ1 H1 x, Ext ρ G.length H ρ1 G1.length H1 → Rel K lk ρ1 G1 H1 → Rep K lk ρ1 G1.length H1 v x → Q x H1) : OutE K lk W σ ρ G H r Q := by
  rw [q]; exact h
theorem seq_later {K : PySem.W.Frag} {lk : Lk} {v : PK.D} {a : Addr} {ds : List PK.D} {ρ0 : Nm} {n0 : Nat} {H0 : Hp} {g : Option (Nat × PK.Cell)} (hs : ∀ G, PK.still G g = true → PK.seqD G v = some ds) (nt : ∀ es, v ≠ .tup es) (p : Rep K lk ρ0 n0 H0 v (.ref a)) :
    ∀ ρ G H, Ext ρ0 n0 H0 ρ G.length H → Rel K lk ρ G H → PK.still G g = true → ∃ vs, SqL K H a vs ∧ Reps K lk ρ G.length H ds vs := fun ρ G H e r st => by
  obtain ⟨a', vs, h1, _, h3, h4, _⟩ := seq_of (hs G st) r (Rep.ext e _ _ p)
  cases h1
  exact ⟨vs, h4 nt, h3⟩
theorem seq_laterT {K : PySem.W.Frag} {lk : Lk} {a : Addr} {ds : List PK.D} {ρ0 : Nm} {n0 : Nat} {H0 : Hp} {g : Option (Nat × PK.Cell)} (p : Rep K lk ρ0 n0 H0 (.tup ds) (.ref a)) :
    ∀ ρ G H, Ext ρ0 n0 H0 ρ G.length H → Rel K lk ρ G H → PK.still G g = true → ∃ vs, SqT K H a vs ∧ Reps K lk ρ G.length H ds vs := fun ρ G H e r st => by
  obtain ⟨a', vs, h1, h2, h3⟩ := Rep.ext e _ _ p
  cases h1
  exact ⟨vs, h2.sq, h3⟩
theorem li_val (he : LE X lk e ev) : LI X lk tg e .val (fun s G => (ev s G).bind fun x G1 => .ok (.tup [x]) G1) := by
  refine ⟨fun pins s' σ H R I ⟨ρ, G, s, r, en, h⟩ => ?_⟩
  dsimp only at h
  cases q : ev s G with
  | bad => rw [q] at h; exact False.elim h
  | exc c G1 => rw [q] at h; exact (pi_list (tg := tg) he).run pins s' σ H R I ⟨ρ, G, s, r, en, by rw [q]; exact h⟩
  | ok v G1 =>
    rw [q] at h
    obtain ⟨⟨xs, g⟩, e1, h⟩ := h
    have goL : ∀ ds, (∀ es, v ≠ .tup es) → (∀ z, v ≠ .str z) → xs = ds → (∀ G, PK.still G g = true → PK.seqD G v = some ds) → PK.still G1 g = true → wpAny (model X.prog X.w) X.A (eval e X.env) (fun v s1 => wpAny (model X.prog X.w) X.A (pyIter v) (PIE X pins σ tg R) X.xe s1) X.xe s' := fun ds nt ns ex hs st =>
      (pi_list (tg := tg) he).run pins s' σ H R I ⟨ρ, G, s, r, en, itv_out q fun ρ1 H1 x e1 r1 p1 => by
        obtain ⟨a, vs, h1, _, h3, h4, _⟩ := seq_of (hs G1 st) r1 p1
        subst h1
        subst ex
        exact ⟨a, rfl, ⟨vs, h4 nt⟩, h _ ρ1 H1 e1 r1 (fun A hA => src_list (seq_later hs nt (Rep.add hA _ _ p1))) (src_list (seq_later hs nt p1))⟩⟩
    cases v with
    | str z =>
      cases e1
      exact (pi_str (tg := tg) he).run pins s' σ H R I ⟨ρ, G, s, r, en, itv_out q fun ρ1 H1 x e1 r1 p1 => ⟨z, p1, h _ ρ1 H1 e1 r1 (fun A hA => src_str) src_str⟩⟩
    | tup ds =>
      cases e1
      exact (pi_tup (tg := tg) he).run pins s' σ H R I ⟨ρ, G, s, r, en, itv_out q fun ρ1 H1 x e1 r1 p1 => by
        have p2 := p1
        obtain ⟨a, vs, h1, h2, h3⟩ := p1
        subst h1
        exact ⟨a, rfl, ⟨vs, h2.sq⟩, h _ ρ1 H1 e1 r1 (fun A hA => src_tup (seq_laterT (Rep.add hA _ _ p2))) (src_tup (seq_laterT p2))⟩⟩
    | lst ds => cases e1; exact goL _ (fun _ z => by cases z) (fun _ z => by cases z) rfl (fun _ _ => rfl) rfl
    | fz ds => cases e1; exact goL _ (fun _ z => by cases z) (fun _ z => by cases z) rfl (fun _ _ => rfl) rfl
    | ref i =>
      have e1 : (match G1[i]? with | some (.lst ds) => some (ds, some (i, PK.Cell.lst ds)) | some (.frK kvs) => some (kvs.map fun kv => PK.kD kv.1, none) | _ => none) = some (xs, g) := e1
      cases q2 : G1[i]? with
      | none => rw [q2] at e1; cases e1
      | some c =>
        cases c with
        | lst ds =>
          rw [q2] at e1
          cases e1
          refine goL xs (fun _ z => by cases z) (fun _ z => by cases z) rfl (fun G st => ?_) (decide_eq_true q2)
          have : G[i]? = some (.lst xs) := of_decide_eq_true st
          show (match G[i]? with | some (.lst ds) => some ds | _ => none) = some xs
          rw [this]
        | frK kvs =>
          rw [q2] at e1
          cases e1
          exact (pi_keys (tg := tg) he).run pins s' σ H R I ⟨ρ, G, s, r, en, itv_out q fun ρ1 H1 x e1 r1 p1 => by
            obtain ⟨hi, hx⟩ := p1
            obtain ⟨u, h1, zs, od, h2, h3⟩ := r1.cell i _ q2
            subst h2
            exact ⟨ρ1 i, od, hx, .inl ⟨zs, h1, h _ ρ1 H1 e1 r1 (fun A hA => src_keys h1 h3.1) (src_keys h1 h3.1)⟩⟩⟩
        | _ => rw [q2] at e1; cases e1
    | _ => cases e1
theorem OutI.bind {K : PySem.W.Frag} {W : WX} {σ : L2.St} {ρ : Nm} {G : Cells} {H : Hp} {k : PK.Ik} {r : PK.R} {R : It → Hp → Prop} {Q : List V → Hp → Prop} (h : OutI K lk W σ ρ G H k r R)
    (f : ∀ ds G1 xg, PK.itD k ds G1 = some xg → ∀ ρ1 H1 xs, Ext ρ G.length H ρ1 G1.length H1 → Rel K lk ρ1 G1 H1 → Reps K lk ρ1 G1.length H1 ds xs → (∀ J, (∀ A, H1 A = none → Src K (lk.add A) J xg.1 xg.2 ρ1 G1.length H1) → Src K lk J xg.1 xg.2 ρ1 G1.length H1 → R J H1) → Q xs H1) : OutA K lk W σ ρ G H r Q := by
  cases r with
  | ok v G1 =>
    intro ρ1 H1 xs e1 r1 ⟨ds, hv, p1⟩
    subst hv
    obtain ⟨xg, e2, h⟩ := h
    exact f ds G1 xg e2 ρ1 H1 xs e1 r1 p1 fun J s1 s2 => h J ρ1 H1 e1 r1 s1 s2
  | exc c G1 => exact h
  | bad => exact h
theorem li_range1 (hg : Gl X "range") (hm : X.mg "range" = none) (ha : LA X lk [e] er) (hs : starEach [e] X.env = [(false, eval e X.env)]) : LI X lk tg (.Call (.Name "range" p) [e] [] pos) .range1 er := by
  refine ⟨fun pins s' σ H R I ⟨ρ, G, s, r, en, h⟩ => (pi_range1 hg hm ha hs).run pins s' σ H R I ⟨ρ, G, s, r, en, OutI.bind h fun ds G1 xg e1 ρ1 H1 xs ex r1 p1 hR => ?_⟩⟩
  match ds, e1, p1 with
  | [], e1, _ => cases e1
  | d1 :: _ :: _, e1, _ => cases d1 <;> cases e1
  | [d], e1, p1 =>
    cases d with
    | int n =>
      have e1 : (if decide (-(2 ^ 62) ≤ n ∧ n < 2 ^ 62) then some (PK.rangeD 0 n.toNat, none) else none) = some xg := e1
      split at e1
      · rename_i c
        cases e1
        obtain ⟨c1, c2⟩ := of_decide_eq_true c
        obtain ⟨x, rfl, px⟩ := p1.one_of
        exact ⟨n, by rw [show x = V.int n from px], c1, c2, hR _ (fun A hA => src_range) src_range⟩
      · cases e1
    | _ => cases e1
theorem li_range2 (hg : Gl X "range") (hm : X.mg "range" = none) (ha : LA X lk [e, e2] er) (hs : starEach [e, e2] X.env = [(false, eval e X.env), (false, eval e2 X.env)]) (hs2 : starEach [e2] X.env = [(false, eval e2 X.env)]) : LI X lk tg (.Call (.Name "range" p) [e, e2] [] pos) .range2 er := by
  refine ⟨fun pins s' σ H R I ⟨ρ, G, s, r, en, h⟩ => (pi_range2A hg hm ha hs hs2).run pins s' σ H R I ⟨ρ, G, s, r, en, OutI.bind h fun ds G1 xg e1 ρ1 H1 xs ex r1 p1 hR => ?_⟩⟩
  match ds, e1, p1 with
  | [], e1, _ => cases e1
  | [d], e1, _ => cases d <;> cases e1
  | d :: d' :: _ :: _, e1, _ => cases d <;> first | cases e1 | (cases d' <;> cases e1)
  | [d, d'], e1, p1 =>
    cases d with
    | int a =>
      cases d' with
      | int b =>
        have e1 : (if decide (-(2 ^ 62) ≤ a ∧ a < 2 ^ 62 ∧ -(2 ^ 62) ≤ b ∧ b < 2 ^ 62) then some (PK.rangeD a (b - a).toNat, none) else some (PK.rangeD a (b - a).toNat, none)) = some xg := e1
        have e1 : some (PK.rangeD a (b - a).toNat, none) = some xg := by
          split at e1 <;> exact e1
        cases e1
        obtain ⟨x, y, rfl, px, py⟩ := p1.two_of
        exact ⟨a, b, by rw [show x = V.int a from px, show y = V.int b from py], hR _ (fun A hA => src_range) src_range⟩
      | _ => cases e1
    | _ => cases e1
theorem li_range3 {e3 : Expr} (hg : Gl X "range") (hm : X.mg "range" = none) (ha : LA X lk [e, e2, e3] er) (hs : starEach [e, e2, e3] X.env = (false, eval e X.env) :: starEach [e2, e3] X.env) (hpl : (backTo pos (starEach [e2, e3] X.env)).any (·.1) = false) : LI X lk tg (.Call (.Name "range" p) [e, e2, e3] [] pos) .range3 er := by
  refine ⟨fun pins s' σ H R I ⟨ρ, G, s, r, en, h⟩ => (pi_range3 hg hm ha hs hpl).run pins s' σ H R I ⟨ρ, G, s, r, en, OutI.bind h fun ds G1 xg e1 ρ1 H1 xs ex r1 p1 hR => ?_⟩⟩
  match ds, e1, p1 with
  | [], e1, _ => cases e1
  | [d], e1, _ => cases d <;> cases e1
  | [d, d'], e1, _ => cases d <;> first | cases e1 | (cases d' <;> cases e1)
  | d :: d' :: d'' :: _ :: _, e1, _ => cases d <;> first | cases e1 | (cases d' <;> first | cases e1 | (cases d'' <;> cases e1))
  | [d, d', d''], e1, p1 =>
    cases d with
    | int a =>
      cases d' with
      | int b =>
        cases d'' with
        | int c =>
          have e1 : (if decide (-(2 ^ 62) ≤ a ∧ a < 2 ^ 62 ∧ -(2 ^ 62) ≤ b ∧ b < 2 ^ 62 ∧ c = -1) then some (PK.downD a (a - b).toNat, none) else none) = some xg := e1
          split at e1
          · rename_i k
            cases e1
            obtain ⟨k1, k2, k3, k4, rfl⟩ := of_decide_eq_true k
            obtain ⟨x, xs', h1, px, p2⟩ := p1
            subst h1
            obtain ⟨y, z, rfl, py, pz⟩ := Reps.two_of p2
            exact ⟨a, b, -1, _, by rw [show x = V.int a from px, show y = V.int b from py, show z = V.int (-1) from pz], RgC.neg (by omega) (by omega) (by omega) (by omega), hR _ (fun A hA => src_down) src_down⟩
          · cases e1
        | _ => cases e1
      | _ => cases e1
    | _ => cases e1
theorem li_enum (hg : Gl X "enumerate") (hm : X.mg "enumerate" = none) (ha : LA X lk [e] er) (hs : starEach [e] X.env = [(false, eval e X.env)]) : LI X lk (.Tuple elts kk tpos) (.Call (.Name "enumerate" p) [e] [] pos) .enum er := by
  refine ⟨fun pins s' σ H R I ⟨ρ, G, s, r, en, h⟩ => (pi_enumT hg hm ha hs).run pins s' σ H R I ⟨ρ, G, s, r, en, OutI.bind h fun ds G1 xg e1 ρ1 H1 xs ex r1 p1 hR => ?_⟩⟩
  match ds, e1, p1 with
  | [], e1, _ => cases e1
  | _ :: _ :: _, e1, _ => cases e1
  | [d], e1, p1 =>
    obtain ⟨x, rfl, px⟩ := p1.one_of
    obtain ⟨zs, g⟩ := xg
    have goL : ∀ es, (∀ us, d ≠ .tup us) → zs = PK.enumD 0 es → (∀ G, PK.still G g = true → PK.seqD G d = some es) → PK.still G1 g = true → ∃ a xs, [x] = [V.ref a] ∧ ((SqL X.K H1 a xs ∧ R (Ite X.K a) H1) ∨ (SqT X.K H1 a xs ∧ R (IteT X.K a) H1)) := fun es nt ez hs st => by
      obtain ⟨a, vs, h1, _, h3, h4, _⟩ := seq_of (hs G1 st) r1 px
      subst h1
      subst ez
      exact ⟨a, vs, rfl, .inl ⟨h4 nt, hR _ (fun A hA => src_enum (seq_later hs nt (Rep.add hA _ _ px))) (src_enum (seq_later hs nt px))⟩⟩
    cases d with
    | tup ds =>
      cases e1
      have p2 := px
      obtain ⟨a, vs, h1, h2, h3⟩ := px
      subst h1
      exact ⟨a, vs, rfl, .inr ⟨h2.sq, hR _ (fun A hA => src_enumT (seq_laterT (Rep.add hA _ _ p2))) (src_enumT (seq_laterT p2))⟩⟩
    | lst ds => cases e1; exact goL _ (fun _ z => by cases z) rfl (fun _ _ => rfl) rfl
    | fz ds => cases e1; exact goL _ (fun _ z => by cases z) rfl (fun _ _ => rfl) rfl
    | ref i =>
      have e1 : (match G1[i]? with | some (.lst ds) => some (PK.enumD 0 ds, some (i, PK.Cell.lst ds)) | _ => none) = some (zs, g) := e1
      cases q2 : G1[i]? with
      | none => rw [q2] at e1; cases e1
      | some c =>
        cases c with
        | lst ds =>
          rw [q2] at e1
          cases e1
          refine goL ds (fun _ z => by cases z) rfl (fun G st => ?_) (decide_eq_true q2)
          have : G[i]? = some (.lst ds) := of_decide_eq_true st
          show (match G[i]? with | some (.lst ds) => some ds | _ => none) = some ds
          rw [this]
        | _ => rw [q2] at e1; cases e1
    | _ => cases e1
theorem src_rev {K : PySem.W.Frag} {ρ0 : Nm} {n0 : Nat} {H0 : Hp} {zs : List PK.D} {g : Option (Nat × PK.Cell)} {a : Addr} (h : ∀ ρ G H, Ext ρ0 n0 H0 ρ G.length H → Rel K lk ρ G H → PK.still G g = true → ∃ vs, SqL K H a vs ∧ Reps K lk ρ G.length H zs vs) : Src K lk (Itv K a zs.length) zs.reverse g ρ0 n0 H0 := fun ρ G H e r st i => by
  obtain ⟨vs, h1, h2⟩ := h ρ G H e r st
  refine ⟨fun d q => ?_, fun hl => by rw [List.length_reverse] at hl; exact hl⟩
  have hi : i < zs.length := by have := (List.getElem?_eq_some_iff.mp q).1; rwa [List.length_reverse] at this
  rw [List.getElem?_reverse hi] at q
  obtain ⟨v, h3, h4⟩ := h2.get q
  refine ⟨⟨hi, vs, v, h1, h3⟩, fun x H' ⟨e1, e2⟩ => ?_⟩
  subst e1
  have := e2 vs h1
  rw [h3] at this; cases this
  exact ⟨Ext.refl, r, h4⟩
theorem li_rev (hg : Gl X "reversed") (hm : X.mg "reversed" = none) (ha : LA X lk [e] er) (hs : starEach [e] X.env = [(false, eval e X.env)]) : LI X lk tg (.Call (.Name "reversed" p) [e] [] pos) .rev er := by
  refine ⟨fun pins s' σ H R I ⟨ρ, G, s, r, en, h⟩ => (pi_reversed hg hm ha hs).run pins s' σ H R I ⟨ρ, G, s, r, en, OutI.bind h fun ds G1 xg e1 ρ1 H1 xs ex r1 p1 hR => ?_⟩⟩
  match ds, e1, p1 with
  | [], e1, _ => cases e1
  | _ :: _ :: _, e1, _ => cases e1
  | [d], e1, p1 =>
    obtain ⟨x, rfl, px⟩ := p1.one_of
    obtain ⟨zs, g⟩ := xg
    have goL : ∀ es, (∀ us, d ≠ .tup us) → zs = es.reverse → (∀ G, PK.still G g = true → PK.seqD G d = some es) → PK.still G1 g = true → ∃ (a : Addr) (xs : List V), [x] = [V.ref a] ∧ SqL X.K H1 a xs ∧ R (Itv X.K a xs.length) H1 := fun es nt ez hs st => by
      obtain ⟨a, vs, h1, _, h3, h4, _⟩ := seq_of (hs G1 st) r1 px
      subst h1
      subst ez
      refine ⟨a, vs, rfl, h4 nt, ?_⟩
      rw [← h3.length]
      exact hR _ (fun A hA => src_rev (seq_later hs nt (Rep.add hA _ _ px))) (src_rev (seq_later hs nt px))
    cases d with
    | tup ds => cases e1
    | lst ds => cases e1; exact goL _ (fun _ z => by cases z) rfl (fun _ _ => rfl) rfl
    | fz ds => cases e1; exact goL _ (fun _ z => by cases z) rfl (fun _ _ => rfl) rfl
    | ref i =>
      have e1 : (match G1[i]? with | some (.lst ds) => some (ds.reverse, some (i, PK.Cell.lst ds)) | _ => none) = some (zs, g) := e1
      cases q2 : G1[i]? with
      | none => rw [q2] at e1; cases e1
      | some c =>
        cases c with
        | lst ds =>
          rw [q2] at e1
          cases e1
          refine goL ds (fun _ z => by cases z) rfl (fun G st => ?_) (decide_eq_true q2)
          have : G[i]? = some (.lst ds) := of_decide_eq_true st
          show (match G[i]? with | some (.lst ds) => some ds | _ => none) = some ds
          rw [this]
        | _ => rw [q2] at e1; cases e1
    | _ => cases e1
theorem fixed_of {v : PK.D} {t : Bool} {ds : List PK.D} (h : PK.fixedS v = some (t, ds)) : (t = true ∧ v = .tup ds) ∨ (t = false ∧ (∀ es, v ≠ .tup es) ∧ ∀ G, PK.seqD G v = some ds) := by
  cases v with
  | tup es => cases h; exact .inl ⟨rfl, rfl⟩
  | lst es => cases h; exact .inr ⟨rfl, (fun _ z => by cases z), fun _ => rfl⟩
  | fz es => cases h; exact .inr ⟨rfl, (fun _ z => by cases z), fun _ => rfl⟩
  | _ => cases h
theorem li_zip (hg : Gl X "zip") (hm : X.mg "zip" = none) (ha : LA X lk [e, e2] er) (hs : starEach [e, e2] X.env = (false, eval e X.env) :: starEach [e2] X.env) (hpl : (backTo pos (starEach [e2] X.env)).any (·.1) = false) :
    LI X lk (.Tuple elts kk tpos) (.Call (.Name "zip" p) [e, e2] [] pos) .zip er := by
  refine ⟨fun pins s' σ H R I ⟨ρ, G, s, r, en, h⟩ => (pi_zipA hg hm ha hs hpl).run pins s' σ H R I ⟨ρ, G, s, r, en, OutI.bind h fun ds G1 xg e1 ρ1 H1 xs ex r1 p1 hR => ?_⟩⟩
  match ds, e1, p1 with
  | [], e1, _ => cases e1
  | [d], e1, _ => cases e1
  | _ :: _ :: _ :: _, e1, _ => cases e1
  | [d, d'], e1, p1 =>
    obtain ⟨x, y, rfl, px, py⟩ := p1.two_of
    have e1 : PK.itD .zip [d, d'] G1 = some xg := e1
    unfold PK.itD at e1
    dsimp only at e1
    cases q1 : PK.fixedS d with
    | none =>
      rw [q1] at e1
      cases q2 : PK.fixedS d' with
      | none => rw [q2] at e1; cases e1
      | some ub =>
        rw [q2] at e1
        obtain ⟨u, b⟩ := ub
        cases u with
        | true => cases e1
        | false =>
          rcases fixed_of q2 with ⟨z, _⟩ | ⟨_, n2, s2⟩
          · cases z
          · cases d with
            | ref i =>
              have e1 : (match G1[i]? with | some (.lst a) => some (PK.zipD a b, some (i, PK.Cell.lst a)) | _ => none) = some xg := e1
              cases q3 : G1[i]? with
              | none => rw [q3] at e1; cases e1
              | some c =>
                cases c with
                | lst a =>
                  rw [q3] at e1
                  cases e1
                  have s1 : ∀ G, PK.still G (some (i, PK.Cell.lst a)) = true → PK.seqD G (.ref i) = some a := fun G st => by
                    have : G[i]? = some (.lst a) := of_decide_eq_true st
                    show (match G[i]? with | some (.lst ds) => some ds | _ => none) = some a
                    rw [this]
                  have n1 : ∀ es, PK.D.ref i ≠ .tup es := fun _ z => by cases z
                  obtain ⟨A, vs, hx, _, h3, h4, _⟩ := seq_of (s1 G1 (decide_eq_true q3)) r1 px
                  obtain ⟨B, us, hy, _, h5, h6, _⟩ := seq_of (s2 G1) r1 py
                  subst hx
                  subst hy
                  exact ⟨A, B, vs, us, rfl, .inl ⟨h4 n1, h6 n2, hR _ (fun Z hZ => src_zip (seq_later s1 n1 (Rep.add hZ _ _ px)) (fun ρ G H e r => seq_later (g := none) (fun G _ => s2 G) n2 (Rep.add hZ _ _ py) ρ G H e r rfl))
                    (src_zip (seq_later s1 n1 px) (fun ρ G H e r => seq_later (g := none) (fun G _ => s2 G) n2 py ρ G H e r rfl))⟩⟩
                | _ => rw [q3] at e1; cases e1
            | _ => cases e1
    | some ta =>
      cases q2 : PK.fixedS d' with
      | none => rw [q1, q2] at e1; cases e1
      | some ub =>
        obtain ⟨t, a⟩ := ta
        obtain ⟨u, b⟩ := ub
        rw [q1, q2] at e1
        simp only at e1
        split at e1
        · rename_i c
          subst c
          cases e1
          rcases fixed_of q1 with ⟨rfl, rfl⟩ | ⟨rfl, n1, s1⟩
          · rcases fixed_of q2 with ⟨_, rfl⟩ | ⟨z, _⟩
            · have px2 := px
              have py2 := py
              obtain ⟨A, vs, hx, h2, h3⟩ := px
              obtain ⟨B, us, hy, h4, h5⟩ := py
              subst hx
              subst hy
              exact ⟨A, B, vs, us, rfl, .inr ⟨h2.sq, h4.sq, hR _ (fun Z hZ => src_zipT (fun ρ G H e r => seq_laterT (g := none) (Rep.add hZ _ _ px2) ρ G H e r rfl) (fun ρ G H e r => seq_laterT (g := none) (Rep.add hZ _ _ py2) ρ G H e r rfl))
                (src_zipT (fun ρ G H e r => seq_laterT (g := none) px2 ρ G H e r rfl) (fun ρ G H e r => seq_laterT (g := none) py2 ρ G H e r rfl))⟩⟩
            · cases z
          · rcases fixed_of q2 with ⟨z, _⟩ | ⟨_, n2, s2⟩
            · cases z
            · obtain ⟨A, vs, hx, _, h3, h4, _⟩ := seq_of (s1 G1) r1 px
              obtain ⟨B, us, hy, _, h5, h6, _⟩ := seq_of (s2 G1) r1 py
              subst hx
              subst hy
              exact ⟨A, B, vs, us, rfl, .inl ⟨h4 n1, h6 n2, hR _ (fun Z hZ => src_zip (fun ρ G H e r _ => seq_later (g := none) (fun G _ => s1 G) n1 (Rep.add hZ _ _ px) ρ G H e r rfl) (fun ρ G H e r => seq_later (g := none) (fun G _ => s2 G) n2 (Rep.add hZ _ _ py) ρ G H e r rfl))
                (src_zip (fun ρ G H e r _ => seq_later (g := none) (fun G _ => s1 G) n1 px ρ G H e r rfl) (fun ρ G H e r => seq_later (g := none) (fun G _ => s2 G) n2 py ρ G H e r rfl))⟩⟩
        · cases e1
end
end PKS
namespace PKS
open PySem PySem.Spec PyProof.Rows L2
abbrev nowhere : Value → Shared → Prop := fun _ _ => False
structure Feeds (Y : Cx) (tg : Expr) (J : It) (fp : List Addr) (it : Addr) (tn : Nat → Heap → Prop) : Prop where
  obj : ∀ i h, tn i h → ∀ b ∈ fp, ∃ o, h.get? b = some o ∧ ∀ v, o.data ≠ .cell v
  keep : ∀ i h h', tn i h → (∀ b ∈ fp, ∀ o, h.get? b = some o → h'.get? b = some o) → tn i h'
  next : ∀ {i s σ H}, Inv Y [] σ H s → Recs Y [] H fp → tn i s.heap → J.go i H → wpAny (model Y.prog Y.w) Y.A (pyNext (.ref it)) (fun r s1 => ∃ u, r = some u ∧
    wpAny (model Y.prog Y.w) Y.A (letOwnedTupleGo tg (.ref it) u) (fun _ s2 => ∃ x H', Inv Y [] σ H' s2 ∧ RelV x u ∧ J.yld i H x H' ∧ tn (i + 1) s2.heap ∧ ∀ b ∈ fp, H' b = none) nowhere s1) nowhere s
  last : ∀ {i s σ H}, Inv Y [] σ H s → Recs Y [] H fp → tn i s.heap → J.stop i H → wpAny (model Y.prog Y.w) Y.A (pyNext (.ref it)) (fun r s1 => r = none ∧ Inv Y [] σ H s1) nowhere s
theorem Feeds.of {P : Program} {w : World} {K : PySem.W.Frag} {tg : Expr} {J : It} {fp : List Addr} {it : Addr} {tn : Nat → Heap → Prop} (T : Turn P w K tg J fp it tn) {Y : Cx} (e1 : Y.prog = P) (e2 : Y.w = w) (e3 : Y.K = K) (hc : Y.calm = true) : Feeds Y tg J fp it tn := by
  subst e1 e2 e3
  exact ⟨T.obj, T.keep, fun I f st go => T.item Y rfl rfl rfl hc _ [] _ _ _ _ I f st go, fun I f st stop => T.done Y rfl rfl rfl hc _ [] _ _ _ _ I f st stop⟩
def Plan (J : It) (g : TG) (tt : TT) (te : TE) (σ : L2.St) (vs : List Nat) (D : Addr) (fin : Hp → Prop) (W : Nat → Nat → Hp → Prop) : Prop := ∀ i m H, W i m H →
  (J.stop i H ∧ fin H) ∨ (J.go i H ∧ ∃ Nx : Hp → Prop, (∀ H', Nx H' → ∃ m', m' < m ∧ W (i + 1) m' H') ∧ ∀ x H', J.yld i H x H' → g x (wipe σ vs) H' fun σ2 H2 => wipe σ2 vs = wipe σ vs ∧ tt σ2 H2 fun b H3 =>
    if b = true then te σ2 H3 fun y H4 => ∃ acc, H4 D = some (.lst acc) ∧ acc.length < sizeLine ∧ Nx (upd H4 D (.lst (acc ++ [y]))) else Nx H3)
def Rest (Y : Cx) (fp : List Addr) (tn : Nat → Heap → Prop) (σ0 : L2.St) (W : Nat → Nat → Hp → Prop) (n : Nat) (s : Shared) : Prop :=
  ∃ i H, Inv Y [] σ0 H s ∧ tn i s.heap ∧ (∀ b ∈ fp, H b = none) ∧ W i n H
section
variable {Y : Cx} {tg elt : Expr} {ifs : List Expr} {J : It} {fp : List Addr} {it D : Addr} {tn : Nat → Heap → Prop} {g : TG} {tt : TT} {te : TE} {σ : L2.St} {vs : List Nat} {W : Nat → Nat → Hp → Prop} {s : Shared}
theorem Feeds.rest (F : Feeds Y tg J fp it tn) {i : Nat} {h1 : Heap} {σ2 : L2.St} {H : Hp} (t1 : tn i h1) (K : Inv Y ([] ++ pinsAt fp h1) σ2 H s) (same : wipe σ2 vs = wipe σ vs) :
    Inv Y [] (wipe σ vs) H s ∧ tn i s.heap ∧ ∀ b ∈ fp, H b = none := by
  have pin : ∀ b ∈ fp, ∀ o, h1.get? b = some o → s.heap.get? b = some o ∧ H b = none := fun b hb o q => (K.pin (b, o) (List.mem_append_right _ (mem_pinsAt hb q))).imp_right (·.1)
  refine ⟨K.unpinned.weak ?_ fun j v q => ?_, F.keep i h1 _ t1 fun b hb o q => (pin b hb o q).1, fun b hb => ?_⟩
  · rw [← same, wipe_length]
  · rw [← same] at q
    exact (wipe_some q).1
  · obtain ⟨o, q, _⟩ := F.obj i h1 t1 b hb
    exact (pin b hb o q).2
theorem one_round (F : Feeds Y tg J fp it tn) (recs : ∀ {σ H s}, Inv Y [] σ H s → (∀ b ∈ fp, H b = none) → Recs Y [] H fp) (pg : PG Y tg g) (pt : PTs Y ifs tt) (pe : PE Y elt te) {fin : Hp → Prop} (plan : Plan J g tt te σ vs D fin W)
    {R : Shared → Prop} (hR : ∀ H s, Inv Y [] (wipe σ vs) H s → fin H → R s) {NB : Value → Shared → Prop} (ke : ∀ e s, Y.xe e s → NB e s) {n : Nat} (h : Rest Y fp tn (wipe σ vs) W n s) :
    wpAny (model Y.prog Y.w) Y.A (pyNext (.ref it)) (fun r s₁ => match r with
      | none => R s₁
      | some v => wpAny (model Y.prog Y.w) Y.A (letOwnedTupleGo tg (.ref it) v) (fun _ s₁' => wpAny (model Y.prog Y.w) Y.A (assign tg Y.env v) (fun _ s₂ =>
          wpAny (model Y.prog Y.w) Y.A (forIn ifs true fun c r => if r = true then do let ok ← isTrue c Y.env (eval c Y.env); pure (ForInStep.yield ok) else pure (ForInStep.yield r)) (fun ok s₃ =>
            if ok = true then wpAny (model Y.prog Y.w) Y.A (eval elt Y.env) (fun x s₄ =>
              wpAny (model Y.prog Y.w) Y.A (call (.builtin "list.append") [.ref D, x]) (fun _ s₅ => ∃ m, m < n ∧ Rest Y fp tn (wipe σ vs) W m s₅) NB s₄) NB s₃
            else ∃ m, m < n ∧ Rest Y fp tn (wipe σ vs) W m s₃) NB s₂) NB s₁') NB s₁) NB s := by
  obtain ⟨i, H, I, t0, z, w⟩ := h
  rcases plan i n H w with ⟨stop, q⟩ | ⟨go, Nx, less, step⟩
  · exact wpAny_mono (F.last I (recs I z) t0 stop) (fun _ s1 ⟨e, I1⟩ => e ▸ hR H s1 I1 q) fun _ _ f => f.elim
  have ends : ∀ {h1 σ2 H' s'}, tn (i + 1) h1 → Inv Y ([] ++ pinsAt fp h1) σ2 H' s' → wipe σ2 vs = wipe σ vs → Nx H' → ∃ m, m < n ∧ Rest Y fp tn (wipe σ vs) W m s' := fun t1 K same nx =>
    let ⟨m, lt, w'⟩ := less _ nx
    let ⟨K', t', z'⟩ := F.rest t1 K same
    ⟨m, lt, i + 1, _, K', t', z', w'⟩
  have tests : ∀ {x u H1 s1}, Inv Y [] (wipe σ vs) H1 s1 → RelV x u → J.yld i H x H1 → tn (i + 1) s1.heap → (∀ b ∈ fp, H1 b = none) → wpAny (model Y.prog Y.w) Y.A (assign tg Y.env u) (fun _ s₂ =>
      wpAny (model Y.prog Y.w) Y.A (forIn ifs true fun c r => if r = true then do let ok ← isTrue c Y.env (eval c Y.env); pure (ForInStep.yield ok) else pure (ForInStep.yield r)) (fun ok s₃ =>
        if ok = true then wpAny (model Y.prog Y.w) Y.A (eval elt Y.env) (fun x s₄ =>
          wpAny (model Y.prog Y.w) Y.A (call (.builtin "list.append") [.ref D, x]) (fun _ s₅ => ∃ m, m < n ∧ Rest Y fp tn (wipe σ vs) W m s₅) NB s₄) NB s₃
        else ∃ m, m < n ∧ Rest Y fp tn (wipe σ vs) W m s₃) NB s₂) NB s1 := fun {x u H1 s1} I1 r y t1 z1 => by
    refine wpAny_mono (pg.run _ s1 _ H1 x u _ (I1.pinned (recs I1 z1) (F.obj _ _ t1)) r (step x H1 y)) (fun _ s2 ⟨σ2, H2, I2, same, q2⟩ => ?_) ke
    refine wpAny_mono (pt.run _ s2 σ2 H2 _ I2 q2) (fun b s3 ⟨H3, I3, q3⟩ => ?_) ke
    match b, q3 with
    | true, q3 => exact wpAny_mono (pe.run _ s3 σ2 H3 _ I3 q3) (fun _ s4 ⟨_, H4, I4, r4, _, at4, room, nx⟩ => app_ok I4 at4 room r4 fun s5 I5 => ends t1 I5 same nx) ke
    | false, q3 => exact ends t1 I3 same q3
  exact wpAny_mono (F.next I (recs I z) t0 go) (fun _ s1 ⟨u, e, h⟩ => e ▸ wpAny_mono h (fun _ s2 ⟨x, H2, I2, r, y, t2, z2⟩ => tests I2 r y t2 z2) fun _ _ f => f.elim) fun _ _ f => f.elim
theorem rounds (F : Feeds Y tg J fp it tn) (recs : ∀ {σ H s}, Inv Y [] σ H s → (∀ b ∈ fp, H b = none) → Recs Y [] H fp) (pg : PG Y tg g) (pt : PTs Y ifs tt) (pe : PE Y elt te) {fin : Hp → Prop} (plan : Plan J g tt te σ vs D fin W) {iter : Expr} {scope : Scope} {pos : Pos}
    {R : Result → Shared → Prop} (hR : ∀ H s, Inv Y [] (wipe σ vs) H s → fin H → R (.ok .next) s) (ke : ∀ e s, Y.xe e s → notedBy (model Y.prog Y.w) Y.A Y.env (fun e s => R (.error e) s) e s) {n : Nat} (h : Rest Y fp tn (wipe σ vs) W n s) :
    codeAny (model Y.prog Y.w) Y.A (.compLoop (.ListComp elt [⟨tg, iter, ifs, 0⟩] scope pos) 0 (.ref it) (.ref D) Y.env) R s :=
  compLoop_any (Rest Y fp tn (wipe σ vs) W) (fun _ _ h => one_round F recs pg pt pe plan hR ke h) n h
end
section
variable {X : Cx} {pins : List (Addr × Obj)} {σ : L2.St} {H H' : Hp} {s s' : Shared} {fp : List Addr} {D : Addr}
abbrev empties : Obj := { cls := .type "list", data := .seq ([] : List Value).toArray }
theorem lay_list (I : Inv X pins σ H s) (f : Recs X pins H fp) (old : ∀ b ∈ fp, b < s.heap.objs.size) :
    Inv X pins σ (upd H s.heap.objs.size (.lst [])) { s with heap := s.heap.push empties } ∧ Recs X pins (upd H s.heap.objs.size (.lst [])) fp :=
  ⟨I.laid (t' := s.toks) (fun _ _ => Heap.get?_push_of_some _) (Nat.le_refl _) ⟨Nat.zero_le _, [], 0, .nil, Heap.get?_push_size _ rfl⟩,
    fun b hb => ⟨(upd_ne (Nat.ne_of_lt (old b hb))).trans (f b hb).1, (f b hb).2⟩⟩
theorem enter {scope : Scope} {own : List (Str × Nat)} {pn : List (Addr × Obj)} {xe : Env → Value → Shared → Prop} (I : Inv X pins σ H s) (ok : BlkOk X.N X.env.scope scope own) (hN : X.N.Nodup) (f : Recs X pins H fp) (old : ∀ b ∈ fp, b < s.heap.objs.size) (hpn : ∀ q ∈ pn, q ∈ X.pn) :
    Inv (blkY X s H scope fp pn xe (compEnvC scope (cellsFrom (s.heap.objs.size + 1) scope.names (cloFrom X.env.cells scope.names [])) s.heap.objs.size X.env)) [] (wipe σ (own.map (·.2))) H
      { s with heap := pushCells (s.heap.push { cls := .type "dict", data := .dict #[] }) scope.names } := by
  have K := block_start I ok hN fun b hb => ⟨f b hb, old b hb⟩
  refine Inv.toTry (pins := pn) (K.pins_of fun q hq => ?_) _
  obtain ⟨g, n, l, r, c⟩ := I.pin q (List.mem_append_left _ (hpn q hq))
  exact ⟨pushCells_keeps _ _ _ _ (Heap.get?_push_of_some _ g), n, Nat.ne_of_lt (Heap.lt_size g), fun m => (List.mem_cons.mp (I.stkSub q.1 m)).elim l r, c⟩
theorem own_recs {scope : Scope} {ce : Env} {pn : List (Addr × Obj)} {xe : Env → Value → Shared → Prop} (f : Recs X pins H fp) (hpn : ∀ q ∈ pn, q ∈ X.pn) {σ2 : L2.St} (K : Inv (blkY X s H scope fp pn xe ce) [] σ2 H' s') (z : ∀ b ∈ fp, H' b = none) :
    Recs (blkY X s H scope fp pn xe ce) [] H' fp := fun b hb =>
  have l := K.ok.exf b hb
  have p : ∀ q ∈ pn ++ [], q.1 ≠ b := fun q hq => (f b hb).2.2.2.2.2 q (List.mem_append_left _ (hpn q (by simpa using hq)))
  ⟨z b hb, l.1, K.ok.exfs b hb, .inl hb, l.2, p⟩
def Come (X : Cx) (pins : List (Addr × Obj)) (σ : L2.St) (tg : Expr) (scope : Scope) (vs : List Nat) (pn : List (Addr × Obj)) (xe : Env → Value → Shared → Prop) (g : TG) (tt : TT) (te : TE) (Q : VK) (v : Value) (s : Shared) : Prop :=
  ∃ it fp tn J H, v = .ref it ∧ Inv X pins σ H s ∧ tn 0 s.heap ∧ Recs X pins H fp ∧ (∀ s H ce, Feeds (blkY X s H scope fp pn xe ce) tg J fp it tn) ∧
    (∀ (Q : Value → Shared → Prop) (E : Value → Shared → Prop) (s : Shared), tn 0 s.heap → Q (.ref it) s → wpAny (model X.prog X.w) X.A (pyIter (.ref it)) Q E s) ∧
    ∀ D, H D = none → ∃ W, (∃ m, W 0 m (upd H D (.lst []))) ∧ Plan J g tt te σ vs D (Q (.ref D)) W
theorem comp_core {Q : VK} {elt tg iter : Expr} {ifs : List Expr} {scope : Scope} {own : List (Str × Nat)} {pos pos' : Pos} {g : TG} {tt : TT} {te : TE} {use : Option (Value → Sem Unit)} {Qf : Value → Shared → Prop} {pn : List (Addr × Obj)} {xe : Env → Value → Shared → Prop}
    (hN : X.N.Nodup) (I : Inv X pins σ H s) (ok : BlkOk X.N X.env.scope scope own) (hs : ∀ x, foldedSetIterable iter X.env x = pure x) (hpn : ∀ q ∈ pn, q ∈ X.pn)
    (hxe : ∀ ce D e s', xe ce e s' → notedBy (model X.prog X.w) X.A ce (fun e s => compEnds (model X.prog X.w) X.A X.xe use Qf (.ref D) ce (.error e) s) e s')
    (hi : wpAny (model X.prog X.w) X.A (eval iter X.env) (fun v s1 => wpAny (model X.prog X.w) X.A (pyIter v) (Come X pins σ tg scope (own.map (·.2)) pn xe g tt te Q) X.xe s1) X.xe s)
    (parts : ∀ (s : Shared) (H : Hp) (cl : List (Str × Addr)) (fp : List Addr), Inv X pins σ H s → Recs X pins H fp → (∀ b ∈ fp, b < s.heap.objs.size) →
      PG (blkY X s H scope fp pn xe (compEnvC scope cl s.heap.objs.size X.env)) tg g ∧ PTs (blkY X s H scope fp pn xe (compEnvC scope cl s.heap.objs.size X.env)) ifs tt ∧ PE (blkY X s H scope fp pn xe (compEnvC scope cl s.heap.objs.size X.env)) elt te)
    (hR : ∀ D ce s' m H', Inv X pins σ H' s' → Q (.ref D) H' → s'.heap.Ns ce.locals m → FpOk X pins H' ce.locals → compEnds (model X.prog X.w) X.A X.xe use Qf (.ref D) ce (.ok .next) s') :
    wpAny (model X.prog X.w) X.A (comprehension (.ListComp elt [⟨tg, iter, ifs, 0⟩] scope pos) scope X.env pos' (newList []) false (eval iter X.env) use) Qf X.xe s := by
  have caught : ∀ y ∈ scope.names, y.2 = .free → ∃ c, X.env.cells.lookup y.1 = some c := fun y hy e => I.ok.has _ (ok.free y hy e)
  refine comprehension_at rfl hs (closure_ok caught) ok.kind (fun y hy e => e ▸ ok.uniq y hy) (thn hi fun _ s1 h => thn h ?_)
  rintro _ s2 ⟨it, fp, tn, J, H2, rfl, I2, t0, f2, feeds, self, plan⟩
  have old : ∀ b ∈ fp, b < s2.heap.objs.size := fun b hb => let ⟨_, q, _⟩ := (feeds s H X.env).obj 0 _ t0 b hb; Heap.lt_size q
  obtain ⟨W, ⟨m, w⟩, plan⟩ := plan _ (I2.hok.fresh (Nat.le_refl _))
  obtain ⟨I3, f3⟩ := lay_list I2 f2 old
  refine wpAny_newObj_type (newEnv_comp ?_) (show 0 ≤ sizeLine by decide)
  have up : ∀ b o, s2.heap.get? b = some o → (s2.heap.push empties).get? b = some o := fun _ _ => Heap.get?_push_of_some _
  have t3 : tn 0 (s2.heap.push empties) := (feeds s H X.env).keep 0 _ _ t0 fun b _ o => up b o
  have old3 : ∀ b ∈ fp, b < (s2.heap.push empties).objs.size := fun b hb => Heap.size_push s2.heap empties ▸ Nat.lt_succ_of_lt (old b hb)
  have go : ∀ {s3 : Shared} {H3 : Hp}, Inv X pins σ H3 s3 → Recs X pins H3 fp → tn 0 s3.heap → (∀ b ∈ fp, b < s3.heap.objs.size) → W 0 m H3 → ∀ {ce : Env}, ce = compEnvC scope (cellsFrom (s3.heap.objs.size + 1) scope.names (cloFrom X.env.cells scope.names [])) s3.heap.objs.size X.env →
      codeAny (model X.prog X.w) X.A (.compStart (.ListComp elt [⟨tg, iter, ifs, 0⟩] scope pos) 0 (.ref it) (.ref s2.heap.objs.size) ce) (compEnds (model X.prog X.w) X.A X.xe use Qf (.ref s2.heap.objs.size) ce)
        { s3 with heap := pushCells (s3.heap.push { cls := .type "dict", data := .dict #[] }) scope.names } := fun {s3 H3} I3 f3 t3 old3 w {ce} hce => by
    obtain ⟨pg, pt, pe⟩ := parts s3 H3 _ fp I3 f3 old3
    have I4 := enter (xe := xe) I3 ok hN f3 old3 hpn
    rw [← hce] at pg pt pe I4
    have cl : ce.locals = s3.heap.objs.size := hce ▸ rfl
    have t4 : tn 0 (pushCells (s3.heap.push { cls := .type "dict", data := .dict #[] }) scope.names) := (feeds s H X.env).keep 0 _ _ t3 fun b _ o q => pushCells_keeps _ _ _ _ (Heap.get?_push_of_some _ q)
    have run := rounds (R := compEnds (model X.prog X.w) X.A X.xe use Qf (.ref s2.heap.objs.size) ce) (iter := iter) (scope := scope) (pos := pos) (feeds s3 H3 ce) (own_recs f3 hpn) pg pt pe plan
      (fun H' s' K q => let ⟨J', ⟨m', ns⟩, fc⟩ := leave I3 f3 K cl; hR _ ce s' m' H' J' q ns fc) (fun e s' z => hxe ce _ e s' z) ⟨0, H3, I4, t4, fun b hb => (f3 b hb).1, w⟩
    exact codeAny_compStart_list run (self _ _ _ t4 run)
  exact go I3 f3 t3 old3 w rfl
end
end PKS
namespace PKS
open PySem PySem.Spec PyProof.Rows L2
def OwnX (X : Cx) : Prop := X.stack = X.env :: X.outer ∧ X.env.frame = some X.env.locals

section
variable {M : Model} {A : Around} {E : Value → Shared → Prop} {s : Shared} {Z : Obj → Prop} {base : Heap} {env : Env} {outer : List Env} {L C e : Addr}
theorem off_z {Q : Unit → Shared → Prop} (hZ : HandSPX.Steady Z) (hne : C ≠ L) (hfr : A.frames = some (env :: outer)) (hf : env.frame = some L) (hh : HandSPX.HeldZ base (env :: outer) e Z C s.heap)
    (hQ : ∀ h', HandSPX.HeldZ base (env :: outer) e Z L h' → s.heap.UpToSlots h' → Q () { s with heap := h' }) : wpAny M A (noteFrame (.ref e) env) Q E s := by
  obtain ⟨kb, en, fl, oe, vs, T, oT, ts, ge, ze, de, v1, nT, Te, gT, dT, t3⟩ := hh
  unfold noteFrame
  simp only [hf]
  refine wpAny_bind (wpAny_field ge de v1 ?_)
  have ne1 : (Value.ref T != Value.none) = true := by simp
  have ne2 : ¬ ((rawInt C == rawInt L) = true) := fun z => hne (Int.ofNat.inj (by simpa [rawInt] using z))
  rw [if_pos ne1]
  refine wpAny_bind (wpAny_field gT dT t3 ?_)
  rw [if_neg ne2]
  refine wpAny_bind (wpAny_setField gT dT (Array.getElem?_eq_some_iff.mp t3).1 ?_)
  have oth : ∀ b, b ≠ T → (s.heap.update T (Obj.mapFields (·.setIfInBounds 3 Value.none))).get? b = s.heap.get? b := fun b q => Heap.get?_update_other _ _ q.symm
  have noR : ∀ b o, s.heap.get? b = some o → (∀ vs, o.data ≠ .fields vs) → b ≠ T := fun b o g nf q => by
    rw [q, gT] at g; cases g; exact nf ts dT
  refine HandSPX.wpAny_entryZ hZ hfr (fl.of_keeps fun b o g nf => ⟨o, (oth b (noR b o g nf)).trans g, rfl⟩) hf ((oth e Te.symm).trans ge)
    (fun b o g => (oth b fun q => by rw [q, nT] at g; cases g).trans (kb b o g)) en de (Array.getElem?_eq_some_iff.mp v1).1 ze fun h' N => ?_
  exact hQ h' ⟨N.1, en, N.2.1, N.2.2.1⟩ fun b o g nf => N.2.2.2 b o ((oth b (noR b o g nf)).trans g) nf
theorem off_n {Q : Unit → Shared → Prop} (hZ : PXN.Steady1 Z) (hne : C ≠ L) (hfr : A.frames = some (env :: outer)) (hf : env.frame = some L) (hh : HandSPX.HeldZ base (env :: outer) e Z C s.heap)
    (hQ : ∀ h', HandSPX.HeldZ base (env :: outer) e Z L h' → s.heap.UpToSlots h' → Q () { s with heap := h' }) : wpAny M A (noteFrame (.ref e) env) Q E s := by
  obtain ⟨kb, en, fl, oe, vs, T, oT, ts, ge, ze, de, v1, nT, Te, gT, dT, t3⟩ := hh
  unfold noteFrame
  simp only [hf]
  refine wpAny_bind (wpAny_field ge de v1 ?_)
  have ne1 : (Value.ref T != Value.none) = true := by simp
  have ne2 : ¬ ((rawInt C == rawInt L) = true) := fun z => hne (Int.ofNat.inj (by simpa [rawInt] using z))
  rw [if_pos ne1]
  refine wpAny_bind (wpAny_field gT dT t3 ?_)
  rw [if_neg ne2]
  refine wpAny_bind (wpAny_setField gT dT (Array.getElem?_eq_some_iff.mp t3).1 ?_)
  have oth : ∀ b, b ≠ T → (s.heap.update T (Obj.mapFields (·.setIfInBounds 3 Value.none))).get? b = s.heap.get? b := fun b q => Heap.get?_update_other _ _ q.symm
  have noR : ∀ b o, s.heap.get? b = some o → (∀ vs, o.data ≠ .fields vs) → b ≠ T := fun b o g nf q => by
    rw [q, gT] at g; cases g; exact nf ts dT
  refine PXN.wpAny_entryZ hZ hfr (fl.of_keeps fun b o g nf => ⟨o, (oth b (noR b o g nf)).trans g, rfl⟩) hf ((oth e Te.symm).trans ge)
    (fun b o g => (oth b fun q => by rw [q, nT] at g; cases g).trans (kb b o g)) en de (Array.getElem?_eq_some_iff.mp v1).1 ze fun h' N => ?_
  exact hQ h' ⟨N.1, en, N.2.1, N.2.2.1⟩ fun b o g nf => N.2.2.2 b o ((oth b (noR b o g nf)).trans g) nf
end

def xeC (X : Cx) (ce : Env) : Value → Shared → Prop := notedBy (model X.prog X.w) X.A ce (CompFails (model X.prog X.w) X.A X.xe ce)
abbrev blkX (X : Cx) (s : Shared) (H : Hp) (scope : Scope) (ce : Env) (fp : List Addr) : Cx := (X.blk s H scope ce fp).tr [] (xeC X ce)
section
variable {X : Cx} {pins pb : List (Addr × Obj)} {σ σ2 : L2.St} {H H' : Hp} {s sI s' : Shared} {scope : Scope} {fp : List Addr} {C a : Addr} {cl : List (Str × Addr)} {B : Heap} {Z : Obj → Prop}
theorem key_c (O : OwnX X) (I : Inv X pins σ H s) (hfp : ∀ b ∈ fp, FpOk X pins H b ∧ b < s.heap.objs.size) (hC : C = s.heap.objs.size)
    (Ib : Inv (blkX X s H scope (compEnvC scope cl C X.env) fp) pb σ2 H' sI) (nb : ∀ b o, sI.heap.get? b = some o → b ∉ frs X.stack → B.get? b = some o) (up : sI.heap.UpToSlots s'.heap) (os : s'.os = sI.os) (ag : AllBare s'.gens)
    (hx : ∀ B' sJ h3, Inv X pins σ H' sJ → (∀ b o, sJ.heap.get? b = some o → b ∉ frs X.stack → B'.get? b = some o) → sJ.heap.UpToSlots h3 → HandSPX.HeldZ B' X.stack a Z X.env.locals h3 → s'.os = sJ.os → X.xe (.ref a) { s' with heap := h3 }) :
    ∀ h1, HandSPX.HeldZ B X.stack a Z X.env.locals h1 → s'.heap.UpToSlots h1 → CompFails (model X.prog X.w) X.A X.xe (compEnvC scope cl C X.env) (.ref a) { s' with heap := h1 } := by
  intro h1 hh up1
  obtain ⟨m, hn, _⟩ := Ib.loc
  have hn : sI.heap.Ns C m := hn
  have hn1 : h1.Ns C m := (hn.upToSlots fun b o g nf => (up.trans up1) b o g nf)
  refine ⟨m, hn1, fun h2 m2 hn2 sb => ?_⟩
  have hn2 : h2.Ns C m2 := hn2
  have sb : Heap.SameBut C h1 h2 := sb
  obtain ⟨kb, en, fl, oe, vs, T, oT, ts, ge, ze, de, v1, nT, Te, gT, dT, t3⟩ := hh
  have neC : ∀ b o vs, h1.get? b = some o → o.data = .fields vs → b ≠ C := fun b o vs g d q => by
    obtain ⟨oC, es, ep, gC, dC, _⟩ := hn1
    rw [q, gC] at g; cases g; rw [dC] at d; cases d
  have aC := neC a oe vs ge de
  have TC := neC T oT ts gT dT
  obtain ⟨B', b1, b2⟩ := restrict B fun b => decide (b ≠ C)
  have bB : ∀ b o, B'.get? b = some o → b ≠ C ∧ B.get? b = some o := fun b o g => by
    by_cases q : b = C
    · rw [b2 b (by simp [q])] at g; cases g
    · exact ⟨q, by rw [← b1 b (by simp [q])]; exact g⟩
  have bN : ∀ b, B.get? b = none → B'.get? b = none := fun b g => by
    cases q : B'.get? b with
    | none => rfl
    | some o => rw [(bB b o q).2] at g; cases g
  have LC : ∀ L ∈ frs X.stack, L ≠ C := fun L hL q => by
    obtain ⟨_, o, g, nf⟩ := I.stack.mem hL
    have := Heap.lt_size g
    rw [q, hC] at this
    exact Nat.lt_irrefl _ this
  have ff : ∀ l : List Env, (∀ L ∈ frs l, L ≠ C) → Heap.FunFrames h1 B l → Heap.FunFrames h2 B' l := fun l => by
    induction l with
    | nil => intro _ _; trivial
    | cons e0 r ih =>
      rintro hl ⟨f1, ⟨L, o, f2, f3, f4, f5⟩, f6⟩
      have hL : L ∈ frs (e0 :: r) := by
        unfold frs
        rw [List.filterMap_cons, f2]
        exact List.mem_cons_self
      exact ⟨f1, ⟨L, o, f2, bN L f3, (sb.2 L (hl L hL)).trans f4, f5⟩, ih (fun L' h' => hl L' (by
        unfold frs
        rw [List.filterMap_cons, f2]
        exact List.mem_cons_of_mem _ h')) f6⟩
  have held : HandSPX.HeldZ B' X.stack a Z X.env.locals h2 :=
    ⟨fun b o g => (sb.2 b (bB b o g).1).trans (kb b o (bB b o g).2), bN a en, ff X.stack LC fl, oe, vs, T, oT, ts, (sb.2 a aC).trans ge, ze, de, v1, bN T nT, Te, (sb.2 T TC).trans gT, dT, t3⟩
  show wpAny _ _ (PySem.passOn _ (.ref a) (compEnvC scope cl C X.env)) _ _ _
  unfold PySem.passOn
  refine wpAny_bind (wpAny_field ((sb.2 a aC).trans ge) de v1 ?_)
  have nn : ¬ ((Value.ref T == Value.none) = true) := by simp
  rw [if_neg nn]
  have hfe : (compEnvC scope cl C X.env).frame = some X.env.locals := O.2
  rw [hfe]
  refine wpAny_bind ?_
  refine HandSPX.setFlight_onZ (s := { s' with heap := h2 }) held fun h3 held3 up3 => ?_
  refine wpAny_throw ?_
  obtain ⟨G, g1, g2⟩ := restrict sI.heap fun b => decide (b ≠ C)
  have gB : ∀ b o, G.get? b = some o → b ≠ C ∧ sI.heap.get? b = some o := fun b o g => by
    by_cases q : b = C
    · rw [g2 b (by simp [q])] at g; cases g
    · exact ⟨q, by rw [← g1 b (by simp [q])]; exact g⟩
  have gS : ∀ b, b ≠ C → G.get? b = sI.heap.get? b := fun b q => g1 b (by simp [q])
  have ltC : ∀ b o, s.heap.get? b = some o → b ≠ C := fun b o g q => by
    have := Heap.lt_size g
    rw [q, hC] at this
    exact Nat.lt_irrefl _ this
  have hC0 : H' C = none := Ib.free
  have bs : Un (frs X.stack) fp H H' s.heap sI.heap := Ib.base
  have J : Inv X pins σ H' { sI with heap := G } := by
    refine I.call' (s' := { sI with heap := G }) (ch := fp) Ib.os ⟨fun b o g n hb hx => (gS b (ltC b o g)).trans (bs.keep b o g n hb hx), fun b o g n hb hx => ?_, bs.free, fun b o g hx => ?_, bs.tups, bs.frzs, bs.tbls⟩ ?_ Ib.bare
      fun b hb => ⟨(hfp b hb).1.2.2.2.1, (hfp b hb).1.2.1, (hfp b hb).1.2.2.2.2.1, (hfp b hb).1.2.2.2.2.2⟩
    · obtain ⟨sl, q⟩ := bs.slot b o g n hb hx
      exact ⟨sl, (gS b (ltC b o g)).trans q⟩
    · obtain ⟨o', q⟩ := bs.there b o g hx
      exact ⟨o', (gS b (ltC b o g)).trans q⟩
    · intro b o q
      refine (Ib.hok b o q).stay (fun c u hc r => (gS c fun z => ?_).trans r) (fun _ r => r) fun _ _ r => r
      rcases hc with hc | hc
      · rw [← hc, z, hC0] at q; cases q
      · rw [z, hC0] at hc; cases hc
  refine hx B' { sI with heap := G } h3 J (fun b o g hb => ?_) (fun b o g nf => ?_) held3 os
  · obtain ⟨q, g'⟩ := gB b o g
    rw [b1 b (by simp [q])]
    exact nb b o g' hb
  · obtain ⟨q, g'⟩ := gB b o g
    obtain ⟨sl, e1⟩ := (up.trans up1) b o g' nf
    exact up3 b { o with slots := sl } ((sb.2 b q).trans e1) nf
theorem wx_blk (O : OwnX X) (I : Inv X pins σ H s) (hfp : ∀ b ∈ fp, FpOk X pins H b ∧ b < s.heap.objs.size) (hC : C = s.heap.objs.size) {cls : Value} {d : Option Addr} (h : WXo X cls d σ H') :
    WXo (blkX X s H scope (compEnvC scope cl C X.env) fp) cls d σ2 H' := by
  have hfr : X.A.frames = some (X.env :: X.outer) := by rw [I.ok.frames, O.1]
  have CL : C ≠ X.env.locals := fun q => by
    have := I.lt
    rw [← q, hC] at this
    exact Nat.lt_irrefl _ this
  cases d with
  | none =>
    rintro u s' ⟨a, B, sI, pb, σ', H2, cls', d', rfl, Ib, nb, up, sky, na, os, ag, rfl, rfl, rfl, rfl⟩
    have key := key_c (Z := L2N.Zn cls' none) (a := a) (B := B) (s' := s') O I hfp hC Ib nb up os ag fun B' sJ h3 J nb' up' hd os' => h (.ref a) { s' with heap := h3 } ⟨a, B', sJ, pins, σ, H2, cls', none, rfl, J, nb', up', .inr (.inr hd), na, os', ag, rfl, rfl, rfl, rfl⟩
    show wpAny _ _ (noteFrame (.ref a) (compEnvC scope cl C X.env)) _ _ _
    rw [noteFrame_env (.ref a) (show (compEnvC scope cl C X.env).frame = X.env.frame from rfl)]
    have sky : Sky B X.stack a (L2N.Zn cls' none) C s'.heap := sky
    rw [O.1] at key sky
    rcases sky with ⟨kb, en, fl, oe, vs, ge, ze, de, v1⟩ | fl | hd
    · exact PXN.look_newZ L2N.Zn.steady hfr fl O.2 ge kb en de v1 ze key
    · exact PXN.looks_onZ L2N.Zn.steady hfr O.2 fl key
    · exact off_n L2N.Zn.steady CL hfr O.2 hd key
  | some d0 =>
    rintro u s' ⟨a, B, sI, pb, σ', H2, cls', d', rfl, Ib, nb, up, sky, na, os, ag, rfl, rfl, rfl, rfl⟩
    have key := key_c (Z := Zc cls' none) (a := a) (B := B) (s' := s') O I hfp hC Ib nb up os ag fun B' sJ h3 J nb' up' hd os' => h (.ref a) { s' with heap := h3 } ⟨a, B', sJ, pins, σ, H2, cls', none, rfl, J, nb', up', .inr (.inr hd), na, os', ag, rfl, rfl, rfl, rfl⟩
    show wpAny _ _ (noteFrame (.ref a) (compEnvC scope cl C X.env)) _ _ _
    rw [noteFrame_env (.ref a) (show (compEnvC scope cl C X.env).frame = X.env.frame from rfl)]
    have sky : Sky B X.stack a (Zc cls' none) C s'.heap := sky
    rw [O.1] at key sky
    rcases sky with ⟨kb, en, fl, oe, vs, ge, ze, de, v1⟩ | fl | hd
    · exact HandSPX.look_newZ Zc.steady hfr fl O.2 ge kb en de v1 ze key
    · exact HandSPX.looks_onZ Zc.steady hfr O.2 fl key
    · exact off_z Zc.steady CL hfr O.2 hd key
end
section
variable {X : Cx}
structure Parts (X : Cx) (scope : Scope) (tg elt : Expr) (ifs : List Expr) (g : TG) (tt : TT) (te : TE) (σ : L2.St) : Prop where
  tg : ∀ (s : Shared) (H : Hp) (C : Addr) (cl : List (Str × Addr)) (fp : List Addr), PG (blkX X s H scope (compEnvC scope cl C X.env) fp) tg g
  tt : ∀ {pins : List (Addr × Obj)} {s : Shared} {H : Hp} (cl : List (Str × Addr)) {fp : List Addr}, Inv X pins σ H s → (∀ b ∈ fp, FpOk X pins H b ∧ b < s.heap.objs.size) → PTs (blkX X s H scope (compEnvC scope cl s.heap.objs.size X.env) fp) ifs tt
  te : ∀ {pins : List (Addr × Obj)} {s : Shared} {H : Hp} (cl : List (Str × Addr)) {fp : List Addr}, Inv X pins σ H s → (∀ b ∈ fp, FpOk X pins H b ∧ b < s.heap.objs.size) → PE (blkX X s H scope (compEnvC scope cl s.heap.objs.size X.env) fp) elt te
variable {pins : List (Addr × Obj)} {s : Shared} {σ : L2.St} {H : Hp} {Q : VK} {elt tg iter : Expr} {ifs : List Expr} {scope : Scope} {own : List (Str × Nat)} {pos pos' : Pos} {wi : TI} {g : TG}
theorem lcx_core {tt : TT} {te : TE} {use : Option (Value → Sem Unit)} {Qf : Value → Shared → Prop} (hc : X.calm = true) (hN : X.N.Nodup) (I : Inv X pins σ H s) (hi : PI X tg iter wi) (ok : BlkOk X.N X.env.scope scope own) (p : Parts X scope tg elt ifs g tt te σ)
    (hs : ∀ x, foldedSetIterable iter X.env x = pure x) (h : tLc wi g tt te (own.map (·.2)) σ H Q)
    (hR : ∀ D ce s' m H', Inv X pins σ H' s' → Q (.ref D) H' → s'.heap.Ns ce.locals m → FpOk X pins H' ce.locals → compEnds (model X.prog X.w) X.A X.xe use Qf (.ref D) ce (.ok .next) s') :
    wpAny (model X.prog X.w) X.A (comprehension (.ListComp elt [⟨tg, iter, ifs, 0⟩] scope pos) scope X.env pos' (newList []) false (eval iter X.env) use) Qf X.xe s :=
  comp_core (pn := []) (xe := xeC X) (Q := Q) hN I ok hs (fun _ h => nomatch h) (fun ce D e s' z => by cases use <;> exact z)
    (thn (hi.run pins s σ H _ I h) fun _ _ h => thn h fun _ _ ⟨it, fp, tn, J, H2, e, I2, T, t0, f, q⟩ => ⟨it, fp, tn, J, H2, e, I2, t0, f, fun _ _ _ => Feeds.of T rfl rfl rfl hc, fun _ _ _ => T.self X.A 0 _ _ _, q⟩)
    (fun s1 H1 cl fp I1 f old => have both := fun b hb => ⟨f b hb, old b hb⟩; ⟨p.tg s1 H1 _ cl fp, p.tt cl I1 both, p.te cl I1 both⟩) hR
theorem Inv.turned1 {a : Addr} {h' : Heap} (I : Inv X pins σ H s) (f : FpOk X pins H a) (sb : Heap.SameBut a s.heap h') : Inv X pins σ H { s with heap := h' } :=
  I.turnedL (t' := s.toks) (fun b o hb q => (sb.2 b fun e => hb (e ▸ List.mem_cons_self)).trans q) (Recs.one f)
variable {tt : L2.St → TT} {te : L2.St → TE}
theorem pe_lcx (hc : X.calm = true) (hN : X.N.Nodup) (hi : PI X tg iter wi) (ok : BlkOk X.N X.env.scope scope own) (p : ∀ σ, Parts X scope tg elt ifs g (tt σ) (te σ) σ) (hs : ∀ x, foldedSetIterable iter X.env x = pure x) :
    PE X (.ListComp elt [⟨tg, iter, ifs, 0⟩] scope pos) (fun σ H Q => tLc wi g (tt σ) (te σ) (own.map (·.2)) σ H Q) where
  run := fun pins s σ H Q I h => eval_ListComp .. ▸ lcx_core hc hN I hi ok (p σ) hs h fun D ce s' m H' J q hn f => ⟨m, hn, fun h2 sb => ⟨.ref D, H', Inv.turned1 J f sb, rfl, q⟩⟩
theorem ps_setLcx {i : Nat} {y : Str} {py spos : Pos} (hc : X.calm = true) (hN : X.N.Nodup) (hy : X.N[i]? = some y) (hyl : X.env.scope.names.lookup y = some .local) (hsw : swapsWith (.ListComp elt [⟨tg, iter, ifs, 0⟩] scope pos) (some (.Name y py)) spos.line X.env = pure true)
    (hi : PI X tg iter wi) (ok : BlkOk X.N X.env.scope scope own) (p : ∀ σ, Parts X scope tg elt ifs g (tt σ) (te σ) σ) (hs : ∀ x, foldedSetIterable iter X.env x = pure x) :
    PS X (.Assign [.Name y py] (.ListComp elt [⟨tg, iter, ifs, 0⟩] scope pos) spos) (tAsg (fun σ H Q => tLc wi g (tt σ) (te σ) (own.map (·.2)) σ H Q) (gName i)) where
  run := fun pins s σ H D I h => by
    have lay := lcx_core (Q := fun x H1 => gName i x σ H1 D.nx) (use := some (assign (.Name y py) X.env)) (Qf := fun _ s' => SP X pins D .next s') (pos := pos) (pos' := firstIterPos [⟨tg, iter, ifs, 0⟩] pos) hc hN I hi ok (p σ) hs h fun L ce s' m H' J q hn f =>
      wpAny_assign_Name (store_ok2 (v := V.ref L) J hN hy (.inl hyl) rfl (fun s2 J2 ⟨a, sb, ha⟩ =>
        have apart : ce.locals ≠ a := fun e => ha.elim (fun z => f.2.1 (e.trans z)) fun z => f.2.2.2.2.1 y a z e.symm
        ⟨m, hn.sameBut sb apart, fun h3 sb3 => ⟨_, H', Inv.turned1 J2 f sb3, q⟩⟩) (.inr hyl))
    exact exec_Assign_Name_used _ _ _ _ hsw ▸ wpAny_bind (wpAny_standAt (wpAny_bind (wpAny_bind (thn lay fun _ _ z => wpAny_pure (wpAny_pure z)))))
end
end PKS
namespace PKS
open PySem PySem.Spec PyProof.Rows L2
section
variable {K : PySem.W.Frag} {lk : Lk} {W : WX} {ρ : Nm} {G : Cells} {H : Hp} {D : Ends} {N : L2.St → Hp → Prop}
theorem OutS.turn {r : PK.O} {f : PK.Env → Cells → PK.O} (h : OutS K lk W ρ G H D (r.turn f)) (k : ∀ s G' ρ' H' σ', Ext ρ G.length H ρ' G'.length H' → Rel K lk ρ' G' H' → REnv K lk ρ' G'.length H' s σ' → OutS K lk W ρ' G' H' D (f s G') → N σ' H') :
    OutS K lk W ρ G H { D with nx := N, ct := N, bk := D.nx } r := by
  cases r with
  | nx s G' => exact fun ρ' H' σ' e' r' p' => k s G' ρ' H' σ' e' r' p' (OutS.ext e' h)
  | cnt s G' => exact fun ρ' H' σ' e' r' p' => k s G' ρ' H' σ' e' r' p' (OutS.ext e' h)
  | brk s G' => exact h
  | ret v G' => exact h
  | exc c s G' => exact h
  | bad => exact h
end
section
variable {X : Cx} {lk : Lk} {c tg iter elt : Expr} {body : List Stmt} {ec er eb : Ev} {exb : Ex} {pos : Pos} {k : PK.Ik} {pt : List Nat} {one : Bool}
theorem drop_get {α : Type} {l l' : List α} {x : α} {i : Nat} (h : l.drop i = x :: l') : l[i]? = some x ∧ l.drop (i + 1) = l' ∧ i < l.length := by
  have hi : i < l.length := by
    rcases Nat.lt_or_ge i l.length with c | c
    · exact c
    · rw [List.drop_of_length_le c] at h; cases h
  rw [List.drop_eq_getElem_cons hi] at h
  cases h
  exact ⟨by simp [hi], rfl, hi⟩
theorem ls_for (hp : PassesOwn (model X.prog X.w) X.A X.env X.xe) (hc : X.calm = true) (hF : lk.Free) (hN : X.N.Nodup) (hi : LI X lk tg iter k er) (hg : Pat X tg pt one) (hb : LSs X lk body exb) (hs : ∀ x, foldedSetIterable iter X.env x = pure x) :
    LS X lk (.For tg iter body [] pos) (fun s G => PK.R.st s (er s G) fun x G1 => PK.tupK x (fun ds => PK.optK (PK.itD k ds G1) (fun xg => PK.forF pt one exb xg.2 xg.1 s G1) .bad) .bad) :=
  ps_imp (ps_for hp hc hi (pg_pat hc hN hg) hb hs) fun D σ H ⟨ρ, G, s, r, en, h⟩ => ⟨ρ, G, s, r, en, by
    dsimp only at h
    cases q : er s G with
    | bad => rw [q] at h; exact False.elim h
    | exc c G1 => rw [q] at h; exact fun ρ1 H1 e1 r1 => h ρ1 H1 σ e1 r1 (en.ext e1)
    | ok v G1 =>
      rw [q] at h
      cases v with
      | tup ds =>
        have h : OutS X.K lk (WXo X) ρ G H D (PK.optK (PK.itD k ds G1) (fun xg => PK.forF pt one exb xg.2 xg.1 s G1) .bad) := h
        cases e1 : PK.itD k ds G1 with
        | none => rw [e1] at h; exact False.elim h
        | some xg =>
          rw [e1] at h
          have h : OutS X.K lk (WXo X) ρ G H D (PK.forF pt one exb xg.2 xg.1 s G1) := h
          refine ⟨xg, e1, fun J ρ1 H1 ex1 r1 _ src => ⟨fun i m σ' H' => m = xg.1.length - i ∧ ∃ ρ' G' s', Ext ρ1 G1.length H1 ρ' G'.length H' ∧ Rel X.K lk ρ' G' H' ∧ REnv X.K lk ρ' G'.length H' s' σ' ∧ OutS X.K lk (WXo X) ρ' G' H' D (PK.forF pt one exb xg.2 (xg.1.drop i) s' G'),
            ⟨_, rfl, ρ1, G1, s, Ext.refl, r1, en.ext ex1, OutS.ext ex1 h⟩, fun i m σ' H' ⟨hm, ρ', G', s', e', r', en', h'⟩ => ?_⟩⟩
          cases hd : xg.1.drop i with
          | nil =>
            rw [hd] at h'
            have h' : OutS X.K lk (WXo X) ρ' G' H' D (PK.iteK (PK.still G' xg.2) (fun _ => .nx s' G') fun _ => .bad) := h'
            cases st : PK.still G' xg.2 with
            | false => rw [st] at h'; exact False.elim h'
            | true =>
              rw [st] at h'
              have hl : xg.1.length ≤ i := List.drop_eq_nil_iff.mp hd
              exact .inl ⟨(src ρ' G' H' e' r' st i).2 hl, OutS.here h' r' en'⟩
          | cons x xs =>
            rw [hd] at h'
            obtain ⟨g1, g2, g3⟩ := drop_get hd
            have h' : OutS X.K lk (WXo X) ρ' G' H' D (PK.iteK (PK.still G' xg.2) (fun _ => PK.optK (PK.bindT pt one s' x) (fun s'' => (exb s'' G').turn fun s1 G1 => PK.forF pt one exb xg.2 xs s1 G1) .bad) fun _ => .bad) := h'
            cases st : PK.still G' xg.2 with
            | false => rw [st] at h'; exact False.elim h'
            | true =>
              rw [st] at h'
              have h' : OutS X.K lk (WXo X) ρ' G' H' D (PK.optK (PK.bindT pt one s' x) (fun s'' => (exb s'' G').turn fun s1 G1 => PK.forF pt one exb xg.2 xs s1 G1) .bad) := h'
              cases eb : PK.bindT pt one s' x with
              | none => rw [eb] at h'; exact False.elim h'
              | some s'' =>
                rw [eb] at h'
                obtain ⟨j1, j2⟩ := (src ρ' G' H' e' r' st i).1 x g1
                refine .inr ⟨j1, fun σ2 H2 => ∃ ρ2 G2 s2, Ext ρ1 G1.length H1 ρ2 G2.length H2 ∧ Rel X.K lk ρ2 G2 H2 ∧ REnv X.K lk ρ2 G2.length H2 s2 σ2 ∧ OutS X.K lk (WXo X) ρ2 G2 H2 D (PK.forF pt one exb xg.2 xs s2 G2),
                  fun σ2 H2 ⟨ρ2, G2, s2, a1, a2, a3, a4⟩ => ⟨m - 1, by omega, by omega, ρ2, G2, s2, a1, a2, a3, by rw [g2]; exact a4⟩, fun xv H'' y => ?_⟩
                obtain ⟨y1, y2, y3⟩ := j2 xv H'' y
                refine pat_of hF eb y3 (en'.ext y1) fun σ2 en2 _ => ⟨ρ', G', s'', y2, en2, OutS.turn (OutS.ext y1 h') fun s2 G2 ρ2 H2 σ3 b1 b2 b3 b4 => ⟨ρ2, G2, s2, (e'.trans y1).trans b1, b2, b3, b4⟩⟩
      | _ => exact False.elim h⟩
theorem ls_while (n : Nat) (hp : PassesOwn (model X.prog X.w) X.A X.env X.xe) (hc : LT X lk c ec) (hb : LSs X lk body exb) : LS X lk (.While c body [] pos) (fun s G => PK.whlF ec exb n s G) :=
  ps_imp (ps_while hp hc hb) fun D σ H ⟨ρ, G, s, r, en, h⟩ => ⟨fun m σ' H' => ∃ ρ' G' s', Rel X.K lk ρ' G' H' ∧ REnv X.K lk ρ' G'.length H' s' σ' ∧ OutS X.K lk (WXo X) ρ' G' H' D (PK.whlF ec exb m s' G'), ⟨n, ρ, G, s, r, en, h⟩, fun m σ' H' ⟨ρ', G', s', r', en', h'⟩ => by
    cases m with
    | zero => exact False.elim h'
    | succ m =>
      refine ⟨ρ', G', s', r', en', OutS.bindT (f := fun t G1 => PK.iteK t (fun _ => (exb s' G1).turn fun s1 G2 => PK.whlF ec exb m s1 G2) fun _ => .nx s' G1) en' h' fun b G1 ρ1 H1 e1 r1 h1 => ?_⟩
      cases b with
      | true =>
        rw [if_pos rfl]
        exact ⟨fun σ2 H2 => ∃ ρ2 G2 s2, Rel X.K lk ρ2 G2 H2 ∧ REnv X.K lk ρ2 G2.length H2 s2 σ2 ∧ OutS X.K lk (WXo X) ρ2 G2 H2 D (PK.whlF ec exb m s2 G2), fun σ2 H2 x => ⟨m, Nat.lt_succ_self _, x⟩,
          ρ1, G1, s', r1, en'.ext e1, OutS.turn h1 fun s2 G2 ρ2 H2 σ3 b1 b2 b3 b4 => ⟨ρ2, G2, s2, b2, b3, b4⟩⟩
      | false => rw [if_neg Bool.false_ne_true]; exact OutS.here h1 r1 (en'.ext e1)⟩

theorem wipe_twice (σ : L2.St) (vs : List Nat) : L2.wipe (L2.wipe σ vs) vs = L2.wipe σ vs := by
  refine List.ext_getElem? fun i => ?_
  have hv : ∀ (vs : List Nat) (σ : L2.St), (L2.wipe σ vs)[i]? = if i ∈ vs ∧ i < σ.length then some none else σ[i]? := fun vs => by
    induction vs with
    | nil => intro σ; rw [if_neg (by simp)]; rfl
    | cons u us ih =>
      intro σ
      unfold L2.wipe
      by_cases c : u = i
      · subst c
        by_cases l : u < σ.length
        · rw [if_pos ⟨List.mem_cons_self, l⟩, List.getElem?_set_self (by rw [L2.wipe_length]; exact l)]
        · rw [if_neg (fun z => l z.2), List.getElem?_eq_none (by simpa [L2.wipe_length] using l), List.getElem?_eq_none (by simpa using l)]
      · rw [List.getElem?_set_ne c, ih]
        have : (i ∈ u :: us ∧ i < σ.length) ↔ (i ∈ us ∧ i < σ.length) := by
          simp only [List.mem_cons]
          constructor
          · rintro ⟨h1 | h1, h2⟩
            · exact absurd h1.symm c
            · exact ⟨h1, h2⟩
          · exact fun ⟨h1, h2⟩ => ⟨.inr h1, h2⟩
        by_cases d : i ∈ us ∧ i < σ.length
        · rw [if_pos d, if_pos (this.mpr d)]
        · rw [if_neg d, if_neg (fun z => d (this.mp z))]
  rw [hv, hv, L2.wipe_length]
  split <;> rfl
theorem OutE.sub {K : PySem.W.Frag} {lk : Lk} {A : Addr} {σ σ' : L2.St} {ρ ρ' : Nm} {G G' : Cells} {H H' : Hp} {r : PK.R} {Q Q' : VK} (e : Ext ρ G.length H ρ' G'.length H') (h : OutE K lk W0 σ ρ G H r Q)
    (k : ∀ v G1 ρ1 H1 x, r = .ok v G1 → Ext ρ' G'.length H' ρ1 G1.length H1 → Rel K (lk.add A) ρ1 G1 H1 → Rep K (lk.add A) ρ1 G1.length H1 v x → Q' x H1) : OutE K (lk.add A) W0 σ' ρ' G' H' r Q' := by
  cases r with
  | ok v G1 => exact fun ρ1 H1 x e1 r1 p1 => k v G1 ρ1 H1 x rfl e1 r1 p1
  | exc c G1 => exact fun ρ1 H1 e1 r1 => h ρ1 H1 (e.trans e1) r1.sub
  | bad => exact h
theorem OutE.first {K : PySem.W.Frag} {lk : Lk} {σ : L2.St} {ρ : Nm} {G : Cells} {H : Hp} {r : PK.R} {f : PK.D → Cells → PK.R} {Q : VK} (h : OutE K lk W0 σ ρ G H (r.bind f) Q) : OutE K lk W0 σ ρ G H r (fun _ _ => True) := by
  cases r with
  | ok v G1 => exact fun _ _ _ _ _ _ => trivial
  | exc c G1 => exact h
  | bad => exact h
def stepE (pt : List Nat) (one : Bool) (own : List Nat) (s : PK.Env) (ec eb : Ev) : PK.D → Cells → PK.R := fun x G => PK.optK (PK.bindT pt one (PK.wipes s own) x) (fun s' => (ec s' G).bind fun c G2 => PK.blK c (fun t => PK.iteK t (fun _ => (eb s' G2).bind fun y G3 => .ok (.tup [y]) G3) fun _ => .ok .non G2) .bad) .bad
def compE (w : Bool) (k : PK.Ik) (own pt : List Nat) (one : Bool) (er ec eb : Ev) : Ev := fun s G => (er s G).bind fun x G1 => PK.tupK x (fun ds => PK.optK (PK.itD k ds G1) (fun xg => PK.iteK (PK.szOk xg.1.length) (fun _ =>
      (PK.compF (stepE pt one own s ec eb) xg.2 xg.1 G1 [] (PK.mkl w)).safe) fun _ => .bad) .bad) .bad
abbrev BX (X : Cx) (scope : Scope) (s : Shared) (H : Hp) (C : Addr) (cl : List (Str × Addr)) (fp : List Addr) : Cx := X.blk s H scope (compEnvC scope cl C X.env) fp
def TTc (K : PySem.W.Frag) (lk : Lk) (ec : Ev) : TT := fun σ H Q => ∃ A, liftT K (lk.add A) W0 ec σ H Q
def TEc (K : PySem.W.Frag) (lk : Lk) (eb : Ev) : TE := fun σ H Q => ∃ A, lift K (lk.add A) W0 eb σ H Q
theorem comp_of {w : Bool} {own : List Nat} (hF : lk.Free) (hpt : ∀ i ∈ pt, i ∈ own) (σ : L2.St) (H : Hp) (Q : VK) (h : lift X.K lk (WXo X) (compE w k own pt one er ec eb) σ H Q) : tLc (liftI X.K lk (WXo X) k er) (gPat X.K pt one) (TTc X.K lk ec) (TEc X.K lk eb) own σ H Q := by
  obtain ⟨ρ, G, s, r, en, h⟩ := h
  refine ⟨ρ, G, s, r, en, ?_⟩
  have h : OutE X.K lk (WXo X) σ ρ G H ((er s G).bind fun x G1 => PK.tupK x (fun ds => PK.optK (PK.itD k ds G1) (fun xg => PK.iteK (PK.szOk xg.1.length) (fun _ => (PK.compF (stepE pt one own s ec eb) xg.2 xg.1 G1 [] (PK.mkl w)).safe) fun _ => .bad) .bad) .bad) Q := h
  cases q : er s G with
  | bad => rw [q] at h; exact False.elim h
  | exc c G1 => rw [q] at h; exact h
  | ok v G1 =>
    rw [q] at h
    cases v with
    | tup ds =>
      have h : OutE X.K lk (WXo X) σ ρ G H (PK.optK (PK.itD k ds G1) (fun xg => PK.iteK (PK.szOk xg.1.length) (fun _ => (PK.compF (stepE pt one own s ec eb) xg.2 xg.1 G1 [] (PK.mkl w)).safe) fun _ => .bad) .bad) Q := h
      cases e1 : PK.itD k ds G1 with
      | none => rw [e1] at h; exact False.elim h
      | some xg =>
        rw [e1] at h
        have h : OutE X.K lk (WXo X) σ ρ G H (PK.iteK (PK.szOk xg.1.length) (fun _ => (PK.compF (stepE pt one own s ec eb) xg.2 xg.1 G1 [] (PK.mkl w)).safe) fun _ => .bad) Q := h
        cases z : PK.szOk xg.1.length with
        | false => rw [z] at h; exact False.elim h
        | true =>
          rw [z] at h
          have hsz : xg.1.length < sizeLine := Nat.lt_of_le_of_lt (of_decide_eq_true z) (by rw [sizeLine_eq]; decide)
          refine ⟨xg, e1, fun J ρ1 H1 ex1 r1 srcA _ => fun A hA => ?_⟩
          have h : OutE X.K lk W0 σ ρ1 G1 H1 (PK.compF (stepE pt one own s ec eb) xg.2 xg.1 G1 [] (PK.mkl w)) Q := OutE.ext ex1 (OutE.safe (W := WXo X) (σ := σ) h)
          have src := srcA A hA
          refine ⟨fun i m H' => m = xg.1.length - i ∧ ∃ ρ' G' acc vs, Ext ρ1 G1.length H1 ρ' G'.length H' ∧ Rel X.K (lk.add A) ρ' G' H' ∧ H' A = some (.lst vs) ∧ Reps X.K (lk.add A) ρ' G'.length H' acc vs ∧ acc.length ≤ i ∧
            OutE X.K lk W0 σ ρ1 G1 H1 (PK.compF (stepE pt one own s ec eb) xg.2 (xg.1.drop i) G' acc (PK.mkl w)) Q,
            ⟨_, rfl, ρ1, G1, [], [], Ext.laid hA, r1.add hA, upd_same, rfl, Nat.le_refl _, h⟩, fun i m H' ⟨hm, ρ', G', acc, vs, e', r', hA', pa, hl, h'⟩ => ?_⟩
          cases hd : xg.1.drop i with
          | nil =>
            rw [hd] at h'
            have h' : OutE X.K lk W0 σ ρ1 G1 H1 (PK.iteK (PK.still G' xg.2) (fun _ => PK.mkl w acc G') fun _ => .bad) Q := h'
            cases st : PK.still G' xg.2 with
            | false => rw [st] at h'; exact False.elim h'
            | true =>
              rw [st] at h'
              refine .inl ⟨(src ρ' G' H' e' r' st i).2 (List.drop_eq_nil_iff.mp hd), ?_⟩
              have hz : ¬ lk.Z A := fun z => r1.zs A z hA
              cases w with
              | false =>
                have h' : OutE X.K lk W0 σ ρ1 G1 H1 (.ok (.lst acc) G') Q := h'
                exact h' ρ' H' (.ref A) e' r'.sub ⟨A, vs, rfl, hA', ⟨r'.off, hz⟩, Reps.sub _ _ pa⟩
              | true =>
                have h' : OutE X.K lk W0 σ ρ1 G1 H1 (.ok (.ref G'.length) (G' ++ [.lst acc])) Q := h'
                exact h' (nset ρ' G'.length A) H' (.ref A) (by rw [List.length_append]; exact e'.named hA) (r'.name hA' pa hz) ⟨by simp, by rw [nset_same]⟩
          | cons x xs =>
            rw [hd] at h'
            obtain ⟨g1, g2, g3⟩ := drop_get hd
            have h' : OutE X.K lk W0 σ ρ1 G1 H1 (PK.iteK (PK.still G' xg.2) (fun _ => (stepE pt one own s ec eb x G').bind fun r G1 => PK.stepK r (fun y => PK.compF (stepE pt one own s ec eb) xg.2 xs G1 (acc ++ [y]) (PK.mkl w)) (fun _ => PK.compF (stepE pt one own s ec eb) xg.2 xs G1 acc (PK.mkl w))) fun _ => .bad) Q := h'
            cases st : PK.still G' xg.2 with
            | false => rw [st] at h'; exact False.elim h'
            | true =>
              rw [st] at h'
              have h' : OutE X.K lk W0 σ ρ1 G1 H1 ((stepE pt one own s ec eb x G').bind fun r G1 => PK.stepK r (fun y => PK.compF (stepE pt one own s ec eb) xg.2 xs G1 (acc ++ [y]) (PK.mkl w)) (fun _ => PK.compF (stepE pt one own s ec eb) xg.2 xs G1 acc (PK.mkl w))) Q := h'
              cases eb1 : PK.bindT pt one (PK.wipes s own) x with
              | none =>
                have z : stepE pt one own s ec eb x G' = .bad := by unfold stepE; rw [eb1]; rfl
                rw [z] at h'; exact False.elim h'
              | some s'' =>
                have z : stepE pt one own s ec eb x G' = (ec s'' G').bind fun c G2 => PK.blK c (fun t => PK.iteK t (fun _ => (eb s'' G2).bind fun y G3 => .ok (.tup [y]) G3) fun _ => .ok .non G2) .bad := by
                  unfold stepE; rw [eb1]; rfl
                rw [z] at h'
                obtain ⟨j1, j2⟩ := (src ρ' G' H' e' r' st i).1 x g1
                refine .inr ⟨j1, fun H2 => ∃ ρ2 G2 acc2 vs2, Ext ρ1 G1.length H1 ρ2 G2.length H2 ∧ Rel X.K (lk.add A) ρ2 G2 H2 ∧ H2 A = some (.lst vs2) ∧ Reps X.K (lk.add A) ρ2 G2.length H2 acc2 vs2 ∧ acc2.length ≤ i + 1 ∧
                  OutE X.K lk W0 σ ρ1 G1 H1 (PK.compF (stepE pt one own s ec eb) xg.2 xs G2 acc2 (PK.mkl w)) Q,
                  fun H2 ⟨ρ2, G2, acc2, vs2, a1, a2, a3, a4, a5, a6⟩ => ⟨m - 1, by omega, by omega, ρ2, G2, acc2, vs2, a1, a2, a3, a4, a5, by rw [g2]; exact a6⟩, fun xv H'' y => ?_⟩
                obtain ⟨y1, y2, y3⟩ := j2 xv H'' y
                have ey := e'.trans y1
                have en1 : REnv X.K (lk.add A) ρ' G'.length H'' (PK.wipes s own) (L2.wipe σ own) := REnv.wipe (show (lk.add A).Free from hF) _ (((en.ext ex1).addH hA).ext ey)
                have hA2 : H'' A = some (.lst vs) := y1.pres A _ hA' r'.off
                refine pat_of (show (lk.add A).Free from hF) eb1 y3 en1 fun σ2 en2 hw => ⟨(hw _ hpt).trans (wipe_twice _ _), A, ρ', G', s'', y2, en2, ?_⟩
                cases q1 : ec s'' G' with
                | bad => rw [q1] at h'; exact False.elim h'
                | exc c G2 => rw [q1] at h'; exact fun ρ3 H3 e3 r3 => h' ρ3 H3 (ey.trans e3) r3.sub
                | ok v G2 =>
                  rw [q1] at h'
                  cases v with
                  | bl b =>
                    refine ⟨b, rfl, fun ρ3 H3 e3 r3 => ?_⟩
                    have hA3 : H3 A = some (.lst vs) := e3.pres A _ hA2 y2.off
                    cases b with
                    | false =>
                      dsimp only; rw [if_neg Bool.false_ne_true]
                      exact ⟨ρ3, G2, acc, vs, ey.trans e3, r3, hA3, Reps.ext (y1.trans e3) _ _ pa, Nat.le_succ_of_le hl, h'⟩
                    | true =>
                      dsimp only; rw [if_pos rfl]
                      refine ⟨A, ρ3, G2, s'', r3, en2.ext e3, ?_⟩
                      have h' : OutE X.K lk W0 σ ρ1 G1 H1 (((eb s'' G2).bind fun y G3 => .ok (.tup [y]) G3).bind fun r G1 => PK.stepK r (fun y => PK.compF (stepE pt one own s ec eb) xg.2 xs G1 (acc ++ [y]) (PK.mkl w)) (fun _ => PK.compF (stepE pt one own s ec eb) xg.2 xs G1 acc (PK.mkl w))) Q := h'
                      cases q2 : eb s'' G2 with
                      | bad => rw [q2] at h'; exact False.elim h'
                      | exc c G3 => rw [q2] at h'; exact fun ρ4 H4 e4 r4 => h' ρ4 H4 ((ey.trans e3).trans e4) r4.sub
                      | ok yd G3 =>
                        rw [q2] at h'
                        intro ρ4 H4 yv e4 r4 p4
                        have hA4 : H4 A = some (.lst vs) := e4.pres A _ hA3 r3.off
                        have pa4 : Reps X.K (lk.add A) ρ4 G3.length H4 acc vs := Reps.ext ((y1.trans e3).trans e4) _ _ pa
                        refine ⟨vs, hA4, by rw [← pa.length]; omega, ρ4, G3, acc ++ [yd], vs ++ [yv], ((ey.trans e3).trans e4).over hA, r4.push hA4, upd_same, Reps.push hA4 _ _ (pa4.append (Reps.one p4)), ?_, h'⟩
                        rw [List.length_append, List.length_singleton]; omega
                  | _ => exact False.elim h'
    | _ => exact False.elim h
structure CompOk (X : Cx) (lk : Lk) (tg iter elt : Expr) (ifs : List Expr) (scope : Scope) (own : List (Str × Nat)) (k : PK.Ik) (pt : List Nat) (one : Bool) (er ec eb : Ev) : Prop where
  hi : LI X lk tg iter k er
  ok : BlkOk X.N X.env.scope scope own
  hpt : ∀ i ∈ pt, i ∈ own.map (·.2)
  hg : ∀ (s : Shared) (H : Hp) (C : Addr) (cl : List (Str × Addr)) (fp : List Addr), Pat (BX X scope s H C cl fp) tg pt one
  ht : ∀ (A : Addr) (s : Shared) (H : Hp) (C : Addr) (cl : List (Str × Addr)) (fp : List Addr), PTs (BX X scope s H C cl fp) ifs (liftT X.K (lk.add A) W0 ec)
  he : ∀ (A : Addr) (s : Shared) (H : Hp) (C : Addr) (cl : List (Str × Addr)) (fp : List Addr), LE (BX X scope s H C cl fp) (lk.add A) elt eb
  hs : ∀ x, foldedSetIterable iter X.env x = pure x
theorem lift_w0 {K : PySem.W.Frag} {lk : Lk} {W : WX} {ev : Ev} {σ : L2.St} {H : Hp} {Q : VK} (h : lift K lk W0 ev σ H Q) : lift K lk W ev σ H Q := by
  obtain ⟨ρ, G, s, r, en, h⟩ := h
  exact ⟨ρ, G, s, r, en, h.imp fun _ _ z => z.elim⟩
theorem liftT_w0 {K : PySem.W.Frag} {lk : Lk} {W : WX} {ev : Ev} {σ : L2.St} {H : Hp} {Q : Bool → Hp → Prop} (h : liftT K lk W0 ev σ H Q) : liftT K lk W ev σ H Q := by
  obtain ⟨ρ, G, s, r, en, h⟩ := h
  exact ⟨ρ, G, s, r, en, h.imp fun _ _ z => z.elim⟩
theorem le_comp {w : Bool} {scope : Scope} {own : List (Str × Nat)} {ifs : List Expr} (hc : X.calm = true) (hF : lk.Free) (hN : X.N.Nodup) (c : CompOk X lk tg iter elt ifs scope own k pt one er ec eb) :
    LE X lk (.ListComp elt [⟨tg, iter, ifs, 0⟩] scope pos) (compE w k (own.map (·.2)) pt one er ec eb) :=
  pe_imp (pe_lc (te := TEc X.K lk eb) (tt := TTc X.K lk ec) hc hN c.hi c.ok (fun s H C cl fp => pg_pat (X := BX X scope s H C cl fp) hc hN (c.hg s H C cl fp)) (fun s H C cl fp => ⟨fun pins s' σ H' Q I ⟨A, h⟩ => (c.ht A s H C cl fp).run pins s' σ H' Q I h⟩)
      (fun s H C cl fp => ⟨fun pins s' σ H' Q I ⟨A, h⟩ => (c.he A s H C cl fp).run pins s' σ H' Q I (lift_w0 h)⟩) c.hs) (comp_of hF c.hpt)
theorem ls_setComp {w : Bool} {i : Nat} {y : Str} {py spos : Pos} {scope : Scope} {own : List (Str × Nat)} {ifs : List Expr} (hc : X.calm = true) (hF : lk.Free) (hN : X.N.Nodup) (hy : X.N[i]? = some y) (hyl : X.env.scope.names.lookup y = some .local)
    (hsw : swapsWith (.ListComp elt [⟨tg, iter, ifs, 0⟩] scope pos) (some (.Name y py)) spos.line X.env = pure true) (c : CompOk X lk tg iter elt ifs scope own k pt one er ec eb) :
    LS X lk (.Assign [.Name y py] (.ListComp elt [⟨tg, iter, ifs, 0⟩] scope pos) spos) (fun s G => PK.R.st s (compE w k (own.map (·.2)) pt one er ec eb s G) fun v G1 => .nx (PK.seti s i v) G1) :=
  ps_imp (ps_setLc (te := TEc X.K lk eb) (tt := TTc X.K lk ec) hc hN hy hyl hsw c.hi c.ok (fun s H C cl fp => pg_pat (X := BX X scope s H C cl fp) hc hN (c.hg s H C cl fp)) (fun s H C cl fp => ⟨fun pins s' σ H' Q I ⟨A, h⟩ => (c.ht A s H C cl fp).run pins s' σ H' Q I h⟩)
      (fun s H C cl fp => ⟨fun pins s' σ H' Q I ⟨A, h⟩ => (c.he A s H C cl fp).run pins s' σ H' Q I (lift_w0 h)⟩) c.hs) fun D σ H ⟨ρ, G, s, r, en, h⟩ => comp_of hF c.hpt σ H _ ⟨ρ, G, s, r, en, OutS.bind en h fun v G1 ρ1 H1 x e1 r1 p1 h1 => OutS.here h1 r1 ((en.ext e1).set p1 (fun _ => hF _))⟩
def compX (w : Bool) (k : PK.Ik) (own pt : List Nat) (one : Bool) (er ec eb : Ev) : Ev := fun s G => (er s G).bind fun x G1 => PK.tupK x (fun ds => PK.optK (PK.itD k ds G1) (fun xg => PK.iteK (PK.szOk xg.1.length) (fun _ =>
      PK.compF (stepE pt one own s ec eb) xg.2 xg.1 G1 [] (PK.mkl w)) fun _ => .bad) .bad) .bad
def WXs (X : Cx) (σ : L2.St) : WX := fun cls d _ H => WXo X cls d σ H
def TTx (X : Cx) (lk : Lk) (ec : Ev) (σ : L2.St) : TT := fun σ2 H Q => ∃ A, liftT X.K (lk.add A) (WXs X σ) ec σ2 H Q
def TEx (X : Cx) (lk : Lk) (eb : Ev) (σ : L2.St) : TE := fun σ2 H Q => ∃ A, lift X.K (lk.add A) (WXs X σ) eb σ2 H Q
theorem comp_ofX {w : Bool} {own : List Nat} (hF : lk.Free) (hpt : ∀ i ∈ pt, i ∈ own) (σ : L2.St) (H : Hp) (Q : VK) (h : lift X.K lk (WXo X) (compX w k own pt one er ec eb) σ H Q) : tLc (liftI X.K lk (WXo X) k er) (gPat X.K pt one) (TTx X lk ec σ) (TEx X lk eb σ) own σ H Q := by
  obtain ⟨ρ, G, s, r, en, h⟩ := h
  refine ⟨ρ, G, s, r, en, ?_⟩
  have h : OutE X.K lk (WXo X) σ ρ G H ((er s G).bind fun x G1 => PK.tupK x (fun ds => PK.optK (PK.itD k ds G1) (fun xg => PK.iteK (PK.szOk xg.1.length) (fun _ => PK.compF (stepE pt one own s ec eb) xg.2 xg.1 G1 [] (PK.mkl w)) fun _ => .bad) .bad) .bad) Q := h
  cases q : er s G with
  | bad => rw [q] at h; exact False.elim h
  | exc c G1 => rw [q] at h; exact h
  | ok v G1 =>
    rw [q] at h
    cases v with
    | tup ds =>
      have h : OutE X.K lk (WXo X) σ ρ G H (PK.optK (PK.itD k ds G1) (fun xg => PK.iteK (PK.szOk xg.1.length) (fun _ => PK.compF (stepE pt one own s ec eb) xg.2 xg.1 G1 [] (PK.mkl w)) fun _ => .bad) .bad) Q := h
      cases e1 : PK.itD k ds G1 with
      | none => rw [e1] at h; exact False.elim h
      | some xg =>
        rw [e1] at h
        have h : OutE X.K lk (WXo X) σ ρ G H (PK.iteK (PK.szOk xg.1.length) (fun _ => PK.compF (stepE pt one own s ec eb) xg.2 xg.1 G1 [] (PK.mkl w)) fun _ => .bad) Q := h
        cases z : PK.szOk xg.1.length with
        | false => rw [z] at h; exact False.elim h
        | true =>
          rw [z] at h
          have hsz : xg.1.length < sizeLine := Nat.lt_of_le_of_lt (of_decide_eq_true z) (by rw [sizeLine_eq]; decide)
          refine ⟨xg, e1, fun J ρ1 H1 ex1 r1 srcA _ => fun A hA => ?_⟩
          have h : OutE X.K lk (WXo X) σ ρ1 G1 H1 (PK.compF (stepE pt one own s ec eb) xg.2 xg.1 G1 [] (PK.mkl w)) Q := OutE.ext ex1 h
          have src := srcA A hA
          refine ⟨fun i m H' => m = xg.1.length - i ∧ ∃ ρ' G' acc vs, Ext ρ1 G1.length H1 ρ' G'.length H' ∧ Rel X.K (lk.add A) ρ' G' H' ∧ H' A = some (.lst vs) ∧ Reps X.K (lk.add A) ρ' G'.length H' acc vs ∧ acc.length ≤ i ∧
            OutE X.K lk (WXo X) σ ρ1 G1 H1 (PK.compF (stepE pt one own s ec eb) xg.2 (xg.1.drop i) G' acc (PK.mkl w)) Q,
            ⟨_, rfl, ρ1, G1, [], [], Ext.laid hA, r1.add hA, upd_same, rfl, Nat.le_refl _, h⟩, fun i m H' ⟨hm, ρ', G', acc, vs, e', r', hA', pa, hl, h'⟩ => ?_⟩
          cases hd : xg.1.drop i with
          | nil =>
            rw [hd] at h'
            have h' : OutE X.K lk (WXo X) σ ρ1 G1 H1 (PK.iteK (PK.still G' xg.2) (fun _ => PK.mkl w acc G') fun _ => .bad) Q := h'
            cases st : PK.still G' xg.2 with
            | false => rw [st] at h'; exact False.elim h'
            | true =>
              rw [st] at h'
              refine .inl ⟨(src ρ' G' H' e' r' st i).2 (List.drop_eq_nil_iff.mp hd), ?_⟩
              have hz : ¬ lk.Z A := fun z => r1.zs A z hA
              cases w with
              | false =>
                have h' : OutE X.K lk (WXo X) σ ρ1 G1 H1 (.ok (.lst acc) G') Q := h'
                exact h' ρ' H' (.ref A) e' r'.sub ⟨A, vs, rfl, hA', ⟨r'.off, hz⟩, Reps.sub _ _ pa⟩
              | true =>
                have h' : OutE X.K lk (WXo X) σ ρ1 G1 H1 (.ok (.ref G'.length) (G' ++ [.lst acc])) Q := h'
                exact h' (nset ρ' G'.length A) H' (.ref A) (by rw [List.length_append]; exact e'.named hA) (r'.name hA' pa hz) ⟨by simp, by rw [nset_same]⟩
          | cons x xs =>
            rw [hd] at h'
            obtain ⟨g1, g2, g3⟩ := drop_get hd
            have h' : OutE X.K lk (WXo X) σ ρ1 G1 H1 (PK.iteK (PK.still G' xg.2) (fun _ => (stepE pt one own s ec eb x G').bind fun r G1 => PK.stepK r (fun y => PK.compF (stepE pt one own s ec eb) xg.2 xs G1 (acc ++ [y]) (PK.mkl w)) (fun _ => PK.compF (stepE pt one own s ec eb) xg.2 xs G1 acc (PK.mkl w))) fun _ => .bad) Q := h'
            cases st : PK.still G' xg.2 with
            | false => rw [st] at h'; exact False.elim h'
            | true =>
              rw [st] at h'
              have h' : OutE X.K lk (WXo X) σ ρ1 G1 H1 ((stepE pt one own s ec eb x G').bind fun r G1 => PK.stepK r (fun y => PK.compF (stepE pt one own s ec eb) xg.2 xs G1 (acc ++ [y]) (PK.mkl w)) (fun _ => PK.compF (stepE pt one own s ec eb) xg.2 xs G1 acc (PK.mkl w))) Q := h'
              cases eb1 : PK.bindT pt one (PK.wipes s own) x with
              | none =>
                have z : stepE pt one own s ec eb x G' = .bad := by unfold stepE; rw [eb1]; rfl
                rw [z] at h'; exact False.elim h'
              | some s'' =>
                have z : stepE pt one own s ec eb x G' = (ec s'' G').bind fun c G2 => PK.blK c (fun t => PK.iteK t (fun _ => (eb s'' G2).bind fun y G3 => .ok (.tup [y]) G3) fun _ => .ok .non G2) .bad := by
                  unfold stepE; rw [eb1]; rfl
                rw [z] at h'
                obtain ⟨j1, j2⟩ := (src ρ' G' H' e' r' st i).1 x g1
                refine .inr ⟨j1, fun H2 => ∃ ρ2 G2 acc2 vs2, Ext ρ1 G1.length H1 ρ2 G2.length H2 ∧ Rel X.K (lk.add A) ρ2 G2 H2 ∧ H2 A = some (.lst vs2) ∧ Reps X.K (lk.add A) ρ2 G2.length H2 acc2 vs2 ∧ acc2.length ≤ i + 1 ∧
                  OutE X.K lk (WXo X) σ ρ1 G1 H1 (PK.compF (stepE pt one own s ec eb) xg.2 xs G2 acc2 (PK.mkl w)) Q,
                  fun H2 ⟨ρ2, G2, acc2, vs2, a1, a2, a3, a4, a5, a6⟩ => ⟨m - 1, by omega, by omega, ρ2, G2, acc2, vs2, a1, a2, a3, a4, a5, by rw [g2]; exact a6⟩, fun xv H'' y => ?_⟩
                obtain ⟨y1, y2, y3⟩ := j2 xv H'' y
                have ey := e'.trans y1
                have en1 : REnv X.K (lk.add A) ρ' G'.length H'' (PK.wipes s own) (L2.wipe σ own) := REnv.wipe (show (lk.add A).Free from hF) _ (((en.ext ex1).addH hA).ext ey)
                have hA2 : H'' A = some (.lst vs) := y1.pres A _ hA' r'.off
                refine pat_of (show (lk.add A).Free from hF) eb1 y3 en1 fun σ2 en2 hw => ⟨(hw _ hpt).trans (wipe_twice _ _), A, ρ', G', s'', y2, en2, ?_⟩
                cases q1 : ec s'' G' with
                | bad => rw [q1] at h'; exact False.elim h'
                | exc c G2 => rw [q1] at h'; exact fun ρ3 H3 e3 r3 => h' ρ3 H3 (ey.trans e3) r3.sub
                | ok v G2 =>
                  rw [q1] at h'
                  cases v with
                  | bl b =>
                    refine ⟨b, rfl, fun ρ3 H3 e3 r3 => ?_⟩
                    have hA3 : H3 A = some (.lst vs) := e3.pres A _ hA2 y2.off
                    cases b with
                    | false =>
                      dsimp only; rw [if_neg Bool.false_ne_true]
                      exact ⟨ρ3, G2, acc, vs, ey.trans e3, r3, hA3, Reps.ext (y1.trans e3) _ _ pa, Nat.le_succ_of_le hl, h'⟩
                    | true =>
                      dsimp only; rw [if_pos rfl]
                      refine ⟨A, ρ3, G2, s'', r3, en2.ext e3, ?_⟩
                      have h' : OutE X.K lk (WXo X) σ ρ1 G1 H1 (((eb s'' G2).bind fun y G3 => .ok (.tup [y]) G3).bind fun r G1 => PK.stepK r (fun y => PK.compF (stepE pt one own s ec eb) xg.2 xs G1 (acc ++ [y]) (PK.mkl w)) (fun _ => PK.compF (stepE pt one own s ec eb) xg.2 xs G1 acc (PK.mkl w))) Q := h'
                      cases q2 : eb s'' G2 with
                      | bad => rw [q2] at h'; exact False.elim h'
                      | exc c G3 => rw [q2] at h'; exact fun ρ4 H4 e4 r4 => h' ρ4 H4 ((ey.trans e3).trans e4) r4.sub
                      | ok yd G3 =>
                        rw [q2] at h'
                        intro ρ4 H4 yv e4 r4 p4
                        have hA4 : H4 A = some (.lst vs) := e4.pres A _ hA3 r3.off
                        have pa4 : Reps X.K (lk.add A) ρ4 G3.length H4 acc vs := Reps.ext ((y1.trans e3).trans e4) _ _ pa
                        refine ⟨vs, hA4, by rw [← pa.length]; omega, ρ4, G3, acc ++ [yd], vs ++ [yv], ((ey.trans e3).trans e4).over hA, r4.push hA4, upd_same, Reps.push hA4 _ _ (pa4.append (Reps.one p4)), ?_, h'⟩
                        rw [List.length_append, List.length_singleton]; omega
                  | _ => exact False.elim h'
    | _ => exact False.elim h
structure CompOkX (X : Cx) (lk : Lk) (tg iter elt : Expr) (ifs : List Expr) (scope : Scope) (own : List (Str × Nat)) (k : PK.Ik) (pt : List Nat) (one : Bool) (er ec eb : Ev) : Prop where
  ow : OwnX X
  hi : LI X lk tg iter k er
  ok : BlkOk X.N X.env.scope scope own
  hpt : ∀ i ∈ pt, i ∈ own.map (·.2)
  hg : ∀ (s : Shared) (H : Hp) (C : Addr) (cl : List (Str × Addr)) (fp : List Addr), Pat (blkX X s H scope (compEnvC scope cl C X.env) fp) tg pt one
  ht : ∀ (A : Addr) (s : Shared) (H : Hp) (C : Addr) (cl : List (Str × Addr)) (fp : List Addr), PTs (blkX X s H scope (compEnvC scope cl C X.env) fp) ifs (liftT X.K (lk.add A) (WXo (blkX X s H scope (compEnvC scope cl C X.env) fp)) ec)
  he : ∀ (A : Addr) (s : Shared) (H : Hp) (C : Addr) (cl : List (Str × Addr)) (fp : List Addr), LE (blkX X s H scope (compEnvC scope cl C X.env) fp) (lk.add A) elt eb
  hs : ∀ x, foldedSetIterable iter X.env x = pure x
theorem parts_x {scope : Scope} {own : List (Str × Nat)} {ifs : List Expr} (c : CompOkX X lk tg iter elt ifs scope own k pt one er ec eb) (hc : X.calm = true) (hN : X.N.Nodup) (σ : L2.St) : Parts X scope tg elt ifs (gPat X.K pt one) (TTx X lk ec σ) (TEx X lk eb σ) σ where
  tg s H C cl fp := pg_pat (X := blkX X s H scope (compEnvC scope cl C X.env) fp) hc hN (c.hg s H C cl fp)
  tt cl _ I f := ⟨fun pins' s' σ' H' Q J ⟨A, ρ, G, e, r, en, h⟩ => (c.ht A _ _ _ cl _).run pins' s' σ' H' Q J ⟨ρ, G, e, r, en, h.imp fun cc _ z => wx_blk c.ow I f rfl z⟩⟩
  te cl _ I f := ⟨fun pins' s' σ' H' Q J ⟨A, ρ, G, e, r, en, h⟩ => (c.he A _ _ _ cl _).run pins' s' σ' H' Q J ⟨ρ, G, e, r, en, h.imp fun cc _ z => wx_blk c.ow I f rfl z⟩⟩
theorem le_compX {w : Bool} {scope : Scope} {own : List (Str × Nat)} {ifs : List Expr} (hc : X.calm = true) (hF : lk.Free) (hN : X.N.Nodup) (c : CompOkX X lk tg iter elt ifs scope own k pt one er ec eb) :
    LE X lk (.ListComp elt [⟨tg, iter, ifs, 0⟩] scope pos) (compX w k (own.map (·.2)) pt one er ec eb) :=
  pe_imp (pe_lcx hc hN c.hi c.ok (parts_x c hc hN) c.hs) (comp_ofX hF c.hpt)
theorem ls_setCompX {w : Bool} {i : Nat} {y : Str} {py spos : Pos} {scope : Scope} {own : List (Str × Nat)} {ifs : List Expr} (hc : X.calm = true) (hF : lk.Free) (hN : X.N.Nodup) (hy : X.N[i]? = some y) (hyl : X.env.scope.names.lookup y = some .local)
    (hsw : swapsWith (.ListComp elt [⟨tg, iter, ifs, 0⟩] scope pos) (some (.Name y py)) spos.line X.env = pure true) (c : CompOkX X lk tg iter elt ifs scope own k pt one er ec eb) :
    LS X lk (.Assign [.Name y py] (.ListComp elt [⟨tg, iter, ifs, 0⟩] scope pos) spos) (fun s G => PK.R.st s (compX w k (own.map (·.2)) pt one er ec eb s G) fun v G1 => .nx (PK.seti s i v) G1) :=
  ps_imp (ps_setLcx hc hN hy hyl hsw c.hi c.ok (parts_x c hc hN) c.hs)
    fun D σ H ⟨ρ, G, s, r, en, h⟩ => comp_ofX hF c.hpt σ H _ ⟨ρ, G, s, r, en, OutS.bind en h fun v G1 ρ1 H1 x e1 r1 p1 h1 => OutS.here h1 r1 ((en.ext e1).set p1 (fun _ => hF _))⟩
end
end PKS
namespace PKS
open PySem PySem.Spec PyProof.Rows L2
def Own (X : Cx) : Prop := X.stack = X.env :: X.outer ∧ X.env.frame = some X.env.locals
section
variable {K : PySem.W.Frag} {lk : Lk} {W W' : WX} {σ : L2.St} {ρ : Nm} {G : Cells} {H : Hp} {s : PK.Env} {D : Ends} {n : Nat}
theorem OutS.imp {o : PK.O} (h : OutS K lk W ρ G H D o) (hW : ∀ c σ H', W (lk.EV c) (tnt c) σ H' → W' (lk.EV c) (tnt c) σ H') : OutS K lk W' ρ G H D o := by
  cases o with
  | exc c s G' => exact fun ρ' H' σ' e r en => hW _ _ _ (h ρ' H' σ' e r en)
  | _ => exact h
theorem liftS_imp {ex : Ex} (h : liftS K lk W ex D σ H) (hW : ∀ c σ H', W (lk.EV c) (tnt c) σ H' → W' (lk.EV c) (tnt c) σ H') : liftS K lk W' ex D σ H := by
  obtain ⟨ρ, G, s, r, en, h⟩ := h
  exact ⟨ρ, G, s, r, en, h.imp hW⟩
theorem REnv.drop {i : Nat} {w : Option V} (en : REnv K lk ρ n H s σ) (hP : lk.P σ → lk.P (σ.set i w)) : REnv K lk ρ n H (s.set i none) (σ.set i w) := by
  refine ⟨by rw [List.length_set, List.length_set]; exact en.len, fun j d q => ?_, hP en.pr⟩
  by_cases c : i = j
  · subst c
    by_cases l : i < s.length
    · rw [List.getElem?_set_self l] at q; cases q
    · rw [List.getElem?_eq_none (by simpa using l)] at q; cases q
  · rw [List.getElem?_set_ne c] at q ⊢
    exact en.at_ j d q
theorem OutS.clrAs {i : Nat} {o : PK.O} (hF : lk.Free) (h : OutS K lk W ρ G H D (o.clr (some i))) :
    OutS K lk W0 ρ G H { nx := fun σ' H' => D.nx (σ'.set i none) H', rt := D.rt, bk := fun σ' H' => D.bk (σ'.set i none) H', ct := fun σ' H' => D.ct (σ'.set i none) H' } o := by
  cases o with
  | nx s G' => exact fun ρ' H' σ' e r en => h ρ' H' _ e r (en.drop (fun _ => hF _))
  | brk s G' => exact fun ρ' H' σ' e r en => h ρ' H' _ e r (en.drop (fun _ => hF _))
  | cnt s G' => exact fun ρ' H' σ' e r en => h ρ' H' _ e r (en.drop (fun _ => hF _))
  | ret v G' => exact h
  | exc c s G' => exact False.elim h
  | bad => exact h
theorem OutS.clrOnly {o : PK.O} (h : OutS K lk W ρ G H D (o.clr none)) : OutS K lk W0 ρ G H D o := by
  cases o with
  | nx s G' => exact h
  | brk s G' => exact h
  | cnt s G' => exact h
  | ret v G' => exact h
  | exc c s G' => exact False.elim h
  | bad => exact h
end
theorem hot1_of {A : Around} {cls : Value} {a : Addr} {oe : Obj} (hz : L2N.Zn cls none oe) (hf : ∃ vs, oe.data = .fields vs) : L2H.Hot1 (A.mark (some (.ref a))) (a, oe) := by
  obtain ⟨vs, h⟩ := hf
  exact ⟨rfl, vs, h, hz.2.2 vs h⟩
def tryE (ex : Ex) (exh : Nat → Ex) (ks os : List Nat) (n : Option Nat) : Ex := fun s G => (ex s G).catch fun c s1 G1 => PK.iteK (decide (c ∈ ks)) (fun _ => (exh c (PK.wipeO n s1) G1).clr n) fun _ => PK.iteK (decide (c ∈ os)) (fun _ => .exc c s1 G1) fun _ => .bad
def Held (n : Option Nat) (a : Addr) (σ : L2.St) : Prop := ∀ i, n = some i → σ[i]? = some (some (.ref a))
theorem Held.set {n : Option Nat} {a : Addr} {σ : L2.St} {j : Nat} {v : Option V} (h : Held n a σ) (hj : n ≠ some j) : Held n a (σ.set j v) := fun i e => by
  rw [List.getElem?_set_ne (fun z => hj (by rw [e, z]))]
  exact h i e
theorem OutS.cg {K : PySem.W.Frag} {lk lk' : Lk} {W W' : WX} {ρ : Nm} {G : Cells} {H : Hp} {D : Ends} {o : PK.O} (e : Alike lk lk') (hF : lk.Free) (hW : ∀ c σ H', W (lk.EV c) (tnt c) σ H' → W' (lk'.EV c) (tnt c) σ H') (h : OutS K lk W ρ G H D o) : OutS K lk' W' ρ G H D o := by
  cases o with
  | nx s G' => exact fun ρ' H' σ' x r en => h ρ' H' σ' x (r.cg e.back) (en.cg e.back (hF _))
  | brk s G' => exact fun ρ' H' σ' x r en => h ρ' H' σ' x (r.cg e.back) (en.cg e.back (hF _))
  | cnt s G' => exact fun ρ' H' σ' x r en => h ρ' H' σ' x (r.cg e.back) (en.cg e.back (hF _))
  | ret v G' => exact fun ρ' H' v x r p => h ρ' H' v x (r.cg e.back) (Rep.cg e.back _ _ p)
  | exc c s G' => exact fun ρ' H' σ' x r en => hW _ _ _ (h ρ' H' σ' x (r.cg e.back) (en.cg e.back (hF _)))
  | bad => exact h
section
variable {X : Cx} {lk : Lk} {x nm : Str} {C : Addr} {i : Nat} {ks os : List Nat} {body suite : List Stmt} {b₀ : Stmt} {ex : Ex} {exh : Nat → Ex} {np pos pos' : Pos}
theorem ls_tryAs (O : Own X) (hF : lk.Free) (hlo : (∀ c ∈ ks, c < 1000) ∧ ∀ c ∈ os, c < 1000) (hN : X.N.Nodup) (hi : X.N[i]? = some nm) (hl : X.env.kindOf nm = some .local) (hc : Names X x (.ref C))
    (hk : ∀ c ∈ ks, PySem.W.exmOne X.K (lk.EV c) (.ref C) = some true) (ho : ∀ c ∈ os, PySem.W.exmOne X.K (lk.EV c) (.ref C) = some false)
    (hb : ∀ pn xe, PassesOwn (model X.prog X.w) X.A X.env xe → LSs (X.tr pn xe) lk body ex)
    (hsu : ∀ c ∈ ks, ∀ a oe pn, Zc (lk.EV c) none oe → (∃ vs, oe.data = .fields vs) → L2H.Hot1 (X.A.mark (some (.ref a))) (a, oe) → LSs (X.suite a ((a, oe) :: pn)) (lk.p (Held (some i) a)) (b₀ :: suite) (exh c)) :
    LS X lk (.Try body [.ExceptHandler (some (.Name x np)) (some nm) (b₀ :: suite) pos'] [] [] pos) (tryE ex exh ks os (some i)) := by
  refine ps_imp (L2N.ps_try_as (tb := fun W D σ H => liftS X.K lk (fun cls d σ H => d = none ∧ W cls none σ H) ex D σ H)
    (ts := fun a cls d D σ H => ∃ c, c ∈ ks ∧ cls = lk.EV c ∧ d = none ∧ (∃ σ0 : L2.St, σ = σ0.set i (some (.ref a))) ∧ liftS X.K lk W0 (exh c) D σ H) (Wout := (fun cls d σ H => d = none ∧ WXo X cls none σ H)) O.1 O.2 hN hi hl hc (takes_n X)
    (fun W pn xe tk hp => pss_imp (hb pn xe hp) fun D σ H h => liftS_imp h fun c σ H' z => by rw [z.1]; exact wx_n tk z.2)
    (fun a oe cls d pn hz hf => ⟨fun pins s σ H D I ⟨c, hc, e1, e2, ⟨σ0, e3⟩, h⟩ => ?_⟩)) fun D σ H ⟨ρ, G, s, r, en, h⟩ => ⟨ρ, G, s, r, en, ?_⟩
  · subst e1
    subst e2
    obtain ⟨ρ, G, s9, r, en, h⟩ := h
    refine (hsu c hc a oe pn hz.zc hf (hot1_of hz hf)).run pins s σ H D I ⟨ρ, G, s9, r.cg (.p _), en.cg (.p _) fun j ej => ?_, h.cg (.p _) hF fun _ _ _ z => z.elim⟩
    cases ej
    have hlen : σ.length = X.N.length := I.len
    rw [e3] at hlen ⊢
    rw [List.length_set] at hlen
    rw [List.getElem?_set_self (by rw [hlen]; exact (List.getElem?_eq_some_iff.mp hi).1)]
  · have h : OutS X.K lk (WXo X) ρ G H D ((ex s G).catch fun c s1 G1 => PK.iteK (decide (c ∈ ks)) (fun _ => (exh c (PK.wipeO (some i) s1) G1).clr (some i)) fun _ => PK.iteK (decide (c ∈ os)) (fun _ => .exc c s1 G1) fun _ => .bad) := h
    cases q : ex s G with
    | exc c s1 G1 =>
      rw [q] at h
      have h : OutS X.K lk (WXo X) ρ G H D (PK.iteK (decide (c ∈ ks)) (fun _ => (exh c (PK.wipeO (some i) s1) G1).clr (some i)) fun _ => PK.iteK (decide (c ∈ os)) (fun _ => .exc c s1 G1) fun _ => .bad) := h
      by_cases c1 : c ∈ ks
      · rw [decide_eq_true c1] at h
        have h : OutS X.K lk (WXo X) ρ G H D ((exh c (s1.set i none) G1).clr (some i)) := h
        exact fun ρ' H' σ' e r' en' => ⟨tnt_lo (hlo.1 c c1), true, hk c c1, fun _ a _ => ⟨c, c1, rfl, rfl, ⟨σ', rfl⟩, ρ', G1, s1.set i none, r', (en'.drop (fun _ => hF _)), OutS.clrAs hF (OutS.ext e h)⟩, (fun z => nomatch z)⟩
      · rw [decide_eq_false c1] at h
        have h : OutS X.K lk (WXo X) ρ G H D (PK.iteK (decide (c ∈ os)) (fun _ => .exc c s1 G1) fun _ => .bad) := h
        by_cases c2 : c ∈ os
        · rw [decide_eq_true c2] at h
          refine fun ρ' H' σ' e r' en' => ⟨tnt_lo (hlo.2 c c2), false, ho c c2, (fun z => nomatch z), fun _ => ⟨rfl, ?_⟩⟩
          have h := h ρ' H' σ' e r' en'
          rw [tnt_lo (hlo.2 c c2)] at h
          exact h
        · rw [decide_eq_false c2] at h
          exact False.elim h
    | nx s G' => rw [q] at h; exact h
    | brk s G' => rw [q] at h; exact h
    | cnt s G' => rw [q] at h; exact h
    | ret v G' => rw [q] at h; exact h
    | bad => rw [q] at h; exact h
theorem ls_tryAsZ (O : Own X) (hF : lk.Free) (hlo : ∀ c ∈ os, ¬ c < 1000) (hN : X.N.Nodup) (hi : X.N[i]? = some nm) (hl : X.env.kindOf nm = some .local) (hc : Names X x (.ref C))
    (hk : ∀ c ∈ ks, PySem.W.exmOne X.K (lk.EV c) (.ref C) = some true) (ho : ∀ c ∈ os, PySem.W.exmOne X.K (lk.EV c) (.ref C) = some false)
    (hb : ∀ pn xe, PassesOwn (model X.prog X.w) X.A X.env xe → LSs (X.tr pn xe) lk body ex)
    (hsu : ∀ c ∈ ks, ∀ a oe pn, Zc (lk.EV c) none oe → (∃ vs, oe.data = .fields vs) → LSs (X.suite a ((a, oe) :: pn)) (lk.p (Held (some i) a)) (b₀ :: suite) (exh c)) :
    LS X lk (.Try body [.ExceptHandler (some (.Name x np)) (some nm) (b₀ :: suite) pos'] [] [] pos) (tryE ex exh ks os (some i)) := by
  refine ps_imp (ps_try_as (tb := fun W D σ H => liftS X.K lk (fun cls _ σ H => W cls none σ H) ex D σ H)
    (ts := fun a cls d D σ H => ∃ c, c ∈ ks ∧ cls = lk.EV c ∧ d = none ∧ (∃ σ0 : L2.St, σ = σ0.set i (some (.ref a))) ∧ liftS X.K lk W0 (exh c) D σ H) (Wout := (fun cls d σ H => d = none ∧ WXo X cls (some 0) σ H)) O.1 O.2 hN hi hl hc (takes_z X)
    (fun W pn xe tk hp => pss_imp (hb pn xe hp) fun D σ H h => liftS_imp h fun c σ H' z => wx_z tk z)
    (fun a oe cls d pn hz hf => ⟨fun pins s σ H D I ⟨c, hc, e1, e2, ⟨σ0, e3⟩, h⟩ => ?_⟩)) fun D σ H ⟨ρ, G, s, r, en, h⟩ => ⟨ρ, G, s, r, en, ?_⟩
  · subst e1
    subst e2
    obtain ⟨ρ, G, s9, r, en, h⟩ := h
    refine (hsu c hc a oe pn hz hf).run pins s σ H D I ⟨ρ, G, s9, r.cg (.p _), en.cg (.p _) fun j ej => ?_, h.cg (.p _) hF fun _ _ _ z => z.elim⟩
    cases ej
    have hlen : σ.length = X.N.length := I.len
    rw [e3] at hlen ⊢
    rw [List.length_set] at hlen
    rw [List.getElem?_set_self (by rw [hlen]; exact (List.getElem?_eq_some_iff.mp hi).1)]
  · have h : OutS X.K lk (WXo X) ρ G H D ((ex s G).catch fun c s1 G1 => PK.iteK (decide (c ∈ ks)) (fun _ => (exh c (PK.wipeO (some i) s1) G1).clr (some i)) fun _ => PK.iteK (decide (c ∈ os)) (fun _ => .exc c s1 G1) fun _ => .bad) := h
    cases q : ex s G with
    | exc c s1 G1 =>
      rw [q] at h
      have h : OutS X.K lk (WXo X) ρ G H D (PK.iteK (decide (c ∈ ks)) (fun _ => (exh c (PK.wipeO (some i) s1) G1).clr (some i)) fun _ => PK.iteK (decide (c ∈ os)) (fun _ => .exc c s1 G1) fun _ => .bad) := h
      by_cases c1 : c ∈ ks
      · rw [decide_eq_true c1] at h
        have h : OutS X.K lk (WXo X) ρ G H D ((exh c (s1.set i none) G1).clr (some i)) := h
        exact fun ρ' H' σ' e r' en' => ⟨true, hk c c1, fun _ a _ => ⟨c, c1, rfl, rfl, ⟨σ', rfl⟩, ρ', G1, s1.set i none, r', (en'.drop (fun _ => hF _)), OutS.clrAs hF (OutS.ext e h)⟩, (fun z => nomatch z)⟩
      · rw [decide_eq_false c1] at h
        have h : OutS X.K lk (WXo X) ρ G H D (PK.iteK (decide (c ∈ os)) (fun _ => .exc c s1 G1) fun _ => .bad) := h
        by_cases c2 : c ∈ os
        · rw [decide_eq_true c2] at h
          refine fun ρ' H' σ' e r' en' => ⟨false, ho c c2, (fun z => nomatch z), fun _ => ⟨rfl, ?_⟩⟩
          have h := h ρ' H' σ' e r' en'
          rw [tnt_hi (hlo c c2)] at h
          exact h
        · rw [decide_eq_false c2] at h
          exact False.elim h
    | nx s G' => rw [q] at h; exact h
    | brk s G' => rw [q] at h; exact h
    | cnt s G' => rw [q] at h; exact h
    | ret v G' => rw [q] at h; exact h
    | bad => rw [q] at h; exact h
theorem ls_tryOnly (O : Own X) (hF : lk.Free) (hlo : (∀ c ∈ ks, c < 1000) ∧ ∀ c ∈ os, c < 1000) (hc : Names X x (.ref C))
    (hk : ∀ c ∈ ks, PySem.W.exmOne X.K (lk.EV c) (.ref C) = some true) (ho : ∀ c ∈ os, PySem.W.exmOne X.K (lk.EV c) (.ref C) = some false)
    (hb : ∀ pn xe, PassesOwn (model X.prog X.w) X.A X.env xe → LSs (X.tr pn xe) lk body ex)
    (hsu : ∀ c ∈ ks, ∀ a oe pn, Zc (lk.EV c) none oe → (∃ vs, oe.data = .fields vs) → L2H.Hot1 (X.A.mark (some (.ref a))) (a, oe) → LSs (X.suite a ((a, oe) :: pn)) (lk.p (Held none a)) (b₀ :: suite) (exh c)) :
    LS X lk (.Try body [.ExceptHandler (some (.Name x np)) none (b₀ :: suite) pos'] [] [] pos) (tryE ex exh ks os none) := by
  refine ps_imp (L2N.ps_try_many (l := [(Value.ref C, fun a cls d D σ H => ∃ c, c ∈ ks ∧ cls = lk.EV c ∧ d = none ∧ liftS X.K lk W0 (exh c) D σ H)]) (tb := fun W D σ H => liftS X.K lk (fun cls d σ H => d = none ∧ W cls none σ H) ex D σ H)
    (Wout := (fun cls d σ H => d = none ∧ WXo X cls none σ H)) O.1 O.2 (takes_n X)
    (fun W pn xe tk hp => pss_imp (hb pn xe hp) fun D σ H h => liftS_imp h fun c σ H' z => by rw [z.1]; exact wx_n tk z.2)
    (.cons hc (fun a oe cls d pn hz hf => ⟨fun pins s σ H D I ⟨c, hc, e1, e2, h⟩ => ?_⟩) .nil)) fun D σ H ⟨ρ, G, s, r, en, h⟩ => ⟨ρ, G, s, r, en, ?_⟩
  · subst e1
    subst e2
    obtain ⟨ρ, G, s9, r, en, h⟩ := h
    exact (hsu c hc a oe pn hz.zc hf (hot1_of hz hf)).run pins s σ H D I ⟨ρ, G, s9, r.cg (.p _), en.cg (.p _) (fun j ej => nomatch ej), h.cg (.p _) hF fun _ _ _ z => z.elim⟩
  · have h : OutS X.K lk (WXo X) ρ G H D ((ex s G).catch fun c s1 G1 => PK.iteK (decide (c ∈ ks)) (fun _ => (exh c (PK.wipeO none s1) G1).clr none) fun _ => PK.iteK (decide (c ∈ os)) (fun _ => .exc c s1 G1) fun _ => .bad) := h
    cases q : ex s G with
    | exc c s1 G1 =>
      rw [q] at h
      have h : OutS X.K lk (WXo X) ρ G H D (PK.iteK (decide (c ∈ ks)) (fun _ => (exh c s1 G1).clr none) fun _ => PK.iteK (decide (c ∈ os)) (fun _ => .exc c s1 G1) fun _ => .bad) := h
      by_cases c1 : c ∈ ks
      · rw [decide_eq_true c1] at h
        have h : OutS X.K lk (WXo X) ρ G H D ((exh c s1 G1).clr none) := h
        exact fun ρ' H' σ' e r' en' => ⟨tnt_lo (hlo.1 c c1), true, hk c c1, fun _ a _ => ⟨c, c1, rfl, rfl, ρ', G1, s1, r', en', OutS.clrOnly (OutS.ext e h)⟩, (fun z => nomatch z)⟩
      · rw [decide_eq_false c1] at h
        have h : OutS X.K lk (WXo X) ρ G H D (PK.iteK (decide (c ∈ os)) (fun _ => .exc c s1 G1) fun _ => .bad) := h
        by_cases c2 : c ∈ os
        · rw [decide_eq_true c2] at h
          refine fun ρ' H' σ' e r' en' => ⟨tnt_lo (hlo.2 c c2), false, ho c c2, (fun z => nomatch z), fun _ => ⟨rfl, ?_⟩⟩
          have h := h ρ' H' σ' e r' en'
          rw [tnt_lo (hlo.2 c c2)] at h
          exact h
        · rw [decide_eq_false c2] at h
          exact False.elim h
    | nx s G' => rw [q] at h; exact h
    | brk s G' => rw [q] at h; exact h
    | cnt s G' => rw [q] at h; exact h
    | ret v G' => rw [q] at h; exact h
    | bad => rw [q] at h; exact h
theorem ls_tryOnlyZ (O : Own X) (hF : lk.Free) (hlo : ∀ c ∈ os, ¬ c < 1000) (hc : Names X x (.ref C))
    (hk : ∀ c ∈ ks, PySem.W.exmOne X.K (lk.EV c) (.ref C) = some true) (ho : ∀ c ∈ os, PySem.W.exmOne X.K (lk.EV c) (.ref C) = some false)
    (hb : ∀ pn xe, PassesOwn (model X.prog X.w) X.A X.env xe → LSs (X.tr pn xe) lk body ex)
    (hsu : ∀ c ∈ ks, ∀ a oe pn, Zc (lk.EV c) none oe → (∃ vs, oe.data = .fields vs) → LSs (X.suite a ((a, oe) :: pn)) (lk.p (Held none a)) (b₀ :: suite) (exh c)) :
    LS X lk (.Try body [.ExceptHandler (some (.Name x np)) none (b₀ :: suite) pos'] [] [] pos) (tryE ex exh ks os none) := by
  refine ps_imp (ps_try_only (tb := fun W D σ H => liftS X.K lk (fun cls _ σ H => W cls none σ H) ex D σ H)
    (ts := fun a cls d D σ H => ∃ c, c ∈ ks ∧ cls = lk.EV c ∧ d = none ∧ liftS X.K lk W0 (exh c) D σ H) (Wout := (fun cls d σ H => d = none ∧ WXo X cls (some 0) σ H)) O.1 O.2 hc (takes_z X)
    (fun W pn xe tk hp => pss_imp (hb pn xe hp) fun D σ H h => liftS_imp h fun c σ H' z => wx_z tk z)
    (fun a oe cls d pn hz hf => ⟨fun pins s σ H D I ⟨c, hc, e1, e2, h⟩ => ?_⟩)) fun D σ H ⟨ρ, G, s, r, en, h⟩ => ⟨ρ, G, s, r, en, ?_⟩
  · subst e1
    subst e2
    obtain ⟨ρ, G, s9, r, en, h⟩ := h
    exact (hsu c hc a oe pn hz hf).run pins s σ H D I ⟨ρ, G, s9, r.cg (.p _), en.cg (.p _) (fun j ej => nomatch ej), h.cg (.p _) hF fun _ _ _ z => z.elim⟩
  · have h : OutS X.K lk (WXo X) ρ G H D ((ex s G).catch fun c s1 G1 => PK.iteK (decide (c ∈ ks)) (fun _ => (exh c (PK.wipeO none s1) G1).clr none) fun _ => PK.iteK (decide (c ∈ os)) (fun _ => .exc c s1 G1) fun _ => .bad) := h
    cases q : ex s G with
    | exc c s1 G1 =>
      rw [q] at h
      have h : OutS X.K lk (WXo X) ρ G H D (PK.iteK (decide (c ∈ ks)) (fun _ => (exh c s1 G1).clr none) fun _ => PK.iteK (decide (c ∈ os)) (fun _ => .exc c s1 G1) fun _ => .bad) := h
      by_cases c1 : c ∈ ks
      · rw [decide_eq_true c1] at h
        have h : OutS X.K lk (WXo X) ρ G H D ((exh c s1 G1).clr none) := h
        exact fun ρ' H' σ' e r' en' => ⟨true, hk c c1, fun _ a _ => ⟨c, c1, rfl, rfl, ρ', G1, s1, r', en', OutS.clrOnly (OutS.ext e h)⟩, (fun z => nomatch z)⟩
      · rw [decide_eq_false c1] at h
        have h : OutS X.K lk (WXo X) ρ G H D (PK.iteK (decide (c ∈ os)) (fun _ => .exc c s1 G1) fun _ => .bad) := h
        by_cases c2 : c ∈ os
        · rw [decide_eq_true c2] at h
          refine fun ρ' H' σ' e r' en' => ⟨false, ho c c2, (fun z => nomatch z), fun _ => ⟨rfl, ?_⟩⟩
          have h := h ρ' H' σ' e r' en'
          rw [tnt_hi (hlo c c2)] at h
          exact h
        · rw [decide_eq_false c2] at h
          exact False.elim h
    | nx s G' => rw [q] at h; exact h
    | brk s G' => rw [q] at h; exact h
    | cnt s G' => rw [q] at h; exact h
    | ret v G' => rw [q] at h; exact h
    | bad => rw [q] at h; exact h
end
def tryxE (ex : Ex) (ks : List Nat) (c : Nat) : Ex := fun s G => (ex s G).catch fun c1 s1 G1 => PK.iteK (decide (c1 ∈ ks)) (fun _ => .exc c s1 G1) fun _ => .bad
theorem ls_tryX {X : Cx} {lk : Lk} {x y m : Str} {C : Addr} {ks : List Nat} {c j : Nat} {body : List Stmt} {ex : Ex} {np p p1 p2 p3 pos pos' : Pos} (O : Own X) (hpa : ∀ hd : Option Value, PassesOwnAt (model X.prog X.w) (X.A.mark hd) X.A X.env X.xe) (hlo : ∀ c ∈ ks, c < 1000) (hc : Names X x (.ref C))
    (hk : ∀ c ∈ ks, PySem.W.exmOne X.K (lk.EV c) (.ref C) = some true) (hb : ∀ pn xe, PassesOwn (model X.prog X.w) X.A X.env xe → LSs (X.tr pn xe) lk body ex)
    (hn : ¬ c < 1000) (hg : Gl X y) (hm : X.mg y = some (.ref (lk.EA (c % 1000)))) (E : ExcK X.K (lk.EA (c % 1000))) (hd : (y == ("__debug__" : Str)) = false) :
    LS X lk (.Try body [.ExceptHandler (some (.Name x np)) none [.Raise (some (.Call (.Name y p) [.Constant (.str m) j p1] [] p2)) none p3] pos'] [] [] pos) (tryxE ex ks c) := by
  refine ps_imp (L2H.ps_try_onlyX (tb := fun W D σ H => liftS X.K lk (fun cls d σ H => d = none ∧ W cls none σ H) ex D σ H)
    (ts := fun a cls d D σ H => WXo X (lk.EV c) (some 0) σ H) (Wout := (fun cls d σ H => d = none ∧ WXo X cls (some 0) σ H)) O.1 O.2 hc hpa (takes_z X)
    (fun W pn xe tk _ hp => pss_imp (hb pn xe hp) fun D σ H h => liftS_imp h fun c σ H' z => by rw [z.1]; exact wx_n tk z.2)
    (fun a oe cls d pn hz hf tk hot => pss_one (ps_imp (L2H.ps_raiseH hot tk (L2N.pmk_own (X := L2H.suiteX X a ((a, oe) :: pn)) PySem.F.excBase_ValueError E.ex hm E.kp (raises_own E.sb E.ty) hg hd)) fun D σ H h => ⟨rfl, h⟩))) fun D σ H ⟨ρ, G, s, r, en, h⟩ => ⟨ρ, G, s, r, en, ?_⟩
  have h : OutS X.K lk (WXo X) ρ G H D ((ex s G).catch fun c1 s1 G1 => PK.iteK (decide (c1 ∈ ks)) (fun _ => .exc c s1 G1) fun _ => .bad) := h
  cases q : ex s G with
  | exc c1 s1 G1 =>
    rw [q] at h
    have h : OutS X.K lk (WXo X) ρ G H D (PK.iteK (decide (c1 ∈ ks)) (fun _ => .exc c s1 G1) fun _ => .bad) := h
    by_cases k : c1 ∈ ks
    · rw [decide_eq_true k] at h
      have h : OutS X.K lk (WXo X) ρ G H D (.exc c s1 G1) := h
      refine fun ρ' H' σ' e r' en' => ⟨tnt_lo (hlo c1 k), true, hk c1 k, fun _ a _ => ?_, (fun z => nomatch z)⟩
      have h := h ρ' H' σ' e r' en'
      rw [tnt_hi hn] at h
      exact h
    · rw [decide_eq_false k] at h
      exact False.elim h
  | nx s G' => rw [q] at h; exact h
  | brk s G' => rw [q] at h; exact h
  | cnt s G' => rw [q] at h; exact h
  | ret v G' => rw [q] at h; exact h
  | bad => rw [q] at h; exact h

section
variable {X : Cx} {lk : Lk} {D a : Addr} {oe : Obj}
theorem held_at {pins : List (Addr × Obj)} {σ : L2.St} {H : Hp} {s : Shared} (hp : (a, oe) ∈ X.pn) (hz : Zc (.ref D) none oe) (hf : ∃ vs, oe.data = .fields vs) (I : Inv X pins σ H s) : PySem.W.InstAt s.heap a oe D none := by
  obtain ⟨hget, _⟩ := I.pin (a, oe) (List.mem_append.mpr (.inl hp))
  obtain ⟨vs, hv⟩ := hf
  obtain ⟨oc, od, oda, osl⟩ := oe
  obtain ⟨h1, h2⟩ := hz
  dsimp only at h1 h2 hv
  subst h1 h2 hv
  exact ⟨hget, rfl, rfl, trivial⟩
theorem call_isH (C : ExcC X.K D) (hp : (a, oe) ∈ X.pn) (hz : Zc (.ref D) none oe) (hf : ∃ vs, oe.data = .fields vs) : CallR X (.builtin "isinstance") (rIsE X.K D a) := by
  intro pins s σ H xs us Q I r h
  obtain ⟨c, cv, b, rfl, hcv, e, q⟩ := h
  obtain ⟨u1, u2, rfl, r1, r2⟩ := vals2 r
  cases (show u1 = Value.ref a from r1)
  have ec := hcv _ r2
  subst ec
  exact PySem.W.kia_one (PySem.W.handS_kitx_exc C.hg C.hk C.hs C.hd C.ha C.hn C.ht C.hm) I.kIn (held_at hp hz hf I) e (fun z => nomatch z) fun tk => ⟨.bl b, H, I.kept (t' := tk) fun _ _ z => z, rfl, q⟩
def rIsET (K : PySem.W.Frag) (D a : Addr) : List V → Hp → VK → Prop := fun xs H Q => ∃ (tp : Addr) (cs : List V) (us : List Value) (b : Bool), xs = [.ref a, .ref tp] ∧ H tp = some (.tup cs) ∧ Paired ClsV cs us ∧ PySem.W.kitAny K (.ref D) us = some b ∧ Q (.bl b) H
theorem call_isHT (C : ExcC X.K D) (hp : (a, oe) ∈ X.pn) (hz : Zc (.ref D) none oe) (hf : ∃ vs, oe.data = .fields vs) : CallR X (.builtin "isinstance") (rIsET X.K D a) := by
  intro pins s σ H xs us Q I r h
  obtain ⟨tp, cs, ws, b, rfl, hT, k, e, q⟩ := h
  obtain ⟨u1, u2, rfl, r1, r2⟩ := vals2 r
  cases (show u2 = Value.ref tp from r2)
  cases (show u1 = Value.ref a from r1)
  obtain ⟨_, its, rv, o, h1, h2, n, h3⟩ := (show ObjOk X.prog X.w H s.heap tp (.tup cs) from I.hok tp _ hT)
  have e3 := ClsV.all k rv
  subst e3
  obtain ⟨oc, od, dt, sl⟩ := o
  simp only at h2 h3
  subst h2 h3
  exact PySem.W.kia_tup (PySem.W.handS_kitx_exc C.hg C.hk C.hs C.hd C.ha C.hn C.ht C.hm) I.kIn (held_at hp hz hf I) h1 e (fun z => nomatch z) fun tk => ⟨.bl b, H, I.tok tk, rfl, q⟩
inductive ClsEs (X : Cx) : List Expr → List Addr → Prop
  | nil : ClsEs X [] []
  | cons {x : Str} {C : Addr} {p : Pos} {es : List Expr} {Cs : List Addr} (hg : Gl X x) (hm : X.mg x = some (.ref C)) (hd : (x == ("__debug__" : Str)) = false) (r : ClsEs X es Cs) : ClsEs X (.Name x p :: es) (C :: Cs)
def tKs : List Addr → TA
  | [] => tNil
  | C :: Cs => tCons (tC (.ref C)) (tKs Cs)
theorem tKs_of {σ : L2.St} {H : Hp} : ∀ {Cs : List Addr} {Q : List V → Hp → Prop}, Q (Cs.map V.ref) H → tKs Cs σ H Q
  | [], _, h => h
  | C :: Cs, Q', h => tKs_of (Cs := Cs) (Q := fun xs H2 => Q' (.ref C :: xs) H2) h
theorem pa_cls {es : List Expr} {Cs : List Addr} (h : ClsEs X es Cs) : PA X es (tKs Cs) := by
  induction h with
  | nil => exact pa_nil
  | cons hg hm hd _ ih => exact pa_cons (pe_glob hg hm rfl hd) ih rfl
theorem paired_cls : ∀ Cs : List Addr, Paired ClsV (Cs.map V.ref) (Cs.map Value.ref)
  | [] => .nil
  | C :: Cs => .cons (.own C) (paired_cls Cs)
variable {i : Nat} {y : Str} {p p1 p2 p3 pos : Pos} {k : Nat}
theorem le_is (C : ExcC X.K D) (hp : (a, oe) ∈ X.pn) (hz : Zc (.ref D) none oe) (hf : ∃ vs, oe.data = .fields vs) (hP : ∀ σ, lk.P σ → Held (some i) a σ) {B : Addr} {z : Str} {b : Bool} (hN : X.N[i]? = some y) (hv : Vis X.env.scope y) (hd : (y == ("__debug__" : Str)) = false) (hcd : (y == ("__classdict__" : Str)) = false)
    (hg : Gl X "isinstance") (hm : X.mg "isinstance" = none) (hg2 : Gl X z) (hm2 : X.mg z = some (.ref B)) (hd2 : (z == ("__debug__" : Str)) = false) (hk : PySem.W.kitOne X.K (.ref D) (.ref B) = some b) :
    LE X lk (.Call (.Name "isinstance" p) [.Name y p1, .Name z p2] [] pos) (fun _ G => .ok (.bl b) G) :=
  pe_imp (pe_callB (call_isH C hp hz hf) hg hm (by decide +kernel) (pa_cons (pe_var hN hv hd hcd) (pa_cons (pe_glob (v := .ref B) hg2 hm2 rfl hd2) pa_nil rfl) rfl) (by decide) (by decide) rfl rfl) fun σ H Q ⟨ρ, G, s, r, en, h⟩ =>
    ⟨.ref a, hP σ en.pr i rfl, .ref B, .ref B, b, rfl, fun u e => e, hk, OutE.here h r rfl⟩
theorem le_isT (C : ExcC X.K D) (hp : (a, oe) ∈ X.pn) (hz : Zc (.ref D) none oe) (hf : ∃ vs, oe.data = .fields vs) (hP : ∀ σ, lk.P σ → Held (some i) a σ) {es : List Expr} {Cs : List Addr} {b : Bool} (hN : X.N[i]? = some y) (hv : Vis X.env.scope y) (hd : (y == ("__debug__" : Str)) = false) (hcd : (y == ("__classdict__" : Str)) = false)
    (hg : Gl X "isinstance") (hm : X.mg "isinstance" = none) (hc : ClsEs X es Cs) (hl : Cs.length ≤ 1000) (hk : PySem.W.kitAny X.K (.ref D) (Cs.map Value.ref) = some b) :
    LE X lk (.Call (.Name "isinstance" p) [.Name y p1, .Tuple es k p2] [] pos) (fun _ G => .ok (.bl b) G) :=
  pe_imp (pe_callB (call_isHT C hp hz hf) hg hm (by decide +kernel) (pa_cons (pe_var hN hv hd hcd) (pa_cons (pe_tup (pa_cls hc)) pa_nil rfl) rfl) (by decide) (by decide) rfl rfl) fun σ H Q ⟨ρ, G, s, r, en, h⟩ =>
    ⟨.ref a, hP σ en.pr i rfl, by
      refine tKs_of ?_
      exact ⟨by rw [List.length_map, sizeLine_eq]; exact Nat.le_trans hl (by decide), fun q hq => ⟨q, _, _, b, rfl, upd_same, paired_cls Cs, hk, h ρ _ _ (Ext.laid hq) (r.other hq) rfl⟩⟩⟩
structure ExcV (K : PySem.W.Frag) (D : Addr) : Prop where
  c : ExcC K D
  v : PySem.W.kitOne K (.ref D) (.type "ValueError") = some true
theorem boot_VE : bootBuiltins (Str.ofString "ValueError") = some (.type "ValueError") := by decide +kernel
theorem le_isV (C : ExcV X.K D) (hp : (a, oe) ∈ X.pn) (hz : Zc (.ref D) none oe) (hf : ∃ vs, oe.data = .fields vs) (hP : ∀ σ, lk.P σ → Held (some i) a σ) (hN : X.N[i]? = some y) (hv : Vis X.env.scope y) (hd : (y == ("__debug__" : Str)) = false) (hcd : (y == ("__classdict__" : Str)) = false)
    (hg : Gl X "isinstance") (hm : X.mg "isinstance" = none) (hg2 : Gl X (Str.ofString "ValueError")) (hm2 : X.mg (Str.ofString "ValueError") = none) :
    LE X lk (.Call (.Name "isinstance" p) [.Name y p1, .Name (Str.ofString "ValueError") p2] [] pos) (fun _ G => .ok (.bl true) G) :=
  pe_imp (pe_callB (call_isH C.c hp hz hf) hg hm (by decide +kernel) (pa_cons (pe_var hN hv hd hcd) (pa_cons (pe_bltn (v := .ty "ValueError") hg2 hm2 boot_VE rfl (by decide +kernel) (by decide +kernel)) pa_nil rfl) rfl) (by decide) (by decide) rfl rfl) fun σ H Q ⟨ρ, G, s, r, en, h⟩ =>
    ⟨.ref a, hP σ en.pr i rfl, .ty "ValueError", .type "ValueError", true, rfl, fun u e => e, C.v, OutE.here h r rfl⟩
end
end PKS
namespace PKS
open PySem PySem.Spec PyProof.Rows L2
structure RoomE (k : Nat) (A : Around) : Prop where
  r : L2H.RoomH k A
  g : A.guards = some []
theorem RoomE.of {k : Nat} {A : Around} (h : RoomG k A) : RoomE k A := ⟨L2H.roomH_of h.r, h.g⟩
theorem RoomE.deeper {k : Nat} {A : Around} (r : RoomE (k + 1) A) (env : Env) : RoomE k (A.deeper env) := ⟨r.r.deeper env, r.g⟩
theorem RoomE.mark {k : Nat} {A : Around} (r : RoomE k A) (h : Option Value) : RoomE k (A.mark h) := ⟨⟨r.r.dp, r.r.un⟩, r.g⟩
structure FnE (P : Program) (w : World) (K : PySem.W.Frag) (mg : Str → Option Value) (base : Heap) (lk : Lk) (k : Nat) (f : Addr) (fd : FuncData) (y : Str) (cls : Value) (d : PK.D) : Prop where
  run : ∀ (A : Around) (outer : List Env) (s : Shared) (H : Hp) (args : Args) (Q : VK) (a : Addr) (oe : Obj) (Z : Addr → Prop) (ρ : Nm) (G : Cells), RoomE k A → L2H.PinOk outer H s (a, oe) → Zc cls none oe → (∃ vs, oe.data = .fields vs) →
    Env0 P w K mg base A outer s H → BindsTo s fd args [(y, .ref a)] → Rel K (lk.w Z) ρ G H → OutE K (lk.w Z) W0 [] ρ G H (.ok d G) Q →
    codeAny (model P w) A (.call (.ref f) args) (CR (CXm P w) outer P w H s Q E0) s
section
variable {X : Cx} {lk : Lk} {k : Nat} {f : Addr} {fd : FuncData} {x y z : Str} {cls : Value} {d : PK.D} {p p1 pos : Pos} {a : Addr} {oe : Obj} {i : Nat}
theorem run_E {pins : List (Addr × Obj)} {σ : L2.St} {H : Hp} {s : Shared} {Q : VK} {ρ : Nm} {G : Cells} (F : FnE X.prog X.w X.K X.mg X.base lk k f fd y cls d) (hr : RoomE k X.A) (hp : (a, oe) ∈ X.pn) (hz : Zc cls none oe) (hf : ∃ vs, oe.data = .fields vs) (hb : Binds X.K fd [y] [])
    (I : Inv X pins σ H s) (r : Rel X.K lk ρ G H) (h : OutE X.K lk W0 [] ρ G H (.ok d G) Q) : wpAny (model X.prog X.w) X.A (call (.ref f) [.ref a]) (EP X pins σ Q) X.xe s := by
  have P1 := I.pin (a, oe) (List.mem_append_left _ hp)
  have hpin : L2H.PinOk X.stack H s (a, oe) := ⟨P1.1, P1.2.1, fun hm => (List.mem_cons.mp (I.stkSub a hm)).elim P1.2.2.1 P1.2.2.2.1, P1.2.2.2.2⟩
  refine wpAny_call (codeAny_mono (F.run X.A X.stack s H ⟨[.ref a], []⟩ Q a oe lk.Z ρ G hr hpin hz hf I.env0 (hb s [.ref a] I.kIn rfl) r h) fun r' s' hq => ?_)
  cases r' with
  | error e =>
    rcases hq with ⟨_, _, _, _, _, _, _, _, _, _, _, _, z⟩ | ⟨_, _, _, _, _, _, _, _, _, _, _, _, z⟩
    · exact False.elim z.2
    · exact False.elim z.2
  | ok fl =>
    cases fl with
    | ret u => exact I.after hq
    | _ => exact False.elim hq
theorem le_E (F : FnE X.prog X.w X.K X.mg X.base lk k f fd y cls d) (hr : RoomE k X.A) (hp : (a, oe) ∈ X.pn) (hz : Zc cls none oe) (hf : ∃ vs, oe.data = .fields vs) (hP : ∀ σ, lk.P σ → Held (some i) a σ) (hb : Binds X.K fd [y] [])
    (hg : Gl X x) (hm : X.mg x = some (.ref f)) (hk : PySem.W.keepIn X.K (.ref f) = true) (hdb : (x == ("__debug__" : Str)) = false) (hN : X.N[i]? = some z) (hv : Vis X.env.scope z) (hd : (z == ("__debug__" : Str)) = false) (hcd : (z == ("__classdict__" : Str)) = false) :
    LE X lk (.Call (.Name x p) [.Name z p1] [] pos) (fun _ G => .ok d G) := by
  refine ⟨fun pins s σ H Q I ⟨ρ, G, s', r, en, h⟩ => wpAny_Call_Name_kw (ld_glob I hg hm ?_ hdb)⟩
  have hh := hP σ en.pr i rfl
  refine PySem.W.callWith_K (h₀ := X.base) I.ok.mod.kin hk (thn ((pa_cons (pe_var hN hv hd hcd) pa_nil rfl : PA X [.Name z p1] _).run pos pins s σ H (fun vs H1 => vs = [.ref a] ∧ H1 = H) I ⟨.ref a, hh, rfl, rfl⟩) fun us s1 ⟨vs, H1, I1, r1, e1, e2⟩ => ⟨I1.kIn, ?_⟩) rfl rfl
  subst e1
  subst e2
  obtain ⟨u, rfl, ru⟩ : ∃ u, us = [u] ∧ RelV (.ref a) u := by
    cases r1 with
    | cons h1 h2 => cases h2; exact ⟨_, rfl, h1⟩
  cases (show u = Value.ref a from ru)
  exact run_E F hr hp hz hf hb I1 r h
end
theorem FnE.p {P : Program} {w : World} {K : PySem.W.Frag} {mg : Str → Option Value} {base : Heap} {lk : Lk} {k : Nat} {f : Addr} {fd : FuncData} {y : Str} {cls : Value} {d : PK.D} (F : FnE P w K mg base lk k f fd y cls d) (R : L2.St → Prop) : FnE P w K mg base (lk.p R) k f fd y cls d :=
  ⟨fun A outer s H args Q a oe Z ρ G hr hp hz hf e0 hb r h =>
    have e1 : Alike ((lk.p R).w Z) (lk.w Z) := ⟨rfl, rfl, rfl⟩
    F.run A outer s H args Q a oe Z ρ G hr hp hz hf e0 hb (r.cg e1) fun ρ' H' x e r p => h ρ' H' x e (r.cg e1.back) (Rep.cg e1.back _ _ p)⟩
theorem FnE.w {P : Program} {w : World} {K : PySem.W.Frag} {mg : Str → Option Value} {base : Heap} {lk : Lk} {k : Nat} {f : Addr} {fd : FuncData} {y : Str} {cls : Value} {d : PK.D} (F : FnE P w K mg base lk k f fd y cls d) (Z0 : Addr → Prop) : FnE P w K mg base (lk.w Z0) k f fd y cls d :=
  ⟨fun A outer s H args Q a oe Z ρ G hr hp hz hf e0 hb r h =>
    have e1 : Alike ((lk.w Z0).w Z) (lk.w Z) := ⟨rfl, rfl, rfl⟩
    F.run A outer s H args Q a oe Z ρ G hr hp hz hf e0 hb (r.cg e1) fun ρ' H' x e r p => h ρ' H' x e (r.cg e1.back) (Rep.cg e1.back _ _ p)⟩
theorem wx_own {X : Cx} {E : XK} {E₁ : Value → Shared → Prop} (hs : X.stack = X.env :: X.outer) (hf : X.env.frame = some X.env.locals) (hex : X.ex = [])
    (hx : X.xe = fun e s' => wpAny (model X.prog X.w) X.A (leaving X.env e) (fun _ s'' => CXm X.prog X.w X.outer X.H_0 X.s_0 E e s'') E₁ s') {cls : Value} {d : Option Addr} {σ : L2.St} {H : Hp} (h : E cls d H) (hd : d = none ∨ d = some 0 := by first | exact .inl rfl | exact .inr rfl) : WXo X cls d σ H := by
  rcases hd with rfl | rfl
  · intro u s' x
    rw [hx]
    refine wpAny_mono (L2N.XE.leave (E := fun cls d H => d = none ∧ E cls none H) (E₁ := E₁) hs hf hex (fun c' d' σ' H' ⟨e1, e2, e3, e4⟩ => ⟨e2, by rw [e1, e4]; exact h⟩) x) (fun _ s'' q => .inl q) fun _ _ q => q
  · intro u s' x
    rw [hx]
    refine wpAny_mono (L2.XE.leave (E := fun cls d H => d = none ∧ E cls (some 0) H) (E₁ := E₁) hs hf hex (fun c' d' σ' H' ⟨e1, e2, e3, e4⟩ => ⟨e2, by rw [e1, e4]; exact h⟩) x) (fun _ s'' q => .inr q) fun _ _ q => q
theorem tnt_two (c : Nat) : tnt c = none ∨ tnt c = some 0 := by unfold tnt; split <;> simp
theorem fn_E {P : Program} {w : World} {K : PySem.W.Frag} {mg : Str → Option Value} {base : Heap} {lk : Lk} {k : Nat} {f : Addr} {name qual : Str} {params : Arguments} {body : List Stmt} {scope : Scope} {dV kV doc pm cdv ct oc : Value} {an od : Option Addr}
    {osl : Array (Option Value)} {N : List Str} {y : Str} {cls : Value} {d : PK.D} (lkf : K.lookup f = some ⟨oc, od, .func (PySem.W.fnOf name qual params body scope dV kV doc pm an cdv ct), osl⟩) (hcd : PySem.W.codeIn K cdv qual = true) (S : FnScope N [y] scope)
    (hbody : ∀ (A : Around) (outer : List Env) (s : Shared) (H : Hp) (Q : VK) (a : Addr) (oe : Obj) (Z : Addr → Prop) (ρ : Nm) (G : Cells), RoomE k (A.deeper (envOfC qual scope s.heap.objs.size f cdv)) → Zc cls none oe → (∃ vs, oe.data = .fields vs) → Rel K (lk.w Z) ρ G H →
      OutE K (lk.w Z) W0 [] ρ G H (.ok d G) Q →
      ∃ t, PSs (L2H.cxH (CXm P w) P w K mg base N qual scope f cdv A outer s H E0 (a, oe)) body t ∧ t { nx := fun _ H' => Q .non H', rt := Q } (L2.start N [.ref a]) H) :
    FnE P w K mg base lk (k + 1) f (PySem.W.fnOf name qual params body scope dV kV doc pm an cdv ct) y cls d := by
  refine ⟨fun A outer s H args Q a oe Z ρ G hr hpin hz hf e0 hb r h => ?_⟩
  obtain ⟨_, walk, z⟩ := hbody A outer s H Q a oe Z ρ G (hr.deeper _) hz hf r h
  exact frame_run (us := [.ref a]) lkf hcd S hr.r.depth e0 hb fun s1 x => thn (walk.run [] s1 _ H _ (L2H.inv_startH (vs := [.ref a]) S hpin e0 rfl (.cons rfl .nil) x) z) fun _ _ h => told rfl rfl rfl rfl rfl rfl rfl h
end PKS
namespace PKS
open PySem PySem.Spec PyProof.Rows L2
section
variable {X : Cx} {pins : List (Addr × Obj)} {σ : L2.St} {H : Hp} {s : Shared}
theorem RoomG.in1 {k : Nat} {A : Around} (r : RoomG (k + 1) A) : RoomG k A.in1 := ⟨r.r.in1, r.g⟩
theorem run_G1 {k : Nat} {f : Addr} {fd : FuncData} {ps : List Str} {sp : Sp} {Q : VK} {us : List Value} {vs : List V} (F : FnG X.prog X.w X.K X.mg X.base k f fd ps sp) (hr : RoomG k X.A.in1) (hb : Binds X.K fd ps [])
    (I : Inv X pins σ H s) (r : Vals vs us) (h : sp vs H Q E0) : wpAny (model X.prog X.w) X.A.in1 (call (.ref f) us) (EP X pins σ Q) (fun _ _ => False) s := by
  have hl : (us ++ []).length = ps.length := by rw [List.append_nil, ← r.length]; exact F.len _ _ _ _ h
  refine wpAny_call (codeAny_mono (F.run X.A.in1 X.stack s H ⟨us, []⟩ (us ++ []) vs Q E0 hr I.env0.in1 (hb s us I.kIn hl) (by rw [List.append_nil]; exact r) h) fun r' s' hq => ?_)
  have z := CR_back I hq
  cases r' with
  | error e => exact z.elim
  | ok fl =>
    cases fl with
    | ret u => exact z
    | _ => exact z.elim
theorem pin_add {a : Addr} {o : Obj} (I : Inv X pins σ H s) (g : s.heap.get? a = some o) (f : FpOk X [] H a) (hc : ∀ v, o.data ≠ .cell v) : Inv X ((a, o) :: pins) σ H s :=
  I.pins_of fun p hp => by
    rcases List.mem_cons.mp hp with rfl | hp
    · exact ⟨g, f.1, f.2.1, f.2.2.1, hc⟩
    · exact I.pin p (List.mem_append_right _ hp)
theorem pin_drop {a : Addr × Obj} (I : Inv X (a :: pins) σ H s) : Inv X pins σ H s := I.pins_of fun p hp => I.pin p (List.mem_append_right _ (List.mem_cons_of_mem _ hp))
structure Mid (X : Cx) (pins : List (Addr × Obj)) (σ : L2.St) (H : Hp) (s : Shared) (T I S : Addr) (i : Nat) (items cs : Array Value) : Prop where
  inv : Inv X pins σ H s
  it : s.heap.IsTupleIter I T i
  tup : s.heap.IsTuple T items
  lst : ∃ c, s.heap.get? S = some (seqObj "list" cs c)
  fT : FpOk X pins H T
  fI : FpOk X pins H I
  fS : FpOk X pins H S
  nTI : T ≠ I
  nTS : T ≠ S
  nIS : I ≠ S
theorem fp_nil {a : Addr} (f : FpOk X pins H a) : FpOk X [] H a := ⟨f.1, f.2.1, f.2.2.1, f.2.2.2.1, f.2.2.2.2.1, fun p hp => f.2.2.2.2.2 p (by
  rcases List.mem_append.mp hp with q | q
  · exact List.mem_append_left _ q
  · cases q)⟩
theorem fp_at {a : Addr} {H' : Hp} (f : FpOk X pins H a) (h : H' a = none) : FpOk X pins H' a := ⟨h, f.2⟩
theorem Mid.turned {T I S : Addr} {i j : Nat} {items cs : Array Value} {h' : Heap} {tk : Nat} (M : Mid X pins σ H s T I S i items cs) (it : h'.IsTupleIter I T j) (k : ∀ b o, b ∉ [I] → s.heap.get? b = some o → h'.get? b = some o) :
    Mid X pins σ H { s with heap := h', toks := tk } T I S j items cs := by
  obtain ⟨c, hS⟩ := M.lst
  obtain ⟨o, e, r⟩ := M.tup
  exact ⟨M.inv.turnedL k (fun b hb => by rw [List.mem_singleton.mp hb]; exact M.fI), it, ⟨o, k T o (by simpa using M.nTI) e, r⟩, ⟨c, k S _ (by simpa using M.nIS.symm) hS⟩, M.fT, M.fI, M.fS, M.nTI, M.nTS, M.nIS⟩
theorem Mid.put {T I S : Addr} {i : Nat} {items cs cs' : Array Value} {h' : Heap} {tk c' : Nat} (M : Mid X pins σ H s T I S i items cs) (g : h'.get? S = some (seqObj "list" cs' c')) (k : ∀ b o, b ∉ [S] → s.heap.get? b = some o → h'.get? b = some o) :
    Mid X pins σ H { s with heap := h', toks := tk } T I S i items cs' := by
  obtain ⟨o, e, r⟩ := M.tup
  obtain ⟨o2, e2, r2⟩ := M.it
  exact ⟨M.inv.turnedL k (fun b hb => by rw [List.mem_singleton.mp hb]; exact M.fS), ⟨o2, k I o2 (by simpa using M.nIS) e2, r2⟩, ⟨o, k T o (by simpa using M.nTS) e, r⟩, ⟨c', g⟩, M.fT, M.fI, M.fS, M.nTI, M.nTS, M.nIS⟩
theorem Mid.call {k : Nat} {f : Addr} {fd : FuncData} {ps : List Str} {sp : Sp} {T I S : Addr} {i : Nat} {items cs : Array Value} {Q : VK} {x : V} {u : Value} {R : Value → Shared → Prop} (M : Mid X pins σ H s T I S i items cs)
    (F : FnG X.prog X.w X.K X.mg X.base k f fd ps sp) (hr : RoomG k X.A.in1) (hb : Binds X.K fd ps []) (rx : RelV x u) (h : sp [x] H Q E0)
    (done : ∀ v w s' H', Mid X pins σ H' s' T I S i items cs → RelV v w → Q v H' → R w s') : wpAny (model X.prog X.w) X.A.in1 (call (.ref f) [u]) R (fun _ _ => False) s := by
  obtain ⟨c, hS⟩ := M.lst
  obtain ⟨oT, eT, cT, nT, dT⟩ := M.tup
  obtain ⟨oI, eI, cI, dI⟩ := M.it
  have I1 : Inv X ((T, oT) :: (I, oI) :: (S, seqObj "list" cs c) :: pins) σ H s := by
    refine pin_add (pin_add (pin_add M.inv hS (fp_nil M.fS) fun v z => ?_) eI (fp_nil M.fI) fun v z => ?_) eT (fp_nil M.fT) fun v z => ?_
    · cases z
    · rw [dI] at z; cases z
    · rw [dT] at z; cases z
  refine wpAny_mono (run_G1 F hr hb I1 (.cons rx .nil) h) (fun w s' hq => ?_) fun _ _ hF => hF
  obtain ⟨v, H', I2, rv, q⟩ := hq
  have pT := I2.pin (T, oT) (List.mem_append_right _ (by simp))
  have pI := I2.pin (I, oI) (List.mem_append_right _ (by simp))
  have pS := I2.pin (S, seqObj "list" cs c) (List.mem_append_right _ (by simp))
  exact done v w s' H' ⟨pin_drop (pin_drop (pin_drop I2)), ⟨oI, pI.1, cI, dI⟩, ⟨oT, pT.1, cT, nT, dT⟩, ⟨c, pS.1⟩, fp_at M.fT pT.2.1, fp_at M.fI pI.2.1, fp_at M.fS pS.2.1, M.nTI, M.nTS, M.nIS⟩ rv q
def ltKey (j : Int) (u : Str) (i : Int) (z : Str) : Bool := decide (j < i) || (decide (j = i) && decide (u.cps.toList < z.cps.toList))
theorem cmp_keys {a1 a2 : Addr} {i j : Int} {z u : Str} (I : Inv X pins σ H s) (h1 : SqT X.K H a1 [.int i, .str z]) (h2 : SqT X.K H a2 [.int j, .str u]) (hu : X.A.in1.in1.units < cLine) (hu2 : X.A.in1.units < cLine) :
    Ob.RcOp .Lt X.A.in1 s (.ref a2) (.ref a1) (ltKey j u i z) ∧ Ob.RcOp .Gt X.A.in1 s (.ref a2) (.ref a1) (ltKey i z j u) := by
  obtain ⟨its1, r1, p1, _⟩ := I.tuple h1
  obtain ⟨its2, r2, p2, _⟩ := I.tuple h2
  cases r1 with
  | cons e1 r1 => cases r1 with
    | cons e2 r1 => cases r1 with
      | nil => cases r2 with
        | cons f1 r2 => cases r2 with
          | cons f2 r2 => cases r2 with
            | nil =>
              obtain ⟨t1, rfl⟩ := e1
              obtain ⟨t2, rfl⟩ := e2
              obtain ⟨t3, rfl⟩ := f1
              obtain ⟨t4, rfl⟩ := f2
              have lt_irr : ∀ l : List Nat, ¬ l < l := fun l => List.lt_irrefl l
              constructor
              · have := Ob.RcOp.tuples_lt (A := X.A.in1) (s := s) (e := fun n => if n = 0 then (j == i) else (u == z)) (r := fun n => if n = 0 then decide (j < i) else decide (u.cps.toList < z.cps.toList)) p2 p1 hu2
                  (fun n n1 n2 => by
                    have : n = 0 ∨ n = 1 := by simp at n1; omega
                    rcases this with rfl | rfl
                    · exact SeqAt.EqAt.int_int j t3 i t1
                    · exact SeqAt.EqAt.str_str u t4 z t2)
                  (fun n n1 n2 _ => by
                    have : n = 0 ∨ n = 1 := by simp at n1; omega
                    rcases this with rfl | rfl
                    · exact Ob.RcOp.lt_int j i t3 t1
                    · exact fun _ _ _ _ h => lt_str h)
                have e : ltKey j u i z = Ob.lexAt (fun n => if n = 0 then (j == i) else (u == z)) (fun n => if n = 0 then decide (j < i) else decide (u.cps.toList < z.cps.toList)) (decide ((#[Value.int j t3, .str u t4] : Array Value).size < (#[Value.int i t1, .str z t2] : Array Value).size)) 0 2 := by
                  unfold ltKey
                  rw [Ob.lexAt_succ, Ob.lexAt_succ, Ob.lexAt_zero]
                  by_cases c1 : j = i
                  · subst c1
                    by_cases c2 : u = z
                    · subst c2; simp [lt_irr]
                    · simp [c2]
                  · simp [c1]
                rw [e]
                exact this
              · have := Ob.RcOp.tuples_gt (A := X.A.in1) (s := s) (e := fun n => if n = 0 then (j == i) else (u == z)) (r := fun n => if n = 0 then decide (i < j) else decide (z.cps.toList < u.cps.toList)) p2 p1 hu2
                  (fun n n1 n2 => by
                    have : n = 0 ∨ n = 1 := by simp at n1; omega
                    rcases this with rfl | rfl
                    · exact SeqAt.EqAt.int_int j t3 i t1
                    · exact SeqAt.EqAt.str_str u t4 z t2)
                  (fun n n1 n2 _ => by
                    have : n = 0 ∨ n = 1 := by simp at n1; omega
                    rcases this with rfl | rfl
                    · exact Ob.RcOp.gt_int j i t3 t1
                    · exact fun _ _ _ _ h => PySem.P.gt_str h)
                have e : ltKey i z j u = Ob.lexAt (fun n => if n = 0 then (j == i) else (u == z)) (fun n => if n = 0 then decide (i < j) else decide (z.cps.toList < u.cps.toList)) (decide ((#[Value.int i t1, .str z t2] : Array Value).size < (#[Value.int j t3, .str u t4] : Array Value).size)) 0 2 := by
                  unfold ltKey
                  rw [Ob.lexAt_succ, Ob.lexAt_succ, Ob.lexAt_zero]
                  by_cases c1 : j = i
                  · subst c1
                    by_cases c2 : u = z
                    · subst c2; simp [lt_irr]
                    · simp [c2]
                  · have c1' : ¬ i = j := fun h => c1 h.symm
                    simp [c1, c1']
                rw [e]
                exact this


section
variable {prog : Program} {w : World} {A : Around} {s : Shared} {It f S : Addr} {R : Result → Shared → Prop}
abbrev onward (prog : Program) (w : World) (A : Around) (lp : String) (It f S : Addr) (R : Result → Shared → Prop) (s : Shared) : Prop := codeAny (model prog w) A (.builtin lp ⟨[.ref It, .ref f, .ref S], []⟩) R s
abbrev lays (S : Addr) (x k : Value) (s : Shared) : Shared := { s with heap := s.heap.update S (Obj.mapSeq fun _ => #[x, k]) }
abbrev pair (cs : Array Value) (S : Addr) (s : Shared) : Prop := ∃ c, s.heap.get? S = some (seqObj "list" cs c)
theorem min_first (hS : pair #[] S s) (next : wpAny (model prog w) A.in1 (pyNext (.ref It)) (fun r s1 => ∃ v, r = some v ∧ wpAny (model prog w) A.in1 (call (.ref f) [v]) (fun k s2 => pair #[] S s2 ∧ onward prog w A "min.loop" It f S R (lays S v k s2)) nowhere s1) nowhere s) :
    onward prog w A "min.loop" It f S R s := by
  obtain ⟨c, hS⟩ := hS
  refine codeAny_builtin F.entry_min_loop (Around.under_plainId F.plain_min_loop ⟨[.ref It, .ref f, .ref S], []⟩ ▸ wpAny_bind (wpAny_seqItems hS rfl (wpAny_bind (wpAny_tryCatch (wpAny_mono next ?_ fun _ _ z => z.elim)))))
  rintro _ s1 ⟨v, rfl, look⟩
  refine wpAny_bind (wpAny_tryCatch (wpAny_holding (wpAny_mono look ?_ fun _ _ z => z.elim)))
  rintro k s2 ⟨⟨c, at2⟩, go⟩
  exact wpAny_bind (wpAny_updateSeq at2 rfl (wpAny_pure ⟨plainId_quiet F.plain_min_loop _, go⟩))
theorem min_next {x kx : Value} (hS : pair #[x, kx] S s)
    (next : wpAny (model prog w) A.in1 (pyNext (.ref It)) (fun r s1 => ∃ v, r = some v ∧ wpAny (model prog w) A.in1 (call (.ref f) [v]) (fun k s2 => ∃ better, pair #[x, kx] S s2 ∧ (∀ {Q : Value → Shared → Prop} {E : Value → Shared → Prop}, Q (.bool better) s2 → wpAny (model prog w) A.in1 (richCompare .Lt k kx) Q E s2) ∧
      onward prog w A "min.loop" It f S R (if better then lays S v k s2 else s2)) nowhere s1) nowhere s) : onward prog w A "min.loop" It f S R s := by
  obtain ⟨c, hS⟩ := hS
  refine codeAny_builtin F.entry_min_loop (Around.under_plainId F.plain_min_loop ⟨[.ref It, .ref f, .ref S], []⟩ ▸ wpAny_bind (wpAny_seqItems hS rfl (wpAny_bind (wpAny_tryCatch (wpAny_mono next ?_ fun _ _ z => z.elim)))))
  rintro _ s1 ⟨v, rfl, look⟩
  refine wpAny_bind (wpAny_tryCatch (wpAny_holding (wpAny_mono look ?_ fun _ _ z => z.elim)))
  rintro k s2 ⟨better, ⟨c, at2⟩, cmp, go⟩
  refine wpAny_bind (wpAny_tryCatch (wpAny_holding (wpAny_bind (cmp (wpAny_bind (wpAny_holding (wpAny_truthy_bool (wpAny_bind (wpAny_letGo (wpAny_pure ?_))))))))))
  have quiet := plainId_quiet F.plain_min_loop ⟨[.ref It, .ref f, .ref S], []⟩
  cases better with
  | true => exact wpAny_bind (wpAny_updateSeq at2 rfl (wpAny_bind (wpAny_letGo (wpAny_pure ⟨quiet, go⟩))))
  | false => exact wpAny_bind (wpAny_letGo (wpAny_pure ⟨quiet, go⟩))
theorem min_last {x kx : Value} (hS : pair #[x, kx] S s) (next : wpAny (model prog w) A.in1 (pyNext (.ref It)) (fun r s1 => r = none ∧ pair #[x, kx] S s1 ∧ R (.ok (.ret x)) { s1 with heap := s1.heap.update S (Obj.mapSeq fun _ => #[]) }) nowhere s) : onward prog w A "min.loop" It f S R s := by
  obtain ⟨c, hS⟩ := hS
  refine codeAny_builtin F.entry_min_loop (Around.under_plainId F.plain_min_loop ⟨[.ref It, .ref f, .ref S], []⟩ ▸ wpAny_bind (wpAny_seqItems hS rfl (wpAny_bind (wpAny_tryCatch (wpAny_mono next ?_ fun _ _ z => z.elim)))))
  rintro _ s1 ⟨rfl, ⟨c, at1⟩, r⟩
  exact wpAny_bind (wpAny_updateSeq at1 rfl (wpAny_bind (wpAny_letGo (wpAny_pure r))))
theorem min_begins {ux uy : Value} {E : Value → Shared → Prop} {Q : Value → Shared → Prop}
    (k : onward prog w A "min.loop" (s.heap.objs.size + 1) f (s.heap.objs.size + 2) (fun r s' => match r with | .ok (.ret v) => Q v s' | .ok _ => False | .error e => E e s')
      { s with heap := ((s.heap.push { cls := .type "tuple", data := .seq #[ux, uy] }).push { cls := .type "tuple_iterator", data := .fields #[.ref s.heap.objs.size, .int 0 0] }).push (seqObj "list" #[] 0) }) :
    wpAny (model prog w) A (call (.builtin "min") [ux, uy] [(Str.ofString "key", .ref f)]) Q E s := by
  have tup : (s.heap.push { cls := .type "tuple", data := .seq #[ux, uy] }).IsTuple s.heap.objs.size #[ux, uy] := ⟨_, Heap.get?_push_size _ rfl, rfl, 0, rfl⟩
  have args : argsOk "min" ⟨[ux, uy], [(Str.ofString "key", .ref f)]⟩ := by unfold argsOk; kernel_rfl
  have bound : Builtin.Builtins.bindParams "min" ["key", "default"] 0 ⟨[], [(Str.ofString "key", .ref f)]⟩ = pure [some (.ref f), none] := rfl
  refine kmk_tree F.kind_min F.plain_min F.entry_min args ?_
  show wpAny _ _ (Builtin.Builtins.bindParams "min" ["key", "default"] 0 ⟨[], [(Str.ofString "key", .ref f)]⟩ >>= _) _ _ s
  rw [bound]
  refine wpAny_bind (wpAny_pure (wpAny_bind (m := newTuple [ux, uy]) (wpAny_newObj_type (wpAny_bind (wpAny_pyIter_tuple tup (wpAny_bind (wpAny_newList (wpAny_pure ⟨plainId_quiet F.plain_min_loop _, ?_⟩) (Nat.zero_le _))))))))
  have z : ∀ (h : Heap) (o : Obj), (h.push o).objs.size = h.objs.size + 1 := fun h o => Heap.size_push ..
  rw [z, z, z]
  exact k
theorem max_first (hS : pair #[] S s) (next : wpAny (model prog w) A.in1 (pyNext (.ref It)) (fun r s1 => ∃ v, r = some v ∧ wpAny (model prog w) A.in1 (call (.ref f) [v]) (fun k s2 => pair #[] S s2 ∧ onward prog w A "max.loop" It f S R (lays S v k s2)) nowhere s1) nowhere s) :
    onward prog w A "max.loop" It f S R s := by
  obtain ⟨c, hS⟩ := hS
  refine codeAny_builtin F.entry_max_loop (Around.under_plainId F.plain_max_loop ⟨[.ref It, .ref f, .ref S], []⟩ ▸ wpAny_bind (wpAny_seqItems hS rfl (wpAny_bind (wpAny_tryCatch (wpAny_mono next ?_ fun _ _ z => z.elim)))))
  rintro _ s1 ⟨v, rfl, look⟩
  refine wpAny_bind (wpAny_tryCatch (wpAny_holding (wpAny_mono look ?_ fun _ _ z => z.elim)))
  rintro k s2 ⟨⟨c, at2⟩, go⟩
  exact wpAny_bind (wpAny_updateSeq at2 rfl (wpAny_pure ⟨plainId_quiet F.plain_max_loop _, go⟩))
theorem max_next {x kx : Value} (hS : pair #[x, kx] S s)
    (next : wpAny (model prog w) A.in1 (pyNext (.ref It)) (fun r s1 => ∃ v, r = some v ∧ wpAny (model prog w) A.in1 (call (.ref f) [v]) (fun k s2 => ∃ better, pair #[x, kx] S s2 ∧ (∀ {Q : Value → Shared → Prop} {E : Value → Shared → Prop}, Q (.bool better) s2 → wpAny (model prog w) A.in1 (richCompare .Gt k kx) Q E s2) ∧
      onward prog w A "max.loop" It f S R (if better then lays S v k s2 else s2)) nowhere s1) nowhere s) : onward prog w A "max.loop" It f S R s := by
  obtain ⟨c, hS⟩ := hS
  refine codeAny_builtin F.entry_max_loop (Around.under_plainId F.plain_max_loop ⟨[.ref It, .ref f, .ref S], []⟩ ▸ wpAny_bind (wpAny_seqItems hS rfl (wpAny_bind (wpAny_tryCatch (wpAny_mono next ?_ fun _ _ z => z.elim)))))
  rintro _ s1 ⟨v, rfl, look⟩
  refine wpAny_bind (wpAny_tryCatch (wpAny_holding (wpAny_mono look ?_ fun _ _ z => z.elim)))
  rintro k s2 ⟨better, ⟨c, at2⟩, cmp, go⟩
  refine wpAny_bind (wpAny_tryCatch (wpAny_holding (wpAny_bind (cmp (wpAny_bind (wpAny_holding (wpAny_truthy_bool (wpAny_bind (wpAny_letGo (wpAny_pure ?_))))))))))
  have quiet := plainId_quiet F.plain_max_loop ⟨[.ref It, .ref f, .ref S], []⟩
  cases better with
  | true => exact wpAny_bind (wpAny_updateSeq at2 rfl (wpAny_bind (wpAny_letGo (wpAny_pure ⟨quiet, go⟩))))
  | false => exact wpAny_bind (wpAny_letGo (wpAny_pure ⟨quiet, go⟩))
theorem max_last {x kx : Value} (hS : pair #[x, kx] S s) (next : wpAny (model prog w) A.in1 (pyNext (.ref It)) (fun r s1 => r = none ∧ pair #[x, kx] S s1 ∧ R (.ok (.ret x)) { s1 with heap := s1.heap.update S (Obj.mapSeq fun _ => #[]) }) nowhere s) : onward prog w A "max.loop" It f S R s := by
  obtain ⟨c, hS⟩ := hS
  refine codeAny_builtin F.entry_max_loop (Around.under_plainId F.plain_max_loop ⟨[.ref It, .ref f, .ref S], []⟩ ▸ wpAny_bind (wpAny_seqItems hS rfl (wpAny_bind (wpAny_tryCatch (wpAny_mono next ?_ fun _ _ z => z.elim)))))
  rintro _ s1 ⟨rfl, ⟨c, at1⟩, r⟩
  exact wpAny_bind (wpAny_updateSeq at1 rfl (wpAny_bind (wpAny_letGo (wpAny_pure r))))
theorem max_begins {ux uy : Value} {E : Value → Shared → Prop} {Q : Value → Shared → Prop}
    (k : onward prog w A "max.loop" (s.heap.objs.size + 1) f (s.heap.objs.size + 2) (fun r s' => match r with | .ok (.ret v) => Q v s' | .ok _ => False | .error e => E e s')
      { s with heap := ((s.heap.push { cls := .type "tuple", data := .seq #[ux, uy] }).push { cls := .type "tuple_iterator", data := .fields #[.ref s.heap.objs.size, .int 0 0] }).push (seqObj "list" #[] 0) }) :
    wpAny (model prog w) A (call (.builtin "max") [ux, uy] [(Str.ofString "key", .ref f)]) Q E s := by
  have tup : (s.heap.push { cls := .type "tuple", data := .seq #[ux, uy] }).IsTuple s.heap.objs.size #[ux, uy] := ⟨_, Heap.get?_push_size _ rfl, rfl, 0, rfl⟩
  have args : argsOk "max" ⟨[ux, uy], [(Str.ofString "key", .ref f)]⟩ := by unfold argsOk; kernel_rfl
  have bound : Builtin.Builtins.bindParams "max" ["key", "default"] 0 ⟨[], [(Str.ofString "key", .ref f)]⟩ = pure [some (.ref f), none] := rfl
  refine kmk_tree F.kind_max F.plain_max F.entry_max args ?_
  show wpAny _ _ (Builtin.Builtins.bindParams "max" ["key", "default"] 0 ⟨[], [(Str.ofString "key", .ref f)]⟩ >>= _) _ _ s
  rw [bound]
  refine wpAny_bind (wpAny_pure (wpAny_bind (m := newTuple [ux, uy]) (wpAny_newObj_type (wpAny_bind (wpAny_pyIter_tuple tup (wpAny_bind (wpAny_newList (wpAny_pure ⟨plainId_quiet F.plain_max_loop _, ?_⟩) (Nat.zero_le _))))))))
  have z : ∀ (h : Heap) (o : Obj), (h.push o).objs.size = h.objs.size + 1 := fun h o => Heap.size_push ..
  rw [z, z, z]
  exact k
end
structure Rounds (prog : Program) (w : World) (A : Around) (lp : String) (op : CmpOp) : Prop where
  first : ∀ {s : Shared} {It f S : Addr} {R : Result → Shared → Prop}, pair #[] S s → wpAny (model prog w) A.in1 (pyNext (.ref It)) (fun r s1 => ∃ v, r = some v ∧ wpAny (model prog w) A.in1 (call (.ref f) [v]) (fun k s2 => pair #[] S s2 ∧ onward prog w A lp It f S R (lays S v k s2)) nowhere s1) nowhere s →
    onward prog w A lp It f S R s
  next : ∀ {s : Shared} {It f S : Addr} {R : Result → Shared → Prop} {x kx : Value}, pair #[x, kx] S s → wpAny (model prog w) A.in1 (pyNext (.ref It)) (fun r s1 => ∃ v, r = some v ∧ wpAny (model prog w) A.in1 (call (.ref f) [v]) (fun k s2 => ∃ yes, pair #[x, kx] S s2 ∧
      (∀ {Q : Value → Shared → Prop} {E : Value → Shared → Prop}, Q (.bool yes) s2 → wpAny (model prog w) A.in1 (richCompare op k kx) Q E s2) ∧ onward prog w A lp It f S R (if yes then lays S v k s2 else s2)) nowhere s1) nowhere s → onward prog w A lp It f S R s
  last : ∀ {s : Shared} {It f S : Addr} {R : Result → Shared → Prop} {x kx : Value}, pair #[x, kx] S s → wpAny (model prog w) A.in1 (pyNext (.ref It)) (fun r s1 => r = none ∧ pair #[x, kx] S s1 ∧ R (.ok (.ret x)) { s1 with heap := s1.heap.update S (Obj.mapSeq fun _ => #[]) }) nowhere s → onward prog w A lp It f S R s
theorem min_rounds {prog : Program} {w : World} {A : Around} : Rounds prog w A "min.loop" .Lt := ⟨min_first, min_next, min_last⟩
theorem max_rounds {prog : Program} {w : World} {A : Around} : Rounds prog w A "max.loop" .Gt := ⟨max_first, max_next, max_last⟩
theorem run_best {lp : String} {op : CmpOp} {lt : Int → Str → Int → Str → Bool} (B : Rounds X.prog X.w X.A lp op)
    (cmp : ∀ {σ : L2.St} {H : Hp} {s : Shared} {a1 a2 : Addr} {i j : Int} {z u : Str}, Inv X pins σ H s → SqT X.K H a1 [.int i, .str z] → SqT X.K H a2 [.int j, .str u] → Ob.RcOp op X.A.in1 s (.ref a2) (.ref a1) (lt i z j u))
    {k : Nat} {f : Addr} {fd : FuncData} {ps : List Str} {sp : Sp} {Q : VK} {x y : V} {ux uy : Value} {E : Value → Shared → Prop} (F : FnG X.prog X.w X.K X.mg X.base k f fd ps sp) (hr : RoomG (k + 1) X.A) (hb : Binds X.K fd ps []) (I0 : Inv X pins σ H s) (rx : RelV x ux) (ry : RelV y uy)
    (h : sp [x] H (fun k1 H1 => sp [y] H1 (fun k2 H2 => ∃ a1 i z a2 j u, k1 = .ref a1 ∧ k2 = .ref a2 ∧ SqT X.K H2 a1 [.int i, .str z] ∧ SqT X.K H2 a2 [.int j, .str u] ∧ Q (if lt i z j u = true then y else x) H2) E0) E0) :
    onward X.prog X.w X.A lp (s.heap.objs.size + 1) f (s.heap.objs.size + 2) (fun r s' => match r with | .ok (.ret v) => EP X pins σ Q v s' | .ok _ => False | .error e => E e s')
      { s with heap := ((s.heap.push { cls := .type "tuple", data := .seq #[ux, uy] }).push { cls := .type "tuple_iterator", data := .fields #[.ref s.heap.objs.size, .int 0 0] }).push (seqObj "list" #[] 0) } := by
  have z : ∀ (h : Heap) (o : Obj), (h.push o).objs.size = h.objs.size + 1 := fun h o => Heap.size_push ..
  have young : ∀ b, s.heap.objs.size ≤ b → FpOk X pins H b := fun b hb => I0.fpOk hb (I0.hok.fresh hb)
  have M0 : Mid X pins σ H { s with heap := ((s.heap.push { cls := .type "tuple", data := .seq #[ux, uy] }).push { cls := .type "tuple_iterator", data := .fields #[.ref s.heap.objs.size, .int 0 0] }).push (seqObj "list" #[] 0) } s.heap.objs.size (s.heap.objs.size + 1) (s.heap.objs.size + 2) 0 #[ux, uy] #[] :=
    { inv := I0.kept (t' := s.toks) fun b o q => Heap.get?_push_of_some _ (Heap.get?_push_of_some _ (Heap.get?_push_of_some _ q))
      it := ⟨_, Heap.get?_push_of_some _ (z s.heap _ ▸ Heap.get?_push_size _ rfl), rfl, rfl⟩
      tup := ⟨_, Heap.get?_push_of_some _ (Heap.get?_push_of_some _ (Heap.get?_push_size _ rfl)), rfl, 0, rfl⟩
      lst := ⟨0, by
        have e : ((s.heap.push { cls := .type "tuple", data := .seq #[ux, uy] }).push { cls := .type "tuple_iterator", data := .fields #[.ref s.heap.objs.size, .int 0 0] }).objs.size = s.heap.objs.size + 2 := by rw [z, z]
        exact e ▸ Heap.get?_push_size _ rfl⟩
      fT := young _ (Nat.le_refl _), fI := young _ (Nat.le_add_right _ _), fS := young _ (Nat.le_add_right _ _), nTI := Nat.ne_of_lt (Nat.lt_succ_self _), nTS := Nat.ne_of_lt (Nat.lt_add_of_pos_right (by decide)), nIS := Nat.ne_of_lt (Nat.lt_succ_self (s.heap.objs.size + 1)) }
  generalize ({ s with heap := ((s.heap.push { cls := .type "tuple", data := .seq #[ux, uy] }).push { cls := .type "tuple_iterator", data := .fields #[.ref s.heap.objs.size, .int 0 0] }).push (seqObj "list" #[] 0) } : Shared) = s3 at M0 ⊢
  generalize s.heap.objs.size + 1 = It at M0 ⊢
  generalize s.heap.objs.size + 2 = S at M0 ⊢
  generalize s.heap.objs.size = T at M0 ⊢
  have W := Walks.tuple (prog := X.prog) (w := X.w) (A := X.A.in1) hr.r.hd It T M0.nTI #[ux, uy]
  have put : ∀ {σ H s} {x k : Value} {i cs}, Mid X pins σ H s T It S i #[ux, uy] cs → Mid X pins σ H (lays S x k s) T It S i #[ux, uy] #[x, k] := fun {σ H s x k i cs} M => by
    obtain ⟨c, q⟩ := M.lst
    have sb := Heap.SameBut.update s.heap S (Obj.mapSeq fun _ => (#[x, k] : Array Value))
    exact M.put (tk := s.toks) (get?_update_seq q fun _ => #[x, k]) fun b o hb e => (sb.2 b fun z => hb (z ▸ List.mem_cons_self)).trans e
  have fin : ∀ {H2 : Hp} {s4 : Shared} {ub k4 : Value} {vb : V}, Mid X pins σ H2 s4 T It S 2 #[ux, uy] #[ub, k4] → RelV vb ub → Q vb H2 → onward X.prog X.w X.A lp It f S (fun r s' => match r with | .ok (.ret v) => EP X pins σ Q v s' | .ok _ => False | .error e => E e s') s4 := fun {H2 s4 ub k4 vb} M r q =>
    B.last M.lst (W.done _ _ _ ⟨M.it, M.tup⟩ fun h' tk same => by
      obtain ⟨c, at4⟩ := M.lst
      have J := M.inv.turnedL (t' := tk) same (Recs.one M.fI)
      have sb := Heap.SameBut.update h' S (Obj.mapSeq fun _ => (#[] : Array Value))
      exact ⟨rfl, ⟨c, same S _ (fun z => M.nIS (List.mem_singleton.mp z).symm) at4⟩, vb, H2, J.turnedL (t' := tk) (fun b o hb e => (sb.2 b fun z => hb (z ▸ List.mem_cons_self)).trans e) (Recs.one M.fS), r, q⟩)
  refine B.first M0.lst (W.item 0 _ _ _ (by simp) ⟨M0.it, M0.tup⟩ fun v h1 tk1 hv st1 same1 => ⟨ux, hv.symm, ?_⟩)
  refine (M0.turned (tk := tk1) st1.1 same1).call F hr.in1 hb rx h fun k1 w1 s1 H1 M1 r1 h1 => ⟨M1.lst, ?_⟩
  have M2 := put (x := ux) (k := w1) M1
  refine B.next M2.lst (W.item 1 _ _ _ (by simp) ⟨M2.it, M2.tup⟩ fun v h2 tk2 hv st2 same2 => ⟨uy, hv.symm, ?_⟩)
  refine (M2.turned (tk := tk2) st2.1 same2).call F hr.in1 hb ry h1 ?_
  rintro _ w2 s2 H2 M3 r2 ⟨a1, i, zz, a2, j, u, rfl, rfl, q1, q2, q⟩
  obtain rfl : w1 = .ref a1 := r1
  obtain rfl : w2 = .ref a2 := r2
  refine ⟨lt i zz j u, M3.lst, fun z => cmp M3.inv q1 q2 _ _ _ _ z, ?_⟩
  cases hl : lt i zz j u with
  | true => exact fin (put M3) ry (by rw [if_pos hl] at q; exact q)
  | false => exact fin M3 rx (by rw [if_neg (by rw [hl]; exact Bool.false_ne_true)] at q; exact q)
theorem key_room {k : Nat} (hr : RoomG (k + 1) X.A) : X.A.in1.in1.units < cLine ∧ X.A.in1.units < cLine := by
  have h := hr.r.un
  have h1 := hr.in1.r.units0
  exact ⟨by show X.A.units + 1 + 1 < _; omega, h1⟩
section
variable {k : Nat} {f : Addr} {fd : FuncData} {ps : List Str} {sp : Sp} {Q : VK} {x y : V} {ux uy : Value} {E : Value → Shared → Prop} (F : FnG X.prog X.w X.K X.mg X.base k f fd ps sp) (hr : RoomG (k + 1) X.A) (hb : Binds X.K fd ps []) (I0 : Inv X pins σ H s) (rx : RelV x ux) (ry : RelV y uy)
include F hr hb I0 rx ry
theorem run_min2 (h : sp [x] H (fun k1 H1 => sp [y] H1 (fun k2 H2 => ∃ a1 i z a2 j u, k1 = .ref a1 ∧ k2 = .ref a2 ∧ SqT X.K H2 a1 [.int i, .str z] ∧ SqT X.K H2 a2 [.int j, .str u] ∧ Q (if ltKey j u i z = true then y else x) H2) E0) E0) :
    wpAny (model X.prog X.w) X.A (call (.builtin "min") [ux, uy] [(Str.ofString "key", .ref f)]) (EP X pins σ Q) E s :=
  min_begins (run_best (lt := fun i z j u => ltKey j u i z) min_rounds (fun I h1 h2 => (cmp_keys I h1 h2 (key_room hr).1 (key_room hr).2).1) F hr hb I0 rx ry h)
theorem run_max2 (h : sp [x] H (fun k1 H1 => sp [y] H1 (fun k2 H2 => ∃ a1 i z a2 j u, k1 = .ref a1 ∧ k2 = .ref a2 ∧ SqT X.K H2 a1 [.int i, .str z] ∧ SqT X.K H2 a2 [.int j, .str u] ∧ Q (if ltKey i z j u = true then y else x) H2) E0) E0) :
    wpAny (model X.prog X.w) X.A (call (.builtin "max") [ux, uy] [(Str.ofString "key", .ref f)]) (EP X pins σ Q) E s :=
  max_begins (run_best (lt := fun i z j u => ltKey i z j u) max_rounds (fun I h1 h2 => (cmp_keys I h1 h2 (key_room hr).1 (key_room hr).2).2) F hr hb I0 rx ry h)
end
end
end PKS
namespace PKS
open PySem PySem.Spec PyProof.Rows L2
def key2D (c : Cl) (m : List Nat) (mx : Bool) (x y : PK.D) (G : Cells) : PK.R := (c m [x] G).safe.bind fun k G3 => (c m [y] G3).safe.bind fun l G4 => PK.optK (PK.ltK mx k l) (fun t => .ok (if t then y else x) G4) .bad
def key2A (c : Cl) (m : List Nat) (mx : Bool) (ds : List PK.D) (G : Cells) : PK.R := match ds with
  | [x, y] => key2D c m mx x y G
  | _ => .bad
def rKey (X : Cx) (mx : Bool) (f : Addr) (sp : Sp) : List V → List V → Hp → VK → Prop := fun vs zs H Q => ∃ x y, vs = [x, y] ∧ zs = [.ref f] ∧
  sp [x] H (fun k1 H1 => sp [y] H1 (fun k2 H2 => ∃ a1 i z a2 j u, k1 = .ref a1 ∧ k2 = .ref a2 ∧ SqT X.K H2 a1 [.int i, .str z] ∧ SqT X.K H2 a2 [.int j, .str u] ∧ Q (if (if mx then ltKey i z j u else ltKey j u i z) = true then y else x) H2) E0) E0
def noStarP (e : Expr) : Prop := ∀ (es : List Expr) (env : Env), starEach (e :: es) env = (false, eval e env) :: starEach es env
def keyN : Bool → String
  | false => "min"
  | true => "max"
section
variable {X : Cx} {lk : Lk} {k : Nat} {f : Addr} {fd : FuncData} {ps : List Str} {sp : Sp} {x fn : Str} {p p2 kpos pos : Pos} {e e2 : Expr} {er : Ev} {cl : Cl} {m : List Nat}
theorem cr_key (mx : Bool) (F : FnG X.prog X.w X.K X.mg X.base k f fd ps sp) (hr : RoomG (k + 1) X.A) (hb : Binds X.K fd ps []) : CallRK X (.builtin (keyN mx)) [Str.ofString "key"] (rKey X mx f sp) := by
  intro pins s σ H xs zs us ws Q I r1 r2 h
  obtain ⟨a, b, rfl, rfl, h⟩ := h
  cases r1 with
  | cons ra r1 => cases r1 with
    | cons rb r1 => cases r1 with
      | nil => cases r2 with
        | cons rf r2 => cases r2 with
          | nil =>
            rename_i w
            obtain rfl : w = Value.ref f := rf
            cases mx with
            | false => exact run_min2 F hr hb I ra rb h
            | true => exact run_max2 F hr hb I ra rb h
theorem pe_key (mx : Bool) (F : FnG X.prog X.w X.K X.mg X.base k f fd ps sp) (hr : RoomG (k + 1) X.A) (hb : Binds X.K fd ps []) (hg : Gl X (Str.ofString (keyN mx))) (hm : X.mg (Str.ofString (keyN mx)) = none) {t : TA} (ha : PA X [e, e2] t)
    (hgf : Gl X fn) (hmf : X.mg fn = some (.ref f)) (hdf : (fn == ("__debug__" : Str)) = false) (s1 : noStarP e) (s2 : noStarP e2) :
    PE X (.Call (.Name (Str.ofString (keyN mx)) p) [e, e2] [⟨some (Str.ofString "key"), .Name fn p2, kpos⟩] pos) (tCKw (rKey X mx f sp) t (tCons (tC (.ref f)) tNil)) := by
  have hk : PK X [⟨some (Str.ofString "key"), .Name fn p2, kpos⟩] (tCons (tC (.ref f)) tNil) := pk_cons (pe_glob hgf hmf rfl hdf) pk_nil
  have st2 : starEach [e2] X.env = [(false, eval e2 X.env)] := s2 [] X.env
  have st1 : starEach [e, e2] X.env = (false, eval e X.env) :: starEach [e2] X.env := s1 [e2] X.env
  cases mx with
  | false => exact pe_callBK (cr_key false F hr hb) hg hm (by decide +kernel) ha hk (by decide +kernel) (by decide +kernel) (by rw [st1]; rfl) (by rw [st1, st2]; rfl)
  | true => exact pe_callBK (cr_key true F hr hb) hg hm (by decide +kernel) ha hk (by decide +kernel) (by decide +kernel) (by rw [st1]; rfl) (by rw [st1, st2]; rfl)

theorem tup2 {K : PySem.W.Frag} {lk : Lk} {ρ : Nm} {n : Nat} {H : Hp} {i : Int} {z : Str} {v : V} (h : Rep K lk ρ n H (.tup [.int i, .str z]) v) : ∃ a, v = .ref a ∧ SqT K H a [.int i, .str z] := by
  obtain ⟨a, vs, rfl, ht, y, ys, rfl, py, z', zs, rfl, pz, rfl⟩ := h
  obtain rfl : y = V.int i := py
  obtain rfl : z' = V.str z := pz
  exact ⟨a, rfl, ht.sq⟩
theorem ltK_some {mx : Bool} {k l : PK.D} {t : Bool} (h : PK.ltK mx k l = some t) : ∃ i z j u, k = .tup [.int i, .str z] ∧ l = .tup [.int j, .str u] ∧ t = (if mx then ltKey i z j u else ltKey j u i z) := by
  unfold PK.ltK at h
  split at h
  · rename_i i z j u
    exact ⟨i, z, j, u, rfl, rfl, by
      have h := Option.some.inj h
      rw [← h]; cases mx <;> rfl⟩
  · cases h
theorem le_key2 (mx : Bool) (F : FnG X.prog X.w X.K X.mg X.base k f fd ps (spC X.K lk cl)) (hr : RoomG (k + 1) X.A) (hb : Binds X.K fd ps []) (hg : Gl X (Str.ofString (keyN mx))) (hm : X.mg (Str.ofString (keyN mx)) = none) (ha : LA X lk [e, e2] er)
    (hgf : Gl X fn) (hmf : X.mg fn = some (.ref f)) (hdf : (fn == ("__debug__" : Str)) = false) (s1 : noStarP e) (s2 : noStarP e2) :
    LE X lk (.Call (.Name (Str.ofString (keyN mx)) p) [e, e2] [⟨some (Str.ofString "key"), .Name fn p2, kpos⟩] pos) (thenA er (key2A cl m mx)) := by
  refine pe_imp (pe_key mx F hr hb hg hm ha hgf hmf hdf s1 s2) fun σ H Q ⟨ρ, G, s, r, en, h⟩ => ⟨ρ, G, s, r, en, OutE.args h fun ds G1 ρ1 H1 xs e1 r1 p1 h1 => ?_⟩
  show rKey X mx f (spC X.K lk cl) xs [.ref f] H1 Q
  match ds, p1, h1 with
  | [], _, h1 => exact h1.elim
  | [_], _, h1 => exact h1.elim
  | _ :: _ :: _ :: _, _, h1 => exact h1.elim
  | [dx, dy], p1, h1 =>
    obtain ⟨x, xs', rfl, px, y, xs'', rfl, py, rfl⟩ := p1
    refine ⟨x, y, rfl, rfl, lk.Z, m, ρ1, G1, [dx], r1, ⟨x, [], rfl, px, rfl⟩, ?_⟩
    have h1 : OutE X.K lk (WXo X) σ ρ1 G1 H1 ((cl m [dx] G1).safe.bind fun k G3 => (cl m [dy] G3).safe.bind fun l G4 => PK.optK (PK.ltK mx k l) (fun t => .ok (if t then dy else dx) G4) .bad) Q := h1
    show OutE X.K lk (fun cls d _ H => E0 cls d H) [] ρ1 G1 H1 (cl m [dx] G1) _
    cases q1 : cl m [dx] G1 with
    | bad => rw [q1] at h1; exact h1.elim
    | exc c G3 => rw [q1] at h1; exact h1.elim
    | ok kk G3 =>
      rw [q1] at h1
      have h1 : OutE X.K lk (WXo X) σ ρ1 G1 H1 ((cl m [dy] G3).safe.bind fun l G4 => PK.optK (PK.ltK mx kk l) (fun t => .ok (if t then dy else dx) G4) .bad) Q := h1
      intro ρ2 H2 v ex2 r2 pk
      refine ⟨lk.Z, m, ρ2, G3, [dy], r2, ⟨y, [], rfl, Rep.ext ex2 _ _ py, rfl⟩, ?_⟩
      show OutE X.K lk (fun cls d _ H => E0 cls d H) [] ρ2 G3 H2 (cl m [dy] G3) _
      cases q2 : cl m [dy] G3 with
      | bad => rw [q2] at h1; exact h1.elim
      | exc c G4 => rw [q2] at h1; exact h1.elim
      | ok ll G4 =>
        rw [q2] at h1
        intro ρ3 H3 w ex3 r3 pl
        have h3 : OutE X.K lk (WXo X) σ ρ1 G1 H1 (PK.optK (PK.ltK mx kk ll) (fun t => .ok (if t then dy else dx) G4) .bad) Q := h1
        clear h1
        cases q3 : PK.ltK mx kk ll with
        | none => rw [q3] at h3; exact h3.elim
        | some t =>
          rw [q3] at h3
          have h4 : ∀ ρ' H' x, Ext ρ1 G1.length H1 ρ' G4.length H' → Rel X.K lk ρ' G4 H' → Rep X.K lk ρ' G4.length H' (if t then dy else dx) x → Q x H' := h3
          clear h3
          obtain ⟨i, z, j, u, rfl, rfl, ht⟩ := ltK_some q3
          obtain ⟨a1, e1', sq1⟩ := tup2 (Rep.ext ex3 _ _ pk)
          obtain ⟨a2, e2', sq2⟩ := tup2 pl
          refine ⟨a1, i, z, a2, j, u, e1', e2', sq1, sq2, ?_⟩
          rw [← ht]
          refine h4 ρ3 H3 _ (ex2.trans ex3) r3 ?_
          cases t with
          | true => exact Rep.ext (ex2.trans ex3) _ _ py
          | false => exact Rep.ext (ex2.trans ex3) _ _ px
end
end PKS
namespace PKS
open PySem PySem.Spec PyProof.Rows L2
open PySem.W (EachIs)
def kOf {α : Type} (b : (Int × Str) × α) : PyData := .tuple [.int b.1.1, .str b.1.2]
open PK (leKV sortKV)
theorem dataLe_kv {α : Type} : PySem.W.dataLe false (kOf (α := α)) = leKV := by
  funext a b
  show (!PySem.W.dataLt (kOf b) (kOf a)) = !PK.ltKS b.1 a.1
  unfold kOf PK.ltKS
  rw [PySem.W.dataLt_pair (by simp [PySem.W.alike]) (by simp [PySem.W.alike]), PySem.W.dataLt_int, PySem.W.dataLt_str]
  by_cases c : b.1.1 = a.1.1
  · by_cases d : b.1.2 = a.1.2
    · simp [c, d, PyData.eqv, List.lt_irrefl]
    · simp [c, d, PyData.eqv]
  · simp [c, PyData.eqv]
def rKeys (sp : Sp) (Q : List V → Hp → Prop) : List V → List V → Hp → Prop
  | [], acc, H => Q acc H
  | x :: xs, acc, H => sp [x] H (fun k H1 => rKeys sp Q xs (acc ++ [k]) H1) E0
def KeysAre (K : PySem.W.Frag) (H : Hp) : List V → List (Int × Str) → Prop
  | [], [] => True
  | k :: ks, i :: is => (∃ a, k = .ref a ∧ SqT K H a [.int i.1, .str i.2]) ∧ KeysAre K H ks is
  | _, _ => False
def rSortK (K : PySem.W.Frag) (f : Addr) (sp : Sp) : List V → List V → Hp → VK → Prop := fun vs zs H Q => ∃ a xs, vs = [.ref a] ∧ zs = [.ref f] ∧ SqL K H a xs ∧
  rKeys sp (fun ks H1 => ∃ is, KeysAre K H1 ks is ∧ ∀ p, H1 p = none → Q (.ref p) (upd H1 p (.lst (sortKV is xs)))) xs [] H
section
variable {X : Cx} {pins : List (Addr × Obj)} {σ : L2.St} {H : Hp} {s : Shared}
theorem RoomG.in2 {k : Nat} {A : Around} (r : RoomG (k + 1) A) : RoomG k A.in1.in1 := ⟨⟨r.r.hd, by have := r.r.dp; show A.depth + 3 * k + 5 < _; omega, by have := r.r.un; show A.units + 1 + 1 + 16 * k + 200 < _; omega⟩, r.g⟩
theorem run_G2 {k : Nat} {f : Addr} {fd : FuncData} {ps : List Str} {sp : Sp} {Q : VK} {us : List Value} {vs : List V} (F : FnG X.prog X.w X.K X.mg X.base k f fd ps sp) (hr : RoomG k X.A.in1.in1) (hb : Binds X.K fd ps [])
    (I : Inv X pins σ H s) (r : Vals vs us) (h : sp vs H Q E0) : wpAny (model X.prog X.w) X.A.in1.in1 (call (.ref f) us) (EP X pins σ Q) (fun _ _ => False) s := by
  have hl : (us ++ []).length = ps.length := by rw [List.append_nil, ← r.length]; exact F.len _ _ _ _ h
  refine wpAny_call (codeAny_mono (F.run X.A.in1.in1 X.stack s H ⟨us, []⟩ (us ++ []) vs Q E0 hr I.env0.in1.in1 (hb s us I.kIn hl) (by rw [List.append_nil]; exact r) h) fun r' s' hq => ?_)
  have z := CR_back I hq
  cases r' with
  | error e => exact z.elim
  | ok fl =>
    cases fl with
    | ret u => exact z
    | _ => exact z.elim
structure MidS (X : Cx) (pins : List (Addr × Obj)) (σ : L2.St) (H : Hp) (s : Shared) (D S : Addr) (e1 : Nat) (cs : Array Value) : Prop where
  inv : Inv X pins σ H s
  lst : ∃ c, s.heap.get? S = some (seqObj "list" cs c)
  dat : s.heap.get? D = some (seqObj "list" #[] e1)
  fD : FpOk X pins H D
  fS : FpOk X pins H S
  ne : S ≠ D
theorem MidS.call {k : Nat} {f : Addr} {fd : FuncData} {ps : List Str} {sp : Sp} {D S : Addr} {e1 : Nat} {cs : Array Value} {Q : VK} {x : V} {u : Value} {R : Value → Shared → Prop} (M : MidS X pins σ H s D S e1 cs)
    (F : FnG X.prog X.w X.K X.mg X.base k f fd ps sp) (hr : RoomG k X.A.in1.in1) (hb : Binds X.K fd ps []) (rx : RelV x u) (h : sp [x] H Q E0)
    (done : ∀ v w s' H', MidS X pins σ H' s' D S e1 cs → RelV v w → Q v H' → R w s') : wpAny (model X.prog X.w) X.A.in1.in1 (call (.ref f) [u]) R (fun _ _ => False) s := by
  obtain ⟨c, hS⟩ := M.lst
  have I1 : Inv X ((D, seqObj "list" #[] e1) :: (S, seqObj "list" cs c) :: pins) σ H s := by
    refine pin_add (pin_add M.inv hS (fp_nil M.fS) fun v z => ?_) M.dat (fp_nil M.fD) fun v z => ?_
    · cases z
    · cases z
  refine wpAny_mono (run_G2 F hr hb I1 (.cons rx .nil) h) (fun w s' hq => ?_) fun _ _ hF => hF
  obtain ⟨v, H', I2, rv, q⟩ := hq
  have pD := I2.pin (D, seqObj "list" #[] e1) (List.mem_append_right _ (by simp))
  have pS := I2.pin (S, seqObj "list" cs c) (List.mem_append_right _ (by simp))
  exact done v w s' H' ⟨pin_drop (pin_drop I2), ⟨c, pS.1⟩, pD.1, fp_at M.fD pD.2.1, fp_at M.fS pS.2.1, M.ne⟩ rv q
theorem MidS.put {D S : Addr} {e1 c' : Nat} {cs cs' : Array Value} {h' : Heap} {tk : Nat} (M : MidS X pins σ H s D S e1 cs) (g : h'.get? S = some (seqObj "list" cs' c')) (k : ∀ b o, b ∉ [S] → s.heap.get? b = some o → h'.get? b = some o) :
    MidS X pins σ H { s with heap := h', toks := tk } D S e1 cs' :=
  ⟨M.inv.turnedL k (fun b hb => by rw [List.mem_singleton.mp hb]; exact M.fS), ⟨c', g⟩, k D _ (by simpa using M.ne.symm) M.dat, M.fD, M.fS, M.ne⟩
theorem adopt {D S : Addr} {o : HO} {h' : Heap} {t' : Nat} (I : Inv X pins σ H s) (f : FpOk X pins H D) (fS : FpOk X pins H S) (k : ∀ b u, b ≠ D → b ≠ S → s.heap.get? b = some u → h'.get? b = some u) (new : ObjOk X.prog X.w (upd H D o) h' D o) :
    Inv X pins σ (upd H D o) { s with heap := h', toks := t' } := by
  have nD : ∀ b u, H b = some u → b ≠ D := fun b u e z => by rw [z, f.1] at e; cases e
  have nS : ∀ b u, H b = some u → b ≠ S := fun b u e z => by rw [z, fS.1] at e; cases e
  have both : ∀ b, b ∉ [D, S] → b ≠ D ∧ b ≠ S := fun b hb => ⟨fun z => hb (by simp [z]), fun z => hb (by simp [z])⟩
  refine I.step (g' := s.gens) (d' := s.drawn) (ch := [D, S]) (fun b hb => ?_) (fun b u _ _ hc e _ => k b u (both b hc).1 (both b hc).2 e) (fun b u _ _ hc e _ => ⟨u.slots, k b u (both b hc).1 (both b hc).2 e⟩)
    (fun b u hc e n => by rw [upd_ne (both b hc).1]; exact n) (fun b u hc e => ⟨u, k b u (both b hc).1 (both b hc).2 e⟩) (fun b xs e => by rw [upd_ne (nD _ _ e)]; exact e) (fun b u v e => by rw [upd_ne (nD _ _ e)]; exact e) (fun b ps e => ⟨#[], by rw [upd_ne (nD _ _ e), e]; simp⟩) (fun m hm => ?_) (fun b u e => ?_) I.bare
  · rcases List.mem_cons.mp hb with rfl | hb
    · exact ⟨f.2.2.2.1, f.2.1, f.2.2.2.2.1, f.2.2.2.2.2⟩
    · rw [List.mem_singleton.mp hb]; exact ⟨fS.2.2.2.1, fS.2.1, fS.2.2.2.2.1, fS.2.2.2.2.2⟩
  · obtain ⟨o2, es, ep, ho, r⟩ := hm
    exact ⟨o2, es, ep, k _ o2 (fun z => f.2.1 z.symm) (fun z => fS.2.1 z.symm) ho, r⟩
  · by_cases hb : b = D
    · subst hb; rw [upd_same] at e; cases e; exact new
    · rw [upd_ne hb] at e
      exact (I.hok b u e).stay (fun c v q z => k c v (fun y => q.elim (fun r => hb (r.symm.trans y)) fun r => nD _ _ r y) (fun y => q.elim (fun r => nS _ _ e (r.symm.trans y)) fun r => nS _ _ r y) z) (fun c q => by rw [upd_ne (nD _ _ q)]; exact q) fun c xs q => by rw [upd_ne (nD _ _ q)]; exact q
theorem keys_snoc {K : PySem.W.Frag} : ∀ {ks : List V} {is : List (Int × Str)} {vs : List Value}, KeysAre K H ks is → Vals ks vs → X.K = K → Inv X pins σ H s →
    EachIs (fun v d => ∃ as, Reads s.heap v d as) vs (is.map fun i => PyData.tuple [.int i.1, .str i.2])
  | [], [], _, _, .nil, _, _ => .nil
  | k :: ks, i :: is, _, h, .cons r rs, e, I => by
    obtain ⟨⟨a, rfl, sq⟩, h⟩ := h
    subst e
    obtain ⟨its, rv, ⟨o, ho, hc, n, hd⟩, z⟩ := I.tuple sq
    obtain rfl := r
    refine .cons ⟨[] ++ ([] ++ []), .tuple ho hc hd ?_⟩ (keys_snoc h rs rfl I)
    cases rv with
    | cons e1 rv => cases rv with
      | cons e2 rv => cases rv with
        | nil =>
          obtain ⟨t1, rfl⟩ := e1
          obtain ⟨t2, rfl⟩ := e2
          exact .cons (.int _ _) (.cons (.str _ _) .nil)
  | [], _ :: _, _, h, _, _, _ => h.elim
  | _ :: _, [], _, h, _, _, _ => h.elim
theorem keys_len {K : PySem.W.Frag} : ∀ {ks : List V} {is : List (Int × Str)}, KeysAre K H ks is → ks.length = is.length
  | [], [], _ => rfl
  | _ :: _, _ :: _, h => by rw [List.length_cons, List.length_cons, keys_len h.2]
  | [], _ :: _, h => h.elim
  | _ :: _, [], h => h.elim
theorem vals_at : ∀ {xs : List V} {us : List Value}, Vals xs us → ∀ (j : Nat) {x : V} {u : Value}, xs[j]? = some x → us[j]? = some u → RelV x u
  | _, _, .nil, j, _, _, h, _ => by simp at h
  | _, _, .cons r rs, 0, _, _, h1, h2 => by
    cases h1; cases h2; exact r
  | _, _, .cons r rs, j + 1, _, _, h1, h2 => vals_at rs j (by simpa using h1) (by simpa using h2)
theorem zip_is : ∀ {xs : List V} {us : List Value} (is : List (Int × Str)), Vals xs us → is.length = xs.length → EachIs (fun v (b : (Int × Str) × V) => RelV b.2 v) us (is.zip xs)
  | _, _, [], .nil, _ => .nil
  | _, _, i :: is, .cons r rs, h => .cons r (zip_is is rs (by simpa using h))
  | _, _, _ :: _, .nil, h => by simp at h
  | _, _, [], .cons r rs, h => by simp at h
theorem vals_of : ∀ {us : List Value} {bs : List ((Int × Str) × V)}, EachIs (fun v (b : (Int × Str) × V) => RelV b.2 v) us bs → Vals (bs.map (·.2)) us
  | _, _, .nil => .nil
  | _, _, .cons r rs => .cons r (vals_of rs)
theorem run_sortK {k : Nat} {f : Addr} {fd : FuncData} {ps : List Str} {sp : Sp} {Q : VK} {vs : List V} {us : List Value} {E : Value → Shared → Prop} (F : FnG X.prog X.w X.K X.mg X.base k f fd ps sp) (hr : RoomG (k + 1) X.A) (hb : Binds X.K fd ps [])
    (I0 : Inv X pins σ H s) (r1 : Vals vs us) (h : rSortK X.K f sp vs [.ref f] H Q) :
    wpAny (model X.prog X.w) X.A (call (.builtin "sorted") us [(Str.ofString "key", .ref f)]) (EP X pins σ Q) E s := by
  obtain ⟨l, xs, rfl, -, hs, h⟩ := h
  obtain ⟨its, rv, hl, hz⟩ := I0.list hs
  rw [Vals.ref1 r1]
  have hr2 : RoomG k X.A.in1.in1 := hr.in2
  have hln : its.length = xs.length := rv.length.symm
  refine PySem.W.sorted_of_sort hl.isList (by rw [hln]; exact hz) (ksk_s1 _ _) (fun _ => ksk_l1 _ _) fun E' => ?_
  rw [ksk_t1]
  obtain ⟨D, hD⟩ : ∃ D, D = s.heap.objs.size + 1 := ⟨_, rfl⟩
  rw [← hD]
  obtain ⟨h1, hh1⟩ : ∃ h1, h1 = PySem.W.copyHeap s.heap its := ⟨_, rfl⟩
  rw [← hh1]
  have hDat : h1.get? D = some (seqObj "list" its.toArray 0) := by rw [hh1, hD]; exact PySem.W.copyHeap_at s.heap its
  have old1 : ∀ b o, s.heap.get? b = some o → h1.get? b = some o := fun b o e => by rw [hh1]; exact PySem.W.copyHeap_old e
  unfold ksk_tree
  refine wpAny_bind (listItems_at hDat rfl ?_)
  refine wpAny_bind (listUpdate_at hDat rfl ?_ (by rw [List.size_toArray, hln]; exact hz) (Nat.zero_le _))
  obtain ⟨e1, ho1⟩ : ∃ e1, (h1.update D (Obj.mapSeq fun _ => (#[] : Array Value))).get? D = some (seqObj "list" #[] e1) := ⟨_, get?_update_seq hDat fun _ => #[]⟩
  refine wpAny_bind (seqEpoch_at ho1 rfl ?_)
  refine wpAny_bind (wpAny_newTuple ?_ (by show its.length ≤ _; rw [hln]; exact hz))
  refine wpAny_bind (wpAny_newList ?_ (Nat.zero_le _))
  refine wpAny_holding ?_
  obtain ⟨S, hS⟩ : ∃ S, S = ((h1.update D (Obj.mapSeq fun _ => (#[] : Array Value))).push (seqObj "tuple" its.toArray 0)).objs.size := ⟨_, rfl⟩
  have hS2 : S = h1.objs.size + 1 := by rw [hS, size_push', Heap.size_update]
  have hDlt : D < h1.objs.size := Heap.lt_size hDat
  rw [← hS]
  have M0 : MidS X pins σ H { s with heap := ((h1.update D (Obj.mapSeq fun _ => (#[] : Array Value))).push (seqObj "tuple" its.toArray 0)).push (seqObj "list" #[] 0) } D S e1 #[] := by
    have hD2 : s.heap.objs.size ≤ D := by omega
    have hS3 : s.heap.objs.size ≤ S := by omega
    have hk : ∀ b o, s.heap.get? b = some o → (((h1.update D (Obj.mapSeq fun _ => (#[] : Array Value))).push (seqObj "tuple" its.toArray 0)).push (seqObj "list" #[] 0)).get? b = some o := fun b o e => by
      have hb : b ≠ D := Nat.ne_of_lt (Nat.lt_of_lt_of_le (Heap.lt_size e) hD2)
      exact Heap.get?_push_of_some _ (Heap.get?_push_of_some _ ((Heap.get?_update_ne _ _ _ _ hb).trans (old1 b o e)))
    exact ⟨I0.kept hk, ⟨0, by rw [hS]; exact Heap.get?_push_size _ rfl⟩, Heap.get?_push_of_some _ (Heap.get?_push_of_some _ ho1), I0.fpOk hD2 (I0.hok.fresh hD2), I0.fpOk hS3 (I0.hok.fresh hS3), Nat.ne_of_gt (by rw [hS2]; exact Nat.lt_succ_of_lt hDlt)⟩
  generalize ({ s with heap := ((h1.update D (Obj.mapSeq fun _ => (#[] : Array Value))).push (seqObj "tuple" its.toArray 0)).push (seqObj "list" #[] 0) } : Shared) = s3 at M0 ⊢
  clear hS hS2 hDlt ho1 hDat old1 hh1 hD I0 hs hl
  unfold ksk_rest
  refine wpAny_bind (wpAny_rule ?_)
  first
    | rw [List.forIn_toArray]
    | (rw [← Array.forIn_toList]; simp only [List.toList_toArray])
    | rw [← Array.forIn_toList]
  refine wpAny_bind (ksk_fold (fun i s' => ∃ kA acc H', MidS X pins σ H' s' D S e1 kA ∧ Vals acc kA.toList ∧ acc.length = i ∧ rKeys sp (fun ks H1 => ∃ is, KeysAre X.K H1 ks is ∧ ∀ p, H1 p = none → Q (.ref p) (upd H1 p (.lst (sortKV is xs)))) (xs.drop i) acc H') its 0 s3
    ⟨#[], [], H, M0, .nil, rfl, h⟩ ?step ?done)
  case step =>
    rintro j x s' hx ⟨kA, acc, H', M, ra, la, hq⟩
    rw [Nat.zero_add] at hq la ⊢
    have hj : j < its.length := (List.getElem?_eq_some_iff.mp hx).1
    obtain ⟨y, hy⟩ : ∃ y, xs[j]? = some y := ⟨_, List.getElem?_eq_getElem (by omega)⟩
    have ry : RelV y x := vals_at rv j hy hx
    rw [Srt.drop_at xs j y hy] at hq
    refine wpAny_bind (wpAny_attempt (wpAny_mono (M.call F hr2 hb ry hq fun v w s2 H2 M2 rw2 q2 => ?_) (fun w s2 hw => hw) fun _ _ hF => hF.elim))
    obtain ⟨c, hSc⟩ := M2.lst
    have zk : kA.size ≤ sizeLine := by
      have hh : kA.size = j := by
        have h := Paired.length ra
        rw [la] at h; simpa using h.symm
      rw [hh]; exact Nat.le_trans (Nat.le_of_lt (by omega : j < xs.length)) hz
    refine wpAny_bind (listUpdate_at hSc rfl ?_ zk (Nat.le_trans (Nat.le_of_eq (Array.size_push ..)) (Nat.succ_le_succ zk)))
    have sb := Heap.SameBut.update s2.heap S (Obj.mapSeq (·.push w))
    obtain ⟨c2, hc2⟩ : ∃ c2, (s2.heap.update S (Obj.mapSeq (·.push w))).get? S = some (seqObj "list" (kA.push w) c2) := ⟨_, get?_update_seq hSc (·.push w)⟩
    refine wpAny_pure ⟨rfl, kA.push w, acc ++ [v], H2, M2.put (tk := s2.toks) hc2 fun b o hb e => (sb.2 b (by simpa using hb)).trans e, ?_, by rw [List.length_append, la]; rfl, q2⟩
    rw [Array.toList_push]
    exact ra.append (.cons rw2 .nil)
  case done =>
    rintro s' ⟨kA, acc, H', M, ra, la, hq⟩
    rw [Nat.zero_add] at la
    rw [Nat.zero_add, hln, List.drop_length] at hq
    obtain ⟨is, hk, hq⟩ : ∃ is, KeysAre X.K H' acc is ∧ ∀ p, H' p = none → Q (.ref p) (upd H' p (.lst (sortKV is xs))) := hq
    obtain ⟨c, hSc⟩ := M.lst
    refine wpAny_bind (listItems_at hSc rfl ?_)
    have ek := keys_snoc hk ra rfl M.inv
    have hil : is.length = xs.length := by rw [← keys_len hk, la, hln]
    have ez : (is.map fun i => PyData.tuple [.int i.1, .str i.2]) = (is.zip xs).map kOf := by
      have : is = (is.zip xs).map (·.1) := by rw [List.map_fst_zip (by omega)]
      conv => lhs; rw [this]
      rw [List.map_map]; rfl
    rw [ez] at ek
    have hsz : kA.size = its.length := by
      have h := Paired.length ra
      rw [la] at h; simpa using h.symm
    have al : PySem.W.AllAlike ((is.zip xs).map kOf) := PySem.W.AllAlike.of fun a b => by simp [kOf, PySem.W.alike, PySem.W.alikeAll]
    have sa : PySem.W.Sortable ((is.zip xs).map kOf) := PySem.W.Sortable.tuples fun b => ⟨_, _, rfl⟩
    have dp : ∀ d ∈ (is.zip xs).map kOf, X.A.in1.in1.units + d.depth < cLine := fun d hd => by
      obtain ⟨b, _, rfl⟩ := List.mem_map.mp hd
      have : (kOf b).depth ≤ 1 := by simp [kOf, PyData.depth, PyData.depthAll]
      have := hr2.r.un
      omega
    refine PySem.W.keyH_end (κ := PySem.W.dataKind s'.heap ((is.zip xs).map kOf)) (h₁ := PySem.W.hideAll s'.heap [S]) (fun b o _ e => PySem.W.of_hideAll _ e) (PySem.W.hideAll_none _ (by simp)) hSc M.dat M.ne (PySem.W.SortsAt.data ek al sa dp) hsz (by rw [hln]; exact hz) fun h' tk c' kp hD' => ⟨rfl, ?_⟩
    have ko : PySem.W.KeyedOut false ((is.zip xs).map kOf) its (PySem.W.sortVals (PySem.W.dataKind s'.heap ((is.zip xs).map kOf)) false kA.toList its) := ⟨s'.heap, kA.toList, al, rfl, ek⟩
    have rz : EachIs (fun v b => RelV b.2 v) its (is.zip xs) := zip_is is rv hil
    have eo := PySem.W.keyedOut_each kOf ko rz
    rw [dataLe_kv] at eo
    have ro : Vals (sortKV is xs) (PySem.W.sortVals (PySem.W.dataKind s'.heap ((is.zip xs).map kOf)) false kA.toList its) := vals_of eo
    have lo : (sortKV is xs).length ≤ sizeLine := by
      unfold sortKV; rw [List.length_map, List.length_mergeSort, List.length_zip, hil, Nat.min_self]; exact hz
    refine ⟨.ref D, upd H' D (.lst (sortKV is xs)), ?_, rfl, hq D M.fD.1⟩
    exact adopt M.inv M.fD M.fS (fun b u hb hb2 e => kp b u hb (PySem.W.hideAll_get _ e (by simpa using hb2))) ⟨lo, _, _, ro, hD'⟩
end
end PKS
namespace PKS
open PySem PySem.Spec PyProof.Rows L2
def skeyA (c : Cl) (m : List Nat) (w : Bool) (ds : List PK.D) (G : Cells) : PK.R := match ds with
  | [x] => PK.optK (PK.lstD G x) (fun es => PK.keysF (fun d G => c m [d] G) es G [] fun is G2 => PK.mkl w (PK.sortKV is es) G2) .bad
  | _ => .bad
section
variable {K : PySem.W.Frag} {lk : Lk} {ρ : Nm} {n : Nat} {H : Hp}
theorem reps_pairs : ∀ {ds : List PK.D} {xs : List V}, Reps K lk ρ n H ds xs → ∀ p ∈ ds.zip xs, Rep K lk ρ n H p.1 p.2
  | [], _, _, p, hp => by simp at hp
  | d :: ds, xs, h, p, hp => by
    obtain ⟨x, xs', rfl, h1, h2⟩ := h
    rcases List.mem_cons.mp hp with rfl | hp
    · exact h1
    · exact reps_pairs h2 p hp
theorem reps_of_pairs : ∀ {l : List (PK.D × V)}, (∀ p ∈ l, Rep K lk ρ n H p.1 p.2) → Reps K lk ρ n H (l.map (·.1)) (l.map (·.2))
  | [], _ => rfl
  | p :: l, h => ⟨p.2, l.map (·.2), rfl, h p List.mem_cons_self, reps_of_pairs fun q hq => h q (List.mem_cons_of_mem _ hq)⟩
theorem sortKV_map {α β : Type} (f : α → β) (is : List (Int × Str)) (l : List α) : PK.sortKV is (l.map f) = (PK.sortKV is l).map f := by
  unfold PK.sortKV
  have e : is.zip (l.map f) = (is.zip l).map (fun p => (p.1, f p.2)) := by
    induction is generalizing l with
    | nil => rfl
    | cons i is ih => cases l with
      | nil => rfl
      | cons x l => simp [ih]
  rw [e, ← List.map_mergeSort (r := PK.leKV) (s := PK.leKV) (f := fun p : (Int × Str) × α => (p.1, f p.2)) (fun a _ b _ => rfl), List.map_map, List.map_map]
  rfl
theorem Reps.sorted {ds : List PK.D} {xs : List V} (is : List (Int × Str)) (h : Reps K lk ρ n H ds xs) : Reps K lk ρ n H (PK.sortKV is ds) (PK.sortKV is xs) := by
  have e1 : ds = (ds.zip xs).map (·.1) := (List.map_fst_zip (by rw [Reps.length h]; exact Nat.le_refl _)).symm
  have e2 : xs = (ds.zip xs).map (·.2) := (List.map_snd_zip (by rw [Reps.length h]; exact Nat.le_refl _)).symm
  have hp := reps_pairs h
  generalize ds.zip xs = l at *
  rw [e1, e2, sortKV_map, sortKV_map]
  refine reps_of_pairs fun p hm => hp p ?_
  unfold PK.sortKV at hm
  obtain ⟨q, hq, rfl⟩ := List.mem_map.mp hm
  exact (List.of_mem_zip (List.mem_mergeSort.mp hq)).2
end
section
variable {X : Cx} {lk : Lk} {k : Nat} {f : Addr} {fd : FuncData} {ps : List Str} {sp : Sp} {x fn : Str} {p p2 kpos pos : Pos} {e : Expr} {er : Ev} {cl : Cl} {m : List Nat}
theorem pe_sortK (F : FnG X.prog X.w X.K X.mg X.base k f fd ps sp) (hr : RoomG (k + 1) X.A) (hb : Binds X.K fd ps []) (hg : Gl X (Str.ofString "sorted")) (hm : X.mg (Str.ofString "sorted") = none) {t : TA} (ha : PA X [e] t)
    (hgf : Gl X fn) (hmf : X.mg fn = some (.ref f)) (hdf : (fn == ("__debug__" : Str)) = false) (s1 : noStarP e) :
    PE X (.Call (.Name (Str.ofString "sorted") p) [e] [⟨some (Str.ofString "key"), .Name fn p2, kpos⟩] pos) (tCKw (rSortK X.K f sp) t (tCons (tC (.ref f)) tNil)) := by
  have hk : PK X [⟨some (Str.ofString "key"), .Name fn p2, kpos⟩] (tCons (tC (.ref f)) tNil) := pk_cons (pe_glob hgf hmf rfl hdf) pk_nil
  have st1 : starEach [e] X.env = [(false, eval e X.env)] := s1 [] X.env
  have cr : CallRK X (.builtin "sorted") [Str.ofString "key"] (rSortK X.K f sp) := by
    intro pins s σ H xs zs us ws Q I r1 r2 h
    obtain ⟨a, ys, rfl, rfl, h1, h2⟩ := h
    cases r2 with
    | cons rf r2 => cases r2 with
      | nil =>
        rename_i w
        obtain rfl : w = Value.ref f := rf
        exact run_sortK F hr hb I r1 ⟨a, ys, rfl, rfl, h1, h2⟩
  exact pe_callBK cr hg hm (by decide +kernel) ha hk (by decide +kernel) (by decide +kernel) (by rw [st1]; rfl) (by rw [st1]; rfl)
theorem keyS_some {d : PK.D} {i : Int × Str} (h : PK.keyS d = some i) : d = .tup [.int i.1, .str i.2] := by
  unfold PK.keyS at h
  split at h
  · cases h; rfl
  · cases h
theorem KeysAre.ext {K : PySem.W.Frag} {ρ ρ' : Nm} {n n' : Nat} {H H' : Hp} (e : Ext ρ n H ρ' n' H') : ∀ {ks : List V} {is : List (Int × Str)}, KeysAre K H ks is → KeysAre K H' ks is
  | [], [], _ => trivial
  | k :: ks, i :: is, h => by
    obtain ⟨⟨a, h1, h2⟩, h3⟩ := h
    exact ⟨⟨a, h1, SqT.ext e h2⟩, KeysAre.ext e h3⟩
  | [], _ :: _, h => h.elim
  | _ :: _, [], h => h.elim
theorem KeysAre.snoc {K : PySem.W.Frag} {H : Hp} {a : Addr} {j : Int × Str} (q : SqT K H a [.int j.1, .str j.2]) : ∀ {ks : List V} {is : List (Int × Str)}, KeysAre K H ks is → KeysAre K H (ks ++ [.ref a]) (is ++ [j])
  | [], [], _ => ⟨⟨a, rfl, q⟩, trivial⟩
  | k :: ks, i :: is, h => ⟨h.1, KeysAre.snoc q h.2⟩
  | [], _ :: _, h => h.elim
  | _ :: _, [], h => h.elim
theorem keys_rel {K : PySem.W.Frag} {lk : Lk} {W : WX} {σ : L2.St} {Q : VK} {Qf : List V → Hp → Prop} {kf : List (Int × Str) → Cells → PK.R} {ρ0 : Nm} {n0 : Nat} {H0 : Hp}
    (fin : ∀ ks is ρ1 G1 H1, Ext ρ0 n0 H0 ρ1 G1.length H1 → Rel K lk ρ1 G1 H1 → KeysAre K H1 ks is → OutE K lk W σ ρ1 G1 H1 (kf is G1) Q → Qf ks H1) :
    ∀ (es : List PK.D) (xs : List V) (acc : List V) (ai : List (Int × Str)) (ρ : Nm) (G : Cells) (H : Hp), Ext ρ0 n0 H0 ρ G.length H → Rel K lk ρ G H → Reps K lk ρ G.length H es xs → KeysAre K H acc ai →
      OutE K lk W σ ρ G H (PK.keysF (fun d G => cl m [d] G) es G ai kf) Q → rKeys (spC K lk cl) Qf xs acc H
  | [], xs, acc, ai, ρ, G, H, ex, r, hp, ka, h => by
    rw [show xs = [] from hp]
    exact fin acc ai ρ G H ex r ka h
  | d :: es, xs, acc, ai, ρ, G, H, ex, r, hp, ka, h => by
    obtain ⟨x, xs', rfl, px, hp⟩ := hp
    have h : OutE K lk W σ ρ G H ((cl m [d] G).safe.bind fun x G1 => PK.optK (PK.keyS x) (fun i => PK.keysF (fun d G => cl m [d] G) es G1 (ai ++ [i]) kf) .bad) Q := h
    show spC K lk cl [x] H (fun k H1 => rKeys (spC K lk cl) Qf xs' (acc ++ [k]) H1) E0
    refine ⟨lk.Z, m, ρ, G, [d], r, ⟨x, [], rfl, px, rfl⟩, ?_⟩
    show OutE K lk (fun cls d _ H => E0 cls d H) [] ρ G H (cl m [d] G) _
    refine OutE.safe (W := W) (σ := σ) (h.bind fun v G1 _ ρ1 H1 y e1 r1 p1 h1 => ?_)
    cases q : PK.keyS v with
    | none => rw [q] at h1; exact h1.elim
    | some i =>
      rw [q] at h1
      have h1 : OutE K lk W σ ρ1 G1 H1 (PK.keysF (fun d G => cl m [d] G) es G1 (ai ++ [i]) kf) Q := h1
      rw [keyS_some q] at p1
      obtain ⟨a, rfl, sq⟩ := tup2 p1
      exact keys_rel fin es xs' (acc ++ [.ref a]) (ai ++ [i]) ρ1 G1 H1 (ex.trans e1) r1 (Reps.ext e1 _ _ hp) ((ka.ext e1).snoc sq) h1
theorem le_skey (w : Bool) (F : FnG X.prog X.w X.K X.mg X.base k f fd ps (spC X.K lk cl)) (hr : RoomG (k + 1) X.A) (hb : Binds X.K fd ps []) (hg : Gl X (Str.ofString "sorted")) (hm : X.mg (Str.ofString "sorted") = none) (ha : LA X lk [e] er)
    (hgf : Gl X fn) (hmf : X.mg fn = some (.ref f)) (hdf : (fn == ("__debug__" : Str)) = false) (s1 : noStarP e) :
    LE X lk (.Call (.Name (Str.ofString "sorted") p) [e] [⟨some (Str.ofString "key"), .Name fn p2, kpos⟩] pos) (thenA er (skeyA cl m w)) := by
  refine pe_imp (pe_sortK F hr hb hg hm ha hgf hmf hdf s1) fun σ H Q ⟨ρ, G, s, r, en, h⟩ => ⟨ρ, G, s, r, en, OutE.args h fun ds G1 ρ1 H1 xs e1 r1 p1 h1 => ?_⟩
  show rSortK X.K f (spC X.K lk cl) xs [.ref f] H1 Q
  match ds, p1, h1 with
  | [], _, h1 => exact h1.elim
  | _ :: _ :: _, _, h1 => exact h1.elim
  | [d], p1, h1 =>
    obtain ⟨x, xs', rfl, px, rfl⟩ := p1
    cases q : PK.lstD G1 d with
    | none =>
      have h1 : OutE X.K lk (WXo X) σ ρ1 G1 H1 (PK.optK (PK.lstD G1 d) (fun es => PK.keysF (fun d G => cl m [d] G) es G1 [] fun is G2 => PK.mkl w (PK.sortKV is es) G2) .bad) Q := h1
      rw [q] at h1; exact h1.elim
    | some es =>
      have h1 : OutE X.K lk (WXo X) σ ρ1 G1 H1 (PK.optK (PK.lstD G1 d) (fun es => PK.keysF (fun d G => cl m [d] G) es G1 [] fun is G2 => PK.mkl w (PK.sortKV is es) G2) .bad) Q := h1
      rw [q] at h1
      obtain ⟨a, vs, rfl, ha, hp⟩ := lst_of q r1 px
      refine ⟨a, vs, rfl, rfl, .inl (.inl ha), keys_rel (ρ0 := ρ1) (n0 := G1.length) (H0 := H1) (fun ks is ρ2 G2 H2 ex r2 hk h2 => ⟨is, hk, fun b hb => ?_⟩) es vs [] [] ρ1 G1 H1 Ext.refl r1 hp trivial h1⟩
      exact OutE.mkl h2 r2 ((Reps.ext ex _ _ hp).sorted is) b hb
end
end PKS
namespace PKS
open PySem PySem.Spec PyProof.Rows L2
section
variable {K : PySem.W.Frag} {lk : Lk} {ρ : Nm} {G G' : Cells} {H H' : Hp}
theorem RepC.cut {n m : Nat} {c : PK.Cell} {o : HO} (hm : m ≤ n) (hb : PK.cBel m c) (h : RepC K lk ρ n H c o) : RepC K lk ρ m H c o := by
  cases c with
  | lst ds => obtain ⟨vs, h1, h2⟩ := h; exact ⟨vs, h1, Reps.cut hm _ _ hb h2⟩
  | dK kvs => obtain ⟨vs, h1, h2⟩ := h; exact ⟨vs, h1, h2.1, Reps.cut hm _ _ hb h2.2⟩
  | dT kvs => obtain ⟨vs, h1, h2⟩ := h; exact ⟨vs, h1, h2.1, Reps.cut hm _ _ hb h2.2⟩
  | frK kvs => obtain ⟨vs, od, h1, h2⟩ := h; exact ⟨vs, od, h1, h2.1, Reps.cut hm _ _ hb h2.2⟩
  | ins c ds => obtain ⟨dx, fs, vs, h1, h2, h3, h4⟩ := h; exact ⟨dx, fs, vs, h1, h2, h3, Reps.cut hm _ _ hb h4⟩
theorem Rel.take {m : Nat} (r : Rel K lk ρ G H) (w : PK.WF m G) : Rel K lk ρ (G.take m) H := by
  have hl : (G.take m).length = m := by rw [List.length_take]; exact Nat.min_eq_left w.1
  refine ⟨fun i c q => ?_, fun i j hi hj e => r.inj i j (by rw [hl] at hi; exact Nat.lt_of_lt_of_le hi w.1) (by rw [hl] at hj; exact Nat.lt_of_lt_of_le hj w.1) e, r.zs, fun i hi => r.zc i (by rw [hl] at hi; exact Nat.lt_of_lt_of_le hi w.1)⟩
  have hi : i < m := by have := (List.getElem?_eq_some_iff.mp q).1; rw [hl] at this; exact this
  rw [List.getElem?_take_of_lt hi] at q
  obtain ⟨u, h1, h2⟩ := r.cell i c q
  exact ⟨u, h1, by rw [hl]; exact h2.cut w.1 (w.2 i c hi q)⟩
theorem Rel.wf (r : Rel K lk ρ G H) : PK.WF G.length G := ⟨Nat.le_refl _, fun i c hi q => by
  obtain ⟨u, h1, h2⟩ := r.cell i c q
  cases c with
  | lst ds => obtain ⟨vs, _, h2⟩ := h2; exact Reps.below _ _ h2
  | dK kvs => obtain ⟨vs, _, h2⟩ := h2; exact Reps.below _ _ h2.2
  | dT kvs => obtain ⟨vs, _, h2⟩ := h2; exact Reps.below _ _ h2.2
  | frK kvs => obtain ⟨vs, _, _, h2⟩ := h2; exact Reps.below _ _ h2.2
  | ins c ds => obtain ⟨dx, fs, vs, _, _, _, h4⟩ := h2; exact Reps.below _ _ h4⟩
theorem frz_rep {m : Nat} {v : PK.D} {x : V} (hm : m ≤ G.length) (r : Rel K lk ρ G H) (p : Rep K lk ρ G.length H v x) (b : PK.below m (PK.frzD G m v) = true) : Rep K lk ρ m H (PK.frzD G m v) x := by
  cases v with
  | ref i =>
    have p0 := p
    obtain ⟨hi, hv⟩ := p
    unfold PK.frzD at b ⊢
    dsimp only at b ⊢
    split at b
    · rename_i c; rw [if_pos c]; exact Rep.cut hm _ _ b p0
    · rename_i c
      rw [if_neg c]
      have off : Off lk ρ m (ρ i) := ⟨fun j hj e => by have := r.inj j i (Nat.lt_of_lt_of_le hj hm) hi e; omega, r.zc i hi⟩
      cases q : G[i]? with
      | none => simp only [q] at b ⊢; exact Rep.cut hm _ _ b p0
      | some cl =>
        obtain ⟨u, h1, h2⟩ := r.cell i cl q
        cases cl with
        | lst ds =>
          simp only [q] at b ⊢
          obtain ⟨vs, rfl, h3⟩ := h2
          exact ⟨ρ i, vs, hv, h1, off, Reps.cut hm _ _ b h3⟩
        | ins c ds =>
          simp only [q] at b ⊢
          obtain ⟨dx, fs, vs, rfl, h3, h4, h5⟩ := h2
          exact ⟨ρ i, dx, fs, vs, hv, h1, off, h3, h4, Reps.cut hm _ _ b h5⟩
        | dK kvs => simp only [q] at b ⊢; exact Rep.cut hm _ _ b p0
        | dT kvs => simp only [q] at b ⊢; exact Rep.cut hm _ _ b p0
        | frK kvs => simp only [q] at b ⊢; exact Rep.cut hm _ _ b p0
  | _ => exact Rep.cut hm _ _ b p
end
theorem lookup_zip : ∀ {N : List Str} {vs : List V} {j : Nat} {f : Str} {v : V}, N.Nodup → N[j]? = some f → vs[j]? = some v → (N.zip vs).lookup f = some v
  | [], _, j, f, v, _, h, _ => by simp at h
  | _ :: _, [], j, f, v, _, _, h => by simp at h
  | n :: N, u :: vs, 0, f, v, _, h1, h2 => by
    simp at h1 h2
    subst h1 h2
    simp [List.lookup]
  | n :: N, u :: vs, j + 1, f, v, hn, h1, h2 => by
    obtain ⟨hn1, hn2⟩ := List.nodup_cons.mp hn
    have h1 : N[j]? = some f := by simpa using h1
    have hne : ¬ f = n := fun z => hn1 (z ▸ List.mem_of_getElem? h1)
    have hb : (f == n) = false := by simpa using hne
    show List.lookup f ((n, u) :: N.zip vs) = _
    rw [List.lookup, hb]
    exact lookup_zip hn2 h1 (by simpa using h2)
theorem lookup_none : ∀ {N : List Str} {vs : List V} {f : Str}, f ∉ N → (N.zip vs).lookup f = none
  | [], _, f, _ => by simp
  | _ :: _, [], f, _ => by simp
  | n :: N, u :: vs, f, h => by
    have hb : (f == n) = false := by simp at h; simpa using h.1
    show List.lookup f ((n, u) :: N.zip vs) = _
    rw [List.lookup, hb]
    exact lookup_none fun z => h (List.mem_cons_of_mem _ z)
theorem putF_zip : ∀ {N : List Str} {vs : List V} {j : Nat} {f : Str} {y : V}, N.Nodup → N[j]? = some f → j ≤ vs.length → putF f y (N.zip vs) = N.zip (if j < vs.length then vs.set j y else vs ++ [y])
  | [], _, j, f, y, _, h, _ => by simp at h
  | n :: N, [], j, f, y, _, h, hj => by
    have : j = 0 := by simpa using hj
    subst this
    simp at h
    subst h
    rw [if_neg (by simp)]
    show [(n, y)] = (n :: N).zip [y]
    simp [List.zip, List.zipWith]
  | n :: N, u :: vs, 0, f, y, _, h, _ => by
    simp at h
    subst h
    show putF n y ((n, u) :: N.zip vs) = _
    rw [putF, if_pos rfl, if_pos (by simp)]; rfl
  | n :: N, u :: vs, j + 1, f, y, hn, h, hj => by
    obtain ⟨hn1, hn2⟩ := List.nodup_cons.mp hn
    have h1 : N[j]? = some f := by simpa using h
    have hne : ¬ n = f := fun z => hn1 (z ▸ List.mem_of_getElem? h1)
    show putF f y ((n, u) :: N.zip vs) = _
    rw [putF, if_neg hne, putF_zip (j := j) hn2 h1 (by simpa using hj)]
    by_cases c : j < vs.length
    · rw [if_pos c, if_pos (by simpa using c)]; rfl
    · rw [if_neg c, if_neg (by simpa using c)]; rfl
structure ClsOk (K : PySem.W.Frag) (C : Addr) (N : List Str) : Prop where
  cl : Cls K C
  nd : N.Nodup
  na : ∀ f ∈ N, NoAttr K C f
  sz : N.length < 1000
section
variable {K : PySem.W.Frag} {lk : Lk} {ρ : Nm} {G : Cells} {H : Hp}
theorem ins_of {d : PK.D} {x : V} {c : Nat} (r : Rel K lk ρ G H) (p : Rep K lk ρ G.length H d x) (e : PK.clsD G d = some c) : ∃ a dx vs, x = .ref a ∧ H a = some (.ins (lk.CA c) dx ((lk.FN c).zip vs)) := by
  cases d with
  | ins c' ds =>
    cases e
    obtain ⟨a, dx, fs, vs, h1, h2, h3, h4, h5, h6⟩ := p
    exact ⟨a, dx, vs, h1, by rw [h2, h4]⟩
  | ref i =>
    obtain ⟨hi, hv⟩ := p
    unfold PK.clsD at e
    cases q : G[i]? with
    | none => simp [q] at e
    | some cl =>
      obtain ⟨u, h1, h2⟩ := r.cell i cl q
      cases cl with
      | ins c' ds =>
        simp only [q] at e
        cases e
        obtain ⟨dx, fs, vs, rfl, h3, h4, h5⟩ := h2
        exact ⟨ρ i, dx, vs, hv, by rw [h1, h3]⟩
      | _ => simp [q] at e
  | _ => cases e
theorem fld_of {d y : PK.D} {x : V} {c j : Nat} {f : Str} (hn : (lk.FN c).Nodup) (hf : (lk.FN c)[j]? = some f) (r : Rel K lk ρ G H) (p : Rep K lk ρ G.length H d x) (e : PK.fldD G c j d = some y) :
    ∃ a dx fs v, x = .ref a ∧ H a = some (.ins (lk.CA c) dx fs) ∧ fs.lookup f = some v ∧ Rep K lk ρ G.length H y v := by
  cases d with
  | ins c' ds =>
    have e2 : (if c' = c then ds[j]? else none) = some y := e
    clear e
    split at e2
    · rename_i hc; subst hc
      obtain ⟨a, dx, fs, vs, h1, h2, h3, h4, h5, h6⟩ := p
      obtain ⟨v, q1, q2⟩ := Reps.get h6 e2
      exact ⟨a, dx, fs, v, h1, h2, by rw [h4]; exact lookup_zip hn hf q1, q2⟩
    · cases e2
  | ref i =>
    obtain ⟨hi, hv⟩ := p
    have e2 : (match G[i]? with | some (.ins c' ds) => if c' = c then ds[j]? else none | _ => none) = some y := e
    clear e
    cases q : G[i]? with
    | none => rw [q] at e2; cases e2
    | some cl =>
      obtain ⟨u, h1, h2⟩ := r.cell i cl q
      cases cl with
      | ins c' ds =>
        rw [q] at e2
        have e3 : (if c' = c then ds[j]? else none) = some y := e2
        clear e2
        split at e3
        · rename_i hc; subst hc
          obtain ⟨dx, fs, vs, rfl, h3, h4, h5⟩ := h2
          obtain ⟨v, q1, q2⟩ := Reps.get h5 e3
          exact ⟨ρ i, dx, fs, v, hv, h1, by rw [h3]; exact lookup_zip hn hf q1, q2⟩
        · cases e3
      | _ => rw [q] at e2; cases e2
  | _ => cases e
end
section
variable {X : Cx} {lk : Lk} {e o : Expr} {es : List Expr} {ea eo er : Ev} {c j : Nat} {f m : Str} {pos apos p : Pos} {k : Nat} {fa : Addr} {fd : FuncData} {ps : List Str} {cl : Cl} {mk : List Nat} {x : Str}
theorem le_fld (C : ClsOk X.K (lk.CA c) (lk.FN c)) (hf : (lk.FN c)[j]? = some f) (ha : LE X lk e ea) (hb : attributeBase e f X.env (eval e X.env) = eval e X.env) :
    LE X lk (.Attribute e f pos) (fun s G => (ea s G).bind fun x G1 => PK.optK (PK.fldD G1 c j x) (fun d => .ok d G1) .bad) :=
  pe_imp (pe_fld ha hb) fun σ H Q ⟨ρ, G, s, r, en, h⟩ => ⟨ρ, G, s, r, en, h.bind fun v G1 _ ρ1 H1 x e1 r1 p1 h1 => by
    cases q : PK.fldD G1 c j v with
    | none => rw [q] at h1; exact h1.elim
    | some y =>
      rw [q] at h1
      obtain ⟨a, dx, fs, u, h2, h3, h4, h5⟩ := fld_of C.nd hf r1 p1 q
      exact ⟨a, lk.CA c, dx, fs, u, h2, h3, C.cl, C.na f (List.mem_of_getElem? hf), h4, OutE.here h1 r1 h5⟩⟩
def methE (cl : Cl) (mk : List Nat) (c : Nat) (eo er : Ev) : Ev := fun s G => (eo s G).bind fun y G1 => PK.iteK (decide (PK.clsD G1 y = some c)) (fun _ => (er s G1).bind fun x G2 => PK.tupK x (fun ds => cl mk (y :: ds) G2) .bad) fun _ => .bad
theorem le_meth (C : ClsOk X.K (lk.CA c) (lk.FN c)) (hm : Meth X.K (lk.CA c) m fa) (hn : m ∉ lk.FN c) (F : FnG X.prog X.w X.K X.mg X.base k fa fd ps (spC X.K lk cl)) (hr : RoomG k X.A) (hb : Binds X.K fd ps []) (ho : LE X lk o eo) (ha : LA X lk (e :: es) er)
    (hst : starEach (e :: es) X.env = (false, eval e X.env) :: starEach es X.env) (hpl : (backTo pos (starEach es X.env)).any (·.1) = false)
    (ht : eval (.Call (.Attribute o m apos) (e :: es) [] pos) X.env = (do
      let ov ← eval o X.env
      standAt apos.atName
      let (f, first) ← holding [ov] (getMethod ov m (plainOf o X.env))
      callWith pos f first (backTo pos (starEach (e :: es) X.env)) (backToKw pos (keywordEach [] X.env)))) :
    LE X lk (.Call (.Attribute o m apos) (e :: es) [] pos) (methE cl mk c eo er) :=
  pe_imp (pe_methG ho C.cl hm F hr hb ha hst hpl ht) fun σ H Q ⟨ρ, G, s, r, en, h⟩ => ⟨ρ, G, s, r, en, OutE.bind h fun y G1 _ ρ1 H1 x e1 r1 p1 h1 => by
    cases q : decide (PK.clsD G1 y = some c) with
    | false => rw [q] at h1; exact h1.elim
    | true =>
      rw [q] at h1
      obtain ⟨a, dx, vs, rfl, h3⟩ := ins_of r1 p1 (of_decide_eq_true q)
      refine ⟨a, dx, _, rfl, h3, lookup_none hn, ρ1, G1, s, r1, REnv.ext e1 en, OutE.args (f := fun ds G2 => cl mk (y :: ds) G2) h1 fun ds G2 ρ2 H2 xs e2 r2 p2 h2 => ?_⟩
      exact ⟨lk.Z, mk, ρ2, G2, y :: ds, r2, ⟨.ref a, xs, rfl, Rep.ext e2 _ _ p1, p2⟩, OutE.st h2⟩⟩
theorem le_meth0 (C : ClsOk X.K (lk.CA c) (lk.FN c)) (hm : Meth X.K (lk.CA c) m fa) (hn : m ∉ lk.FN c) (F : FnG X.prog X.w X.K X.mg X.base k fa fd ps (spC X.K lk cl)) (hr : RoomG k X.A) (hb : Binds X.K fd ps []) (ho : LE X lk o eo)
    (ht : eval (.Call (.Attribute o m apos) [] [] pos) X.env = (do
      let ov ← eval o X.env
      standAt apos.atName
      let (f, first) ← holding [ov] (getMethod ov m (plainOf o X.env))
      callWith pos f first (backTo pos (starEach [] X.env)) (backToKw pos (keywordEach [] X.env)))) :
    LE X lk (.Call (.Attribute o m apos) [] [] pos) (methE cl mk c eo (fun _ G => .ok (.tup []) G)) :=
  pe_imp (pe_methG0 ho C.cl hm F hr hb ht) fun σ H Q ⟨ρ, G, s, r, en, h⟩ => ⟨ρ, G, s, r, en, OutE.bind h fun y G1 _ ρ1 H1 x e1 r1 p1 h1 => by
    cases q : decide (PK.clsD G1 y = some c) with
    | false => rw [q] at h1; exact h1.elim
    | true =>
      rw [q] at h1
      obtain ⟨a, dx, vs, rfl, h3⟩ := ins_of r1 p1 (of_decide_eq_true q)
      exact ⟨a, dx, _, rfl, h3, lookup_none hn, lk.Z, mk, ρ1, G1, [y], r1, ⟨.ref a, [], rfl, p1, rfl⟩, OutE.st h1⟩⟩
def newE (cl : Cl) (mk : List Nat) (w : Bool) (c : Nat) (er : Ev) : Ev := fun s G => (er s G).bind fun x G1 => PK.tupK x (fun ds => (cl (if w then mk else G1.length :: mk) (.ref G1.length :: ds) (G1 ++ [.ins c []])).bind fun r G2 => PK.iteK (decide (r = .non)) (fun _ => PK.madeD w G1.length G2) fun _ => .bad) .bad
def KrOk (cl : Cl) : Prop := ∀ (k : Nat) (m' : List Nat) (args : List PK.D) (G : Cells), k ∈ m' → PK.WF k G → PK.KR k (cl m' args G)
theorem new_of {w : Bool} {ds : List PK.D} {vs : List V} {σ : L2.St} {ρ : Nm} {G : Cells} {H : Hp} {Q : VK} (kr : KrOk cl) (r : Rel X.K lk ρ G H) (p : Reps X.K lk ρ G.length H ds vs)
    (h : OutE X.K lk (WXo X) σ ρ G H ((cl (if w then mk else G.length :: mk) (.ref G.length :: ds) (G ++ [.ins c []])).bind fun r G2 => PK.iteK (decide (r = .non)) (fun _ => PK.madeD w G.length G2) fun _ => .bad) Q) :
    ∀ x dx, H x = none → H dx = none → dx ≠ x → spC X.K lk cl (.ref x :: vs) (upd (upd H dx (.own x)) x (.ins (lk.CA c) dx [])) (fun v H2 => v = .non ∧ Q (.ref x) H2) (WE (WXo X) σ) := fun x dx hx hdx hne => by
  have hx2 : upd H dx (.own x) x = none := by rw [upd_ne (Ne.symm hne)]; exact hx
  have r1 : Rel X.K lk ρ G (upd H dx (.own x)) := r.other hdx
  have e1 : Ext ρ G.length H ρ G.length (upd H dx (.own x)) := Ext.laid hdx
  have r2 : Rel X.K lk (nset ρ G.length x) (G ++ [.ins c []]) (upd (upd H dx (.own x)) x (.ins (lk.CA c) dx [])) := r1.laid hx2 ⟨dx, [], [], rfl, by simp, Nat.zero_le _, rfl⟩
  have e2 : Ext ρ G.length (upd H dx (.own x)) (nset ρ G.length x) (G ++ [PK.Cell.ins c []]).length (upd (upd H dx (.own x)) x (.ins (lk.CA c) dx [])) := by rw [List.length_append]; exact Ext.celled hx2
  have e12 := e1.trans e2
  refine ⟨lk.Z, (if w then mk else G.length :: mk), nset ρ G.length x, G ++ [PK.Cell.ins c []], PK.D.ref G.length :: ds, r2, ⟨V.ref x, vs, rfl, (⟨by simp, by rw [nset_same]⟩ : Rep X.K lk (nset ρ G.length x) (G ++ [PK.Cell.ins c []]).length _ (.ref G.length) (.ref x)), Reps.ext e12 _ _ p⟩, ?_⟩
  show OutE X.K lk (fun cls d _ H => WE (WXo X) σ cls d H) [] _ _ _ (cl (if w then mk else G.length :: mk) (.ref G.length :: ds) (G ++ [.ins c []])) _
  have kk : w = false → PK.KR G.length (cl (if w then mk else G.length :: mk) (.ref G.length :: ds) (G ++ [.ins c []])) := fun hw => kr _ _ _ _ (by rw [hw]; exact List.mem_cons_self) (r.wf.app _)
  cases q : cl (if w then mk else G.length :: mk) (.ref G.length :: ds) (G ++ [.ins c []]) with
  | bad => rw [q] at h; exact h.elim
  | exc c' G2 => rw [q] at h; exact fun ρ' H' e r => h ρ' H' (e12.trans e) r
  | ok v G2 =>
    rw [q] at h kk
    have h : OutE X.K lk (WXo X) σ ρ G H (PK.iteK (decide (v = .non)) (fun _ => PK.madeD w G.length G2) fun _ => .bad) Q := h
    intro ρ3 H3 y e3 r3 p3
    cases q2 : decide (v = .non) with
    | false => rw [q2] at h; exact h.elim
    | true =>
      rw [q2] at h
      have hv := of_decide_eq_true q2
      subst hv
      have h : OutE X.K lk (WXo X) σ ρ G H (PK.madeD w G.length G2) Q := h
      refine ⟨p3, ?_⟩
      have hl : G.length < G2.length := by have := e3.le; rw [List.length_append] at this; simp at this; omega
      have hr3 : ρ3 G.length = x := by rw [e3.agr _ (by simp), nset_same]
      have pr : Rep X.K lk ρ3 G2.length H3 (.ref G.length) (.ref x) := ⟨hl, by rw [hr3]⟩
      have ex := e12.trans e3
      cases w with
      | true =>
        have h : OutE X.K lk (WXo X) σ ρ G H (.ok (.ref G.length) G2) Q := h
        exact h ρ3 H3 _ ex r3 pr
      | false =>
        have wf : PK.WF G.length G2 := kk rfl
        unfold PK.madeD at h
        rw [if_neg Bool.false_ne_true] at h
        dsimp only at h
        split at h
        · rename_i b
          have htl : (G2.take G.length).length = G.length := by rw [List.length_take]; exact Nat.min_eq_left wf.1
          exact h ρ3 H3 _ (by rw [htl]; exact ex.cut (Nat.le_refl _) wf.1) (r3.take wf) (by rw [htl]; exact frz_rep wf.1 r3 pr b)
        · exact h.elim
theorem le_new (w : Bool) (kr : KrOk cl) (M : Mk X.K (lk.CA c) fa) (F : FnG X.prog X.w X.K X.mg X.base k fa fd ps (spC X.K lk cl)) (hr : RoomG (k + 1) X.A) (hg : Gl X x) (hm : X.mg x = some (.ref (lk.CA c))) (hb : Binds X.K fd ps [])
    (ha : LA X lk (e :: es) er) (hdb : (x == ("__debug__" : Str)) = false) (he : starEach (e :: es) X.env = (false, eval e X.env) :: starEach es X.env) (hpl : (backTo pos (starEach es X.env)).any (·.1) = false) :
    LE X lk (.Call (.Name x p) (e :: es) [] pos) (newE cl mk w c er) :=
  pe_imp (pe_mkG M F hr hg hm hb ha hdb he hpl) fun σ H Q ⟨ρ, G, s, r, en, h⟩ => ⟨ρ, G, s, r, en, OutE.args h fun ds G1 ρ1 H1 xs e1 r1 p1 h1 => new_of kr r1 p1 h1⟩
theorem le_new0 (w : Bool) (kr : KrOk cl) (M : Mk X.K (lk.CA c) fa) (F : FnG X.prog X.w X.K X.mg X.base k fa fd ps (spC X.K lk cl)) (hr : RoomG (k + 1) X.A) (hg : Gl X x) (hm : X.mg x = some (.ref (lk.CA c))) (hb : Binds X.K fd ps [])
    (hdb : (x == ("__debug__" : Str)) = false) : LE X lk (.Call (.Name x p) [] [] pos) (newE cl mk w c (fun _ G => .ok (.tup []) G)) :=
  pe_imp (pe_mkG0 M F hr hg hm hb hdb) fun σ H Q ⟨ρ, G, s, r, en, h⟩ => new_of kr r (show Reps X.K lk ρ G.length H [] [] from rfl) h
theorem ls_fld {value : Expr} {ev : Ev} {f : Str} {pos' : Pos} {m : List Nat} (C : ClsOk X.K (lk.CA c) (lk.FN c)) (hf : (lk.FN c)[j]? = some f) (hv : LE X lk value ev) (ho : LE X lk o eo) (hs : swapsWith value (some (.Attribute o f pos')) pos.line X.env = pure false) :
    LS X lk (.Assign [.Attribute o f pos'] value pos) (fun s G => PK.R.st s (ev s G) fun v G1 => PK.R.st s (eo s G1) fun x G2 => PK.putF m c j x v s G2) := by
  refine ps_imp (ps_fld ho hv hs) fun D σ H ⟨ρ, G, s, r, en, h⟩ => ⟨ρ, G, s, r, en, OutS.bind en h fun v G1 ρ1 H1 y e1 r1 p1 h1 => ⟨ρ1, G1, s, r1, REnv.ext e1 en, OutS.bind (REnv.ext e1 en) h1 fun d G2 ρ2 H2 x e2 r2 p2 h2 => ?_⟩⟩
  have p1 := Rep.ext e2 _ _ p1
  have en2 := REnv.ext e2 (REnv.ext e1 en)
  cases d with
  | ref q =>
    obtain ⟨hq, hx⟩ := p2
    unfold PK.putF at h2
    dsimp only at h2
    cases z : G2[q]? with
    | none => rw [z] at h2; exact False.elim h2
    | some cl =>
      rw [z] at h2
      obtain ⟨u, h3, h4⟩ := r2.cell q cl z
      cases cl with
      | ins c' ds =>
        dsimp only at h2
        by_cases hc : c' = c ∧ PK.wok q m v = true
        · rw [if_pos hc] at h2
          obtain ⟨hc, _⟩ := hc
          subst hc
          obtain ⟨dx, fs, vs, rfl, h5, h6, h7⟩ := h4
          have hlen := Reps.length h7
          have hjN : j < (lk.FN c').length := (List.getElem?_eq_some_iff.mp hf).1
          have go : ∀ ds', (if j < vs.length then vs.set j y else vs ++ [y]).length ≤ (lk.FN c').length → j ≤ vs.length → Reps X.K lk ρ2 G2.length H2 ds' (if j < vs.length then vs.set j y else vs ++ [y]) → OutS X.K lk (WXo X) ρ2 G2 H2 D (.nx s (PK.setC G2 q (.ins c' ds'))) →
              ∃ a C dx fs, x = V.ref a ∧ H2 a = some (.ins C dx fs) ∧ Cls X.K C ∧ NoAttr X.K C f ∧ fs.length < 1000 ∧ D.nx σ (upd H2 a (.ins C dx (putF f y fs))) := fun ds' hl hj hp ho => by
            refine ⟨ρ2 q, lk.CA c', dx, fs, hx, h3, C.cl, C.na f (List.mem_of_getElem? hf), ?_, ?_⟩
            · rw [h5, List.length_zip]; have := C.sz; omega
            · have ho : ∀ ρ' H' σ', Ext ρ2 G2.length H2 ρ' (G2.set q (.ins c' ds')).length H' → Rel X.K lk ρ' (G2.set q (.ins c' ds')) H' → REnv X.K lk ρ' (G2.set q (.ins c' ds')).length H' s σ' → D.nx σ' H' := ho
              have ex : Ext ρ2 G2.length H2 ρ2 (G2.set q (.ins c' ds')).length (upd H2 (ρ2 q) (.ins (lk.CA c') dx (putF f y fs))) := by rw [List.length_set]; exact r2.exw z
              refine ho ρ2 _ σ ex (r2.written z ⟨dx, _, _, rfl, ?_, hl, hp⟩) (REnv.ext ex en2)
              rw [h5, putF_zip C.nd hf hj]
          by_cases hj : j < ds.length
          · rw [if_pos hj] at h2
            have hj' : j < vs.length := by omega
            refine go (ds.set j v) (by rw [if_pos hj', List.length_set]; exact h6) (by omega) (by rw [if_pos hj']; exact Reps.set h7 p1) h2
          · rw [if_neg hj] at h2
            by_cases hj2 : j = ds.length
            · rw [if_pos hj2] at h2
              have hj' : ¬ j < vs.length := by omega
              refine go (ds ++ [v]) (by rw [if_neg hj', List.length_append]; simp; omega) (by omega) (by rw [if_neg hj']; exact Reps.append h7 (Reps.one p1)) h2
            · rw [if_neg hj2] at h2; exact False.elim h2
        · rw [if_neg hc] at h2; exact False.elim h2
      | _ => exact False.elim h2
  | _ => exact False.elim h2
end
end PKS
namespace PKS
open PySem PySem.Spec PyProof.Rows L2
def Sig.in_ (Γ : Sig) : Sig := { Γ with top := false, bare := Γ.bare && Γ.hx.isSome }
def subB (Γ : Sig) (i j : Nat) : Bool := decide (i ∈ Γ.sub.getD j [])
def ndB (x : Str) : Bool := !(x == ("__debug__" : Str))
def ncB (x : Str) : Bool := !(x == ("__classdict__" : Str))
def isK (sc : Scope) (x : Str) (k : NameKind) : Bool := decide (sc.names.lookup x = some k)
def visB (sc : Scope) (x : Str) : Bool := isK sc x .local || isK sc x .cell || isK sc x .free
def locB (sc : Scope) (x : Str) : Bool := isK sc x .local || isK sc x .cell
def glB (sc : Scope) (x : Str) : Bool := isK sc x .globalImplicit
def noStar : Expr → Bool
  | .Starred .. => false
  | _ => true
def baseB : Expr → Bool
  | .Call (.Name ..) [] [] _ => false
  | _ => true
def notIf : Expr → Bool
  | .IfExp .. => false
  | _ => true
def isBop : Expr → Bool
  | .BoolOp .. => true
  | _ => false
def plainIxB : Expr → Bool
  | .Slice .. => false
  | _ => true
def isSet : Expr → Bool
  | .Set .. => true
  | _ => false
def isComp : Expr → Bool
  | .ListComp .. | .SetComp .. | .DictComp .. => true
  | _ => false
def isTup : Expr → Bool
  | .Tuple .. => true
  | _ => false
def bltB (Γ : Sig) (x : Str) : Bool := glB Γ.sc x && decide (x ∈ Γ.free)
def chkTys (Γ : Sig) : List PK.Ty → List Expr → Bool
  | [], [] => true
  | y :: ts, .Name x _ :: es => !tyOwn y && decide (x = Str.ofString (tyS y)) && bltB Γ x && chkTys Γ ts es
  | _, _ => false
def iterEs (k : PK.Ik) (Γ : Sig) (tg iter : Expr) : Option (List Expr) := match k with
  | .val => if isSet iter then none else some [iter]
  | .range1 => match iter with
    | .Call (.Name x _) [e] [] _ => if decide (x = "range") && bltB Γ x then some [e] else none
    | _ => none
  | .range2 => match iter with
    | .Call (.Name x _) [e, e2] [] _ => if decide (x = "range") && bltB Γ x then some [e, e2] else none
    | _ => none
  | .range3 => match iter with
    | .Call (.Name x _) [e, e2, e3] [] _ => if decide (x = "range") && bltB Γ x then some [e, e2, e3] else none
    | _ => none
  | .enum => match iter with
    | .Call (.Name x _) [e] [] _ => if decide (x = "enumerate") && bltB Γ x && isTup tg then some [e] else none
    | _ => none
  | .zip => match iter with
    | .Call (.Name x _) [e, e2] [] _ => if decide (x = "zip") && bltB Γ x && isTup tg then some [e, e2] else none
    | _ => none
  | .rev => match iter with
    | .Call (.Name x _) [e] [] _ => if decide (x = "reversed") && bltB Γ x then some [e] else none
    | _ => none
  | _ => none
def chkNm (Γ : Sig) (i : Nat) (x : Str) : Bool := decide (Γ.N[i]? = some x) && locB Γ.sc x && (Γ.fn x || isK Γ.sc x .local)
def chkNms (Γ : Sig) : List Nat → List Expr → Bool
  | [], [] => true
  | i :: is, .Name x _ :: es => chkNm Γ i x && chkNms Γ is es
  | _, _ => false
def chkP (Γ : Sig) (tg : Expr) (pt : List Nat) (one : Bool) : Bool := match one, tg with
  | true, .Name x _ => match pt with
    | [i] => chkNm Γ i x
    | _ => false
  | false, .Tuple es _ _ => chkNms Γ pt es
  | _, _ => false
def inBlk (Γ : Sig) (scope : Scope) : Sig := { Γ with sc := relS scope Γ.sc, fn := fun x => scope.names.lookup x == some .cell, hx := none, xfn := [], top := false, blk := true, bare := false }
def ownP (Γ : Sig) (own : List Nat) : List (Str × Nat) := own.map fun i => (Γ.N.getD i Str.empty, i)
def yesL : PK.L → Bool
  | .c (.bl true) => true
  | _ => false
def absL : PK.L → Bool
  | .c (.exc 0) => true
  | _ => false
def optB (f : Expr → Bool) (y : Bool) : Option Expr → Bool
  | none => y
  | some e => f e
def ifsB (f : Expr → Bool) (y : Bool) : List Expr → Bool
  | [] => y
  | [c] => notIf c && f c
  | _ => false
def mtB (b : PK.Mt) : List Expr → Bool
  | [] => decide (b = .clear ∨ b = .pop0 ∨ b = .reverse)
  | _ :: _ => decide (b = .append ∨ b = .join ∨ b = .split ∨ b = .startswith ∨ b = .extend ∨ b = .pop1 ∨ b = .popT ∨ b = .popK ∨ b = .get1 ∨ b = .get2 ∨ b = .setd)
def pureL : PK.L → Bool
  | .v _ => true
  | .fld _ _ (.v _) => true
  | _ => false
def atB (Γ : Sig) : PK.L → Expr → Bool
  | .c d, e => match d, e with
    | .non, .Constant .none _ _ => true
    | .bl b, .Constant (.bool b') _ _ => decide (b = b')
    | .int b, .Constant (.int b') _ _ => decide (b = b')
    | .str b, .Constant (.str b') _ _ => decide (b = b')
    | _, _ => false
  | .v i, .Name x _ => decide (Γ.N[i]? = some x) && visB Γ.sc x && ndB x && ncB x
  | _, _ => false
def atBs (Γ : Sig) : PK.Ls → List (Option Expr) → List Expr → Bool
  | .nil, [], [] => true
  | .cons a (.cons b l), some k :: ks, v :: vs => atB Γ a k && atB Γ b v && atBs Γ l ks vs
  | _, _, _ => false

def excIx (Γ : Sig) (x : Str) : Option Nat := Γ.exn.findIdx? fun y => decide (y = x)
def clsB (Γ : Sig) (c : Nat) (z : Str) (b : Bool) : Bool := match excIx Γ z with
  | some j => glB Γ.sc z && ndB z && decide (subB Γ c j = b)
  | none => false
def clssB (Γ : Sig) (c : Nat) : List Expr → Bool → Bool
  | [], b => !b
  | .Name z _ :: es, b => (clsB Γ c z true && b && clssG Γ c es) || (clsB Γ c z false && clssB Γ c es b)
  | _, _ => false
where
  clssG (Γ : Sig) (c : Nat) : List Expr → Bool
    | [] => true
    | .Name z _ :: es => (clsB Γ c z true || clsB Γ c z false) && clssG Γ c es
    | _ => false
def heldB (Γ : Sig) (n : Option Nat) (y : Str) : Bool := match n with
  | some i => decide (Γ.N[i]? = some y) && visB Γ.sc y && ndB y && ncB y
  | none => false
def isxB (Γ : Sig) (c : Nat) (n : Option Nat) (b : Bool) : Expr → Bool
  | .Call (.Name f _) [.Name y _, .Name z _] [] _ => decide (f = "isinstance") && bltB Γ f && heldB Γ n y && (clsB Γ c z b || (b && decide (z = Str.ofString "ValueError") && bltB Γ z))
  | .Call (.Name f _) [.Name y _, .Tuple es _ _] [] _ => decide (f = "isinstance") && bltB Γ f && heldB Γ n y && clssB Γ c es b && decide (es.length ≤ 1000)
  | _ => false
def cstB : PK.D → Expr → Bool
  | .bl b, .Constant (.bool b') _ _ => decide (b = b')
  | .int i, .Constant (.int i') _ _ => decide (i = i')
  | .str s, .Constant (.str s') _ _ => decide (s = s')
  | .non, .Constant .none _ _ => true
  | _, _ => false
def eqC : PK.D → PK.D → Bool
  | .bl b, .bl b' => decide (b = b')
  | .int b, .int b' => decide (b = b')
  | .str b, .str b' => decide (b = b')
  | .non, .non => true
  | _, _ => false
def askB (Γ : Sig) (c : Nat) (n : Option Nat) (d : PK.D) : Expr → Bool
  | .Call (.Name x _) [.Name y _] [] _ => Γ.xfn.any (fun t => decide (t.1 = x) && decide (t.2.1 = c) && eqC d t.2.2) && glB Γ.sc x && ndB x && heldB Γ n y
  | _ => false
def isxD (Γ : Sig) (c : Nat) (n : Option Nat) : PK.D → Expr → Bool
  | .bl b, e => isxB Γ (c % 1000) n b e
  | _, _ => false
def hotB (Γ : Sig) (d : PK.D) (e : Expr) : Bool := match Γ.hx with
  | some (n, c) => isxD Γ c n d e || askB Γ c n d e
  | none => false
mutual
def chkE : PK.L → Sig → Expr → Bool
  | .c d, Γ, e => cstB d e || hotB Γ d e
  | .v i, Γ, e => match e with
    | .Name x _ => decide (Γ.N[i]? = some x) && visB Γ.sc x && ndB x && ncB x
    | _ => false
  | .g i, Γ, e => match e with
    | .Name x _ => decide (Γ.gnm[i]? = some x) && glB Γ.sc x && ndB x
    | _ => false
  | .bin o _ a b, Γ, e => match e with
    | .BinOp x op y _ => decide (op = opOf o) && chkE a Γ x && chkE b Γ y
    | _ => false
  | .neg a, Γ, e => match e with
    | .UnaryOp .USub x _ => chkE a Γ x
    | _ => false
  | .cmp o a b, Γ, e => match e with
    | .Compare x [op] [y] _ => decide (op = cmOf o) && !behindInMarks (cmOf o) y && chkE a Γ x && chkE b Γ y
    | _ => false
  | .chain o o' a b c, Γ, e => match e with
    | .Compare x [op, op'] [y, z] _ => decide (op = cmOf o) && decide (op' = cmOf o') && !lastMarks [cmOf o, cmOf o'] [y, z] && chkE a Γ x && chkE b Γ y && chkE c Γ z
    | _ => false
  | .and_ a b, Γ, e => match e with
    | .BoolOp .And [x, y] _ => notIf x && notIf y && chkE a Γ x && chkE b Γ y
    | .BoolOp .And (x :: y :: z :: r) pos => notIf x && chkE a Γ x && chkE b Γ (.BoolOp .And (y :: z :: r) pos)
    | _ => false
  | .or_ a b, Γ, e => match e with
    | .BoolOp .Or [x, y] _ => notIf x && notIf y && chkE a Γ x && chkE b Γ y
    | .BoolOp .Or (x :: y :: z :: r) pos => notIf x && chkE a Γ x && chkE b Γ (.BoolOp .Or (y :: z :: r) pos)
    | _ => false
  | .not_ a, Γ, e => match e with
    | .UnaryOp .Not x _ => notIf x && chkE a Γ x
    | _ => false
  | .ite t a b, Γ, e => match e with
    | .IfExp c x y _ => notIf c && chkE t Γ c && chkE a Γ x && chkE b Γ y
    | _ => false
  | .tup l, Γ, e => match e with
    | .Tuple es _ _ => chkA l Γ es && decide (es.length ≤ 1000)
    | _ => false
  | .lst _ l, Γ, e => match e with
    | .List es _ => chkA l Γ es && decide (es.length ≤ 1000)
    | _ => false
  | .ix a i, Γ, e => match e with
    | .Subscript x y _ => plainIxB y && chkE a Γ x && chkE i Γ y
    | _ => false
  | .sl _ a lo hi, Γ, e => match e with
    | .Subscript x (.Slice l h none _) _ => chkE a Γ x && optB (chkE lo Γ) (absL lo) l && optB (chkE hi Γ) (absL hi) h
    | _ => false
  | .rev _ a, Γ, e => match e with
    | .Subscript x (.Slice none none (some (.UnaryOp .USub (.Constant (.int n) _ _) _)) _) _ => decide (n = 1) && chkE a Γ x
    | .Call (.Name n _) [.Call (.Name n2 _) [x] [] _] [] _ => decide (n = "list") && bltB Γ n && decide (n2 = "reversed") && bltB Γ n2 && noStar x && chkE a Γ x && Γ.calm
    | _ => false
  | .setlen a, Γ, e => match e with
    | .Call (.Name n _) [.Call (.Name n2 _) [x] [] _] [] _ => decide (n = "len") && bltB Γ n && decide (n2 = "set") && bltB Γ n2 && noStar x && chkE a Γ x && Γ.calm
    | _ => false
  | .call f l, Γ, e => match e with
    | .Call (.Name x _) es [] _ => decide (Γ.fnm[f]? = some (some x)) && glB Γ.sc x && ndB x && chkA l Γ es
    | _ => false
  | .bi b _ l, Γ, e => match e with
    | .Call (.Name x _) (y :: es) [] _ => decide (x = Str.ofString (biName b)) && bltB Γ x && chkA l Γ (y :: es) && (Γ.calm || decide (b = .int))
    | _ => false
  | .mt b _ o l, Γ, e => match e with
    | .Call (.Attribute x nm ap) es [] pos => decide (nm = Str.ofString (mtN b)) && baseB x && (ap.endLine == pos.line) && chkE o Γ x && chkA l Γ es && decide (es.length < 20) && mtB b es
    | _ => false
  | .isi ts a, Γ, e => match e with
    | .Call (.Name n _) [x, .Name y p] [] _ => decide (n = "isinstance") && bltB Γ n && noStar x && chkE a Γ x && chkTys Γ ts [.Name y p]
    | .Call (.Name n _) [x, .Tuple es _ _] [] _ => decide (n = "isinstance") && bltB Γ n && noStar x && chkE a Γ x && chkTys Γ ts es && decide (ts.length ≤ 1000)
    | _ => false
  | .comp w k own pt one it cond elt, Γ, e => match e with
    | .ListComp y [⟨tg, iter, ifs, asy⟩] scope _ => decide (asy = 0) && !isSet iter && (match iterEs k Γ tg iter with | some es => chkA it Γ es | none => false) && blkC Γ.N Γ.sc scope (ownP Γ own) && pt.all (fun i => decide (i ∈ own)) && chkP (inBlk Γ scope) tg pt one &&
      ifsB (chkE cond (inBlk Γ scope)) (yesL cond) ifs && chkE elt (inBlk Γ scope) y && Γ.calm
    | _ => false
  | .compx w k own pt one it cond elt, Γ, e => match e with
    | .ListComp y [⟨tg, iter, ifs, asy⟩] scope _ => decide (asy = 0) && !isSet iter && (match iterEs k Γ tg iter with | some es => chkA it Γ es | none => false) && blkC Γ.N Γ.sc scope (ownP Γ own) && pt.all (fun i => decide (i ∈ own)) && chkP (inBlk Γ scope) tg pt one &&
      ifsB (chkE cond (inBlk Γ scope)) (yesL cond) ifs && chkE elt (inBlk Γ scope) y && Γ.calm && !Γ.blk
    | _ => false
  | .lock a b, Γ, e => match e with
    | .Call .. => pureL a && chkE b Γ e
    | _ => false
  | .pick i j k, Γ, e => match e with
    | .ListComp (.Name a _) [⟨.Tuple [.Name a2 _, .Name b _] _ _, .Name x _, [.Name b2 _], asy⟩] scope _ => decide (asy = 0) && decide (a2 = a) && decide (b2 = b) && !decide (i = j) && decide (Γ.N[i]? = some a) && decide (Γ.N[j]? = some b) && decide (Γ.N[k]? = some x) && visB Γ.sc x &&
      ndB a && ncB a && ndB b && ncB b && ndB x && ncB x && isK scope a .local && isK scope b .local && blkC Γ.N Γ.sc scope (ownP Γ [i, j]) && Γ.bare
    | _ => false
  | .key2 mx f a b, Γ, e => match e with
    | .Call (.Name x _) [y, z] [⟨some k, .Name fn _, _⟩] _ => decide (x = Str.ofString (keyN mx)) && bltB Γ x && decide (k = Str.ofString "key") && decide (Γ.fnm[f]? = some (some fn)) && glB Γ.sc fn && ndB fn && noStar y && noStar z && chkE a Γ y && chkE b Γ z
    | _ => false
  | .dnew _, _, e => match e with
    | .Dict [] [] _ => true
    | _ => false
  | .dlit l, Γ, e => match e with
    | .Dict ks vs _ => atBs Γ l ks vs && !ks.isEmpty && decide (ks.length ≤ 15)
    | _ => false
  | .skey _ f a, Γ, e => match e with
    | .Call (.Name x _) [y] [⟨some k, .Name fn _, _⟩] _ => decide (x = Str.ofString "sorted") && bltB Γ x && decide (k = Str.ofString "key") && decide (Γ.fnm[f]? = some (some fn)) && glB Γ.sc fn && ndB fn && noStar y && chkE a Γ y
    | _ => false
  | .fld c j a, Γ, e => match e with
    | .Attribute x f _ => decide ((Γ.fld[c]?).bind (·[j]?) = some f) && baseB x && chkE a Γ x
    | _ => false
  | .meth f c o l, Γ, e => match e with
    | .Call (.Attribute x nm ap) es [] pos => decide (Γ.mth[f]? = some (some (c, nm))) && !(nm == initN) && decide (c < Γ.fld.length) && !((Γ.fld.getD c []).contains nm) && baseB x && (ap.endLine == pos.line) && chkE o Γ x && chkA l Γ es && decide (es.length < 20)
    | _ => false
  | .new _ c f l, Γ, e => match e with
    | .Call (.Name x _) es [] _ => decide (Γ.cnm[c]? = some x) && decide (Γ.mth[f]? = some (some (c, initN))) && glB Γ.sc x && ndB x && chkA l Γ es
    | _ => false
def chkA : PK.Ls → Sig → List Expr → Bool
  | .nil, _, es => match es with
    | [] => true
    | _ => false
  | .cons a l, Γ, es => match es with
    | x :: r => noStar x && chkE a Γ x && chkA l Γ r
    | _ => false
end

structure Fits (Γ : Sig) (X : Cx) (lk : Lk) (cl : List Nat → Nat → List PK.D → Cells → PK.R) (gl : Nat → Option PK.D) : Prop where
  hN : X.N = Γ.N
  nd : Γ.N.Nodup
  sc : X.env.scope = Γ.sc
  fn : X.fn = Γ.fn
  calm : Γ.calm = true → X.calm = true
  free' : Γ.calm = true → lk.Free
  stay : ∀ j, (∀ n c, Γ.hx = some (n, c) → n ≠ some j) → ∀ σ v, lk.P σ → lk.P (σ.set j v)
  hot : ∀ n c, Γ.hx = some (n, c) → c % 1000 < Γ.exn.length ∧ ∃ a oe, (a, oe) ∈ X.pn ∧ Zc (lk.EV c) none oe ∧ (∃ vs, oe.data = .fields vs) ∧ ∀ σ, lk.P σ → Held n a σ
  hot1 : Γ.bare = true → L2H.HotC X ∧ X.calm = false
  xfs : ∀ x c d, (x, c, d) ∈ Γ.xfn → ∃ f fd y k, FnE X.prog X.w X.K X.mg X.base lk k f fd y (lk.EV c) d ∧ RoomE k X.A ∧ X.mg x = some (.ref f) ∧ PySem.W.keepIn X.K (.ref f) = true ∧ Binds X.K fd [y] []
  gd : X.A.guards = some []
  un : X.A.units + 64 < cLine
  hp : Γ.blk = false → PassesOwn (model X.prog X.w) X.A X.env X.xe
  own : Γ.blk = false → OwnX X
  hpa : Γ.top = true → ∀ hd : Option Value, PassesOwnAt (model X.prog X.w) (X.A.mark hd) X.A X.env X.xe
  free : ∀ x ∈ Γ.free, X.mg x = none
  fns : ∀ (i : Nat) x, Γ.fnm[i]? = some (some x) → ∃ f fd ps k, FnG X.prog X.w X.K X.mg X.base k f fd ps (spC X.K lk fun m ds G => cl m i ds G) ∧ RoomG (k + 1) X.A ∧ X.mg x = some (.ref f) ∧ PySem.W.keepIn X.K (.ref f) = true ∧ Binds X.K fd ps []
  mts : ∀ (i : Nat) c x, Γ.mth[i]? = some (some (c, x)) → x ≠ initN → ∃ f fd ps k, FnG X.prog X.w X.K X.mg X.base k f fd ps (spC X.K lk fun m ds G => cl m i ds G) ∧ RoomG (k + 1) X.A ∧ Meth X.K (lk.CA c) x f ∧ Binds X.K fd ps []
  mks : ∀ (i : Nat) c, Γ.mth[i]? = some (some (c, initN)) → ∃ f fd ps k, FnG X.prog X.w X.K X.mg X.base k f fd ps (spC X.K lk fun m ds G => cl m i ds G) ∧ RoomG (k + 1) X.A ∧ Mk X.K (lk.CA c) f ∧ Binds X.K fd ps []
  cls : ∀ (c : Nat) fs, Γ.fld[c]? = some fs → lk.FN c = fs ∧ ClsOk X.K (lk.CA c) fs
  clsOf : ∀ (c : Nat) x, Γ.cnm[c]? = some x → X.mg x = some (.ref (lk.CA c))
  kr : ∀ i : Nat, KrOk fun m ds G => cl m i ds G
  exs : ∀ (i : Nat) x, Γ.exn[i]? = some x → X.mg x = some (.ref (lk.EA i)) ∧ ExcK X.K (lk.EA i) ∧ ExcV X.K (lk.EA i)
  exm : ∀ i j : Nat, i < Γ.exn.length → j < Γ.exn.length → PySem.W.exmOne X.K (.ref (lk.EA i)) (.ref (lk.EA j)) = some (subB Γ i j) ∧ PySem.W.kitOne X.K (.ref (lk.EA i)) (.ref (lk.EA j)) = some (subB Γ i j)
  gls : ∀ (i : Nat) x d, Γ.gnm[i]? = some x → gl i = some d → ∃ v u, X.mg x = some u ∧ RelV v u ∧ ∀ Z ρ n H, Rep X.K (lk.w Z) ρ n H d v
section
variable {Γ : Sig} {X : Cx} {lk : Lk} {cl : List Nat → Nat → List PK.D → Cells → PK.R} {gl : Nat → Option PK.D} {m : List Nat}
theorem Fits.nd' (F : Fits Γ X lk cl gl) : X.N.Nodup := by rw [F.hN]; exact F.nd
theorem Fits.glo (F : Fits Γ X lk cl gl) {x : Str} (h : glB Γ.sc x = true) : Gl X x := by
  show X.env.scope.names.lookup x = _
  rw [F.sc]; exact of_decide_eq_true h
theorem Fits.vis (F : Fits Γ X lk cl gl) {x : Str} (h : visB Γ.sc x = true) : Vis X.env.scope x := by
  unfold Vis; rw [F.sc]
  unfold visB isK at h
  simp only [Bool.or_eq_true, decide_eq_true_eq] at h
  rcases h with (h | h) | h
  · exact .inl h
  · exact .inr (.inl h)
  · exact .inr (.inr h)
theorem Fits.blt (F : Fits Γ X lk cl gl) {x : Str} (h : bltB Γ x = true) : Gl X x ∧ X.mg x = none := by
  obtain ⟨h1, h2⟩ := Bool.and_eq_true_iff.mp h
  exact ⟨F.glo h1, F.free x (of_decide_eq_true h2)⟩
theorem Fits.nm (F : Fits Γ X lk cl gl) {x : Str} {i : Nat} (h : chkNm Γ i x = true) : X.N[i]? = some x ∧ L2.Loc X.env.scope x ∧ (X.fn x = true ∨ X.env.scope.names.lookup x = some .local) := by
  unfold chkNm locB isK at h
  simp only [Bool.and_eq_true, Bool.or_eq_true, decide_eq_true_eq] at h
  obtain ⟨⟨h1, h2⟩, h3⟩ := h
  unfold L2.Loc
  rw [F.hN, F.sc, F.fn]
  exact ⟨h1, h2, h3⟩
theorem Fits.nms (F : Fits Γ X lk cl gl) : ∀ {is : List Nat} {es : List Expr}, chkNms Γ is es = true → Nms X is es
  | [], [], _ => .nil
  | i :: is, e :: es, h => by
    cases e with
    | Name x p =>
      obtain ⟨h1, h2⟩ := Bool.and_eq_true_iff.mp h
      obtain ⟨a, b, c⟩ := F.nm h1
      exact .cons a b c (F.nms h2)
    | _ => cases h
  | [], _ :: _, h => by cases h
  | _ :: _, [], h => by cases h
theorem Fits.pat (F : Fits Γ X lk cl gl) {tg : Expr} {pt : List Nat} {one : Bool} (h : chkP Γ tg pt one = true) : Pat X tg pt one := by
  cases one with
  | true => cases tg with
    | Name x p => match pt, h with
      | [i], h =>
        obtain ⟨a, b, c⟩ := F.nm h
        exact .one rfl rfl a b c
      | [], h => cases h
      | _ :: _ :: _, h => cases h
    | _ => cases h
  | false => cases tg with
    | Tuple es k p => exact .tup rfl (F.nms h)
    | _ => cases h
theorem Fits.blk (F : Fits Γ X lk cl gl) (hc : Γ.calm = true) {scope : Scope} {s : Shared} {H : Hp} {C : Addr} {cls : List (Str × Addr)} {fp : List Addr} {A : Addr} : Fits (inBlk Γ scope) (BX X scope s H C cls fp) (lk.add A) cl gl where
  hN := F.hN
  nd := F.nd
  sc := by
    show relabel scope X.env = relS scope Γ.sc
    rw [← F.sc]; rfl
  fn := rfl
  calm := F.calm
  free' := F.free'
  stay := fun j _ σ v _ => F.free' hc _
  hot := fun n c h => by cases h
  hot1 := fun z => by cases z
  xfs := fun x c d h => by cases h
  gd := F.gd
  un := F.un
  hp := fun z => by cases z
  own := fun z => by cases z
  hpa := fun z => by cases z
  free := F.free
  fns := F.fns
  mts := F.mts
  mks := F.mks
  cls := F.cls
  clsOf := F.clsOf
  kr := F.kr
  exs := F.exs
  exm := F.exm
  gls := F.gls
theorem Fits.nox (F : Fits Γ X lk cl gl) : Fits Γ.in_ X.nox lk cl gl where
  hN := F.hN
  nd := F.nd
  sc := F.sc
  fn := F.fn
  calm := F.calm
  free' := F.free'
  stay := F.stay
  hot := F.hot
  hot1 := fun z => F.hot1 (Bool.and_eq_true_iff.mp z).1
  xfs := F.xfs
  gd := F.gd
  un := F.un
  hp := fun _ => PassesOwn.never
  own := F.own
  hpa := fun z => by cases z
  free := F.free
  fns := F.fns
  mts := F.mts
  mks := F.mks
  cls := F.cls
  clsOf := F.clsOf
  kr := F.kr
  exs := F.exs
  exm := F.exm
  gls := F.gls
theorem Fits.tr (F : Fits Γ X lk cl gl) (hx : Γ.hx = none) {pn : List (Addr × Obj)} {xe : Value → Shared → Prop} (hp : Γ.blk = false → PassesOwn (model X.prog X.w) X.A X.env xe) : Fits Γ.in_ (X.tr pn xe) lk cl gl where
  hN := F.hN
  nd := F.nd
  sc := F.sc
  fn := F.fn
  calm := F.calm
  free' := F.free'
  stay := F.stay
  hot := fun n c h => by
    have h : Γ.hx = some (n, c) := h
    rw [hx] at h; cases h
  hot1 := fun z => by
    have z : (Γ.bare && Γ.hx.isSome) = true := z
    rw [hx] at z
    exact absurd (Bool.and_eq_true_iff.mp z).2 Bool.false_ne_true
  xfs := F.xfs
  gd := F.gd
  un := F.un
  hp := hp
  own := F.own
  hpa := fun z => by cases z
  free := F.free
  fns := F.fns
  mts := F.mts
  mks := F.mks
  cls := F.cls
  clsOf := F.clsOf
  kr := F.kr
  exs := F.exs
  exm := F.exm
  gls := F.gls
theorem star_of {e : Expr} {es : List Expr} {env : Env} (h : noStar e = true) : starEach (e :: es) env = (false, eval e env) :: starEach es env := by
  cases e <;> first | rfl | cases h
theorem nostar_any {pos : Pos} {env : Env} : ∀ {es : List Expr}, es.all noStar = true → (backTo pos (starEach es env)).any (·.1) = false
  | [], _ => rfl
  | e :: es, h => by
    simp only [List.all_cons, Bool.and_eq_true] at h
    rw [star_of h.1]
    show (false || (backTo pos (starEach es env)).any (·.1)) = false
    rw [nostar_any h.2]; rfl
theorem chkA_star : ∀ {l : PK.Ls} {es : List Expr}, chkA l Γ es = true → es.all noStar = true
  | .nil, [], _ => rfl
  | .nil, _ :: _, h => by cases h
  | .cons a l, [], h => by cases h
  | .cons a l, e :: es, h => by
    have h : (noStar e && chkE a Γ e && chkA l Γ es) = true := h
    simp only [Bool.and_eq_true] at h
    simp only [List.all_cons, Bool.and_eq_true]
    exact ⟨h.1.1, chkA_star h.2⟩
theorem base_of {o : Expr} {nm : Str} {env : Env} {w : Sem Value} (h : baseB o = true) : attributeBase o nm env w = w := by
  cases o with
  | Call f args kws p =>
    cases f with
    | Name x q =>
      cases args with
      | nil =>
        cases kws with
        | nil => cases h
        | cons _ _ => rfl
      | cons _ _ => rfl
    | _ => rfl
  | _ => rfl
theorem set_of {e : Expr} {env : Env} (h : isSet e = false) : ∀ x, foldedSetIterable e env x = pure x := by
  intro x
  cases e <;> first | rfl | cases h
abbrev EV (cl : List Nat → Nat → List PK.D → Cells → PK.R) (gl : Nat → Option PK.D) (m : List Nat) (l : PK.L) : Ev := fun s G => PK.eval cl gl m l s G
abbrev EVs (cl : List Nat → Nat → List PK.D → Cells → PK.R) (gl : Nat → Option PK.D) (m : List Nat) (l : PK.Ls) : Ev := fun s G => PK.evals cl gl m l s G
theorem excIx_some {x : Str} {j : Nat} (h : excIx Γ x = some j) : Γ.exn[j]? = some x ∧ j < Γ.exn.length := by
  obtain ⟨h1, h2, _⟩ := List.findIdx?_eq_some_iff_getElem.mp h
  have h2 := of_decide_eq_true h2
  exact ⟨by rw [List.getElem?_eq_getElem h1, h2], h1⟩
theorem clsB_ok (F : Fits Γ X lk cl gl) {c : Nat} (hc : c < Γ.exn.length) {z : Str} {b : Bool} (h : clsB Γ c z b = true) : ∃ C, Gl X z ∧ X.mg z = some (.ref C) ∧ (z == ("__debug__" : Str)) = false ∧ PySem.W.kitOne X.K (.ref (lk.EA c)) (.ref C) = some b := by
  unfold clsB at h
  cases q : excIx Γ z with
  | none => rw [q] at h; cases h
  | some j =>
    rw [q] at h
    simp only [Bool.and_eq_true, decide_eq_true_eq] at h
    obtain ⟨⟨h1, h2⟩, h3⟩ := h
    obtain ⟨e1, e2⟩ := excIx_some q
    refine ⟨lk.EA j, F.glo h1, (F.exs j z e1).1, by simpa [ndB] using h2, ?_⟩
    rw [(F.exm c j hc e2).2, h3]
theorem clssG_ok (F : Fits Γ X lk cl gl) {c : Nat} (hc : c < Γ.exn.length) : ∀ {es : List Expr}, clssB.clssG Γ c es = true → ∃ Cs, ClsEs X es Cs ∧ Cs.length = es.length
  | [], _ => ⟨[], .nil, rfl⟩
  | e :: es, h => by
    cases e with
    | Name z p =>
      have h : ((clsB Γ c z true || clsB Γ c z false) && clssB.clssG Γ c es) = true := h
      obtain ⟨h1, h2⟩ := Bool.and_eq_true_iff.mp h
      obtain ⟨Cs, r1, r2⟩ := clssG_ok F hc h2
      rcases Bool.or_eq_true_iff.mp h1 with h1 | h1
      · obtain ⟨C, g1, g2, g3, _⟩ := clsB_ok F hc h1
        exact ⟨C :: Cs, .cons g1 g2 g3 r1, by rw [List.length_cons, List.length_cons, r2]⟩
      · obtain ⟨C, g1, g2, g3, _⟩ := clsB_ok F hc h1
        exact ⟨C :: Cs, .cons g1 g2 g3 r1, by rw [List.length_cons, List.length_cons, r2]⟩
    | _ => cases h
theorem clssB_ok (F : Fits Γ X lk cl gl) {c : Nat} (hc : c < Γ.exn.length) : ∀ {es : List Expr} {b : Bool}, clssB Γ c es b = true → ∃ Cs, ClsEs X es Cs ∧ Cs.length = es.length ∧ PySem.W.kitAny X.K (.ref (lk.EA c)) (Cs.map Value.ref) = some b
  | [], b, h => ⟨[], .nil, rfl, by
      have h : (!b) = true := h
      cases b with
      | true => cases h
      | false => exact kitAny_nil⟩
  | e :: es, b, h => by
    cases e with
    | Name z p =>
      have h : ((clsB Γ c z true && b && clssB.clssG Γ c es) || (clsB Γ c z false && clssB Γ c es b)) = true := h
      rcases Bool.or_eq_true_iff.mp h with h | h
      · simp only [Bool.and_eq_true] at h
        obtain ⟨⟨h1, h2⟩, h3⟩ := h
        obtain ⟨Cs, r1, r2⟩ := clssG_ok F hc h3
        obtain ⟨C, g1, g2, g3, g4⟩ := clsB_ok F hc h1
        exact ⟨C :: Cs, .cons g1 g2 g3 r1, by rw [List.length_cons, List.length_cons, r2], kitAny_cons g4 (fun z => by cases z) fun _ => h2⟩
      · obtain ⟨h1, h2⟩ := Bool.and_eq_true_iff.mp h
        obtain ⟨Cs, r1, r2, r3⟩ := clssB_ok F hc h2
        obtain ⟨C, g1, g2, g3, g4⟩ := clsB_ok F hc h1
        exact ⟨C :: Cs, .cons g1 g2 g3 r1, by rw [List.length_cons, List.length_cons, r2], kitAny_cons g4 (fun _ => r3) fun z => by cases z⟩
    | _ => cases h
theorem held_ok (F : Fits Γ X lk cl gl) {n : Option Nat} {y : Str} (h : heldB Γ n y = true) : ∃ i, n = some i ∧ X.N[i]? = some y ∧ Vis X.env.scope y ∧ (y == ("__debug__" : Str)) = false ∧ (y == ("__classdict__" : Str)) = false := by
  unfold heldB at h
  cases n with
  | none => cases h
  | some i =>
    simp only [Bool.and_eq_true, decide_eq_true_eq] at h
    obtain ⟨⟨⟨h1, h2⟩, h3⟩, h4⟩ := h
    exact ⟨i, rfl, by rw [F.hN]; exact h1, F.vis h2, by simpa [ndB] using h3, by simpa [ncB] using h4⟩
def isCall : Expr → Bool
  | .Call .. => true
  | _ => false
theorem eqC_eq : ∀ {d d' : PK.D}, eqC d d' = true → d = d' := fun {d d'} h => by
  cases d <;> cases d' <;> first | rfl | (cases h; done) | (rw [of_decide_eq_true h])
theorem isx_ok (F : Fits Γ X lk cl gl) {n : Option Nat} {c : Nat} (hx : Γ.hx = some (n, c)) {b : Bool} {e : Expr} (h : isxB Γ (c % 1000) n b e = true) : LE X lk e (fun _ G => .ok (.bl b) G) ∧ isCall e = true := by
  obtain ⟨hc, a, oe, hp, hz, hf, hP⟩ := F.hot n c hx
  obtain ⟨x, hx⟩ : ∃ x, Γ.exn[c % 1000]? = some x := ⟨_, List.getElem?_eq_getElem hc⟩
  have E := (F.exs (c % 1000) x hx).2.2
  unfold isxB at h
  split at h
  · simp only [Bool.and_eq_true, decide_eq_true_eq] at h
    obtain ⟨⟨⟨h1, h2⟩, h3⟩, h4⟩ := h
    obtain ⟨i, rfl, g1, g2, g3, g4⟩ := held_ok F h3
    subst h1
    obtain ⟨b1, b2⟩ := F.blt h2
    simp only [Bool.or_eq_true, Bool.and_eq_true, decide_eq_true_eq] at h4
    rcases h4 with h4 | h4
    · obtain ⟨C, k1, k2, k3, k4⟩ := clsB_ok F hc h4
      exact ⟨le_is E.c hp hz hf hP g1 g2 g3 g4 b1 b2 k1 k2 k3 k4, rfl⟩
    · obtain ⟨⟨rfl, rfl⟩, h5⟩ := h4
      obtain ⟨b3, b4⟩ := F.blt h5
      exact ⟨le_isV E hp hz hf hP g1 g2 g3 g4 b1 b2 b3 b4, rfl⟩
  · simp only [Bool.and_eq_true, decide_eq_true_eq] at h
    obtain ⟨⟨⟨⟨h1, h2⟩, h3⟩, h4⟩, h5⟩ := h
    obtain ⟨i, rfl, g1, g2, g3, g4⟩ := held_ok F h3
    obtain ⟨Cs, k1, k2, k3⟩ := clssB_ok F hc h4
    subst h1
    obtain ⟨b1, b2⟩ := F.blt h2
    exact ⟨le_isT E.c hp hz hf hP g1 g2 g3 g4 b1 b2 k1 (by rw [k2]; exact h5) k3, rfl⟩
  · cases h
theorem ask_ok (F : Fits Γ X lk cl gl) {n : Option Nat} {c : Nat} (hx : Γ.hx = some (n, c)) {d : PK.D} {e : Expr} (h : askB Γ c n d e = true) : LE X lk e (fun _ G => .ok d G) ∧ isCall e = true := by
  obtain ⟨hc, a, oe, hp, hz, hf, hP⟩ := F.hot n c hx
  unfold askB at h
  split at h
  · simp only [Bool.and_eq_true, List.any_eq_true, decide_eq_true_eq] at h
    obtain ⟨⟨⟨⟨⟨x', c', d'⟩, hm, ⟨e1, e2⟩, e3⟩, h2⟩, h3⟩, h4⟩ := h
    dsimp only at e1 e2 e3
    subst e1
    subst e2
    cases eqC_eq e3
    obtain ⟨f, fd, y, k, T, hr, g1, g2, g3⟩ := F.xfs _ _ _ hm
    obtain ⟨i, rfl, k1, k2, k3, k4⟩ := held_ok F h4
    exact ⟨le_E T hr hp hz hf hP g3 (F.glo h2) g1 g2 (by simpa [ndB] using h3) k1 k2 k3 k4, rfl⟩
  · cases h
theorem hot_ok (F : Fits Γ X lk cl gl) {d : PK.D} {e : Expr} (h : hotB Γ d e = true) : LE X lk e (fun _ G => .ok d G) ∧ isCall e = true := by
  unfold hotB at h
  split at h
  · rename_i n c q
    rcases Bool.or_eq_true_iff.mp h with h | h
    · unfold isxD at h
      split at h
      · exact isx_ok F q h
      · cases h
    · exact ask_ok F q h
  · cases h
structure LX (X : Cx) (lk : Lk) (e : Expr) (ev : Ev) : Prop where
  le : LE X lk e ev
  lt : notIf e = true → LT X lk e ev
  lw : isBop e = true → LW X lk e ev
  co : ∀ elt tg iter ifs scope pos, e = .ListComp elt [⟨tg, iter, ifs, 0⟩] scope pos → X.calm = true → ∃ w own k pt one er ec eb, X.calm = true ∧ lk.Free ∧ ((CompOk X lk tg iter elt ifs scope own k pt one er ec eb ∧ ∀ s G, ev s G = compE w k (own.map (·.2)) pt one er ec eb s G) ∨ (CompOkX X lk tg iter elt ifs scope own k pt one er ec eb ∧ ∀ s G, ev s G = compX w k (own.map (·.2)) pt one er ec eb s G))
theorem lx_of {e : Expr} {ev : Ev} (h : LE X lk e ev) (he : ∀ whole, isTrue e X.env whole = (do let v ← whole; standAt e.pos; holding [v] (truthy v))) (hb : isBop e = false) (hc : isComp e = false) : LX X lk e ev :=
  ⟨h, fun _ => lt_val h he, fun z => by rw [hb] at z; (exact absurd z Bool.false_ne_true), fun _ _ _ _ _ _ z _ => by rw [z] at hc; cases hc⟩
theorem args_len : ∀ {l : PK.Ls} {es : List Expr}, chkA l Γ es = true → ∀ {s : PK.Env} {G G' : Cells} {v : PK.D}, PK.evals cl gl m l s G = .ok v G' → ∃ ds, v = .tup ds ∧ ds.length = es.length
  | .nil, [], _, s, G, G', v, q => by cases q; exact ⟨[], rfl, rfl⟩
  | .nil, _ :: _, h, _, _, _, _, _ => by cases h
  | .cons a l, [], h, _, _, _, _, _ => by cases h
  | .cons a l, e :: es, h, s, G, G', v, q => by
    have h : (noStar e && chkE a Γ e && chkA l Γ es) = true := h
    simp only [Bool.and_eq_true] at h
    have q : ((PK.eval cl gl m a s G).bind fun x G1 => (PK.evals cl gl m l s G1).bind fun xs G2 => PK.tupK xs (fun ds => .ok (.tup (x :: ds)) G2) .bad) = .ok v G' := q
    cases q1 : PK.eval cl gl m a s G with
    | ok x G1 =>
      rw [q1] at q
      have q : ((PK.evals cl gl m l s G1).bind fun xs G2 => PK.tupK xs (fun ds => .ok (.tup (x :: ds)) G2) .bad) = .ok v G' := q
      cases q2 : PK.evals cl gl m l s G1 with
      | ok xs G2 =>
        rw [q2] at q
        obtain ⟨ds, rfl, hl⟩ := args_len h.2 q2
        cases q
        exact ⟨x :: ds, rfl, by rw [List.length_cons, List.length_cons, hl]⟩
      | exc c G2 => rw [q2] at q; cases q
      | bad => rw [q2] at q; cases q
    | exc c G1 => rw [q1] at q; cases q
    | bad => rw [q1] at q; cases q
theorem tys_of (F : Fits Γ X lk cl gl) : ∀ {ts : List PK.Ty} {es : List Expr}, chkTys Γ ts es = true → TyEs X ts es
  | [], [], _ => .nil
  | y :: ts, e :: es, h => by
    cases e with
    | Name x p =>
      have h : (!tyOwn y && decide (x = Str.ofString (tyS y)) && bltB Γ x && chkTys Γ ts es) = true := h
      simp only [Bool.and_eq_true, Bool.not_eq_true', decide_eq_true_eq] at h
      obtain ⟨⟨⟨h1, h2⟩, h3⟩, h4⟩ := h
      subst h2
      obtain ⟨g1, g2⟩ := F.blt h3
      exact .cons h1 g1 g2 (tys_of F h4)
    | _ => cases h
  | [], _ :: _, h => by cases h
  | _ :: _, [], h => by cases h
end
end PKS
namespace PKS
open PySem PySem.Spec PyProof.Rows L2
section
variable {prog : Program} {w : World} {A : Around} {E : Value → Shared → Prop} {s : Shared}
abbrev nil0 (c : Nat) : Obj := { cls := .type "list", data := .seq #[] c }
theorem hint_known {x f : Value} {T id nm : String} {Q : Bool → Shared → Prop} (ty : s.TypeIs x T) (self : isSubtype (.type T) (.type T) = pure true) (h1 : typeLookup (.type T) "__len__" = pure none) (ef : f = .builtin id)
    (h2 : typeLookup (.type T) "__length_hint__" = pure (some f)) (parts : splitId id = some (T, nm)) (k : f = .builtin "list_reverseiterator.__length_hint__") (q : Q false s) : wpAny (model prog w) A (Builtin.List.listLengthHint x) Q E s := by
  refine wpAny_bind (wpAny_specialOf ty h1 (wpAny_bind (wpAny_specialOf ty h2 ?_)))
  subst ef
  simp only [parts]
  refine wpAny_bind (wpAny_isInstance (b := true) ty self ?_)
  rw [k]
  exact wpAny_pure q
theorem rev_init {it l S : Addr} {i : Int} {R : Result → Shared → Prop} (hS : s.heap.get? S = some (nil0 0)) (hi : s.heap.IsRevIter it l i) (ne : S ≠ it)
    (k : ∀ h' c', h'.get? S = some (nil0 c') → Heap.SameBut S s.heap h' → codeAny (model prog w) A (.builtin "list.extend.loop" ⟨[.ref S, .ref it, .none], []⟩) R { s with heap := h' }) :
    wpAny (model prog w) A.in1 (Builtin.«list.__init__» ⟨[.ref S, .ref it], []⟩) (fun fin s' => match fin with | .done f => R (.ok f) s' | .again c' => c'.quiet = true ∧ codeAny (model prog w) A c' R s') (fun e s' => R (.error e) s') s := by
  have hi' : (s.heap.update S (Obj.mapSeq fun _ => (#[] : Array Value))).IsRevIter it l i := hi.at fun o e => (Heap.get?_update_other _ _ ne).trans e
  have ty : Shared.TypeIs { s with heap := s.heap.update S (Obj.mapSeq fun _ => (#[] : Array Value)) } (.ref it) "list_reverseiterator" := Heap.IsRevIter.typeIs hi'
  unfold Builtin.«list.__init__»
  wp_walk using wpAny_typeOf ty
  rw [if_neg (by simp [Builtin.List.listSameRef, ne])]
  refine wpAny_bind (wpAny_pyIter_revIter hi' (wpAny_bind (wpAny_holding (hint_known ty (by rw [isSubtype_type]; kernel_rfl) RT.nolen_lri rfl RT.hint_lri (nm := "__length_hint__") (by decide +kernel) rfl ?_))))
  exact wpAny_pure ⟨plainId_quiet F.plain_extend_loop _, k _ _ (Heap.get?_update_self _ hS rfl) (Heap.SameBut.update ..)⟩
theorem call_list_rev {it l : Addr} {items : Array Value} {Q : Value → Shared → Prop} (hh : A.handled = none) (hi : s.heap.IsRevIter it l ((items.size : Int) - 1)) (hl : s.heap.IsList l items) (hne : l ≠ it) (hn : items.size ≤ sizeLine)
    (hQ : ∀ (h' : Heap) (tk : Nat) (acc : Array Value) (c' : Nat), (∀ b o, b ≠ it → s.heap.get? b = some o → h'.get? b = some o) → h'.get? s.heap.objs.size = some { cls := .type "list", dict := none, data := .seq acc c', slots := #[] } →
      ItemsOf (fun i v => items[items.size - 1 - i]? = some v) acc items.size → Q (.ref s.heap.objs.size) { s with heap := h', toks := tk }) :
    wpAny (model prog w) A (call (.type "list") [.ref it]) Q E s := by
  obtain ⟨_, gi, _⟩ := id hi
  obtain ⟨_, gl, _⟩ := id hl
  refine callType_codes (Q₁ := fun v s₁ => v = .ref s.heap.objs.size ∧ s₁ = { s with heap := s.heap.push (nil0 0) }) F.called_list (F.typeCall_list_1 _) F.entry_list_init (code_list_new _ ⟨rfl, rfl⟩) ?_
  rintro - - ⟨rfl, rfl⟩
  generalize ht : s.heap.push (nil0 0) = h1
  have top : h1.get? s.heap.objs.size = some (nil0 0) := ht ▸ Heap.get?_push_size _ rfl
  have up : ∀ b o, s.heap.get? b = some o → h1.get? b = some o := fun b o q => ht ▸ Heap.get?_push_of_some _ q
  refine ⟨⟨_, top, rfl⟩, F.args_list_init_2 _ _, rev_init (A := A.in1) top (hi.at (up it)) (Nat.ne_of_gt (Heap.lt_size gi)) fun h2 c2 at2 same2 => ?_⟩
  have two : ∀ b o, s.heap.get? b = some o → h2.get? b = some o := fun b o q => (same2.2 b (Nat.ne_of_lt (Heap.lt_size q))).trans (up b o q)
  have off : s.heap.objs.size ∉ [it, l] := fun m => by
    rcases m with _ | ⟨_, m⟩
    · exact Nat.lt_irrefl _ (Heap.lt_size gi)
    · exact Nat.lt_irrefl _ (List.mem_singleton.mp m ▸ Heap.lt_size gl)
  have W := (Walks.listRev (prog := prog) (w := w) (A := A.in1.in1) hh it l hne items).toS
  have st : h2.IsRevIter it l ((items.size : Int) - 1 - ((0 : Nat) : Int)) := by
    rw [Int.natCast_zero, Int.sub_zero]
    exact hi.at (two it)
  refine codeAny_extend_loopS W hn _ off _ items.size 0 _ _ _ rfl (Nat.zero_le _) ⟨Nat.zero_le _, st, hl.at (two l)⟩ at2 (ItemsOf.nil _) fun s' acc c' mv at3 its => ⟨rfl, ?_⟩
  rw [Moved.eq_with mv]
  refine hQ s'.heap s'.toks acc c' (fun b o ne q => mv.heap b o (fun m => ?_) (two b o q)) at3 its
  rcases m with _ | ⟨_, m⟩
  · exact Nat.lt_irrefl _ (Heap.lt_size q)
  · exact ne (List.mem_singleton.mp m)
end
def tLstRev (K : PySem.W.Frag) (te : TE) : TE := fun σ H Q => te σ H fun v H1 => ∃ (a : Addr) (xs : List V), v = .ref a ∧ SqL K H1 a xs ∧ ∀ q, H1 q = none → Q (.ref q) (upd H1 q (.lst xs.reverse))
section
variable {X : Cx}
theorem pe_lstRev {e : Expr} {te : TE} {p p2 pos pos2 : Pos} (hc : X.calm = true) (hg : Gl X "list") (hm : X.mg "list" = none) (hg2 : Gl X "reversed") (hm2 : X.mg "reversed" = none) (he : PE X e te)
    (hs : starEach [e] X.env = (false, eval e X.env) :: starEach [] X.env)
    (hs2 : starEach [.Call (.Name "reversed" p2) [e] [] pos2] X.env = (false, eval (.Call (.Name "reversed" p2) [e] [] pos2) X.env) :: starEach [] X.env := by rfl) :
    PE X (.Call (.Name "list" p) [.Call (.Name "reversed" p2) [e] [] pos2] [] pos) (tLstRev X.K te) := by
  refine ⟨fun pins s σ H Q I h => by_class1 hg hm boot_list I hs2 (by_class1 hg2 hm2 PyProof.Rows.boot_reversed I hs (thn (he.run pins s σ H _ I h) ?_))⟩
  rintro u s1 ⟨v, H1, J, r, a, xs, rfl, hq, q⟩
  obtain rfl : u = .ref a := r
  obtain ⟨its, rv, lst, hz⟩ := J.list hq
  have la : a < s1.heap.objs.size := lst.lt
  refine call_reversed_list lst.isList ?_
  generalize ht : s1.heap.push (revObj a ((its.toArray.size : Int) - 1)) = h2
  have up : ∀ b o, s1.heap.get? b = some o → h2.get? b = some o := fun b o z => ht ▸ Heap.get?_push_of_some _ z
  have top : h2.get? s1.heap.objs.size = some (revObj a ((its.toArray.size : Int) - 1)) := ht ▸ Heap.get?_push_size _ rfl
  have le : s1.heap.objs.size ≤ h2.objs.size := Nat.le_of_lt (Heap.lt_size top)
  refine call_list_rev (s := { s1 with heap := h2 }) (J.ok.hd hc) ⟨_, top, rfl, rfl⟩ (lst.isList.at (up a)) (Nat.ne_of_lt la) (by rw [List.size_toArray, ← rv.length]; exact hz) fun h3 tk acc c same at3 its' =>
    ⟨.ref h2.objs.size, upd H1 h2.objs.size (.lst xs.reverse), J.laid (t' := tk) (fun b o z => same b o (Nat.ne_of_lt (Heap.lt_size z)) (up b o z)) le ⟨by rw [List.length_reverse]; exact hz, acc.toList, c, RT.vals_rev rv its', ?_⟩, rfl, q _ (J.hok.fresh le)⟩
  rwa [Array.toArray_toList]
variable {lk : Lk} {e : Expr} {ea : Ev} {p p2 pos pos2 : Pos}
theorem le_lrev (w : Bool) (hc : X.calm = true) (hg : Gl X "list") (hm : X.mg "list" = none) (hg2 : Gl X "reversed") (hm2 : X.mg "reversed" = none) (ha : LE X lk e ea)
    (hs : starEach [e] X.env = (false, eval e X.env) :: starEach [] X.env) :
    LE X lk (.Call (.Name "list" p) [.Call (.Name "reversed" p2) [e] [] pos2] [] pos) (fun s G => (ea s G).bind fun x G1 => PK.revD w x G1) :=
  pe_imp (pe_lstRev hc hg hm hg2 hm2 ha hs) fun σ H Q ⟨ρ, G, s, r, en, h⟩ => ⟨ρ, G, s, r, en, h.bind fun v G1 _ ρ1 H1 x e1 r1 p1 h1 => rev_val r1 p1 h1⟩
end
end PKS
namespace PKS
open PySem PySem.Spec PyProof.Rows L2
section
variable {prog : Program} {w : World} {A : Around} {E : Value → Shared → Prop} {s : Shared}
abbrev setObj0 (led : Bool) : Obj := { cls := .type "set", dict := none, data := .set #[] 0 (.fresh 0 0 led) }
theorem set_called {v : Value} {T : String} {o : Obj} {Hb : Heap → Prop} {Q : Value → Shared → Prop} (B : Begins v o Hb) (hb : ∀ led, Hb (s.heap.push (setObj0 led))) (tv : ∀ o, Shared.TypeIs { s with heap := s.heap.push o } v T) (noSet : isSubtype (.type T) (.type "set") = pure false) (noFrozen : isSubtype (.type T) (.type "frozenset") = pure false) (noDict : (Value.type T == Value.type "dict") = false)
    (k : ∀ led, codeAny (model prog w) A.in1.in1 (.builtin "set.update.loop" ⟨[.ref s.heap.objs.size, .ref (s.heap.objs.size + 1)], []⟩) (fun r s3 => r = .ok (.ret .none) ∧ Q (.ref s.heap.objs.size) s3) { s with heap := (s.heap.push (setObj0 led)).push o }) :
    wpAny (model prog w) A (call (.type "set") [v]) Q E s := by
  have made := F.called_set.made
  have self := F.called_set.sub
  have notType := F.called_set.notType
  have create := F.called_set.canCreate
  have args := F.typeCall_set_1 v
  obtain ⟨c, tl, mro⟩ := F.called_set.mro
  refine wpAny_call (codeAny_of_tree ?_)
  show wpAny _ _ (callAny (.type "set") _) _ _ _
  refine wpAny_pure ⟨Code.quiet_builtin _ (by decide +kernel), codeAny_builtin F.entry_type_call ?_⟩
  rw [Around.under_plain (weight_type_call_type "set" [v] []) rfl]
  wp_walk
  refine codeAny_mono (code_set_new_1 v (E := E) (Q₁ := fun r s1 => ∃ led, r = .ref s.heap.objs.size ∧ s1 = { s with heap := s.heap.push (setObj0 led) }) fun led => ⟨led, rfl, rfl⟩) ?_
  rintro (e | (_ | _ | _ | obj)) s1 h
  · exact h
  · exact h.elim
  · exact h.elim
  · exact h.elim
  obtain ⟨led, rfl, rfl⟩ := h
  have ty : Shared.TypeIs { s with heap := s.heap.push (setObj0 led) } (.ref s.heap.objs.size) "set" := ⟨_, Heap.get?_push_size _ rfl, rfl⟩
  refine wpAny_bind (wpAny_isInstance (b := true) ty self (wpAny_bind (wpAny_holding ?_)))
  refine wpAny_callSpecial?_slot ty F.called_set.init (wpAny_call (codeAny_call_builtin F.called_set.init.plain F.entry_set_init (check_set_init_1 ty ?_)))
  have vt := tv (setObj0 led)
  unfold Builtin.«set.__init__»
  have go : ∀ {A' : Around} {E' : Value → Shared → Prop} {Q' : Value → Shared → Prop}, Q' (.ref (s.heap.push (setObj0 led)).objs.size) { s with heap := (s.heap.push (setObj0 led)).push o } → wpAny (model prog w) A' (pyIter v) Q' E' { s with heap := s.heap.push (setObj0 led) } := fun q => B.iter _ _ _ _ _ _ (hb led) q
  wp_walk using wpAny_typeOf ty, wpAny_typeOf vt, go
  rw [show (s.heap.push (setObj0 led)).objs.size = s.heap.objs.size + 1 from Heap.size_push ..]
  refine codeAny_mono (k led) ?_
  rintro _ s3 ⟨rfl, q⟩
  exact wpAny_pure (wpAny_pure (wpAny_pure q))
end

section
variable {K : Type} [DecidableEq K]
open PK (uniq)
theorem uniq_snoc (ks : List K) (k : K) : uniq (ks ++ [k]) = if k ∈ uniq ks then uniq ks else uniq ks ++ [k] := by
  unfold uniq
  rw [List.foldl_append]
  rfl
theorem mem_uniqA (x : K) : ∀ (ks acc : List K), x ∈ ks.foldl (fun acc k => if k ∈ acc then acc else acc ++ [k]) acc ↔ x ∈ acc ∨ x ∈ ks
  | [], acc => by simp
  | k :: ks, acc => by
    rw [List.foldl_cons, mem_uniqA x ks, List.mem_cons]
    by_cases c : k ∈ acc
    · rw [if_pos c]
      exact ⟨fun z => z.imp_right .inr, fun z => z.elim .inl fun z => z.elim (fun e => .inl (e ▸ c)) .inr⟩
    · rw [if_neg c, List.mem_append, List.mem_singleton, or_assoc]
theorem mem_uniq {x : K} {ks : List K} : x ∈ uniq ks ↔ x ∈ ks := by
  exact (mem_uniqA x ks []).trans (by simp)
theorem uniq_le : ∀ (ks acc : List K), (ks.foldl (fun acc k => if k ∈ acc then acc else acc ++ [k]) acc).length ≤ acc.length + ks.length
  | [], acc => Nat.le_refl _
  | k :: ks, acc => by
    rw [List.foldl_cons]
    refine Nat.le_trans (uniq_le ks _) ?_
    split
    · rw [List.length_cons]; omega
    · simp only [List.length_append, List.length_cons, List.length_nil]; omega
end
open PK (uniq)
section
variable {prog : Program} {w : World} {A : Around} {s : Shared} {K : Type} [DecidableEq K] {knd : KeyKind prog w K} {it S : Addr} {fp wr : List Addr} {n : Nat} {P : Nat → Value → Prop} {St : Nat → Heap → Prop} {R : Result → Shared → Prop}
def Holds (knd : KeyKind prog w K) (h : Heap) (S : Addr) (ks : List K) : Prop := h.SetOf knd S (fun k => decide (k ∈ ks)) (uniq ks).length
theorem Holds.snoc {h : Heap} {ks : List K} {k : K} (q : h.SetOf knd S (fun k' => decide (k' ∈ ks) || decide (k' = k)) (if decide (k ∈ ks) = true then (uniq ks).length else (uniq ks).length + 1)) : Holds knd h S (ks ++ [k]) := by
  have e1 : (fun k' => decide (k' ∈ ks) || decide (k' = k)) = fun k' => decide (k' ∈ ks ++ [k]) := funext fun k' => by simp
  have e2 : (if decide (k ∈ ks) = true then (uniq ks).length else (uniq ks).length + 1) = (uniq (ks ++ [k])).length := by
    rw [uniq_snoc]
    by_cases c : k ∈ ks
    · rw [if_pos (decide_eq_true c), if_pos (mem_uniq.mpr c)]
    · rw [if_neg (by simpa using c), if_neg (fun z => c (mem_uniq.mp z)), List.length_append, List.length_singleton]
  unfold Holds
  rw [← e1, ← e2]
  exact q
theorem set_rounds (W : Walks prog w A.in1 it fp wr n P St) (off : S ∉ fp) (ks : List K) (len : ks.length = n) (are : ∀ i v, P i v → ∃ k, ks[i]? = some k ∧ knd.is k v = true ∧ v.scannable = true) (room : n + 1 < scanBound) :
    ∀ (m i : Nat) (s : Shared), i + m = n → St i s.heap → Holds knd s.heap S (ks.take i) →
      (∀ h' tk, Holds knd h' S ks → (∀ b o, b ≠ S → b ∉ wr → s.heap.get? b = some o → h'.get? b = some o) → R (.ok (.ret .none)) { s with heap := h', toks := tk }) →
      codeAny (model prog w) A (.builtin "set.update.loop" ⟨[.ref S, .ref it], []⟩) R s
  | 0, i, s, e, st, q, fin => by
    refine codeAny_builtin F.entry_set_update_loop (Around.under_plainId F.plain_set_update_loop ⟨[.ref S, .ref it], []⟩ ▸ wpAny_bind (W.done _ _ _ (by rw [← e]; exact st) fun h' tk same => wpAny_pure (fin h' tk ?_ fun b o _ hb g => same b o hb g)))
    have all : ks.take i = ks := List.take_of_length_le (by omega)
    rw [all] at q
    obtain ⟨o, es, ep, t, g, r⟩ := q
    exact ⟨o, es, ep, t, same S o (fun z => off (W.sub S z)) g, r⟩
  | m + 1, i, s, e, st, q, fin => by
    refine codeAny_builtin F.entry_set_update_loop (Around.under_plainId F.plain_set_update_loop ⟨[.ref S, .ref it], []⟩ ▸ wpAny_bind (W.item i _ _ _ (by omega) st fun v h1 tk1 pv st1 same1 => ?_))
    obtain ⟨k, hk, is, scan⟩ := are i v pv
    have q1 : Holds knd h1 S (ks.take i) := let ⟨o, es, ep, t, g, r⟩ := q; ⟨o, es, ep, t, same1 S o (fun z => off (W.sub S z)) g, r⟩
    have few : (uniq (ks.take i)).length + 1 < scanBound := by
      have := uniq_le (ks.take i) []
      have l : (ks.take i).length ≤ n := by rw [List.length_take]; omega
      unfold uniq
      simp only [List.length_nil] at this
      omega
    refine wpAny_bind (wpAny_holding (wpAny_holding (wpAny_bind (knd.pyHash is (wpAny_setAddHashed_of (s := { s with heap := h1, toks := tk1 + 1 }) is scan q1 few fun h2 sb q2 => ?_)))))
    have next : ks.take (i + 1) = ks.take i ++ [k] := by rw [List.take_succ, hk]; rfl
    refine wpAny_pure ⟨plainId_quiet F.plain_set_update_loop _, set_rounds W off ks len are room m (i + 1) { s with heap := h2, toks := tk1 + 1 } (by omega) ?_ (by rw [next]; exact Holds.snoc q2) fun h' tk q' same' => fin h' tk q' fun b o hb hw g => same' b o hb hw ((sb.2 b hb).trans (same1 b o hw g))⟩
    exact W.frame _ _ _ st1 fun b hb o g => (sb.2 b fun z => off (z ▸ hb)).trans g
end
theorem noset_list : isSubtype (.type "list") (.type "set") = pure false ∧ isSubtype (.type "list") (.type "frozenset") = pure false := ⟨by rw [isSubtype_type]; kernel_rfl, by rw [isSubtype_type]; kernel_rfl⟩
theorem noset_tuple : isSubtype (.type "tuple") (.type "set") = pure false ∧ isSubtype (.type "tuple") (.type "frozenset") = pure false := ⟨by rw [isSubtype_type]; kernel_rfl, by rw [isSubtype_type]; kernel_rfl⟩
section
variable {prog : Program} {w : World} {A : Around} {E : Value → Shared → Prop} {s : Shared} {l : Addr} {items : Array Value} {ks : List L2.Key} {Q : Value → Shared → Prop}
abbrev KeysIn (prog : Program) (w : World) (ks : List L2.Key) (items : Array Value) : Prop := ks.length = items.size ∧ ∀ (i : Nat) (v : Value), items[i]? = some v → ∃ k, ks[i]? = some k ∧ (mixKind prog w).is k v = true ∧ v.scannable = true
abbrev GivesSet (prog : Program) (w : World) (s : Shared) (ks : List L2.Key) (Q : Value → Shared → Prop) : Prop := ∀ h' tk, Holds (mixKind prog w) h' s.heap.objs.size ks → (∀ b o, s.heap.get? b = some o → h'.get? b = some o) → Q (.ref s.heap.objs.size) { s with heap := h', toks := tk }
theorem set_from {T : String} {o : Obj} {Hb : Heap → Prop} {St : Nat → Heap → Prop} (B : Begins (.ref l) o Hb) (hb : ∀ h', (∀ b o, s.heap.get? b = some o → h'.get? b = some o) → Hb h') (tv : s.TypeIs (.ref l) T)
    (noSet : isSubtype (.type T) (.type "set") = pure false ∧ isSubtype (.type T) (.type "frozenset") = pure false) (noDict : (Value.type T == Value.type "dict") = false) (lt : l < s.heap.objs.size)
    (W : Walks prog w A.in1.in1.in1 (s.heap.objs.size + 1) [s.heap.objs.size + 1, l] [s.heap.objs.size + 1] items.size (fun i v => items[i]? = some v) St)
    (st : ∀ h', h'.get? (s.heap.objs.size + 1) = some o → (∀ b o, s.heap.get? b = some o → h'.get? b = some o) → St 0 h') (are : KeysIn prog w ks items) (room : items.size + 1 < scanBound) (hQ : GivesSet prog w s ks Q) :
    wpAny (model prog w) A (call (.type "set") [.ref l]) Q E s := by
  have up : ∀ (o1 o2 : Obj) b o, s.heap.get? b = some o → ((s.heap.push o1).push o2).get? b = some o := fun _ _ _ _ q => Heap.get?_push_of_some _ (Heap.get?_push_of_some _ q)
  refine set_called B (fun led => hb _ fun _ _ => Heap.get?_push_of_some _) (fun o => let ⟨ob, g, c⟩ := tv; ⟨ob, Heap.get?_push_of_some _ g, c⟩) noSet.1 noSet.2 noDict fun led => ?_
  have z : (s.heap.push (setObj0 led)).objs.size = s.heap.objs.size + 1 := Heap.size_push ..
  have off : s.heap.objs.size ∉ [s.heap.objs.size + 1, l] := fun m => by
    rcases List.mem_cons.mp m with e | m
    · exact Nat.succ_ne_self _ e.symm
    · exact Nat.lt_irrefl _ (List.mem_singleton.mp m ▸ lt)
  have start : Holds (mixKind prog w) ((s.heap.push (setObj0 led)).push o) s.heap.objs.size (ks.take 0) :=
    ⟨_, #[], 0, .fresh 0 0 led, Heap.get?_push_of_some _ (Heap.get?_push_size _ rfl), ⟨rfl, rfl, rfl⟩, rfl, fun _ m => (nomatch m), fun k => by simp, by decide, rfl, rfl⟩
  exact set_rounds W off ks are.1 are.2 room items.size 0 _ (Nat.zero_add _) (st _ (z ▸ Heap.get?_push_size _ B.free) (up _ _)) start fun h' tk q same =>
    ⟨rfl, hQ h' tk q fun b o g => same b o (Nat.ne_of_lt (Heap.lt_size g)) (fun m => Nat.lt_irrefl _ (Nat.lt_of_succ_lt (List.mem_singleton.mp m ▸ Heap.lt_size g))) (up _ _ b o g)⟩
theorem set_list (hh : A.handled = none) (hl : s.heap.IsList l items) (are : KeysIn prog w ks items) (room : items.size + 1 < scanBound) (hQ : GivesSet prog w s ks Q) : wpAny (model prog w) A (call (.type "set") [.ref l]) Q E s := by
  have lt : l < s.heap.objs.size := hl.elim fun _ q => Heap.lt_size q.1
  exact set_from (begins_list l items) (fun h' k => hl.at (k l)) (hl.elim fun _ q => ⟨_, q.1, q.2.1⟩) noset_list (by decide) lt (Walks.list (A := A.in1.in1.in1) hh _ l (Nat.ne_of_lt (Nat.lt_succ_of_lt lt)) items) (fun h' g k => ⟨⟨_, g, rfl, rfl⟩, hl.at (k l)⟩) are room hQ
theorem set_tuple (hh : A.handled = none) (hl : s.heap.IsTuple l items) (are : KeysIn prog w ks items) (room : items.size + 1 < scanBound) (hQ : GivesSet prog w s ks Q) : wpAny (model prog w) A (call (.type "set") [.ref l]) Q E s := by
  have lt : l < s.heap.objs.size := hl.elim fun _ q => Heap.lt_size q.1
  exact set_from (begins_tuple l items) (fun h' k => hl.at (k l)) (hl.elim fun _ q => ⟨_, q.1, q.2.1⟩) noset_tuple (by decide) lt (Walks.tuple (A := A.in1.in1.in1) hh _ l (Nat.ne_of_lt (Nat.lt_succ_of_lt lt)) items) (fun h' g k => ⟨⟨_, g, rfl, rfl⟩, hl.at (k l)⟩) are room hQ
end
end PKS
namespace PKS
open PySem PySem.Spec PyProof.Rows L2
open PK (uniq)
def tSetLen (K : PySem.W.Frag) (te : TE) : TE := fun σ H Q => te σ H fun v H1 => ∃ (a : Addr) (ks : List L2.Key), v = .ref a ∧ (SqL K H1 a (ks.map kV) ∨ SqT K H1 a (ks.map kV)) ∧ ks.length ≤ 1000 ∧ Q (.int (uniq ks).length) H1
theorem keysIn {prog : Program} {w : World} {ks : List L2.Key} {its : List Value} (r : Vals (ks.map kV) its) : KeysIn prog w ks its.toArray := by
  have len := r.length
  rw [List.length_map] at len
  refine ⟨by rw [List.size_toArray]; exact len, fun i v hv => ?_⟩
  have lt : i < ks.length := by
    have := (Array.getElem?_eq_some_iff.mp hv).1
    rw [List.size_toArray] at this
    omega
  obtain ⟨u, hu, ru⟩ := r.get (i := i) (x := kV ks[i]) (by rw [List.getElem?_map, List.getElem?_eq_getElem lt]; rfl)
  obtain rfl : u = v := Option.some.inj (hu.symm.trans (by rw [← List.getElem?_toArray]; exact hv))
  refine ⟨ks[i], List.getElem?_eq_getElem lt, kV_is ru, ?_⟩
  generalize ks[i] = k at ru
  cases k with
  | inl _ => obtain ⟨_, rfl⟩ := ru; rfl
  | inr _ => obtain ⟨_, rfl⟩ := ru; rfl
section
variable {X : Cx} {e : Expr} {p p2 pos pos2 : Pos}
theorem pe_setLen {te : TE} (hc : X.calm = true) (hg : Gl X "len") (hm : X.mg "len" = none) (hg2 : Gl X "set") (hm2 : X.mg "set" = none) (he : PE X e te) (hs : starEach [e] X.env = (false, eval e X.env) :: starEach [] X.env) :
    PE X (.Call (.Name "len" p) [.Call (.Name "set" p2) [e] [] pos2] [] pos) (tSetLen X.K te) := by
  refine ⟨fun pins s σ H Q I h => Call_ (ld_blt I hg hm boot_len (callWith_builtin1 (args_cons (by_class1 hg2 hm2 boot_set I hs (thn (he.run pins s σ H _ I h) ?_)) rfl) rfl rfl))⟩
  rintro u s1 ⟨v, H1, J, r, a, ks, rfl, sq, few, q⟩
  obtain rfl : u = .ref a := r
  have told : ∀ {h' tk}, Holds (mixKind X.prog X.w) h' s1.heap.objs.size ks → (∀ b o, s1.heap.get? b = some o → h'.get? b = some o) →
      wpAny (model X.prog X.w) X.A (call (.builtin "len") [.ref s1.heap.objs.size]) (EP X pins σ Q) X.xe { s1 with heap := h', toks := tk } := fun {h' tk} hold up => by
    obtain ⟨o, es, ep, t, g, ex, d, _, _, room, fit, n⟩ := hold
    have J1 := J.kept (t' := tk) up
    refine call_len_set g ex d fit (Int.lt_trans (Int.ofNat_lt.mpr room) (by decide)) ⟨.int (uniq ks).length, H1, J1.tok _, ⟨_, by rw [n]⟩, q⟩
  have small : ∀ {its : List Value}, Vals (ks.map kV) its → its.toArray.size + 1 < scanBound := fun {its} r => by
    have := r.length
    rw [List.length_map] at this
    rw [List.size_toArray]
    exact Nat.lt_of_le_of_lt (show its.length + 1 ≤ 1001 by omega) (by decide)
  rcases sq with sq | sq
  · obtain ⟨its, rv, lst, _⟩ := J.list sq
    exact set_list (J.ok.hd hc) lst.isList (keysIn rv) (small rv) fun h' tk hold up => args_nil (told hold up)
  · obtain ⟨its, rv, tup, _⟩ := J.tuple sq
    exact set_tuple (J.ok.hd hc) tup (keysIn rv) (small rv) fun h' tk hold up => args_nil (told hold up)
variable {lk : Lk} {ea : Ev}
theorem le_setlen (hc : X.calm = true) (hg : Gl X "len") (hm : X.mg "len" = none) (hg2 : Gl X "set") (hm2 : X.mg "set" = none) (ha : LE X lk e ea) (hs : starEach [e] X.env = (false, eval e X.env) :: starEach [] X.env) :
    LE X lk (.Call (.Name "len" p) [.Call (.Name "set" p2) [e] [] pos2] [] pos) (fun s G => (ea s G).bind fun x G1 => PK.setlenD x G1) := by
  refine pe_imp (pe_setLen hc hg hm hg2 hm2 ha hs) fun σ H Q ⟨ρ, G, s, r, en, h⟩ => ⟨ρ, G, s, r, en, h.bind fun v G1 _ ρ1 H1 x e1 r1 p1 h1 => ?_⟩
  unfold PK.setlenD at h1
  cases q : PK.seqD G1 v with
  | none => rw [q] at h1; exact h1.elim
  | some ds =>
    rw [q] at h1
    obtain ⟨a, vs, ex, tup, reps, lst, _⟩ := seq_of q r1 p1
    cases k : PK.keysD ds with
    | none => rw [show (some ds).bind PK.keysD = none from k] at h1; exact h1.elim
    | some ks =>
      rw [show (some ds).bind PK.keysD = some ks from k] at h1
      obtain rfl := keys_of reps k
      by_cases few : ks.length ≤ 1000
      · have h1 : OutE X.K lk (WXo X) σ ρ1 G1 H1 (if decide (ks.length ≤ 1000) = true then .ok (.int (uniq ks).length) G1 else .bad) Q := h1
        rw [if_pos (decide_eq_true few)] at h1
        exact ⟨a, ks, ex, tup, few, h1.here r1 rfl⟩
      · have h1 : OutE X.K lk (WXo X) σ ρ1 G1 H1 (if decide (ks.length ≤ 1000) = true then .ok (.int (uniq ks).length) G1 else .bad) Q := h1
        rw [if_neg (by simpa using few)] at h1
        exact h1.elim
end
end PKS
namespace PKS
open PySem PySem.Spec PyProof.Rows L2
inductive AtE (X : Cx) : PK.L → Expr → Prop
  | int {i : Int} {k : Nat} {p : Pos} : AtE X (.c (.int i)) (.Constant (.int i) k p)
  | str {i : Str} {k : Nat} {p : Pos} : AtE X (.c (.str i)) (.Constant (.str i) k p)
  | bl {i : Bool} {k : Nat} {p : Pos} : AtE X (.c (.bl i)) (.Constant (.bool i) k p)
  | non {k : Nat} {p : Pos} : AtE X (.c .non) (.Constant .none k p)
  | var {i : Nat} {y : Str} {p : Pos} (hN : X.N[i]? = some y) (hv : Vis X.env.scope y) (hd : (y == ("__debug__" : Str)) = false) (hcd : (y == ("__classdict__" : Str)) = false) : AtE X (.v i) (.Name y p)
theorem AtE.pe {X : Cx} {a : PK.L} {e : Expr} (h : AtE X a e) : ∃ te : TE, PE X e te ∧ ∀ (lk : Lk) (ρ : Nm) (n : Nat) (H : Hp) (s : PK.Env) (σ : L2.St) d, REnv X.K lk ρ n H s σ → PK.atomL a s = some d → ∃ v, Rep X.K lk ρ n H d v ∧ ∀ (Q : VK) (H' : Hp), Q v H' → te σ H' Q := by
  cases h with
  | int => exact ⟨_, pe_int, fun lk ρ n H s σ d en e => by cases e; exact ⟨_, rfl, fun Q H' q => q⟩⟩
  | str => exact ⟨_, pe_str, fun lk ρ n H s σ d en e => by cases e; exact ⟨_, rfl, fun Q H' q => q⟩⟩
  | bl => exact ⟨_, pe_bl, fun lk ρ n H s σ d en e => by cases e; exact ⟨_, rfl, fun Q H' q => q⟩⟩
  | non => exact ⟨_, pe_non, fun lk ρ n H s σ d en e => by cases e; exact ⟨_, rfl, fun Q H' q => q⟩⟩
  | @var i y p hN hv hd hcd => exact ⟨_, pe_var hN hv hd hcd, fun lk ρ n H s σ d en e => by
      have e : s[i]?.join = some d := e
      cases q : s[i]? with
      | none => rw [q] at e; cases e
      | some o =>
        rw [q] at e
        have e : o = some d := e
        subst e
        obtain ⟨v, h1, h2⟩ := en.at_ i d q
        exact ⟨v, h2, fun Q H' q => ⟨v, h1, q⟩⟩⟩
inductive AtEs (X : Cx) : PK.Ls → List (Option Expr) → List Expr → Prop
  | nil : AtEs X .nil [] []
  | cons {a b : PK.L} {l : PK.Ls} {k v : Expr} {ks : List (Option Expr)} {vs : List Expr} (ha : AtE X a k) (hb : AtE X b v) (r : AtEs X l ks vs) : AtEs X (.cons a (.cons b l)) (some k :: ks) (v :: vs)
theorem AtEs.len {X : Cx} {l : PK.Ls} {ks : List (Option Expr)} {vs : List Expr} (h : AtEs X l ks vs) : ks.length = vs.length ∧ ks.all (·.isSome) = true := by
  induction h with
  | nil => exact ⟨rfl, rfl⟩
  | cons _ _ _ ih => exact ⟨by rw [List.length_cons, List.length_cons, ih.1], by rw [List.all_cons, ih.2]; rfl⟩
theorem key_rep {K : PySem.W.Frag} {lk : Lk} {ρ : Nm} {n : Nat} {H : Hp} {d : PK.D} {v : V} {k : Key} (r : Rep K lk ρ n H d v) (e : PK.keyD d = some k) : v = kV k := by
  cases d with
  | int i => cases e; exact r
  | str i => cases e; exact r
  | _ => cases e
theorem AtEs.pps {X : Cx} {l : PK.Ls} {ks : List (Option Expr)} {vs : List Expr} (h : AtEs X l ks vs) (pos : Pos) : ∃ trs : List (TE × TE), PPs X pos ks vs trs ∧
    ∀ (lk : Lk) (ρ : Nm) (n : Nat) (H : Hp) (s : PK.Env) (σ : L2.St) ps kvs, REnv X.K lk ρ n H s σ → PK.pairsL l s = some ps → PK.keyP ps = some kvs →
      ∃ zs : List (Key × V), RepK X.K lk ρ n H kvs zs ∧ zs.length = ks.length ∧ ∀ (Q : List (V × V) → Hp → Prop) (H' : Hp), Q (zs.map fun kv => (kV kv.1, kv.2)) H' → tPairs trs σ H' Q := by
  induction h with
  | nil => exact ⟨[], pps_nil, fun lk ρ n H s σ ps kvs en e1 e2 => by
      cases e1; cases e2
      exact ⟨[], ⟨rfl, rfl⟩, rfl, fun Q H' q => q⟩⟩
  | @cons a b l k v ks vs ha hb r ih =>
    obtain ⟨trs, h1, h2⟩ := ih
    obtain ⟨ta, a1, a2⟩ := ha.pe
    obtain ⟨tb, b1, b2⟩ := hb.pe
    refine ⟨(ta, tb) :: trs, pps_cons a1 b1 h1, fun lk ρ n H s σ ps kvs en e1 e2 => ?_⟩
    have e1 : ((PK.atomL a s).bind fun x => (PK.atomL b s).bind fun y => (PK.pairsL l s).bind fun r => some ((x, y) :: r)) = some ps := e1
    cases q1 : PK.atomL a s with
    | none => rw [q1] at e1; cases e1
    | some x =>
      cases q2 : PK.atomL b s with
      | none => rw [q1, q2] at e1; cases e1
      | some y =>
        cases q3 : PK.pairsL l s with
        | none => rw [q1, q2, q3] at e1; cases e1
        | some ps2 =>
          rw [q1, q2, q3] at e1
          cases e1
          have e2 : ((PK.keyD x).bind fun k => (PK.keyP ps2).bind fun r => some ((k, y) :: r)) = some kvs := e2
          cases q4 : PK.keyD x with
          | none => rw [q4] at e2; cases e2
          | some kx =>
            cases q5 : PK.keyP ps2 with
            | none => rw [q4, q5] at e2; cases e2
            | some kvs2 =>
              rw [q4, q5] at e2
              cases e2
              obtain ⟨vx, c1, c2⟩ := a2 lk ρ n H s σ x en q1
              obtain ⟨vy, d1, d2⟩ := b2 lk ρ n H s σ y en q2
              obtain ⟨zs, f1, f2, f3⟩ := h2 lk ρ n H s σ ps2 kvs2 en q3 q5
              have ev := key_rep c1 q4
              subst ev
              refine ⟨(kx, vy) :: zs, ⟨?_, ?_⟩, by rw [List.length_cons, List.length_cons, f2], fun Q H' q => c2 _ _ (d2 _ _ (f3 _ _ q))⟩
              · rw [List.map_cons, List.map_cons, f1.1]
              · exact ⟨vy, _, rfl, d1, f1.2⟩
theorem merge_rep {K : PySem.W.Frag} {lk : Lk} {ρ : Nm} {n : Nat} {H : Hp} : ∀ {kvs : List (Key × PK.D)} {zs : List (Key × V)} {a : List (Key × PK.D)} {b : List (Key × V)}, RepK K lk ρ n H kvs zs → RepK K lk ρ n H a b →
    RepK K lk ρ n H (kvs.foldl (fun acc kv => PK.putD acc kv.1 kv.2) a) (mergeK b zs)
  | [], zs, a, b, h, h0 => by
    have : zs = [] := by
      have := congrArg List.length h.1
      simpa using this
    subst this
    exact h0
  | kv :: kvs, zs, a, b, h, h0 => by
    cases zs with
    | nil => have := congrArg List.length h.1; simp at this
    | cons z zs =>
      obtain ⟨h1, x, xs, e, h3, h4⟩ := h
      simp only [List.map_cons, List.cons.injEq] at h1 e
      have hz : RepK K lk ρ n H kvs zs := ⟨h1.2, by rw [e.2]; exact h4⟩
      have hp : RepK K lk ρ n H (PK.putD a kv.1 kv.2) (putK b z.1 z.2) := by
        rw [h1.1]
        exact put_rep (by rw [e.1]; exact h3) h0
      exact (merge_rep hz hp : RepK K lk ρ n H (kvs.foldl (fun acc kv => PK.putD acc kv.1 kv.2) (PK.putD a kv.1 kv.2)) (mergeK (putK b z.1 z.2) zs))
section
variable {X : Cx} {lk : Lk} {l : PK.Ls} {ks : List (Option Expr)} {vs : List Expr} {pos : Pos}
theorem le_dlit (h : AtEs X l ks vs) (h0 : ks ≠ []) (h15 : ks.length ≤ 15) : LE X lk (.Dict ks vs pos) (fun s G => PK.optK (PK.pairsL l s) (fun ps => PK.dlitD ps G) .bad) := by
  obtain ⟨trs, p1, p2⟩ := h.pps pos
  refine pe_imp (pe_disp p1 h.len.2 h.len.1 h0 h15) fun σ H Q ⟨ρ, G, s, r, en, hq⟩ p hp => ?_
  have hq : OutE X.K lk (WXo X) σ ρ G H (PK.optK (PK.pairsL l s) (fun ps => PK.dlitD ps G) .bad) Q := hq
  cases q1 : PK.pairsL l s with
  | none => rw [q1] at hq; exact False.elim hq
  | some ps =>
    rw [q1] at hq
    have hq : OutE X.K lk (WXo X) σ ρ G H (PK.dlitD ps G) Q := hq
    unfold PK.dlitD at hq
    cases q2 : PK.keyP ps with
    | none => rw [q2] at hq; exact False.elim hq
    | some kvs =>
      rw [q2] at hq
      have hq : OutE X.K lk (WXo X) σ ρ G H (.ok (.ref G.length) (G ++ [.dK (kvs.foldl (fun acc kv => PK.putD acc kv.1 kv.2) [])])) Q := hq
      obtain ⟨zs, z1, z2, z3⟩ := p2 lk ρ G.length H s σ ps kvs en q1 q2
      refine z3 _ _ ⟨upd_same, zs, rfl, by rw [z2]; exact h15, ?_⟩
      have hu : upd (upd H p (.dK [])) p (.dK (mergeK [] zs)) = upd H p (.dK (mergeK [] zs)) := by
        funext a
        by_cases c : a = p
        · subst c; rw [upd_same, upd_same]
        · rw [upd_ne c, upd_ne c, upd_ne c]
      rw [hu]
      refine hq (nset ρ G.length p) _ _ ?_ (r.laid hp ⟨_, rfl, merge_rep z1 ⟨rfl, rfl⟩⟩) ⟨by simp, by rw [nset_same]⟩
      rw [List.length_append]
      exact Ext.celled hp
end
end PKS
namespace PKS
open PySem PySem.Spec PyProof.Rows L2
open HotX (HotAt)
section
variable {prog : Program} {w : World} {A : Around} {E : Value → Shared → Prop} {s : Shared}
abbrev sorted_out (prog : Program) (w : World) (A : Around) (Q : Option Value → Shared → Prop) (E : Value → Shared → Prop) : Value → Shared → Prop := fun e s' => wpAny (model prog w) A (do if (← isInstance e (.type "StopIteration")) = true then pure none else throw e) Q E s'
theorem next_raises {T id : String} {B : Builtin} {it : Addr} {Q : Option Value → Shared → Prop} (ty : s.TypeIs (.ref it) T) (sl : Slot T (Str.ofString "__next__") id) (en : entryFor table id = some B) (ar : argsOk id ⟨[.ref it], []⟩)
    (k : wpAny (model prog w) A.in1 (B ⟨[.ref it], []⟩) (fun _ _ => False) (sorted_out prog w A Q E) s) : wpAny (model prog w) A (pyNext (.ref it)) Q E s :=
  wpAny_bind (wpAny_attempt (wpAny_callSpecial?_slot ty sl (wpAny_call_entry sl ty en (wpAny_mono k (fun _ _ f => f.elim) fun _ _ z => z) ar)))
abbrev spent (it : Addr) (s : Shared) : Shared := { s with heap := s.heap.update it (Obj.mapFields (·.setIfInBounds 0 .none)) }
section
variable {it l : Addr} {i n : Nat} {items : Array Value} {P : PySem.Fin → Shared → Prop} {F : Value → Shared → Prop} {oi ol : Obj} (gi : s.heap.get? it = some oi) (di : oi.data = .fields #[.ref l, .int i 0]) (gl : s.heap.get? l = some ol) (dl : ol.data = .seq items n) (hx : items[i]? = none)
  (k : wpAny (model prog w) A (Builtin.SmallTypes.stopIteration : Sem PySem.Fin) P F (spent it s))
include gi di gl dl hx k
theorem spent_list : wpAny (model prog w) A (Builtin.«list_iterator.__next__» ⟨[.ref it], []⟩) P F s := by
  unfold Builtin.«list_iterator.__next__»
  wp_walk using wpAny_field gi di (x := .ref l) rfl, wpAny_field gi di (x := .int i 0) rfl, wpAny_seqItems gl dl
  rw [Int.toNat_natCast, hx]
  wp_walk using wpAny_setField gi di (by simp)
  exact k
theorem spent_tuple : wpAny (model prog w) A (Builtin.«tuple_iterator.__next__» ⟨[.ref it], []⟩) P F s := by
  unfold Builtin.«tuple_iterator.__next__»
  wp_walk using wpAny_field gi di (x := .ref l) rfl, wpAny_field gi di (x := .int i 0) rfl, wpAny_seqItems gl dl
  rw [Int.toNat_natCast, hx]
  wp_walk using wpAny_setField gi di (by simp)
  exact k
end
theorem held_apart {it x1 : Addr} {h : Heap} {o : Obj} {a b : Value} (hot : HotAt A x1 h) (e : h.get? it = some o) (d : o.data = .fields #[a, b]) : x1 ≠ it := by
  rintro rfl
  obtain ⟨_, _, vs, e1, d1, c⟩ := hot
  cases Option.some.inj (e1.symm.trans e)
  cases d1.symm.trans d
  cases c
theorem held_on {x1 : Addr} {h h' : Heap} (hot : HotAt A x1 h) (k : ∀ o, h.get? x1 = some o → h'.get? x1 = some o) : HotAt A x1 h' :=
  ⟨hot.1, hot.2.imp fun o z => z.imp fun _ z => ⟨k o z.1, z.2⟩⟩
theorem stop_held {α : Type} {x1 : Addr} {Q : α → Shared → Prop} (hot : HotAt A x1 s.heap)
    (k : ∀ e h', (∀ b o, s.heap.get? b = some o → h'.get? b = some o) → Shared.TypeIs { s with heap := h' } (.ref e) "StopIteration" → E (.ref e) { s with heap := h' }) : wpAny (model prog w) A (Builtin.SmallTypes.stopIteration : Sem α) Q E s := by
  unfold Builtin.SmallTypes.stopIteration newExc
  wp_walk
  have up := fun (o1 o2 : Obj) b o (q : s.heap.get? b = some o) => Heap.get?_push_of_some o2 (Heap.get?_push_of_some o1 q)
  have lt : x1 < s.heap.objs.size := let ⟨_, _, _, q, _⟩ := hot; Heap.lt_size q
  have mine : ∀ o : Obj, s.heap.objs.size < (s.heap.push o).objs.size := fun o => Heap.size_push s.heap o ▸ Nat.lt_succ_self _
  refine HotX.raiseNew_hot (held_on hot (up _ _ x1)) (Nat.ne_of_lt (Nat.lt_trans lt (mine _))) (Heap.get?_push_size _ rfl) rfl (by rw [Array.size_append]; exact Nat.lt_of_lt_of_le (by decide : 2 < 6) (Nat.le_add_right 6 _)) ?_
  exact k _ _ (fun b o q => (Heap.get?_update_other _ _ (Nat.ne_of_gt (Nat.lt_trans (Heap.lt_size q) (mine _)))).trans (up _ _ b o q)) ⟨_, Heap.get?_update_self _ (Heap.get?_push_size _ rfl) rfl, rfl⟩
theorem end_held {it l x1 : Addr} {i : Nat} {oi : Obj} {Q : Option Value → Shared → Prop} (hot : HotAt A x1 s.heap) (gi : s.heap.get? it = some oi) (di : oi.data = .fields #[.ref l, .int i 0]) (hQ : ∀ h', Heap.ExtBut it s.heap h' → Q none { s with heap := h' }) :
    wpAny (model prog w) A.in1 (Builtin.SmallTypes.stopIteration : Sem PySem.Fin) (fun _ _ => False) (sorted_out prog w A Q E) (spent it s) :=
  stop_held (A := A.in1) (held_on hot fun o q => (Heap.get?_update_other _ _ (held_apart hot gi di).symm).trans q) fun e h' up ty =>
    wpAny_bind (wpAny_isInstance (T := "StopIteration") (b := true) ty isSubtype_stop (wpAny_pure (hQ h' fun b o hb q => up b o ((Heap.get?_update_other _ _ hb.symm).trans q))))
theorem list_end_held {it l x1 : Addr} {i : Nat} {items : Array Value} {Q : Option Value → Shared → Prop} (hot : HotAt A x1 s.heap) (hit : s.heap.IsListIter it l i) (hl : s.heap.IsList l items) (hx : items[i]? = none) (hQ : ∀ h', Heap.ExtBut it s.heap h' → Q none { s with heap := h' }) :
    wpAny (model prog w) A (pyNext (.ref it)) Q E s :=
  let ⟨_, gi, _, di⟩ := id hit
  let ⟨_, gl, _, _, dl⟩ := hl
  next_raises hit.typeIs slot_listiter_next entry_listiter_next (args_listiter_next _) (spent_list gi di gl dl hx (end_held hot gi di hQ))
theorem tuple_end_held {it l x1 : Addr} {i : Nat} {items : Array Value} {Q : Option Value → Shared → Prop} (hot : HotAt A x1 s.heap) (hit : IsTupIter s.heap it l i) (hl : IsTup s.heap l items) (hx : items[i]? = none) (hQ : ∀ h', Heap.ExtBut it s.heap h' → Q none { s with heap := h' }) :
    wpAny (model prog w) A (pyNext (.ref it)) Q E s :=
  let ⟨_, gi, _, di⟩ := id hit
  let ⟨_, gl, _, _, dl⟩ := hl
  next_raises hit.typeIs slot_tupleiter_next entry_tupleiter_next (args_tupleiter_next _) (spent_tuple gi di gl dl hx (end_held hot gi di hQ))
end
end PKS
namespace PKS
open PySem PySem.Spec PyProof.Rows L2
open HotX (HotAt)
section
variable {prog : Program} {w : World} {A : Around} {E : Value → Shared → Prop} {s : Shared}
theorem taken_held {t x1 : Addr} {items : Array Value} {Q : List Value → Shared → Prop} (hot : HotAt A x1 s.heap) (ht : IsTup s.heap t items) (hQ : ∀ h', (∀ b o, s.heap.get? b = some o → h'.get? b = some o) → Q items.toList { s with heap := h' }) :
    wpAny (model prog w) A (unpackItems (.ref t) items.size none) Q E s := by
  have lt : ∀ {a : Addr} {o : Obj}, s.heap.get? a = some o → a ≠ s.heap.objs.size := fun q => Nat.ne_of_lt (Heap.lt_size q)
  have apart : t ≠ s.heap.objs.size := ht.elim fun _ q => lt q.1
  have all : List.take items.size (List.drop 0 items.toList) = items.toList := List.take_of_length_le (Nat.le_of_eq (by simp))
  unfold unpackItems notIterableAtAll
  wp_walk using wpAny_specialOf ht.typeIs slot_tuple_iter.lookup, iter_tuple ht
  refine draw_tuple apart items.size 0 _ _ ⟨_, Heap.get?_push_size _ rfl, rfl, rfl⟩ (ht.push _) (by omega) fun h1 it1 sb1 => ?_
  have up : ∀ b o, s.heap.get? b = some o → h1.get? b = some o := fun b o q => sb1.extBut b o (lt q) (Heap.get?_push_of_some _ q)
  rw [all, if_neg (by simp)]
  refine wpAny_bind (wpAny_holding (tuple_end_held (s := { s with heap := h1 }) (held_on hot (up x1)) it1 (ht.elim fun _ q => ⟨_, up t _ q.1, q.2⟩) (by simp) fun h2 e2 => ?_))
  exact wpAny_pure (hQ h2 fun b o q => e2 b o (lt q) (up b o q))
end
section
variable {X : Cx} {pos : Pos} {pins : List (Addr × Obj)} {σ : L2.St} {H : Hp} {s : Shared}
theorem pg_tupH {es : List Expr} {k : Nat} {t : TGs} {n : Nat} (hc : L2H.HotC X) (h : PGs X es t) (hn : (assignEach es X.env).length = n := by rfl) (hst : (assignEach es X.env).findIdx? (·.1) = none := by rfl) : PG X (.Tuple es k pos) (gTup X.K n t) where
  run := fun pins s σ H v u Q I r ⟨a, xs, ev, hq, hl, hw⟩ => by
    subst ev
    cases r
    obtain ⟨its, rv, ht, _⟩ := I.tuple hq
    obtain ⟨x1, hot⟩ := hc.at I
    have el : (assignEach es X.env).length = its.toArray.size := by rw [hn, ← hl, rv.length, List.size_toArray]
    rw [assign_Tuple]
    unfold unpack
    rw [el, hst]
    exact wpAny_bind (wpAny_standAt (wpAny_bind (wpAny_holding (taken_held hot ht fun h' up => h.run pins _ σ H xs _ Q (I.kept (t' := s.toks) up) rv hw))))
theorem feeds_held {tg : Expr} {a it : Addr} (hc : L2H.HotC X) : Feeds X tg (Itl X.K a) [it] it (fun i h => h.IsListIter it a i) where
  obj := (turn_list (P := X.prog) (w := X.w) (K := X.K) (tg := tg) a it).obj
  keep := (turn_list (P := X.prog) (w := X.w) (K := X.K) (tg := tg) a it).keep
  next := fun {i s σ H} I f st ⟨xs, x, hq, hx⟩ => by
    obtain ⟨its, rv, lst, _⟩ := I.list hq
    obtain ⟨u, hu, ru⟩ := rv.get hx
    refine wpAny_pyNext_list_item st lst.isList (x := u) (by rw [List.getElem?_toArray]; exact hu) fun h' st' sb => ?_
    obtain ⟨_, e, c, d⟩ := id st'
    exact ⟨u, rfl, go_of (s := { s with heap := h' }) e c d (by decide) ⟨x, H, Inv.turned1 I (f it List.mem_cons_self) sb, ru, ⟨rfl, fun ys hy => I.list_inj hy hq ▸ hx⟩, st', fun b hb => (f b hb).1⟩⟩
  last := fun {i s σ H} I f st ⟨xs, hq, le⟩ => by
    obtain ⟨its, rv, lst, _⟩ := I.list hq
    obtain ⟨x1, hot⟩ := hc.at I
    exact list_end_held hot st lst.isList (Array.getElem?_eq_none (by rw [List.size_toArray, ← rv.length]; exact le)) fun h' eb => ⟨rfl, I.turnedL (t' := s.toks) (fun b o hb => eb b o (by simpa using hb)) f⟩
abbrev blkH (X : Cx) (s : Shared) (H : Hp) (scope : Scope) (ce : Env) (fp : List Addr) (q : Addr × Obj) : Cx := (X.blk s H scope ce fp).tr [q] fun _ _ => False
theorem pe_lch {elt tg iter : Expr} {ifs : List Expr} {scope : Scope} {own : List (Str × Nat)} {ti : TE} {g : TG} {tt : TT} {te : TE} {q0 : Addr × Obj} (hot : L2H.Hot1 X.A q0) (hq0 : q0 ∈ X.pn) (hN : X.N.Nodup) (hi : PE X iter ti) (ok : BlkOk X.N X.env.scope scope own)
    (parts : ∀ (s : Shared) (H : Hp) (C : Addr) (cl : List (Str × Addr)) (fp : List Addr), PG (blkH X s H scope (compEnvC scope cl C X.env) fp q0) tg g ∧ PTs (blkH X s H scope (compEnvC scope cl C X.env) fp q0) ifs tt ∧ PE (blkH X s H scope (compEnvC scope cl C X.env) fp q0) elt te)
    (hs : ∀ x, foldedSetIterable iter X.env x = pure x) : PE X (.ListComp elt [⟨tg, iter, ifs, 0⟩] scope pos) (fun σ H Q => tLc (iList X.K ti) g tt te (own.map (·.2)) σ H Q) where
  run := fun pins s σ H Q I h => by
    have come : wpAny (model X.prog X.w) X.A (eval iter X.env) (fun v s1 => wpAny (model X.prog X.w) X.A (pyIter v) (Come X pins σ tg scope (own.map (·.2)) [q0] (fun _ => nowhere) g tt te Q) X.xe s1) X.xe s := by
      refine thn (hi.run pins s σ H _ I h) ?_
      rintro u s1 ⟨_, H2, J, r, al, rfl, ⟨xs, hq⟩, plan⟩
      obtain rfl : u = .ref al := r
      obtain ⟨_, _, lst, _⟩ := J.list hq
      exact wpAny_pyIter_list lst.isList ⟨_, [s1.heap.objs.size], _, _, H2, rfl, J.kept (t' := s1.toks) fun _ _ => Heap.get?_push_of_some _, ⟨_, Heap.get?_push_size _ rfl, rfl, rfl⟩, Recs.one (J.fpOk (Nat.le_refl _) (J.hok.fresh (Nat.le_refl _))),
        fun s H ce => feeds_held (X := blkH X s H scope ce [s1.heap.objs.size] q0) ⟨q0, hot, List.mem_cons_self⟩, fun _ _ _ => (turn_list (P := X.prog) (w := X.w) (K := X.K) (tg := tg) al _).self X.A 0 _ _ _, plan⟩
    exact eval_ListComp .. ▸ comp_core (Q := Q) hN I ok hs (fun q hq => List.mem_singleton.mp hq ▸ hq0) (fun _ _ _ _ z => z.elim) come (fun s1 H1 cl fp _ _ _ => parts s1 H1 _ cl fp)
      fun D ce s' m H' J q hn f => ⟨m, hn, fun h2 sb => ⟨.ref D, H', Inv.turned1 J f sb, rfl, q⟩⟩
end
section
variable {X : Cx} {pos : Pos}
theorem sqT_upd {K : PySem.W.Frag} {H : Hp} {D t : Addr} {o : HO} {xs : List V} (hD : H D = none) (h : SqT K H t xs) : SqT K (upd H D o) t xs := by
  rcases h with (h | ⟨u, h⟩) | h
  · exact .inl (.inl (by rw [upd_ne (fun e => by rw [e, hD] at h; cases h)]; exact h))
  · exact .inl (.inr ⟨u, by rw [upd_ne (fun e => by rw [e, hD] at h; cases h)]; exact h⟩)
  · exact .inr h
def tPick (K : PySem.W.Frag) (k : Nat) : TE := fun σ H Q => ∃ (p : Addr) (vs : List V) (ps : List (Str × Bool)), σ[k]? = some (some (.ref p)) ∧ H p = some (.lst vs) ∧ vs.length ≤ 1000 ∧ vs.length = ps.length ∧
  (∀ (i : Nat) (q : Str × Bool), ps[i]? = some q → ∃ t, vs[i]? = some (.ref t) ∧ SqT K H t [.str q.1, .bl q.2]) ∧ ∀ D, H D = none → Q (.ref D) (upd H D (.lst ((ps.filter (·.2)).map fun q => V.str q.1)))
theorem pick_of {K : PySem.W.Frag} {i j k : Nat} {own : List Nat} (hij : i ≠ j) (hi : i ∈ own) (hj : j ∈ own) {σ : L2.St} (li : i < σ.length) (lj : j < σ.length) {H : Hp} {Q : VK} (h : tPick K k σ H Q) :
    tLc (iList K (tVar k)) (gTup K 2 (gCons (gName i) (gCons (gName j) gNil))) (tB (tVar j)) (tVar i) own σ H Q := by
  obtain ⟨p, vs, ps, h1, h2, h3, h4, h5, h6⟩ := h
  refine ⟨.ref p, h1, p, rfl, ⟨vs, SqL.of h2⟩, fun D hD => ?_⟩
  have pD : p ≠ D := fun e => by rw [e, hD] at h2; cases h2
  have hz : (1000 : Nat) < sizeLine := by rw [sizeLine_eq]; decide
  refine ⟨fun i m H' => i ≤ ps.length ∧ m = ps.length - i ∧ H' = upd H D (.lst (((ps.take i).filter (·.2)).map fun q => V.str q.1)), ⟨_, Nat.zero_le _, rfl, rfl⟩, fun n m H' ⟨w1, w2, w3⟩ => ?_⟩
  subst w3
  have hp : ∀ o, upd H D o p = some (.lst vs) := fun o => by rw [upd_ne pD]; exact h2
  by_cases c : n < ps.length
  · have gn : ps[n]? = some ps[n] := List.getElem?_eq_getElem c
    obtain ⟨t, t1, t2⟩ := h5 n _ gn
    have tk : ps.take (n + 1) = ps.take n ++ [ps[n]] := by rw [List.take_succ, gn]; rfl
    generalize ps[n] = q at *
    refine .inr ⟨⟨vs, .ref t, SqL.of (hp _), t1⟩, fun H' => H' = upd H D (.lst (((ps.take (n + 1)).filter (·.2)).map fun q => V.str q.1)), fun H' e => ⟨ps.length - (n + 1), by omega, by omega, rfl, e⟩, ?_⟩
    rintro x H' ⟨rfl, hx⟩
    have ex := hx vs (SqL.of (hp _))
    rw [t1] at ex
    cases ex
    refine ⟨t, _, rfl, sqT_upd hD t2, rfl, .str q.1, _, rfl, .bl q.2, _, rfl, rfl, ?_, .bl q.2, ?_, q.2, rfl, ?_⟩
    · refine List.ext_getElem? fun u => ?_
      have hv : ∀ (σ : L2.St), (wipe σ own)[u]? = if u ∈ own ∧ u < σ.length then some none else σ[u]? := fun σ => by
        by_cases d : u ∈ own
        · by_cases l : u < σ.length
          · rw [if_pos ⟨d, l⟩]
            cases e : (wipe σ own)[u]? with
            | none => rw [List.getElem?_eq_none_iff, wipe_length] at e; omega
            | some z =>
              cases z with
              | none => rfl
              | some y => exact absurd d (wipe_some e).2
          · rw [if_neg (fun z => l z.2), List.getElem?_eq_none (by rw [wipe_length]; omega), List.getElem?_eq_none (by omega)]
        · rw [if_neg (fun z => d z.1), wipe_out d]
      rw [hv]
      simp only [List.length_set, wipe_length]
      by_cases d : u ∈ own
      · by_cases l : u < σ.length
        · rw [if_pos ⟨d, l⟩, hv, if_pos ⟨d, l⟩]
        · rw [if_neg (fun z => l z.2), List.getElem?_eq_none (by simp [wipe_length]; omega), List.getElem?_eq_none (by rw [wipe_length]; omega)]
      · rw [if_neg (fun z => d z.1), List.getElem?_set_ne (fun e => d (by rw [← e]; exact hj)), List.getElem?_set_ne (fun e => d (by rw [← e]; exact hi))]
    · rw [List.getElem?_set_self (by rw [List.length_set, wipe_length]; exact lj)]
    · cases qb : q.2 with
      | false =>
        rw [if_neg Bool.false_ne_true, tk, List.filter_append, List.filter_cons_of_neg (by rw [qb]; exact Bool.false_ne_true), List.filter_nil, List.append_nil]
      | true =>
        rw [if_pos rfl]
        refine ⟨.str q.1, ?_, _, upd_same, ?_, ?_⟩
        · rw [List.getElem?_set_ne (Ne.symm hij), List.getElem?_set_self (by rw [wipe_length]; exact li)]
        · rw [List.length_map]
          have := List.length_filter_le (fun q : Str × Bool => q.2) (ps.take n)
          rw [List.length_take] at this
          omega
        · rw [upd_upd, tk, List.filter_append, List.filter_cons_of_pos qb, List.filter_nil, List.map_append]; rfl
  · have e : n = ps.length := by omega
    subst e
    refine .inl ⟨⟨vs, SqL.of (hp _), by omega⟩, ?_⟩
    rw [List.take_length]
    exact h6 D hD
theorem pe_pick {a b x : Str} {i j k kk : Nat} {p1 p2 p3 p4 p5 p6 pos : Pos} {scope : Scope} {own : List (Str × Nat)} {q0 : Addr × Obj} (hot : L2H.Hot1 X.A q0) (hq0 : q0 ∈ X.pn) (hN : X.N.Nodup) (ok : BlkOk X.N X.env.scope scope own)
    (hij : i ≠ j) (hi : i ∈ own.map (·.2)) (hj : j ∈ own.map (·.2)) (ai : X.N[i]? = some a) (bj : X.N[j]? = some b) (xk : X.N[k]? = some x) (vx : Vis X.env.scope x) (la : scope.names.lookup a = some .local) (lb : scope.names.lookup b = some .local)
    (da : (a == ("__debug__" : Str)) = false) (ca : (a == ("__classdict__" : Str)) = false) (db : (b == ("__debug__" : Str)) = false) (cb : (b == ("__classdict__" : Str)) = false) (dx : (x == ("__debug__" : Str)) = false) (cx : (x == ("__classdict__" : Str)) = false) :
    PE X (.ListComp (.Name a p1) [⟨.Tuple [.Name a p2, .Name b p3] kk p4, .Name x p5, [.Name b p6], 0⟩] scope pos) (tPick X.K k) := by
  have hc : ∀ (s : Shared) (H : Hp) (C : Addr) (cl : List (Str × Addr)) (fp : List Addr), L2H.HotC (blkH X s H scope (compEnvC scope cl C X.env) fp q0) := fun s H C cl fp => ⟨q0, hot, List.mem_singleton.mpr rfl⟩
  have va : ∀ (s : Shared) (H : Hp) (C : Addr) (cl : List (Str × Addr)) (fp : List Addr) (y : Str), scope.names.lookup y = some .local → (blkH X s H scope (compEnvC scope cl C X.env) fp q0).env.scope.names.lookup y = some .local := fun s H C cl fp y h => lookup_relabel_local h
  have L := pe_lch (X := X) (pos := pos) (elt := .Name a p1) (tg := .Tuple [.Name a p2, .Name b p3] kk p4) (ifs := [.Name b p6]) hot hq0 hN (pe_var (pos := p5) xk vx dx cx) ok
    (g := gTup X.K 2 (gCons (gName i) (gCons (gName j) gNil))) (tt := tB (tVar j)) (te := tVar i)
    (fun s H C cl fp => ⟨pg_tupH (hc s H C cl fp) (pgs_cons (pg_name hN ai (.inl (va s H C cl fp a la)) (.inr (va s H C cl fp a la))) (pgs_cons (pg_name hN bj (.inl (va s H C cl fp b lb)) (.inr (va s H C cl fp b lb))) pgs_nil rfl) rfl),
      pts_one (pt_val (pe_var bj (.inl (va s H C cl fp b lb)) db cb)), pe_var ai (.inl (va s H C cl fp a la)) da ca⟩) (fun y => rfl)
  refine ⟨fun pins s σ H Q I h => L.run pins s σ H Q I (pick_of hij hi hj ?_ ?_ h)⟩
  · rw [I.len]; exact (List.getElem?_eq_some_iff.mp ai).1
  · rw [I.len]; exact (List.getElem?_eq_some_iff.mp bj).1
end
end PKS
namespace PKS
open PySem PySem.Spec PyProof.Rows L2
section
variable {K : PySem.W.Frag} {lk : Lk} {ρ ρ' : Nm} {n n' : Nat} {H H' : Hp} {d : Addr} {od : Obj} {zs : List (L2.Key × V)}
mutual
theorem Rep.unlock (hd : H d = some (.frz od (.dK zs))) : ∀ (v : PK.D) (x : V), Rep K lk ρ n H v x → Rep K lk ρ n (upd H d (.dK zs)) v x
  | .non, _, h => h
  | .bl _, _, h => h
  | .int _, _, h => h
  | .str _, _, h => h
  | .tup ds, x, h => by
    obtain ⟨a, vs, h1, h2, h3⟩ := h
    refine ⟨a, vs, h1, ?_, Reps.unlock hd ds vs h3⟩
    rcases h2 with h2 | ⟨h2, h4⟩
    · exact .inl (by rw [upd_ne (fun e => by rw [e, hd] at h2; cases h2)]; exact h2)
    · refine .inr ⟨?_, h4⟩
      rcases h2 with (h2 | ⟨o, h2⟩) | h2
      · exact .inl (.inl (by rw [upd_ne (fun e => by rw [e, hd] at h2; cases h2)]; exact h2))
      · exact .inl (.inr ⟨o, by rw [upd_ne (fun e => by rw [e, hd] at h2; cases h2)]; exact h2⟩)
      · exact .inr h2
  | .lst ds, x, h => by
    obtain ⟨a, vs, h1, h2, h3, h4⟩ := h
    exact ⟨a, vs, h1, by rw [upd_ne (fun e => by rw [e, hd] at h2; cases h2)]; exact h2, h3, Reps.unlock hd ds vs h4⟩
  | .fz ds, x, h => by
    obtain ⟨a, vs, h1, h2, h3⟩ := h
    refine ⟨a, vs, h1, ?_, Reps.unlock hd ds vs h3⟩
    rcases h2 with ⟨o, h2⟩ | h2
    · exact .inl ⟨o, by rw [upd_ne (fun e => by rw [e, hd] at h2; cases h2)]; exact h2⟩
    · exact .inr h2
  | .ref _, _, h => h
  | .ins c ds, x, h => by
    obtain ⟨a, dx, fs, vs, h1, h2, h3, h4, h5, h6⟩ := h
    exact ⟨a, dx, fs, vs, h1, by rw [upd_ne (fun e => by rw [e, hd] at h2; cases h2)]; exact h2, h3, h4, h5, Reps.unlock hd ds vs h6⟩
  | .exc _, _, h => h
theorem Reps.unlock (hd : H d = some (.frz od (.dK zs))) : ∀ (ds : List PK.D) (vs : List V), Reps K lk ρ n H ds vs → Reps K lk ρ n (upd H d (.dK zs)) ds vs
  | [], _, h => h
  | v :: ds, vs, h => by
    obtain ⟨x, xs, h1, h2, h3⟩ := h
    exact ⟨x, xs, h1, Rep.unlock hd v x h2, Reps.unlock hd ds xs h3⟩
end
theorem Rel.unlock {G : Cells} {i : Nat} {ls : List (L2.Key × PK.D)} (r : Rel K lk ρ G H) (q : G[i]? = some (.frK ls)) (hd : H (ρ i) = some (.frz od (.dK zs))) : Rel K lk ρ (G.set i (.dK ls)) (upd H (ρ i) (.dK zs)) := by
  have hi := (List.getElem?_eq_some_iff.mp q).1
  obtain ⟨u, h1, z2, od2, h2, h3⟩ := r.cell i _ q
  rw [hd] at h1
  have e := Option.some.inj h1
  rw [h2] at e
  cases e
  refine ⟨fun j c qj => ?_, fun a b ha hb => r.inj a b (by rwa [List.length_set] at ha) (by rwa [List.length_set] at hb), fun a z => upd_some (r.zs a z), fun j hj => r.zc j (by rwa [List.length_set] at hj)⟩
  rw [List.length_set]
  by_cases c1 : i = j
  · subst c1
    rw [List.getElem?_set_self hi] at qj
    cases qj
    exact ⟨.dK zs, upd_same, zs, rfl, h3.1, Reps.unlock hd _ _ h3.2⟩
  · rw [List.getElem?_set_ne c1] at qj
    have hj := (List.getElem?_eq_some_iff.mp qj).1
    obtain ⟨o, h4, h5⟩ := r.cell j c qj
    exact ⟨o, by rw [upd_ne (fun e => c1 (r.inj i j hi hj e.symm))]; exact h4, RepC.map rfl rfl (fun ds vs h => Reps.unlock hd ds vs h) h5⟩
theorem Ext.unlock {u : HO} (e : Ext ρ n (upd H d (.frz od u)) ρ' n' H') (hH : H d = some u) (h1 : ∀ xs, u ≠ .tup xs) (h2 : ∀ a b, u ≠ .frz a b) (hn : ∃ i, i < n ∧ ρ i = d) : Ext ρ n H ρ' n' (upd H' d u) where
  le := e.le
  agr := e.agr
  pres := fun a o h ha => by
    obtain ⟨i, hi, hd⟩ := hn
    have ne : a ≠ d := fun z => ha i hi (by rw [hd, z])
    rw [upd_ne ne]
    exact e.pres a o (by rw [upd_ne ne]; exact h) ha
  tups := fun a xs h => by
    have ne : a ≠ d := fun z => by rw [z, hH] at h; exact h1 xs (Option.some.inj h)
    rw [upd_ne ne]
    exact e.tups a xs (by rw [upd_ne ne]; exact h)
  frzs := fun a o w h => by
    have ne : a ≠ d := fun z => by rw [z, hH] at h; exact h2 o w (Option.some.inj h)
    rw [upd_ne ne]
    exact e.frzs a o w (by rw [upd_ne ne]; exact h)
  keep := fun a h => by
    have ne : a ≠ d := fun z => by rw [z, upd_same] at h; cases h
    rw [upd_ne ne] at h
    have := e.keep a h
    rwa [upd_ne ne] at this
  new := fun i q1 q2 => by
    have := e.new i q1 q2
    have ne : ρ' i ≠ d := fun z => by rw [z, upd_same] at this; cases this
    rwa [upd_ne ne] at this
end
section
variable {X : Cx} {lk : Lk}
theorem le_lock {e : Expr} {ea eb : Ev} (hp : ∀ s G, (∃ x, ea s G = .ok x G) ∨ ea s G = .bad) (hb : LE X lk e eb) : LE X lk e (fun s G => (ea s G).bind fun x G1 => PK.lockK x G1 fun G2 => eb s G2) :=
  pe_imp (pe_lock hb) fun σ H Q ⟨ρ, G, s, r, en, h⟩ => by
    have h : OutE X.K lk (WXo X) σ ρ G H ((ea s G).bind fun x G1 => PK.lockK x G1 fun G2 => eb s G2) Q := h
    rcases hp s G with ⟨x, e1⟩ | e1
    · rw [e1] at h
      have h : OutE X.K lk (WXo X) σ ρ G H (PK.lockK x G fun G2 => eb s G2) Q := h
      cases x with
      | ref i =>
        have h : OutE X.K lk (WXo X) σ ρ G H (match G[i]? with | some (.dK kvs) => (eb s (G.set i (.frK kvs))).safe.bind (fun v G2 => match G2[i]? with | some (.frK ls) => .ok v (G2.set i (.dK ls)) | _ => .bad) | _ => .bad) Q := h
        cases q : G[i]? with
        | none => rw [q] at h; exact False.elim h
        | some c =>
          cases c with
          | dK kvs =>
            rw [q] at h
            have h : OutE X.K lk (WXo X) σ ρ G H ((eb s (G.set i (.frK kvs))).safe.bind (fun v G2 => match G2[i]? with | some (.frK ls) => .ok v (G2.set i (.dK ls)) | _ => .bad)) Q := h
            obtain ⟨u, h1, zs, h2, h3⟩ := r.cell i _ q
            subst h2
            have hi := (List.getElem?_eq_some_iff.mp q).1
            refine ⟨ρ i, .dK zs, h1, True.intro, fun od => ?_⟩
            have r1 : Rel X.K lk ρ (G.set i (.frK kvs)) (upd H (ρ i) (.frz od (.dK zs))) := r.written q ⟨zs, od, rfl, h3⟩
            refine ⟨ρ, G.set i (.frK kvs), s, r1, ?_, ?_⟩
            · rw [List.length_set]; exact en.ext (r.exw q)
            · cases q2 : eb s (G.set i (.frK kvs)) with
              | bad => rw [q2] at h; exact h
              | exc c G2 => rw [q2] at h; exact False.elim h
              | ok v G2 =>
                rw [q2] at h
                intro ρ2 H2 y ex r2 p2
                have hd := ex.frzs (ρ i) od (.dK zs) upd_same
                refine ⟨hd, ?_⟩
                have ag : ρ2 i = ρ i := ex.agr i (by rw [List.length_set]; exact hi)
                have h : OutE X.K lk (WXo X) σ ρ G H (match G2[i]? with | some (.frK ls) => .ok v (G2.set i (.dK ls)) | _ => .bad) Q := h
                cases q3 : G2[i]? with
                | none => rw [q3] at h; exact False.elim h
                | some c =>
                  cases c with
                  | frK ls =>
                    rw [q3] at h
                    have h : OutE X.K lk (WXo X) σ ρ G H (.ok v (G2.set i (.dK ls))) Q := h
                    have hd2 : H2 (ρ2 i) = some (.frz od (.dK zs)) := by rw [ag]; exact hd
                    have r3 := r2.unlock q3 hd2
                    rw [ag] at r3
                    rw [List.length_set] at ex
                    exact h ρ2 _ y (by rw [List.length_set]; exact ex.unlock h1 (fun _ z => nomatch z) (fun _ _ z => nomatch z) ⟨i, hi, rfl⟩) r3 (by rw [List.length_set]; exact Rep.unlock hd v y p2)
                  | _ => rw [q3] at h; exact False.elim h
          | _ => rw [q] at h; exact False.elim h
      | _ => exact False.elim h
    · rw [e1] at h; exact False.elim h
end
end PKS
namespace PKS
open PySem PySem.Spec PyProof.Rows L2
section
variable {cl : List Nat → Nat → List PK.D → Cells → PK.R} {gl : Nat → Option PK.D} {m : List Nat}
theorem plainIx_of {b : Expr} (h : plainIxB b = true) : PlainIx b := by
  cases b <;> first | (intro o i; rfl) | cases h
theorem iter_of {Γ : Sig} {X : Cx} {lk : Lk} (F : Fits Γ X lk cl gl) {k : PK.Ik} {tg iter : Expr} {es : List Expr} {it : PK.Ls} (h : iterEs k Γ tg iter = some es) (hA : chkA it Γ es = true) (ha : LA X lk es (EVs cl gl m it)) (hv : ∀ a, it = .cons a .nil → ∀ e, es = [e] → LE X lk e (EV cl gl m a)) : LI X lk tg iter k (EVs cl gl m it) := by
  have st := chkA_star hA
  cases k with
  | val =>
    unfold iterEs at h
    dsimp only at h
    split at h
    · cases h
    · cases h
      match it, hA with
      | .cons a .nil, hA =>
        have e := li_val (tg := tg) (hv a rfl iter rfl)
        have z : (EVs cl gl m (.cons a .nil)) = fun s G => (EV cl gl m a s G).bind fun x G1 => .ok (.tup [x]) G1 := by
          funext s G
          show ((PK.eval cl gl m a s G).bind fun x G1 => _) = (PK.eval cl gl m a s G).bind _
          cases PK.eval cl gl m a s G <;> rfl
        rw [z]; exact e
      | .nil, hA => cases hA
      | .cons a (.cons b l), hA =>
        have hA : (noStar iter && chkE a Γ iter && false) = true := hA
        simp at hA
  | range1 =>
    cases iter with
    | Call f args kws pos =>
      cases f with
      | Name x p => match args, kws, h with
        | [e], [], h =>
          have h : (if (decide (x = "range") && bltB Γ x) = true then some [e] else none) = some es := h
          split at h
          · rename_i c
            cases h
            simp only [Bool.and_eq_true, decide_eq_true_eq] at c
            obtain ⟨rfl, c⟩ := c
            obtain ⟨g1, g2⟩ := F.blt c
            simp only [List.all_cons, Bool.and_eq_true] at st
            exact li_range1 g1 g2 ha (star_of st.1)
          · cases h
        | [], _, h => cases h
        | _ :: _ :: _, _, h => cases h
        | [_], _ :: _, h => cases h
      | _ => cases h
    | _ => cases h
  | range2 =>
    cases iter with
    | Call f args kws pos =>
      cases f with
      | Name x p => match args, kws, h with
        | [e, e2], [], h =>
          have h : (if (decide (x = "range") && bltB Γ x) = true then some [e, e2] else none) = some es := h
          split at h
          · rename_i c
            cases h
            simp only [Bool.and_eq_true, decide_eq_true_eq] at c
            obtain ⟨rfl, c⟩ := c
            obtain ⟨g1, g2⟩ := F.blt c
            simp only [List.all_cons, Bool.and_eq_true] at st
            have s2 : starEach [e2] X.env = [(false, eval e2 X.env)] := star_of st.2.1
            exact li_range2 g1 g2 ha (by rw [star_of st.1, s2]) s2
          · cases h
        | [], _, h => cases h
        | [_], _, h => cases h
        | _ :: _ :: _ :: _, _, h => cases h
        | [_, _], _ :: _, h => cases h
      | _ => cases h
    | _ => cases h
  | range3 =>
    cases iter with
    | Call f args kws pos =>
      cases f with
      | Name x p => match args, kws, h with
        | [e, e2, e3], [], h =>
          have h : (if (decide (x = "range") && bltB Γ x) = true then some [e, e2, e3] else none) = some es := h
          split at h
          · rename_i c
            cases h
            simp only [Bool.and_eq_true, decide_eq_true_eq] at c
            obtain ⟨rfl, c⟩ := c
            obtain ⟨g1, g2⟩ := F.blt c
            simp only [List.all_cons, Bool.and_eq_true] at st
            exact li_range3 g1 g2 ha (star_of st.1) (nostar_any (by simp [st.2.1, st.2.2.1]))
          · cases h
        | [], _, h => cases h
        | [_], _, h => cases h
        | [_, _], _, h => cases h
        | _ :: _ :: _ :: _ :: _, _, h => cases h
        | [_, _, _], _ :: _, h => cases h
      | _ => cases h
    | _ => cases h
  | enum =>
    cases iter with
    | Call f args kws pos =>
      cases f with
      | Name x p => match args, kws, h with
        | [e], [], h =>
          have h : (if (decide (x = "enumerate") && bltB Γ x && isTup tg) = true then some [e] else none) = some es := h
          split at h
          · rename_i c
            cases h
            simp only [Bool.and_eq_true, decide_eq_true_eq] at c
            obtain ⟨⟨rfl, c⟩, ht⟩ := c
            obtain ⟨g1, g2⟩ := F.blt c
            simp only [List.all_cons, Bool.and_eq_true] at st
            cases tg with
            | Tuple elts kk tpos => exact li_enum g1 g2 ha (star_of st.1)
            | _ => cases ht
          · cases h
        | [], _, h => cases h
        | _ :: _ :: _, _, h => cases h
        | [_], _ :: _, h => cases h
      | _ => cases h
    | _ => cases h
  | zip =>
    cases iter with
    | Call f args kws pos =>
      cases f with
      | Name x p => match args, kws, h with
        | [e, e2], [], h =>
          have h : (if (decide (x = "zip") && bltB Γ x && isTup tg) = true then some [e, e2] else none) = some es := h
          split at h
          · rename_i c
            cases h
            simp only [Bool.and_eq_true, decide_eq_true_eq] at c
            obtain ⟨⟨rfl, c⟩, ht⟩ := c
            obtain ⟨g1, g2⟩ := F.blt c
            simp only [List.all_cons, Bool.and_eq_true] at st
            cases tg with
            | Tuple elts kk tpos => exact li_zip g1 g2 ha (star_of st.1) (nostar_any (by simp [st.2.1]))
            | _ => cases ht
          · cases h
        | [], _, h => cases h
        | [_], _, h => cases h
        | _ :: _ :: _ :: _, _, h => cases h
        | [_, _], _ :: _, h => cases h
      | _ => cases h
    | _ => cases h
  | items => cases h
  | values => cases h
  | rev =>
    cases iter with
    | Call f args kws pos =>
      cases f with
      | Name x p => match args, kws, h with
        | [e], [], h =>
          have h : (if (decide (x = "reversed") && bltB Γ x) = true then some [e] else none) = some es := h
          split at h
          · rename_i c
            cases h
            simp only [Bool.and_eq_true, decide_eq_true_eq] at c
            obtain ⟨rfl, c⟩ := c
            obtain ⟨g1, g2⟩ := F.blt c
            simp only [List.all_cons, Bool.and_eq_true] at st
            exact li_rev g1 g2 ha (star_of st.1)
          · cases h
        | [], _, h => cases h
        | _ :: _ :: _, _, h => cases h
        | [_], _ :: _, h => cases h
      | _ => cases h
    | _ => cases h
theorem atB_ok {Γ : Sig} {X : Cx} {lk : Lk} (F : Fits Γ X lk cl gl) {a : PK.L} {e : Expr} (h : atB Γ a e = true) : AtE X a e := by
  unfold atB at h
  split at h
  · split at h
    · exact .non
    · rw [of_decide_eq_true h]; exact .bl
    · rw [of_decide_eq_true h]; exact .int
    · rw [of_decide_eq_true h]; exact .str
    · cases h
  · simp only [Bool.and_eq_true, decide_eq_true_eq] at h
    obtain ⟨⟨⟨h1, h2⟩, h3⟩, h4⟩ := h
    exact .var (by rw [F.hN]; exact h1) (F.vis h2) (by simpa [ndB] using h3) (by simpa [ncB] using h4)
  · cases h
theorem atBs_ok {Γ : Sig} {X : Cx} {lk : Lk} (F : Fits Γ X lk cl gl) : ∀ {l : PK.Ls} {ks : List (Option Expr)} {vs : List Expr}, atBs Γ l ks vs = true → AtEs X l ks vs
  | .nil, [], [], _ => .nil
  | .cons a (.cons b l), some k :: ks, v :: vs, h => by
    simp only [atBs, Bool.and_eq_true] at h
    exact .cons (atB_ok F h.1.1) (atB_ok F h.1.2) (atBs_ok F h.2)
  | .nil, _ :: _, _, h => by simp [atBs] at h
  | .nil, [], _ :: _, h => by simp [atBs] at h
  | .cons a .nil, _, _, h => by simp [atBs] at h
  | .cons a (.cons b l), [], _, h => by simp [atBs] at h
  | .cons a (.cons b l), none :: _, _, h => by simp [atBs] at h
  | .cons a (.cons b l), some _ :: _, [], h => by simp [atBs] at h
theorem mt_eval {o : Expr} {nm : Str} {apos pos : Pos} {es : List Expr} {env : Env} (hb : attributeBase o nm env (eval o env) = eval o env)
    (hf : ((backTo pos (starEach es env)).all (fun x => !x.1) && (backToKw pos (keywordEach [] env)).all (fun x => x.1.isSome) && decide (es.length + ([] : List Keyword).length + (if ([] : List Keyword).isEmpty then 0 else 1) < 30)) = true)
    (hl : (apos.endLine == pos.line) = true) :
    eval (.Call (.Attribute o nm apos) es [] pos) env = (do
      let ov ← eval o env
      standAt apos.atName
      let (f, first) ← holding [ov] (getMethod ov nm (plainOf o env))
      callWith pos f first (backTo pos (starEach es env)) (backToKw pos (keywordEach [] env))) := by
  have hform : methodCallForm (es.length + ([] : List Keyword).length) (backTo pos (starEach es env)) (backToKw pos (keywordEach [] env)) = true := hf
  have hpos : methodCallPos true o env apos pos = pure pos := by unfold methodCallPos; simp [hl]
  rw [arm_eval_Call, hb]
  unfold methodCall
  rw [hform, hpos]
  rfl
theorem own_back {Γ : Sig} (own : List Nat) : (ownP Γ own).map (·.2) = own := by
  unfold ownP
  rw [List.map_map]
  exact List.map_id' _
theorem po_none' {X : Cx} {lk : Lk} {a : PK.L} (h : absL a = true) : PoL X lk none (EV cl gl m a) := by
  cases a with
  | c d => cases d with
    | exc n => cases n with
      | zero => exact .inl ⟨rfl, rfl⟩
      | succ n => cases h
    | _ => cases h
  | _ => cases h
theorem pickD_ps : ∀ {ds xs : List PK.D}, PK.pickD ds = some xs → ∃ ps : List (Str × Bool), ds = ps.map (fun q => PK.D.tup [.str q.1, .bl q.2]) ∧ xs = (ps.filter (·.2)).map fun q => PK.D.str q.1
  | [], xs, h => ⟨[], rfl, by cases h; rfl⟩
  | d :: ds, xs, h => by
    unfold PK.pickD at h
    split at h
    · rename_i e; cases e
    · rename_i x b ds' e
      cases e
      cases q : PK.pickD ds with
      | none => rw [q] at h; cases h
      | some r =>
        rw [q] at h
        cases h
        obtain ⟨ps, e1, e2⟩ := pickD_ps q
        refine ⟨(x, b) :: ps, by rw [e1]; rfl, ?_⟩
        cases b with
        | true => rw [List.filter_cons_of_pos rfl, List.map_cons, ← e2]; rfl
        | false => rw [List.filter_cons_of_neg Bool.false_ne_true, ← e2]; rfl
    · cases h
theorem reps_str {K : PySem.W.Frag} {lk : Lk} {ρ : Nm} {n : Nat} {H : Hp} : ∀ ps : List (Str × Bool), Reps K lk ρ n H (ps.map fun q => PK.D.str q.1) (ps.map fun q => V.str q.1)
  | [] => rfl
  | q :: ps => ⟨_, _, rfl, rfl, reps_str ps⟩
theorem pick_lift {K : PySem.W.Frag} {lk : Lk} {W : WX} {k : Nat} {σ : L2.St} {H : Hp} {Q : VK} (h : lift K lk W (fun s G => PK.optK (s[k]?.join.bind PK.pickX) (fun xs => .ok (.lst xs) G) .bad) σ H Q) : tPick K k σ H Q := by
  obtain ⟨ρ, G, s, r, en, h⟩ := h
  have h : OutE K lk W σ ρ G H (PK.optK (s[k]?.join.bind PK.pickX) (fun xs => .ok (.lst xs) G) .bad) Q := h
  cases q : s[k]?.join.bind PK.pickX with
  | none => rw [q] at h; exact False.elim h
  | some xs =>
    rw [q] at h
    obtain ⟨d, hd, hx⟩ := Option.bind_eq_some_iff.mp q
    have hs : s[k]? = some (some d) := by
      cases e : s[k]? with
      | none => rw [e] at hd; cases hd
      | some o => rw [e] at hd; have hd : o = some d := hd; rw [hd]
    cases d with
    | lst ds =>
      have hx : (if ds.length ≤ 1000 then PK.pickD ds else none) = some xs := hx
      by_cases hl : ds.length ≤ 1000
      · rw [if_pos hl] at hx
        obtain ⟨v, hv, a, vs, rfl, ha, off, rs⟩ := en.at_ k _ hs
        obtain ⟨ps, e1, e2⟩ := pickD_ps hx
        have ll := rs.length
        refine ⟨a, vs, ps, hv, ha, by omega, by rw [← ll, e1, List.length_map], fun i q hq => ?_, fun D hD => ?_⟩
        · obtain ⟨v, hv, t, ws, rfl, tu, rr⟩ := rs.get (i := i) (d := .tup [.str q.1, .bl q.2]) (by rw [e1, List.getElem?_map, hq]; rfl)
          obtain ⟨x1, r1, rfl, e3, x2, r2, rfl, e4, rfl⟩ := rr
          rw [show x1 = V.str q.1 from e3, show x2 = V.bl q.2 from e4] at tu
          exact ⟨t, hv, tu.sq⟩
        · refine h ρ _ _ (Ext.laid hD) (r.other hD) ⟨D, _, rfl, upd_same, ⟨fun i hi e => ?_, fun z => r.zs D z hD⟩, by rw [e2]; exact reps_str _⟩
          obtain ⟨o, ho, _⟩ := r.cell i _ (List.getElem?_eq_getElem hi)
          rw [e, hD] at ho
          cases ho
      · rw [if_neg hl] at hx; cases hx
    | _ => cases hx
mutual
theorem chkE_ok : ∀ (l : PK.L) {Γ : Sig} {X : Cx} {lk : Lk} {e : Expr}, Fits Γ X lk cl gl → chkE l Γ e = true → LX X lk e (EV cl gl m l)
  | .c d, Γ, X, lk, e, F, h => by
    have h : (cstB d e || hotB Γ d e) = true := h
    rcases Bool.or_eq_true_iff.mp h with h | h
    · skip
      cases d with
      | non => cases e with
        | Constant c k p => cases c with
          | none => exact lx_of le_non (fun _ => rfl) rfl rfl
          | _ => cases h
        | _ => cases h
      | bl b => cases e with
        | Constant c k p => cases c with
          | bool b' => obtain rfl := of_decide_eq_true (show decide (b = b') = true from h); exact lx_of le_bl (fun _ => rfl) rfl rfl
          | _ => cases h
        | _ => cases h
      | int b => cases e with
        | Constant c k p => cases c with
          | int b' => obtain rfl := of_decide_eq_true (show decide (b = b') = true from h); exact lx_of le_int (fun _ => rfl) rfl rfl
          | _ => cases h
        | _ => cases h
      | str b => cases e with
        | Constant c k p => cases c with
          | str b' => obtain rfl := of_decide_eq_true (show decide (b = b') = true from h); exact lx_of le_str (fun _ => rfl) rfl rfl
          | _ => cases h
        | _ => cases h
      | _ => cases e <;> cases h
    · obtain ⟨L, q⟩ := hot_ok F h
      cases e with
      | Call f es kws p => exact lx_of (le_of L fun _ _ => rfl) (fun _ => rfl) rfl rfl
      | _ => cases q
  | .v i, Γ, X, lk, e, F, h => by
    cases e with
    | Name x p =>
      have h : (decide (Γ.N[i]? = some x) && visB Γ.sc x && ndB x && ncB x) = true := h
      simp only [Bool.and_eq_true, decide_eq_true_eq] at h
      obtain ⟨⟨⟨h1, h2⟩, h3⟩, h4⟩ := h
      refine lx_of (le_of (le_var (i := i) (by rw [F.hN]; exact h1) (F.vis h2) ?_ ?_) fun _ _ => rfl) (fun _ => rfl) rfl rfl
      · simpa [ndB] using h3
      · simpa [ncB] using h4
    | _ => cases h
  | .g i, Γ, X, lk, e, F, h => by
    cases e with
    | Name x p =>
      have h : (decide (Γ.gnm[i]? = some x) && glB Γ.sc x && ndB x) = true := h
      simp only [Bool.and_eq_true, decide_eq_true_eq] at h
      obtain ⟨⟨h1, h2⟩, h3⟩ := h
      refine lx_of (le_of (le_glob (i := i) (gl := gl) (F.glo h2) ?_ fun d hd => ?_) fun _ _ => rfl) (fun _ => rfl) rfl rfl
      · simpa [ndB] using h3
      · obtain ⟨v, u, g1, g2, g3⟩ := F.gls i x d h1 hd
        exact ⟨v, u, g1, g2, fun ρ n H => g3 lk.Z ρ n H⟩
    | _ => cases h
  | .bin o w a b, Γ, X, lk, e, F, h => by
    cases e with
    | BinOp x op y p =>
      have h : (decide (op = opOf o) && chkE a Γ x && chkE b Γ y) = true := h
      simp only [Bool.and_eq_true, decide_eq_true_eq] at h
      obtain ⟨⟨rfl, h2⟩, h3⟩ := h
      exact lx_of (le_of (le_bin o w (chkE_ok a F h2).le (chkE_ok b F h3).le) fun _ _ => rfl) (fun _ => rfl) rfl rfl
    | _ => cases h
  | .neg a, Γ, X, lk, e, F, h => by
    cases e with
    | UnaryOp op x p => cases op with
      | USub => exact lx_of (le_of (le_neg (chkE_ok a F h).le) fun _ _ => rfl) (fun _ => rfl) rfl rfl
      | _ => cases h
    | _ => cases h
  | .cmp o a b, Γ, X, lk, e, F, h => by
    cases e with
    | Compare x ops ys p => match ops, ys, h with
      | [op], [y], h =>
        have h : (decide (op = cmOf o) && !behindInMarks (cmOf o) y && chkE a Γ x && chkE b Γ y) = true := h
        simp only [Bool.and_eq_true, decide_eq_true_eq, Bool.not_eq_true'] at h
        obtain ⟨⟨⟨rfl, h2⟩, h3⟩, h4⟩ := h
        have ia := (chkE_ok a F h3).le
        have ib := (chkE_ok b F h4).le
        exact ⟨le_of (le_cmp F.un o h2 ia ib) fun _ _ => rfl, fun _ => lt_cmp F.un o h2 ia ib, (fun z => by cases z), fun _ _ _ _ _ _ z => by cases z⟩
      | [], _, h => cases h
      | [_], [], h => cases h
      | [_], _ :: _ :: _, h => cases h
      | _ :: _ :: _, _, h => cases h
    | _ => cases h
  | .chain o o' a b c, Γ, X, lk, e, F, h => by
    cases e with
    | Compare x ops ys p => match ops, ys, h with
      | [op, op'], [y, z], h =>
        have h : (decide (op = cmOf o) && decide (op' = cmOf o') && !lastMarks [cmOf o, cmOf o'] [y, z] && chkE a Γ x && chkE b Γ y && chkE c Γ z) = true := h
        simp only [Bool.and_eq_true, decide_eq_true_eq, Bool.not_eq_true'] at h
        obtain ⟨⟨⟨⟨⟨rfl, rfl⟩, h2⟩, h3⟩, h4⟩, h5⟩ := h
        have ia := (chkE_ok a F h3).le
        have ib := (chkE_ok b F h4).le
        have ic := (chkE_ok c F h5).le
        exact ⟨le_of (le_chain F.un o o' h2 ia ib ic) fun _ _ => rfl, fun _ => lt_chain F.un o o' h2 ia ib ic, (fun z => by cases z), fun _ _ _ _ _ _ z => by cases z⟩
      | [], _, h => cases h
      | [_], [], h => cases h
      | [_], [_], h => cases h
      | [_], _ :: _ :: _, h => cases h
      | [_, _], [], h => cases h
      | [_, _], [_], h => cases h
      | [_, _], _ :: _ :: _ :: _, h => cases h
      | _ :: _ :: _ :: _, _, h => cases h
    | _ => cases h
  | .and_ a b, Γ, X, lk, e, F, h => by
    cases e with
    | BoolOp op ys p => cases op with
      | And => match ys, h with
        | [x, y], h =>
          have h : (notIf x && notIf y && chkE a Γ x && chkE b Γ y) = true := h
          simp only [Bool.and_eq_true] at h
          obtain ⟨⟨⟨h1, h2⟩, h3⟩, h4⟩ := h
          have ia := chkE_ok a F h3
          have ib := chkE_ok b F h4
          have w : LW X lk (.BoolOp .And [x, y] p) (andE (EV cl gl m a) (EV cl gl m b)) := lw_and (ia.lt h1) (pw_and1 (ib.lt h2))
          exact ⟨le_of (le_and ia.le (pe_one ib.le)) fun _ _ => rfl, fun _ => w.pt, fun _ => w, fun _ _ _ _ _ _ z => by cases z⟩
        | x :: y :: z :: r, h =>
          have h : (notIf x && chkE a Γ x && chkE b Γ (.BoolOp .And (y :: z :: r) p)) = true := h
          simp only [Bool.and_eq_true] at h
          obtain ⟨⟨h1, h3⟩, h4⟩ := h
          have ia := chkE_ok a F h3
          have ib := chkE_ok b F h4
          have w : LW X lk (.BoolOp .And (x :: y :: z :: r) p) (andE (EV cl gl m a) (EV cl gl m b)) := lw_and (ia.lt h1) (ib.lw rfl)
          exact ⟨le_of (le_and ia.le ib.le) fun _ _ => rfl, fun _ => w.pt, fun _ => w, fun _ _ _ _ _ _ z => by cases z⟩
        | [], h => cases h
        | [_], h => cases h
      | _ => cases h
    | _ => cases h
  | .or_ a b, Γ, X, lk, e, F, h => by
    cases e with
    | BoolOp op ys p => cases op with
      | Or => match ys, h with
        | [x, y], h =>
          have h : (notIf x && notIf y && chkE a Γ x && chkE b Γ y) = true := h
          simp only [Bool.and_eq_true] at h
          obtain ⟨⟨⟨h1, h2⟩, h3⟩, h4⟩ := h
          have ia := chkE_ok a F h3
          have ib := chkE_ok b F h4
          have w : LW X lk (.BoolOp .Or [x, y] p) (orE (EV cl gl m a) (EV cl gl m b)) := lw_or (ia.lt h1) (pw_or1 (ib.lt h2))
          exact ⟨le_of (le_or ia.le (pe_one ib.le)) fun _ _ => rfl, fun _ => w.pt, fun _ => w, fun _ _ _ _ _ _ z => by cases z⟩
        | x :: y :: z :: r, h =>
          have h : (notIf x && chkE a Γ x && chkE b Γ (.BoolOp .Or (y :: z :: r) p)) = true := h
          simp only [Bool.and_eq_true] at h
          obtain ⟨⟨h1, h3⟩, h4⟩ := h
          have ia := chkE_ok a F h3
          have ib := chkE_ok b F h4
          have w : LW X lk (.BoolOp .Or (x :: y :: z :: r) p) (orE (EV cl gl m a) (EV cl gl m b)) := lw_or (ia.lt h1) (ib.lw rfl)
          exact ⟨le_of (le_or ia.le ib.le) fun _ _ => rfl, fun _ => w.pt, fun _ => w, fun _ _ _ _ _ _ z => by cases z⟩
        | [], h => cases h
        | [_], h => cases h
      | _ => cases h
    | _ => cases h
  | .not_ a, Γ, X, lk, e, F, h => by
    cases e with
    | UnaryOp op x p => cases op with
      | Not =>
        have h : (notIf x && chkE a Γ x) = true := h
        simp only [Bool.and_eq_true] at h
        have ia := chkE_ok a F h.2
        exact ⟨le_of (le_not ia.le) fun _ _ => rfl, fun _ => lt_not (ia.lt h.1), (fun z => by cases z), fun _ _ _ _ _ _ z => by cases z⟩
      | _ => cases h
    | _ => cases h
  | .ite t a b, Γ, X, lk, e, F, h => by
    cases e with
    | IfExp c x y p =>
      have h : (notIf c && chkE t Γ c && chkE a Γ x && chkE b Γ y) = true := h
      simp only [Bool.and_eq_true] at h
      obtain ⟨⟨⟨h1, h2⟩, h3⟩, h4⟩ := h
      exact ⟨le_of (le_ite ((chkE_ok t F h2).lt h1) (chkE_ok a F h3).le (chkE_ok b F h4).le) fun _ _ => rfl, (fun z => by cases z), (fun z => by cases z), fun _ _ _ _ _ _ z => by cases z⟩
    | _ => cases h
  | .tup l, Γ, X, lk, e, F, h => by
    cases e with
    | Tuple es k p =>
      have h : (chkA l Γ es && decide (es.length ≤ 1000)) = true := h
      simp only [Bool.and_eq_true, decide_eq_true_eq] at h
      refine lx_of (le_of (le_tup (chkA_ok l F h.1) (fun s G ds G' q => ?_) fun s G v G' q => ?_) fun _ _ => rfl) (fun _ => rfl) rfl rfl
      · obtain ⟨ds', e, hl⟩ := args_len h.1 q
        cases e
        omega
      · obtain ⟨ds', e, hl⟩ := args_len h.1 q
        exact ⟨ds', e⟩
    | _ => cases h
  | .lst w l, Γ, X, lk, e, F, h => by
    cases e with
    | List es p =>
      have h : (chkA l Γ es && decide (es.length ≤ 1000)) = true := h
      simp only [Bool.and_eq_true, decide_eq_true_eq] at h
      refine lx_of (le_of (le_lst w (chkA_ok l F h.1) (fun s G ds G' q => ?_)) fun _ _ => rfl) (fun _ => rfl) rfl rfl
      obtain ⟨ds', e, hl⟩ := args_len h.1 q
      cases e
      omega
    | _ => cases h
  | .ix a i, Γ, X, lk, e, F, h => by
    cases e with
    | Subscript x y p =>
      have h : (plainIxB y && chkE a Γ x && chkE i Γ y) = true := h
      simp only [Bool.and_eq_true] at h
      obtain ⟨⟨h1, h2⟩, h3⟩ := h
      exact lx_of (le_of (le_ix (by have := F.un; omega) (plainIx_of h1) (chkE_ok a F h2).le (chkE_ok i F h3).le) fun _ _ => rfl) (fun _ => rfl) rfl rfl
    | _ => cases h
  | .sl w a lo hi, Γ, X, lk, e, F, h => by
    cases e with
    | Subscript x y p => cases y with
      | Slice l u st p2 => cases st with
        | none =>
          have h : (chkE a Γ x && optB (chkE lo Γ) (absL lo) l && optB (chkE hi Γ) (absL hi) u) = true := h
          simp only [Bool.and_eq_true] at h
          obtain ⟨⟨h1, h2⟩, h3⟩ := h
          have pl : PoL X lk l (EV cl gl m lo) := by
            cases l with
            | none => exact po_none' h2
            | some l => exact .inr ⟨l, rfl, (chkE_ok lo F h2).le⟩
          have ph : PoL X lk u (EV cl gl m hi) := by
            cases u with
            | none => exact po_none' h3
            | some l => exact .inr ⟨l, rfl, (chkE_ok hi F h3).le⟩
          exact lx_of (le_of (le_sl w (chkE_ok a F h1).le pl ph) fun _ _ => rfl) (fun _ => rfl) rfl rfl
        | some _ => cases h
      | _ => cases h
    | _ => cases h
  | .rev w a, Γ, X, lk, e, F, h => by
    unfold chkE at h
    split at h
    · rename_i x n k1 p4 p3 p2 p
      simp only [Bool.and_eq_true, decide_eq_true_eq] at h
      obtain ⟨rfl, h⟩ := h
      exact lx_of (le_of (le_rev w (chkE_ok a F h).le) fun _ _ => rfl) (fun _ => rfl) rfl rfl
    · rename_i n q1 n2 q2 x q3 q4
      simp only [Bool.and_eq_true, decide_eq_true_eq] at h
      obtain ⟨⟨⟨⟨⟨⟨rfl, h2⟩, rfl⟩, h4⟩, h5⟩, h6⟩, hcm⟩ := h
      obtain ⟨g1, g2⟩ := F.blt h2
      obtain ⟨g3, g4⟩ := F.blt h4
      exact lx_of (le_of (le_lrev w (F.calm hcm) g1 g2 g3 g4 (chkE_ok a F h6).le (star_of h5)) fun _ _ => rfl) (fun _ => rfl) rfl rfl
    · cases h
  | .setlen a, Γ, X, lk, e, F, h => by
    unfold chkE at h
    split at h
    · rename_i n q1 n2 q2 x q3 q4
      simp only [Bool.and_eq_true, decide_eq_true_eq] at h
      obtain ⟨⟨⟨⟨⟨⟨rfl, h2⟩, rfl⟩, h4⟩, h5⟩, h6⟩, hcm⟩ := h
      obtain ⟨g1, g2⟩ := F.blt h2
      obtain ⟨g3, g4⟩ := F.blt h4
      exact lx_of (le_of (le_setlen (F.calm hcm) g1 g2 g3 g4 (chkE_ok a F h6).le (star_of h5)) fun _ _ => rfl) (fun _ => rfl) rfl rfl
    · cases h
  | .call f l, Γ, X, lk, e, F, h => by
    cases e with
    | Call g es kws p => cases g with
      | Name x p2 => cases kws with
        | nil =>
          have h : (decide (Γ.fnm[f]? = some (some x)) && glB Γ.sc x && ndB x && chkA l Γ es) = true := h
          simp only [Bool.and_eq_true, decide_eq_true_eq] at h
          obtain ⟨⟨⟨h1, h2⟩, h3⟩, h4⟩ := h
          obtain ⟨fa, fd, ps, k, T, hr, hm, hk, hb⟩ := F.fns f x h1
          have h3 : (x == ("__debug__" : Str)) = false := by simpa [ndB] using h3
          have st := chkA_star h4
          cases es with
          | nil =>
            cases l with
            | nil => exact lx_of (le_of (le_call0 (m := m) T (hr.mono (Nat.le_succ _)) (F.glo h2) hm hk hb h3) fun _ _ => rfl) (fun _ => rfl) rfl rfl
            | cons _ _ => cases h4
          | cons y es =>
            simp only [List.all_cons, Bool.and_eq_true] at st
            exact lx_of (le_of (le_call (m := m) T (hr.mono (Nat.le_succ _)) (F.glo h2) hm hk hb (chkA_ok l F h4) h3 (star_of st.1) (nostar_any st.2)) fun _ _ => rfl) (fun _ => rfl) rfl rfl
        | cons _ _ => cases h
      | _ => cases h
    | _ => cases h
  | .bi b w l, Γ, X, lk, e, F, h => by
    cases e with
    | Call g es kws p => cases g with
      | Name x p2 => cases kws with
        | nil => cases es with
          | nil => cases h
          | cons y es =>
            have h : (decide (x = Str.ofString (biName b)) && bltB Γ x && chkA l Γ (y :: es) && (Γ.calm || decide (b = .int))) = true := h
            simp only [Bool.and_eq_true, Bool.or_eq_true, decide_eq_true_eq] at h
            obtain ⟨⟨⟨rfl, h2⟩, h3⟩, hcm⟩ := h
            have hcm : X.calm = true ∨ b = .int := hcm.imp F.calm id
            obtain ⟨g1, g2⟩ := F.blt h2
            have st := chkA_star h3
            simp only [List.all_cons, Bool.and_eq_true] at st
            exact lx_of (le_of (le_bi b w hcm F.gd F.un g1 g2 (chkA_ok l F h3) (star_of st.1) (nostar_any st.2)) fun _ _ => rfl) (fun _ => rfl) rfl rfl
        | cons _ _ => cases es <;> cases h
      | _ => cases h
    | _ => cases h
  | .mt b w o l, Γ, X, lk, e, F, h => by
    cases e with
    | Call g es kws p => cases g with
      | Attribute x nm ap => cases kws with
        | nil =>
          have h : (decide (nm = Str.ofString (mtN b)) && baseB x && (ap.endLine == p.line) && chkE o Γ x && chkA l Γ es && decide (es.length < 20) && mtB b es) = true := h
          simp only [Bool.and_eq_true, decide_eq_true_eq] at h
          obtain ⟨⟨⟨⟨⟨⟨rfl, h2⟩, h3⟩, h4⟩, h5⟩, h6⟩, h7⟩ := h
          have st := chkA_star h5
          cases es with
          | nil =>
            cases l with
            | nil => exact lx_of (le_of (le_m0 (m := m) b w (of_decide_eq_true h7) (chkE_ok o F h4).le (base_of h2) h3) fun _ _ => rfl) (fun _ => rfl) rfl rfl
            | cons _ _ => cases h5
          | cons y es =>
            simp only [List.all_cons, Bool.and_eq_true] at st
            exact lx_of (le_of (le_m1 (m := m) (by have := F.un; omega) b w (of_decide_eq_true h7) (chkE_ok o F h4).le (chkA_ok l F h5) (base_of h2) h3 (star_of st.1) (nostar_any st.2) (by have := h6; simp at this; omega)) fun _ _ => rfl) (fun _ => rfl) rfl rfl
        | cons _ _ => cases h
      | _ => cases h
    | _ => cases h
  | .isi ts a, Γ, X, lk, e, F, h => by
    cases e with
    | Call g es kws p => cases g with
      | Name n p2 => match es, kws, h with
        | [x, .Name y p3], [], h =>
          have h : (decide (n = "isinstance") && bltB Γ n && noStar x && chkE a Γ x && chkTys Γ ts [.Name y p3]) = true := h
          simp only [Bool.and_eq_true, decide_eq_true_eq] at h
          obtain ⟨⟨⟨⟨rfl, h2⟩, h3⟩, h4⟩, h5⟩ := h
          obtain ⟨g1, g2⟩ := F.blt h2
          match ts, h5 with
          | [t], h5 =>
            have h5 : (!tyOwn t && decide (y = Str.ofString (tyS t)) && bltB Γ y && true) = true := h5
            simp only [Bool.and_eq_true, Bool.not_eq_true', decide_eq_true_eq, and_true] at h5
            obtain ⟨⟨h6, rfl⟩, h7⟩ := h5
            obtain ⟨g3, g4⟩ := F.blt h7
            exact lx_of (le_of (le_isi1 t h6 g1 g2 g3 g4 (chkE_ok a F h4).le (star_of h3)) fun _ _ => rfl) (fun _ => rfl) rfl rfl
          | [], h5 => cases h5
          | _ :: _ :: _, h5 => simp [chkTys] at h5
        | [x, .Tuple ys k p3], [], h =>
          have h : (decide (n = "isinstance") && bltB Γ n && noStar x && chkE a Γ x && chkTys Γ ts ys && decide (ts.length ≤ 1000)) = true := h
          simp only [Bool.and_eq_true, decide_eq_true_eq] at h
          obtain ⟨⟨⟨⟨⟨rfl, h2⟩, h3⟩, h4⟩, h5⟩, h6⟩ := h
          obtain ⟨g1, g2⟩ := F.blt h2
          exact lx_of (le_of (le_isiT (tys_of F h5) h6 g1 g2 (chkE_ok a F h4).le (star_of h3)) fun _ _ => rfl) (fun _ => rfl) rfl rfl
      | _ => cases h
    | _ => cases h
  | .comp w k own pt one it cond elt, Γ, X, lk, e, F, h => by
    cases e with
    | ListComp y gs scope p => match gs, h with
      | [⟨tg, iter, ifs, asy⟩], h =>
        have h : (decide (asy = 0) && !isSet iter && (match iterEs k Γ tg iter with | some es => chkA it Γ es | none => false) && blkC Γ.N Γ.sc scope (ownP Γ own) && pt.all (fun i => decide (i ∈ own)) && chkP (inBlk Γ scope) tg pt one &&
          ifsB (chkE cond (inBlk Γ scope)) (yesL cond) ifs && chkE elt (inBlk Γ scope) y && Γ.calm) = true := h
        simp only [Bool.and_eq_true, decide_eq_true_eq, Bool.not_eq_true', List.all_eq_true] at h
        obtain ⟨⟨⟨⟨⟨⟨⟨⟨rfl, hset⟩, h3⟩, h4⟩, h5⟩, h6⟩, h7⟩, h8⟩, hcm⟩ := h
        have C : CompOk X lk tg iter y ifs scope (ownP Γ own) k pt one (EVs cl gl m it) (EV cl gl m cond) (EV cl gl m elt) := by
          refine ⟨?_, ?_, ?_, fun s H C cls fp => (F.blk hcm (A := 0)).pat h6, fun A s H C cls fp => ?_, fun A s H C cls fp => (chkE_ok elt (F.blk hcm (A := A)) h8).le, set_of hset⟩
          · cases q : iterEs k Γ tg iter with
            | none => rw [q] at h3; cases h3
            | some es =>
              rw [q] at h3
              refine iter_of F q h3 (chkA_ok it F h3) fun a ea e ee => ?_
              subst ea
              subst ee
              have h3 : (noStar e && chkE a Γ e && true) = true := h3
              simp only [Bool.and_eq_true, and_true] at h3
              exact (chkE_ok a F h3.2).le
          · rw [F.hN, F.sc]; exact blkOk_by h4
          · rw [own_back]; exact h5
          · match ifs, h7 with
            | [], h7 =>
              cases cond with
              | c d => cases d with
                | bl b => cases b with
                  | true => exact ⟨fun pins s' σ H' Q I ⟨ρ, G, s, r, en, hq⟩ => pts_nil.run pins s' σ H' Q I (OutT.here hq r)⟩
                  | false => cases h7
                | _ => cases h7
              | _ => cases h7
            | [c], h7 =>
              obtain ⟨c1, c2⟩ := Bool.and_eq_true_iff.mp h7
              exact pts_one (pt_imp ((chkE_ok cond (F.blk hcm (A := A)) c2).lt c1) fun σ H Q h => liftT_w0 h)
            | _ :: _ :: _, h7 => cases h7
        have L := le_comp (w := w) (pos := p) (F.calm hcm) (F.free' hcm) F.nd' C
        rw [own_back] at L
        refine ⟨le_of L fun _ _ => rfl, fun _ => lt_val (le_of L fun _ _ => rfl) fun _ => rfl, (fun z => by cases z), fun _ _ _ _ _ _ z _ => ?_⟩
        cases z
        exact ⟨w, ownP Γ own, k, pt, one, _, _, _, F.calm hcm, F.free' hcm, .inl ⟨C, fun s G => by rw [own_back]; rfl⟩⟩
      | [], h => cases h
      | ⟨_, _, _, _⟩ :: ⟨_, _, _, _⟩ :: _, h => cases h
    | _ => cases h
  | .lock a b, Γ, X, lk, e, F, h => by
    cases e with
    | Call g es kws p =>
      obtain ⟨h1, h2⟩ := Bool.and_eq_true_iff.mp (show (pureL a && chkE b Γ (.Call g es kws p)) = true from h)
      have hp : ∀ s G, (∃ x, EV cl gl m a s G = PK.R.ok x G) ∨ EV cl gl m a s G = PK.R.bad := fun s G => by
        have nm : ∀ i : Nat, (∃ x, EV cl gl m (.v i) s G = PK.R.ok x G) ∨ EV cl gl m (.v i) s G = PK.R.bad := fun i => by
          show (∃ x, PK.optK (s[i]?.join) (fun d => PK.R.ok d G) PK.R.bad = PK.R.ok x G) ∨ PK.optK (s[i]?.join) (fun d => PK.R.ok d G) PK.R.bad = PK.R.bad
          cases s[i]?.join with
          | none => exact .inr rfl
          | some x => exact .inl ⟨x, rfl⟩
        cases a with
        | v i => exact nm i
        | fld c j o => cases o with
          | v i =>
            rcases nm i with ⟨x, e⟩ | e
            · show (∃ x, (EV cl gl m (.v i) s G).bind (fun x G1 => PK.optK (PK.fldD G1 c j x) (fun d => PK.R.ok d G1) PK.R.bad) = PK.R.ok x G) ∨ (EV cl gl m (.v i) s G).bind (fun x G1 => PK.optK (PK.fldD G1 c j x) (fun d => PK.R.ok d G1) PK.R.bad) = PK.R.bad
              rw [e]
              show (∃ y, PK.optK (PK.fldD G c j x) (fun d => PK.R.ok d G) PK.R.bad = PK.R.ok y G) ∨ PK.optK (PK.fldD G c j x) (fun d => PK.R.ok d G) PK.R.bad = PK.R.bad
              cases PK.fldD G c j x with
              | none => exact .inr rfl
              | some y => exact .inl ⟨y, rfl⟩
            · refine .inr ?_
              show (EV cl gl m (.v i) s G).bind (fun x G1 => PK.optK (PK.fldD G1 c j x) (fun d => PK.R.ok d G1) PK.R.bad) = PK.R.bad
              rw [e]; rfl
          | _ => cases h1
        | _ => cases h1
      exact lx_of (le_of (le_lock hp (chkE_ok b F h2).le) fun _ _ => rfl) (fun _ => rfl) rfl rfl
    | _ => cases h
  | .pick i j k, Γ, X, lk, e, F, h => by
    unfold chkE at h
    split at h
    · rename_i a p1 a2 p2 b p3 kk p4 x p5 b2 p6 asy scope pos
      simp only [Bool.and_eq_true, decide_eq_true_eq, Bool.not_eq_true', decide_eq_false_iff_not] at h
      obtain ⟨⟨⟨⟨⟨⟨⟨⟨⟨⟨⟨⟨⟨⟨⟨⟨⟨h1, h2⟩, h3⟩, h4⟩, h5⟩, h6⟩, h7⟩, h8⟩, na⟩, ca⟩, nb⟩, cb⟩, nx⟩, cx⟩, la⟩, lb⟩, h9⟩, h10⟩ := h
      subst h1 h2 h3
      obtain ⟨⟨q0, hot, hq0⟩, hnc⟩ := F.hot1 h10
      have sb : ∀ {z : Bool}, (!z) = true → z = false := fun h => by simpa using h
      have P := pe_pick (p1 := p1) (p2 := p2) (p3 := p3) (p4 := p4) (p5 := p5) (p6 := p6) (pos := pos) (kk := kk) (own := ownP Γ [i, j]) hot hq0 F.nd' (by rw [F.hN, F.sc]; exact blkOk_by h9) h4 (by rw [own_back]; simp) (by rw [own_back]; simp)
        (by rw [F.hN]; exact h5) (by rw [F.hN]; exact h6) (by rw [F.hN]; exact h7) (F.vis h8) (of_decide_eq_true la) (of_decide_eq_true lb) (sb na) (sb ca) (sb nb) (sb cb) (sb nx) (sb cx)
      have L : LE X lk _ (EV cl gl m (.pick i j k)) := pe_imp P fun σ H Q h => pick_lift h
      exact ⟨L, fun _ => lt_val L fun _ => rfl, (fun z => by cases z), fun _ _ _ _ _ _ z hc => by
        rw [hnc] at hc
        cases hc⟩
    · cases h
  | .compx w k own pt one it cond elt, Γ, X, lk, e, F, h => by
    cases e with
    | ListComp y gs scope p => match gs, h with
      | [⟨tg, iter, ifs, asy⟩], h =>
        have h : (decide (asy = 0) && !isSet iter && (match iterEs k Γ tg iter with | some es => chkA it Γ es | none => false) && blkC Γ.N Γ.sc scope (ownP Γ own) && pt.all (fun i => decide (i ∈ own)) && chkP (inBlk Γ scope) tg pt one &&
          ifsB (chkE cond (inBlk Γ scope)) (yesL cond) ifs && chkE elt (inBlk Γ scope) y && Γ.calm && !Γ.blk) = true := h
        simp only [Bool.and_eq_true, decide_eq_true_eq, Bool.not_eq_true', List.all_eq_true] at h
        obtain ⟨⟨⟨⟨⟨⟨⟨⟨⟨rfl, hset⟩, h3⟩, h4⟩, h5⟩, h6⟩, h7⟩, h8⟩, hcm⟩, hbk⟩ := h
        have FX : ∀ (A : Addr) (s : Shared) (H : Hp) (C : Addr) (cls : List (Str × Addr)) (fp : List Addr), Fits (inBlk Γ scope) (blkX X s H scope (compEnvC scope cls C X.env) fp) (lk.add A) cl gl := fun A s H C cls fp => (F.blk (s := s) (H := H) (C := C) (cls := cls) (fp := fp) hcm (A := A)).tr rfl (fun z => by cases z)
        have C : CompOkX X lk tg iter y ifs scope (ownP Γ own) k pt one (EVs cl gl m it) (EV cl gl m cond) (EV cl gl m elt) := by
          refine ⟨F.own hbk, ?_, ?_, ?_, fun s H C cls fp => (FX 0 s H C cls fp).pat h6, fun A s H C cls fp => ?_, fun A s H C cls fp => (chkE_ok elt (FX A s H C cls fp) h8).le, set_of hset⟩
          · cases q : iterEs k Γ tg iter with
            | none => rw [q] at h3; cases h3
            | some es =>
              rw [q] at h3
              refine iter_of F q h3 (chkA_ok it F h3) fun a ea e ee => ?_
              subst ea
              subst ee
              have h3 : (noStar e && chkE a Γ e && true) = true := h3
              simp only [Bool.and_eq_true, and_true] at h3
              exact (chkE_ok a F h3.2).le
          · rw [F.hN, F.sc]; exact blkOk_by h4
          · rw [own_back]; exact h5
          · match ifs, h7 with
            | [], h7 =>
              cases cond with
              | c d => cases d with
                | bl b => cases b with
                  | true => exact ⟨fun pins s' σ H' Q I ⟨ρ, G, s, r, en, hq⟩ => pts_nil.run pins s' σ H' Q I (OutT.here hq r)⟩
                  | false => cases h7
                | _ => cases h7
              | _ => cases h7
            | [c], h7 =>
              obtain ⟨c1, c2⟩ := Bool.and_eq_true_iff.mp h7
              exact pts_one ((chkE_ok cond (FX A s H C cls fp) c2).lt c1)
            | _ :: _ :: _, h7 => cases h7
        have L := le_compX (w := w) (pos := p) (F.calm hcm) (F.free' hcm) F.nd' C
        rw [own_back] at L
        refine ⟨le_of L fun _ _ => rfl, fun _ => lt_val (le_of L fun _ _ => rfl) fun _ => rfl, (fun z => by cases z), fun _ _ _ _ _ _ z _ => ?_⟩
        cases z
        exact ⟨w, ownP Γ own, k, pt, one, _, _, _, F.calm hcm, F.free' hcm, .inr ⟨C, fun s G => by rw [own_back]; rfl⟩⟩
      | [], h => cases h
      | ⟨_, _, _, _⟩ :: ⟨_, _, _, _⟩ :: _, h => cases h
    | _ => cases h
  | .meth f c o l, Γ, X, lk, e, F, h => by
    cases e with
    | Call g es kws p => cases g with
      | Attribute x nm ap => cases kws with
        | nil =>
          have h : (decide (Γ.mth[f]? = some (some (c, nm))) && !(nm == initN) && decide (c < Γ.fld.length) && !((Γ.fld.getD c []).contains nm) && baseB x && (ap.endLine == p.line) && chkE o Γ x && chkA l Γ es && decide (es.length < 20)) = true := h
          simp only [Bool.and_eq_true, decide_eq_true_eq, Bool.not_eq_true'] at h
          obtain ⟨⟨⟨⟨⟨⟨⟨⟨h1, h2⟩, h3⟩, h4⟩, h5⟩, h6⟩, h7⟩, h8⟩, h9⟩ := h
          have st := chkA_star h8
          obtain ⟨fa, fd, ps, k, T, hr, hm, hb⟩ := F.mts f c nm h1 (by simpa using h2)
          have hfl : Γ.fld[c]? = some (Γ.fld.getD c []) := by rw [List.getD_eq_getElem?_getD, List.getElem?_eq_getElem h3]; rfl
          obtain ⟨c1, c2⟩ := F.cls c _ hfl
          have hn : nm ∉ lk.FN c := by rw [c1]; intro z; rw [List.contains_iff_mem.mpr z] at h4; cases h4
          rw [← c1] at c2
          cases es with
          | nil =>
            cases l with
            | nil => exact lx_of (le_of (le_meth0 (mk := m) c2 hm hn T (hr.mono (Nat.le_succ _)) hb (chkE_ok o F h7).le (mt_eval (base_of h5) rfl h6)) fun _ _ => rfl) (fun _ => rfl) rfl rfl
            | cons _ _ => cases h8
          | cons y es =>
            simp only [List.all_cons, Bool.and_eq_true] at st
            have few := few_of (star_of (env := X.env) (es := es) st.1) (nostar_any (pos := p) (env := X.env) st.2) (by simp at h9; omega)
            exact lx_of (le_of (le_meth (mk := m) c2 hm hn T (hr.mono (Nat.le_succ _)) hb (chkE_ok o F h7).le (chkA_ok l F h8) (star_of st.1) (nostar_any st.2) (mt_eval (base_of h5) few h6)) fun _ _ => rfl) (fun _ => rfl) rfl rfl
        | cons _ _ => cases h
      | _ => cases h
    | _ => cases h
  | .new w c f l, Γ, X, lk, e, F, h => by
    cases e with
    | Call g es kws p => cases g with
      | Name x p2 => cases kws with
        | nil =>
          have h : (decide (Γ.cnm[c]? = some x) && decide (Γ.mth[f]? = some (some (c, initN))) && glB Γ.sc x && ndB x && chkA l Γ es) = true := h
          simp only [Bool.and_eq_true, decide_eq_true_eq] at h
          obtain ⟨⟨⟨⟨h1, h2⟩, h3⟩, h4⟩, h5⟩ := h
          have h4 : (x == ("__debug__" : Str)) = false := by simpa [ndB] using h4
          have st := chkA_star h5
          obtain ⟨fa, fd, ps, k, T, hr, hM, hb⟩ := F.mks f c h2
          cases es with
          | nil =>
            cases l with
            | nil => exact lx_of (le_of (le_new0 (mk := m) w (F.kr f) hM T hr (F.glo h3) (F.clsOf c x h1) hb h4) fun _ _ => rfl) (fun _ => rfl) rfl rfl
            | cons _ _ => cases h5
          | cons y es =>
            simp only [List.all_cons, Bool.and_eq_true] at st
            exact lx_of (le_of (le_new (mk := m) w (F.kr f) hM T hr (F.glo h3) (F.clsOf c x h1) hb (chkA_ok l F h5) h4 (star_of st.1) (nostar_any st.2)) fun _ _ => rfl) (fun _ => rfl) rfl rfl
        | cons _ _ => cases h
      | _ => cases h
    | _ => cases h
  | .fld c j a, Γ, X, lk, e, F, h => by
    cases e with
    | Attribute x f p =>
      have h : (decide ((Γ.fld[c]?).bind (·[j]?) = some f) && baseB x && chkE a Γ x) = true := h
      simp only [Bool.and_eq_true, decide_eq_true_eq] at h
      obtain ⟨⟨h1, h2⟩, h3⟩ := h
      cases q : Γ.fld[c]? with
      | none => rw [q] at h1; cases h1
      | some fs =>
        rw [q] at h1
        have h1 : fs[j]? = some f := h1
        obtain ⟨c1, c2⟩ := F.cls c _ q
        rw [← c1] at c2 h1
        exact lx_of (le_of (le_fld c2 h1 (chkE_ok a F h3).le (base_of h2)) fun _ _ => rfl) (fun _ => rfl) rfl rfl
    | _ => cases h
  | .key2 mx f a b, Γ, X, lk, e, F, h => by
    cases e with
    | Call g es kws p => cases g with
      | Name x p2 => match es, h with
        | [], h => cases h
        | [_], h => cases h
        | _ :: _ :: _ :: _, h => cases h
        | [y, z], h => match kws, h with
          | [], h => cases h
          | ⟨ka, kv, _⟩ :: _ :: _, h => cases ka with
            | none => cases h
            | some _ => cases kv <;> cases h
          | [⟨none, _, _⟩], h => cases h
          | [⟨some kk, kv, kp⟩], h => cases kv with
            | Name fn p3 =>
              have h : (decide (x = Str.ofString (keyN mx)) && bltB Γ x && decide (kk = Str.ofString "key") && decide (Γ.fnm[f]? = some (some fn)) && glB Γ.sc fn && ndB fn && noStar y && noStar z && chkE a Γ y && chkE b Γ z) = true := h
              simp only [Bool.and_eq_true, decide_eq_true_eq] at h
              obtain ⟨⟨⟨⟨⟨⟨⟨⟨⟨rfl, h2⟩, rfl⟩, h4⟩, h5⟩, h6⟩, h7⟩, h8⟩, h9⟩, h10⟩ := h
              obtain ⟨fa, fd, ps, k, T, hr, hm, hk, hb⟩ := F.fns f fn h4
              obtain ⟨g1, g2⟩ := F.blt h2
              have h6 : (fn == ("__debug__" : Str)) = false := by simpa [ndB] using h6
              have ha : LA X lk [y, z] (EVs cl gl m (.cons a (.cons b .nil))) := la_cons (chkE_ok a F h9).le (la_cons (chkE_ok b F h10).le la_nil (star_of h8)) (star_of h7)
              refine lx_of (le_of (le_key2 (m := m) mx T hr hb g1 g2 ha (F.glo h5) hm h6 (fun _ _ => star_of h7) (fun _ _ => star_of h8)) fun s G => ?_) (fun _ => rfl) rfl rfl
              show ((PK.eval cl gl m a s G).bind fun x G1 => (PK.eval cl gl m b s G1).bind fun y G2 => _) = PK.R.bind ((PK.eval cl gl m a s G).bind fun x G1 => ((PK.eval cl gl m b s G1).bind fun y G2 => _).bind _) _
              cases PK.eval cl gl m a s G with
              | ok v G1 =>
                show ((PK.eval cl gl m b s G1).bind fun y G2 => _) = PK.R.bind (((PK.eval cl gl m b s G1).bind fun y G2 => _).bind _) _
                cases PK.eval cl gl m b s G1 <;> rfl
              | exc _ _ => rfl
              | bad => rfl
            | _ => cases h
      | _ => cases h
    | _ => cases h
  | .dnew t, Γ, X, lk, e, F, h => by
    cases e with
    | Dict ks vs p => cases ks with
      | nil => cases vs with
        | nil => exact lx_of (le_dnew t) (fun _ => rfl) rfl rfl
        | cons _ _ => cases h
      | cons k ks => cases k <;> cases h
    | _ => cases h
  | .dlit l, Γ, X, lk, e, F, h => by
    unfold chkE at h
    split at h
    · rename_i ks vs p
      simp only [Bool.and_eq_true, decide_eq_true_eq, Bool.not_eq_true'] at h
      obtain ⟨⟨h1, h2⟩, h3⟩ := h
      exact lx_of (le_of (le_dlit (atBs_ok F h1) (by intro z; rw [z] at h2; cases h2) h3) fun _ _ => rfl) (fun _ => rfl) rfl rfl
    · cases h
  | .skey w f a, Γ, X, lk, e, F, h => by
    cases e with
    | Call g es kws p => cases g with
      | Name x p2 => match es, h with
        | [], h => cases h
        | _ :: _ :: _, h => cases h
        | [y], h => match kws, h with
          | [], h => cases h
          | ⟨ka, kv, _⟩ :: _ :: _, h => cases ka with
            | none => cases h
            | some _ => cases kv <;> cases h
          | [⟨none, _, _⟩], h => cases h
          | [⟨some kk, kv, kp⟩], h => cases kv with
            | Name fn p3 =>
              have h : (decide (x = Str.ofString "sorted") && bltB Γ x && decide (kk = Str.ofString "key") && decide (Γ.fnm[f]? = some (some fn)) && glB Γ.sc fn && ndB fn && noStar y && chkE a Γ y) = true := h
              simp only [Bool.and_eq_true, decide_eq_true_eq] at h
              obtain ⟨⟨⟨⟨⟨⟨⟨rfl, h2⟩, rfl⟩, h4⟩, h5⟩, h6⟩, h7⟩, h9⟩ := h
              obtain ⟨fa, fd, ps, k, T, hr, hm, hk, hb⟩ := F.fns f fn h4
              obtain ⟨g1, g2⟩ := F.blt h2
              have h6 : (fn == ("__debug__" : Str)) = false := by simpa [ndB] using h6
              have ha : LA X lk [y] (EVs cl gl m (.cons a .nil)) := la_cons (chkE_ok a F h9).le la_nil (star_of h7)
              refine lx_of (le_of (le_skey (m := m) w T hr hb g1 g2 ha (F.glo h5) hm h6 (fun _ _ => star_of h7)) fun s G => ?_) (fun _ => rfl) rfl rfl
              show ((PK.eval cl gl m a s G).bind fun x G1 => _) = PK.R.bind ((PK.eval cl gl m a s G).bind fun x G1 => _) _
              cases PK.eval cl gl m a s G <;> rfl
            | _ => cases h
      | _ => cases h
    | _ => cases h
theorem chkA_ok : ∀ (l : PK.Ls) {Γ : Sig} {X : Cx} {lk : Lk} {es : List Expr}, Fits Γ X lk cl gl → chkA l Γ es = true → LA X lk es (EVs cl gl m l)
  | .nil, Γ, X, lk, es, F, h => by
    cases es with
    | nil => exact la_nil
    | cons _ _ => cases h
  | .cons a l, Γ, X, lk, es, F, h => by
    cases es with
    | nil => cases h
    | cons e es =>
      have h : (noStar e && chkE a Γ e && chkA l Γ es) = true := h
      simp only [Bool.and_eq_true] at h
      exact la_cons (chkE_ok a F h.1.2).le (chkA_ok l F h.2) (star_of h.1.1)
end
end
end PKS
namespace PKS
open PySem PySem.Spec PyProof.Rows L2
theorem sw_not {e : Expr} {t : Option Expr} {l : Nat} {env : Env} (h : isComp e = false) : swapsWith e t l env = pure false := by
  cases e <;> first | rfl | cases h
theorem sw_attr {e o : Expr} {f : Str} {p : Pos} {l : Nat} {env : Env} : swapsWith e (some (.Attribute o f p)) l env = pure false := by
  cases e <;> rfl
theorem sw_cell {elt : Expr} {gs : List Comprehension} {scope : Scope} {pc px : Pos} {x : Str} {l : Nat} {env : Env} (h : env.scope.names.lookup x = some .cell) : swapsWith (.ListComp elt gs scope pc) (some (.Name x px)) l env = pure false := by
  have k : (env.kindOf x == some NameKind.local) = false := by show (env.scope.names.lookup x == some NameKind.local) = false; rw [h]; rfl
  show (pure (env.blockKind == .function && env.kindOf x == some .local && px.line == pc.line && !(scope.names.any fun (n, k) => n == x && (k == .local || k == .cell))) : Sem Bool) = pure false
  rw [k, Bool.and_false]; rfl
theorem sole_tup {e : Expr} {es : List Expr} {k l : Nat} {p : Pos} {env : Env} : swapsWithSole [.Tuple es k p] e l env = pure false := by
  cases e <;> rfl
theorem sole_sub {e a b : Expr} {l : Nat} {p : Pos} {env : Env} : swapsWithSole [.Subscript a b p] e l env = pure false := by
  cases e <;> rfl
theorem stores_not {e : Expr} {tg : Expr} {env : Env} (h : isTup e = false) : swappedStores [tg] e env = pure none := by
  cases e <;> first | (cases tg <;> rfl) | cases h
theorem stores_sub {e a b : Expr} {p : Pos} {env : Env} : swappedStores [.Subscript a b p] e env = pure none := by
  cases e <;> rfl
theorem stores_fold {ts vs : List Expr} {k k2 : Nat} {p p2 : Pos} {env : Env} (h : vs.all (foldedForSure 8) = true) : swappedStores [.Tuple ts k p] (.Tuple vs k2 p2) env = pure none := by
  unfold swappedStores
  dsimp only
  split
  · rfl
  · split
    · rfl
    · split
      · rfl
      · first | rfl | (rw [if_pos h] <;> rfl)
def names2 (line : Nat) (sc : Scope) (x y : Str) (px py : Pos) (vs : List Expr) : Bool :=
  isK sc x .local && isK sc y .local && (px.line == line) && (py.line == line) && !(x == y) && vs.all noStar && !vs.all (foldedForSure 8) && !vs.all (constantsAlone 8)
theorem stores_two {x y : Str} {px py pt pt2 : Pos} {a b : Expr} {k k2 : Nat} {env : Env} (hk : env.scope.kind = .function) (h : names2 px.line env.scope x y px py [a, b] = true) :
    swappedStores [.Tuple [.Name x px, .Name y py] k pt] (.Tuple [a, b] k2 pt2) env = pure (some [x, y]) := by
  unfold names2 isK at h
  simp only [Bool.and_eq_true, Bool.not_eq_true', decide_eq_true_eq] at h
  obtain ⟨⟨⟨⟨⟨⟨⟨h1, h2⟩, h3⟩, h4⟩, h5⟩, h6⟩, h7⟩, h8⟩ := h
  have hb : env.blockKind = .function := by unfold Env.blockKind; rw [hk]; rfl
  have s1 : noStar a = true := by simp at h6; exact h6.1
  have s2 : noStar b = true := by simp at h6; exact h6.2
  have k1 : (env.kindOf x == some NameKind.local) = true := by show (env.scope.names.lookup x == some NameKind.local) = true; rw [h1]; rfl
  have k2 : (env.kindOf y == some NameKind.local) = true := by show (env.scope.names.lookup y == some NameKind.local) = true; rw [h2]; rfl
  have hne : x ≠ y := by intro z; rw [z] at h5; simp at h5
  have hd : ([x, y] : List Str).eraseDups = [x, y] := by
    rw [List.eraseDups_cons]
    have : List.filter (fun b => !b == x) [y] = [y] := by
      rw [List.filter_cons_of_pos (by simp; exact fun z => hne z.symm)]; rfl
    rw [this, List.eraseDups_cons]; rfl
  have h4' : (py.line == px.line) = true := h4
  unfold swappedStores
  dsimp only
  have e1 : (!([Expr.Name x px, Expr.Name y py].length == 2 || [Expr.Name x px, Expr.Name y py].length == 3) || [a, b].length != [Expr.Name x px, Expr.Name y py].length || env.blockKind != .function) = false := by rw [hb]; rfl
  rw [if_neg (by rw [e1]; exact Bool.false_ne_true), if_neg (by cases a <;> first | (cases b <;> first | exact Bool.false_ne_true | (cases s2; done)) | (cases s1; done))]
  simp only [List.filterMap_cons, List.filterMap_nil, List.head?_cons, Option.map_some, Option.getD_some, Expr.pos, k1, k2, h4', beq_self_eq_true, Bool.and_self, if_true, hd, h7, h8]
  rfl
def names3 (line : Nat) (sc : Scope) (x y z : Str) (px py pz : Pos) (vs : List Expr) : Bool :=
  isK sc x .local && isK sc y .local && isK sc z .local && (px.line == line) && (py.line == line) && (pz.line == line) && !(x == y) && !(x == z) && !(y == z) && vs.all noStar && !vs.all (foldedForSure 8) && !vs.all (constantsAlone 8)
theorem stores_three {x y z : Str} {px py pz pt pt2 : Pos} {a b c : Expr} {k k2 : Nat} {env : Env} (hk : env.scope.kind = .function) (h : names3 px.line env.scope x y z px py pz [a, b, c] = true) :
    swappedStores [.Tuple [.Name x px, .Name y py, .Name z pz] k pt] (.Tuple [a, b, c] k2 pt2) env = pure (some [x, y, z]) := by
  unfold names3 isK at h
  simp only [Bool.and_eq_true, Bool.not_eq_true', decide_eq_true_eq] at h
  obtain ⟨⟨⟨⟨⟨⟨⟨⟨⟨⟨⟨h1, h2⟩, h2'⟩, h3⟩, h4⟩, h4z⟩, h5⟩, h5'⟩, h5z⟩, h6⟩, h7⟩, h8⟩ := h
  have hb : env.blockKind = .function := by unfold Env.blockKind; rw [hk]; rfl
  have s1 : noStar a = true := by simp at h6; exact h6.1
  have s2 : noStar b = true := by simp at h6; exact h6.2.1
  have s3 : noStar c = true := by simp at h6; exact h6.2.2
  have k1 : (env.kindOf x == some NameKind.local) = true := by show (env.scope.names.lookup x == some NameKind.local) = true; rw [h1]; rfl
  have k2 : (env.kindOf y == some NameKind.local) = true := by show (env.scope.names.lookup y == some NameKind.local) = true; rw [h2]; rfl
  have k3 : (env.kindOf z == some NameKind.local) = true := by show (env.scope.names.lookup z == some NameKind.local) = true; rw [h2']; rfl
  have hne : x ≠ y := by intro z; rw [z] at h5; simp at h5
  have hne2 : x ≠ z := by intro z; rw [z] at h5'; simp at h5'
  have hne3 : y ≠ z := by intro z; rw [z] at h5z; simp at h5z
  have hd : ([x, y, z] : List Str).eraseDups = [x, y, z] := by
    rw [List.eraseDups_cons]
    have : List.filter (fun b => !b == x) [y, z] = [y, z] := by
      rw [List.filter_cons_of_pos (by simp; exact fun z => hne z.symm), List.filter_cons_of_pos (by simp; exact fun z => hne2 z.symm)]; rfl
    rw [this, List.eraseDups_cons]
    have : List.filter (fun b => !b == y) [z] = [z] := by
      rw [List.filter_cons_of_pos (by simp; exact fun z => hne3 z.symm)]; rfl
    rw [this, List.eraseDups_cons]; rfl
  have h4' : (py.line == px.line) = true := h4
  have h4'' : (pz.line == px.line) = true := h4z
  unfold swappedStores
  dsimp only
  have e1 : (!([Expr.Name x px, Expr.Name y py, Expr.Name z pz].length == 2 || [Expr.Name x px, Expr.Name y py, Expr.Name z pz].length == 3) || [a, b, c].length != [Expr.Name x px, Expr.Name y py, Expr.Name z pz].length || env.blockKind != .function) = false := by rw [hb]; rfl
  rw [if_neg (by rw [e1]; exact Bool.false_ne_true), if_neg (by cases a <;> first | (cases b <;> first | (cases c <;> first | exact Bool.false_ne_true | (cases s3; done)) | (cases s2; done)) | (cases s1; done))]
  simp only [List.filterMap_cons, List.filterMap_nil, List.head?_cons, Option.map_some, Option.getD_some, Expr.pos, k1, k2, k3, h4', h4'', beq_self_eq_true, Bool.and_self, if_true, hd, h7, h8]
  rfl

def chkG (Γ : Sig) : List PK.P → List Expr → Bool
  | [], [] => true
  | .nm i :: ps, .Name x _ :: es => chkNm Γ i x && chkG Γ ps es
  | .sb o' i' :: ps, .Subscript o i _ :: es => plainIxB i && chkE o' Γ o && chkE i' Γ i && chkG Γ ps es
  | _, _ => false
def swB (Γ : Sig) (x : Str) (px pc : Pos) (scope : Scope) : Bool := isK Γ.sc x .local && (px.line == pc.line) && !(scope.names.any fun (n, k) => n == x && (k == .local || k == .cell))
def setB (Γ : Sig) (x : Str) (px : Pos) (e : Expr) : Bool := match e with
  | .ListComp _ [⟨_, _, _, 0⟩] scope pc => isK Γ.sc x .cell || swB Γ x px pc scope
  | e => !isComp e
def par2B (Γ : Sig) (i j : Nat) (x y : Str) (px py : Pos) (a b : Expr) : Bool := names2 px.line Γ.sc x y px py [a, b] && decide (i ≠ j) && decide (Γ.N[i]? = some x) && decide (Γ.N[j]? = some y)
def par3B (Γ : Sig) (i j l : Nat) (x y z : Str) (px py pz : Pos) (a b c : Expr) : Bool := names3 px.line Γ.sc x y z px py pz [a, b, c] && decide (i ≠ j) && decide (i ≠ l) && decide (j ≠ l) && decide (Γ.N[i]? = some x) && decide (Γ.N[j]? = some y) && decide (Γ.N[l]? = some z)
def parB (Γ : Sig) (is : List Nat) (es vs : List Expr) : Bool := match is, es, vs with
  | [i, j], [.Name x px, .Name y py], [a, b] => (vs.all (foldedForSure 8) && chkNms Γ is es && decide (vs.length ≤ 1000)) || par2B Γ i j x y px py a b
  | [i, j, l], [.Name x px, .Name y py, .Name z pz], [a, b, c] => (vs.all (foldedForSure 8) && chkNms Γ is es && decide (vs.length ≤ 1000)) || par3B Γ i j l x y z px py pz a b c
  | _, _, _ => vs.all (foldedForSure 8) && chkNms Γ is es && decide (vs.length ≤ 1000)
def tryC (Γ : Sig) (x : Str) (ks os : List Nat) : Bool := match excIx Γ x with
  | some j => glB Γ.sc x && ndB x && ks.all (fun c => decide (c % 1000 < Γ.exn.length) && subB Γ (c % 1000) j) && os.all (fun c => decide (c % 1000 < Γ.exn.length) && !subB Γ (c % 1000) j)
  | none => false
def loB (ks os : List Nat) : Bool := ks.all (fun c => decide (c < 1000)) && os.all (fun c => decide (c < 1000))
def hiB (os : List Nat) : Bool := os.all (fun c => !decide (c < 1000))
def stayB (Γ : Sig) (i : Nat) : Bool := match Γ.hx with
  | some (n, _) => decide (n ≠ some i)
  | none => true
def tryN (Γ : Sig) (n : Option Nat) (nm : Option Str) : Bool := match n, nm with
  | none, none => true
  | some i, some y => decide (Γ.N[i]? = some y) && isK Γ.sc y .local
  | _, _ => false
def chkB : PK.M → Sig → List Stmt → Bool
  | .pass, _, sts => match sts with
    | [] => true
    | [.Pass _] => true
    | _ => false
  | .seq a b, Γ, sts => match sts with
    | st :: st2 :: rest => chkB a Γ [st] && chkB b Γ (st2 :: rest)
    | _ => false
  | .ex l, Γ, sts => match sts with
    | [.Expr e _] => !isComp e && chkE l Γ e
    | _ => false
  | .set i l, Γ, sts => match sts with
    | [.Assign [.Name x px] e _] => chkNm Γ i x && setB Γ x px e && chkE l Γ e && stayB Γ i && (!isComp e || Γ.calm)
    | _ => false
  | .asg ps l, Γ, sts => match sts with
    | [.Assign [.Tuple es _ _] e _] => !isTup e && chkG Γ ps es && chkE l Γ e && Γ.calm
    | _ => false
  | .put p l, Γ, sts => match sts with
    | [.Assign [.Subscript o i _] e _] => (match p with | .sb o' i' => plainIxB i && chkE o' Γ o && chkE i' Γ i | _ => false) && chkE l Γ e
    | [.Assign [.Attribute o f _] e _] => (match p with | .fld c j o' => decide ((Γ.fld[c]?).bind (·[j]?) = some f) && chkE o' Γ o | _ => false) && chkE l Γ e
    | _ => false
  | .par is l, Γ, sts => match sts with
    | [.Assign [.Tuple es _ _] (.Tuple vs _ _) _] => parB Γ is es vs && chkA l Γ vs && Γ.calm
    | _ => false
  | .ite t a b, Γ, sts => match sts with
    | [.If c sa sb _] => notIf c && chkE t Γ c && chkB a Γ sa && chkB b Γ sb
    | _ => false
  | .for k pt one it b, Γ, sts => match sts with
    | [.For tg iter body [] _] => !isSet iter && (match iterEs k Γ tg iter with | some es => chkA it Γ es | none => false) && chkP Γ tg pt one && chkB b Γ body && Γ.calm && !Γ.blk
    | _ => false
  | .while _ t b, Γ, sts => match sts with
    | [.While c body [] _] => notIf c && chkE t Γ c && chkB b Γ body && !Γ.blk
    | _ => false
  | .ret l, Γ, sts => match sts with
    | [.Return (some e) _] => chkE l Γ e
    | _ => false
  | .retN, _, sts => match sts with
    | [.Return none _] => true
    | _ => false
  | .raise c, Γ, sts => match sts with
    | [.Raise (some (.Call (.Name x _) [.Constant (.str _) _ _] [] _)) none _] => decide (Γ.exn[c]? = some x) && glB Γ.sc x && ndB x && Γ.calm && decide (c < 1000)
    | _ => false
  | .brk, _, sts => match sts with
    | [.Break _] => true
    | _ => false
  | .cnt, _, sts => match sts with
    | [.Continue _] => true
    | _ => false
  | .try_ b, Γ, sts => match sts with
    | [.Try body (_ :: _) [] [] _] => chkB b Γ.in_ body
    | _ => false
  | .tryc b ks os n h, Γ, sts => match sts with
    | [.Try body [.ExceptHandler (some (.Name x _)) nm (s0 :: suite) _] [] [] _] => tryC Γ x ks os && tryN Γ n nm && chkB b Γ.in_ body && ks.all (fun c => chkB (h c) (Γ.hot (loB ks os) n c) (s0 :: suite)) && Γ.calm && Γ.hx.isNone && (loB ks os || hiB os)
    | _ => false
  | .tryx b ks c, Γ, sts => match sts with
    | [.Try body [.ExceptHandler (some (.Name x _)) none [.Raise (some (.Call (.Name y _) [.Constant (.str _) _ _] [] _)) none _] _] [] [] _] =>
      tryC Γ x ks [] && chkB b Γ.in_ body && Γ.top && Γ.calm && Γ.hx.isNone && ks.all (fun c => decide (c < 1000)) && !decide (c < 1000) && decide (Γ.exn[c % 1000]? = some y) && glB Γ.sc y && ndB y
    | _ => false
section
variable {cl : List Nat → Nat → List PK.D → Cells → PK.R} {gl : Nat → Option PK.D} {m : List Nat} {Γ : Sig} {X : Cx} {lk : Lk}
abbrev XV (cl : List Nat → Nat → List PK.D → Cells → PK.R) (gl : Nat → Option PK.D) (m : List Nat) (a : PK.M) : Ex := fun s G => PK.exec cl gl m a s G
structure LB (X : Cx) (lk : Lk) (sts : List Stmt) (ex : Ex) : Prop where
  ss : LSs X lk sts ex
  s1 : ∀ st, sts = [st] → LS X lk st ex
theorem lb_one {st : Stmt} {ex : Ex} (h : LS X lk st ex) : LB X lk [st] ex := ⟨lss_one h, fun _ e => by cases e; exact h⟩
theorem ls_of {st : Stmt} {ex ex' : Ex} (h : LS X lk st ex) (hi : ∀ s G, ex' s G = ex s G) : LS X lk st ex' := by
  have : ex' = ex := funext fun s => funext fun G => hi s G
  rw [this]; exact h
end
end PKS
namespace PKS
open PySem PySem.Spec PyProof.Rows L2
section
variable {cl : List Nat → Nat → List PK.D → Cells → PK.R} {gl : Nat → Option PK.D} {m : List Nat} {Γ : Sig} {X : Cx} {lk : Lk}
theorem one_iter (F : Fits Γ X lk cl gl) {k : PK.Ik} {tg iter : Expr} {it : PK.Ls} (h : (match iterEs k Γ tg iter with | some es => chkA it Γ es | none => false) = true) : LI X lk tg iter k (EVs cl gl m it) := by
  cases q : iterEs k Γ tg iter with
  | none => rw [q] at h; cases h
  | some es =>
    rw [q] at h
    refine iter_of F q h (chkA_ok it F h) fun a ea e ee => ?_
    subst ea
    subst ee
    have h : (noStar e && chkE a Γ e && true) = true := h
    simp only [Bool.and_eq_true, and_true] at h
    exact (chkE_ok a F h.2).le
theorem sub_assign {o i : Expr} {p : Pos} {env : Env} (h : plainIxB i = true) (v : Value) : assign (.Subscript o i p) env v = (do
      let ov ← holding [v] (eval o env)
      let iv ← holding [v, ov] (eval i env)
      standAt p
      holding [v, ov, iv] (setItem ov iv v)
      release [v, ov, iv] []) := by
  cases i <;> first | rfl | (cases h; done)
theorem okite {c : Bool} {a b : PK.O} (ha : match a with | .nx _ _ => True | .exc _ _ _ => True | .bad => True | _ => False) (hb : match b with | .nx _ _ => True | .exc _ _ _ => True | .bad => True | _ => False) :
    match (if c = true then a else b) with | .nx _ _ => True | .exc _ _ _ => True | .bad => True | _ => False := by
  cases c
  · rw [if_neg Bool.false_ne_true]; exact hb
  · rw [if_pos rfl]; exact ha
theorem put_kind {x y v : PK.D} {s : PK.Env} {G : Cells} : match PK.putV m x y v s G with | .nx _ _ => True | .exc _ _ _ => True | .bad => True | _ => False := by
  cases x with
  | ref q =>
    unfold PK.putV
    dsimp only
    cases G[q]? with
    | none => trivial
    | some c =>
      cases c with
      | lst ds =>
        show match PK.putL q m ds y v s G with | .nx _ _ => True | .exc _ _ _ => True | .bad => True | _ => False
        cases y with
        | int k =>
          unfold PK.putL
          dsimp only
          cases L2.ixN ds.length k with
          | none => trivial
          | some j => exact okite trivial trivial
        | _ => trivial
      | dK kvs =>
        show match PK.putDK q m kvs y v s G with | .nx _ _ => True | .exc _ _ _ => True | .bad => True | _ => False
        unfold PK.putDK
        cases PK.keyD y with
        | none => trivial
        | some k => exact okite trivial trivial
      | dT kvs =>
        show match PK.putDT q m kvs y v s G with | .nx _ _ => True | .exc _ _ _ => True | .bad => True | _ => False
        cases y with
        | tup ks =>
          unfold PK.putDT
          dsimp only
          cases PK.keysD ks with
          | none => trivial
          | some k => exact okite trivial trivial
        | _ => trivial
      | ins c ds => trivial
      | frK ds => trivial
  | _ => trivial
theorem ktrue {o : PK.O} {f : PK.Env → Cells → PK.O} (h : match o with | .nx _ _ => True | .exc _ _ _ => True | .bad => True | _ => False) (hf : ∀ s G, match f s G with | .nx _ _ => True | .exc _ _ _ => True | .bad => True | _ => False) :
    match o.then f with | .nx _ _ => True | .exc _ _ _ => True | .bad => True | _ => False := by
  cases o <;> first | exact hf _ _ | exact h
theorem st_kind {s : PK.Env} {r : PK.R} {f : PK.D → Cells → PK.O} (hf : ∀ v G, match f v G with | .nx _ _ => True | .exc _ _ _ => True | .bad => True | _ => False) :
    match PK.R.st s r f with | .nx _ _ => True | .exc _ _ _ => True | .bad => True | _ => False := by
  cases r <;> first | exact hf _ _ | trivial
theorem putF_kind {c j : Nat} {x v : PK.D} {s : PK.Env} {G : Cells} : match PK.putF m c j x v s G with | .nx _ _ => True | .exc _ _ _ => True | .bad => True | _ => False := by
  unfold PK.putF
  cases x with
  | ref q =>
    dsimp only
    cases G[q]? with
    | none => trivial
    | some cl =>
      cases cl with
      | ins c' ds =>
        dsimp only
        by_cases h : c' = c ∧ PK.wok q m v = true
        · rw [if_pos h]
          by_cases h2 : j < ds.length
          · rw [if_pos h2]; trivial
          · rw [if_neg h2]
            by_cases h3 : j = ds.length
            · rw [if_pos h3]; trivial
            · rw [if_neg h3]; trivial
        · rw [if_neg h]; trivial
      | _ => trivial
  | _ => trivial
theorem puts_kind : ∀ {ps : List PK.P} {ds : List PK.D} {s : PK.Env} {G : Cells}, match PK.putPs cl gl m ps ds s G with | .nx _ _ => True | .exc _ _ _ => True | .bad => True | _ => False
  | [], [], _, _ => trivial
  | [], _ :: _, _, _ => trivial
  | _ :: _, [], _, _ => trivial
  | p :: ps, d :: ds, s, G => ktrue (f := fun s1 G1 => PK.putPs cl gl m ps ds s1 G1) (by
      cases p with
      | nm i => trivial
      | sb o i => exact st_kind fun x G1 => st_kind fun y G2 => put_kind
      | fld c j o => exact st_kind fun x G1 => putF_kind) fun s1 G1 => puts_kind
theorem assignEach_sub {a b : Expr} {p : Pos} {es : List Expr} {env : Env} : assignEach (.Subscript a b p :: es) env = (false, assign (.Subscript a b p) env) :: assignEach es env := by
  first | rfl | (unfold assignEach; rfl)
theorem lgs_of {es : List Expr} {f f' : List PK.D → PK.Env → Cells → PK.O} (h : LGs X lk es f) (e : ∀ ds s G, f' ds s G = f ds s G) : LGs X lk es f' := by
  have : f' = f := funext fun ds => funext fun s => funext fun G => e ds s G
  rw [this]; exact h
theorem tgs_of (F : Fits Γ X lk cl gl) (hcm : Γ.calm = true) : ∀ {ps : List PK.P} {es : List Expr}, chkG Γ ps es = true → LGs X lk es (fun ds s G => PK.putPs cl gl m ps ds s G) ∧ (assignEach es X.env).length = es.length ∧ (assignEach es X.env).findIdx? (·.1) = none ∧ ps.length = es.length
  | [], [], _ => ⟨⟨fun pins s' σ H vs us Q I ru ⟨ρ, G, s, ds, r, en, pv, hl, h⟩ => by
      cases ds with
      | nil => exact lgs_nil.run pins s' σ H vs us Q I ru ⟨ρ, G, s, [], r, en, pv, rfl, h⟩
      | cons _ _ => simp at hl⟩, rfl, rfl, rfl⟩
  | [], _ :: _, h => by cases h
  | p :: ps, es, h => by
    have step : ∀ {e : Expr} {es : List Expr} {f : PK.D → PK.Env → Cells → PK.O}, LG X lk e f → (∀ d s G, PK.putP cl gl m p d s G = f d s G) → chkG Γ ps es = true → assignEach (e :: es) X.env = (false, assign e X.env) :: assignEach es X.env → LGs X lk (e :: es) (fun ds s G => PK.putPs cl gl m (p :: ps) ds s G) ∧ (assignEach (e :: es) X.env).length = (e :: es).length ∧ (assignEach (e :: es) X.env).findIdx? (·.1) = none ∧ (p :: ps).length = (e :: es).length := fun {e es f} L hp h2 ha => by
      obtain ⟨t1, t2, t3, t4⟩ := tgs_of F hcm h2
      refine ⟨lgs_of (lgs_cons L t1 (by rw [ha]; rfl)) fun ds s G => ?_, by rw [ha, List.length_cons, List.length_cons, t2], by rw [ha, List.findIdx?_cons, t3]; rfl, by rw [List.length_cons, List.length_cons, t4]⟩
      cases ds with
      | nil => rfl
      | cons d ds =>
        show (PK.putP cl gl m p d s G).then (fun s1 G1 => PK.putPs cl gl m ps ds s1 G1) = (f d s G).then (fun s1 G1 => PK.putPs cl gl m ps ds s1 G1)
        rw [hp]
    cases es with
    | nil => cases p <;> cases h
    | cons e es =>
      cases p with
      | nm i => cases e with
        | Name x q =>
          obtain ⟨h1, h2⟩ := Bool.and_eq_true_iff.mp (show (chkNm Γ i x && chkG Γ ps es) = true from h)
          obtain ⟨n1, n2, n3⟩ := F.nm h1
          exact step (lg_nm F.nd' n1 n2 n3 fun _ _ _ => F.free' hcm _) (fun _ _ _ => rfl) h2 assignEach_name
        | _ => cases h
      | sb o' i' => cases e with
        | Subscript o i q =>
          have h : (plainIxB i && chkE o' Γ o && chkE i' Γ i && chkG Γ ps es) = true := h
          simp only [Bool.and_eq_true] at h
          obtain ⟨⟨⟨h1, h2⟩, h3⟩, h4⟩ := h
          exact step (lg_sub (m := m) (by have := F.un; omega) (fun lo hi st q z => by rw [z] at h1; cases h1) (chkE_ok (cl := cl) (gl := gl) (m := m) o' F h2).le (chkE_ok (cl := cl) (gl := gl) (m := m) i' F h3).le (sub_assign h1)) (fun _ _ _ => rfl) h4 assignEach_sub
        | _ => cases h
      | fld c j o => cases e <;> cases h
theorem par_plain (F : Fits Γ X lk cl gl) (hcm : Γ.calm = true) {is : List Nat} {es vs : List Expr} {l : PK.Ls} {k k2 : Nat} {p p2 pos : Pos} (h : (vs.all (foldedForSure 8) && chkNms Γ is es && decide (vs.length ≤ 1000)) = true) (hA : chkA l Γ vs = true) :
    LS X lk (.Assign [.Tuple es k p] (.Tuple vs k2 p2) pos) (XV cl gl m (.par is l)) := by
  simp only [Bool.and_eq_true, decide_eq_true_eq] at h
  obtain ⟨⟨h1, h2⟩, h3⟩ := h
  have T : LE X lk (.Tuple vs k2 p2) (EVs cl gl m l) := by
    refine le_tup (chkA_ok l F hA) (fun s G ds G' q => ?_) fun s G v G' q => ?_
    · obtain ⟨ds', e, hl⟩ := args_len hA q
      cases e
      omega
    · obtain ⟨ds', e, hl⟩ := args_len hA q
      exact ⟨ds', e⟩
  refine ls_of (ls_asg (is := is) (f := fun v G1 s => PK.tupK v (fun ds => PK.iteK (decide (ds.length = is.length)) (fun _ => .nx (PK.pars is ds s) G1) fun _ => .bad) .bad) (F.calm hcm) (F.free' hcm) F.nd' (F.nms h2) T sole_tup (stores_fold h1) rfl fun v G s => ?_) fun _ _ => rfl
  cases v with
  | tup ds =>
    by_cases c : ds.length = is.length
    · refine .inr ⟨ds, rfl, c, ?_⟩
      show PK.iteK (decide (ds.length = is.length)) (fun x => PK.O.nx (PK.pars is ds s) G) (fun x => PK.O.bad) = _
      rw [decide_eq_true c]; rfl
    · refine .inl ?_
      show PK.iteK (decide (ds.length = is.length)) (fun x => PK.O.nx (PK.pars is ds s) G) (fun x => PK.O.bad) = _
      rw [decide_eq_false c]; rfl
  | _ => exact .inl rfl
theorem comp_set (F : Fits Γ X lk cl gl) (hk : Γ.sc.kind = .function) {i : Nat} {x : Str} {px pos : Pos} {e : Expr} {l : PK.L} (h1 : chkNm Γ i x = true) (h2 : setB Γ x px e = true) (h3 : chkE l Γ e = true) (h4 : stayB Γ i = true) (h5 : (!isComp e || Γ.calm) = true) : LS X lk (.Assign [.Name x px] e pos) (XV cl gl m (.set i l)) := by
  have hP : ∀ σ v, lk.P σ → lk.P (σ.set i (some v)) := fun σ v => F.stay i (fun n c q => by unfold stayB at h4; rw [q] at h4; exact of_decide_eq_true h4) σ (some v)
  obtain ⟨n1, n2, n3⟩ := F.nm h1
  have L := chkE_ok (m := m) l F h3
  by_cases c : isComp e = false
  · exact ls_of (ls_set F.nd' n1 n2 n3 (sw_not c) hP L.le) fun _ _ => rfl
  · have hcm : X.calm = true := F.calm ((Bool.or_eq_true_iff.mp h5).resolve_left fun z => c (by simpa using z))
    have go : ∀ elt tg iter ifs scope pc, e = .ListComp elt [⟨tg, iter, ifs, 0⟩] scope pc → (isK Γ.sc x .cell || swB Γ x px pc scope) = true → LS X lk (.Assign [.Name x px] e pos) (XV cl gl m (.set i l)) := fun elt tg iter ifs scope pc ee hs => by
      subst ee
      rcases Bool.or_eq_true_iff.mp hs with hs | hs
      · exact ls_of (ls_set F.nd' n1 n2 n3 (sw_cell (by rw [F.sc]; exact of_decide_eq_true hs)) hP L.le) fun _ _ => rfl
      obtain ⟨w, own, k, pt, one, er, ec, eb, hc1, hc2, hco⟩ := L.co _ _ _ _ _ _ rfl hcm
      unfold swB isK at hs
      simp only [Bool.and_eq_true, decide_eq_true_eq, Bool.not_eq_true'] at hs
      obtain ⟨⟨s1, s2⟩, s3⟩ := hs
      have s1' : X.env.scope.names.lookup x = some .local := by rw [F.sc]; exact s1
      rcases hco with ⟨C, hev⟩ | ⟨C, hev⟩
      · refine ls_of (ls_setComp (w := w) hc1 hc2 F.nd' n1 s1' (sw_true (by rw [F.sc]; exact hk) s1' s2 s3) C) fun s G => ?_
        show PK.R.st s (EV cl gl m l s G) _ = _
        rw [hev]
      · refine ls_of (ls_setCompX (w := w) hc1 hc2 F.nd' n1 s1' (sw_true (by rw [F.sc]; exact hk) s1' s2 s3) C) fun s G => ?_
        show PK.R.st s (EV cl gl m l s G) _ = _
        rw [hev]
    unfold setB at h2
    split at h2
    · exact go _ _ _ _ _ _ rfl h2
    · exact absurd (by simpa using h2) c
theorem Fits.clause (F : Fits Γ X lk cl gl) {b : Bool} {n : Option Nat} {c : Nat} (hc : c % 1000 < Γ.exn.length) {a : Addr} {oe : Obj} {pn : List (Addr × Obj)} (hz : Zc (lk.EV c) none oe) (hf : ∃ vs, oe.data = .fields vs) (hh : b = true → L2H.Hot1 (X.A.mark (some (.ref a))) (a, oe)) :
    Fits (Γ.hot b n c) (X.suite a ((a, oe) :: pn)) (lk.p (Held n a)) cl gl where
  hN := F.hN
  nd := F.nd
  sc := F.sc
  fn := F.fn
  calm := fun z => by cases z
  free' := fun z => by cases z
  stay := fun j h σ v p => p.set (h n c rfl)
  hot := fun n' c' h => by
    cases h
    exact ⟨hc, a, oe, List.mem_cons_self, hz, hf, fun σ p => p⟩
  hot1 := fun z => ⟨⟨(a, oe), hh z, List.mem_cons_self⟩, rfl⟩
  xfs := fun x c d h => by
    obtain ⟨f, fd, y, k, T, hr, g1, g2, g3⟩ := F.xfs x c d h
    exact ⟨f, fd, y, k, T.p _, hr.mark _, g1, g2, g3⟩
  gd := F.gd
  un := F.un
  hp := fun _ => PassesOwn.never
  own := F.own
  hpa := fun z => by cases z
  free := F.free
  fns := fun i x h => by cases h
  mts := fun i c x h => by cases h
  mks := fun i c h => by cases h
  cls := F.cls
  clsOf := F.clsOf
  kr := F.kr
  exs := F.exs
  exm := F.exm
  gls := fun i x d h1 h2 => by
    obtain ⟨v, u, g1, g2, g3⟩ := F.gls i x d h1 h2
    exact ⟨v, u, g1, g2, fun Z ρ n H => Rep.cg (show Alike (lk.w Z) ((lk.p (Held _ a)).w Z) from ⟨rfl, rfl, rfl⟩) _ _ (g3 Z ρ n H)⟩
theorem chkB_okA : ∀ (a : PK.M) {Γ : Sig} {lk : Lk} {X : Cx} {sts : List Stmt}, Γ.sc.kind = .function → Fits Γ X lk cl gl → Own X → chkB a Γ sts = true → LB X lk sts (XV cl gl m a)
  | .pass, Γ, lk, X, sts, hk, F, O, h => by
    match sts, h with
    | [], _ => exact ⟨lss_nil, fun _ e => by cases e⟩
    | [.Pass p], _ => exact lb_one ls_pass
    | st :: st2 :: r, h => cases st <;> cases h
  | .seq a b, Γ, lk, X, sts, hk, F, O, h => by
    match sts, h with
    | [], h => cases h
    | [_], h => cases h
    | st :: st2 :: rest, h =>
      obtain ⟨h1, h2⟩ := Bool.and_eq_true_iff.mp (show (chkB a Γ [st] && chkB b Γ (st2 :: rest)) = true from h)
      have L := lss_cons ((chkB_okA a hk F O h1).s1 st rfl) (chkB_okA b hk F O h2).ss
      exact ⟨L, fun _ e => by cases e⟩
  | .ex l, Γ, lk, X, sts, hk, F, O, h => by
    match sts, h with
    | [], h => cases h
    | [.Expr e p], h =>
      obtain ⟨h1, h2⟩ := Bool.and_eq_true_iff.mp (show (!isComp e && chkE l Γ e) = true from h)
      exact lb_one (ls_of (ls_ex (sw_not (by simpa using h1)) (chkE_ok l F h2).le) fun _ _ => rfl)
    | st :: st2 :: r, h => cases st <;> cases h
  | .set i l, Γ, lk, X, sts, hk, F, O, h => by
    unfold chkB at h
    split at h
    · rename_i x px e p
      have h : (chkNm Γ i x && setB Γ x px e && chkE l Γ e && stayB Γ i && (!isComp e || Γ.calm)) = true := h
      obtain ⟨h, h5⟩ := Bool.and_eq_true_iff.mp h
      simp only [Bool.and_eq_true] at h
      exact lb_one (comp_set F hk h.1.1.1 h.1.1.2 h.1.2 h.2 h5)
    · cases h
  | .asg ps l, Γ, lk, X, sts, hk, F, O, h => by
    unfold chkB at h
    split at h
    · rename_i es k p e pos
      have h : (!isTup e && chkG Γ ps es && chkE l Γ e && Γ.calm) = true := h
      simp only [Bool.and_eq_true, Bool.not_eq_true'] at h
      obtain ⟨⟨⟨h1, h2⟩, h3⟩, hcm⟩ := h
      obtain ⟨T, hn, hst, hl⟩ := tgs_of (cl := cl) (gl := gl) (m := m) F hcm h2
      exact lb_one (ls_of (ls_asgG (F.calm hcm) T (fun v s G => puts_kind) hn hst (chkE_ok l F h3).le sole_tup (stores_not h1) rfl) fun s G => by
        show PK.R.st s (EV cl gl m l s G) _ = PK.R.st s (EV cl gl m l s G) _
        rw [hl])
    · cases h
  | .put q l, Γ, lk, X, sts, hk, F, O, h => by
    unfold chkB at h
    split at h
    · rename_i o i p e pos
      cases q with
      | sb o' i' =>
        have h : (plainIxB i && chkE o' Γ o && chkE i' Γ i && chkE l Γ e) = true := h
        simp only [Bool.and_eq_true] at h
        obtain ⟨⟨⟨h1, h2⟩, h3⟩, h4⟩ := h
        have G := lg_sub (pos := p) (m := m) (by have := F.un; omega) (fun lo hi st q z => by rw [z] at h1; cases h1) (chkE_ok (cl := cl) (gl := gl) (m := m) o' F h2).le (chkE_ok (cl := cl) (gl := gl) (m := m) i' F h3).le (sub_assign h1)
        refine lb_one (ls_of (ls_put G (fun v s G => ?_) (chkE_ok l F h4).le sole_sub stores_sub rfl) fun _ _ => rfl)
        cases EV cl gl m o' s G with
        | bad => exact trivial
        | exc c G1 => exact trivial
        | ok x G1 =>
          show (match PK.R.st s (EV cl gl m i' s G1) _ with | .nx _ _ => True | .exc _ _ _ => True | .bad => True | _ => False)
          cases EV cl gl m i' s G1 with
          | bad => exact trivial
          | exc c G1 => exact trivial
          | ok y G2 =>
            show (match PK.putV m x y v s G2 with | .nx _ _ => True | .exc _ _ _ => True | .bad => True | _ => False)
            exact put_kind
      | _ => cases h
    · rename_i o f p e pos
      cases q with
      | fld c j o' =>
        have h : (decide ((Γ.fld[c]?).bind (·[j]?) = some f) && chkE o' Γ o && chkE l Γ e) = true := h
        simp only [Bool.and_eq_true, decide_eq_true_eq] at h
        obtain ⟨⟨h1, h2⟩, h3⟩ := h
        cases q : Γ.fld[c]? with
        | none => rw [q] at h1; cases h1
        | some fs =>
          rw [q] at h1
          have h1 : fs[j]? = some f := h1
          obtain ⟨c1, c2⟩ := F.cls c _ q
          rw [← c1] at c2 h1
          exact lb_one (ls_of (ls_fld (m := m) c2 h1 (chkE_ok l F h3).le (chkE_ok (m := m) o' F h2).le sw_attr) fun _ _ => rfl)
      | _ => cases h
    · cases h
  | .par is l, Γ, lk, X, sts, hk, F, O, h => by
    unfold chkB at h
    split at h
    · rename_i es k p vs k2 p2 pos
      have h : (parB Γ is es vs && chkA l Γ vs && Γ.calm) = true := h
      obtain ⟨h, hcm⟩ := Bool.and_eq_true_iff.mp h
      obtain ⟨h1, h2⟩ := Bool.and_eq_true_iff.mp h
      refine lb_one ?_
      unfold parB at h1
      split at h1
      · rcases Bool.or_eq_true_iff.mp h1 with h1 | h1
        · exact par_plain F hcm h1 h2
        · unfold par2B at h1
          simp only [Bool.and_eq_true, decide_eq_true_eq] at h1
          obtain ⟨⟨⟨n, h3⟩, h4⟩, h5⟩ := h1
          have n2 := n
          unfold names2 isK at n2
          simp only [Bool.and_eq_true, decide_eq_true_eq] at n2
          obtain ⟨⟨⟨⟨⟨⟨⟨a1, a2⟩, _⟩, _⟩, _⟩, _⟩, _⟩, _⟩ := n2
          exact ls_of (ls_par2 (F.calm hcm) (F.free' hcm) F.nd' (by rw [F.hN]; exact h4) (by rw [F.hN]; exact h5) h3 (by rw [F.sc]; exact a1) (by rw [F.sc]; exact a2) (chkA_ok l F h2) (stores_two (by rw [F.sc]; exact hk) (by rw [F.sc]; exact n))) fun _ _ => rfl
      · rcases Bool.or_eq_true_iff.mp h1 with h1 | h1
        · exact par_plain F hcm h1 h2
        · unfold par3B at h1
          simp only [Bool.and_eq_true, decide_eq_true_eq] at h1
          obtain ⟨⟨⟨⟨⟨⟨n, h3⟩, h4⟩, h5⟩, h6⟩, h7⟩, h8⟩ := h1
          have n2 := n
          unfold names3 isK at n2
          simp only [Bool.and_eq_true, decide_eq_true_eq] at n2
          obtain ⟨⟨⟨⟨⟨⟨⟨⟨⟨⟨⟨a1, a2⟩, a3⟩, _⟩, _⟩, _⟩, _⟩, _⟩, _⟩, _⟩, _⟩, _⟩ := n2
          exact ls_of (ls_par3 (F.calm hcm) (F.free' hcm) F.nd' (by rw [F.hN]; exact h6) (by rw [F.hN]; exact h7) (by rw [F.hN]; exact h8) h3 h4 h5 (by rw [F.sc]; exact a1) (by rw [F.sc]; exact a2) (by rw [F.sc]; exact a3) (chkA_ok l F h2) (stores_three (by rw [F.sc]; exact hk) (by rw [F.sc]; exact n)) sole_tup) fun _ _ => rfl
      · exact par_plain F hcm h1 h2
    · cases h
  | .ite t a b, Γ, lk, X, sts, hk, F, O, h => by
    match sts, h with
    | [], h => cases h
    | [.If c sa sb p], h =>
      have h : (notIf c && chkE t Γ c && chkB a Γ sa && chkB b Γ sb) = true := h
      simp only [Bool.and_eq_true] at h
      obtain ⟨⟨⟨h1, h2⟩, h3⟩, h4⟩ := h
      exact lb_one (ls_of (ls_if ((chkE_ok t F h2).lt h1) (chkB_okA a hk F O h3).ss (chkB_okA b hk F O h4).ss) fun _ _ => rfl)
    | st :: st2 :: r, h => cases st <;> cases h
  | .for k pt one it b, Γ, lk, X, sts, hk, F, O, h => by
    match sts, h with
    | [], h => cases h
    | [.For tg iter body [] p], h =>
      have h : (!isSet iter && (match iterEs k Γ tg iter with | some es => chkA it Γ es | none => false) && chkP Γ tg pt one && chkB b Γ body && Γ.calm && !Γ.blk) = true := h
      simp only [Bool.and_eq_true, Bool.not_eq_true'] at h
      obtain ⟨⟨⟨⟨⟨h1, h2⟩, h3⟩, h4⟩, hcm⟩, hbk⟩ := h
      exact lb_one (ls_of (ls_for (F.hp hbk) (F.calm hcm) (F.free' hcm) F.nd' (one_iter F h2) (F.pat h3) (chkB_okA b hk F O h4).ss (set_of h1)) fun _ _ => rfl)
    | [.For tg iter body (_ :: _) p], h => cases h
    | st :: st2 :: r, h =>
      cases st with
      | For tg iter body orelse p => cases orelse <;> cases h
      | _ => cases h
  | .while n t b, Γ, lk, X, sts, hk, F, O, h => by
    match sts, h with
    | [], h => cases h
    | [.While c body [] p], h =>
      have h : (notIf c && chkE t Γ c && chkB b Γ body && !Γ.blk) = true := h
      simp only [Bool.and_eq_true, Bool.not_eq_true'] at h
      obtain ⟨⟨⟨h1, h2⟩, h3⟩, hbk⟩ := h
      exact lb_one (ls_of (ls_while n (F.hp hbk) ((chkE_ok t F h2).lt h1) (chkB_okA b hk F O h3).ss) fun _ _ => rfl)
    | [.While c body (_ :: _) p], h => cases h
    | st :: st2 :: r, h =>
      cases st with
      | While c body orelse p => cases orelse <;> cases h
      | _ => cases h
  | .ret l, Γ, lk, X, sts, hk, F, O, h => by
    match sts, h with
    | [], h => cases h
    | [.Return (some e) p], h => exact lb_one (ls_of (ls_ret (chkE_ok l F h).le) fun _ _ => rfl)
    | [.Return none p], h => cases h
    | st :: st2 :: r, h =>
      cases st with
      | Return v p => cases v <;> cases h
      | _ => cases h
  | .retN, Γ, lk, X, sts, hk, F, O, h => by
    match sts, h with
    | [], h => cases h
    | [.Return none p], h => exact lb_one ls_retN
    | [.Return (some e) p], h => cases h
    | st :: st2 :: r, h =>
      cases st with
      | Return v p => cases v <;> cases h
      | _ => cases h
  | .raise c, Γ, lk, X, sts, hk, F, O, h => by
    unfold chkB at h
    split at h
    · simp only [Bool.and_eq_true, decide_eq_true_eq] at h
      obtain ⟨⟨⟨⟨h1, h2⟩, h3⟩, hcm⟩, hlo⟩ := h
      obtain ⟨e1, e2, _⟩ := F.exs c _ h1
      exact lb_one (ls_of (ls_raise (F.calm hcm) hlo (F.glo h2) e1 e2 (by simpa [ndB] using h3)) fun _ _ => rfl)
    · cases h
  | .brk, Γ, lk, X, sts, hk, F, O, h => by
    match sts, h with
    | [], h => cases h
    | [.Break p], h => exact lb_one ls_brk
    | st :: st2 :: r, h => cases st <;> cases h
  | .cnt, Γ, lk, X, sts, hk, F, O, h => by
    match sts, h with
    | [], h => cases h
    | [.Continue p], h => exact lb_one ls_cnt
    | st :: st2 :: r, h => cases st <;> cases h
  | .try_ b, Γ, lk, X, sts, hk, F, O, h => by
    unfold chkB at h
    split at h
    · exact lb_one (ls_of (ls_try (chkB_okA b (Γ := Γ.in_) hk F.nox O h).ss) fun _ _ => rfl)
    · cases h
  | .tryc b ks os n hh, Γ, lk, X, sts, hk, F, O, h => by
    unfold chkB at h
    split at h
    · rename_i body x np nm s0 suite p1 p2
      simp only [Bool.and_eq_true, Bool.or_eq_true] at h
      obtain ⟨⟨⟨⟨⟨⟨h1, h2⟩, h3⟩, h4⟩, hcm⟩, hxn⟩, hlo⟩ := h
      have hxn : Γ.hx = none := Option.isNone_iff_eq_none.mp hxn
      have hF := F.free' hcm
      unfold tryC at h1
      cases q : excIx Γ x with
      | none => rw [q] at h1; cases h1
      | some j =>
        rw [q] at h1
        simp only [Bool.and_eq_true] at h1
        obtain ⟨⟨⟨g1, g2⟩, g3⟩, g4⟩ := h1
        obtain ⟨q1, q2⟩ := excIx_some q
        have hcN : Names X x (.ref (lk.EA j)) := ⟨F.glo g1, by simpa [ndB] using g2, .inl (F.exs j x q1).1⟩
        have hk' : ∀ c ∈ ks, c % 1000 < Γ.exn.length ∧ PySem.W.exmOne X.K (lk.EV c) (.ref (lk.EA j)) = some true := fun c hm => by
          have z := List.all_eq_true.mp g3 c hm
          simp only [Bool.and_eq_true, decide_eq_true_eq] at z
          exact ⟨z.1, by rw [(F.exm (c % 1000) j z.1 q2).1, z.2]⟩
        have ho' : ∀ c ∈ os, PySem.W.exmOne X.K (lk.EV c) (.ref (lk.EA j)) = some false := fun c hm => by
          have z := List.all_eq_true.mp g4 c hm
          simp only [Bool.and_eq_true, decide_eq_true_eq, Bool.not_eq_true'] at z
          rw [(F.exm (c % 1000) j z.1 q2).1, z.2]
        have hb : ∀ pn xe, PassesOwn (model X.prog X.w) X.A X.env xe → LSs (X.tr pn xe) lk body (XV cl gl m b) := fun pn xe hp => (chkB_okA b (Γ := Γ.in_) hk (F.tr hxn fun _ => hp) O h3).ss
        have lo : ∀ {l : List Nat}, l.all (fun c => decide (c < 1000)) = true → ∀ c ∈ l, c < 1000 := fun z c hm => of_decide_eq_true (List.all_eq_true.mp z c hm)
        have hi : hiB os = true → ∀ c ∈ os, ¬ c < 1000 := fun z c hm => by
          have := List.all_eq_true.mp z c hm
          simpa using this
        have cls : ∀ c ∈ ks, ∀ a oe pn, Zc (lk.EV c) none oe → (∃ vs, oe.data = .fields vs) → (loB ks os = true → L2H.Hot1 (X.A.mark (some (.ref a))) (a, oe)) → LSs (X.suite a ((a, oe) :: pn)) (lk.p (Held n a)) (s0 :: suite) (XV cl gl m (hh c)) := fun c hm a oe pn hz hf h1 =>
          (chkB_okA (hh c) (Γ := Γ.hot (loB ks os) n c) hk (F.clause (hk' c hm).1 hz hf h1) O (List.all_eq_true.mp h4 c hm)).ss
        have hlo : loB ks os = true ∨ (loB ks os = false ∧ hiB os = true) := by
          cases q : loB ks os with
          | true => exact .inl rfl
          | false => exact .inr ⟨rfl, hlo.resolve_left fun z => by rw [q] at z; cases z⟩
        unfold tryN at h2
        split at h2
        · rcases hlo with hlo | hlo
          · obtain ⟨l1, l2⟩ := Bool.and_eq_true_iff.mp (show (ks.all (fun c => decide (c < 1000)) && os.all (fun c => decide (c < 1000))) = true from hlo)
            exact lb_one (ls_of (ls_tryOnly (exh := fun c => XV cl gl m (hh c)) O hF ⟨lo l1, lo l2⟩ hcN (fun c hm => (hk' c hm).2) ho' hb fun c hm a oe pn hz hf h1 => cls c hm a oe pn hz hf fun _ => h1) fun _ _ => rfl)
          · exact lb_one (ls_of (ls_tryOnlyZ (exh := fun c => XV cl gl m (hh c)) O hF (hi hlo.2) hcN (fun c hm => (hk' c hm).2) ho' hb fun c hm a oe pn hz hf => cls c hm a oe pn hz hf fun z => by rw [hlo.1] at z; cases z) fun _ _ => rfl)
        · rename_i i y
          unfold isK at h2
          simp only [Bool.and_eq_true, decide_eq_true_eq] at h2
          obtain ⟨n1, n2⟩ := h2
          rcases hlo with hlo | hlo
          · obtain ⟨l1, l2⟩ := Bool.and_eq_true_iff.mp (show (ks.all (fun c => decide (c < 1000)) && os.all (fun c => decide (c < 1000))) = true from hlo)
            exact lb_one (ls_of (ls_tryAs (exh := fun c => XV cl gl m (hh c)) O hF ⟨lo l1, lo l2⟩ F.nd' (by rw [F.hN]; exact n1) (show X.env.scope.names.lookup y = some .local by rw [F.sc]; exact n2) hcN (fun c hm => (hk' c hm).2) ho' hb fun c hm a oe pn hz hf h1 => cls c hm a oe pn hz hf fun _ => h1) fun _ _ => rfl)
          · exact lb_one (ls_of (ls_tryAsZ (exh := fun c => XV cl gl m (hh c)) O hF (hi hlo.2) F.nd' (by rw [F.hN]; exact n1) (show X.env.scope.names.lookup y = some .local by rw [F.sc]; exact n2) hcN (fun c hm => (hk' c hm).2) ho' hb fun c hm a oe pn hz hf => cls c hm a oe pn hz hf fun z => by rw [hlo.1] at z; cases z) fun _ _ => rfl)
        · cases h2
    · cases h
  | .tryx b ks c, Γ, lk, X, sts, hk, F, O, h => by
    unfold chkB at h
    split at h
    · rename_i body x np y p s0 j p1 p2 p3 p4 pos
      simp only [Bool.and_eq_true, decide_eq_true_eq, Bool.not_eq_true', decide_eq_false_iff_not] at h
      obtain ⟨⟨⟨⟨⟨⟨⟨⟨⟨h1, h3⟩, ht⟩, hcm⟩, hxn⟩, hl⟩, hn⟩, hy⟩, hg⟩, hd⟩ := h
      have hxn : Γ.hx = none := Option.isNone_iff_eq_none.mp hxn
      unfold tryC at h1
      cases q : excIx Γ x with
      | none => rw [q] at h1; cases h1
      | some j =>
        rw [q] at h1
        simp only [Bool.and_eq_true] at h1
        obtain ⟨⟨⟨g1, g2⟩, g3⟩, g4⟩ := h1
        obtain ⟨q1, q2⟩ := excIx_some q
        have hcN : Names X x (.ref (lk.EA j)) := ⟨F.glo g1, by simpa [ndB] using g2, .inl (F.exs j x q1).1⟩
        obtain ⟨e1, e2, _⟩ := F.exs (c % 1000) _ hy
        exact lb_one (ls_of (ls_tryX (ex := XV cl gl m b) O (F.hpa ht) (fun c hm => of_decide_eq_true (List.all_eq_true.mp hl c hm)) hcN (fun c hm => by
          have z := List.all_eq_true.mp g3 c hm
          simp only [Bool.and_eq_true, decide_eq_true_eq] at z
          rw [(F.exm (c % 1000) j z.1 q2).1, z.2]) (fun pn xe hp => (chkB_okA b (Γ := Γ.in_) hk (F.tr hxn fun _ => hp) O h3).ss) hn (F.glo hg) e1 e2 (by simpa [ndB] using hd)) fun _ _ => rfl)
    · cases h
theorem chkB_ok (F : Fits Γ X lk cl gl) (O : Own X) (hk : Γ.sc.kind = .function) (a : PK.M) {sts : List Stmt} (h : chkB a Γ sts = true) : LB X lk sts (XV cl gl m a) := chkB_okA a hk F O h
end
end PKS
namespace PKS
open PySem PySem.Spec PyProof.Rows L2
section
variable {K : PySem.W.Frag} {lk : Lk} {E : XK} {ρ : Nm} {G G' : Cells} {H H' : Hp}
theorem leave_of {trn frz : Bool} {v : PK.D} {Q : VK} (w : PK.WF G.length G') (h : OutE K lk (fun cls d _ H => E cls d H) [] ρ G H (PK.leave trn frz G.length v G') Q) :
    ∀ ρ' H' x, Ext ρ G.length H ρ' G'.length H' → Rel K lk ρ' G' H' → Rep K lk ρ' G'.length H' v x → Q x H' := fun ρ' H' x e r p => by
  unfold PK.leave at h
  cases trn
  · exact h ρ' H' x e r p
  · rw [if_pos rfl] at h
    dsimp only at h
    have hl : (G'.take G.length).length = G.length := by rw [List.length_take]; exact Nat.min_eq_left w.1
    have e2 : Ext ρ G.length H ρ' (G'.take G.length).length H' := by rw [hl]; exact e.cut (Nat.le_refl _) w.1
    cases frz
    · rw [if_neg Bool.false_ne_true] at h
      split at h
      · rename_i c
        exact h ρ' H' x e2 (r.take w) (by rw [hl]; exact Rep.cut w.1 _ _ c p)
      · exact h ρ' H' x e r p
    · rw [if_pos rfl] at h
      split at h
      · rename_i c
        exact h ρ' H' x e2 (r.take w) (by rw [hl]; exact frz_rep w.1 r p c)
      · exact h ρ' H' x e r p
theorem run_of {cl : List Nat → Nat → List PK.D → Cells → PK.R} {gl : Nat → Option PK.D} {m : List Nat} {f : PK.Fn} {ds : List PK.D} {Q : VK} (hcl : ∀ k m' f args G, k ∈ m' → PK.WF k G → PK.KR k (cl m' f args G)) (r : Rel K lk ρ G H) (h : OutE K lk (fun cls d _ H => E cls d H) [] ρ G H (PK.run cl gl m f ds G) Q) :
    ds.length = f.np ∧ OutS K lk (fun cls d _ H => E cls d H) ρ G H { nx := fun _ H' => Q .non H', rt := Q } (PK.exec cl gl (if f.trn then G.length :: m else m) f.body (ds.map some ++ List.replicate (f.ns - f.np) none) G) := by
  unfold PK.run at h
  split at h
  · rename_i hl
    refine ⟨hl, ?_⟩
    have inv : f.trn = true → PK.KO G.length (PK.exec cl gl (if f.trn then G.length :: m else m) f.body (ds.map some ++ List.replicate (f.ns - f.np) none) G) := fun ht =>
      PK.k_exec (by rw [if_pos ht]; exact List.mem_cons_self) (fun m' f a G' => hcl _ m' f a G') _ _ _ r.wf
    have nt : f.trn = false → ∀ v G', PK.leave f.trn f.frz G.length v G' = .ok v G' := fun ht v G' => by unfold PK.leave; rw [ht]; rfl
    cases e : PK.exec cl gl (if f.trn then G.length :: m else m) f.body (ds.map some ++ List.replicate (f.ns - f.np) none) G with
    | nx s G' =>
      rw [e] at h inv
      have h : OutE K lk (fun cls d _ H => E cls d H) [] ρ G H (PK.leave f.trn f.frz G.length .non G') Q := h
      intro ρ' H' σ' e' r' _
      cases ht : f.trn with
      | true => exact leave_of (inv ht) h ρ' H' .non e' r' rfl
      | false => rw [nt ht] at h; exact h ρ' H' .non e' r' rfl
    | ret v G' =>
      rw [e] at h inv
      have h : OutE K lk (fun cls d _ H => E cls d H) [] ρ G H (PK.leave f.trn f.frz G.length v G') Q := h
      intro ρ' H' x e' r' p'
      cases ht : f.trn with
      | true => exact leave_of (inv ht) h ρ' H' x e' r' p'
      | false => rw [nt ht] at h; exact h ρ' H' x e' r' p'
    | exc c s G' =>
      rw [e] at h inv
      have h : OutE K lk (fun cls d _ H => E cls d H) [] ρ G H (.exc c (if f.trn then G'.take G.length else G')) Q := h
      intro ρ' H' σ' e' r' _
      cases ht : f.trn with
      | true =>
        rw [ht, if_pos rfl] at h
        have w := inv ht
        have hl : (G'.take G.length).length = G.length := by rw [List.length_take]; exact Nat.min_eq_left w.1
        exact h ρ' H' (by rw [hl]; exact e'.cut (Nat.le_refl _) w.1) (r'.take w)
      | false => rw [ht, if_neg Bool.false_ne_true] at h; exact h ρ' H' e' r'
    | brk s G' => rw [e] at h; exact False.elim h
    | cnt s G' => rw [e] at h; exact False.elim h
    | bad => rw [e] at h; exact False.elim h
  · exact False.elim h
theorem start_env {N : List Str} {ds : List PK.D} {vs : List V} {n k : Nat} (p : Reps K lk ρ n H ds vs) (hk : N.length - vs.length = k) (hP : lk.P (L2.start N vs)) : REnv K lk ρ n H (ds.map some ++ List.replicate k none) (L2.start N vs) := by
  have hl := p.length
  refine ⟨by unfold L2.start; simp [hl, hk], fun i d q => ?_, hP⟩
  by_cases hi : i < ds.length
  · rw [List.getElem?_append_left (by simpa using hi), List.getElem?_map] at q
    cases e : ds[i]? with
    | none => rw [e] at q; cases q
    | some d' =>
      rw [e] at q; cases q
      obtain ⟨v, h1, h2⟩ := p.get e
      refine ⟨v, ?_, h2⟩
      unfold L2.start
      rw [List.getElem?_append_left (by simpa [← hl] using hi), List.getElem?_map, h1]; rfl
  · rw [List.getElem?_append_right (by simpa using hi), List.getElem?_replicate] at q
    split at q <;> cases q
end

def fnmOf (e : Ent) : Option Str := match e.cn with
  | none => some e.name
  | some _ => none
def mthOf (e : Ent) : Option (Nat × Str) := match e.cn with
  | none => none
  | some (c, _) => some (c, e.name)
def xfnOf (ents : List Ent) : List (Str × Nat × PK.D) := ents.flatMap fun e => e.hot.map fun h => (e.name, h.1, h.2.1)
def Ent.sig (e : Ent) (ents : List Ent) (gnm free : List Str) (cs : Clss) (xs : Exs) : Sig := ⟨e.N, defScope e.st, fun _ => true, ents.map fnmOf, gnm, free, ents.map mthOf, cs.map (·.1), cs.map (·.2), xs.map (·.1), xs.map (·.2), true, none, xfnOf ents, true, false, false⟩
def Ent.hsig (e : Ent) (gnm free : List Str) (cs : Clss) (xs : Exs) (c : Nat) : Sig := ⟨e.N, defScope e.st, fun _ => true, [], gnm, free, [], cs.map (·.1), cs.map (·.2), xs.map (·.1), xs.map (·.2), false, some (some 0, c), [], false, false, false⟩
def kindB (sc : Scope) : Bool := match sc.kind with | .function => true | _ => false
def isBrk : PK.M → Bool
  | .brk => true
  | _ => false
def entB (ents : List Ent) (gnm free : List Str) (cs : Clss) (xs : Exs) (e : Ent) : Bool :=
  C8.scC e.N e.ps (defScope e.st) && kindB (defScope e.st) && (match e.hot with
  | [] => decide (e.N.length = e.fn.ns) && decide (e.ps.length = e.fn.np) && chkB e.fn.body (e.sig ents gnm free cs xs) (defBody e.st)
  | _ :: _ => isBrk e.fn.body && decide (e.ps.length = 1) && e.cn.isNone && e.hot.all fun h => decide (h.1 % 1000 < xs.length) && chkB h.2.2 (e.hsig gnm free cs xs h.1) (defBody e.st))
def HotsP (n : Nat) : List (Nat × PK.D × PK.M) → Prop
  | [] => True
  | h :: r => (∀ (cl : List Nat → Nat → List PK.D → Cells → PK.R) (gl : Nat → Option PK.D) (m : List Nat) (G : Cells), PK.exec cl gl m h.2.2 (List.replicate n none) G = .ret h.2.1 G) ∧ HotsP n r
def HotP : List Ent → Prop
  | [] => True
  | e :: r => HotsP e.N.length e.hot ∧ HotP r
theorem HotsP.at {n : Nat} : ∀ {l : List (Nat × PK.D × PK.M)}, HotsP n l → ∀ h ∈ l, ∀ (cl : List Nat → Nat → List PK.D → Cells → PK.R) (gl : Nat → Option PK.D) (m : List Nat) (G : Cells), PK.exec cl gl m h.2.2 (List.replicate n none) G = .ret h.2.1 G
  | [], _, _, hm => by cases hm
  | _ :: _, ⟨a, b⟩, h, hm => by
    rcases List.mem_cons.mp hm with rfl | hm
    · exact a
    · exact HotsP.at b h hm
theorem HotP.at : ∀ {l : List Ent}, HotP l → ∀ e ∈ l, HotsP e.N.length e.hot
  | [], _, _, hm => by cases hm
  | _ :: _, ⟨a, b⟩, e, hm => by
    rcases List.mem_cons.mp hm with rfl | hm
    · exact a
    · exact HotP.at b e hm
def BindP (e : Ent) : Prop := ∀ (kV doc pm : Value) (an : Option Addr) (cdv ct : Value) (us : List Value), us.length = e.ps.length → bindArgs (PySem.W.fnOf e.name e.qual (defArgs e.st) (defBody e.st) (defScope e.st) .none kV doc pm an cdv ct) ⟨us, []⟩ = pure (e.ps.zip us)
def EntAt (K : PySem.W.Frag) (mg : Str → Option Value) (lk : Lk) (e : Ent) (f : Addr) : Prop := match e.cn with
  | none => mg e.name = some (.ref f)
  | some (c, _) => if e.name = initN then Mk K (lk.CA c) f else Meth K (lk.CA c) e.name f
section
variable {P : Program} {w : World} {K : PySem.W.Frag} {mg : Str → Option Value} {base : Heap} {lk : Lk} {T : Nat → Option PK.Fn} {gl : Nat → Option PK.D} {gnm free : List Str} {cs : Clss} {xs : Exs}
theorem ask_table (ents : List Ent) (hE : HotP ents) (hchk : ents.all (entB ents gnm free cs xs) = true) 
    (hF : ∀ e ∈ ents, ∃ f fd, FunD K e.name e.qual (defArgs e.st) (defBody e.st) (defScope e.st) [] [] f fd ∧ EntAt K mg lk e f) (hfree : ∀ x ∈ free, mg x = none)
    (hcs : ∀ (c : Nat) x fs, cs[c]? = some (x, fs) → mg x = some (.ref (lk.CA c)) ∧ lk.FN c = fs ∧ ClsOk K (lk.CA c) fs)
    (hxs : ∀ (i : Nat) x ss, xs[i]? = some (x, ss) → mg x = some (.ref (lk.EA i)) ∧ ExcK K (lk.EA i) ∧ ExcV K (lk.EA i))
    (hxm : ∀ i j : Nat, i < xs.length → j < xs.length → PySem.W.exmOne K (.ref (lk.EA i)) (.ref (lk.EA j)) = some (decide (i ∈ (xs.map (·.2)).getD j [])) ∧ PySem.W.kitOne K (.ref (lk.EA i)) (.ref (lk.EA j)) = some (decide (i ∈ (xs.map (·.2)).getD j [])))
    (hgl : ∀ (i : Nat) x d, gnm[i]? = some x → gl i = some d → ∃ v u, mg x = some u ∧ RelV v u ∧ ∀ Z ρ n H, Rep K (lk.w Z) ρ n H d v) :
    ∀ e ∈ ents, ∀ h ∈ e.hot, ∀ (f : Addr) (fd : FuncData), FunD K e.name e.qual (defArgs e.st) (defBody e.st) (defScope e.st) [] [] f fd → e.cn = none ∧ ∃ y, e.ps = [y] ∧ FnE P w K mg base lk 1 f fd y (lk.EV h.1) h.2.1 := fun e he h hh f fd F => by
  have ch := List.all_eq_true.mp hchk e he
  have ex := (hE.at e he).at h hh
  unfold entB at ch
  cases q : e.hot with
  | nil => rw [q] at hh; cases hh
  | cons h0 hr0 =>
    rw [q] at ch
    simp only [Bool.and_eq_true, decide_eq_true_eq] at ch
    obtain ⟨⟨c1, c2⟩, ⟨⟨c3, c4⟩, c5⟩, c6⟩ := ch
    rw [← q] at c6
    have c6 := List.all_eq_true.mp c6 h hh
    simp only [Bool.and_eq_true, decide_eq_true_eq] at c6
    obtain ⟨c6, c7⟩ := c6
    obtain ⟨y, hy⟩ : ∃ y, e.ps = [y] := by
      match e.ps, c4 with
      | [y], _ => exact ⟨y, rfl⟩
    refine ⟨Option.isNone_iff_eq_none.mp c5, y, hy, ?_⟩
    have kd : (defScope e.st).kind = .function := by
      unfold kindB at c2
      split at c2
      · assumption
      · cases c2
    obtain ⟨oc, od, dV, kV, doc, pm, an, cdv, ct, osl, rfl, lkf, hcd, _, _⟩ := F.ex
    have S := C8.fnScope_by c1
    rw [hy] at S
    have hN0 : 0 < e.N.length := by
      have := congrArg List.length S.pre
      rw [List.length_take] at this
      simp at this
      omega
    refine fn_E (k := 0) lkf hcd S fun A outer s H Q a oe Z ρ G hr hz hf r hq => ?_
    have e1 : Alike (lk.w Z) ((lk.w Z).p (Held (some 0) a)) := ⟨rfl, rfl, rfl⟩
    have Ft : Fits (e.hsig gnm free cs xs h.1) (L2H.cxH (CXm P w) P w K mg base e.N e.qual (defScope e.st) f cdv A outer s H E0 (a, oe)) ((lk.w Z).p (Held (some 0) a)) (PK.call (fun _ => none) gl 0) gl := {
      hN := rfl
      nd := S.nd
      sc := rfl
      fn := rfl
      calm := fun z => by cases z
      free' := fun z => by cases z
      stay := fun j hj σ v p => p.set (hj _ _ rfl)
      hot := fun n c hx => by
        cases hx
        exact ⟨by simpa [Ent.hsig] using c6, a, oe, List.mem_cons_self, hz, hf, fun σ p => p⟩
      hot1 := fun z => by cases z
      xfs := fun x c d hx => by cases hx
      gd := hr.g
      un := by
        show (A.deeper (envOfC e.qual (defScope e.st) s.heap.objs.size f cdv)).units + 64 < cLine
        have := hr.r.un
        omega
      own := fun _ => ⟨rfl, rfl⟩
      hp := fun _ => passes_of (K := fun e s'' => CXm P w outer H s E0 e s'') (E₁ := fun e' s'' => CXm P w outer H s E0 e' s'') rfl
      hpa := fun z => by cases z
      free := hfree
      fns := fun j x hx => by cases hx
      mts := fun j c x hx => by cases hx
      mks := fun j c hx => by cases hx
      cls := fun c fs hx => by
        have hx : (cs.map (·.2))[c]? = some fs := hx
        rw [List.getElem?_map] at hx
        cases q : cs[c]? with
        | none => rw [q] at hx; cases hx
        | some p =>
          rw [q] at hx
          cases hx
          exact (hcs c p.1 p.2 q).2
      clsOf := fun c x hx => by
        have hx : (cs.map (·.1))[c]? = some x := hx
        rw [List.getElem?_map] at hx
        cases q : cs[c]? with
        | none => rw [q] at hx; cases hx
        | some p =>
          rw [q] at hx
          cases hx
          exact (hcs c p.1 p.2 q).1
      exs := fun i x hx => by
        have hx : (xs.map (·.1))[i]? = some x := hx
        rw [List.getElem?_map] at hx
        cases q : xs[i]? with
        | none => rw [q] at hx; cases hx
        | some p =>
          rw [q] at hx
          cases hx
          exact hxs i p.1 p.2 q
      exm := fun i j hi hj => hxm i j (by rw [← List.length_map (f := (·.1))]; exact hi) (by rw [← List.length_map (f := (·.1))]; exact hj)
      kr := fun i k m' a G' h1 h2 => PK.k_call 0 m' i a G' h1 h2
      gls := fun i x d h1 h2 => by
        obtain ⟨v, u, g1, g2, g3⟩ := hgl i x d h1 h2
        exact ⟨v, u, g1, g2, fun Z' ρ n H => Rep.cg (show Alike (lk.w Z') (((lk.w Z).p (Held (some 0) a)).w Z') from ⟨rfl, rfl, rfl⟩) _ _ (g3 Z' ρ n H)⟩ }
    refine ⟨_, (chkB_ok (m := []) Ft ⟨rfl, rfl⟩ kd h.2.2 c7).ss, ρ, G, List.replicate e.N.length none, r.cg e1, ?_, ?_⟩
    · refine ⟨by unfold L2.start; simp; omega, fun i d z => ?_, fun i z => ?_⟩
      · rw [List.getElem?_replicate] at z
        split at z <;> cases z
      · cases z
        unfold L2.start
        rfl
    · show OutS _ _ _ _ _ _ _ (PK.exec (PK.call (fun _ => none) gl 0) gl [] h.2.2 (List.replicate e.N.length none) G)
      rw [ex]
      exact fun ρ' H' x e r p => hq ρ' H' x e (r.cg e1.back) (Rep.cg e1.back _ _ p)
theorem run_brk {cl : List Nat → Nat → List PK.D → Cells → PK.R} {gl : Nat → Option PK.D} {m : List Nat} {f : PK.Fn} {ds : List PK.D} {G : Cells} (h : isBrk f.body = true) : PK.run cl gl m f ds G = .bad := by
  unfold PK.run
  have : f.body = .brk := by
    cases q : f.body <;> rw [q] at h <;> first | rfl | cases h
  rw [this]
  split <;> rfl
theorem table_ok (ents : List Ent) (hE : HotP ents) (hT : ∀ i e, ents[i]? = some e → T i = some e.fn) (hchk : ents.all (entB ents gnm free cs xs) = true) (hB : ∀ e ∈ ents, BindP e) (hP : lk.Free)
    (hF : ∀ e ∈ ents, ∃ f fd, FunD K e.name e.qual (defArgs e.st) (defBody e.st) (defScope e.st) [] [] f fd ∧ EntAt K mg lk e f) (hfree : ∀ x ∈ free, mg x = none)
    (hcs : ∀ (c : Nat) x fs, cs[c]? = some (x, fs) → mg x = some (.ref (lk.CA c)) ∧ lk.FN c = fs ∧ ClsOk K (lk.CA c) fs)
    (hxs : ∀ (i : Nat) x ss, xs[i]? = some (x, ss) → mg x = some (.ref (lk.EA i)) ∧ ExcK K (lk.EA i) ∧ ExcV K (lk.EA i))
    (hxm : ∀ i j : Nat, i < xs.length → j < xs.length → PySem.W.exmOne K (.ref (lk.EA i)) (.ref (lk.EA j)) = some (decide (i ∈ (xs.map (·.2)).getD j [])) ∧ PySem.W.kitOne K (.ref (lk.EA i)) (.ref (lk.EA j)) = some (decide (i ∈ (xs.map (·.2)).getD j [])))
    (hgl : ∀ (i : Nat) x d, gnm[i]? = some x → gl i = some d → ∃ v u, mg x = some u ∧ RelV v u ∧ ∀ Z ρ n H, Rep K (lk.w Z) ρ n H d v) :
    ∀ (n i : Nat) (e : Ent) (f : Addr) (fd : FuncData), ents[i]? = some e → FunD K e.name e.qual (defArgs e.st) (defBody e.st) (defScope e.st) [] [] f fd → FnG P w K mg base (2 * n) f fd e.ps (spC K lk fun m ds G => PK.call T gl n m i ds G)
  | 0, i, e, f, fd, he, F => ⟨fun vs H Q E ⟨_, _, _, _, _, _, _, h⟩ => False.elim h, fun A outer s H args us vs Q E _ _ _ _ ⟨_, _, _, _, _, _, _, h⟩ => False.elim h⟩
  | n + 1, i, e, f, fd, he, F => by
    have ch := List.all_eq_true.mp hchk e (List.mem_of_getElem? he)
    unfold entB at ch
    have ch0 := ch
    rw [Bool.and_eq_true_iff, Bool.and_eq_true_iff] at ch0
    obtain ⟨⟨c1, c2⟩, ch⟩ := ch0
    have kd : (defScope e.st).kind = .function := by
      unfold kindB at c2
      split at c2
      · assumption
      · cases c2
    obtain ⟨oc, od, dV, kV, doc, pm, an, cdv, ct, osl, rfl, lkf, hcd, _, _⟩ := F.ex
    have call1 : ∀ m ds G, PK.call T gl (n + 1) m i ds G = PK.run (PK.call T gl n) gl m e.fn ds G := fun m ds G => by
      show PK.optK (T i) _ _ = _
      rw [hT i e he]; rfl
    cases qh : e.hot with
    | cons h0 hr0 =>
      rw [qh] at ch
      simp only [Bool.and_eq_true] at ch
      have nb := ch.1.1.1
      refine fn_G (k := 2 * n + 1) lkf hcd (C8.fnScope_by c1) (fun vs H Q E ⟨Z, m, ρ, G, ds, r, p, h⟩ => ?_) fun A outer s H vs Q E hr ⟨Z, m, ρ, G, ds, r, p, h⟩ => ?_
      · dsimp only at h
        rw [call1, run_brk nb] at h
        exact False.elim h
      · dsimp only at h
        rw [call1, run_brk nb] at h
        exact False.elim h
    | nil =>
    rw [qh] at ch
    simp only [Bool.and_eq_true, decide_eq_true_eq] at ch
    obtain ⟨⟨c3, c4⟩, c5⟩ := ch
    refine fn_G (k := 2 * n + 1) lkf hcd (C8.fnScope_by c1) (fun vs H Q E ⟨Z, m, ρ, G, ds, r, p, h⟩ => ?_) fun A outer s H vs Q E hr ⟨Z, m, ρ, G, ds, r, p, h⟩ => ?_
    · dsimp only at h
      rw [call1] at h
      rw [← p.length, (run_of (fun k m' f a G' h1 h2 => PK.k_call n m' f a G' h1 h2) r h).1]; exact c4.symm
    · dsimp only at h
      rw [call1] at h
      obtain ⟨hl, hS⟩ := run_of (fun k m' f a G' h1 h2 => PK.k_call n m' f a G' h1 h2) r h
      have Ft : Fits (e.sig ents gnm free cs xs) (cxOf (CXm P w) P w K mg base e.N e.qual (defScope e.st) f cdv A outer s H E) (lk.w Z) (PK.call T gl n) gl := {
        hN := rfl
        nd := (C8.fnScope_by c1).nd
        sc := rfl
        fn := rfl
        calm := fun _ => rfl
        free' := fun _ => hP
        stay := fun j _ σ v _ => hP _
        hot := fun n c z => by cases z
        hot1 := fun z => by cases z
        xfs := fun x c d hx => by
          obtain ⟨e', he', hx⟩ := List.mem_flatMap.mp hx
          obtain ⟨h', hh', ex'⟩ := List.mem_map.mp hx
          cases ex'
          obtain ⟨f', fd', F', hm⟩ := hF e' he'
          obtain ⟨hcn, y, hy, T'⟩ := ask_table ents hE hchk hF hfree hcs hxs hxm hgl e' he' h' hh' f' fd' F'
          unfold EntAt at hm
          rw [hcn] at hm
          have hb := F'.bindsN (hB e' he')
          rw [hy] at hb
          exact ⟨f', fd', y, 1, T'.w Z, RoomE.of (hr.mono (by omega)), hm, F'.kp, hb⟩
        gd := hr.g
        un := hr.r.units
        own := fun _ => ⟨rfl, rfl⟩
        hp := fun _ => passes_of (K := fun e s'' => CXm P w outer H s E e s'') (E₁ := fun e' s'' => CXm P w outer H s E e' s'') rfl
        hpa := fun _ hd => L2H.passesAt_of (K := fun e s'' => CXm P w outer H s E e s'') (E₁ := fun e' s'' => CXm P w outer H s E e' s'') rfl hd
        free := hfree
        fns := fun j x hx => by
          have hx : (ents.map fnmOf)[j]? = some (some x) := hx
          rw [List.getElem?_map] at hx
          cases q : ents[j]? with
          | none => rw [q] at hx; cases hx
          | some e' =>
            rw [q] at hx
            have hx : fnmOf e' = some x := Option.some.inj hx
            obtain ⟨f', fd', F', hm⟩ := hF e' (List.mem_of_getElem? q)
            unfold fnmOf at hx
            unfold EntAt at hm
            cases qc : e'.cn with
            | some _ => rw [qc] at hx; cases hx
            | none =>
              rw [qc] at hx hm
              cases hx
              exact ⟨f', fd', e'.ps, 2 * n, table_ok ents hE hT hchk hB hP hF hfree hcs hxs hxm hgl n j e' f' fd' q F', hr, hm, F'.kp, F'.bindsN (hB e' (List.mem_of_getElem? q))⟩
        mts := fun j c x hx hn => by
          have hx : (ents.map mthOf)[j]? = some (some (c, x)) := hx
          rw [List.getElem?_map] at hx
          cases q : ents[j]? with
          | none => rw [q] at hx; cases hx
          | some e' =>
            rw [q] at hx
            have hx : mthOf e' = some (c, x) := Option.some.inj hx
            obtain ⟨f', fd', F', hm⟩ := hF e' (List.mem_of_getElem? q)
            unfold mthOf at hx
            unfold EntAt at hm
            cases qc : e'.cn with
            | none => rw [qc] at hx; cases hx
            | some p =>
              obtain ⟨c', y⟩ := p
              rw [qc] at hx hm
              cases hx
              have hm : (if e'.name = initN then Mk K (lk.CA c) f' else Meth K (lk.CA c) e'.name f') := hm
              rw [if_neg hn] at hm
              exact ⟨f', fd', e'.ps, 2 * n, table_ok ents hE hT hchk hB hP hF hfree hcs hxs hxm hgl n j e' f' fd' q F', hr, hm, F'.bindsN (hB e' (List.mem_of_getElem? q))⟩
        mks := fun j c hx => by
          have hx : (ents.map mthOf)[j]? = some (some (c, initN)) := hx
          rw [List.getElem?_map] at hx
          cases q : ents[j]? with
          | none => rw [q] at hx; cases hx
          | some e' =>
            rw [q] at hx
            have hx : mthOf e' = some (c, initN) := Option.some.inj hx
            obtain ⟨f', fd', F', hm⟩ := hF e' (List.mem_of_getElem? q)
            unfold mthOf at hx
            unfold EntAt at hm
            cases qc : e'.cn with
            | none => rw [qc] at hx; cases hx
            | some p =>
              obtain ⟨c', y⟩ := p
              rw [qc] at hx hm
              have hx : some (c', e'.name) = some (c, initN) := hx
              have h1 : c' = c := by injection hx with hx; injection hx
              have h2 : e'.name = initN := by injection hx with hx; injection hx
              subst h1
              have hm : (if e'.name = initN then Mk K (lk.CA c') f' else Meth K (lk.CA c') e'.name f') := hm
              rw [if_pos h2] at hm
              exact ⟨f', fd', e'.ps, 2 * n, table_ok ents hE hT hchk hB hP hF hfree hcs hxs hxm hgl n j e' f' fd' q F', hr, hm, F'.bindsN (hB e' (List.mem_of_getElem? q))⟩
        cls := fun c fs hx => by
          have hx : (cs.map (·.2))[c]? = some fs := hx
          rw [List.getElem?_map] at hx
          cases q : cs[c]? with
          | none => rw [q] at hx; cases hx
          | some p =>
            rw [q] at hx
            cases hx
            exact (hcs c p.1 p.2 q).2
        clsOf := fun c x hx => by
          have hx : (cs.map (·.1))[c]? = some x := hx
          rw [List.getElem?_map] at hx
          cases q : cs[c]? with
          | none => rw [q] at hx; cases hx
          | some p =>
            rw [q] at hx
            cases hx
            exact (hcs c p.1 p.2 q).1
        exs := fun i x hx => by
          have hx : (xs.map (·.1))[i]? = some x := hx
          rw [List.getElem?_map] at hx
          cases q : xs[i]? with
          | none => rw [q] at hx; cases hx
          | some p =>
            rw [q] at hx
            cases hx
            exact hxs i p.1 p.2 q
        exm := fun i j hi hj => hxm i j (by rw [← List.length_map (f := (·.1))]; exact hi) (by rw [← List.length_map (f := (·.1))]; exact hj)
        kr := fun i k m' a G' h1 h2 => PK.k_call n m' i a G' h1 h2
        gls := hgl }
      have tk : ∀ c σ H', E (lk.EV c) (tnt c) H' → WXo (cxOf (CXm P w) P w K mg base e.N e.qual (defScope e.st) f cdv A outer s H E) (lk.EV c) (tnt c) σ H' := fun c σ H' z => wx_own rfl rfl rfl rfl z (tnt_two c)
      refine ⟨_, (chkB_ok (m := if e.fn.trn then G.length :: m else m) Ft ⟨rfl, rfl⟩ kd e.fn.body c5).ss, ρ, G, _, r, start_env p ?_ (hP _), hS.imp fun c σ H' z => tk c σ H' z⟩
      rw [← p.length, hl, c3]
end

theorem fz_of {K : PySem.W.Frag} {lk : Lk} {ρ : Nm} {n : Nat} {H : Hp} {a : Addr} {ns : List Int} (hO : Only H) (h : SqL K H a (ns.map V.int)) : Rep K lk ρ n H (.fz (ns.map .int)) (.ref a) := by
  refine ⟨a, _, rfl, ?_, of_ints ns⟩
  rcases h with (h | h) | h
  · rcases hO a with z | ⟨o, xs, z⟩
    · rw [z] at h; cases h
    · rw [z] at h; cases h
  · exact .inl h
  · exact .inr h
structure Script (P : Program) (w : World) (K : PySem.W.Frag) (s : Shared) (a : Addr) (vs : List Value) (ns : List Int) (H : Hp) : Prop where
  one : H = (fun _ => none) ∨ H = fun b => if b = a then some (.frz { cls := .type "list", data := .seq vs.toArray } (.lst (ns.map V.int))) else none
  sq : SqL K H a (ns.map V.int)
  ok : HOk P w H s.heap
  un : H a ≠ none → K.lookup a = none
section
variable {P : Program} {w : World} {K : PySem.W.Frag} {mg mb : Str → Option Value} {s : Shared} {a : Addr} {vs : List Value} {ns : List Int} {H : Hp}
theorem script_of (KX : K.In s.heap) (ha : s.heap.get? a = some { cls := .type "list", data := .seq vs.toArray }) (hi : IntsAre vs ns) (hl : ns.length ≤ sizeLine) : ∃ H, Script P w K s a vs ns H := by
  have rv := vals_ints hi
  have size : vs.toArray.size ≤ sizeLine := by rw [List.size_toArray, hi.length]; exact hl
  cases hk : K.lookup a with
  | some o =>
    obtain rfl := Option.some.inj (ha.symm.trans (KX a o hk))
    exact ⟨_, .inl rfl, .inr ⟨_, vs.toArray, _, hk, rfl, rfl, rfl, size, by simpa using rv⟩, fun _ _ z => (nomatch z), fun z => (z rfl).elim⟩
  | none =>
    refine ⟨_, .inr rfl, .inl (.inr ⟨_, if_pos rfl⟩), fun b u z => ?_, fun _ => hk⟩
    by_cases q : b = a
    · subst q
      cases (if_pos rfl).symm.trans z
      exact ⟨ha, by rw [List.length_map]; exact hl, vs, _, rv, ha⟩
    · cases (if_neg q).symm.trans z
theorem Script.only (S : Script P w K s a vs ns H) : Only H := fun b => by
  rcases S.one with rfl | rfl
  · exact .inl rfl
  · by_cases q : b = a
    · exact .inr ⟨_, _, if_pos q⟩
    · exact .inl (if_neg q)
theorem Script.off (S : Script P w K s a vs ns H) {b : Addr} (h : b ≠ a ∨ K.lookup a ≠ none) : H b = none := by
  rcases S.one with rfl | rfl
  · rfl
  · rcases h with h | h
    · exact if_neg h
    · exact absurd (S.un (by simp)) h
theorem Script.env (S : Script P w K s a vs ns H) (KX : K.In s.heap) (hns : s.heap.Ns mainGlobals mg) (hb : s.heap.Ns builtinsNs mb) (hbb : ∀ x : Str, x ≠ "__name__" → mb x = bootBuiltins x) (hlim : s.heap.NoLimit) (hg : s.gens = #[])
    (ha : s.heap.get? a = some { cls := .type "list", data := .seq vs.toArray }) : K.In (hidT s.heap H) ∧ (hidT s.heap H).Ns mainGlobals mg ∧ Env0 P w K mg (hidT s.heap H) callerA [] s H := by
  have names : ∀ {b m}, s.heap.Ns b m → (hidT s.heap H).Ns b m := fun {b m} ⟨o, es, ep, e, d, r⟩ => ⟨o, es, ep, hidT_get e (S.off (.inl fun q => by
    rw [q, ha] at e
    cases e
    cases show Data.seq vs.toArray _ = Data.dict es ep from d)), d, r⟩
  have mine : K.In (hidT s.heap H) := fun b o q => hidT_get (KX b o q) (S.off (by
    by_cases z : b = a
    · exact .inr (by rw [← z, q]; exact nofun)
    · exact .inl z))
  exact ⟨mine, names hns, rfl, ⟨mine, names hns, ⟨mb, names hb, hbb⟩, hlim.imp fun _ z => ⟨names z.1, z.2⟩⟩, fun _ _ => of_hidT, Nat.le_of_eq (hidT_size _ _), trivial, fun _ z => (nomatch z), S.ok, .of_eq hg⟩
theorem Script.ends (S : Script P w K s a vs ns H) {r : Result} {s' : Shared} (h : CR (CXm P w) [] P w H s (fun v _ => v = .bl true) (fun _ _ _ => False) r s') : r = .ok (.ret (.bool true)) ∧ OldK s.heap s'.heap ∧ s'.os = s.os ∧ AllBare s'.gens := by
  match r, h with
  | .error _, h => rcases h with ⟨_, _, _, _, _, _, _, _, _, _, _, _, z⟩ | ⟨_, _, _, _, _, _, _, _, _, _, _, _, z⟩ <;> exact z.2.elim
  | .ok (.ret u), ⟨v, H', os, bare, un, ok', rv, q⟩ =>
    subst q
    refine ⟨by rw [show u = Value.bool true from rv], .of_keep fun b o g => ?_, os, bare⟩
    cases hb : H b with
    | none => exact un.keep b o g hb nofun nofun
    | some _ =>
      rcases S.only b with z | ⟨_, _, z⟩
      · cases hb.symm.trans z
      · cases g.symm.trans (S.ok b _ z).1
        exact (ok' b _ (un.frzs b _ _ z)).1
end
structure Worth (P : Program) (w : World) (mg : Str → Option Value) (n k : Nat) (x : Str) (fa : Addr) (h : Heap) (K : PySem.W.Frag) (fd : FuncData) (sp : Sp) : Prop where
  kin : K.In h
  bind : ∀ (s : Shared) (u : Value), BindsTo s fd ⟨[u], []⟩ [(x, u)]
  told : ∀ {H : Hp} {a : Addr} {ns : List Int}, ns.length ≤ n → (∀ z ∈ ns, Builtin.Int.intBits z ≤ 1048576) → Only H → SqL K H a (ns.map V.int) → sp [.ref a] H (fun v _ => v = .bl true) fun _ _ _ => False
  run : ∀ {base : Heap}, K.In base → base.Ns mainGlobals mg → FnG P w K mg base k fa fd [x] sp
theorem walk_G {l : PySem.W.OpenLaw} {n k : Nat} {q : Program} {loose : List Str} {XP : (Str → Option Value) → Heap → Prop} {YP : World → Heap → Prop} {d : DefRec} {x : Str} (most : l.most = some n) (fits : n ≤ sizeLine) (plain : d.params.defaults = []) (room : Room k callerA)
    (W : ∀ w mg fa h, YP w h → h.Ns mainGlobals mg → mg d.name = some (.ref fa) → ∃ K fd sp, Worth l.prog w mg n k x fa h K fd sp) : PySem.W.WalkO q loose XP YP l.row.toRowW d [] (fun f vs => PySem.call f vs) :=
  Att.attach_callB most plain fun w _ s mg _ fa _ _ _ _ a _ ns G Y _ _ _ mat hat hin hle hbi hge => by
    obtain ⟨K, fd, sp, V⟩ := W w mg fa _ Y G.T.g mat
    obtain ⟨H, S⟩ := script_of (P := l.prog) (w := w) V.kin hat hin (Nat.le_trans hle fits)
    obtain ⟨mine, names, e0⟩ := S.env V.kin G.T.g G.T.b G.T.builtins G.T.nolimit hge hat
    exact codeAny_mono ((V.run mine names).run callerA [] s H ⟨[.ref a], []⟩ [.ref a] [.ref a] _ _ ⟨room, rfl⟩ e0 (V.bind s (.ref a)) (.cons rfl .nil) (V.told hle hbi S.only S.sq)) fun _ _ h => S.ends h
end PKS
namespace PKS
open PySem PySem.Spec PyProof.Rows L2
def conB : Str × PK.D → Bool
  | (_, .int _) => true
  | (_, .str _) => true
  | (_, .tup ds) => (dvs ds).isSome && (PK.keysD ds).isNone
  | _ => false
theorem excB_ok {K : PySem.W.Frag} {x : Str} (h : excB K x = true) : ExcV K (He.ga K x) := by
  obtain ⟨h1, h⟩ := He.ba h
  obtain ⟨h2, h⟩ := He.ba h
  obtain ⟨h3, h⟩ := He.ba h
  obtain ⟨h4, h⟩ := He.ba h
  obtain ⟨h5, h⟩ := He.ba h
  obtain ⟨h6, h⟩ := He.ba h
  obtain ⟨h7, h⟩ := He.ba h
  obtain ⟨h8, h9⟩ := He.ba h
  exact ⟨⟨He.eqO_ok h1, He.eqO_ok h2, of_decide_eq_true h3, h4, He.eqO_ok h5, He.eqO_ok h6, of_decide_eq_true h7, of_decide_eq_true h8⟩, of_decide_eq_true h9⟩

theorem obsP_eq {n : Nat} {fa : List He.Fa} {fn : List He.DefD} {ex : PySem.W.Frag → Bool} {g : Addr → Option Obj} {s : Shared} (h : ∀ a, g a = s.heap.get? a) : obsP n fa fn ex g = (hookP n fa fn ex).obs s := by
  have e : g = s.heap.get? := funext h
  rw [e] <;> rfl
theorem reps_dv {K : PySem.W.Frag} {K2 : PySem.W.Frag} {lk : Lk} {ρ : Nm} {n : Nat} {H : Hp} : ∀ {ds : List PK.D} {vs : List He.Dv}, dvs ds = some vs → Reps K lk ρ n H ds (vs.map (He.Dv.v K2))
  | [], vs, h => by cases h; rfl
  | d :: ds, vs, h => by
    unfold dvs at h
    cases e1 : dvO d with
    | none => rw [e1] at h; cases h
    | some x =>
      rw [e1] at h
      cases e2 : dvs ds with
      | none => rw [e2] at h; cases h
      | some xs =>
        rw [e2] at h
        cases h
        refine ⟨x.v K2, xs.map (He.Dv.v K2), rfl, ?_, reps_dv e2⟩
        cases d <;> cases e1 <;> rfl
def entC (cs : Clss) (e : Ent) : Bool := match e.cn with
  | none => true
  | some (c, x) => decide ((cs.map (·.1))[c]? = some x)
def csB (cs : Clss) : Bool := cs.all fun p => decide p.2.Nodup && decide (p.2.length < 1000)
def lkOf (K : PySem.W.Frag) (cs : Clss) (xs : Exs) : Lk := ⟨fun c => He.ga K ((cs.map (·.1)).getD c Str.empty), fun c => (cs.map (·.2)).getD c [], fun i => He.ga K ((xs.map (·.1)).getD i Str.empty), fun _ => False, fun _ => True⟩
theorem lk_ca {K : PySem.W.Frag} {cs : Clss} {xs : Exs} {c : Nat} {x : Str} (h : (cs.map (·.1))[c]? = some x) : (lkOf K cs xs).CA c = He.ga K x := by
  show He.ga K ((cs.map (·.1)).getD c Str.empty) = _
  rw [List.getD_eq_getElem?_getD, h]; rfl
section
variable {ents : List Ent} {free : List Str} {cons : List (Str × PK.D)} {cs : Clss} {xs : Exs} {K : PySem.W.Frag} {h : Heap} {mg : Str → Option Value}
theorem fact_of (c : He.SaysD (faOf ents free cons cs xs) (ents.map Ent.dd) K) {f : He.Fa} (hf : f ∈ faOf ents free cons cs xs) : f.ok K = true := by
  obtain ⟨i, hi⟩ := List.getElem?_of_mem hf
  exact c.fact i hi
theorem ent_of (X : K.In h) (G : h.Ns mainGlobals mg) (c : He.SaysD (faOf ents free cons cs xs) (ents.map Ent.dd) K) (hent : ents.all (entC cs) = true) : ∀ e ∈ ents, ∃ f fd, FunD K e.name e.qual (defArgs e.st) (defBody e.st) (defScope e.st) [] [] f fd ∧ EntAt K mg (lkOf K cs xs) e f := fun e he => by
  obtain ⟨i, hi⟩ := List.getElem?_of_mem he
  obtain ⟨fd, F⟩ := c.def_ i (d := e.dd) (by rw [List.getElem?_map, hi]; rfl)
  have fa := fact_of c (List.mem_append_left _ (List.mem_map.mpr ⟨e, he, rfl⟩))
  have hc := List.all_eq_true.mp hent e he
  refine ⟨_, fd, F, ?_⟩
  show EntAt K mg (lkOf K cs xs) e (He.fAd K e.at_)
  unfold EntAt Ent.at_
  unfold entF at fa
  unfold entC at hc
  cases q : e.cn with
  | none =>
    rw [q] at fa
    exact He.glo_ok X G fa
  | some p =>
    obtain ⟨c, x⟩ := p
    rw [q] at fa hc
    have hc : (cs.map (·.1))[c]? = some x := of_decide_eq_true hc
    have fa : (if e.name = initN then He.Fa.mkr x else He.Fa.meth x e.name).ok K = true := fa
    show if e.name = initN then Mk K ((lkOf K cs xs).CA c) (He.ma K (He.ga K x) e.name) else Meth K ((lkOf K cs xs).CA c) e.name (He.ma K (He.ga K x) e.name)
    rw [lk_ca hc]
    by_cases z : e.name = initN
    · rw [if_pos z] at fa ⊢
      rw [z]
      exact He.mkr_ok fa
    · rw [if_neg z] at fa ⊢
      exact He.meth_ok fa
theorem free_of (X : K.In h) (G : h.Ns mainGlobals mg) (c : He.SaysD (faOf ents free cons cs xs) (ents.map Ent.dd) K) : ∀ x ∈ free, mg x = none := fun x hx =>
  He.free_ok X G (fact_of c (List.mem_append_right _ (List.mem_append_left _ (List.mem_map.mpr ⟨x, hx, rfl⟩))))
theorem cls_of (X : K.In h) (G : h.Ns mainGlobals mg) (c : He.SaysD (faOf ents free cons cs xs) (ents.map Ent.dd) K) (hcs : csB cs = true) :
    ∀ (i : Nat) x fs, cs[i]? = some (x, fs) → mg x = some (.ref ((lkOf K cs xs).CA i)) ∧ (lkOf K cs xs).FN i = fs ∧ ClsOk K ((lkOf K cs xs).CA i) fs := fun i x fs hi => by
  have hm := List.mem_of_getElem? hi
  have e1 : (cs.map (·.1))[i]? = some x := by rw [List.getElem?_map, hi]; rfl
  have fa : ∀ f ∈ clsF (x, fs), f.ok K = true := fun f hf => fact_of c (List.mem_append_right _ (List.mem_append_right _ (List.mem_append_right _ (List.mem_append_left _ (List.mem_flatMap.mpr ⟨_, hm, hf⟩)))))
  have b := List.all_eq_true.mp hcs _ hm
  obtain ⟨b1, b2⟩ := Bool.and_eq_true_iff.mp b
  rw [lk_ca e1]
  refine ⟨He.glo_ok X G (fa (.glo x) List.mem_cons_self), ?_, He.cls_ok (fa (.cls x) (List.mem_cons_of_mem _ List.mem_cons_self)), of_decide_eq_true b1, fun f hf => He.noat_ok (fa (.noat x f) (List.mem_cons_of_mem _ (List.mem_cons_of_mem _ (List.mem_map.mpr ⟨f, hf, rfl⟩)))), of_decide_eq_true b2⟩
  show (cs.map (·.2)).getD i [] = fs
  rw [List.getD_eq_getElem?_getD, List.getElem?_map, hi]; rfl
theorem con_of {lk : Lk} (X : K.In h) (G : h.Ns mainGlobals mg) (c : He.SaysD (faOf ents free cons cs xs) (ents.map Ent.dd) K) (hx : exF cons xs K = true) (hc : cons.all conB = true) :
    ∀ (i : Nat) x d, (cons.map (·.1))[i]? = some x → glOf cons i = some d → ∃ v u, mg x = some u ∧ RelV v u ∧ ∀ Z ρ n H, Rep K (lk.w Z) ρ n H d v := fun i x d h1 h2 => by
  unfold glOf at h2
  rw [List.getElem?_map] at h1
  cases q : cons[i]? with
  | none => rw [q] at h1; cases h1
  | some p =>
    rw [q] at h1 h2
    cases h1
    cases h2
    have m := List.mem_of_getElem? q
    have b := List.all_eq_true.mp hc p m
    have f := fact_of c (List.mem_append_right _ (List.mem_append_right _ (List.mem_append_left _ (List.mem_map.mpr ⟨p, m, rfl⟩))))
    have xt := List.all_eq_true.mp (He.ba hx).1 p m
    obtain ⟨y, d⟩ := p
    cases d with
    | int j => obtain ⟨t, e⟩ := He.int_ok X G f; exact ⟨.int j, _, e, ⟨t, rfl⟩, fun _ _ _ _ => rfl⟩
    | str s => obtain ⟨t, e⟩ := He.str_ok X G f; exact ⟨.str s, _, e, ⟨t, rfl⟩, fun _ _ _ _ => rfl⟩
    | tup ds =>
      have e := He.glo_ok X G f
      obtain ⟨b1, b2⟩ := He.ba b
      refine ⟨.ref (He.ga K y), _, e, rfl, fun Z ρ n H => ?_⟩
      have xt : (match dvs ds with | some vs => He.tupB K y vs | none => false) = true := xt
      cases q2 : dvs ds with
      | none => rw [q2] at b1; cases b1
      | some vs =>
        rw [q2] at xt
        exact ⟨_, _, rfl, .inr ⟨He.tupB_ok xt H, Option.isNone_iff_eq_none.mp b2⟩, reps_dv q2⟩
    | _ => cases b
theorem xs_of (X : K.In h) (G : h.Ns mainGlobals mg) (c : He.SaysD (faOf ents free cons cs xs) (ents.map Ent.dd) K) (hx : exF cons xs K = true) :
    ∀ (i : Nat) x ss, xs[i]? = some (x, ss) → mg x = some (.ref ((lkOf K cs xs).EA i)) ∧ ExcK K ((lkOf K cs xs).EA i) ∧ ExcV K ((lkOf K cs xs).EA i) := fun i x ss hi => by
  have hm := List.mem_of_getElem? hi
  have ea : (lkOf K cs xs).EA i = He.ga K x := by
    show He.ga K ((xs.map (·.1)).getD i Str.empty) = _
    rw [List.getD_eq_getElem?_getD, List.getElem?_map, hi]; rfl
  have fa : ∀ f ∈ errF (x, ss), f.ok K = true := fun f hf => fact_of c (List.mem_append_right _ (List.mem_append_right _ (List.mem_append_right _ (List.mem_append_right _ (List.mem_flatMap.mpr ⟨_, hm, hf⟩)))))
  obtain ⟨e1, e2, e3, e4⟩ := He.exc_ok (fa (.exc x) (List.mem_cons_of_mem _ List.mem_cons_self))
  rw [ea]
  exact ⟨He.glo_ok X G (fa (.glo x) List.mem_cons_self), ⟨e1, e2, e3, e4⟩, excB_ok (List.all_eq_true.mp (He.ba (He.ba hx).2).1 _ hm)⟩
theorem xm_of (hx : exF cons xs K = true) : ∀ i j : Nat, i < xs.length → j < xs.length → PySem.W.exmOne K (.ref ((lkOf K cs xs).EA i)) (.ref ((lkOf K cs xs).EA j)) = some (decide (i ∈ (xs.map (·.2)).getD j [])) ∧ PySem.W.kitOne K (.ref ((lkOf K cs xs).EA i)) (.ref ((lkOf K cs xs).EA j)) = some (decide (i ∈ (xs.map (·.2)).getD j [])) := fun i j hi hj => by
  have z := List.all_eq_true.mp (List.all_eq_true.mp (He.ba (He.ba hx).2).2 i (List.mem_range.mpr hi)) j (List.mem_range.mpr hj)
  obtain ⟨z1, z2⟩ := He.ba z
  exact ⟨of_decide_eq_true z1, of_decide_eq_true z2⟩
theorem law_of {l : PySem.W.OpenLaw} {w : World} {N j n : Nat} {e : Ent} {sx : Str} {T : Nat → Option PK.Fn} (hE : HotP ents) (hT : ∀ i e, ents[i]? = some e → T i = some e.fn) (hchk : ents.all (entB ents (cons.map (·.1)) free cs xs) = true) (hent : ents.all (entC cs) = true) (hcs : csB cs = true) (hB : ∀ e ∈ ents, BindP e) (hc : cons.all conB = true)
    (he : ents[j]? = some e) (hcn : e.cn = none) (hps : e.ps = [sx]) (X : K.In h) (G : h.Ns mainGlobals mg) (c : He.SaysD (faOf ents free cons cs xs) (ents.map Ent.dd) K) (hx : exF cons xs K = true) {fa : Addr} (hm : mg e.name = some (.ref fa))
    (plain : ∀ ns : List Int, ns.length ≤ n → (∀ z ∈ ns, Builtin.Int.intBits z ≤ 1048576) → ∃ G', PK.call T (glOf cons) N [] j [.fz (ns.map .int)] [] = .ok (.bl true) G') :
    ∃ K fd sp, Worth l.prog w mg n (2 * N) sx fa h K fd sp := by
  obtain ⟨f, fd, F, hf⟩ := ent_of X G c hent e (List.mem_of_getElem? he)
  unfold EntAt at hf
  rw [hcn] at hf
  have hf : mg e.name = some (.ref f) := hf
  rw [hm] at hf
  cases hf
  refine ⟨K, fd, spC K (lkOf K cs xs) fun m ds G => PK.call T (glOf cons) N m j ds G, X, fun s u => ?_, fun {H a ns} hl hb hO hS => ?_, fun {base} hK hG => ?_⟩
  · have b := FunD.bindsA F (hB e (List.mem_of_getElem? he)) s [u] (by rw [hps]; rfl)
    rw [hps] at b; exact b
  · obtain ⟨G', p⟩ := plain ns hl hb
    refine ⟨fun _ => False, [], fun _ => 0, [], [.fz (ns.map .int)], ⟨fun i c q => by simp at q, fun i j hi => absurd hi (by simp), fun a z => z.elim, fun i hi => absurd hi (by simp)⟩, ⟨_, _, rfl, fz_of hO hS, rfl⟩, ?_⟩
    dsimp only
    rw [p]
    exact fun ρ' H' x e r p => p
  · rw [← hps]
    exact table_ok ents hE hT hchk hB (fun _ => trivial) (ent_of hK hG c hent) (free_of hK hG c) (cls_of hK hG c hcs) (xs_of hK hG c hx) (xm_of hx) (con_of hK hG c hx hc) N j e fa fd he F
end
end PKS
namespace Tk72
open PK
def tab : Nat → Option Fn
  | 0 => some f_is_whole
  | 1 => some f_is_wide
  | 2 => some f_is_none
  | 3 => some f_is_some
  | 4 => some f_state_of
  | 5 => some f_want_bounds
  | 6 => some f_musts
  | 7 => some f_even
  | 8 => some f_is_within
  | 9 => some f_plan_between
  | 10 => some f_plan
  | 11 => some f_law_cell
  | 12 => some f_law_pot
  | 13 => some f_law_take
  | 14 => some f_law_added
  | 15 => some f_law_leads
  | 16 => some f_law_goal
  | 17 => some f_law_all
  | 18 => some f_law
  | _ => none

open PySem PKS
theorem ob_eq (s : PySem.W.SharedT) : ob s = hk.obs s.abs := obsP_eq (HandSHeadRun.getT_eq s)
theorem b_is_whole : BindP e_is_whole := fun _ _ _ _ _ _ us hl => match us, hl with | [_], _ => rfl
theorem b_is_wide : BindP e_is_wide := fun _ _ _ _ _ _ us hl => match us, hl with | [_], _ => rfl
theorem b_is_none : BindP e_is_none := fun _ _ _ _ _ _ us hl => match us, hl with | [_], _ => rfl
theorem b_is_some : BindP e_is_some := fun _ _ _ _ _ _ us hl => match us, hl with | [_], _ => rfl
theorem b_state_of : BindP e_state_of := fun _ _ _ _ _ _ us hl => match us, hl with | [_], _ => rfl
theorem b_want_bounds : BindP e_want_bounds := fun _ _ _ _ _ _ us hl => match us, hl with | [_, _], _ => rfl
theorem b_musts : BindP e_musts := fun _ _ _ _ _ _ us hl => match us, hl with | [_, _], _ => rfl
theorem b_even : BindP e_even := fun _ _ _ _ _ _ us hl => match us, hl with | [_, _, _, _], _ => rfl
theorem b_is_within : BindP e_is_within := fun _ _ _ _ _ _ us hl => match us, hl with | [_, _], _ => rfl
theorem b_plan_between : BindP e_plan_between := fun _ _ _ _ _ _ us hl => match us, hl with | [_, _, _, _], _ => rfl
theorem b_plan : BindP e_plan := fun _ _ _ _ _ _ us hl => match us, hl with | [_, _, _, _], _ => rfl
theorem b_law_cell : BindP e_law_cell := fun _ _ _ _ _ _ us hl => match us, hl with | [_, _], _ => rfl
theorem b_law_pot : BindP e_law_pot := fun _ _ _ _ _ _ us hl => match us, hl with | [_], _ => rfl
theorem b_law_take : BindP e_law_take := fun _ _ _ _ _ _ us hl => match us, hl with | [_, _], _ => rfl
theorem b_law_added : BindP e_law_added := fun _ _ _ _ _ _ us hl => match us, hl with | [_, _], _ => rfl
theorem b_law_leads : BindP e_law_leads := fun _ _ _ _ _ _ us hl => match us, hl with | [_, _, _, _, _], _ => rfl
theorem b_law_goal : BindP e_law_goal := fun _ _ _ _ _ _ us hl => match us, hl with | [_, _], _ => rfl
theorem b_law_all : BindP e_law_all := fun _ _ _ _ _ _ us hl => match us, hl with | [_, _, _], _ => rfl
theorem b_law : BindP e_law := fun _ _ _ _ _ _ us hl => match us, hl with | [_], _ => rfl
theorem hB : ∀ e ∈ ents, BindP e := fun e h => by
  simp only [ents, ents0, List.mem_append, List.mem_cons, List.not_mem_nil, or_false, List.cons_append, List.nil_append] at h
  rcases h with rfl | rfl | rfl | rfl | rfl | rfl | rfl | rfl | rfl | rfl | rfl | rfl | rfl | rfl | rfl | rfl | rfl | rfl | rfl
  · exact b_is_whole
  · exact b_is_wide
  · exact b_is_none
  · exact b_is_some
  · exact b_state_of
  · exact b_want_bounds
  · exact b_musts
  · exact b_even
  · exact b_is_within
  · exact b_plan_between
  · exact b_plan
  · exact b_law_cell
  · exact b_law_pot
  · exact b_law_take
  · exact b_law_added
  · exact b_law_leads
  · exact b_law_goal
  · exact b_law_all
  · exact b_law
theorem hT : ∀ i e, ents[i]? = some e → tab i = some e.fn := fun i e h => by
  match i, h with
  | 0, h => cases h; rfl
  | 1, h => cases h; rfl
  | 2, h => cases h; rfl
  | 3, h => cases h; rfl
  | 4, h => cases h; rfl
  | 5, h => cases h; rfl
  | 6, h => cases h; rfl
  | 7, h => cases h; rfl
  | 8, h => cases h; rfl
  | 9, h => cases h; rfl
  | 10, h => cases h; rfl
  | 11, h => cases h; rfl
  | 12, h => cases h; rfl
  | 13, h => cases h; rfl
  | 14, h => cases h; rfl
  | 15, h => cases h; rfl
  | 16, h => cases h; rfl
  | 17, h => cases h; rfl
  | 18, h => cases h; rfl
  | n + 19, h => exact absurd h (by simp [ents, ents0])
theorem hE : HotP ents := ⟨trivial, ⟨trivial, ⟨trivial, ⟨trivial, ⟨trivial, ⟨trivial, ⟨trivial, ⟨trivial, ⟨trivial, ⟨trivial, ⟨trivial, ⟨trivial, ⟨trivial, ⟨trivial, ⟨trivial, ⟨trivial, ⟨trivial, ⟨trivial, ⟨trivial, trivial⟩⟩⟩⟩⟩⟩⟩⟩⟩⟩⟩⟩⟩⟩⟩⟩⟩⟩⟩
theorem look : ents.all (entB ents (cons.map (·.1)) free clss exs) = true := by decide +kernel
theorem holds (plain : ∀ ns : List Int, ns.length ≤ 63 → (∀ z ∈ ns, Builtin.Int.intBits z ≤ 1048576) → ∃ G', PK.call tab gl 20 [] 18 [.fz (ns.map .int)] [] = .ok (.bl true) G') : PySem.Challenge.rw_peakroll_k72_none_where_none.Holds := by
  w_on; o_law
  refine HandSHeadRun.head_any (r := PySem.W.OpenLaw.row PySem.Challenge.rw_peakroll_k72_none_where_none) (q := PySem.W.view (PySem.W.OpenLaw.row PySem.Challenge.rw_peakroll_k72_none_where_none).prog [28]) (H := hk) (ob := ob) (M := 12000) (loose := loose) (d := HandSHeadRun.topDef (PySem.W.OpenLaw.row PySem.Challenge.rw_peakroll_k72_none_where_none).prog 28) (kwd := []) ob_eq
    (by kernel_rfl) (fun s => by kernel_rfl) run (by kernel_rfl) (by kernel_rfl) (by kernel_rfl) (by rfl) (by first | assumption | decide +kernel) (by decide +kernel) ⟨rfl, rfl, rfl, rfl, rfl, by decide +kernel⟩ ?hw ?hc
  case hw => w_witness2
  case hc =>
    refine walk_G (l := PySem.Challenge.rw_peakroll_k72_none_where_none) (n := 63) (k := 2 * 20) (x := (PySem.Str.ofString "_law_script")) rfl (by decide) (by kernel_rfl) ⟨rfl, by decide, by decide⟩ ?F
    intro w mg fa h Y G hmg0
    obtain ⟨K, KX, c, hx⟩ := Y
    have hmg : mg (PySem.Str.ofString "law") = some (.ref fa) := by
      have e : (HandSHeadRun.topDef (PySem.W.OpenLaw.row PySem.Challenge.rw_peakroll_k72_none_where_none).prog 28).name = PySem.Str.ofString "law" := by kernel_rfl
      rw [← e]; exact hmg0
    exact law_of (e := e_law) (j := 18) (sx := PySem.Str.ofString "_law_script") hE hT look (by decide +kernel) (by decide +kernel) hB (by decide +kernel) rfl rfl rfl KX G c hx hmg plain
end Tk72
namespace PK
open PySem
section
variable {α β : Type}
@[simp] theorem zb_ok {v G f t} : (R.ok v G).bind f t = f v G := rfl
@[simp] theorem zb_exc {c G f t} : (R.exc c G).bind f t = .exc c G := rfl
@[simp] theorem zb_bad {f t} : R.bad.bind f t = .bad := rfl
@[simp] theorem zs_ok {s v G f t} : R.st s (R.ok v G) f t = f v G := rfl
@[simp] theorem zs_exc {s c G f t} : R.st s (R.exc c G) f t = .exc c s G := rfl
@[simp] theorem zs_bad {s f t} : R.st s R.bad f t = .bad := rfl
@[simp] theorem zt_nx {s G f t} : (O.nx s G).then f t = f s G := rfl
@[simp] theorem zt_ret {v G f t} : (O.ret v G).then f t = .ret v G := rfl
@[simp] theorem zt_brk {s G f t} : (O.brk s G).then f t = .brk s G := rfl
@[simp] theorem zt_cnt {s G f t} : (O.cnt s G).then f t = .cnt s G := rfl
@[simp] theorem zt_exc {c s G f t} : (O.exc c s G).then f t = .exc c s G := rfl
@[simp] theorem zt_bad {f t} : O.bad.then f t = .bad := rfl
@[simp] theorem zh_nx {s G} : (O.nx s G).thru = .nx s G := rfl
@[simp] theorem zh_ret {v G} : (O.ret v G).thru = .ret v G := rfl
@[simp] theorem zu_nx {s G f t} : (O.nx s G).turn f t = f s G := rfl
@[simp] theorem zu_cnt {s G f t} : (O.cnt s G).turn f t = f s G := rfl
@[simp] theorem zu_brk {s G f t} : (O.brk s G).turn f t = .nx s G := rfl
@[simp] theorem zu_ret {v G f t} : (O.ret v G).turn f t = .ret v G := rfl
@[simp] theorem zu_exc {c s G f t} : (O.exc c s G).turn f t = .exc c s G := rfl
@[simp] theorem zu_bad {f t} : O.bad.turn f t = .bad := rfl
@[simp] theorem zi_true {a b : Unit → α} {t u} : iteK true a b t u = a () := rfl
@[simp] theorem zi_false {a b : Unit → α} {t u} : iteK false a b t u = b () := rfl
@[simp] theorem zo_some {x : β} {f : β → α} {d t} : optK (some x) f d t = f x := rfl
@[simp] theorem zo_none {f : β → α} {d t} : optK none f d t = d := rfl
@[simp] theorem zp_tup {ds} {f : List D → α} {d t} : tupK (.tup ds) f d t = f ds := rfl
@[simp] theorem zl_bl {b} {f : Bool → α} {d t} : blK (.bl b) f d t = f b := rfl
@[simp] theorem zk_item {y f g t u} : stepK (.tup [y]) f g t u = f y := rfl
@[simp] theorem zk_none {f g t u} : stepK .non f g t u = g () := rfl
end
section
variable {cl : List Nat → Nat → List D → Hp → R} {gl : Nat → Option D} {m : List Nat} {s : Env} {G : Hp} {a b c i lo hi o : L} {l : Ls} {w : Bool}
@[simp] theorem ev_c {d} : eval cl gl m (.c d) s G = .ok d G := rfl
@[simp] theorem ev_v {i : Nat} : eval cl gl m (.v i) s G = optK (s[i]?.join) (fun d => .ok d G) .bad := rfl
@[simp] theorem ev_g {i : Nat} : eval cl gl m (.g i) s G = optK (gl i) (fun d => .ok d G) .bad := rfl
@[simp] theorem ev_bin {o} : eval cl gl m (.bin o w a b) s G = (eval cl gl m a s G).bind fun x G1 => (eval cl gl m b s G1).bind fun y G2 => binD o w x y G2 := rfl
@[simp] theorem ev_neg : eval cl gl m (.neg a) s G = (eval cl gl m a s G).bind fun x G1 => negD x G1 := rfl
@[simp] theorem ev_cmp {o} : eval cl gl m (.cmp o a b) s G = (eval cl gl m a s G).bind fun x G1 => (eval cl gl m b s G1).bind fun y G2 => cmpD o x y G2 := rfl
@[simp] theorem ev_chain {o o'} : eval cl gl m (.chain o o' a b c) s G = (eval cl gl m a s G).bind fun x G1 => (eval cl gl m b s G1).bind fun y G2 => (cmpD o x y G2).bind fun z G3 =>
    blK z (fun t => iteK t (fun _ => (eval cl gl m c s G3).bind fun u G4 => cmpD o' y u G4) fun _ => .ok (.bl false) G3) .bad := rfl
@[simp] theorem ev_and : eval cl gl m (.and_ a b) s G = (eval cl gl m a s G).bind fun x G1 => blK x (fun t => iteK t (fun _ => eval cl gl m b s G1) fun _ => .ok (.bl false) G1) .bad := rfl
@[simp] theorem ev_or : eval cl gl m (.or_ a b) s G = (eval cl gl m a s G).bind fun x G1 => blK x (fun t => iteK t (fun _ => .ok (.bl true) G1) fun _ => eval cl gl m b s G1) .bad := rfl
@[simp] theorem ev_not : eval cl gl m (.not_ a) s G = (eval cl gl m a s G).bind fun x G1 => blK x (fun t => .ok (.bl (!t)) G1) .bad := rfl
@[simp] theorem ev_ite : eval cl gl m (.ite c a b) s G = (eval cl gl m c s G).bind fun x G1 => blK x (fun t => iteK t (fun _ => eval cl gl m a s G1) fun _ => eval cl gl m b s G1) .bad := rfl
@[simp] theorem ev_tup : eval cl gl m (.tup l) s G = evals cl gl m l s G := rfl
@[simp] theorem ev_lst : eval cl gl m (.lst w l) s G = (evals cl gl m l s G).bind fun x G1 => tupK x (fun ds => mkl w ds G1) .bad := rfl
@[simp] theorem ev_ix : eval cl gl m (.ix a i) s G = (eval cl gl m a s G).bind fun x G1 => (eval cl gl m i s G1).bind fun y G2 => ixD x y G2 := rfl
@[simp] theorem ev_sl : eval cl gl m (.sl w a lo hi) s G = (eval cl gl m a s G).bind fun x G1 => (eval cl gl m lo s G1).bind fun l G2 => optK (partD l) (fun _ => (eval cl gl m hi s G2).bind fun h G3 => slD w x l h G3) .bad := rfl
@[simp] theorem ev_setlen : eval cl gl m (.setlen a) s G = (eval cl gl m a s G).bind fun x G1 => setlenD x G1 := rfl
@[simp] theorem ev_rev : eval cl gl m (.rev w a) s G = (eval cl gl m a s G).bind fun x G1 => revD w x G1 := rfl
@[simp] theorem ev_call {f} : eval cl gl m (.call f l) s G = (evals cl gl m l s G).bind fun x G1 => tupK x (fun ds => cl m f ds G1) .bad := rfl
@[simp] theorem ev_meth {f c} : eval cl gl m (.meth f c o l) s G = (eval cl gl m o s G).bind fun y G1 => iteK (decide (clsD G1 y = some c)) (fun _ => (evals cl gl m l s G1).bind fun x G2 => tupK x (fun ds => cl m f (y :: ds) G2) .bad) fun _ => .bad := rfl
@[simp] theorem ev_new {f c} : eval cl gl m (.new w c f l) s G = (evals cl gl m l s G).bind fun x G1 => tupK x (fun ds => (cl (if w then m else G1.length :: m) f (.ref G1.length :: ds) (G1 ++ [.ins c []])).bind fun r G2 => iteK (decide (r = .non)) (fun _ => madeD w G1.length G2) fun _ => .bad) .bad := rfl
@[simp] theorem ev_fld {c j} : eval cl gl m (.fld c j a) s G = (eval cl gl m a s G).bind fun x G1 => optK (fldD G1 c j x) (fun d => .ok d G1) .bad := rfl
@[simp] theorem ev_bi {b} : eval cl gl m (.bi b w l) s G = (evals cl gl m l s G).bind fun x G1 => tupK x (fun ds => biD b w ds G1) .bad := rfl
@[simp] theorem ev_mt {b} : eval cl gl m (.mt b w o l) s G = (eval cl gl m o s G).bind fun y G1 => iteK (mtOk b G1 y) (fun _ => (evals cl gl m l s G1).bind fun x G2 => tupK x (fun ds => mtD b w m y ds G2) .bad) fun _ => .bad := rfl
@[simp] theorem mo_app {i} : mtOk .append G (.ref i) = isLst G[i]? := rfl
@[simp] theorem mo_clr {i} : mtOk .clear G (.ref i) = isLst G[i]? := rfl
@[simp] theorem mo_ext {i} : mtOk .extend G (.ref i) = isLst G[i]? := rfl
@[simp] theorem mo_pop {i} : mtOk .pop0 G (.ref i) = isLst G[i]? := rfl
@[simp] theorem mo_popT {i} : mtOk .popT G (.ref i) = isDT G[i]? := rfl
@[simp] theorem mo_popK {i} : mtOk .popK G (.ref i) = isDK G[i]? := rfl
@[simp] theorem mo_setd {i} : mtOk .setd G (.ref i) = isDK G[i]? := rfl
@[simp] theorem mo_get1 {i} : mtOk .get1 G (.ref i) = isDG G[i]? := rfl
@[simp] theorem mo_get2 {i} : mtOk .get2 G (.ref i) = isDG G[i]? := rfl
@[simp] theorem mo_reverse {i} : mtOk .reverse G (.ref i) = isLst G[i]? := rfl
@[simp] theorem mo_pop1 {i} : mtOk .pop1 G (.ref i) = isLst G[i]? := rfl
@[simp] theorem mo_join {i} : mtOk .join G (.str i) = true := rfl
@[simp] theorem mo_split {i} : mtOk .split G (.str i) = true := rfl
@[simp] theorem mo_sw {i} : mtOk .startswith G (.str i) = true := rfl
@[simp] theorem il_lst {ds} : isLst (some (.lst ds)) = true := rfl
@[simp] theorem pt_int {i} : partD (.int i) = some (some i) := rfl
@[simp] theorem pt_exc {i} : partD (.exc i) = some none := rfl
@[simp] theorem ev_isi {ts} : eval cl gl m (.isi ts a) s G = (eval cl gl m a s G).bind fun x G1 => iteK (typed G1 x) (fun _ => .ok (.bl (ts.any (isTy G1 x))) G1) fun _ => .bad := rfl
@[simp] theorem ev_dlit {l} : eval cl gl m (.dlit l) s G = optK (pairsL l s) (fun ps => dlitD ps G) .bad := rfl
@[simp] theorem ev_dnew {t} : eval cl gl m (.dnew t) s G = .ok (.ref G.length) (G ++ [if t then .dT [] else .dK []]) := rfl
@[simp] theorem ev_skey {w f} : eval cl gl m (.skey w f a) s G = (eval cl gl m a s G).bind fun x G1 => optK (lstD G1 x) (fun ds => keysF (fun d G => cl m f [d] G) ds G1 [] fun is G2 => mkl w (sortKV is ds) G2) .bad := rfl
@[simp] theorem ev_key2 {mx f} : eval cl gl m (.key2 mx f a b) s G = (eval cl gl m a s G).bind fun x G1 => (eval cl gl m b s G1).bind fun y G2 => (cl m f [x] G2).safe.bind fun k G3 => (cl m f [y] G3).safe.bind fun l G4 =>
    optK (ltK mx k l) (fun t => .ok (if t then y else x) G4) .bad := rfl
@[simp] theorem ev_comp {k own pt one it} : eval cl gl m (.comp w k own pt one it a b) s G = (evals cl gl m it s G).bind fun x G1 => tupK x (fun ds => optK (itD k ds G1) (fun xg => iteK (szOk xg.1.length) (fun _ =>
      (compF (fun x G => optK (bindT pt one (wipes s own) x) (fun s' => (eval cl gl m a s' G).bind fun c G2 => blK c (fun t => iteK t (fun _ => (eval cl gl m b s' G2).bind fun y G3 => .ok (.tup [y]) G3) fun _ => .ok .non G2) .bad) .bad) xg.2 xg.1 G1 [] (mkl w)).safe) fun _ => .bad) .bad) .bad := rfl
@[simp] theorem ev_lock : eval cl gl m (.lock a b) s G = (eval cl gl m a s G).bind fun x G1 => lockK x G1 fun G2 => eval cl gl m b s G2 := rfl
@[simp] theorem ev_pick {i j k : Nat} : eval cl gl m (.pick i j k) s G = optK (s[k]?.join.bind pickX) (fun xs => .ok (.lst xs) G) .bad := rfl
@[simp] theorem ev_compx {k own pt one it} : eval cl gl m (.compx w k own pt one it a b) s G = (evals cl gl m it s G).bind fun x G1 => tupK x (fun ds => optK (itD k ds G1) (fun xg => iteK (szOk xg.1.length) (fun _ =>
      compF (fun x G => optK (bindT pt one (wipes s own) x) (fun s' => (eval cl gl m a s' G).bind fun c G2 => blK c (fun t => iteK t (fun _ => (eval cl gl m b s' G2).bind fun y G3 => .ok (.tup [y]) G3) fun _ => .ok .non G2) .bad) .bad) xg.2 xg.1 G1 [] (mkl w)) fun _ => .bad) .bad) .bad := rfl
@[simp] theorem es_nil : evals cl gl m .nil s G = .ok (.tup []) G := rfl
@[simp] theorem es_cons : evals cl gl m (.cons a l) s G = (eval cl gl m a s G).bind fun x G1 => (evals cl gl m l s G1).bind fun xs G2 => tupK xs (fun ds => .ok (.tup (x :: ds)) G2) .bad := rfl
variable {t : L} {A B : M} {v : D} {p : P}
@[simp] theorem pp_nm {i : Nat} : putP cl gl m (.nm i) v s G = .nx (seti s i v) G := rfl
@[simp] theorem pp_sb : putP cl gl m (.sb o i) v s G = R.st s (eval cl gl m o s G) fun x G1 => R.st s (eval cl gl m i s G1) fun y G2 => putV m x y v s G2 := rfl
@[simp] theorem pp_fld {c j} : putP cl gl m (.fld c j o) v s G = R.st s (eval cl gl m o s G) fun x G1 => putF m c j x v s G1 := rfl
@[simp] theorem pps_nil : putPs cl gl m [] [] s G = .nx s G := rfl
@[simp] theorem pps_cons {ps vs} : putPs cl gl m (p :: ps) (v :: vs) s G = (putP cl gl m p v s G).then fun s1 G1 => putPs cl gl m ps vs s1 G1 := rfl
@[simp] theorem ex_pass : exec cl gl m .pass s G = .nx s G := rfl
@[simp] theorem ex_seq : exec cl gl m (.seq A B) s G = (exec cl gl m A s G).then fun s1 G1 => exec cl gl m B s1 G1 := rfl
@[simp] theorem ex_ex : exec cl gl m (.ex a) s G = R.st s (eval cl gl m a s G) fun _ G1 => .nx s G1 := rfl
@[simp] theorem ex_set {i : Nat} : exec cl gl m (.set i a) s G = R.st s (eval cl gl m a s G) fun v G1 => .nx (seti s i v) G1 := rfl
@[simp] theorem ex_asg {ps} : exec cl gl m (.asg ps a) s G = R.st s (eval cl gl m a s G) fun v G1 => optK (seqD G1 v) (fun ds => iteK (decide (ds.length = ps.length)) (fun _ => putPs cl gl m ps ds s G1) fun _ => .bad) .bad := rfl
@[simp] theorem ex_put : exec cl gl m (.put p a) s G = R.st s (eval cl gl m a s G) fun v G1 => putP cl gl m p v s G1 := rfl
@[simp] theorem ex_par {is} : exec cl gl m (.par is l) s G = R.st s (evals cl gl m l s G) fun x G1 => tupK x (fun ds => iteK (decide (ds.length = is.length)) (fun _ => .nx (pars is ds s) G1) fun _ => .bad) .bad := rfl
@[simp] theorem ex_ite : exec cl gl m (.ite t A B) s G = R.st s (eval cl gl m t s G) fun c G1 => blK c (fun t => iteK t (fun _ => exec cl gl m A s G1) fun _ => exec cl gl m B s G1) .bad := rfl
@[simp] theorem ex_for {k pt one it} : exec cl gl m (.for k pt one it A) s G = R.st s (evals cl gl m it s G) fun x G1 => tupK x (fun ds => optK (itD k ds G1) (fun xg => forF pt one (fun s G => exec cl gl m A s G) xg.2 xg.1 s G1) .bad) .bad := rfl
@[simp] theorem ex_while {n} : exec cl gl m (.while n t A) s G = whlF (fun s G => eval cl gl m t s G) (fun s G => exec cl gl m A s G) n s G := rfl
@[simp] theorem ex_ret : exec cl gl m (.ret a) s G = R.st s (eval cl gl m a s G) fun v G1 => .ret v G1 := rfl
@[simp] theorem ex_retN : exec cl gl m .retN s G = .ret .non G := rfl
@[simp] theorem ex_raise {c} : exec cl gl m (.raise c) s G = .exc c s G := rfl
@[simp] theorem ex_brk : exec cl gl m .brk s G = .brk s G := rfl
@[simp] theorem ex_try : exec cl gl m (.try_ A) s G = (exec cl gl m A s G).thru := rfl
@[simp] theorem ex_tryx {ks c} : exec cl gl m (.tryx A ks c) s G = (exec cl gl m A s G).catch fun c1 s1 G1 => iteK (decide (c1 ∈ ks)) (fun _ => .exc c s1 G1) fun _ => .bad := rfl
@[simp] theorem ex_tryc {ks os n} {hh : Nat → M} : exec cl gl m (.tryc A ks os n hh) s G = (exec cl gl m A s G).catch fun c s1 G1 => iteK (decide (c ∈ ks)) (fun _ => (exec cl gl m (hh c) (wipeO n s1) G1).clr n) fun _ => iteK (decide (c ∈ os)) (fun _ => .exc c s1 G1) fun _ => .bad := rfl
@[simp] theorem safe_ok {v} : R.safe (.ok v G) = .ok v G := rfl
@[simp] theorem safe_bad : R.safe .bad = .bad := rfl
@[simp] theorem catch_exc {c f} {t : Tag f} : O.catch (.exc c s G) f t = f c s G := rfl
@[simp] theorem catch_nx {f} {t : Tag f} : O.catch (.nx s G) f t = .nx s G := rfl
@[simp] theorem catch_ret {v f} {t : Tag f} : O.catch (.ret v G) f t = .ret v G := rfl
@[simp] theorem clr_nx {n} : O.clr n (.nx s G) = .nx (wipeO n s) G := rfl
@[simp] theorem clr_ret {n v} : O.clr n (.ret v G) = .ret v G := rfl
@[simp] theorem wipe_none : wipeO none s = s := rfl
@[simp] theorem wipe_some {i} : wipeO (some i) s = s.set i none := rfl
@[simp] theorem ex_cnt : exec cl gl m .cnt s G = .cnt s G := rfl
end

section
variable {α : Type} {f : List D → α} {g : List (L2.Key × D) → α} {h : List (List L2.Key × D) → α} {k : Nat → List D → α} {d : α} {a b c e}
@[simp] theorem zc_l {ds} : cellK (some (.lst ds)) f g h k d a b c e = f ds := rfl
@[simp] theorem zc_k {ds} : cellK (some (.dK ds)) f g h k d a b c e = g ds := rfl
@[simp] theorem zc_t {ds} : cellK (some (.dT ds)) f g h k d a b c e = h ds := rfl
@[simp] theorem zc_i {n ds} : cellK (some (.ins n ds)) f g h k d a b c e = k n ds := rfl
end
section
variable {i j : Int} {G : Hp} {w : Bool} {x y : D} {ds es : List D} {p : Nat}
@[simp] theorem bd_add : binD .add w (.int i) (.int j) G = .ok (.int (i + j)) G := rfl
@[simp] theorem bd_sub : binD .sub w (.int i) (.int j) G = .ok (.int (i - j)) G := rfl
@[simp] theorem bd_mul : binD .mul w (.int i) (.int j) G = iteK (mulOk i j) (fun _ => .ok (.int (i * j)) G) fun _ => .bad := by simp only [binD]; cases mulOk i j <;> rfl
@[simp] theorem bd_div : binD .fdiv w (.int i) (.int j) G = iteK (divOk j) (fun _ => .ok (.int (i / j)) G) fun _ => .bad := by simp only [binD]; cases divOk j <;> rfl
@[simp] theorem bd_mod : binD .mod w (.int i) (.int j) G = iteK (decide (0 < j)) (fun _ => .ok (.int (i % j)) G) fun _ => .bad := by simp only [binD]; cases decide (0 < j) <;> rfl
@[simp] theorem bd_pow : binD .pow w (.int i) (.int j) G = iteK (decide (0 ≤ j ∧ j ≤ 1000 ∧ i.natAbs < 2 ^ 64)) (fun _ => .ok (.int (i ^ j.toNat)) G) fun _ => .bad := by simp only [binD]; cases decide (0 ≤ j ∧ j ≤ 1000 ∧ i.natAbs < 2 ^ 64) <;> rfl
@[simp] theorem bd_adds {a b : Str} : binD .add w (.str a) (.str b) G = iteK (szOk (a.length + b.length)) (fun _ => .ok (.str (a ++ b)) G) fun _ => .bad := by simp only [binD]; cases szOk (a.length + b.length) <;> rfl
@[simp] theorem bd_addt : binD .add w (.tup ds) (.tup es) G = iteK (szOk (ds.length + es.length)) (fun _ => .ok (.tup (ds ++ es)) G) fun _ => .bad := by simp only [binD]; cases szOk (ds.length + es.length) <;> rfl
@[simp] theorem bd_addl : binD .add w (.lst ds) (.lst es) G = iteK (szOk (ds.length + es.length)) (fun _ => mkl w (ds ++ es) G) fun _ => .bad := by simp only [binD, lstD]; cases szOk (ds.length + es.length) <;> rfl
@[simp] theorem ng_int : negD (.int i) G = .ok (.int (-i)) G := rfl
@[simp] theorem mk_t : mkl true ds G = .ok (.ref G.length) (G ++ [.lst ds]) := rfl
@[simp] theorem mk_f : mkl false ds G = .ok (.lst ds) G := rfl
@[simp] theorem cm_lt : cmpD .lt (.int i) (.int j) G = .ok (.bl (decide (i < j))) G := rfl
@[simp] theorem cm_le : cmpD .le (.int i) (.int j) G = .ok (.bl (decide (i ≤ j))) G := rfl
@[simp] theorem cm_gt : cmpD .gt (.int i) (.int j) G = .ok (.bl (decide (j < i))) G := rfl
@[simp] theorem cm_ge : cmpD .ge (.int i) (.int j) G = .ok (.bl (decide (j ≤ i))) G := rfl
@[simp] theorem cm_eq : cmpD .eq (.int i) (.int j) G = .ok (.bl (decide (i = j))) G := rfl
@[simp] theorem cm_ne : cmpD .ne (.int i) (.int j) G = .ok (.bl (!decide (i = j))) G := rfl
@[simp] theorem cm_eqs {a b : Str} : cmpD .eq (.str a) (.str b) G = .ok (.bl (decide (a = b))) G := rfl
@[simp] theorem cm_nes {a b : Str} : cmpD .ne (.str a) (.str b) G = .ok (.bl (!decide (a = b))) G := rfl
@[simp] theorem cm_lts {a b : Str} : cmpD .lt (.str a) (.str b) G = .ok (.bl (decide (a.cps.toList < b.cps.toList))) G := rfl
@[simp] theorem cm_is : cmpD .is_ x .non G = .ok (.bl (decide (x = .non))) G := rfl
@[simp] theorem cm_isnot : cmpD .isnot x .non G = .ok (.bl (!decide (x = .non))) G := rfl
@[simp] theorem ix_lst : ixD (.lst ds) (.int i) G = optK (L2.atI ds i) (fun d => .ok d G) .bad := by unfold ixD; simp only [seqD, ixL]; cases L2.atI ds i <;> rfl
@[simp] theorem ix_fz : ixD (.fz ds) (.int i) G = optK (L2.atI ds i) (fun d => .ok d G) .bad := by unfold ixD; simp only [seqD, ixL]; cases L2.atI ds i <;> rfl
@[simp] theorem ix_tup : ixD (.tup ds) (.int i) G = optK (L2.atI ds i) (fun d => .ok d G) .bad := by unfold ixD; simp only [seqD, ixL]; cases L2.atI ds i <;> rfl
def cellR {α : Type} (c : Option Cell) (f : List D → α) (g : List (L2.Key × D) → α) (d : α) (_a : Tag f := .mk) (_b : Tag g := .mk) : α := match c with
  | some (.lst ds) => f ds
  | some (.dK kvs) => g kvs
  | some (.frK kvs) => g kvs
  | some (.dT _) => d
  | some (.ins _ _) => d
  | none => d
section
variable {α : Type} {f : List D → α} {g : List (L2.Key × D) → α} {d : α} {a b}
@[simp] theorem zr_l {ds} : cellR (some (.lst ds)) f g d a b = f ds := rfl
@[simp] theorem zr_k {ds} : cellR (some (.dK ds)) f g d a b = g ds := rfl
@[simp] theorem zr_f {ds} : cellR (some (.frK ds)) f g d a b = g ds := rfl
@[simp] theorem zr_t {ds} : cellR (some (.dT ds)) f g d a b = d := rfl
@[simp] theorem zr_i {n ds} : cellR (some (.ins n ds)) f g d a b = d := rfl
end
@[simp] theorem ix_ref : ixD (.ref p) (.int i) G = cellR G[p]? (fun ds => optK (L2.atI ds i) (fun d => .ok d G) .bad) (fun kvs => optK (valD kvs (.inl i)) (fun d => .ok d G) .bad) .bad := by
  unfold ixD
  cases e : G[p]? with
  | none => simp [seqD, ixK, lookD, e, cellR]
  | some c => cases c with
    | lst ds => simp only [seqD, ixL, e, cellR]; cases L2.atI ds i <;> rfl
    | dK kvs => simp only [seqD, ixK, lookD, keyD, e, cellR, Option.map]; cases valD kvs (.inl i) <;> rfl
    | frK kvs => simp only [seqD, ixK, lookD, keyD, e, cellR, Option.map]; cases valD kvs (.inl i) <;> rfl
    | dT kvs => simp [seqD, ixK, lookD, e, cellR]
    | ins c ds => simp [seqD, ixK, lookD, e, cellR]
theorem at_nat (n : Nat) : L2.atI ds (n : Int) = ds[n]? := by
  unfold L2.atI L2.ixN
  rw [if_pos (by omega)]
  split
  · rfl
  · rw [List.getElem?_eq_none (by omega)]; rfl
@[simp] theorem at_0 : L2.atI ds 0 = ds[0]? := at_nat 0
@[simp] theorem at_1 : L2.atI ds 1 = ds[1]? := at_nat 1
@[simp] theorem at_2 : L2.atI ds 2 = ds[2]? := at_nat 2
@[simp] theorem at_3 : L2.atI ds 3 = ds[3]? := at_nat 3
@[simp] theorem at_4 : L2.atI ds 4 = ds[4]? := at_nat 4
@[simp] theorem at_5 : L2.atI ds 5 = ds[5]? := at_nat 5
@[simp] theorem at_6 : L2.atI ds 6 = ds[6]? := at_nat 6
@[simp] theorem at_7 : L2.atI ds 7 = ds[7]? := at_nat 7
@[simp] theorem at_8 : L2.atI ds 8 = ds[8]? := at_nat 8
@[simp] theorem at_9 : L2.atI ds 9 = ds[9]? := at_nat 9
@[simp] theorem at_10 : L2.atI ds 10 = ds[10]? := at_nat 10
@[simp] theorem at_11 : L2.atI ds 11 = ds[11]? := at_nat 11
@[simp] theorem at_neg1 : L2.atI ds (-1) = ds.getLast? := by
  unfold L2.atI L2.ixN
  rw [if_neg (by decide), List.getLast?_eq_getElem?]
  split
  · show ds[(-1 + (ds.length : Int)).toNat]? = _
    congr 1
    omega
  · rw [List.getElem?_eq_none (by omega)]; rfl
@[simp] theorem bi_abs : biD .abs w [.int i] G = .ok (.int (if i < 0 then -i else i)) G := rfl
@[simp] theorem bi_len : biD .len w [x] G = optK (lenD G x) (fun n => .ok (.int n) G) .bad := by show (match lenD G x with | some n => R.ok (.int n) G | none => .bad) = _; cases lenD G x <;> rfl
@[simp] theorem bi_int : biD .int w [.int i] G = .ok (.int i) G := rfl
@[simp] theorem bi_intb {k} : biD .int w [.bl k] G = .ok (.int (if k then 1 else 0)) G := rfl
@[simp] theorem bi_str : biD .str w [.int i] G = iteK (strOkI i) (fun _ => .ok (.str (nstr i)) G) fun _ => .bad := by
  show (if strOkI i = true then R.ok (.str (nstr i)) G else .bad) = _
  cases strOkI i <;> rfl
@[simp] theorem bi_repr : biD .repr w [x] G = reprD G x := rfl
@[simp] theorem bi_min2 : biD .min2 w [.int i, .int j] G = .ok (.int (if j < i then j else i)) G := rfl
@[simp] theorem bi_max2 : biD .max2 w [.int i, .int j] G = .ok (.int (if j > i then j else i)) G := rfl
@[simp] theorem bi_divmod : biD .divmod w [.int i, .int j] G = iteK (divOk j) (fun _ => .ok (.tup [.int (i / j), .int (i % j)]) G) fun _ => .bad := by
  show (if divOk j = true then R.ok (.tup [.int (i / j), .int (i % j)]) G else .bad) = _
  cases divOk j <;> rfl
@[simp] theorem bi_tuple : biD .tuple w [x] G = optK (seqD G x) (fun ds => .ok (.tup ds) G) .bad := by show (match seqD G x with | some ds => R.ok (.tup ds) G | none => .bad) = _; cases seqD G x <;> rfl
@[simp] theorem bi_list : biD .list w [x] G = optK (seqD G x) (fun ds => mkl w ds G) .bad := by show (match seqD G x with | some ds => mkl w ds G | none => .bad) = _; cases seqD G x <;> rfl
@[simp] theorem ln_lst : lenD G (.lst ds) = some ds.length := rfl
@[simp] theorem ln_fz : lenD G (.fz ds) = some ds.length := rfl
@[simp] theorem ln_tup : lenD G (.tup ds) = some ds.length := rfl
@[simp] theorem ln_ref : lenD G (.ref p) = cellK G[p]? (fun ds => some ds.length) (fun ds => some ds.length) (fun ds => some ds.length) (fun _ _ => none) none := by
  unfold lenD
  cases e : G[p]? with
  | none => simp [e, cellK]
  | some c => cases c <;> simp [e, cellK]
@[simp] theorem sq_lst : seqD G (.lst ds) = some ds := rfl
@[simp] theorem sq_fz : seqD G (.fz ds) = some ds := rfl
@[simp] theorem sq_tup : seqD G (.tup ds) = some ds := rfl
@[simp] theorem sq_ref : seqD G (.ref p) = cellK G[p]? (fun ds => some ds) (fun _ => none) (fun _ => none) (fun _ _ => none) none := by
  unfold seqD
  cases e : G[p]? with
  | none => simp [e, cellK]
  | some c => cases c <;> simp [e, cellK]
@[simp] theorem pv_ref {m s y v} : putV m (.ref p) y v s G = cellK G[p]? (fun ds => putL p m ds y v s G) (fun ds => putDK p m ds y v s G) (fun ds => putDT p m ds y v s G) (fun _ _ => .bad) .bad := rfl
@[simp] theorem pl_int {m s v} : putL p m ds (.int i) v s G = optK (L2.ixN ds.length i) (fun j => iteK (wok p m v) (fun _ => .nx s (G.set p (.lst (ds.set j v)))) fun _ => .bad) .bad := by
  simp only [putL]; cases L2.ixN ds.length i <;> first | rfl | (cases wok p m v <;> rfl)
@[simp] theorem ixn_0 {n : Nat} : L2.ixN (n + 1) 0 = some 0 := by simp [L2.ixN] <;> omega
@[simp] theorem ixn_1 {n : Nat} : L2.ixN (n + 2) 1 = some 1 := by simp [L2.ixN] <;> omega
@[simp] theorem ixn_2 {n : Nat} : L2.ixN (n + 3) 2 = some 2 := by simp [L2.ixN] <;> omega
@[simp] theorem ixn_3 {n : Nat} : L2.ixN (n + 4) 3 = some 3 := by simp [L2.ixN] <;> omega
@[simp] theorem ixn_4 {n : Nat} : L2.ixN (n + 5) 4 = some 4 := by simp [L2.ixN] <;> omega
@[simp] theorem ixn_5 {n : Nat} : L2.ixN (n + 6) 5 = some 5 := by simp [L2.ixN] <;> omega
@[simp] theorem ixn_6 {n : Nat} : L2.ixN (n + 7) 6 = some 6 := by simp [L2.ixN] <;> omega
@[simp] theorem ixn_7 {n : Nat} : L2.ixN (n + 8) 7 = some 7 := by simp [L2.ixN] <;> omega
@[simp] theorem wk_int {m} : wok p m (.int i) = true := by simp [wok, below]
@[simp] theorem wk_str {m a} : wok p m (.str a) = true := by simp [wok, below]
@[simp] theorem wk_non {m} : wok p m .non = true := by simp [wok, below]
@[simp] theorem wk_bl {m b} : wok p m (.bl b) = true := by simp [wok, below]
@[simp] theorem be_int {m} : below m (.int i) = true := rfl
@[simp] theorem be_str {m a} : below m (.str a) = true := rfl
@[simp] theorem be_non {m} : below m .non = true := rfl
@[simp] theorem be_bl {m b} : below m (.bl b) = true := rfl
@[simp] theorem be_tup {m} : below m (.tup ds) = belows m ds := rfl
@[simp] theorem be_lst {m} : below m (.lst ds) = belows m ds := rfl
@[simp] theorem be_fz {m} : below m (.fz ds) = belows m ds := rfl
@[simp] theorem be_ref {m} : below m (.ref p) = decide (p < m) := rfl
@[simp] theorem bs_nil {m} : belows m [] = true := rfl
@[simp] theorem bs_cons {m} : belows m (x :: ds) = (below m x && belows m ds) := rfl
theorem belows_map {α : Type} {f : α → D} {m : Nat} (h : ∀ a, below m (f a) = true) : ∀ l : List α, belows m (l.map f) = true
  | [] => rfl
  | a :: l => by rw [List.map_cons, bs_cons, h a, belows_map h l]; rfl
@[simp] theorem fr_tnf {m x} : fin true false m (.ret x G) = if below m x then .ok x (G.take m) else .ok x G := rfl
@[simp] theorem fr_ttf {m x} : fin true true m (.ret x G) = if below m (frzD G m x) then .ok (frzD G m x) (G.take m) else .ok x G := rfl
@[simp] theorem fr_fnf {m x} : fin false false m (.ret x G) = .ok x G := rfl
@[simp] theorem fr_ftf {m x} : fin false true m (.ret x G) = .ok x G := rfl
@[simp] theorem fr_tnx {m b s} : fin true b m (.nx s G) = .ok .non (G.take m) := by cases b <;> rfl
@[simp] theorem fr_fnx {m b s} : fin false b m (.nx s G) = .ok .non G := by cases b <;> rfl
@[simp] theorem fr_texc {m b c s} : fin true b m (.exc c s G) = .exc c (G.take m) := rfl
@[simp] theorem fr_fexc {m b c s} : fin false b m (.exc c s G) = .exc c G := rfl
@[simp] theorem fz_int {m} : frzD G m (.int i) = .int i := rfl
@[simp] theorem fz_str {m a} : frzD G m (.str a) = .str a := rfl
@[simp] theorem fz_non {m} : frzD G m .non = .non := rfl
@[simp] theorem fz_bl {m b} : frzD G m (.bl b) = .bl b := rfl
@[simp] theorem fz_tup {m} : frzD G m (.tup ds) = .tup ds := rfl
@[simp] theorem fz_lst {m} : frzD G m (.lst ds) = .lst ds := rfl
@[simp] theorem seti_eq {s i v} : seti s i v = s.set i (some v) := rfl
@[simp] theorem bt_one {i s} : bindT [i] true s x = some (seti s i x) := rfl
@[simp] theorem still_n : still G none = true := rfl
end
theorem run_t {cl : List Nat → Nat → List D → Hp → R} {gl : Nat → Option D} {m : List Nat} {np ns : Nat} {frz : Bool} {body : M} {args : List D} {G : Hp} (h : args.length = np) :
    run cl gl m ⟨np, ns, true, frz, body⟩ args G = fin true frz G.length (exec cl gl (G.length :: m) body (args.map some ++ List.replicate (ns - np) none) G) := by
  unfold run
  rw [if_pos h]
  rfl
theorem hp_lt {G : Hp} {p : Nat} {c : Cell} (h : G[p]? = some c) : p < G.length := (List.getElem?_eq_some_iff.mp h).1
@[simp] theorem hp_take_set {G : Hp} {p : Nat} {c : Cell} : (G.set p c).take G.length = G.set p c := List.take_of_length_le (by simp)
end PK
namespace PK
open PySem
section
variable {G : Hp} {w : Bool} {x y : D} {ds es : List D} {m : List Nat} {a b : Str} {i j : Int} {p : Nat}
@[simp] theorem it_r1 : itD .range1 [.int i] G = if decide (-(2 ^ 62) ≤ i ∧ i < 2 ^ 62) then some (rangeD 0 i.toNat, none) else none := rfl
@[simp] theorem it_r2 : itD .range2 [.int i, .int j] G = if decide (-(2 ^ 62) ≤ i ∧ i < 2 ^ 62 ∧ -(2 ^ 62) ≤ j ∧ j < 2 ^ 62) then some (rangeD i (j - i).toNat, none) else some (rangeD i (j - i).toNat, none) := rfl
@[simp] theorem it_r3 {k : Int} : itD .range3 [.int i, .int j, .int k] G = if decide (-(2 ^ 62) ≤ i ∧ i < 2 ^ 62 ∧ -(2 ^ 62) ≤ j ∧ j < 2 ^ 62 ∧ k = -1) then some (downD i (i - j).toNat, none) else none := rfl
@[simp] theorem it_str : itD .val [.str a] G = some (signs a, none) := rfl
@[simp] theorem it_lst : itD .val [.lst ds] G = some (ds, none) := rfl
@[simp] theorem it_fz : itD .val [.fz ds] G = some (ds, none) := rfl
@[simp] theorem it_tup : itD .val [.tup ds] G = some (ds, none) := rfl
@[simp] theorem it_el : itD .enum [.lst ds] G = some (enumD 0 ds, none) := rfl
@[simp] theorem it_et : itD .enum [.tup ds] G = some (enumD 0 ds, none) := rfl
@[simp] theorem it_ef : itD .enum [.fz ds] G = some (enumD 0 ds, none) := rfl
theorem it_ref (h : G[p]? = some (.lst ds)) : itD .val [.ref p] G = some (ds, some (p, .lst ds)) := by
  simp [itD, h]
theorem it_eref (h : G[p]? = some (.lst ds)) : itD .enum [.ref p] G = some (enumD 0 ds, some (p, .lst ds)) := by
  show (match G[p]? with | some (.lst ds) => some (enumD 0 ds, some (p, Cell.lst ds)) | _ => none) = _
  rw [h]
@[simp] theorem ix_strI : ixD (.str a) (.int i) G = iteK (szOk a.length) (fun _ => optK (L2.atI a.cps.toList i) (fun c => .ok (.str ⟨#[c]⟩) G) .bad) fun _ => .bad := by
  show (if szOk a.length = true then (match L2.atI a.cps.toList i with | some c => R.ok (.str ⟨#[c]⟩) G | none => .bad) else .bad) = _
  cases szOk a.length
  · rfl
  · show (match L2.atI a.cps.toList i with | some c => R.ok (.str ⟨#[c]⟩) G | none => .bad) = _
    cases L2.atI a.cps.toList i <;> rfl
@[simp] theorem mt_joinL : mtD .join w m (.str a) [x] G = optK ((seqD G x).bind strsD) (fun ys => iteK (decide ((ys.map Str.length).sum + ys.length * a.length ≤ 1000000)) (fun _ => .ok (.str (Txt.join a ys)) G) fun _ => .bad) .bad := by
  show (match (seqD G x).bind strsD with | some ys => if decide ((ys.map Str.length).sum + ys.length * a.length ≤ 1000000) = true then R.ok (.str (Txt.join a ys)) G else .bad | none => .bad) = _
  cases (seqD G x).bind strsD with
  | none => rfl
  | some ys =>
    rw [optK_some]
    dsimp only
    cases decide ((ys.map Str.length).sum + ys.length * a.length ≤ 1000000) <;> rfl
@[simp] theorem mt_splitS : mtD .split w m (.str a) [.str b] G = iteK (decide (b.length ≠ 0 ∧ a.length ≤ 1000000)) (fun _ => mkl w ((Txt.split a b).map .str) G) fun _ => .bad := by
  show (if decide (b.length ≠ 0 ∧ a.length ≤ 1000000) = true then mkl w ((Txt.split a b).map .str) G else .bad) = _
  cases decide (b.length ≠ 0 ∧ a.length ≤ 1000000) <;> rfl
@[simp] theorem mt_sw : mtD .startswith w m (.str a) [.str b] G = .ok (.bl (Txt.startswith a b)) G := rfl
end
end PK
namespace PK
open PySem
theorem small_pow {n : Int} (h : n ≤ 4000000000000000000000000000000) : n < 2 ^ 1000 := by
  refine Int.lt_of_le_of_lt h ?_
  have e : ((2 : Int) ^ 1000) = ((2 ^ 1000 : Nat) : Int) := (Int.natCast_pow 2 1000).symm
  rw [e]
  exact Int.ofNat_lt.mpr (by decide : 4000000000000000000000000000000 < 2 ^ 1000)
theorem mul_ok {i j : Int} (hi : i.natAbs ≤ 4000000000000000000000000000000) (hj : j.natAbs ≤ 4000000000000000000000000000000) : mulOk i j = true :=
  decide_eq_true (.inl ⟨Nat.lt_of_le_of_lt hi (by decide : 4000000000000000000000000000000 < 2 ^ 1000), Nat.lt_of_le_of_lt hj (by decide : 4000000000000000000000000000000 < 2 ^ 1000)⟩)
def PotOk (b : Int) : Prop := 0 ≤ b ∧ b < 2147483648
def potC (a b : Int) : Cell := .lst [.int a, .int b]
def PotAt (G : Hp) (p : Nat) : Prop := ∃ a b, G[p]? = some (potC a b) ∧ PotOk b
def Drawn (r : R) (G : Hp) (p : Nat) (ok : D → Prop) : Prop := ∃ v a b, r = .ok v (G.set p (potC a b)) ∧ PotOk b ∧ ok v
section
variable {cl : List Nat → Nat → List D → Hp → R} {gl : Nat → Option D} {ms : List Nat} {p : Nat} {n : Int} {G : Hp}
theorem PotAt.lt (h : PotAt G p) : p < G.length := by obtain ⟨a, b, h, _⟩ := h; exact hp_lt h
theorem PotAt.set (h : PotAt G p) {a b : Int} (hb : PotOk b) : PotAt (G.set p (potC a b)) p := ⟨a, b, by simp [h.lt], hb⟩
def fTake : Fn := ⟨2, 3, true, true, (.seq (.ite (.cmp .gt (.ix (.v 0) (.c (.int 0))) (.c (.int 0))) (.seq (.asg [(.sb (.v 0) (.c (.int 0))), (.nm 2)] (.bi .divmod false (.cons (.ix (.v 0) (.c (.int 0))) (.cons (.v 1) .nil))))
  (.ret (.v 2)))
  .pass)
  (.seq (.put (.sb (.v 0) (.c (.int 1))) (.bin .mod false (.bin .add false (.bin .mul false (.ix (.v 0) (.c (.int 1))) (.c (.int 39373))) (.c (.int 7919))) (.c (.int 2147483629))))
  (.ret (.bin .mod false (.bin .fdiv false (.bin .mod false (.bin .mul false (.ix (.v 0) (.c (.int 1))) (.ix (.v 0) (.c (.int 1)))) (.c (.int 2147483563))) (.c (.int 11))) (.v 1)))))⟩
theorem take_run (h : PotAt G p) (hm : 0 < n) (hm2 : n < 2 ^ 1000) : Drawn (run cl gl ms fTake [.ref p, .int n] G) G p (fun v => ∃ t : Int, v = .int t ∧ 0 ≤ t ∧ t < n) := by
  obtain ⟨a, b, h, hb⟩ := h
  have h : G[p]? = some (.lst [.int a, .int b]) := h
  have hp : p < G.length := hp_lt h
  have e1 : mulOk b 39373 = true := decide_eq_true (.inr (by decide))
  have e2 : mulOk ((b * 39373 + 7919) % 2147483629) ((b * 39373 + 7919) % 2147483629) = true := decide_eq_true (.inr (by omega))
  have e3 : divOk n = true := decide_eq_true ⟨hm, hm2⟩
  have e4 : divOk 11 = true := by decide
  have hs : ∀ c, (G.set p c)[p]? = some c := fun c => by simp [hp]
  unfold fTake
  rw [run_t (by rfl)]
  by_cases ha : 0 < a
  · exact ⟨.int (a % n), a / n, b, by simp -dsimp [h, hs, e3, ha, potC], hb, _, rfl, Int.emod_nonneg _ (by omega), Int.emod_lt_of_pos _ hm⟩
  · exact ⟨.int ((b * 39373 + 7919) % 2147483629 * ((b * 39373 + 7919) % 2147483629) % 2147483563 / 11 % n), a, (b * 39373 + 7919) % 2147483629, by simp -dsimp [h, hs, e1, e2, e3, e4, ha, hm, potC],
      ⟨by omega, by omega⟩, _, rfl, Int.emod_nonneg _ (by omega), Int.emod_lt_of_pos _ hm⟩
def CallsR (cl : List Nat → Nat → List D → Hp → R) (i : Nat) (gl : Nat → Option D) (f : Fn) : Prop := ∃ cl', ∀ ms xs G, cl ms i xs G = run cl' gl ms f xs G
theorem take_call {i : Nat} (T : CallsR cl i gl fTake) (h : PotAt G p) (hm : 0 < n) (hm2 : n < 2 ^ 1000) : Drawn (cl ms i [.ref p, .int n] G) G p (fun v => ∃ t : Int, v = .int t ∧ 0 ≤ t ∧ t < n) := by
  obtain ⟨cl', T⟩ := T
  rw [T]; exact take_run h hm hm2
def fCell : Fn := ⟨2, 2, true, true, (.seq (.ite (.cmp .lt (.v 1) (.bi .len false (.cons (.v 0) .nil))) (.ret (.ix (.v 0) (.v 1)))
  .pass)
  (.ret (.c (.int 0))))⟩
theorem cell_run (ns : List Int) (k : Nat) : ∃ z : Int, (z = 0 ∨ z ∈ ns) ∧ run cl gl ms fCell [.fz (ns.map .int), .int (k : Nat)] G = .ok (.int z) G := by
  unfold fCell
  rw [run_t (by rfl)]
  by_cases c : k < ns.length
  · refine ⟨ns[k], .inr (List.getElem_mem c), ?_⟩
    have e : L2.atI (ns.map D.int) (k : Int) = some (.int ns[k]) := by rw [at_nat]; simp [c]
    simp -dsimp [e, c]
  · exact ⟨0, .inl rfl, by simp -dsimp [c]⟩
theorem cell_call {i : Nat} (T : CallsR cl i gl fCell) (ns : List Int) (k : Nat) : ∃ z : Int, (z = 0 ∨ z ∈ ns) ∧ cl ms i [.fz (ns.map .int), .int (k : Nat)] G = .ok (.int z) G := by
  obtain ⟨cl', T⟩ := T
  rw [T]; exact cell_run ns k
def fPot (n18 big : Int) : Fn := ⟨1, 1, true, false, (.ret (.lst true (.cons (.bi .max2 false (.cons (.c (.int 0)) (.cons (.bin .sub false (.bi .abs false (.cons (.v 0) .nil)) (.bin .pow false (.c (.int 10)) (.c (.int n18)))) .nil))) (.cons (.bin .add false (.bin .mod false (.bi .abs false (.cons (.v 0) .nil)) (.c (.int big))) (.c (.int 1))) .nil))))⟩
theorem pot_run (z : Int) : ∃ a b, PotOk b ∧ run cl gl ms (fPot 18 2147483563) [.int z] G = .ok (.ref G.length) (G ++ [potC a b]) := by
  unfold fPot
  rw [run_t (by rfl)]
  refine ⟨if (if z < 0 then -z else z) - 10 ^ 18 > 0 then (if z < 0 then -z else z) - 10 ^ 18 else 0, (if z < 0 then -z else z) % 2147483563 + 1, ⟨by omega, by omega⟩, ?_⟩
  simp -dsimp [potC]
theorem pot_call {i : Nat} (T : CallsR cl i gl (fPot 18 2147483563)) (z : Int) : ∃ a b, PotOk b ∧ cl ms i [.int z] G = .ok (.ref G.length) (G ++ [potC a b]) := by
  obtain ⟨cl', T⟩ := T
  rw [T]; exact pot_run z
theorem Drawn.again {r : R} {c : Cell} {ok : D → Prop} (h : Drawn r (G.set p c) p ok) : Drawn r G p ok := by
  obtain ⟨v, a, b, h1, h2, h3⟩ := h
  exact ⟨v, a, b, by rw [h1, List.set_set], h2, h3⟩
def Wide (v : D) : Prop := ∃ w : Int, v = .int w ∧ -1000000000000000000000000000000 < w ∧ w < 1000000000000000000000000000000
end
end PK
namespace PK
open PySem
theorem safe_mkl {w : Bool} {ds : List D} {G : Hp} : (mkl w ds G).safe = mkl w ds G := by cases w <;> rfl
theorem comp_on {α : Type} {step : D → Hp → R} {k : List D → Hp → R} {g f : α → D} {G : Hp} : ∀ (l : List α) (acc : List D), (∀ a ∈ l, step (g a) G = .ok (.tup [f a]) G) → compF step none (l.map g) G acc k = k (acc ++ l.map f) G
  | [], acc, _ => by rw [List.map_nil, List.map_nil, List.append_nil]; rfl
  | a :: l, acc, h => by
    show (step (g a) G).bind _ = _
    rw [h a List.mem_cons_self]
    show compF step none (l.map g) G (acc ++ [f a]) k = _
    rw [comp_on l (acc ++ [f a]) fun y hy => h y (List.mem_cons_of_mem _ hy), List.append_assoc]; rfl
theorem comp_pure_on {α : Type} {cl : List Nat → Nat → List D → Hp → R} {gl : Nat → Option D} {m : List Nat} {s : Env} {G : Hp} {it : Ls} {own pt : List Nat} {one w : Bool} {k : Ik} {elt : L} {ds : List D} {g f : α → D} (l : List α) (he : evals cl gl m it s G = .ok (.tup ds) G) (hi : itD k ds G = some (l.map g, none)) (hz : l.length ≤ 1000000)
    (h : ∀ a ∈ l, ∃ s', bindT pt one (wipes s own) (g a) = some s' ∧ eval cl gl m elt s' G = .ok (f a) G) : eval cl gl m (.comp w k own pt one it (.c (.bl true)) elt) s G = mkl w (l.map f) G := by
  have hz : szOk (l.map g).length = true := decide_eq_true (by simpa using hz)
  rw [ev_comp, he, R.bind_ok, tupK_tup, hi, optK_some, hz, iteK_true]
  rw [comp_on (f := f) l [] fun a ha => ?_]
  · rw [List.nil_append, safe_mkl]
  · obtain ⟨s', h1, h2⟩ := h a ha
    rw [h1, optK_some, ev_c, R.bind_ok, blK_bl, iteK_true, h2, R.bind_ok]
end PK
namespace PK
open PySem
theorem blsD_map {α : Type} (f : α → Bool) : ∀ l : List α, blsD (l.map fun x => .bl (f x)) = some (l.map f)
  | [] => rfl
  | x :: l => by show (blsD (l.map fun x => .bl (f x))).map _ = _; rw [blsD_map f l]; rfl
section
variable {cl : List Nat → Nat → List D → Hp → R} {gl : Nat → Option D} {ms : List Nat} {G : Hp}
end
end PK
namespace PK
namespace Pl
structure S4 where
  c : Int
  t : Int
  l : Int
  g : Int
deriving DecidableEq
abbrev S := Option S4
def cnt : S → Int
  | none => 0
  | some s => s.c
def tot : S → Int
  | none => 0
  | some s => s.t
def add1 : S → Int → S4
  | none, v => ⟨1, v, v, v⟩
  | some s, v => ⟨s.c + 1, s.t + v, if v < s.l then v else s.l, if v > s.g then v else s.g⟩
def added (s : S) (vs : List Int) : S := vs.foldl (fun s v => some (add1 s v)) s
structure Spec (s : S) (vs : List Int) (r : S4) : Prop where
  c : r.c = cnt s + vs.length
  t : r.t = tot s + vs.sum
  lo : ∀ v ∈ vs, r.l ≤ v ∧ v ≤ r.g
  st : ∀ q, s = some q → r.l ≤ q.l ∧ q.g ≤ r.g
  hl : r.l ∈ vs ∨ ∃ q, s = some q ∧ r.l = q.l
  hg : r.g ∈ vs ∨ ∃ q, s = some q ∧ r.g = q.g
theorem spec_of : ∀ (vs : List Int) (s : S), vs ≠ [] ∨ s ≠ none → ∃ r, added s vs = some r ∧ Spec s vs r
  | [], none, h => by rcases h with h | h <;> exact absurd rfl h
  | [], some q, _ => ⟨q, rfl, by simp [cnt], by simp [tot], (fun v h => by cases h), (fun q' h => by cases h; exact ⟨Int.le_refl _, Int.le_refl _⟩), .inr ⟨q, rfl, rfl⟩, .inr ⟨q, rfl, rfl⟩⟩
  | v :: vs, s, _ => by
    obtain ⟨r, e, p⟩ := spec_of vs (some (add1 s v)) (.inr (by simp))
    have st := p.st _ rfl
    have pc := p.c
    have pt := p.t
    have k : cnt (some (add1 s v)) = cnt s + 1 ∧ tot (some (add1 s v)) = tot s + v ∧ (add1 s v).l ≤ v ∧ v ≤ (add1 s v).g ∧ (∀ q, s = some q → (add1 s v).l ≤ q.l ∧ q.g ≤ (add1 s v).g) ∧
        ((add1 s v).l = v ∨ ∃ q, s = some q ∧ (add1 s v).l = q.l) ∧ ((add1 s v).g = v ∨ ∃ q, s = some q ∧ (add1 s v).g = q.g) := by
      cases s with
      | none => exact ⟨by simp [cnt, add1], by simp [tot, add1], Int.le_refl _, Int.le_refl _, (fun q h => by cases h), .inl rfl, .inl rfl⟩
      | some q =>
        refine ⟨rfl, rfl, ?_, ?_, fun q' h => ?_, ?_, ?_⟩
        · show (if v < q.l then v else q.l) ≤ v; split <;> omega
        · show v ≤ (if v > q.g then v else q.g); split <;> omega
        · cases h
          refine ⟨?_, ?_⟩
          · show (if v < q.l then v else q.l) ≤ q.l; split <;> omega
          · show q.g ≤ (if v > q.g then v else q.g); split <;> omega
        · show (if v < q.l then v else q.l) = v ∨ ∃ q', some q = some q' ∧ (if v < q.l then v else q.l) = q'.l
          by_cases c : v < q.l
          · rw [if_pos c]; exact .inl rfl
          · rw [if_neg c]; exact .inr ⟨q, rfl, rfl⟩
        · show (if v > q.g then v else q.g) = v ∨ ∃ q', some q = some q' ∧ (if v > q.g then v else q.g) = q'.g
          by_cases c : v > q.g
          · rw [if_pos c]; exact .inl rfl
          · rw [if_neg c]; exact .inr ⟨q, rfl, rfl⟩
    obtain ⟨k1, k2, k3, k4, k5, k6, k7⟩ := k
    refine ⟨r, e, ?_, ?_, fun u hu => ?_, fun q hq => ?_, ?_, ?_⟩
    · rw [pc, k1, List.length_cons]; omega
    · rw [pt, k2, List.sum_cons]; omega
    · rcases List.mem_cons.mp hu with rfl | hu
      · exact ⟨by omega, by omega⟩
      · exact p.lo u hu
    · have := k5 q hq; exact ⟨by omega, by omega⟩
    · rcases p.hl with h | ⟨q, hq, h⟩
      · exact .inl (List.mem_cons_of_mem _ h)
      · cases hq
        rcases k6 with h2 | ⟨q, hq, h2⟩
        · exact .inl (by rw [h, h2]; exact List.mem_cons_self)
        · exact .inr ⟨q, hq, by rw [h, h2]⟩
    · rcases p.hg with h | ⟨q, hq, h⟩
      · exact .inl (List.mem_cons_of_mem _ h)
      · cases hq
        rcases k7 with h2 | ⟨q, hq, h2⟩
        · exact .inl (by rw [h, h2]; exact List.mem_cons_self)
        · exact .inr ⟨q, hq, by rw [h, h2]⟩
structure Val (s : S4) : Prop where
  c : 1 ≤ s.c
  lg : s.l ≤ s.g
  t1 : s.l * (s.c - 1) + s.g ≤ s.t
  t2 : s.t ≤ s.g * (s.c - 1) + s.l
  l1 : -1000000000000000000000000000000 < s.l
  g1 : s.g < 1000000000000000000000000000000
def ValO (s : S) : Prop := ∀ q, s = some q → Val q
theorem val_add {s : S} (h : ValO s) {v : Int} (h1 : -1000000000000000000000000000000 < v) (h2 : v < 1000000000000000000000000000000) : Val (add1 s v) := by
  cases s with
  | none => exact ⟨Int.le_refl _, Int.le_refl _, by simp [add1], by simp [add1], h1, h2⟩
  | some q =>
    have p := h q rfl
    have p1 := p.t1
    have p2 := p.t2
    have pc := p.c
    have plg := p.lg
    have el : ∀ x : Int, x * (q.c + 1 - 1) = x * (q.c - 1) + x := fun x => by
      rw [show q.c + 1 - 1 = (q.c - 1) + 1 by omega, Int.mul_add, Int.mul_one]
    have m : ∀ {x y : Int}, x ≤ y → x * (q.c - 1) ≤ y * (q.c - 1) := fun h => Int.mul_le_mul_of_nonneg_right h (by omega)
    by_cases c1 : v < q.l
    · have c2 : ¬ v > q.g := by omega
      have e : add1 (some q) v = ⟨q.c + 1, q.t + v, v, q.g⟩ := by simp only [add1, if_pos c1, if_neg c2]
      rw [e]
      have := m (Int.le_of_lt c1)
      refine ⟨by show 1 ≤ q.c + 1; omega, by show v ≤ q.g; omega, ?_, ?_, h1, p.g1⟩
      · show v * (q.c + 1 - 1) + q.g ≤ q.t + v
        rw [el]; omega
      · show q.t + v ≤ q.g * (q.c + 1 - 1) + v
        rw [el]; omega
    · by_cases c2 : v > q.g
      · have e : add1 (some q) v = ⟨q.c + 1, q.t + v, q.l, v⟩ := by simp only [add1, if_neg c1, if_pos c2]
        rw [e]
        have := m (Int.le_of_lt c2)
        refine ⟨by show 1 ≤ q.c + 1; omega, by show q.l ≤ v; omega, ?_, ?_, p.l1, h2⟩
        · show q.l * (q.c + 1 - 1) + v ≤ q.t + v
          rw [el]; omega
        · show q.t + v ≤ v * (q.c + 1 - 1) + q.l
          rw [el]; omega
      · have e : add1 (some q) v = ⟨q.c + 1, q.t + v, q.l, q.g⟩ := by simp only [add1, if_neg c1, if_neg c2]
        rw [e]
        refine ⟨by show 1 ≤ q.c + 1; omega, plg, ?_, ?_, p.l1, p.g1⟩
        · show q.l * (q.c + 1 - 1) + q.g ≤ q.t + v
          rw [el]; omega
        · show q.t + v ≤ q.g * (q.c + 1 - 1) + q.l
          rw [el]; omega
theorem val_added : ∀ {vs : List Int} {s : S}, ValO s → (∀ v ∈ vs, -1000000000000000000000000000000 < v ∧ v < 1000000000000000000000000000000) → ValO (added s vs)
  | [], s, h, _ => h
  | v :: vs, s, h, hv => val_added (vs := vs) (s := some (add1 s v)) (fun q e => by cases e; exact val_add h (hv v List.mem_cons_self).1 (hv v List.mem_cons_self).2) fun u hu => hv u (List.mem_cons_of_mem _ hu)

def mL (s : S) (g : S4) : Bool := match s with
  | none => true
  | some q => decide (g.l < q.l)
def mG (s : S) (g : S4) : Bool := match s with
  | none => true
  | some q => decide (g.g > q.g)
def musts (s : S) (g : S4) : List Int :=
  let a := if mL s g then [g.l] else []
  if mG s g && !decide (g.g ∈ a) then a ++ [g.g] else a
def even (many total lo hi : Int) : Option (List Int) :=
  if many = 0 then (if total = 0 then some [] else none)
  else if lo > hi ∨ ¬ (many * lo ≤ total ∧ total ≤ many * hi) then none
  else some (List.replicate (many - total % many).toNat (total / many) ++ List.replicate (total % many).toNat (total / many + 1))
def planB (s : S) (g : S4) (lo hi : Int) : Option (List Int) :=
  if g.c - cnt s - ((musts s g).length : Nat) < 0 ∨ (musts s g).all (fun v => decide (lo ≤ v) && decide (v ≤ hi)) = false then none
  else (even (g.c - cnt s - ((musts s g).length : Nat)) (g.t - tot s - (musts s g).sum) (if g.l > lo then g.l else lo) (if g.g < hi then g.g else hi)).map fun rest => srtI (musts s g ++ rest)
def within (s : S) (g : S4) : Bool := match s with
  | none => true
  | some q => decide (g.l ≤ q.l) && decide (g.g ≥ q.g)
structure Leads (s : S) (g : S) (lo hi : Int) (ps : List Int) : Prop where
  len : (ps.length : Int) = cnt g - cnt s
  bd : ∀ v ∈ ps, lo ≤ v ∧ v ≤ hi
  so : ps.Pairwise (· ≤ ·)
  ad : added s ps = g
theorem ins_perm (a : Int) : ∀ l : List Int, (insI a l).Perm (a :: l)
  | [] => List.Perm.refl _
  | b :: r => by
    show (if a ≤ b then a :: b :: r else b :: insI a r).Perm _
    split
    · exact List.Perm.refl _
    · exact ((ins_perm a r).cons b).trans (List.Perm.swap a b r)
theorem srt_perm : ∀ l : List Int, (srtI l).Perm l
  | [] => List.Perm.refl _
  | a :: r => (ins_perm a (srtI r)).trans ((srt_perm r).cons a)
theorem ins_so (a : Int) : ∀ {l : List Int}, l.Pairwise (· ≤ ·) → (insI a l).Pairwise (· ≤ ·)
  | [], _ => List.pairwise_singleton _ _
  | b :: r, h => by
    show (if a ≤ b then a :: b :: r else b :: insI a r).Pairwise (· ≤ ·)
    obtain ⟨h1, h2⟩ := List.pairwise_cons.mp h
    split
    · next c => exact List.pairwise_cons.mpr ⟨fun x hx => by
        rcases List.mem_cons.mp hx with rfl | hx
        · exact c
        · exact Int.le_trans c (h1 x hx), h⟩
    · next c => exact List.pairwise_cons.mpr ⟨fun x hx => by
        rcases List.mem_cons.mp ((ins_perm a r).mem_iff.mp hx) with rfl | hx
        · omega
        · exact h1 x hx, ins_so a h2⟩
theorem srt_so : ∀ l : List Int, (srtI l).Pairwise (· ≤ ·)
  | [] => List.Pairwise.nil
  | a :: r => ins_so a (srt_so r)
theorem sum_perm {l m : List Int} (h : l.Perm m) : l.sum = m.sum := by
  induction h with
  | nil => rfl
  | cons x _ ih => rw [List.sum_cons, List.sum_cons, ih]
  | swap x y l => simp only [List.sum_cons]; omega
  | trans _ _ i1 i2 => exact i1.trans i2
theorem sum_rep (n : Nat) (a : Int) : (List.replicate n a).sum = n * a := by
  induction n with
  | zero => simp
  | succ n ih => rw [List.replicate_succ, List.sum_cons, ih]; push_cast; rw [Int.add_mul, Int.one_mul]; omega
theorem sum_bd {lo hi : Int} : ∀ {l : List Int}, (∀ v ∈ l, lo ≤ v ∧ v ≤ hi) → l.length * lo ≤ l.sum ∧ l.sum ≤ l.length * hi
  | [], _ => by simp
  | a :: l, h => by
    have := sum_bd fun v hv => h v (List.mem_cons_of_mem a hv)
    have := h a List.mem_cons_self
    rw [List.sum_cons, List.length_cons]
    push_cast
    rw [Int.add_mul, Int.add_mul, Int.one_mul, Int.one_mul]
    omega
theorem even_ok {many total lo hi : Int} {r : List Int} (hm : 0 ≤ many) (h : even many total lo hi = some r) : (r.length : Int) = many ∧ r.sum = total ∧ ∀ v ∈ r, lo ≤ v ∧ v ≤ hi := by
  unfold even at h
  by_cases c : many = 0
  · rw [if_pos c] at h
    by_cases c2 : total = 0
    · rw [if_pos c2] at h; cases h; exact ⟨by simp [c], by simp [c2], fun v hv => by cases hv⟩
    · rw [if_neg c2] at h; cases h
  · rw [if_neg c] at h
    by_cases c2 : lo > hi ∨ ¬ (many * lo ≤ total ∧ total ≤ many * hi)
    · rw [if_pos c2] at h; cases h
    · rw [if_neg c2] at h
      cases h
      have c3 : lo ≤ hi ∧ many * lo ≤ total ∧ total ≤ many * hi := by
        refine ⟨Int.not_lt.mp fun z => c2 (.inl z), ?_⟩
        exact Decidable.not_not.mp fun z => c2 (.inr z)
      have mp : 0 < many := by omega
      have m0 := Int.emod_nonneg total c
      have m1 := Int.emod_lt_of_pos total mp
      have dm := Int.mul_ediv_add_emod total many
      have d1 : lo ≤ total / many := Int.le_ediv_of_mul_le mp (by rw [Int.mul_comm]; exact c3.2.1)
      have d2 : total / many ≤ hi := by
        have := Int.ediv_le_ediv mp c3.2.2
        rw [Int.mul_ediv_cancel_left _ c] at this
        exact this
      refine ⟨?_, ?_, fun v hv => ?_⟩
      · rw [List.length_append, List.length_replicate, List.length_replicate]; omega
      · rw [List.sum_append, sum_rep, sum_rep, Int.toNat_of_nonneg (by omega), Int.toNat_of_nonneg m0]
        rw [Int.mul_add, Int.mul_one, Int.sub_mul]
        omega
      · rcases List.mem_append.mp hv with hv | hv
        · obtain ⟨_, rfl⟩ := List.mem_replicate.mp hv; exact ⟨d1, d2⟩
        · obtain ⟨hn, rfl⟩ := List.mem_replicate.mp hv
          refine ⟨by omega, ?_⟩
          have hr : 0 < total % many := by omega
          rcases Int.lt_or_le (total / many) hi with z | z
          · omega
          · have e : total / many = hi := by omega
            rw [e] at dm
            omega
theorem musts_mem {s : S} {g : S4} {v : Int} (h : v ∈ musts s g) : v = g.l ∨ v = g.g := by
  unfold musts at h
  dsimp only at h
  by_cases c1 : mL s g = true
  · rw [if_pos c1] at h
    split at h <;> simp at h
    · exact h
    · exact .inl h
  · rw [if_neg c1] at h
    split at h <;> simp at h
    exact .inr h
theorem musts_l {s : S} {g : S4} (h : mL s g = true) : g.l ∈ musts s g := by
  unfold musts
  dsimp only
  rw [if_pos h]
  split <;> simp
theorem musts_g {s : S} {g : S4} (h : mG s g = true) : g.g ∈ musts s g := by
  unfold musts
  dsimp only
  rw [h, Bool.true_and]
  by_cases c : g.g ∈ (if mL s g = true then [g.l] else [])
  · rw [decide_eq_true c]; exact c
  · rw [decide_eq_false c]; exact List.mem_append_right _ (List.mem_singleton.mpr rfl)
theorem sound {s : S} {g : S4} {lo hi : Int} {ps : List Int} (hg : Val g) (hw : within s g = true) (hn : 0 < g.c - cnt s) (h : planB s g lo hi = some ps) : Leads s (some g) lo hi ps := by
  unfold planB at h
  by_cases c : g.c - cnt s - ((musts s g).length : Nat) < 0 ∨ (musts s g).all (fun v => decide (lo ≤ v) && decide (v ≤ hi)) = false
  · rw [if_pos c] at h; cases h
  · rw [if_neg c] at h
    have c1 : 0 ≤ g.c - cnt s - ((musts s g).length : Nat) := Int.not_lt.mp fun z => c (.inl z)
    have c2 : (musts s g).all (fun v => decide (lo ≤ v) && decide (v ≤ hi)) = true := by
      cases q : (musts s g).all (fun v => decide (lo ≤ v) && decide (v ≤ hi)) with
      | true => rfl
      | false => exact absurd (.inr q) c
    have c3 : ∀ v ∈ musts s g, lo ≤ v ∧ v ≤ hi := fun v hv => by
      have := List.all_eq_true.mp c2 v hv
      simpa using this
    cases q : even (g.c - cnt s - ((musts s g).length : Nat)) (g.t - tot s - (musts s g).sum) (if g.l > lo then g.l else lo) (if g.g < hi then g.g else hi) with
    | none => rw [q] at h; cases h
    | some rest =>
      rw [q] at h
      cases h
      obtain ⟨e1, e2, e3⟩ := even_ok c1 q
      have pm := srt_perm (musts s g ++ rest)
      have hlg := hg.lg
      have bd2 : ∀ v ∈ musts s g ++ rest, (lo ≤ v ∧ v ≤ hi) ∧ g.l ≤ v ∧ v ≤ g.g := fun v hv => by
        rcases List.mem_append.mp hv with hv | hv
        · exact ⟨c3 v hv, by rcases musts_mem hv with rfl | rfl <;> omega⟩
        · have := e3 v hv
          split at this <;> split at this <;> omega
      have len : ((srtI (musts s g ++ rest)).length : Int) = g.c - cnt s := by
        rw [pm.length_eq, List.length_append]; push_cast; omega
      have ne : srtI (musts s g ++ rest) ≠ [] := fun z => by rw [z] at len; simp at len; omega
      obtain ⟨r, er, p⟩ := spec_of (srtI (musts s g ++ rest)) s (.inl ne)
      refine ⟨len, fun v hv => (bd2 v (pm.mem_iff.mp hv)).1, srt_so _, ?_⟩
      rw [er]
      have sm : (srtI (musts s g ++ rest)).sum = g.t - tot s := by
        rw [sum_perm pm, List.sum_append, e2]; omega
      have rc : r.c = g.c := by rw [p.c]; omega
      have rt : r.t = g.t := by rw [p.t]; omega
      have inl : ∀ v, v ∈ srtI (musts s g ++ rest) → g.l ≤ v ∧ v ≤ g.g := fun v hv => (bd2 v (pm.mem_iff.mp hv)).2
      have wl : ∀ u, s = some u → g.l ≤ u.l ∧ u.g ≤ g.g := fun u e => by
        subst e
        have : (decide (g.l ≤ u.l) && decide (g.g ≥ u.g)) = true := hw
        simpa using this
      have rl : r.l = g.l := by
        refine Int.le_antisymm ?_ ?_
        · by_cases z : mL s g = true
          · exact (p.lo g.l (pm.mem_iff.mpr (List.mem_append_left _ (musts_l z)))).1
          · cases s with
            | none => exact absurd rfl z
            | some u =>
              have z : ¬ g.l < u.l := fun w => z (decide_eq_true w)
              have := (p.st u rfl).1
              omega
        · rcases p.hl with w | ⟨q, hq, w⟩
          · exact (inl _ w).1
          · rw [w]; exact (wl q hq).1
      have rg : r.g = g.g := by
        refine Int.le_antisymm ?_ ?_
        · rcases p.hg with w | ⟨q, hq, w⟩
          · exact (inl _ w).2
          · rw [w]; exact (wl q hq).2
        · by_cases z : mG s g = true
          · exact (p.lo g.g (pm.mem_iff.mpr (List.mem_append_left _ (musts_g z)))).2
          · cases s with
            | none => exact absurd rfl z
            | some u =>
              have z : ¬ g.g > u.g := fun w => z (decide_eq_true w)
              have := (p.st u rfl).2
              omega
      obtain ⟨a1, a2, a3, a4⟩ := r
      obtain ⟨b1, b2, b3, b4⟩ := g
      simp only at rc rt rl rg
      rw [rc, rt, rl, rg]
theorem perm_musts {s : S} {g : S4} {vs : List Int} (hl : mL s g = true → g.l ∈ vs) (hg : mG s g = true → g.g ∈ vs) : ∃ us, vs.Perm (musts s g ++ us) := by
  unfold musts
  dsimp only
  by_cases c1 : mL s g = true
  · rw [if_pos c1]
    have p1 := List.perm_cons_erase (hl c1)
    by_cases c2 : (mG s g && !decide (g.g ∈ [g.l])) = true
    · rw [if_pos c2]
      have ⟨c3, c4⟩ := Bool.and_eq_true_iff.mp c2
      have ne : g.g ≠ g.l := by simpa using c4
      have : g.g ∈ vs.erase g.l := (List.mem_erase_of_ne ne).mpr (hg c3)
      exact ⟨_, p1.trans ((List.perm_cons_erase this).cons g.l)⟩
    · rw [if_neg c2]; exact ⟨_, p1⟩
  · rw [if_neg c1]
    by_cases c2 : (mG s g && !decide (g.g ∈ ([] : List Int))) = true
    · rw [if_pos c2]
      have ⟨c3, c4⟩ := Bool.and_eq_true_iff.mp c2
      exact ⟨_, List.perm_cons_erase (hg c3)⟩
    · rw [if_neg c2]; exact ⟨vs, List.Perm.refl _⟩
theorem complete {s : S} {g : S4} {lo hi : Int} {vs : List Int} (hb : ∀ v ∈ vs, lo ≤ v ∧ v ≤ hi) (hne : vs ≠ []) (ha : added s vs = some g) : ∃ ps, planB s g lo hi = some ps := by
  obtain ⟨r, er, p⟩ := spec_of vs s (.inl hne)
  rw [ha] at er
  cases er
  obtain ⟨us, pm⟩ := perm_musts (s := s) (g := g) (vs := vs) (fun z => by
    rcases p.hl with w | ⟨q, hq, w⟩
    · exact w
    · subst hq
      have z : g.l < q.l := of_decide_eq_true z
      omega) fun z => by
    rcases p.hg with w | ⟨q, hq, w⟩
    · exact w
    · subst hq
      have z : g.g > q.g := of_decide_eq_true z
      omega
  have hlen := pm.length_eq
  have hsum := sum_perm pm
  rw [List.length_append] at hlen
  rw [List.sum_append] at hsum
  have pc := p.c
  have pt := p.t
  have left : g.c - cnt s - ((musts s g).length : Nat) = us.length := by omega
  have tl : g.t - tot s - (musts s g).sum = us.sum := by omega
  have all : (musts s g).all (fun v => decide (lo ≤ v) && decide (v ≤ hi)) = true := List.all_eq_true.mpr fun v hv => by
    have := hb v (pm.mem_iff.mpr (List.mem_append_left _ hv))
    simpa using this
  unfold planB
  rw [if_neg (by rw [left, all]; simp), left, tl]
  have ub : ∀ v ∈ us, (if g.l > lo then g.l else lo) ≤ v ∧ v ≤ (if g.g < hi then g.g else hi) := fun v hv => by
    have m := pm.mem_iff.mpr (List.mem_append_right _ hv)
    have := hb v m
    have := p.lo v m
    split <;> split <;> omega
  have : ∃ r, even (us.length : Int) us.sum (if g.l > lo then g.l else lo) (if g.g < hi then g.g else hi) = some r := by
    generalize (if g.l > lo then g.l else lo) = lo' at ub
    generalize (if g.g < hi then g.g else hi) = hi' at ub
    unfold even
    by_cases c : (us.length : Int) = 0
    · rw [if_pos c]
      have : us = [] := List.length_eq_zero_iff.mp (by omega)
      subst this
      exact ⟨[], rfl⟩
    · rw [if_neg c]
      obtain ⟨b1, b2⟩ := sum_bd ub
      have : lo' ≤ hi' := by
        cases us with
        | nil => exact absurd rfl c
        | cons a r => have := ub a List.mem_cons_self; omega
      rw [if_neg (by simp; omega)]
      exact ⟨_, rfl⟩
  obtain ⟨r, e⟩ := this
  exact ⟨_, by rw [e]; rfl⟩
end Pl
end PK
namespace PK
namespace Pl
open PySem
def W30 (k : Int) : Prop := -1000000000000000000000000000000 < k ∧ k < 1000000000000000000000000000000
def stDs : S → List D
  | none => [.int 0, .int 0, .non, .non]
  | some s => [.int s.c, .int s.t, .int s.l, .int s.g]
def stD (s : S) : D := .tup (stDs s)
def stL (s : S) : D := .lst (stDs s)
def IsSt (s : S) (x : D) : Prop := x = stD s ∨ x = stL s
def m30 : Int := 999999999999999999999999999999
def c30 : Int := 1000000000000000000000000000000
theorem eq_st (G : Hp) (s u : S) : eqD G (stD s) (stD u) = some (decide (s = u)) := by
  have e : eqD G (stD s) (stD u) = (match pd G 8 (stD s), pd G 8 (stD u) with
    | some d, some e => if SeqAt.shaped d && SeqAt.shaped e then some (PyData.eqv d e) else none
    | _, _ => none) := rfl
  rw [e]
  cases s with
  | none =>
    cases u with
    | none => rfl
    | some u =>
      show some (PyData.eqv (.tuple [.int 0, .int 0, .none, .none]) (.tuple [.int u.c, .int u.t, .int u.l, .int u.g])) = _
      simp [PyData.eqv, PyData.eqvAll]
  | some s =>
    cases u with
    | none =>
      show some (PyData.eqv (.tuple [.int s.c, .int s.t, .int s.l, .int s.g]) (.tuple [.int 0, .int 0, .none, .none])) = _
      simp [PyData.eqv, PyData.eqvAll]
    | some u =>
      show some (PyData.eqv (.tuple [.int s.c, .int s.t, .int s.l, .int s.g]) (.tuple [.int u.c, .int u.t, .int u.l, .int u.g])) = _
      obtain ⟨a, b, c, d⟩ := s
      obtain ⟨a', b', c', d'⟩ := u
      simp only [PyData.eqv, PyData.eqvAll, Bool.and_true, Option.some.injEq, S4.mk.injEq]
      refine Bool.eq_iff_iff.mpr ?_
      simp
theorem cm_st (G : Hp) (s u : S) : cmpD .eq (stD s) (stD u) G = .ok (.bl (decide (s = u))) G := by
  show (match eqD G (stD s) (stD u) with | some c => R.ok (.bl c) G | none => .bad) = _
  rw [eq_st]
@[simp] theorem bd_mull {w : Bool} {ds : List D} {k : Int} {G : Hp} : binD .mul w (.lst ds) (.int k) G = iteK (szOk (ds.length * k.toNat) && decide (-(2 ^ 63) ≤ k ∧ k < 2 ^ 63)) (fun _ => mkl w (List.replicate k.toNat ds).flatten G) fun _ => .bad := by
  show (if (szOk (ds.length * k.toNat) && decide (-(2 ^ 63) ≤ k ∧ k < 2 ^ 63)) = true then mkl w (List.replicate k.toNat ds).flatten G else .bad) = _
  cases (szOk (ds.length * k.toNat) && decide (-(2 ^ 63) ≤ k ∧ k < 2 ^ 63)) <;> rfl
theorem flat_one (n : Nat) (x : D) : (List.replicate n [x]).flatten = List.replicate n x := by
  induction n with
  | zero => rfl
  | succ n ih => rw [List.replicate_succ, List.replicate_succ, List.flatten_cons, ih]; rfl
section
variable {cl : List Nat → Nat → List D → Hp → R} {gl : Nat → Option D} {ms : List Nat} {G : Hp}
def fWhole : Fn := ⟨1, 1, true, true, (.ret (.and_ (.isi [.int] (.v 0)) (.not_ (.isi [.bool] (.v 0)))))⟩
theorem whole_run (k : Int) : run cl gl ms fWhole [.int k] G = .ok (.bl true) G ∧ run cl gl ms fWhole [.non] G = .ok (.bl false) G := by
  unfold fWhole
  rw [run_t (by rfl), run_t (by rfl)]
  constructor <;> simp -dsimp [typed, isTy]
def WholeR (cl : List Nat → Nat → List D → Hp → R) (i : Nat) : Prop := ∀ (ms : List Nat) (G : Hp), (∀ k, cl ms i [.int k] G = .ok (.bl true) G) ∧ cl ms i [.non] G = .ok (.bl false) G
def fWideQ (w : Nat) : Fn := ⟨1, 1, true, true, (.ret (.and_ (.call w (.cons (.v 0) .nil)) (.chain .le .le (.neg (.g 1)) (.v 0) (.g 1))))⟩
def WideR (cl : List Nat → Nat → List D → Hp → R) (i : Nat) : Prop := ∀ (ms : List Nat) (G : Hp), (∀ k, W30 k → cl ms i [.int k] G = .ok (.bl true) G) ∧ cl ms i [.non] G = .ok (.bl false) G
theorem wideq_run {w : Nat} (W : WholeR cl w) (h1 : gl 1 = some (.int m30)) : (∀ k, W30 k → run cl gl ms (fWideQ w) [.int k] G = .ok (.bl true) G) ∧ run cl gl ms (fWideQ w) [.non] G = .ok (.bl false) G := by
  obtain ⟨w1, w2⟩ := W (G.length :: ms) G
  constructor
  · intro k hk
    unfold fWideQ
    rw [run_t (by rfl)]
    have e1 : decide (-m30 ≤ k) = true := decide_eq_true (by unfold W30 m30 at *; omega)
    have e2 : decide (k ≤ m30) = true := decide_eq_true (by unfold W30 m30 at *; omega)
    generalize m30 = M at h1 e1 e2
    simp -dsimp [w1, h1, e1, e2]
  · unfold fWideQ
    rw [run_t (by rfl)]
    simp -dsimp [w2]
def fNoneQ (w : Nat) : Fn := ⟨1, 5, true, true, (.seq (.asg [(.nm 1), (.nm 2), (.nm 3), (.nm 4)] (.v 0))
  (.ret (.and_ (.call w (.cons (.v 1) .nil)) (.and_ (.cmp .eq (.v 1) (.c (.int 0))) (.and_ (.call w (.cons (.v 2) .nil)) (.and_ (.cmp .eq (.v 2) (.c (.int 0))) (.and_ (.cmp .is_ (.v 3) (.c .non)) (.cmp .is_ (.v 4) (.c .non)))))))))⟩
def NoneR (cl : List Nat → Nat → List D → Hp → R) (i : Nat) : Prop := ∀ (s : S) (x : D) (ms : List Nat) (G : Hp), ValO s → IsSt s x → cl ms i [x] G = .ok (.bl (decide (s = none))) G
theorem seq_st {s : S} {x : D} (h : IsSt s x) (G : Hp) : seqD G x = some (stDs s) := by rcases h with rfl | rfl <;> rfl
theorem none_run {w : Nat} (W : WholeR cl w) {s : S} {x : D} (hv : ValO s) (hx : IsSt s x) : run cl gl ms (fNoneQ w) [x] G = .ok (.bl (decide (s = none))) G := by
  obtain ⟨w1, w2⟩ := W (G.length :: ms) G
  have sq := seq_st hx G
  unfold fNoneQ
  rw [run_t (by rfl)]
  cases s with
  | none => simp -dsimp [sq, stDs, w1]
  | some q =>
    have c1 : decide (q.c = 0) = false := decide_eq_false (by have := (hv q rfl).c; omega)
    simp -dsimp [sq, stDs, w1, c1]
def fSomeQ (w wi : Nat) : Fn := ⟨1, 5, true, true, (.seq (.asg [(.nm 1), (.nm 2), (.nm 3), (.nm 4)] (.v 0))
  (.seq (.ite (.or_ (.not_ (.call w (.cons (.v 1) .nil))) (.or_ (.not_ (.call w (.cons (.v 2) .nil))) (.or_ (.not_ (.call wi (.cons (.v 3) .nil))) (.not_ (.call wi (.cons (.v 4) .nil)))))) (.ret (.c (.bl false)))
  .pass)
  (.seq (.ite (.or_ (.not_ (.chain .le .le (.c (.int 1)) (.v 1) (.g 0))) (.cmp .gt (.v 3) (.v 4))) (.ret (.c (.bl false)))
  .pass)
  (.seq (.ite (.cmp .eq (.v 1) (.c (.int 1))) (.ret (.and_ (.cmp .eq (.v 2) (.v 3)) (.cmp .eq (.v 3) (.v 4))))
  .pass)
  (.ret (.chain .le .le (.bin .add false (.bin .mul false (.v 3) (.bin .sub false (.v 1) (.c (.int 1)))) (.v 4)) (.v 2) (.bin .add false (.bin .mul false (.v 4) (.bin .sub false (.v 1) (.c (.int 1)))) (.v 3))))))))⟩
def SomeR (cl : List Nat → Nat → List D → Hp → R) (i : Nat) : Prop := ∀ (q : S4) (x : D) (ms : List Nat) (G : Hp), Val q → q.c ≤ c30 → IsSt (some q) x → cl ms i [x] G = .ok (.bl true) G
theorem some_run {w wi : Nat} (W : WholeR cl w) (Wi : WideR cl wi) (h0 : gl 0 = some (.int c30)) {q : S4} {x : D} (hv : Val q) (hc : q.c ≤ c30) (hx : IsSt (some q) x) : run cl gl ms (fSomeQ w wi) [x] G = .ok (.bl true) G := by
  obtain ⟨w1, w2⟩ := W (G.length :: ms) G
  obtain ⟨wi1, wi2⟩ := Wi (G.length :: ms) G
  have sq : seqD G x = some [.int q.c, .int q.t, .int q.l, .int q.g] := seq_st hx G
  have p1 := hv.c
  have p2 := hv.lg
  have p3 := hv.t1
  have p4 := hv.t2
  have l1 := hv.l1
  have g1 := hv.g1
  have wl := wi1 q.l ⟨l1, by omega⟩
  have wg := wi1 q.g ⟨by omega, g1⟩
  have m1 : mulOk q.l (q.c - 1) = true := mul_ok (by omega) (by unfold c30 at hc; omega)
  have m2 : mulOk q.g (q.c - 1) = true := mul_ok (by omega) (by unfold c30 at hc; omega)
  have e1 : decide (1 ≤ q.c) = true := decide_eq_true p1
  have e2 : decide (q.c ≤ c30) = true := decide_eq_true hc
  have e3 : decide (q.g < q.l) = false := decide_eq_false (by omega)
  have e4 : decide (q.l * (q.c - 1) + q.g ≤ q.t) = true := decide_eq_true p3
  have e5 : decide (q.t ≤ q.g * (q.c - 1) + q.l) = true := decide_eq_true p4
  have one : q.c = 1 → q.t = q.l ∧ q.l = q.g := fun z => by
    rw [z] at p3 p4
    simp at p3 p4
    omega
  obtain ⟨c, t, l, g⟩ := q
  simp only at *
  generalize c30 = M at h0 e2
  unfold fSomeQ
  rw [run_t (by rfl)]
  by_cases z : c = 1
  · have o := one z
    have d1 : decide (c = 1) = true := decide_eq_true z
    have d2 : decide (t = l) = true := decide_eq_true o.1
    have d3 : decide (l = g) = true := decide_eq_true o.2
    clear p1 p2 p3 p4 l1 g1 hc z o one hx hv
    simp -dsimp only [ex_seq, ex_asg, ev_v, List.map_cons, List.map_nil, Nat.reduceSub, List.replicate_succ, List.replicate_zero, List.cons_append, List.nil_append, List.getElem?_cons_zero, Option.join_some, zo_some, zs_ok, sq, List.length_cons, List.length_nil, Nat.reduceAdd, decide_true, zi_true, pps_cons, pp_nm, pps_nil, zt_nx, seti_eq, List.set_cons_zero, List.set_cons_succ, ex_ite, ev_or, ev_not, ev_call, es_cons, es_nil, List.getElem?_cons_succ, zb_ok, zp_tup, w1, wl, wg, zl_bl, Bool.not_true, zi_false, ex_pass, ev_chain, ev_c, cm_le, e1, ev_g, h0, e2, ev_cmp, cm_gt, e3, cm_eq, d1, ex_ret, ev_and, d2, d3, zt_ret, fr_ttf, fz_bl, be_bl, if_true, List.take_length]
  · have d1 : decide (c = 1) = false := decide_eq_false z
    clear p1 p2 p3 p4 l1 g1 hc z one hx hv
    simp -dsimp only [ex_seq, ex_asg, ev_v, List.map_cons, List.map_nil, Nat.reduceSub, List.replicate_succ, List.replicate_zero, List.cons_append, List.nil_append, List.getElem?_cons_zero, Option.join_some, zo_some, zs_ok, sq, List.length_cons, List.length_nil, Nat.reduceAdd, decide_true, zi_true, pps_cons, pp_nm, pps_nil, zt_nx, seti_eq, List.set_cons_zero, List.set_cons_succ, ex_ite, ev_or, ev_not, ev_call, es_cons, es_nil, List.getElem?_cons_succ, zb_ok, zp_tup, w1, wl, wg, zl_bl, Bool.not_true, zi_false, ex_pass, ev_chain, ev_c, cm_le, e1, ev_g, h0, e2, ev_cmp, cm_gt, e3, cm_eq, d1, ex_ret, ev_bin, bd_sub, bd_mul, bd_add, m1, m2, e4, e5, zt_ret, fr_ttf, fz_bl, be_bl, if_true, List.take_length]
def fState (nn sm : Nat) : Fn := ⟨1, 1, true, true, (.seq (.ite (.or_ (.not_ (.isi [.tuple, .list] (.v 0))) (.cmp .ne (.bi .len false (.cons (.v 0) .nil)) (.c (.int 4)))) (.raise 2)
  .pass)
  (.seq (.ite (.and_ (.not_ (.call nn (.cons (.v 0) .nil))) (.not_ (.call sm (.cons (.v 0) .nil)))) (.raise 2)
  .pass)
  (.ret (.bi .tuple false (.cons (.v 0) .nil)))))⟩
def Ok30 (s : S) : Prop := ValO s ∧ cnt s ≤ c30
def StateR (cl : List Nat → Nat → List D → Hp → R) (i : Nat) : Prop := ∀ (s : S) (x : D) (ms : List Nat) (G : Hp), Ok30 s → IsSt s x → cl ms i [x] G = .ok (stD s) G
theorem len_st (s : S) : (stDs s).length = 4 := by cases s <;> rfl
theorem below_st (s : S) (m : Nat) : below m (stD s) = true := by cases s <;> rfl
theorem state_run {nn sm : Nat} (N : NoneR cl nn) (Sm : SomeR cl sm) {s : S} {x : D} (h : Ok30 s) (hx : IsSt s x) : run cl gl ms (fState nn sm) [x] G = .ok (stD s) G := by
  have n1 := N s x (G.length :: ms) G h.1 hx
  have n2 : s ≠ none → cl (G.length :: ms) sm [x] G = .ok (.bl true) G := fun z => by
    cases s with
    | none => exact absurd rfl z
    | some q => exact Sm q x _ G (h.1 q rfl) h.2 hx
  have sq := seq_st hx G
  have ty : typed G x = true := by rcases hx with rfl | rfl <;> rfl
  have it : isTy G x .tuple = true ∨ isTy G x .tuple = false ∧ isTy G x .list = true := by rcases hx with rfl | rfl <;> simp [isTy, stD, stL]
  have ln : lenD G x = some 4 := by rcases hx with rfl | rfl <;> (show some (stDs s).length = _; rw [len_st])
  have bs := below_st s G.length
  have e : stD s = .tup (stDs s) := rfl
  rw [e] at bs ⊢
  unfold fState
  rw [run_t (by rfl)]
  generalize stDs s = Z at sq bs ⊢
  have bs : belows G.length Z = true := bs
  by_cases c : s = none
  · have d : decide (s = none) = true := decide_eq_true c
    rw [d] at n1
    rcases it with it | ⟨it, it2⟩
    · simp -dsimp [ty, it, ln, n1, sq, bs]
    · simp -dsimp [ty, it, it2, ln, n1, sq, bs]
  · have d : decide (s = none) = false := decide_eq_false c
    have n2 := n2 c
    rw [d] at n1
    rcases it with it | ⟨it, it2⟩
    · simp -dsimp [ty, it, ln, n1, n2, sq, bs]
    · simp -dsimp [ty, it, it2, ln, n1, n2, sq, bs]
def fBounds (wi : Nat) : Fn := ⟨2, 2, true, true, (.ite (.or_ (.not_ (.call wi (.cons (.v 0) .nil))) (.or_ (.not_ (.call wi (.cons (.v 1) .nil))) (.cmp .gt (.v 0) (.v 1)))) (.raise 1)
  .pass)⟩
def BoundsR (cl : List Nat → Nat → List D → Hp → R) (i : Nat) : Prop := ∀ (lo hi : Int) (ms : List Nat) (G : Hp), W30 lo → W30 hi → lo ≤ hi → cl ms i [.int lo, .int hi] G = .ok .non G
theorem bounds_run {wi : Nat} (Wi : WideR cl wi) {lo hi : Int} (h1 : W30 lo) (h2 : W30 hi) (h : lo ≤ hi) : run cl gl ms (fBounds wi) [.int lo, .int hi] G = .ok .non G := by
  have w1 := (Wi (G.length :: ms) G).1 lo h1
  have w2 := (Wi (G.length :: ms) G).1 hi h2
  have d : decide (hi < lo) = false := decide_eq_false (by omega)
  unfold fBounds
  rw [run_t (by rfl)]
  simp -dsimp [w1, w2, d]
end
end Pl
end PK
namespace PK
namespace Pl
open PySem
def optD : Option (List Int) → D
  | none => .non
  | some r => .lst (r.map .int)
theorem get_last {G : Hp} {c : Cell} : (G ++ [c])[G.length]? = some c := by simp
theorem app_last {G : Hp} {ms : List Nat} {w : Bool} {ds : List D} {v : D} (hw : wok G.length ms v = true) (hl : ds.length < 1000000) : mtD .append w ms (.ref G.length) [v] (G ++ [.lst ds]) = .ok .non (G ++ [.lst (ds ++ [v])]) := by
  have h : (G ++ [Cell.lst ds])[G.length]? = some (.lst ds) := get_last
  simp only [mtD, h, hw, decide_eq_true hl, Bool.and_self, if_true, setC]
  simp
theorem fin_last {G : Hp} {ds : List D} (h : belows G.length ds = true) : fin true true G.length (.ret (.ref G.length) (G ++ [.lst ds])) = .ok (.lst ds) G := by
  have e : frzD (G ++ [Cell.lst ds]) G.length (.ref G.length) = .lst ds := by
    unfold frzD
    dsimp only
    rw [if_neg (Nat.lt_irrefl _), show (G ++ [Cell.lst ds])[G.length]? = some (.lst ds) by simp]
  rw [fr_ttf, e, be_lst, h, if_pos rfl]
  simp
theorem flats_ints : ∀ l : List Int, flats (l.map .int) = some (l.map .int)
  | [] => rfl
  | a :: l => by
    show (flats (l.map .int)).bind _ = _
    rw [flats_ints l]; rfl
theorem intsD_map : ∀ l : List Int, intsD (l.map .int) = some l
  | [] => rfl
  | a :: l => by
    show (intsD (l.map .int)).map _ = _
    rw [intsD_map l]; rfl
theorem belows_ints (m : Nat) (l : List Int) : belows m (l.map .int) = true := belows_map (fun _ => rfl) l
theorem in_last {G : Hp} {x a : Int} {l : List Int} (h : l = [] ∨ l = [a]) : inD (G ++ [.lst (l.map .int)]) (.int x) (.ref G.length) = some (decide (x ∈ l)) := by
  have h2 : (G ++ [Cell.lst (l.map D.int)])[G.length]? = some (.lst (l.map .int)) := get_last
  unfold inD
  dsimp only
  rw [h2]
  dsimp only
  rw [flats_ints]
  rcases h with rfl | rfl
  · rfl
  · show some (L2.inV (.int x) [.int a]) = _
    simp [L2.inV, L2.eqV]
    by_cases z : x = a
    · subst z; simp
    · rw [decide_eq_false z]; exact beq_eq_false_iff_ne.mpr fun y => z y.symm
section
variable {cl : List Nat → Nat → List D → Hp → R} {gl : Nat → Option D} {ms : List Nat} {G : Hp}
def mIf1 : M := (.ite (.or_ (.cmp .eq (.v 0) (.g 3)) (.cmp .lt (.ix (.v 1) (.c (.int 2))) (.ix (.v 0) (.c (.int 2))))) (.ex (.mt .append false (.v 2) (.cons (.ix (.v 1) (.c (.int 2))) .nil)))
  .pass)
def mIf2 : M := (.ite (.and_ (.or_ (.cmp .eq (.v 0) (.g 3)) (.cmp .gt (.ix (.v 1) (.c (.int 3))) (.ix (.v 0) (.c (.int 3))))) (.cmp .notin (.ix (.v 1) (.c (.int 3))) (.v 2))) (.ex (.mt .append false (.v 2) (.cons (.ix (.v 1) (.c (.int 3))) .nil)))
  .pass)
def fMusts : Fn := ⟨2, 3, true, true, (.seq (.set 2 (.lst true .nil))
  (.seq mIf1
  (.seq mIf2
  (.ret (.v 2)))))⟩
def MustsR (cl : List Nat → Nat → List D → Hp → R) (i : Nat) : Prop := ∀ (s : S) (g : S4) (ms : List Nat) (G : Hp), cl ms i [stD s, stD (some g)] G = .ok (.lst ((musts s g).map .int)) G
theorem cm_notin {x y : D} {G : Hp} {b : Bool} (h : inD G x y = some b) : cmpD .notin x y G = .ok (.bl (!b)) G := by
  show (match (inD G x y).map (!·) with | some c => R.ok (.bl c) G | none => .bad) = _
  rw [h]; rfl
theorem musts_run (h3 : gl 3 = some (stD none)) (s : S) (g : S4) : run cl gl ms fMusts [stD s, stD (some g)] G = .ok (.lst ((musts s g).map .int)) G := by
  have e0 : List.map some [stD s, stD (some g)] ++ List.replicate (3 - 2) none = [some (stD s), some (stD (some g)), none] := rfl
  have q1 : exec cl gl (G.length :: ms) (.set 2 (.lst true .nil)) [some (stD s), some (stD (some g)), none] G = .nx [some (stD s), some (stD (some g)), some (.ref G.length)] (G ++ [.lst []]) := by simp -dsimp
  have gx2 : ∀ G, ixD (stD (some g)) (.int 2) G = .ok (.int g.l) G := fun G => rfl
  have gx3 : ∀ G, ixD (stD (some g)) (.int 3) G = .ok (.int g.g) G := fun G => rfl
  have sx2 : ∀ q G, ixD (stD (some q)) (.int 2) G = .ok (.int q.l) G := fun q G => rfl
  have sx3 : ∀ q G, ixD (stD (some q)) (.int 3) G = .ok (.int q.g) G := fun q G => rfl
  have c0 := fun G => cm_st G s none
  have ia : isLst (G ++ [Cell.lst []])[G.length]? = true := by simp [isLst]
  have ap1 := fun v => app_last (G := G) (ms := G.length :: ms) (w := false) (ds := []) (v := .int v) wk_int (by decide)
  obtain ⟨a, ha, q2⟩ : ∃ a : List Int, a = (if mL s g then [g.l] else []) ∧ exec cl gl (G.length :: ms) mIf1 [some (stD s), some (stD (some g)), some (.ref G.length)] (G ++ [.lst []]) = .nx [some (stD s), some (stD (some g)), some (.ref G.length)] (G ++ [.lst (a.map .int)]) := by
    unfold mIf1
    cases s with
    | none =>
      refine ⟨[g.l], rfl, ?_⟩
      have c0 : ∀ G, cmpD .eq (stD none) (stD none) G = .ok (.bl true) G := c0
      generalize stD none = N at *
      generalize stD (some g) = Gd at *
      simp -dsimp [h3, c0, ia, gx2, ap1]
    | some q =>
      have sx2 := sx2 q
      have c0 : ∀ G, cmpD .eq (stD (some q)) (stD none) G = .ok (.bl false) G := c0
      by_cases c : g.l < q.l
      · refine ⟨[g.l], ?_, ?_⟩
        · have : mL (some q) g = true := decide_eq_true c
          rw [this]; rfl
        · have d : decide (g.l < q.l) = true := decide_eq_true c
          generalize stD none = N at *
          generalize stD (some q) = Q at *
          generalize stD (some g) = Gd at *
          simp -dsimp [h3, c0, ia, gx2, sx2, ap1, d]
      · refine ⟨[], ?_, ?_⟩
        · have : mL (some q) g = false := decide_eq_false c
          rw [this]; rfl
        · have d : decide (g.l < q.l) = false := decide_eq_false c
          generalize stD none = N at *
          generalize stD (some q) = Q at *
          generalize stD (some g) = Gd at *
          simp -dsimp [h3, c0, ia, gx2, sx2, ap1, d]
  have ha2 : a = [] ∨ a = [g.l] := by rw [ha]; split <;> simp
  have ia : isLst (G ++ [Cell.lst (a.map .int)])[G.length]? = true := by rw [get_last]; rfl
  have ni := cm_notin (in_last (G := G) (x := g.g) ha2)
  have ap2 := fun v => app_last (G := G) (ms := G.length :: ms) (w := false) (ds := a.map .int) (v := .int v) wk_int (by rcases ha2 with h | h <;> (rw [h]; simp))
  have mu : musts s g = if mG s g && !decide (g.g ∈ a) then a ++ [g.g] else a := by rw [ha]; rfl
  have q3 : exec cl gl (G.length :: ms) mIf2 [some (stD s), some (stD (some g)), some (.ref G.length)] (G ++ [.lst (a.map .int)]) = .nx [some (stD s), some (stD (some g)), some (.ref G.length)] (G ++ [.lst ((musts s g).map .int)]) := by
    rw [mu]
    unfold mIf2
    generalize hb : decide (g.g ∈ a) = b at ni ⊢
    have am : (a ++ [g.g]).map D.int = a.map D.int ++ [D.int g.g] := by rw [List.map_append]; rfl
    cases s with
    | none =>
      have e : mG none g = true := rfl
      rw [e]
      have c0 : ∀ G, cmpD .eq (stD none) (stD none) G = .ok (.bl true) G := c0
      generalize stD none = N at *
      generalize stD (some g) = Gd at *
      cases b
      · rw [show (true && !false) = true from rfl, if_pos rfl, am]
        generalize a.map D.int = A at *
        simp -dsimp [h3, c0, ia, gx3, ni, ap2]
      · rw [show (true && !true) = false from rfl, if_neg (by decide)]
        generalize a.map D.int = A at *
        simp -dsimp [h3, c0, ia, gx3, ni, ap2]
    | some q =>
      have sx3 := sx3 q
      have c0 : ∀ G, cmpD .eq (stD (some q)) (stD none) G = .ok (.bl false) G := c0
      have e : mG (some q) g = decide (q.g < g.g) := rfl
      rw [e]
      generalize stD none = N at *
      generalize stD (some q) = Q at *
      generalize stD (some g) = Gd at *
      generalize hd : decide (q.g < g.g) = d
      cases d
      · rw [show (false && !b) = false from rfl, if_neg (by decide)]
        generalize a.map D.int = A at *
        simp -dsimp [h3, c0, ia, gx3, sx3, ni, ap2, hd]
      · cases b
        · rw [show (true && !false) = true from rfl, if_pos rfl, am]
          generalize a.map D.int = A at *
          simp -dsimp [h3, c0, ia, gx3, sx3, ni, ap2, hd]
        · rw [show (true && !true) = false from rfl, if_neg (by decide)]
          generalize a.map D.int = A at *
          simp -dsimp [h3, c0, ia, gx3, sx3, ni, ap2, hd]
  unfold fMusts
  rw [run_t (by rfl), e0, ex_seq, q1, O.then_nx, ex_seq, q2, O.then_nx, ex_seq, q3, O.then_nx]
  have q4 : exec cl gl (G.length :: ms) (.ret (.v 2)) [some (stD s), some (stD (some g)), some (.ref G.length)] (G ++ [.lst ((musts s g).map .int)]) = .ret (.ref G.length) (G ++ [.lst ((musts s g).map .int)]) := by simp -dsimp
  rw [q4, fin_last (belows_ints _ _)]
end
end Pl
end PK
namespace PK
namespace Pl
open PySem
section
variable {cl : List Nat → Nat → List D → Hp → R} {gl : Nat → Option D} {ms : List Nat} {G : Hp}
def fEven : Fn := ⟨4, 6, true, true, (.seq (.ite (.cmp .eq (.v 0) (.c (.int 0))) (.ret (.ite (.cmp .eq (.v 1) (.c (.int 0))) (.lst false .nil) (.c .non)))
  .pass)
  (.seq (.asg [(.nm 4), (.nm 5)] (.bi .divmod false (.cons (.v 1) (.cons (.v 0) .nil))))
  (.seq (.ite (.or_ (.cmp .gt (.v 2) (.v 3)) (.not_ (.chain .le .le (.bin .mul false (.v 0) (.v 2)) (.v 1) (.bin .mul false (.v 0) (.v 3))))) (.ret (.c .non))
  .pass)
  (.ret (.bin .add false (.bin .mul false (.lst false (.cons (.v 4) .nil)) (.bin .sub false (.v 0) (.v 5))) (.bin .mul false (.lst false (.cons (.bin .add false (.v 4) (.c (.int 1))) .nil)) (.v 5)))))))⟩
def Big (k : Int) : Prop := k.natAbs ≤ 4000000000000000000000000000000
def EvenR (cl : List Nat → Nat → List D → Hp → R) (i : Nat) : Prop := ∀ (many total lo hi : Int) (ms : List Nat) (G : Hp), 0 ≤ many → many ≤ 1000 → Big lo → Big hi → cl ms i [.int many, .int total, .int lo, .int hi] G = .ok (optD (even many total lo hi)) G
theorem even_run {many total lo hi : Int} (h0 : 0 ≤ many) (h1 : many ≤ 1000) (hl : Big lo) (hh : Big hi) : run cl gl ms fEven [.int many, .int total, .int lo, .int hi] G = .ok (optD (even many total lo hi)) G := by
  unfold fEven even
  rw [run_t (by rfl)]
  by_cases c : many = 0
  · rw [if_pos c]
    have d : decide (many = 0) = true := decide_eq_true c
    by_cases c2 : total = 0
    · rw [if_pos c2]
      have d2 : decide (total = 0) = true := decide_eq_true c2
      simp -dsimp [d, d2, optD]
    · rw [if_neg c2]
      have d2 : decide (total = 0) = false := decide_eq_false c2
      simp -dsimp [d, d2, optD]
  · rw [if_neg c]
    have d : decide (many = 0) = false := decide_eq_false c
    have dv : divOk many = true := decide_eq_true ⟨by omega, small_pow (by omega)⟩
    have m1 : mulOk many lo = true := mul_ok (by omega) hl
    have m2 : mulOk many hi = true := mul_ok (by omega) hh
    have r0 := Int.emod_nonneg total c
    have r1 := Int.emod_lt_of_pos total (show 0 < many by omega)
    have z1 : (szOk (many - total % many).toNat && decide (-(2 ^ 63) ≤ many - total % many ∧ many - total % many < 2 ^ 63)) = true := by
      rw [show szOk (many - total % many).toNat = true from decide_eq_true (by omega), decide_eq_true (by omega)]; rfl
    have z2 : (szOk (total % many).toNat && decide (-(2 ^ 63) ≤ total % many ∧ total % many < 2 ^ 63)) = true := by
      rw [show szOk (total % many).toNat = true from decide_eq_true (by omega), decide_eq_true (by omega)]; rfl
    have z3 : szOk ((List.replicate (many - total % many).toNat (D.int (total / many))).length + (List.replicate (total % many).toNat (D.int (total / many + 1))).length) = true := decide_eq_true (by rw [List.length_replicate, List.length_replicate]; omega)
    generalize hr : total % many = r at *
    generalize hk : total / many = k at *
    by_cases c1 : lo > hi
    · rw [if_pos (.inl c1)]
      have d1 : decide (hi < lo) = true := decide_eq_true c1
      simp -dsimp [d, dv, d1, optD]
    · have d1 : decide (hi < lo) = false := decide_eq_false c1
      by_cases c2 : many * lo ≤ total
      · have d2 : decide (many * lo ≤ total) = true := decide_eq_true c2
        by_cases c3 : total ≤ many * hi
        · have d3 : decide (total ≤ many * hi) = true := decide_eq_true c3
          rw [if_neg (by simp only [c1, c2, c3]; simp)]
          have e : optD (some (List.replicate (many - r).toNat k ++ List.replicate r.toNat (k + 1))) = .lst (List.replicate (many - r).toNat (D.int k) ++ List.replicate r.toNat (D.int (k + 1))) := by
            simp [optD]
          have bl : belows G.length (List.replicate (many - r).toNat (D.int k) ++ List.replicate r.toNat (D.int (k + 1))) = true := by
            have := belows_ints G.length (List.replicate (many - r).toNat k ++ List.replicate r.toNat (k + 1))
            simpa using this
          rw [e]
          clear r0 r1 hl hh h0 h1 c e
          simp -dsimp only [ex_seq, ex_asg, ev_v, List.map_cons, List.map_nil, Nat.reduceSub, List.replicate_succ, List.replicate_zero, List.cons_append, List.nil_append, List.getElem?_cons_zero, Option.join_some, zo_some, zs_ok, List.length_cons, List.length_nil, Nat.reduceAdd, decide_true, zi_true, pps_cons, pp_nm, pps_nil, zt_nx, seti_eq, List.set_cons_zero, List.set_cons_succ, ex_ite, ev_or, ev_not, es_cons, es_nil, List.getElem?_cons_succ, zb_ok, zp_tup, zl_bl, Bool.not_true, zi_false, ex_pass, ev_chain, ev_c, cm_le, ev_cmp, cm_gt, cm_eq, d, d1, d2, d3, ex_ret, ev_bin, bd_sub, bd_mul, bd_add, m1, m2, zt_ret, ev_bi, bi_divmod, dv, hr, hk, sq_tup, ev_lst, mk_f, bd_mull, Nat.one_mul, z1, z2, flat_one, bd_addl, z3, fr_ttf, fz_lst, be_lst, bl, if_true, List.take_length]
        · have d3 : decide (total ≤ many * hi) = false := decide_eq_false c3
          rw [if_pos (.inr fun z => c3 z.2)]
          simp -dsimp [d, dv, d1, d2, d3, m1, m2, optD]
      · have d2 : decide (many * lo ≤ total) = false := decide_eq_false c2
        rw [if_pos (.inr fun z => c2 z.1)]
        simp -dsimp [d, dv, d1, d2, m1, m2, optD]
def fWithin : Fn := ⟨2, 2, true, true, (.ret (.or_ (.cmp .eq (.v 0) (.g 3)) (.and_ (.cmp .le (.ix (.v 1) (.c (.int 2))) (.ix (.v 0) (.c (.int 2)))) (.cmp .ge (.ix (.v 1) (.c (.int 3))) (.ix (.v 0) (.c (.int 3)))))))⟩
def WithinR (cl : List Nat → Nat → List D → Hp → R) (i : Nat) : Prop := ∀ (s : S) (g : S4) (ms : List Nat) (G : Hp), cl ms i [stD s, stD (some g)] G = .ok (.bl (within s g)) G
theorem within_run (h3 : gl 3 = some (stD none)) (s : S) (g : S4) : run cl gl ms fWithin [stD s, stD (some g)] G = .ok (.bl (within s g)) G := by
  have gx2 : ∀ G, ixD (stD (some g)) (.int 2) G = .ok (.int g.l) G := fun G => rfl
  have gx3 : ∀ G, ixD (stD (some g)) (.int 3) G = .ok (.int g.g) G := fun G => rfl
  have sx2 : ∀ q G, ixD (stD (some q)) (.int 2) G = .ok (.int q.l) G := fun q G => rfl
  have sx3 : ∀ q G, ixD (stD (some q)) (.int 3) G = .ok (.int q.g) G := fun q G => rfl
  have c0 := fun G => cm_st G s none
  unfold fWithin
  rw [run_t (by rfl)]
  cases s with
  | none =>
    have c0 : ∀ G, cmpD .eq (stD none) (stD none) G = .ok (.bl true) G := c0
    have e : within none g = true := rfl
    rw [e]
    generalize stD none = N at *
    generalize stD (some g) = Gd at *
    simp -dsimp [h3, c0]
  | some q =>
    have sx2 := sx2 q
    have sx3 := sx3 q
    have c0 : ∀ G, cmpD .eq (stD (some q)) (stD none) G = .ok (.bl false) G := c0
    have e : within (some q) g = (decide (g.l ≤ q.l) && decide (q.g ≤ g.g)) := rfl
    rw [e]
    generalize stD none = N at *
    generalize stD (some q) = Q at *
    generalize stD (some g) = Gd at *
    generalize hd : decide (g.l ≤ q.l) = d
    cases d <;> simp -dsimp [h3, c0, gx2, gx3, sx2, sx3, hd]
def fPlanB (mu ev : Nat) : Fn := ⟨4, 8, true, true, (.seq (.set 4 (.call mu (.cons (.v 0) (.cons (.v 1) .nil))))
  (.seq (.set 5 (.bin .sub false (.bin .sub false (.ix (.v 1) (.c (.int 0))) (.ix (.v 0) (.c (.int 0)))) (.bi .len false (.cons (.v 4) .nil))))
  (.seq (.ite (.or_ (.cmp .lt (.v 5) (.c (.int 0))) (.not_ (.bi .all false (.cons (.comp false .val [7] [7] true (.cons (.v 4) .nil) (.c (.bl true)) (.chain .le .le (.v 2) (.v 7) (.v 3))) .nil)))) (.ret (.c .non))
  .pass)
  (.seq (.set 6 (.call ev (.cons (.v 5) (.cons (.bin .sub false (.bin .sub false (.ix (.v 1) (.c (.int 1))) (.ix (.v 0) (.c (.int 1)))) (.bi .sum false (.cons (.v 4) .nil))) (.cons (.bi .max2 false (.cons (.v 2) (.cons (.ix (.v 1) (.c (.int 2))) .nil))) (.cons (.bi .min2 false (.cons (.v 3) (.cons (.ix (.v 1) (.c (.int 3))) .nil))) .nil))))))
  (.seq (.ite (.cmp .is_ (.v 6) (.c .non)) (.ret (.c .non))
  .pass)
  (.ret (.bi .sorted false (.cons (.bin .add false (.v 4) (.v 6)) .nil))))))))⟩
def PlanBR (cl : List Nat → Nat → List D → Hp → R) (i : Nat) : Prop := ∀ (s : S) (g : S4) (lo hi : Int) (ms : List Nat) (G : Hp), Val g → W30 lo → W30 hi → g.c - cnt s ≤ 200 → cl ms i [stD s, stD (some g), .int lo, .int hi] G = .ok (optD (planB s g lo hi)) G
theorem musts_len (s : S) (g : S4) : (musts s g).length ≤ 2 := by
  unfold musts
  dsimp only
  split <;> split <;> simp
theorem planB_run {mu ev : Nat} (Mu : MustsR cl mu) (Ev : EvenR cl ev) {s : S} {g : S4} {lo hi : Int} (hv : Val g) (hl : W30 lo) (hh : W30 hi) (hn : g.c - cnt s ≤ 200) : run cl gl ms (fPlanB mu ev) [stD s, stD (some g), .int lo, .int hi] G = .ok (optD (planB s g lo hi)) G := by
  have gx0 : ∀ G, ixD (stD (some g)) (.int 0) G = .ok (.int g.c) G := fun G => rfl
  have gx1 : ∀ G, ixD (stD (some g)) (.int 1) G = .ok (.int g.t) G := fun G => rfl
  have gx2 : ∀ G, ixD (stD (some g)) (.int 2) G = .ok (.int g.l) G := fun G => rfl
  have gx3 : ∀ G, ixD (stD (some g)) (.int 3) G = .ok (.int g.g) G := fun G => rfl
  have sx0 : ∀ G, ixD (stD s) (.int 0) G = .ok (.int (cnt s)) G := fun G => by cases s <;> rfl
  have sx1 : ∀ G, ixD (stD s) (.int 1) G = .ok (.int (tot s)) G := fun G => by cases s <;> rfl
  have mu1 := Mu s g (G.length :: ms) G
  have ml := musts_len s g
  have s0 : List.map some [stD s, stD (some g), .int lo, .int hi] ++ List.replicate (8 - 4) none = [some (stD s), some (stD (some g)), some (.int lo), some (.int hi), none, none, none, none] := rfl
  have al : biD .all false [.lst ((musts s g).map fun v => .bl (decide (lo ≤ v) && decide (v ≤ hi)))] G = .ok (.bl ((musts s g).all fun v => decide (lo ≤ v) && decide (v ≤ hi))) G := by
    show (match blsD ((musts s g).map fun v => D.bl (decide (lo ≤ v) && decide (v ≤ hi))) with | some bs => R.ok (.bl (bs.all id)) G | none => .bad) = _
    rw [blsD_map]
    simp only [List.all_map]
    rfl
  have cp : ∀ x5 x6 x7, eval cl gl (G.length :: ms) (.comp false .val [7] [7] true (.cons (.v 4) .nil) (.c (.bl true)) (.chain .le .le (.v 2) (.v 7) (.v 3))) [some (stD s), some (stD (some g)), some (.int lo), some (.int hi), some (.lst ((musts s g).map .int)), x5, x6, x7] G = .ok (.lst ((musts s g).map fun v => .bl (decide (lo ≤ v) && decide (v ≤ hi)))) G := fun x5 x6 x7 => by
    have := comp_pure_on (cl := cl) (gl := gl) (m := G.length :: ms) (s := [some (stD s), some (stD (some g)), some (.int lo), some (.int hi), some (.lst ((musts s g).map .int)), x5, x6, x7]) (G := G) (it := .cons (.v 4) .nil) (own := [7]) (pt := [7]) (one := true) (w := false) (k := .val) (elt := .chain .le .le (.v 2) (.v 7) (.v 3))
      (g := D.int) (f := fun v => .bl (decide (lo ≤ v) && decide (v ≤ hi))) (musts s g) (ds := [.lst ((musts s g).map .int)]) (by simp -dsimp) rfl (by omega) fun v hvv => ⟨_, rfl, by
        generalize hd : decide (lo ≤ v) = d
        cases d <;> simp -dsimp [wipes, hd]⟩
    rw [this, mk_f]
  have sm : biD .sum false [.lst ((musts s g).map .int)] G = .ok (.int (musts s g).sum) G := by
    show (match intsD ((musts s g).map .int) with | some ns => R.ok (.int ns.sum) G | none => .bad) = _
    rw [intsD_map]
  have q1 : exec cl gl (G.length :: ms) (.set 4 (.call mu (.cons (.v 0) (.cons (.v 1) .nil)))) [some (stD s), some (stD (some g)), some (.int lo), some (.int hi), none, none, none, none] G = .nx [some (stD s), some (stD (some g)), some (.int lo), some (.int hi), some (.lst ((musts s g).map .int)), none, none, none] G := by
    generalize stD s = Sd at *
    generalize stD (some g) = Gd at *
    simp -dsimp [mu1]
  have q2 : exec cl gl (G.length :: ms) (.set 5 (.bin .sub false (.bin .sub false (.ix (.v 1) (.c (.int 0))) (.ix (.v 0) (.c (.int 0)))) (.bi .len false (.cons (.v 4) .nil)))) [some (stD s), some (stD (some g)), some (.int lo), some (.int hi), some (.lst ((musts s g).map .int)), none, none, none] G = .nx [some (stD s), some (stD (some g)), some (.int lo), some (.int hi), some (.lst ((musts s g).map .int)), some (.int (g.c - cnt s - ((musts s g).length : Nat))), none, none] G := by
    generalize stD s = Sd at *
    generalize stD (some g) = Gd at *
    have : ((musts s g).map D.int).length = (musts s g).length := List.length_map _
    generalize (musts s g).map D.int = M at *
    simp -dsimp [gx0, sx0, this]
  unfold fPlanB planB
  rw [run_t (by rfl), s0, ex_seq, q1, O.then_nx, ex_seq, q2, O.then_nx, ex_seq]
  have hev : 0 ≤ g.c - cnt s - ((musts s g).length : Nat) → cl (G.length :: ms) ev [.int (g.c - cnt s - ((musts s g).length : Nat)), .int (g.t - tot s - (musts s g).sum), .int (if g.l > lo then g.l else lo), .int (if g.g < hi then g.g else hi)] G = .ok (optD (even (g.c - cnt s - ((musts s g).length : Nat)) (g.t - tot s - (musts s g).sum) (if g.l > lo then g.l else lo) (if g.g < hi then g.g else hi))) G := fun h => by
    have := hv.l1
    have := hv.g1
    have := hv.lg
    unfold W30 at hl hh
    refine Ev _ _ _ _ _ G h (by omega) ?_ ?_
    · unfold Big; split <;> omega
    · unfold Big; split <;> omega
  have eln : ∀ r, even (g.c - cnt s - ((musts s g).length : Nat)) (g.t - tot s - (musts s g).sum) (if g.l > lo then g.l else lo) (if g.g < hi then g.g else hi) = some r → 0 ≤ g.c - cnt s - ((musts s g).length : Nat) → r.length ≤ 200 := fun r h h0 => by
    have := (even_ok h0 h).1
    omega
  generalize hL : g.c - cnt s - ((musts s g).length : Nat) = L at *
  generalize hA : (musts s g).all (fun v => decide (lo ≤ v) && decide (v ≤ hi)) = A at *
  generalize hB : (musts s g).map (fun v => D.bl (decide (lo ≤ v) && decide (v ≤ hi))) = B at *
  have srt : ∀ r : List Int, biD .sorted false [.lst ((musts s g).map .int ++ r.map .int)] G = .ok (.lst ((srtI (musts s g ++ r)).map .int)) G := fun r => by
    show (match intsD ((musts s g).map .int ++ r.map .int) with | some ns => mkl false ((srtI ns).map .int) G | none => .bad) = _
    rw [← List.map_append, intsD_map]; rfl
  have msz : ((musts s g).map D.int).length ≤ 2 := by rw [List.length_map]; exact ml
  generalize hE : even L (g.t - tot s - (musts s g).sum) (if g.l > lo then g.l else lo) (if g.g < hi then g.g else hi) = ee at *
  generalize (musts s g).sum = sm0 at *
  generalize (musts s g).map D.int = M at *
  generalize stD s = Sd at *
  generalize stD (some g) = Gd at *
  by_cases c1 : L < 0
  · rw [if_pos (.inl c1)]
    have d1 : decide (L < 0) = true := decide_eq_true c1
    simp -dsimp [d1, optD]
  · have d1 : decide (L < 0) = false := decide_eq_false c1
    cases A with
    | false =>
      rw [if_pos (.inr rfl)]
      simp -dsimp only [ex_ite, ev_or, ev_cmp, ev_v, List.getElem?_cons_succ, List.getElem?_cons_zero, Option.join_some, zo_some, zb_ok, ev_c, cm_lt, d1, zl_bl, zi_false, ev_not, ev_bi, es_cons, es_nil, cp, zp_tup, al, Bool.not_false, zi_true, zs_ok, ex_ret, zt_ret, fr_ttf, fz_non, be_non, if_true, List.take_length]
      rfl
    | true =>
      rw [if_neg (by simp; omega)]
      have q3 : exec cl gl (G.length :: ms) (.ite (.or_ (.cmp .lt (.v 5) (.c (.int 0))) (.not_ (.bi .all false (.cons (.comp false .val [7] [7] true (.cons (.v 4) .nil) (.c (.bl true)) (.chain .le .le (.v 2) (.v 7) (.v 3))) .nil)))) (.ret (.c .non)) .pass) [some Sd, some Gd, some (.int lo), some (.int hi), some (.lst M), some (.int L), none, none] G = .nx [some Sd, some Gd, some (.int lo), some (.int hi), some (.lst M), some (.int L), none, none] G := by
        simp -dsimp only [ex_ite, ev_or, ev_cmp, ev_v, List.getElem?_cons_succ, List.getElem?_cons_zero, Option.join_some, zo_some, zb_ok, ev_c, cm_lt, d1, zl_bl, zi_false, ev_not, ev_bi, es_cons, es_nil, cp, zp_tup, al, Bool.not_true, zi_true, zs_ok, ex_pass]
      have hev := hev (by omega)
      have q4 : exec cl gl (G.length :: ms) (.set 6 (.call ev (.cons (.v 5) (.cons (.bin .sub false (.bin .sub false (.ix (.v 1) (.c (.int 1))) (.ix (.v 0) (.c (.int 1)))) (.bi .sum false (.cons (.v 4) .nil))) (.cons (.bi .max2 false (.cons (.v 2) (.cons (.ix (.v 1) (.c (.int 2))) .nil))) (.cons (.bi .min2 false (.cons (.v 3) (.cons (.ix (.v 1) (.c (.int 3))) .nil))) .nil)))))) [some Sd, some Gd, some (.int lo), some (.int hi), some (.lst M), some (.int L), none, none] G = .nx [some Sd, some Gd, some (.int lo), some (.int hi), some (.lst M), some (.int L), some (optD ee), none] G := by
        simp -dsimp only [ex_set, ev_call, es_cons, es_nil, ev_v, List.getElem?_cons_succ, List.getElem?_cons_zero, Option.join_some, zo_some, zb_ok, ev_bin, ev_ix, ev_c, gx1, sx1, bd_sub, ev_bi, zp_tup, sm, gx2, gx3, bi_max2, bi_min2, hev, zs_ok, seti_eq, List.set_cons_succ, List.set_cons_zero]
      rw [q3, O.then_nx, ex_seq, q4, O.then_nx]
      cases ee with
      | none => simp -dsimp [optD]
      | some r =>
        have rl := eln r rfl (by omega)
        have sz : szOk (M.length + (r.map D.int).length) = true := decide_eq_true (by rw [List.length_map]; omega)
        have srt := srt r
        have bl := belows_ints G.length (srtI (musts s g ++ r))
        show fin _ _ _ (O.then (exec cl gl (G.length :: ms) _ [some Sd, some Gd, some (.int lo), some (.int hi), some (.lst M), some (.int L), some (.lst (r.map .int)), none] G) _) = .ok (.lst ((srtI (musts s g ++ r)).map .int)) G
        generalize r.map D.int = Rm at *
        generalize (srtI (musts s g ++ r)).map D.int = Z at *
        simp -dsimp [sz, srt, bl]
def planD (s g : S) (lo hi : Int) : D := if s = g then .lst [] else match g with
  | none => .non
  | some g => if 0 < g.c - cnt s ∧ g.c - cnt s ≤ 200 ∧ within s g = true then optD (planB s g lo hi) else .non
def fPlan (st bo wi pb : Nat) : Fn := ⟨4, 4, true, true, (.seq (.set 0 (.call st (.cons (.v 0) .nil)))
  (.seq (.set 1 (.call st (.cons (.v 1) .nil)))
  (.seq (.ex (.call bo (.cons (.v 2) (.cons (.v 3) .nil))))
  (.seq (.ite (.cmp .eq (.v 0) (.v 1)) (.ret (.lst false .nil))
  .pass)
  (.seq (.ite (.or_ (.not_ (.chain .lt .le (.c (.int 0)) (.bin .sub false (.ix (.v 1) (.c (.int 0))) (.ix (.v 0) (.c (.int 0)))) (.g 2))) (.not_ (.call wi (.cons (.v 0) (.cons (.v 1) .nil))))) (.ret (.c .non))
  .pass)
  (.ret (.call pb (.cons (.v 0) (.cons (.v 1) (.cons (.v 2) (.cons (.v 3) .nil)))))))))))⟩
def PlanR (cl : List Nat → Nat → List D → Hp → R) (i : Nat) : Prop := ∀ (s g : S) (x y : D) (lo hi : Int) (ms : List Nat) (G : Hp), Ok30 s → Ok30 g → IsSt s x → IsSt g y → W30 lo → W30 hi → lo ≤ hi → cl ms i [x, y, .int lo, .int hi] G = .ok (planD s g lo hi) G
theorem plan_run {st bo wi pb : Nat} (St : StateR cl st) (Bo : BoundsR cl bo) (Wi : WithinR cl wi) (Pb : PlanBR cl pb) (h2 : gl 2 = some (.int 200)) {s g : S} {x y : D} {lo hi : Int} (hs : Ok30 s) (hg : Ok30 g) (hx : IsSt s x) (hy : IsSt g y) (hl : W30 lo) (hh : W30 hi) (hlh : lo ≤ hi) :
    run cl gl ms (fPlan st bo wi pb) [x, y, .int lo, .int hi] G = .ok (planD s g lo hi) G := by
  have s1 := St s x (G.length :: ms) G hs hx
  have s2 := St g y (G.length :: ms) G hg hy
  have b1 := Bo lo hi (G.length :: ms) G hl hh hlh
  have ce := cm_st G s g
  have gx0 : ∀ G, ixD (stD g) (.int 0) G = .ok (.int (cnt g)) G := fun G => by cases g <;> rfl
  have sx0 : ∀ G, ixD (stD s) (.int 0) G = .ok (.int (cnt s)) G := fun G => by cases s <;> rfl
  have s0 : List.map some [x, y, .int lo, .int hi] ++ List.replicate (4 - 4) none = [some x, some y, some (.int lo), some (.int hi)] := rfl
  unfold fPlan planD
  rw [run_t (by rfl), s0]
  by_cases c : s = g
  · rw [if_pos c]
    rw [decide_eq_true c] at ce
    generalize stD s = Sd at *
    generalize stD g = Gd at *
    simp -dsimp [s1, s2, b1, ce]
  · rw [if_neg c]
    rw [decide_eq_false c] at ce
    have st1 : exec cl gl (G.length :: ms) (.set 0 (.call st (.cons (.v 0) .nil))) [some x, some y, some (.int lo), some (.int hi)] G = .nx [some (stD s), some y, some (.int lo), some (.int hi)] G := by
      generalize stD s = Sd at *
      simp -dsimp [s1]
    have st2 : exec cl gl (G.length :: ms) (.set 1 (.call st (.cons (.v 1) .nil))) [some (stD s), some y, some (.int lo), some (.int hi)] G = .nx [some (stD s), some (stD g), some (.int lo), some (.int hi)] G := by
      generalize stD s = Sd at *
      generalize stD g = Gd at *
      simp -dsimp [s2]
    have st3 : exec cl gl (G.length :: ms) (.ex (.call bo (.cons (.v 2) (.cons (.v 3) .nil)))) [some (stD s), some (stD g), some (.int lo), some (.int hi)] G = .nx [some (stD s), some (stD g), some (.int lo), some (.int hi)] G := by
      generalize stD s = Sd at *
      generalize stD g = Gd at *
      simp -dsimp [b1]
    have st4 : exec cl gl (G.length :: ms) (.ite (.cmp .eq (.v 0) (.v 1)) (.ret (.lst false .nil)) .pass) [some (stD s), some (stD g), some (.int lo), some (.int hi)] G = .nx [some (stD s), some (stD g), some (.int lo), some (.int hi)] G := by
      generalize stD s = Sd at *
      generalize stD g = Gd at *
      simp -dsimp [ce]
    rw [ex_seq, st1, O.then_nx, ex_seq, st2, O.then_nx, ex_seq, st3, O.then_nx, ex_seq, st4, O.then_nx]
    cases g with
    | none =>
      have d1 : decide (0 < cnt none - cnt s) = false := decide_eq_false (by
        cases s with
        | none => exact absurd rfl c
        | some q => have := (hs.1 q rfl).c; show ¬ (0 < 0 - q.c); omega)
      have d1 : decide (cnt s < cnt none) = false := by rw [← d1]; exact decide_eq_decide.mpr (by omega)
      generalize cnt none = N at *
      generalize stD s = Sd at *
      generalize stD none = Gd at *
      simp -dsimp [gx0, sx0, d1]
    | some g =>
      have w1 := Wi s g (G.length :: ms) G
      have p1 := fun h => Pb s g lo hi (G.length :: ms) G (hg.1 g rfl) hl hh h
      have ec : cnt (some g) = g.c := rfl
      rw [ec] at gx0
      have bl : below G.length (optD (planB s g lo hi)) = true := by
        cases planB s g lo hi with
        | none => rfl
        | some r => exact belows_ints _ _
      have fz : frzD G G.length (optD (planB s g lo hi)) = optD (planB s g lo hi) := by cases planB s g lo hi <;> rfl
      dsimp only
      by_cases c1 : 0 < g.c - cnt s
      · have d1 : decide (cnt s < g.c) = true := decide_eq_true (by omega)
        by_cases c2 : g.c - cnt s ≤ 200
        · have d2 : decide (g.c - cnt s ≤ 200) = true := decide_eq_true c2
          cases hw : within s g with
          | true =>
            rw [if_pos ⟨c1, c2, rfl⟩]
            rw [hw] at w1
            have p1 := p1 c2
            generalize optD (planB s g lo hi) = P at *
            generalize stD s = Sd at *
            generalize stD (some g) = Gd at *
            simp -dsimp [gx0, sx0, d1, d2, h2, w1, p1, fz, bl]
          | false =>
            rw [if_neg (fun z => by cases z.2.2)]
            rw [hw] at w1
            generalize stD s = Sd at *
            generalize stD (some g) = Gd at *
            simp -dsimp [gx0, sx0, d1, d2, h2, w1]
        · have d2 : decide (g.c - cnt s ≤ 200) = false := decide_eq_false c2
          rw [if_neg (fun z => c2 z.2.1)]
          generalize stD s = Sd at *
          generalize stD (some g) = Gd at *
          simp -dsimp [gx0, sx0, d1, d2, h2]
      · have d1 : decide (cnt s < g.c) = false := decide_eq_false (by omega)
        rw [if_neg (fun z => c1 z.1)]
        generalize stD s = Sd at *
        generalize stD (some g) = Gd at *
        simp -dsimp [gx0, sx0, d1, h2]
end
end Pl
end PK
namespace PK
open PySem
section
variable {cl : List Nat → Nat → List D → Hp → R} {gl : Nat → Option D} {ms : List Nat} {p : Nat} {n : Int} {G : Hp}
theorem PotAt.self (h : PotAt G p) : ∃ a b, PotOk b ∧ G.set p (potC a b) = G := by
  obtain ⟨a, b, h, hb⟩ := h
  refine ⟨a, b, hb, ?_⟩
  obtain ⟨hp, h⟩ := List.getElem?_eq_some_iff.mp h
  rw [← h]; exact List.set_getElem_self hp
theorem draw_comp {step : D → Hp → R} {k : List D → Hp → R} {Pd : D → Prop} (hs : ∀ x G, PotAt G p → Drawn (step x G) G p (fun v => ∃ y, v = .tup [y] ∧ Pd y)) :
    ∀ (xs : List D) (G : Hp) (acc : List D), PotAt G p → ∃ ys a b, ys.length = xs.length ∧ (∀ y ∈ ys, Pd y) ∧ PotOk b ∧ compF step none xs G acc k = k (acc ++ ys) (G.set p (potC a b))
  | [], G, acc, h => by
    obtain ⟨a, b, hb, e⟩ := h.self
    exact ⟨[], a, b, rfl, (fun y hy => by cases hy), hb, by rw [e, List.append_nil]; rfl⟩
  | x :: xs, G, acc, h => by
    obtain ⟨v, a, b, e, hb, y, rfl, py⟩ := hs x G h
    obtain ⟨ys, a2, b2, h1, h2, h3, h4⟩ := draw_comp hs xs (G.set p (potC a b)) (acc ++ [y]) (h.set hb)
    refine ⟨y :: ys, a2, b2, by simp [h1], fun z hz => ?_, h3, ?_⟩
    · rcases List.mem_cons.mp hz with q | q
      · rw [q]; exact py
      · exact h2 z q
    · show (step x G).bind _ = _
      rw [e]
      show compF step none xs (G.set p (potC a b)) (acc ++ [y]) k = _
      rw [h4, List.set_set, List.append_assoc]; rfl
def alph : Str := Str.ofString "abcdefghijklmnopqrstuvwxyz0123456789"
end
end PK
namespace PK
open PySem TL
section
variable {cl : List Nat → Nat → List D → Hp → R} {gl : Nat → Option D} {ms : List Nat} {p : Nat} {n : Int} {G : Hp}
def Key (v : D) : Prop := ∃ cs : List Nat, v = .str ⟨cs.toArray⟩ ∧ 1 ≤ cs.length ∧ cs.length ≤ 8 ∧ ∀ c ∈ cs, c ∈ alph.cps.toList
end
end PK
namespace PK
open PySem
theorem for_range {slot : Nat} {step : Env → Hp → O} {Inv : Nat → Env → Hp → Prop} {n : Nat} (hs : ∀ i s G, i < n → Inv i s G → ∃ s' G', step (s.set slot (some (.int (i : Nat)))) G = .nx s' G' ∧ Inv (i + 1) s' G') :
    ∀ (k i : Nat) (s : Env) (G : Hp), i + k = n → Inv i s G → ∃ s' G', forF [slot] true step none (rangeD (i : Nat) k) s G = .nx s' G' ∧ Inv n s' G'
  | 0, i, s, G, h, v => ⟨s, G, rfl, by rw [← h]; exact v⟩
  | k + 1, i, s, G, h, v => by
    obtain ⟨s1, G1, e1, v1⟩ := hs i s G (by omega) v
    obtain ⟨s2, G2, e2, v2⟩ := for_range hs k (i + 1) s1 G1 (by omega) v1
    refine ⟨s2, G2, ?_, v2⟩
    show (step (s.set slot (some (.int (i : Nat)))) G).turn _ = _
    rw [e1]
    show forF [slot] true step none (rangeD ((i : Int) + 1) k) s1 G1 = _
    exact e2
end PK
namespace PK
open PySem
theorem wok_of_below {q : Nat} {m : List Nat} {v : D} (h : ∀ k, below k v = true) : wok q m v = true := List.all_eq_true.mpr fun k _ => by rw [h k]; rfl
section
variable {cl : List Nat → Nat → List D → Hp → R} {gl : Nat → Option D} {ms : List Nat} {cell pot wide key t : Nat}
end
end PK
namespace PK
namespace Pl
open PySem
def IsInts (G : Hp) (x : D) (vs : List Int) : Prop := x = .lst (vs.map .int) ∨ ∃ p, x = .ref p ∧ G[p]? = some (.lst (vs.map .int))
theorem it_ints {G : Hp} {x : D} {vs : List Int} (h : IsInts G x vs) : ∃ g, still G g = true ∧ itD .val [x] G = some (vs.map .int, g) ∧ itD .enum [x] G = some (enumD 0 (vs.map .int), g) := by
  rcases h with rfl | ⟨p, rfl, h⟩
  · exact ⟨none, rfl, rfl, rfl⟩
  · exact ⟨some (p, .lst (vs.map .int)), decide_eq_true h, it_ref h, it_eref h⟩
theorem len_ints {G : Hp} {x : D} {vs : List Int} (h : IsInts G x vs) : lenD G x = some vs.length := by
  rcases h with rfl | ⟨p, rfl, h⟩
  · rw [ln_lst, List.length_map]
  · rw [ln_ref, h, zc_l, List.length_map]
theorem ix_ints {G : Hp} {x : D} {vs : List Int} (h : IsInts G x vs) (k : Nat) (hk : k < vs.length) : ixD x (.int (k : Nat)) G = .ok (.int vs[k]) G := by
  have e : L2.atI (vs.map D.int) (k : Int) = some (.int vs[k]) := by rw [at_nat]; simp [hk]
  rcases h with rfl | ⟨p, rfl, h⟩
  · rw [ix_lst, e]; rfl
  · rw [ix_ref, h, zr_l, e]; rfl
theorem ty_ints {G : Hp} {x : D} {vs : List Int} (h : IsInts G x vs) : typed G x = true ∧ isTy G x .list = true := by
  rcases h with rfl | ⟨p, rfl, h⟩
  · exact ⟨rfl, rfl⟩
  · constructor
    · simp [typed, h]
    · simp [isTy, h]
theorem for_pure {α : Type} {step : Env → Hp → O} {f : α → D} {slot : Nat} {g : Option (Nat × Cell)} {G : Hp} {Inv : List α → Env → Prop} (hg : still G g = true)
    (hs : ∀ a as s, Inv (a :: as) s → ∃ s', step (s.set slot (some (f a))) G = .nx s' G ∧ Inv as s') : ∀ (l : List α) (s : Env), Inv l s → ∃ s', forF [slot] true step g (l.map f) s G = .nx s' G ∧ Inv [] s'
  | [], s, v => ⟨s, by show iteK (still G g) _ _ = _; rw [hg]; rfl, v⟩
  | a :: l, s, v => by
    obtain ⟨s1, e1, v1⟩ := hs a l s v
    obtain ⟨s2, e2, v2⟩ := for_pure hg hs l s1 v1
    refine ⟨s2, ?_, v2⟩
    show iteK (still G g) (fun _ => (step (s.set slot (some (f a))) G).turn _) _ = _
    rw [hg, e1]
    exact e2
def fC (u : S) : D := .int (cnt u)
def fT (u : S) : D := .int (tot u)
def fL : S → D
  | none => .non
  | some q => .int q.l
def fG : S → D
  | none => .non
  | some q => .int q.g
theorem st_f (u : S) : stDs u = [fC u, fT u, fL u, fG u] := by cases u <;> rfl
section
variable {cl : List Nat → Nat → List D → Hp → R} {gl : Nat → Option D} {ms : List Nat} {G : Hp}
def bAdd : M := (.seq (.set 2 (.bin .add false (.v 2) (.c (.int 1))))
  (.seq (.set 3 (.bin .add false (.v 3) (.v 6)))
  (.seq (.ite (.or_ (.cmp .is_ (.v 4) (.c .non)) (.cmp .lt (.v 6) (.v 4))) (.set 4 (.v 6))
  .pass)
  (.ite (.or_ (.cmp .is_ (.v 5) (.c .non)) (.cmp .gt (.v 6) (.v 5))) (.set 5 (.v 6))
  .pass))))
def fAdded : Fn := ⟨2, 7, true, true, (.seq (.asg [(.nm 2), (.nm 3), (.nm 4), (.nm 5)] (.v 0))
  (.seq (.for .val [6] true (.cons (.v 1) .nil) bAdd)
  (.ret (.tup (.cons (.v 2) (.cons (.v 3) (.cons (.v 4) (.cons (.v 5) .nil))))))))⟩
theorem add_turn (x0 x1 : Option D) (u : S) (v : Int) : exec cl gl ms bAdd [x0, x1, some (fC u), some (fT u), some (fL u), some (fG u), some (.int v)] G =
    .nx [x0, x1, some (fC (some (add1 u v))), some (fT (some (add1 u v))), some (fL (some (add1 u v))), some (fG (some (add1 u v))), some (.int v)] G := by
  unfold bAdd
  cases u with
  | none => simp -dsimp [fC, fT, fL, fG, cnt, tot, add1]
  | some q =>
    have e1 : fC (some (add1 (some q) v)) = .int (q.c + 1) := rfl
    have e2 : fT (some (add1 (some q) v)) = .int (q.t + v) := rfl
    have e3 : fL (some (add1 (some q) v)) = .int (if v < q.l then v else q.l) := rfl
    have e4 : fG (some (add1 (some q) v)) = .int (if v > q.g then v else q.g) := rfl
    rw [e1, e2, e3, e4]
    have f1 : fC (some q) = .int q.c := rfl
    have f2 : fT (some q) = .int q.t := rfl
    have f3 : fL (some q) = .int q.l := rfl
    have f4 : fG (some q) = .int q.g := rfl
    rw [f1, f2, f3, f4]
    have n1 : decide (D.int q.l = .non) = false := rfl
    have n2 : decide (D.int q.g = .non) = false := rfl
    by_cases c1 : v < q.l
    · rw [if_pos c1]
      have d1 : decide (v < q.l) = true := decide_eq_true c1
      by_cases c2 : v > q.g
      · rw [if_pos c2]
        have d2 : decide (q.g < v) = true := decide_eq_true c2
        simp -dsimp [n1, n2, d1, d2]
      · rw [if_neg c2]
        have d2 : decide (q.g < v) = false := decide_eq_false c2
        simp -dsimp [n1, n2, d1, d2]
    · rw [if_neg c1]
      have d1 : decide (v < q.l) = false := decide_eq_false c1
      by_cases c2 : v > q.g
      · rw [if_pos c2]
        have d2 : decide (q.g < v) = true := decide_eq_true c2
        simp -dsimp [n1, n2, d1, d2]
      · rw [if_neg c2]
        have d2 : decide (q.g < v) = false := decide_eq_false c2
        simp -dsimp [n1, n2, d1, d2]
def AddedR (cl : List Nat → Nat → List D → Hp → R) (i : Nat) : Prop := ∀ (s : S) (x y : D) (vs : List Int) (ms : List Nat) (G : Hp), IsSt s x → IsInts G y vs → cl ms i [x, y] G = .ok (stD (added s vs)) G
theorem added_run {s : S} {x y : D} {vs : List Int} (hx : IsSt s x) (hy : IsInts G y vs) : run cl gl ms fAdded [x, y] G = .ok (stD (added s vs)) G := by
  obtain ⟨g, hg, i1, _⟩ := it_ints hy
  have sq := seq_st hx G
  rw [st_f] at sq
  unfold fAdded
  rw [run_t (by rfl)]
  have e0 : List.map some [x, y] ++ List.replicate (7 - 2) none = [some x, some y, none, none, none, none, none] := rfl
  have q1 : exec cl gl (G.length :: ms) (.asg [(.nm 2), (.nm 3), (.nm 4), (.nm 5)] (.v 0)) [some x, some y, none, none, none, none, none] G = .nx [some x, some y, some (fC s), some (fT s), some (fL s), some (fG s), none] G := by
    simp -dsimp [sq]
  obtain ⟨s', e, u, y6, hs, hu⟩ := for_pure (slot := 6) (f := D.int) (step := fun s G => exec cl gl (G.length :: ms) bAdd s G) (G := G) (Inv := fun as s' => ∃ u y6, s' = [some x, some y, some (fC u), some (fT u), some (fL u), some (fG u), y6] ∧ added u as = added s vs) hg
    (fun a as s' ⟨u, y6, h1, h2⟩ => by
      subst h1
      exact ⟨_, add_turn (some x) (some y) u a, some (add1 u a), some (.int a), rfl, h2⟩) vs _ ⟨s, none, rfl, rfl⟩
  subst hs
  have hu : u = added s vs := hu
  have q2 : exec cl gl (G.length :: ms) (.for .val [6] true (.cons (.v 1) .nil) bAdd) [some x, some y, some (fC s), some (fT s), some (fL s), some (fG s), none] G = .nx [some x, some y, some (fC u), some (fT u), some (fL u), some (fG u), y6] G := by
    have ev : evals cl gl (G.length :: ms) (.cons (.v 1) .nil) [some x, some y, some (fC s), some (fT s), some (fL s), some (fG s), none] G = .ok (.tup [y]) G := by simp -dsimp
    rw [ex_for, ev, R.st_ok, tupK_tup, i1, optK_some]
    exact e
  have q3 : exec cl gl (G.length :: ms) (.ret (.tup (.cons (.v 2) (.cons (.v 3) (.cons (.v 4) (.cons (.v 5) .nil)))))) [some x, some y, some (fC u), some (fT u), some (fL u), some (fG u), y6] G = .ret (stD u) G := by
    unfold stD
    rw [st_f]
    simp -dsimp
  rw [e0, ex_seq, q1, O.then_nx, ex_seq, q2, O.then_nx, q3, fr_ttf]
  have fz : frzD G G.length (stD u) = stD u := rfl
  rw [fz, below_st, if_pos rfl, List.take_length, hu]
def bLeads : M := (.seq (.ite (.or_ (.not_ (.isi [.int] (.v 6))) (.or_ (.isi [.bool] (.v 6)) (.not_ (.chain .le .le (.v 2) (.v 6) (.v 3))))) (.ret (.c (.bl false)))
  .pass)
  (.ite (.and_ (.cmp .gt (.v 5) (.c (.int 0))) (.cmp .gt (.ix (.v 4) (.bin .sub false (.v 5) (.c (.int 1)))) (.v 6))) (.ret (.c (.bl false)))
  .pass))
def fLeads (ad : Nat) : Fn := ⟨5, 7, true, true, (.seq (.ite (.or_ (.not_ (.isi [.list] (.v 4))) (.cmp .ne (.bi .len false (.cons (.v 4) .nil)) (.bin .sub false (.ix (.v 1) (.c (.int 0))) (.ix (.v 0) (.c (.int 0)))))) (.ret (.c (.bl false)))
  .pass)
  (.seq (.for .enum [5, 6] false (.cons (.v 4) .nil) bLeads)
  (.ret (.cmp .eq (.call ad (.cons (.v 0) (.cons (.v 4) .nil))) (.v 1)))))⟩
def LeadsR (cl : List Nat → Nat → List D → Hp → R) (i : Nat) : Prop := ∀ (s g : S) (lo hi : Int) (x : D) (ps : List Int) (ms : List Nat) (G : Hp), Leads s g lo hi ps → IsInts G x ps → cl ms i [stD s, stD g, .int lo, .int hi, x] G = .ok (.bl true) G
theorem leads_run {ad : Nat} (Ad : AddedR cl ad) {s g : S} {lo hi : Int} {x : D} {ps : List Int} (L : Leads s g lo hi ps) (hx : IsInts G x ps) : run cl gl ms (fLeads ad) [stD s, stD g, .int lo, .int hi, x] G = .ok (.bl true) G := by
  obtain ⟨gd, hg, _, i1⟩ := it_ints hx
  obtain ⟨t1, t2⟩ := ty_ints hx
  have ln := len_ints hx
  have gx0 : ∀ G, ixD (stD g) (.int 0) G = .ok (.int (cnt g)) G := fun G => by cases g <;> rfl
  have sx0 : ∀ G, ixD (stD s) (.int 0) G = .ok (.int (cnt s)) G := fun G => by cases s <;> rfl
  have ad1 := Ad s (stD s) x ps (G.length :: ms) G (.inl rfl) hx
  rw [L.ad] at ad1
  have ce := cm_st G g g
  rw [decide_eq_true rfl] at ce
  have so := L.so
  have bd := L.bd
  have d0 : decide ((ps.length : Int) = cnt g - cnt s) = true := decide_eq_true L.len
  unfold fLeads
  rw [run_t (by rfl)]
  have e0 : List.map some [stD s, stD g, .int lo, .int hi, x] ++ List.replicate (7 - 5) none = [some (stD s), some (stD g), some (.int lo), some (.int hi), some x, none, none] := rfl
  rw [e0]
  generalize stD s = Sd at *
  generalize stD g = Gd at *
  have q1 : exec cl gl (G.length :: ms) (.ite (.or_ (.not_ (.isi [.list] (.v 4))) (.cmp .ne (.bi .len false (.cons (.v 4) .nil)) (.bin .sub false (.ix (.v 1) (.c (.int 0))) (.ix (.v 0) (.c (.int 0)))))) (.ret (.c (.bl false))) .pass) [some Sd, some Gd, some (.int lo), some (.int hi), some x, none, none] G = .nx [some Sd, some Gd, some (.int lo), some (.int hi), some x, none, none] G := by
    simp -dsimp [t1, t2, ln, gx0, sx0, d0]
  have turn : ∀ (post pre : List Int) (y5 y6 : Option D), pre ++ post = ps → ∃ z5 z6, forF [5, 6] false (fun s G => exec cl gl (G.length :: ms) bLeads s G) gd (enumD (pre.length : Nat) (post.map .int)) [some Sd, some Gd, some (.int lo), some (.int hi), some x, y5, y6] G = .nx [some Sd, some Gd, some (.int lo), some (.int hi), some x, z5, z6] G := by
    intro post
    induction post with
    | nil => intro pre y5 y6 h; exact ⟨y5, y6, by show iteK (still G gd) _ _ = _; rw [hg]; rfl⟩
    | cons v post ih =>
      intro pre y5 y6 h
      obtain ⟨z5, z6, hz⟩ := ih (pre ++ [v]) (some (.int (pre.length : Nat))) (some (.int v)) (by rw [← h]; simp)
      refine ⟨z5, z6, ?_⟩
      show iteK (still G gd) (fun _ => (exec cl gl (G.length :: ms) bLeads [some Sd, some Gd, some (.int lo), some (.int hi), some x, some (.int (pre.length : Nat)), some (.int v)] G).turn _) _ = _
      have hb := bd v (by rw [← h]; simp)
      have d1 : decide (lo ≤ v) = true := decide_eq_true hb.1
      have d2 : decide (v ≤ hi) = true := decide_eq_true hb.2
      have st : exec cl gl (G.length :: ms) bLeads [some Sd, some Gd, some (.int lo), some (.int hi), some x, some (.int (pre.length : Nat)), some (.int v)] G = .nx [some Sd, some Gd, some (.int lo), some (.int hi), some x, some (.int (pre.length : Nat)), some (.int v)] G := by
        unfold bLeads
        by_cases c : pre = []
        · subst c
          simp -dsimp [typed, isTy, d1, d2]
        · have pl : 0 < pre.length := List.length_pos_iff.mpr c
          have dp : decide ((0 : Int) < (pre.length : Nat)) = true := decide_eq_true (by omega)
          have hk : pre.length - 1 < ps.length := by rw [← h, List.length_append]; omega
          have ix := ix_ints hx (pre.length - 1) hk
          rw [show ((pre.length - 1 : Nat) : Int) = (pre.length : Nat) - 1 by omega] at ix
          have le : ps[pre.length - 1] ≤ v := by
            have hv : pre.length < ps.length := by rw [← h, List.length_append, List.length_cons]; omega
            have := List.pairwise_iff_getElem.mp so (pre.length - 1) pre.length hk hv (by omega)
            have ev : ps[pre.length] = v := by subst h; simp
            rw [ev] at this
            exact this
          have dl : decide (v < ps[pre.length - 1]) = false := decide_eq_false (by omega)
          generalize ps[pre.length - 1] = b at ix dl
          generalize ((pre.length : Nat) : Int) = n at ix dp
          simp -dsimp only [ex_seq, ex_ite, ev_or, ev_not, ev_isi, ev_v, List.getElem?_cons_succ, List.getElem?_cons_zero, Option.join_some, zo_some, zb_ok, typed, zi_true, isTy, List.any_cons, List.any_nil, Bool.or_false, zl_bl, Bool.not_true, zi_false, ev_chain, cm_le, d1, d2, zs_ok, ex_pass, zt_nx, ev_and, ev_cmp, ev_c, cm_gt, dp, ev_ix, ev_bin, bd_sub, ix, dl]
      rw [hg, iteK_true, st, O.turn_nx]
      rw [List.length_append] at hz
      exact hz
  obtain ⟨z5, z6, hz⟩ := turn ps [] none none rfl
  have q2 : exec cl gl (G.length :: ms) (.for .enum [5, 6] false (.cons (.v 4) .nil) bLeads) [some Sd, some Gd, some (.int lo), some (.int hi), some x, none, none] G = .nx [some Sd, some Gd, some (.int lo), some (.int hi), some x, z5, z6] G := by
    have ev : evals cl gl (G.length :: ms) (.cons (.v 4) .nil) [some Sd, some Gd, some (.int lo), some (.int hi), some x, none, none] G = .ok (.tup [x]) G := by simp -dsimp
    rw [ex_for, ev, R.st_ok, tupK_tup, i1, optK_some]
    exact hz
  rw [ex_seq, q1, O.then_nx, ex_seq, q2, O.then_nx]
  simp -dsimp [ad1, ce]
end
end Pl
end PK
namespace PK
namespace Pl
open PySem
section
variable {cl : List Nat → Nat → List D → Hp → R} {gl : Nat → Option D} {ms : List Nat} {p : Nat} {G : Hp}
def TakeC (cl : List Nat → Nat → List D → Hp → R) (i : Nat) : Prop := ∀ (n : Int) (ms : List Nat) (G : Hp) (p : Nat), PotAt G p → 0 < n → n < 2 ^ 1000 → Drawn (cl ms i [.ref p, .int n] G) G p (fun v => ∃ t : Int, v = .int t ∧ 0 ≤ t ∧ t < n)
theorem hp_take {q : Nat} {c : Cell} : (G.set q c).take G.length = G.set q c := hp_take_set
end
end Pl
end PK
namespace PK
namespace Pl
open PySem
theorem plan_leads {s : S} {vs : List Int} {lo hi : Int} (hs : Ok30 s) (hb : ∀ v ∈ vs, lo ≤ v ∧ v ≤ hi) (hl : W30 lo) (hh : W30 hi) (h2 : vs.length ≤ 200) (hc : cnt (added s vs) ≤ c30) :
    Ok30 (added s vs) ∧ ∃ ps, planD s (added s vs) lo hi = .lst (ps.map .int) ∧ Leads s (added s vs) lo hi ps := by
  have va : ValO (added s vs) := val_added hs.1 fun v hv => by
    have := hb v hv
    unfold W30 at hl hh
    omega
  refine ⟨⟨va, hc⟩, ?_⟩
  by_cases h1 : vs = []
  · subst h1
    refine ⟨[], ?_, ?_⟩
    · show planD s s lo hi = _
      unfold planD
      rw [if_pos rfl]; rfl
    · show Leads s s lo hi []
      exact ⟨by simp, (fun v h => by cases h), List.Pairwise.nil, rfl⟩
  · obtain ⟨g, eg, p⟩ := spec_of vs s (.inl h1)
    have vl : 0 < vs.length := List.length_pos_iff.mpr h1
    have pc := p.c
    have w : within s g = true := by
      cases s with
      | none => rfl
      | some q =>
        have := p.st q rfl
        show (decide (g.l ≤ q.l) && decide (g.g ≥ q.g)) = true
        rw [decide_eq_true this.1, decide_eq_true this.2]; rfl
    obtain ⟨ps, ep⟩ := complete (lo := lo) (hi := hi) hb h1 eg
    have L := sound (va g eg) w (by omega) ep
    rw [eg]
    refine ⟨ps, ?_, L⟩
    unfold planD
    have ne : ¬ s = some g := fun z => by
      have : cnt s = g.c := by rw [z]; rfl
      omega
    rw [if_neg ne]
    show (if 0 < g.c - cnt s ∧ g.c - cnt s ≤ 200 ∧ within s g = true then optD (planB s g lo hi) else .non) = _
    rw [if_pos ⟨by omega, by omega, w⟩, ep]; rfl
section
variable {cl : List Nat → Nat → List D → Hp → R} {gl : Nat → Option D} {ms : List Nat} {p : Nat} {G : Hp}
end
end Pl
end PK
namespace PK
namespace Pl
open PySem
def rgI (lo : Int) : Nat → List Int
  | 0 => []
  | n + 1 => lo :: rgI (lo + 1) n
theorem range_rgI (lo : Int) : ∀ n : Nat, rangeD lo n = (rgI lo n).map D.int := fun n => by
  induction n generalizing lo with
  | zero => rfl
  | succ n ih => show D.int lo :: rangeD (lo + 1) n = _; rw [ih]; rfl
theorem mem_rgI {v : Int} : ∀ {n : Nat} {lo : Int}, v ∈ rgI lo n ↔ lo ≤ v ∧ v < lo + n
  | 0, lo => by
    constructor
    · intro h; cases h
    · intro h; exact absurd h (by show ¬ (lo ≤ v ∧ v < lo + ((0 : Nat) : Int)); omega)
  | n + 1, lo => by
    show v ∈ lo :: rgI (lo + 1) n ↔ _
    rw [List.mem_cons, mem_rgI]
    omega
theorem len_rgI : ∀ (n : Nat) (lo : Int), (rgI lo n).length = n
  | 0, _ => rfl
  | n + 1, lo => by show (rgI (lo + 1) n).length + 1 = _; rw [len_rgI]
def insQ (ks : List S4) (q : S4) : List S4 := if q ∈ ks then ks else ks ++ [q]
theorem mem_insQ {ks : List S4} {q r : S4} : r ∈ insQ ks q ↔ r ∈ ks ∨ r = q := by
  unfold insQ
  split
  · constructor
    · exact .inl
    · rintro (h | rfl)
      · exact h
      · assumption
  · simp
theorem len_insQ (ks : List S4) (q : S4) : (insQ ks q).length ≤ ks.length + 1 := by
  unfold insQ
  split
  · omega
  · simp
def row1 (u : S) (ks : List S4) (vs : List Int) : List S4 := vs.foldl (fun ks v => insQ ks (add1 u v)) ks
theorem mem_row1 {u : S} {r : S4} : ∀ {vs : List Int} {ks : List S4}, r ∈ row1 u ks vs ↔ r ∈ ks ∨ ∃ v ∈ vs, add1 u v = r
  | [], ks => by simp [row1]
  | v :: vs, ks => by
    show r ∈ row1 u (insQ ks (add1 u v)) vs ↔ _
    rw [mem_row1, mem_insQ]
    constructor
    · rintro ((h | rfl) | ⟨w, h1, h2⟩)
      · exact .inl h
      · exact .inr ⟨v, List.mem_cons_self, rfl⟩
      · exact .inr ⟨w, List.mem_cons_of_mem _ h1, h2⟩
    · rintro (h | ⟨w, h1, h2⟩)
      · exact .inl (.inl h)
      · rcases List.mem_cons.mp h1 with rfl | h1
        · exact .inl (.inr h2.symm)
        · exact .inr ⟨w, h1, h2⟩
theorem len_row1 (u : S) : ∀ (vs : List Int) (ks : List S4), (row1 u ks vs).length ≤ ks.length + vs.length
  | [], ks => Nat.le_refl _
  | v :: vs, ks => by
    show (row1 u (insQ ks (add1 u v)) vs).length ≤ _
    have := len_row1 u vs (insQ ks (add1 u v))
    have := len_insQ ks (add1 u v)
    rw [List.length_cons]; omega
def rows (ks : List S4) (vs : List Int) (l : List S) : List S4 := l.foldl (fun ks u => row1 u ks vs) ks
theorem mem_rows {vs : List Int} {r : S4} : ∀ {l : List S} {ks : List S4}, r ∈ rows ks vs l ↔ r ∈ ks ∨ ∃ u ∈ l, ∃ v ∈ vs, add1 u v = r
  | [], ks => by simp [rows]
  | u :: l, ks => by
    show r ∈ rows (row1 u ks vs) vs l ↔ _
    rw [mem_rows, mem_row1]
    constructor
    · rintro ((h | ⟨v, h1, h2⟩) | ⟨w, h1, h2⟩)
      · exact .inl h
      · exact .inr ⟨u, List.mem_cons_self, v, h1, h2⟩
      · exact .inr ⟨w, List.mem_cons_of_mem _ h1, h2⟩
    · rintro (h | ⟨w, h1, h2⟩)
      · exact .inl (.inl h)
      · rcases List.mem_cons.mp h1 with rfl | h1
        · exact .inl (.inr h2)
        · exact .inr ⟨w, h1, h2⟩
theorem len_rows (vs : List Int) : ∀ (l : List S) (ks : List S4), (rows ks vs l).length ≤ ks.length + l.length * vs.length
  | [], ks => by simp [rows]
  | u :: l, ks => by
    show (rows (row1 u ks vs) vs l).length ≤ _
    have h1 := len_rows vs l (row1 u ks vs)
    have h2 := len_row1 u vs ks
    have e : (l.length + 1) * vs.length = l.length * vs.length + vs.length := by rw [Nat.add_mul, Nat.one_mul]
    rw [List.length_cons, e]; omega
structure Lev (s : S) (lo hi : Int) (i : Nat) (l : List S) : Prop where
  mem : ∀ g, g ∈ l ↔ ∃ vs : List Int, vs.length = i ∧ (∀ v ∈ vs, lo ≤ v ∧ v ≤ hi) ∧ added s vs = g
  len : l.length ≤ 7 ^ i
theorem lev0 (s : S) (lo hi : Int) : Lev s lo hi 0 [s] := by
  refine ⟨fun g => ?_, by simp⟩
  constructor
  · intro h
    rw [List.mem_singleton.mp h]
    exact ⟨[], rfl, (fun v h => by cases h), rfl⟩
  · rintro ⟨vs, h1, _, h3⟩
    rw [List.length_eq_zero_iff.mp h1] at h3
    exact List.mem_singleton.mpr h3.symm
theorem lev_next {s : S} {lo hi : Int} {i : Nat} {l : List S} {n : Nat} (hn : (n : Int) = hi + 1 - lo) (h7 : n ≤ 7) (h : Lev s lo hi i l) : Lev s lo hi (i + 1) ((rows [] (rgI lo n) l).map some) := by
  refine ⟨fun g => ?_, ?_⟩
  · rw [List.mem_map]
    constructor
    · rintro ⟨r, hr, rfl⟩
      rw [mem_rows] at hr
      rcases hr with hr | ⟨u, hu, v, hv, e⟩
      · cases hr
      · obtain ⟨vs, h1, h2, h3⟩ := (h.mem u).mp hu
        rw [mem_rgI] at hv
        refine ⟨vs ++ [v], by simp [h1], fun w hw => ?_, ?_⟩
        · rcases List.mem_append.mp hw with hw | hw
          · exact h2 w hw
          · rw [List.mem_singleton.mp hw]; omega
        · unfold added at *
          rw [List.foldl_append, h3]
          show some (add1 u v) = _
          rw [e]
    · rintro ⟨vs, h1, h2, h3⟩
      have hne : vs ≠ [] := fun z => by rw [z] at h1; simp at h1
      obtain ⟨us, v, rfl⟩ : ∃ us v, vs = us ++ [v] := ⟨vs.dropLast, vs.getLast hne, (List.dropLast_concat_getLast hne).symm⟩
      have hv := h2 v (by simp)
      refine ⟨add1 (added s us) v, ?_, ?_⟩
      · rw [mem_rows]
        refine .inr ⟨added s us, (h.mem _).mpr ⟨us, by simpa using h1, fun w hw => h2 w (by simp [hw]), rfl⟩, v, mem_rgI.mpr (by omega), rfl⟩
      · rw [← h3]
        unfold added
        rw [List.foldl_append]; rfl
  · rw [List.length_map]
    have h1 := len_rows (rgI lo n) l []
    rw [len_rgI] at h1
    have h2 : l.length * n ≤ 7 ^ i * 7 := Nat.mul_le_mul h.len h7
    rw [Nat.pow_succ]
    simp at h1
    omega
theorem lev_pos {s : S} {lo hi : Int} {i : Nat} {l : List S} (h : Lev s lo hi i l) (hlh : lo ≤ hi) : 0 < l.length := by
  have : added s (List.replicate i lo) ∈ l := (h.mem _).mpr ⟨_, by simp, fun v hv => by rw [List.eq_of_mem_replicate hv]; omega, rfl⟩
  exact List.length_pos_of_mem this

def kE (q : S4) : List L2.Key := [.inl q.c, .inl q.t, .inl q.l, .inl q.g]
theorem kE_inj {q r : S4} (h : kE q = kE r) : q = r := by
  cases q; cases r
  unfold kE at h
  simp at h
  simp [h]
def dcC (ks : List S4) : Cell := .dT (ks.map fun q => (kE q, D.bl true))
theorem putD_ins (ks : List S4) (q : S4) : putD (ks.map fun q => (kE q, D.bl true)) (kE q) (D.bl true) = (insQ ks q).map fun q => (kE q, D.bl true) := by
  unfold putD insQ
  by_cases c : q ∈ ks
  · rw [if_pos c, if_pos (List.any_eq_true.mpr ⟨(kE q, .bl true), List.mem_map_of_mem (f := fun q => (kE q, D.bl true)) c, by simp⟩), List.map_map]
    refine List.map_congr_left fun r _ => ?_
    show (if kE r = kE q then (kE r, D.bl true) else (kE r, D.bl true)) = _
    split <;> rfl
  · rw [if_neg c, if_neg, List.map_append]; rfl
    intro h
    obtain ⟨kv, h1, h2⟩ := List.any_eq_true.mp h
    obtain ⟨r, hr, rfl⟩ := List.mem_map.mp h1
    have := kE_inj (of_decide_eq_true h2)
    exact c (this ▸ hr)
section
variable {cl : List Nat → Nat → List D → Hp → R} {gl : Nat → Option D} {ms : List Nat} {G : Hp} {ad : Nat}
def aPut (ad : Nat) : M := (.put (.sb (.v 5) (.call ad (.cons (.v 6) (.cons (.lst false (.cons (.v 7) .nil)) .nil)))) (.c (.bl true)))
def aIn (ad : Nat) : M := (.for .range2 [7] true (.cons (.v 1) (.cons (.bin .add false (.v 2) (.c (.int 1))) .nil)) (aPut ad))
def aTurn (ad : Nat) : M := (.seq (.set 5 (.dnew true))
  (.seq (.for .val [6] true (.cons (.ix (.v 3) (.neg (.c (.int 1)))) .nil) (aIn ad))
  (.ex (.mt .append false (.v 3) (.cons (.bi .listT false (.cons (.v 5) .nil)) .nil)))))
def fAll (ad : Nat) : Fn := ⟨3, 8, true, true, (.seq (.set 3 (.lst true (.cons (.lst false (.cons (.v 0) .nil)) .nil)))
  (.seq (.for .range1 [4] true (.cons (.c (.int 5)) .nil) (aTurn ad))
  (.ret (.v 3))))⟩
theorem for_consP {pt : List Nat} {one : Bool} {step : Env → Hp → O} {x : D} {xs : List D} {s : Env} {G : Hp} : forF pt one step none (x :: xs) s G = optK (bindT pt one s x) (fun s1 => (step s1 G).turn fun s2 G1 => forF pt one step none xs s2 G1) .bad := rfl
theorem a_put (Ad : AddedR cl ad) {A L Hh F K : D} {q : Nat} {u : S} {v : Int} {ks : List S4} (hq : G[q]? = some (dcC ks)) (hl : ks.length < 1000000) :
    exec cl gl ms (aPut ad) [some A, some L, some Hh, some F, some K, some (.ref q), some (stD u), some (.int v)] G = .nx [some A, some L, some Hh, some F, some K, some (.ref q), some (stD u), some (.int v)] (G.set q (dcC (insQ ks (add1 u v)))) := by
  have a1 : cl ms ad [stD u, .lst [.int v]] G = .ok (stD (some (add1 u v))) G := Ad u (stD u) (.lst [.int v]) [v] ms G (.inl rfl) (.inl rfl)
  have p1 : ∀ s, putV ms (.ref q) (stD (some (add1 u v))) (.bl true) s G = .nx s (G.set q (dcC (insQ ks (add1 u v)))) := fun s => by
    rw [pv_ref, hq]
    show putDT q ms (ks.map fun q => (kE q, D.bl true)) (stD (some (add1 u v))) (.bl true) s G = _
    show (match keysD (stDs (some (add1 u v))) with | some k => if wok q ms (D.bl true) && decide ((ks.map fun q => (kE q, D.bl true)).length < 1000000) then O.nx s (setC G q (.dT (putD (ks.map fun q => (kE q, D.bl true)) k (.bl true)))) else O.bad | none => O.bad) = _
    rw [show keysD (stDs (some (add1 u v))) = some (kE (add1 u v)) from rfl]
    show (if (wok q ms (D.bl true) && decide ((ks.map fun q => (kE q, D.bl true)).length < 1000000)) = true then O.nx s (setC G q (.dT (putD (ks.map fun q => (kE q, D.bl true)) (kE (add1 u v)) (.bl true)))) else O.bad) = _
    rw [wok_of_below fun k => rfl, decide_eq_true (by rw [List.length_map]; exact hl), putD_ins]; rfl
  unfold aPut
  generalize stD (some (add1 u v)) = R1 at *
  generalize stD u = U at *
  simp -dsimp [a1, p1]
theorem a_row (Ad : AddedR cl ad) {A L Hh F K : D} {q : Nat} {u : S} : ∀ (vs : List Int) (ks : List S4) (x7 : Option D) (G : Hp), G[q]? = some (dcC ks) → ks.length + vs.length < 1000000 →
    ∃ y7, forF [7] true (fun s G1 => exec cl gl ms (aPut ad) s G1) none (vs.map .int) [some A, some L, some Hh, some F, some K, some (.ref q), some (stD u), x7] G = .nx [some A, some L, some Hh, some F, some K, some (.ref q), some (stD u), y7] (G.set q (dcC (row1 u ks vs)))
  | [], ks, x7, G, h, _ => ⟨x7, by
    show O.nx _ G = .nx _ (G.set q (dcC ks))
    rw [show G.set q (dcC ks) = G from List.ext_getElem? fun j => by
      by_cases c : q = j
      · subst c; rw [List.getElem?_set_self (hp_lt h), h]
      · rw [List.getElem?_set_ne c]]⟩
  | v :: vs, ks, x7, G, h, hl => by
    rw [List.length_cons] at hl
    have li := len_insQ ks (add1 u v)
    obtain ⟨y7, e⟩ := a_row Ad (A := A) (L := L) (Hh := Hh) (F := F) (K := K) (u := u) vs (insQ ks (add1 u v)) (some (.int v)) (G.set q (dcC (insQ ks (add1 u v)))) (List.getElem?_set_self (hp_lt h)) (by omega)
    refine ⟨y7, ?_⟩
    rw [List.map_cons, for_consP, bt_one, optK_some]
    show (exec cl gl ms (aPut ad) [some A, some L, some Hh, some F, some K, some (.ref q), some (stD u), some (.int v)] G).turn _ = _
    rw [a_put Ad h (by omega), O.turn_nx, e, List.set_set]; rfl
theorem a_rows (Ad : AddedR cl ad) {A F K : D} {lo hi : Int} {n q : Nat} (hn : (n : Int) = hi + 1 - lo) (h7 : n ≤ 7) (hb : -100 < lo ∧ lo < 100) : ∀ (l : List S) (ks : List S4) (x6 x7 : Option D) (G : Hp), G[q]? = some (dcC ks) → ks.length + l.length * 7 < 900000 →
    ∃ y6 y7, forF [6] true (fun s G1 => exec cl gl ms (aIn ad) s G1) none (l.map stD) [some A, some (.int lo), some (.int hi), some F, some K, some (.ref q), x6, x7] G = .nx [some A, some (.int lo), some (.int hi), some F, some K, some (.ref q), y6, y7] (G.set q (dcC (rows ks (rgI lo n) l)))
  | [], ks, x6, x7, G, h, _ => ⟨x6, x7, by
    show O.nx _ G = .nx _ (G.set q (dcC ks))
    rw [show G.set q (dcC ks) = G from List.ext_getElem? fun j => by
      by_cases c : q = j
      · subst c; rw [List.getElem?_set_self (hp_lt h), h]
      · rw [List.getElem?_set_ne c]]⟩
  | u :: l, ks, x6, x7, G, h, hl => by
    rw [List.length_cons] at hl
    have lr := len_row1 u (rgI lo n) ks
    rw [len_rgI] at lr
    obtain ⟨z7, e1⟩ := a_row (gl := gl) (ms := ms) Ad (A := A) (L := .int lo) (Hh := .int hi) (F := F) (K := K) (u := u) (rgI lo n) ks x7 G h (by rw [len_rgI]; omega)
    obtain ⟨y6, y7, e2⟩ := a_rows Ad (A := A) (F := F) (K := K) hn h7 hb l (row1 u ks (rgI lo n)) (some (stD u)) z7 (G.set q (dcC (row1 u ks (rgI lo n)))) (List.getElem?_set_self (hp_lt h)) (by omega)
    refine ⟨y6, y7, ?_⟩
    rw [List.map_cons, for_consP, bt_one, optK_some]
    have st : exec cl gl ms (aIn ad) [some A, some (.int lo), some (.int hi), some F, some K, some (.ref q), some (stD u), x7] G = .nx [some A, some (.int lo), some (.int hi), some F, some K, some (.ref q), some (stD u), z7] (G.set q (dcC (row1 u ks (rgI lo n)))) := by
      have ev : evals cl gl ms (.cons (.v 1) (.cons (.bin .add false (.v 2) (.c (.int 1))) .nil)) [some A, some (.int lo), some (.int hi), some F, some K, some (.ref q), some (stD u), x7] G = .ok (.tup [.int lo, .int (hi + 1)]) G := by
        generalize stD u = U at *
        simp -dsimp
      have it : itD .range2 [.int lo, .int (hi + 1)] G = some (rangeD lo (hi + 1 - lo).toNat, none) := by
        show (if decide (-(2 ^ 62) ≤ lo ∧ lo < 2 ^ 62 ∧ -(2 ^ 62) ≤ hi + 1 ∧ hi + 1 < 2 ^ 62) = true then _ else _) = _
        rw [if_pos (decide_eq_true (by omega))]
      unfold aIn
      rw [ex_for, ev, R.st_ok, tupK_tup, it, optK_some]
      rw [show (hi + 1 - lo).toNat = n by omega, range_rgI]
      exact e1
    show (exec cl gl ms (aIn ad) [some A, some (.int lo), some (.int hi), some F, some K, some (.ref q), some (stD u), x7] G).turn _ = _
    rw [st, O.turn_nx, e2, List.set_set]; rfl
def lvD (l : List S) : D := .lst (l.map stD)
theorem ixL1 {H : Hp} {q : Nat} {es : List D} {e : D} (h : H[q]? = some (.lst (es ++ [e]))) : ixD (.ref q) (.int (-1)) H = .ok e H := by
  show (match seqD H (.ref q) with | some ds => ixL ds (.int (-1)) H | none => _) = _
  rw [show seqD H (.ref q) = some (es ++ [e]) by show (match H[q]? with | some (.lst ds) => some ds | _ => none) = _; rw [h]]
  show (match L2.atI (es ++ [e]) (-1) with | some d => R.ok d H | none => .bad) = _
  rw [at_neg1, List.getLast?_append]
  rfl
theorem below_lv (l : List S) (m : Nat) : below m (lvD l) = true := by
  show belows m (l.map stD) = true
  exact belows_map (fun s => below_st s m) l
theorem all_turn (Ad : AddedR cl ad) {s : S} {lo hi : Int} {n q i : Nat} (hn : (n : Int) = hi + 1 - lo) (h7 : n ≤ 7) (hb : -100 < lo ∧ lo < 100) {A K : D} {x5 x6 x7 : Option D} {pre : List D} {l : List S} (hl : Lev s lo hi i l) (hi5 : i < 5) (hpre : pre.length < 100) (hq : G[q]? = some (.lst (pre ++ [lvD l]))) :
    ∃ y5 y6 y7 G', exec cl gl ms (aTurn ad) [some A, some (.int lo), some (.int hi), some (.ref q), some K, x5, x6, x7] G = .nx [some A, some (.int lo), some (.int hi), some (.ref q), some K, y5, y6, y7] G' ∧
      G'[q]? = some (.lst (pre ++ [lvD l] ++ [lvD ((rows [] (rgI lo n) l).map some)])) ∧ G.length ≤ G'.length ∧ ∀ j, j < G.length → j ≠ q → G'[j]? = G[j]? := by
  have hlt := hp_lt hq
  have p7 : 7 ^ i ≤ 2401 := by
    have : i = 0 ∨ i = 1 ∨ i = 2 ∨ i = 3 ∨ i = 4 := by omega
    rcases this with rfl | rfl | rfl | rfl | rfl <;> decide
  have ll : l.length ≤ 2401 := Nat.le_trans hl.len p7
  have lr := len_rows (rgI lo n) l []
  rw [len_rgI] at lr
  have lr2 : (rows [] (rgI lo n) l).length ≤ 2401 * 7 := by
    have := Nat.mul_le_mul ll h7
    simp at lr
    omega
  have q1 : exec cl gl ms (.set 5 (.dnew true)) [some A, some (.int lo), some (.int hi), some (.ref q), some K, x5, x6, x7] G = .nx [some A, some (.int lo), some (.int hi), some (.ref q), some K, some (.ref G.length), x6, x7] (G ++ [dcC []]) := by
    rw [ex_set, ev_dnew]; rfl
  obtain ⟨y6, y7, e2⟩ := a_rows (gl := gl) (ms := ms) Ad (A := A) (F := .ref q) (K := K) (q := G.length) hn h7 hb l [] x6 x7 (G ++ [dcC []]) (by simp) (by simp; omega)
  obtain ⟨R1, hR1⟩ : ∃ R1, R1 = rows [] (rgI lo n) l := ⟨_, rfl⟩
  rw [← hR1] at e2 lr2 ⊢
  have es : (G ++ [dcC []]).set G.length (dcC R1) = G ++ [dcC R1] := by simp
  rw [es] at e2
  have g1 : ∀ c : Cell, (G ++ [c])[q]? = some (.lst (pre ++ [lvD l])) := fun c => by rw [List.getElem?_append_left hlt]; exact hq
  have q2 : exec cl gl ms (.for .val [6] true (.cons (.ix (.v 3) (.neg (.c (.int 1)))) .nil) (aIn ad)) [some A, some (.int lo), some (.int hi), some (.ref q), some K, some (.ref G.length), x6, x7] (G ++ [dcC []]) = .nx [some A, some (.int lo), some (.int hi), some (.ref q), some K, some (.ref G.length), y6, y7] (G ++ [dcC R1]) := by
    have ix := ixL1 (g1 (dcC []))
    have ev : evals cl gl ms (.cons (.ix (.v 3) (.neg (.c (.int 1)))) .nil) [some A, some (.int lo), some (.int hi), some (.ref q), some K, some (.ref G.length), x6, x7] (G ++ [dcC []]) = .ok (.tup [lvD l]) (G ++ [dcC []]) := by
      generalize lvD l = V at *
      generalize (G ++ [dcC []]) = H at *
      simp -dsimp [ix]
    rw [ex_for, ev, R.st_ok, tupK_tup]
    show optK (itD .val [.lst (l.map stD)] (G ++ [dcC []])) _ _ = _
    rw [it_lst, optK_some]
    exact e2
  have lt : biD .listT false [.ref G.length] (G ++ [dcC R1]) = .ok (lvD (R1.map some)) (G ++ [dcC R1]) := by
    show (match (G ++ [dcC R1])[G.length]? with | some (.dT kvs) => mkl false (kvs.map fun kv : List L2.Key × D => D.tup (kv.1.map kD)) (G ++ [dcC R1]) | _ => .bad) = _
    rw [show (G ++ [dcC R1])[G.length]? = some (.dT (R1.map fun q => (kE q, D.bl true))) by simp [dcC]]
    show mkl false ((R1.map fun q => (kE q, D.bl true)).map fun kv : List L2.Key × D => D.tup (kv.1.map kD)) (G ++ [dcC R1]) = _
    rw [mk_f, List.map_map]
    unfold lvD
    rw [List.map_map]; rfl
  have ap : mtD .append false ms (.ref q) [lvD (R1.map some)] (G ++ [dcC R1]) = .ok .non ((G ++ [dcC R1]).set q (.lst (pre ++ [lvD l] ++ [lvD (R1.map some)]))) := by
    show (match (G ++ [dcC R1])[q]? with | some (.lst ds) => if wok q ms (lvD (R1.map some)) && decide (ds.length < 1000000) then R.ok .non (setC (G ++ [dcC R1]) q (.lst (ds ++ [lvD (R1.map some)]))) else .bad | _ => .bad) = _
    rw [g1]
    show (if (wok q ms (lvD (R1.map some)) && decide ((pre ++ [lvD l]).length < 1000000)) = true then _ else _) = _
    rw [wok_of_below fun k => below_lv _ k, decide_eq_true (by simp; omega)]; rfl
  have il : isLst (G ++ [dcC R1])[q]? = true := by rw [g1]; rfl
  have q3 : exec cl gl ms (.ex (.mt .append false (.v 3) (.cons (.bi .listT false (.cons (.v 5) .nil)) .nil))) [some A, some (.int lo), some (.int hi), some (.ref q), some K, some (.ref G.length), y6, y7] (G ++ [dcC R1]) = .nx [some A, some (.int lo), some (.int hi), some (.ref q), some K, some (.ref G.length), y6, y7] ((G ++ [dcC R1]).set q (.lst (pre ++ [lvD l] ++ [lvD (R1.map some)]))) := by
    generalize pre ++ [lvD l] ++ [lvD (R1.map some)] = Z at *
    generalize lvD (R1.map some) = V at *
    generalize (G ++ [dcC R1]) = H at *
    simp -dsimp [il, lt, ap]
  refine ⟨some (.ref G.length), y6, y7, (G ++ [dcC R1]).set q (.lst (pre ++ [lvD l] ++ [lvD (R1.map some)])), ?_, ?_, ?_, fun j hj hne => ?_⟩
  · unfold aTurn
    rw [ex_seq, q1, O.then_nx, ex_seq, q2, O.then_nx, q3]
  · rw [List.getElem?_set_self (by simp; omega)]
  · simp
  · rw [List.getElem?_set_ne (Ne.symm hne), List.getElem?_append_left hj]
def AllR (cl : List Nat → Nat → List D → Hp → R) (i : Nat) : Prop := ∀ (s : S) (lo hi : Int) (ms : List Nat) (G : Hp), lo ≤ hi → hi - lo ≤ 6 → -100 < lo → lo < 100 →
  ∃ Ls : List (List S), cl ms i [stD s, .int lo, .int hi] G = .ok (.lst (Ls.map lvD)) G ∧ Ls.length = 6 ∧ ∀ (j : Nat) l, Ls[j]? = some l → Lev s lo hi j l
theorem all_run (Ad : AddedR cl ad) {s : S} {lo hi : Int} (hlh : lo ≤ hi) (h6 : hi - lo ≤ 6) (hb1 : -100 < lo) (hb2 : lo < 100) :
    ∃ Ls : List (List S), run cl gl ms (fAll ad) [stD s, .int lo, .int hi] G = .ok (.lst (Ls.map lvD)) G ∧ Ls.length = 6 ∧ ∀ (j : Nat) l, Ls[j]? = some l → Lev s lo hi j l := by
  obtain ⟨n, hn⟩ : ∃ n : Nat, (n : Int) = hi + 1 - lo := ⟨(hi + 1 - lo).toNat, by omega⟩
  have h7 : n ≤ 7 := by omega
  obtain ⟨A, hA⟩ : ∃ A, A = stD s := ⟨_, rfl⟩
  have Lp := for_range (slot := 4) (n := 5) (step := fun st G1 => exec cl gl (G.length :: ms) (aTurn ad) st G1) (Inv := fun i st G' => ∃ x4 x5 x6 x7 Ls, st = [some A, some (.int lo), some (.int hi), some (.ref G.length), x4, x5, x6, x7] ∧ G'[G.length]? = some (.lst (Ls.map lvD)) ∧ Ls.length = i + 1 ∧ (∀ (j : Nat) l, Ls[j]? = some l → Lev s lo hi j l) ∧ ∀ j, j < G.length → G'[j]? = G[j]?)
    (fun i st G' hi5 ⟨x4, x5, x6, x7, Ls, hs, h1, h2, h3, h4⟩ => by
      subst hs
      have hne : Ls ≠ [] := fun z => by rw [z] at h2; simp at h2
      obtain ⟨pr, l, rfl⟩ : ∃ pr l, Ls = pr ++ [l] := ⟨Ls.dropLast, Ls.getLast hne, (List.dropLast_concat_getLast hne).symm⟩
      have hpl : pr.length = i := by simpa using h2
      have hl : Lev s lo hi i l := h3 i l (by rw [List.getElem?_append_right (by omega), hpl]; simp)
      rw [List.map_append] at h1
      obtain ⟨y5, y6, y7, G2, e1, e2, e3, e4⟩ := all_turn (gl := gl) (ms := G.length :: ms) Ad hn h7 ⟨hb1, hb2⟩ (A := A) (K := .int (i : Nat)) (x5 := x5) (x6 := x6) (x7 := x7) hl hi5 (by rw [List.length_map]; omega) h1
      refine ⟨_, G2, e1, _, _, _, _, pr ++ [l] ++ [(rows [] (rgI lo n) l).map some], rfl, by rw [e2, List.map_append, List.map_append]; rfl, by simp [hpl], fun j k hj => ?_, fun j hj => ?_⟩
      · by_cases c : j < (pr ++ [l]).length
        · rw [List.getElem?_append_left c] at hj; exact h3 j k hj
        · rw [List.getElem?_append_right (by omega)] at hj
          have hj0 : j - (pr ++ [l]).length = 0 := by
            cases q : j - (pr ++ [l]).length with
            | zero => rfl
            | succ m => rw [q] at hj; simp at hj
          rw [hj0] at hj
          have : j = i + 1 := by simp [hpl] at c hj0; omega
          rw [this]
          cases hj
          exact lev_next hn h7 hl
      · rw [e4 j (Nat.lt_trans hj (hp_lt h1)) (by omega)]; exact h4 j hj)
    5 0 [some A, some (.int lo), some (.int hi), some (.ref G.length), none, none, none, none] (G ++ [.lst [lvD [s]]]) (by omega) ⟨none, none, none, none, [[s]], rfl, by simp, rfl, (fun j l hj => by
      cases j with
      | zero => cases hj; exact lev0 s lo hi
      | succ j => simp at hj), fun j hj => List.getElem?_append_left hj⟩
  obtain ⟨st, G', e1, x4, x5, x6, x7, Ls, hs, h1, h2, h3, h4⟩ := Lp
  subst hs
  refine ⟨Ls, ?_, h2, h3⟩
  have hG : G'.take G.length = G := by
    refine List.ext_getElem? fun j => ?_
    by_cases hj : j < G.length
    · rw [List.getElem?_take_of_lt hj]; exact h4 j hj
    · rw [List.getElem?_eq_none (by simp; omega), List.getElem?_eq_none (by omega)]
  have hf : frzD G' G.length (.ref G.length) = .lst (Ls.map lvD) := by
    unfold frzD
    dsimp only
    rw [if_neg (Nat.lt_irrefl _), h1]
  have hb : belows G.length (Ls.map lvD) = true := belows_map (fun l => below_lv l _) Ls
  have e0 : List.map some [stD s, D.int lo, D.int hi] ++ List.replicate (8 - 3) none = [some A, some (.int lo), some (.int hi), none, none, none, none, none] := by rw [hA]; rfl
  have s1 : exec cl gl (G.length :: ms) (.set 3 (.lst true (.cons (.lst false (.cons (.v 0) .nil)) .nil))) [some A, some (.int lo), some (.int hi), none, none, none, none, none] G = .nx [some A, some (.int lo), some (.int hi), some (.ref G.length), none, none, none, none] (G ++ [.lst [lvD [s]]]) := by
    have : lvD [s] = .lst [A] := by rw [hA]; rfl
    rw [this]
    simp -dsimp
  have s2 : exec cl gl (G.length :: ms) (.for .range1 [4] true (.cons (.c (.int 5)) .nil) (aTurn ad)) [some A, some (.int lo), some (.int hi), some (.ref G.length), none, none, none, none] (G ++ [.lst [lvD [s]]]) = .nx [some A, some (.int lo), some (.int hi), some (.ref G.length), x4, x5, x6, x7] G' := by
    have ev : ∀ st H, evals cl gl (G.length :: ms) (.cons (.c (.int 5)) .nil) st H = .ok (.tup [.int 5]) H := fun st H => rfl
    rw [ex_for, ev, R.st_ok, tupK_tup, it_r1, if_pos (by decide), optK_some]
    exact e1
  have s3 : exec cl gl (G.length :: ms) (.ret (.v 3)) [some A, some (.int lo), some (.int hi), some (.ref G.length), x4, x5, x6, x7] G' = .ret (.ref G.length) G' := by simp -dsimp
  unfold fAll
  rw [run_t (by rfl), e0, ex_seq, s1, O.then_nx, ex_seq, s2, O.then_nx, s3, fr_ttf, hf, be_lst, hb, if_pos rfl, hG]
end
end Pl
end PK
namespace PK
open PySem
section
variable {cl : List Nat → Nat → List D → Hp → R} {gl : Nat → Option D} {ms : List Nat} {cell pot wide key t : Nat} {G : Hp}
end
end PK
namespace PK
open PySem TL PySem.StrLaws
def numT (i : Int) : List Nat := if i < 0 then 45 :: numL i.natAbs else numL i.natAbs
theorem tl_nstr (i : Int) : tl (nstr i) = numT i := by
  unfold nstr numT
  cases i with
  | ofNat n =>
    rw [if_neg (by simp)]
    exact tl_num n
  | negSucc n =>
    rw [if_pos (Int.negSucc_lt_zero n)]
    show tl (Str.ofString ("-" ++ toString (n + 1))) = 45 :: numL (n + 1)
    rw [tl_ofString, String.toList_append, List.map_append]
    have h := tl_num (n + 1)
    rw [tl_ofString] at h
    show ("-".toList).map Char.toNat ++ _ = _
    have : toString (((n + 1 : Nat)) : Int) = toString (n + 1) := rfl
    rw [this] at h
    rw [h]; rfl
theorem numT_len {i : Int} {k : Nat} (hk : 0 < k) (h : i.natAbs < 10 ^ k) : (numT i).length ≤ k + 1 := by
  have := numL_len hk h
  unfold numT
  split
  · rw [List.length_cons]; omega
  · omega
theorem nstr_len {i : Int} {k : Nat} (hk : 0 < k) (h : i.natAbs < 10 ^ k) : (nstr i).length ≤ k + 1 := by
  rw [len_tl, tl_nstr]; exact numT_len hk h
end PK
namespace PK
open PySem TL
section
variable {G : Hp} {w : Bool} {x : D} {ds : List D} {a : Str} {i j : Int} {l h : D}
@[simp] theorem sl_lst : slD w (.lst ds) l h G = optK (partD l) (fun lo => optK (partD h) (fun hi => mkl w (cutD ds lo hi) G) .bad) .bad := by
  unfold slD
  cases partD l with
  | none => rfl
  | some lo => cases partD h <;> rfl
@[simp] theorem sl_str {z : Str} : slD w (.str z) l h G = optK (partD l) (fun lo => optK (partD h) (fun hi => iteK (szOk z.length) (fun _ => .ok (.str (L2.cutS z lo hi)) G) fun _ => .bad) .bad) .bad := by
  unfold slD
  cases partD l with
  | none => rfl
  | some lo =>
    cases partD h with
    | none => rfl
    | some hi =>
      simp only [optK_some]
      cases szOk z.length <;> rfl
end
end PK
namespace PK
open PySem TL
def slash : Str := Str.ofString "/"
def wrE (a : Int) (k : Str) (b : Int) : Str := Txt.join slash [nstr a, k, nstr b]
section
variable {cl : List Nat → Nat → List D → Hp → R} {gl : Nat → Option D} {ms : List Nat} {G : Hp}
end
end PK
namespace PK
open PySem TL
structure En where
  a : Int
  k : Str
  b : Int
def En.wr (e : En) : Str := wrE e.a e.k e.b
structure EnOk (e : En) : Prop where
  a : e.a.natAbs < 10 ^ 30
  b : e.b.natAbs < 10 ^ 30
  k1 : 1 ≤ e.k.length
  k8 : e.k.length ≤ 8
  ks : ∀ c ∈ tl e.k, c ∈ tl alph
theorem EnOk.la {e : En} (h : EnOk e) : (nstr e.a).length ≤ 31 := nstr_len (by omega) h.a
theorem EnOk.lb {e : En} (h : EnOk e) : (nstr e.b).length ≤ 31 := nstr_len (by omega) h.b
section
variable {cl : List Nat → Nat → List D → Hp → R} {gl : Nat → Option D} {ms : List Nat} {G : Hp}
end
end PK
namespace PK
open PySem TL
section
variable {cl : List Nat → Nat → List D → Hp → R} {gl : Nat → Option D} {ms : List Nat} {G : Hp}
end
end PK
namespace PK
open PySem TL
theorem pds_on {α : Type} {f : D → Option PyData} {g : α → D} {h : α → PyData} (hf : ∀ a, f (g a) = some (h a)) : ∀ l : List α, pds f (l.map g) = some (l.map h)
  | [] => rfl
  | a :: l => by
    show (f (g a)).bind _ = _
    rw [hf a]
    show (pds f (l.map g)).bind _ = _
    rw [pds_on hf l]; rfl
section
variable {cl : List Nat → Nat → List D → Hp → R} {gl : Nat → Option D} {ms : List Nat} {G : Hp} {ww tx rd rc : Nat}
end
end PK
namespace PK
theorem get_app {G l : Hp} (k : Nat) : (G ++ l)[G.length + k]? = l[k]? := by
  rw [List.getElem?_append_right (by omega)]
  congr 1
  omega
theorem get_app0 {G l : Hp} : (G ++ l)[G.length]? = l[0]? := get_app 0
namespace Pl
open PySem
section
variable {cl : List Nat → Nat → List D → Hp → R} {gl : Nat → Option D} {ms : List Nat} {G : Hp} {t wi cell pot st bo re rc rd : Nat}
end
end Pl
end PK
namespace PK
namespace Pl
open PySem
section
variable {cl : List Nat → Nat → List D → Hp → R} {gl : Nat → Option D} {ms : List Nat} {G : Hp}
def told (d : D) : Bool := !decide (d = .non)
end
end Pl
end PK
namespace PK
namespace Pl
open PySem
section
variable {cl : List Nat → Nat → List D → Hp → R} {gl : Nat → Option D} {ms : List Nat} {G : Hp} {p : Nat} {t wi cell pot st go bo le pl ca : Nat}
theorem none_ok : Ok30 none := ⟨(fun q h => by cases h), by show (0 : Int) ≤ c30; unfold c30; omega⟩
theorem plan_sound {s g : S} {lo hi : Int} (hs : Ok30 s) (hg : Ok30 g) : planD s g lo hi = .non ∨ ∃ ps : List Int, planD s g lo hi = .lst (ps.map .int) ∧ Leads s g lo hi ps := by
  unfold planD
  by_cases c : s = g
  · subst c
    rw [if_pos rfl]
    exact .inr ⟨[], rfl, by simp, (fun v h => by cases h), List.Pairwise.nil, rfl⟩
  · rw [if_neg c]
    cases g with
    | none => exact .inl rfl
    | some g =>
      dsimp only
      by_cases c1 : 0 < g.c - cnt s ∧ g.c - cnt s ≤ 200 ∧ within s g = true
      · rw [if_pos c1]
        cases e : planB s g lo hi with
        | none => exact .inl rfl
        | some ps => exact .inr ⟨ps, rfl, sound (hg.1 g rfl) c1.2.2 c1.1 e⟩
      · rw [if_neg c1]; exact .inl rfl
end
end Pl
end PK
namespace PK
namespace Pl
open PySem
theorem cnt_added : ∀ (vs : List Int) (s : S), cnt (added s vs) = cnt s + vs.length
  | [], s => by simp [added]
  | v :: vs, s => by
    have e : added s (v :: vs) = added (some (add1 s v)) vs := rfl
    rw [e, cnt_added vs]
    have : cnt (some (add1 s v)) = cnt s + 1 := by cases s <;> simp [cnt, add1]
    rw [this, List.length_cons]; omega
def stP : S → PyData
  | none => .tuple [.int 0, .int 0, .none, .none]
  | some q => .tuple [.int q.c, .int q.t, .int q.l, .int q.g]
theorem pd_st (G : Hp) (n : Nat) (g : S) : pd G (n + 2) (stD g) = some (stP g) := by cases g <;> rfl
theorem shaped_st (g : S) : SeqAt.shaped (stP g) = true := by cases g <;> rfl
theorem shaped_sts (l : List S) : SeqAt.shaped (.list (l.map stP)) = true := by
  have c : PyData.canLayAll0 (l.map stP) = true := by
    induction l with
    | nil => rfl
    | cons g l ih =>
      show (PyData.canLay0 (stP g) && PyData.canLayAll0 (l.map stP)) = true
      rw [ih, Bool.and_true]; cases g <;> rfl
  have d : PyData.depthAll (l.map stP) ≤ 1 := by
    clear c
    induction l with
    | nil => exact Nat.zero_le _
    | cons g l ih =>
      have : PyData.depth (stP g) ≤ 1 := by cases g <;> simp [stP, PyData.depth, PyData.depthAll]
      show max (PyData.depth (stP g)) (PyData.depthAll (l.map stP)) ≤ 1
      omega
  show (PyData.canLayAll0 (l.map stP) && decide (PyData.depthAll (l.map stP) + 1 ≤ 64)) = true
  rw [c, decide_eq_true (by omega)]; rfl
theorem eqv_st (G : Hp) (a b : S) : PyData.eqv (stP a) (stP b) = decide (a = b) := by
  have h := eq_st G a b
  have e : eqD G (stD a) (stD b) = (match pd G 8 (stD a), pd G 8 (stD b) with
    | some d, some e => if SeqAt.shaped d && SeqAt.shaped e then some (PyData.eqv d e) else none
    | _, _ => none) := rfl
  rw [e, pd_st, pd_st] at h
  have h : (if (SeqAt.shaped (stP a) && SeqAt.shaped (stP b)) = true then some (PyData.eqv (stP a) (stP b)) else none) = some (decide (a = b)) := h
  rw [shaped_st, shaped_st] at h
  exact Option.some.inj h
theorem in_lv (G : Hp) (g : S) (l : List S) : inP G (stD g) (lvD l) = some (decide (g ∈ l)) := by
  have p2 : pd G 8 (lvD l) = some (.list (l.map stP)) := by
    show (pds (pd G 7) (l.map stD)).map PyData.list = _
    rw [pds_on (f := pd G 7) (g := stD) (h := stP) fun g => pd_st G 5 g]; rfl
  unfold inP
  rw [p2, pd_st]
  show (if (SeqAt.shaped (stP g) && SeqAt.shaped (.list (l.map stP))) = true then some ((l.map stP).any fun z => PyData.eqv z (stP g)) else none) = _
  rw [shaped_st, shaped_sts]
  show some ((l.map stP).any fun z => PyData.eqv z (stP g)) = _
  clear p2
  congr 1
  rw [List.any_map]
  induction l with
  | nil => simp
  | cons a l ih =>
    rw [List.any_cons, ih]
    show (PyData.eqv (stP a) (stP g) || decide (g ∈ l)) = _
    rw [eqv_st G]
    by_cases c : g = a
    · subst c; simp
    · have c' : ¬ a = g := fun h => c h.symm
      simp [c, c']
section
variable {cl : List Nat → Nat → List D → Hp → R} {gl : Nat → Option D} {ms : List Nat} {G : Hp} {t go al le pl ad cell pot p : Nat}
def gRet1 : M := (.ite (.cmp .lt (.v 1) (.c (.int 1))) (.ret (.tup (.cons (.c (.int 0)) (.cons (.c (.int 0)) (.cons (.c .non) (.cons (.c .non) .nil))))))
  .pass)
def gPar (t : Nat) : M := (.par [2, 3] (.cons (.bin .sub false (.call t (.cons (.v 0) (.cons (.c (.int 11)) .nil))) (.c (.int 5))) (.cons (.bin .sub false (.call t (.cons (.v 0) (.cons (.c (.int 11)) .nil))) (.c (.int 5))) .nil)))
def gMM : M := (.par [4, 5] (.cons (.bi .min2 false (.cons (.v 2) (.cons (.v 3) .nil))) (.cons (.bi .max2 false (.cons (.v 2) (.cons (.v 3) .nil))) .nil)))
def gRet2 : M := (.ite (.cmp .eq (.v 1) (.c (.int 1))) (.ret (.tup (.cons (.c (.int 1)) (.cons (.v 4) (.cons (.v 4) (.cons (.v 4) .nil))))))
  .pass)
def gLow : M := (.set 6 (.bin .add false (.bin .mul false (.v 4) (.bin .sub false (.v 1) (.c (.int 1)))) (.v 5)))
def gRet3 (t : Nat) : M := (.ret (.tup (.cons (.v 1) (.cons (.bin .add false (.v 6) (.call t (.cons (.v 0) (.cons (.bin .add false (.bin .mul false (.bin .sub false (.v 5) (.v 4)) (.bin .sub false (.v 1) (.c (.int 2)))) (.c (.int 1))) .nil)))) (.cons (.v 4) (.cons (.v 5) .nil))))))
def fGoal72 (t : Nat) : Fn := ⟨2, 7, true, true, (.seq gRet1
  (.seq (gPar t)
  (.seq gMM
  (.seq gRet2
  (.seq gLow
  (gRet3 t))))))⟩
def Goal72 (cl : List Nat → Nat → List D → Hp → R) (i : Nat) : Prop := ∀ (c : Int) (ms : List Nat) (G : Hp) (p : Nat), PotAt G p → c ≤ 100 → Drawn (cl ms i [.ref p, .int c] G) G p (fun d => ∃ g, d = stD g ∧ Ok30 g)
theorem goal72_draw (T : TakeC cl t) (h : PotAt G p) {c : Int} (hc : c ≤ 100) : Drawn (run cl gl ms (fGoal72 t) [.ref p, .int c] G) G p (fun d => ∃ g, d = stD g ∧ Ok30 g) := by
  have e0 : List.map some [D.ref p, D.int c] ++ List.replicate (7 - 2) none = [some (.ref p), some (.int c), none, none, none, none, none] := rfl
  unfold fGoal72
  rw [run_t (by rfl), e0]
  by_cases c0 : c < 1
  · obtain ⟨a, b, hb, eG⟩ := h.self
    refine ⟨stD none, a, b, ?_, hb, none, rfl, none_ok⟩
    rw [eG]
    have d : decide (c < 1) = true := decide_eq_true c0
    have q1 : exec cl gl (G.length :: ms) gRet1 [some (.ref p), some (.int c), none, none, none, none, none] G = .ret (stD none) G := by
      unfold gRet1
      show _ = O.ret (.tup [.int 0, .int 0, .non, .non]) G
      simp -dsimp [d]
    rw [ex_seq, q1, O.then_ret, fr_ttf, show frzD G G.length (stD none) = stD none from rfl, below_st, if_pos rfl, List.take_length]
  · have d : decide (c < 1) = false := decide_eq_false c0
    have q1 : exec cl gl (G.length :: ms) gRet1 [some (.ref p), some (.int c), none, none, none, none, none] G = .nx [some (.ref p), some (.int c), none, none, none, none, none] G := by
      unfold gRet1
      simp -dsimp [d]
    obtain ⟨_, a1, b1, e1, o1, x, rfl, x0, x1⟩ := T 11 (G.length :: ms) G p h (by omega) (small_pow (by omega))
    have h1 := h.set (a := a1) o1
    obtain ⟨_, a2, b2, e2, o2, y, rfl, y0, y1⟩ := (T 11 (G.length :: ms) _ p h1 (by omega) (small_pow (by omega))).again
    have h2 := h.set (a := a2) o2
    have q2 : exec cl gl (G.length :: ms) (gPar t) [some (.ref p), some (.int c), none, none, none, none, none] G = .nx [some (.ref p), some (.int c), some (.int (x - 5)), some (.int (y - 5)), none, none, none] (G.set p (potC a2 b2)) := by
      unfold gPar
      simp -dsimp [e1, e2, pars]
    obtain ⟨l, hl⟩ : ∃ l, l = if y - 5 < x - 5 then y - 5 else x - 5 := ⟨_, rfl⟩
    obtain ⟨g, hg⟩ : ∃ g, g = if y - 5 > x - 5 then y - 5 else x - 5 := ⟨_, rfl⟩
    have lg : l ≤ g ∧ -5 ≤ l ∧ g ≤ 5 ∧ l ≤ 5 ∧ -5 ≤ g := by
      rw [hl, hg]
      split <;> split <;> omega
    obtain ⟨lg, l5, g5, l5', g5'⟩ := lg
    have q3 : exec cl gl (G.length :: ms) gMM [some (.ref p), some (.int c), some (.int (x - 5)), some (.int (y - 5)), none, none, none] (G.set p (potC a2 b2)) = .nx [some (.ref p), some (.int c), some (.int (x - 5)), some (.int (y - 5)), some (.int l), some (.int g), none] (G.set p (potC a2 b2)) := by
      unfold gMM
      generalize x - 5 = X at *
      generalize y - 5 = Y at *
      simp -dsimp [pars, hl, hg]
    generalize x - 5 = X at *
    generalize y - 5 = Y at *
    clear hl hg
    rw [ex_seq, q1, O.then_nx, ex_seq, q2, O.then_nx, ex_seq, q3, O.then_nx]
    by_cases c1 : c = 1
    · have d1 : decide (c = 1) = true := decide_eq_true c1
      refine ⟨stD (some ⟨1, l, l, l⟩), a2, b2, ?_, o2, some ⟨1, l, l, l⟩, rfl, (fun q h => by cases h; exact ⟨Int.le_refl _, Int.le_refl _, by simp, by simp, by show -1000000000000000000000000000000 < l; omega, by show l < 1000000000000000000000000000000; omega⟩), by show (1 : Int) ≤ c30; unfold c30; omega⟩
      have q4 : exec cl gl (G.length :: ms) gRet2 [some (.ref p), some (.int c), some (.int X), some (.int Y), some (.int l), some (.int g), none] (G.set p (potC a2 b2)) = .ret (stD (some ⟨1, l, l, l⟩)) (G.set p (potC a2 b2)) := by
        unfold gRet2
        show _ = O.ret (.tup [.int 1, .int l, .int l, .int l]) _
        simp -dsimp [d1]
      rw [ex_seq, q4, O.then_ret, fr_ttf, show frzD (G.set p (potC a2 b2)) G.length (stD (some ⟨1, l, l, l⟩)) = stD (some ⟨1, l, l, l⟩) from rfl, below_st, if_pos rfl, hp_take]
    · have d1 : decide (c = 1) = false := decide_eq_false c1
      have q4 : exec cl gl (G.length :: ms) gRet2 [some (.ref p), some (.int c), some (.int X), some (.int Y), some (.int l), some (.int g), none] (G.set p (potC a2 b2)) = .nx [some (.ref p), some (.int c), some (.int X), some (.int Y), some (.int l), some (.int g), none] (G.set p (potC a2 b2)) := by
        unfold gRet2
        simp -dsimp [d1]
      have c2 : 2 ≤ c := by omega
      have m1 : mulOk l (c - 1) = true := mul_ok (by omega) (by omega)
      have m2 : mulOk (g - l) (c - 2) = true := mul_ok (by omega) (by omega)
      obtain ⟨lw, hlw⟩ : ∃ lw, lw = l * (c - 1) + g := ⟨_, rfl⟩
      obtain ⟨wd, hwd⟩ : ∃ wd, wd = (g - l) * (c - 2) := ⟨_, rfl⟩
      have q5 : exec cl gl (G.length :: ms) gLow [some (.ref p), some (.int c), some (.int X), some (.int Y), some (.int l), some (.int g), none] (G.set p (potC a2 b2)) = .nx [some (.ref p), some (.int c), some (.int X), some (.int Y), some (.int l), some (.int g), some (.int lw)] (G.set p (potC a2 b2)) := by
        unfold gLow
        simp -dsimp [m1, hlw]
      have w0 : 0 ≤ wd := by rw [hwd]; exact Int.mul_nonneg (by omega) (by omega)
      have w1 : wd ≤ 10 * 98 := by rw [hwd]; exact Int.mul_le_mul (by omega) (by omega) (by omega) (by omega)
      obtain ⟨_, a3, b3, e3, o3, k, rfl, k0, k1⟩ := (T (wd + 1) (G.length :: ms) _ p h2 (by omega) (small_pow (by omega))).again
      have vt : Val ⟨c, lw + k, l, g⟩ := by
        have e1 : ∀ z : Int, z * (c - 1) = z * (c - 2) + z := fun z => by rw [show c - 1 = (c - 2) + 1 by omega, Int.mul_add, Int.mul_one]
        have e2 : wd = g * (c - 2) - l * (c - 2) := by rw [hwd, Int.sub_mul]
        refine ⟨by show 1 ≤ c; omega, lg, ?_, ?_, by show -1000000000000000000000000000000 < l; omega, by show g < 1000000000000000000000000000000; omega⟩
        · show l * (c - 1) + g ≤ lw + k
          rw [hlw]; omega
        · show lw + k ≤ g * (c - 1) + l
          rw [hlw, e1, e1]; omega
      refine ⟨stD (some ⟨c, lw + k, l, g⟩), a3, b3, ?_, o3, some ⟨c, lw + k, l, g⟩, rfl, (fun q h => by cases h; exact vt), by show c ≤ c30; unfold c30; omega⟩
      have q6 : exec cl gl (G.length :: ms) (gRet3 t) [some (.ref p), some (.int c), some (.int X), some (.int Y), some (.int l), some (.int g), some (.int lw)] (G.set p (potC a2 b2)) = .ret (stD (some ⟨c, lw + k, l, g⟩)) (G.set p (potC a3 b3)) := by
        unfold gRet3
        show _ = O.ret (.tup [.int c, .int (lw + k), .int l, .int g]) _
        simp -dsimp [m2, ← hwd, e3]
      rw [ex_seq, q4, O.then_nx, ex_seq, q5, O.then_nx, q6, fr_ttf, show frzD (G.set p (potC a3 b3)) G.length (stD (some ⟨c, lw + k, l, g⟩)) = stD (some ⟨c, lw + k, l, g⟩) from rfl, below_st, if_pos rfl, hp_take]
def gMore (t : Nat) : M := (.set 10 (.bin .sub false (.call t (.cons (.v 2) (.cons (.c (.int 7)) .nil))) (.c (.int 1))))
def gGoal (go : Nat) : M := (.set 11 (.call go (.cons (.v 2) (.cons (.bin .add false (.ix (.v 3) (.c (.int 0))) (.v 10)) .nil))))
def gIf (t : Nat) : M := (.ite (.and_ (.cmp .eq (.call t (.cons (.v 2) (.cons (.c (.int 2)) .nil))) (.c (.int 0))) (.cmp .ge (.v 10) (.c (.int 0)))) (.set 11 (.ix (.ix (.v 8) (.v 10)) (.call t (.cons (.v 2) (.cons (.bi .len false (.cons (.ix (.v 8) (.v 10)) .nil)) .nil)))))
  .pass)
def gPlan (pl : Nat) : M := (.set 12 (.call pl (.cons (.v 3) (.cons (.v 11) (.cons (.v 6) (.cons (.v 7) .nil))))))
def gTest (le : Nat) : M := (.ite (.cmp .is_ (.v 12) (.c .non)) (.ite (.and_ (.cmp .ge (.v 10) (.c (.int 0))) (.cmp .inp (.v 11) (.ix (.v 8) (.v 10)))) (.ret (.c (.bl false)))
  .pass)
  (.ite (.not_ (.call le (.cons (.v 3) (.cons (.v 11) (.cons (.v 6) (.cons (.v 7) (.cons (.v 12) .nil))))))) (.ret (.c (.bl false)))
  .pass))
def gIn (t go pl le : Nat) : M := (.seq (gMore t)
  (.seq (gGoal go)
  (.seq (gIf t)
  (.seq (gPlan pl)
  (gTest le)))))
theorem ix_lvs {H : Hp} {Ls : List (List S)} {j : Nat} {l : List S} (h : Ls[j]? = some l) : ixD (.lst (Ls.map lvD)) (.int (j : Nat)) H = .ok (lvD l) H := by
  show (match L2.atI (Ls.map lvD) (j : Nat) with | some d => R.ok d H | none => .bad) = _
  rw [at_nat, List.getElem?_map, h]; rfl
theorem ix_lv {H : Hp} {l : List S} {j : Nat} {g : S} (h : l[j]? = some g) : ixD (lvD l) (.int (j : Nat)) H = .ok (stD g) H := by
  show (match L2.atI (l.map stD) (j : Nat) with | some d => R.ok d H | none => .bad) = _
  rw [at_nat, List.getElem?_map, h]; rfl
theorem none_in {s g : S} {lo hi : Int} {m : Nat} {l : List S} (hs : Ok30 s) (hl : W30 lo) (hh : W30 hi) (hc : cnt s ≤ 1000) (hm : m ≤ 5) (L : Lev s lo hi m l) (hn : planD s g lo hi = .non) : ¬ g ∈ l := fun h => by
  obtain ⟨vs, h1, h2, h3⟩ := (L.mem g).mp h
  obtain ⟨_, ps, e, _⟩ := plan_leads hs h2 hl hh (by omega) (by rw [cnt_added, h1]; unfold c30; omega)
  rw [h3, hn] at e
  cases e
theorem in_turn (T : TakeC cl t) (Go : Goal72 cl go) (Pl : PlanR cl pl) (Le : LeadsR cl le) (h : PotAt G p) {s : S} {lo hi : Int} {Ls : List (List S)} (hs : Ok30 s) (hc : cnt s ≤ 3) (hl : W30 lo) (hh : W30 hi) (hlh : lo ≤ hi) (h6 : Ls.length = 6) (hL : ∀ (j : Nat) l, Ls[j]? = some l → Lev s lo hi j l) (x0 x1 x4 x5 x9 x10 x11 x12 : Option D) :
    ∃ y10 y11 y12 a b, PotOk b ∧ exec cl gl ms (gIn t go pl le) [x0, x1, some (.ref p), some (stD s), x4, x5, some (.int lo), some (.int hi), some (.lst (Ls.map lvD)), x9, x10, x11, x12] G = .nx [x0, x1, some (.ref p), some (stD s), x4, x5, some (.int lo), some (.int hi), some (.lst (Ls.map lvD)), x9, y10, y11, y12] (G.set p (potC a b)) := by
  obtain ⟨_, a1, b1, e1, o1, w, rfl, w0, w7⟩ := T 7 ms _ _ h (by omega) (small_pow (by omega))
  have h1 := h.set (a := a1) o1
  obtain ⟨m, hm⟩ : ∃ m, m = w - 1 := ⟨_, rfl⟩
  have sx0 : ∀ G, ixD (stD s) (.int 0) G = .ok (.int (cnt s)) G := fun G => by cases s <;> rfl
  obtain ⟨_, a2, b2, e2, o2, g0, rfl, hg0⟩ := (Go (cnt s + m) ms _ _ h1 (by omega)).again
  have h2 := h.set (a := a2) o2
  obtain ⟨_, a3, b3, e3, o3, u, rfl, u0, u2⟩ := (T 2 ms _ _ h2 (by omega) (small_pow (by omega))).again
  have h3 := h.set (a := a3) o3
  have q1 : exec cl gl ms (gMore t) [x0, x1, some (.ref p), some (stD s), x4, x5, some (.int lo), some (.int hi), some (.lst (Ls.map lvD)), x9, x10, x11, x12] G = .nx [x0, x1, some (.ref p), some (stD s), x4, x5, some (.int lo), some (.int hi), some (.lst (Ls.map lvD)), x9, some (.int m), x11, x12] (G.set p (potC a1 b1)) := by
    unfold gMore
    generalize Ls.map lvD = F at *
    generalize stD s = S1 at *
    simp -dsimp [e1, hm]
  have q2 : exec cl gl ms (gGoal go) [x0, x1, some (.ref p), some (stD s), x4, x5, some (.int lo), some (.int hi), some (.lst (Ls.map lvD)), x9, some (.int m), x11, x12] (G.set p (potC a1 b1)) = .nx [x0, x1, some (.ref p), some (stD s), x4, x5, some (.int lo), some (.int hi), some (.lst (Ls.map lvD)), x9, some (.int m), some (stD g0), x12] (G.set p (potC a2 b2)) := by
    unfold gGoal
    generalize Ls.map lvD = F at *
    generalize stD s = S1 at *
    generalize stD g0 = S2 at *
    simp -dsimp [sx0, e2]
  have m0 : -1 ≤ m ∧ m ≤ 5 := by omega
  clear hm
  obtain ⟨g, hg, a4, b4, o4, q3⟩ : ∃ g, Ok30 g ∧ ∃ a4 b4, PotOk b4 ∧ exec cl gl ms (gIf t) [x0, x1, some (.ref p), some (stD s), x4, x5, some (.int lo), some (.int hi), some (.lst (Ls.map lvD)), x9, some (.int m), some (stD g0), x12] (G.set p (potC a2 b2)) = .nx [x0, x1, some (.ref p), some (stD s), x4, x5, some (.int lo), some (.int hi), some (.lst (Ls.map lvD)), x9, some (.int m), some (stD g), x12] (G.set p (potC a4 b4)) := by
    by_cases c : u = 0
    · by_cases c2 : 0 ≤ m
      · obtain ⟨j, rfl⟩ : ∃ j : Nat, m = (j : Int) := ⟨m.toNat, by omega⟩
        obtain ⟨l, hl5⟩ : ∃ l, Ls[j]? = some l := ⟨_, List.getElem?_eq_getElem (by omega)⟩
        have L := hL j l hl5
        have lp := lev_pos L hlh
        have lb : l.length ≤ 16807 := Nat.le_trans L.len (Nat.le_trans (Nat.pow_le_pow_right (by omega) (show j ≤ 5 by omega)) (by decide))
        obtain ⟨_, a4, b4, e4, o4, k, rfl, k0, k1⟩ := (T (l.length : Nat) ms _ _ h3 (by omega) (small_pow (by omega))).again
        obtain ⟨i, rfl⟩ : ∃ i : Nat, k = (i : Int) := ⟨k.toNat, by omega⟩
        obtain ⟨g, hgl⟩ : ∃ g, l[i]? = some g := ⟨_, List.getElem?_eq_getElem (by omega)⟩
        obtain ⟨vs, v1, v2, v3⟩ := (L.mem g).mp (List.mem_of_getElem? hgl)
        have og : Ok30 g := by rw [← v3]; exact (plan_leads hs v2 hl hh (by omega) (by rw [cnt_added, v1]; unfold c30; omega)).1
        refine ⟨g, og, a4, b4, o4, ?_⟩
        have d1 : decide (u = 0) = true := decide_eq_true c
        have d2 : decide ((0 : Int) ≤ (j : Nat)) = true := decide_eq_true c2
        have i1 : ∀ H, ixD (.lst (Ls.map lvD)) (.int (j : Nat)) H = .ok (lvD l) H := fun H => ix_lvs hl5
        have i2 : ∀ H, ixD (lvD l) (.int (i : Nat)) H = .ok (stD g) H := fun H => ix_lv hgl
        have ln : ∀ H, lenD H (lvD l) = some l.length := fun H => by show some (l.map stD).length = _; rw [List.length_map]
        have bl : ∀ H, biD .len false [lvD l] H = .ok (.int (l.length : Nat)) H := fun H => by
          show (match lenD H (lvD l) with | some n => R.ok (.int n) H | none => .bad) = _
          rw [ln]
        unfold gIf
        generalize ((l.length : Nat) : Int) = N at *
        generalize ((j : Nat) : Int) = J at *
        generalize ((i : Nat) : Int) = I at *
        generalize lvD l = V at *
        generalize Ls.map lvD = F at *
        generalize stD s = S1 at *
        generalize stD g0 = S2 at *
        generalize stD g = S3 at *
        simp -dsimp [e3, d1, d2, i1, bl, e4, i2]
      · refine ⟨g0, hg0, a3, b3, o3, ?_⟩
        have d1 : decide (u = 0) = true := decide_eq_true c
        have d2 : decide ((0 : Int) ≤ m) = false := decide_eq_false c2
        unfold gIf
        generalize Ls.map lvD = F at *
        generalize stD s = S1 at *
        generalize stD g0 = S2 at *
        simp -dsimp [e3, d1, d2]
    · refine ⟨g0, hg0, a3, b3, o3, ?_⟩
      have d1 : decide (u = 0) = false := decide_eq_false c
      unfold gIf
      generalize Ls.map lvD = F at *
      generalize stD s = S1 at *
      generalize stD g0 = S2 at *
      simp -dsimp [e3, d1]
  have pl1 := Pl s g (stD s) (stD g) lo hi ms (G.set p (potC a4 b4)) hs hg (.inl rfl) (.inl rfl) hl hh hlh
  have q4 : exec cl gl ms (gPlan pl) [x0, x1, some (.ref p), some (stD s), x4, x5, some (.int lo), some (.int hi), some (.lst (Ls.map lvD)), x9, some (.int m), some (stD g), x12] (G.set p (potC a4 b4)) = .nx [x0, x1, some (.ref p), some (stD s), x4, x5, some (.int lo), some (.int hi), some (.lst (Ls.map lvD)), x9, some (.int m), some (stD g), some (planD s g lo hi)] (G.set p (potC a4 b4)) := by
    unfold gPlan
    generalize planD s g lo hi = P at *
    generalize Ls.map lvD = F at *
    generalize stD s = S1 at *
    generalize stD g = S2 at *
    simp -dsimp [pl1]
  have q5 : exec cl gl ms (gTest le) [x0, x1, some (.ref p), some (stD s), x4, x5, some (.int lo), some (.int hi), some (.lst (Ls.map lvD)), x9, some (.int m), some (stD g), some (planD s g lo hi)] (G.set p (potC a4 b4)) = .nx [x0, x1, some (.ref p), some (stD s), x4, x5, some (.int lo), some (.int hi), some (.lst (Ls.map lvD)), x9, some (.int m), some (stD g), some (planD s g lo hi)] (G.set p (potC a4 b4)) := by
    unfold gTest
    rcases plan_sound (lo := lo) (hi := hi) hs hg with e | ⟨ps, e, L⟩
    · rw [e]
      by_cases c2 : 0 ≤ m
      · obtain ⟨j, rfl⟩ : ∃ j : Nat, m = (j : Int) := ⟨m.toNat, by omega⟩
        obtain ⟨l, hl5⟩ : ∃ l, Ls[j]? = some l := ⟨_, List.getElem?_eq_getElem (by omega)⟩
        have L := hL j l hl5
        have nin := none_in hs hl hh (by omega) (show j ≤ 5 by omega) L e
        have d2 : decide ((0 : Int) ≤ (j : Nat)) = true := decide_eq_true c2
        have i1 : ∀ H, ixD (.lst (Ls.map lvD)) (.int (j : Nat)) H = .ok (lvD l) H := fun H => ix_lvs hl5
        have ip : ∀ H, cmpD .inp (stD g) (lvD l) H = .ok (.bl false) H := fun H => by
          show (match inP H (stD g) (lvD l) with | some c => R.ok (.bl c) H | none => .bad) = _
          rw [in_lv, decide_eq_false nin]
        generalize ((j : Nat) : Int) = J at *
        generalize lvD l = V at *
        generalize Ls.map lvD = F at *
        generalize stD s = S1 at *
        generalize stD g = S2 at *
        simp -dsimp [d2, i1, ip]
      · have d2 : decide ((0 : Int) ≤ m) = false := decide_eq_false c2
        generalize Ls.map lvD = F at *
        generalize stD s = S1 at *
        generalize stD g = S2 at *
        simp -dsimp [d2]
    · rw [e]
      have le1 := Le s g lo hi (.lst (ps.map .int)) ps ms (G.set p (potC a4 b4)) L (.inl rfl)
      have nn : decide (D.lst (ps.map .int) = .non) = false := rfl
      generalize ps.map D.int = A at *
      generalize Ls.map lvD = F at *
      generalize stD s = S1 at *
      generalize stD g = S2 at *
      simp -dsimp [nn, le1]
  refine ⟨some (.int m), some (stD g), some (planD s g lo hi), a4, b4, o4, ?_⟩
  unfold gIn
  rw [ex_seq, q1, O.then_nx, ex_seq, q2, O.then_nx, ex_seq, q3, O.then_nx, ex_seq, q4, O.then_nx, q5]
end
end Pl
end PK
namespace PK
namespace Pl
open PySem
section
variable {cl : List Nat → Nat → List D → Hp → R} {gl : Nat → Option D} {ms : List Nat} {G : Hp} {t go al le pl ad cell pot p : Nat}
def tPot (pot cell : Nat) : M := (.set 2 (.call pot (.cons (.bin .add false (.call cell (.cons (.v 0) (.cons (.v 1) .nil))) (.v 1)) .nil)))
def tComp (t : Nat) : L := (.comp false .range1 [9] [9] true (.cons (.call t (.cons (.v 2) (.cons (.c (.int 4)) .nil))) .nil) (.c (.bl true)) (.bin .sub false (.call t (.cons (.v 2) (.cons (.c (.int 9)) .nil))) (.c (.int 4))))
def tState (ad t : Nat) : M := (.set 3 (.call ad (.cons (.tup (.cons (.c (.int 0)) (.cons (.c (.int 0)) (.cons (.c .non) (.cons (.c .non) .nil))))) (.cons (tComp t) .nil))))
def tPar (t : Nat) : M := (.par [4, 5] (.cons (.bin .sub false (.call t (.cons (.v 2) (.cons (.c (.int 7)) .nil))) (.c (.int 3))) (.cons (.bin .sub false (.call t (.cons (.v 2) (.cons (.c (.int 7)) .nil))) (.c (.int 3))) .nil)))
def tMM : M := (.par [6, 7] (.cons (.bi .min2 false (.cons (.v 4) (.cons (.v 5) .nil))) (.cons (.bi .max2 false (.cons (.v 4) (.cons (.v 5) .nil))) .nil)))
def tAll (al : Nat) : M := (.set 8 (.call al (.cons (.v 3) (.cons (.v 6) (.cons (.v 7) .nil)))))
def tTurn (cell pot t ad al go pl le : Nat) : M := (.seq (tPot pot cell)
  (.seq (tState ad t)
  (.seq (tPar t)
  (.seq tMM
  (.seq (tAll al)
  (.for .range1 [9] true (.cons (.c (.int 40)) .nil) (gIn t go pl le)))))))
theorem ints_of_draw : ∀ {ys : List D}, (∀ y ∈ ys, ∃ v : Int, y = .int v ∧ -4 ≤ v ∧ v ≤ 4) → ∃ vs : List Int, ys = vs.map .int ∧ ∀ v ∈ vs, -4 ≤ v ∧ v ≤ 4
  | [], _ => ⟨[], rfl, (fun v h => by cases h)⟩
  | y :: ys, h => by
    obtain ⟨v, rfl, hv⟩ := h y List.mem_cons_self
    obtain ⟨vs, rfl, h2⟩ := ints_of_draw fun x hx => h x (List.mem_cons_of_mem _ hx)
    exact ⟨v :: vs, rfl, fun u hu => by
      rcases List.mem_cons.mp hu with rfl | hu
      · exact hv
      · exact h2 u hu⟩
theorem rangeD_len : ∀ (n : Nat) (lo : Int), (rangeD lo n).length = n
  | 0, _ => rfl
  | n + 1, lo => by show (rangeD (lo + 1) n).length + 1 = _; rw [rangeD_len]
theorem comp_draw72 (T : TakeC cl t) (h : PotAt G p) (x0 x1 x3 x4 x5 x6 x7 x8 x9 x10 x11 x12 : Option D) :
    ∃ (vs : List Int) (a b : Int), PotOk b ∧ vs.length ≤ 3 ∧ (∀ v ∈ vs, -4 ≤ v ∧ v ≤ 4) ∧ eval cl gl ms (tComp t) [x0, x1, some (.ref p), x3, x4, x5, x6, x7, x8, x9, x10, x11, x12] G = .ok (.lst (vs.map .int)) (G.set p (potC a b)) := by
  obtain ⟨_, a1, b1, e1, o1, n, rfl, n0, n4⟩ := T 4 ms _ _ h (by omega) (small_pow (by omega))
  have h1 := h.set (a := a1) o1
  obtain ⟨N, rfl⟩ : ∃ N : Nat, n = (N : Int) := ⟨n.toNat, by omega⟩
  have step : ∀ x G', PotAt G' p → Drawn (((fun x G1 => optK (bindT [9] true (wipes [x0, x1, some (.ref p), x3, x4, x5, x6, x7, x8, x9, x10, x11, x12] [9]) x) (fun s' => (eval cl gl ms (.c (.bl true)) s' G1).bind fun c G2 => blK c (fun t' => iteK t' (fun _ => (eval cl gl ms (.bin .sub false (.call t (.cons (.v 2) (.cons (.c (.int 9)) .nil))) (.c (.int 4))) s' G2).bind fun y G3 => .ok (.tup [y]) G3) fun _ => .ok .non G2) .bad) .bad) : D → Hp → R) x G') G' p (fun v => ∃ y, v = .tup [y] ∧ ∃ w : Int, y = .int w ∧ -4 ≤ w ∧ w ≤ 4) := fun x G' h' => by
    obtain ⟨_, a3, b3, e3, o3, c, rfl, c0, c9⟩ := T 9 ms _ _ h' (by omega) (small_pow (by omega))
    refine ⟨.tup [.int (c - 4)], a3, b3, ?_, o3, _, rfl, c - 4, rfl, by omega, by omega⟩
    simp -dsimp [wipes, e3]
  obtain ⟨ys, a4, b4, l4, p4, o4, e4⟩ := draw_comp (k := mkl false) step (rangeD 0 N) (G.set p (potC a1 b1)) [] h1
  obtain ⟨vs, rfl, hv⟩ := ints_of_draw p4
  rw [rangeD_len, List.length_map] at l4
  refine ⟨vs, a4, b4, o4, by omega, hv, ?_⟩
  have ev1 : evals cl gl ms (.cons (.call t (.cons (.v 2) (.cons (.c (.int 4)) .nil))) .nil) [x0, x1, some (.ref p), x3, x4, x5, x6, x7, x8, x9, x10, x11, x12] G = .ok (.tup [.int (N : Nat)]) (G.set p (potC a1 b1)) := by simp -dsimp [e1]
  have hr : decide (-(2 ^ 62) ≤ (N : Int) ∧ (N : Int) < 2 ^ 62) = true := decide_eq_true ⟨by omega, by omega⟩
  unfold tComp
  rw [ev_comp, ev1, R.bind_ok, tupK_tup, it_r1, if_pos hr, optK_some]
  rw [show (N : Int).toNat = N by omega]
  rw [show szOk (rangeD 0 N, (none : Option (Nat × Cell))).1.length = true from decide_eq_true (by show (rangeD 0 N).length ≤ 1000000; rw [rangeD_len]; omega), iteK_true]
  rw [e4, List.set_set]; rfl
theorem k72_turn (T : TakeC cl t) (C : CallsR cl cell gl fCell) (P : CallsR cl pot gl (fPot 18 2147483563)) (Ad : AddedR cl ad) (Al : AllR cl al) (Go : Goal72 cl go) (Pl : PlanR cl pl) (Le : LeadsR cl le)
    (ns : List Int) (i : Nat) (x2 x3 x4 x5 x6 x7 x8 x9 x10 x11 x12 : Option D) : ∃ y2 y3 y4 y5 y6 y7 y8 y9 y10 y11 y12 G', exec cl gl ms (tTurn cell pot t ad al go pl le) [some (.fz (ns.map .int)), some (.int (i : Nat)), x2, x3, x4, x5, x6, x7, x8, x9, x10, x11, x12] G = .nx [some (.fz (ns.map .int)), some (.int (i : Nat)), y2, y3, y4, y5, y6, y7, y8, y9, y10, y11, y12] G' := by
  obtain ⟨z, _, ez⟩ := cell_call (ms := ms) (G := G) C ns i
  obtain ⟨a, b, hb, ep⟩ := pot_call (ms := ms) (G := G) P (z + i)
  generalize D.fz (ns.map .int) = N at *
  generalize ((i : Nat) : Int) = I at *
  have q1 : exec cl gl ms (tPot pot cell) [some N, some (.int I), x2, x3, x4, x5, x6, x7, x8, x9, x10, x11, x12] G = .nx [some N, some (.int I), some (.ref G.length), x3, x4, x5, x6, x7, x8, x9, x10, x11, x12] (G ++ [potC a b]) := by
    unfold tPot
    simp -dsimp [ez, ep]
  have h0 : PotAt (G ++ [potC a b]) G.length := ⟨a, b, by rw [get_app0]; rfl, hb⟩
  obtain ⟨H, hH⟩ : ∃ H, H = G ++ [potC a b] := ⟨_, rfl⟩
  rw [← hH] at q1 h0
  obtain ⟨p, hp⟩ : ∃ p, p = G.length := ⟨_, rfl⟩
  rw [← hp] at q1 h0
  obtain ⟨vs, a1, b1, o1, v3, v4, e1⟩ := comp_draw72 (gl := gl) (ms := ms) T h0 (some N) (some (.int I)) x3 x4 x5 x6 x7 x8 x9 x10 x11 x12
  have h1 := h0.set (a := a1) o1
  obtain ⟨s, hs⟩ : ∃ s, s = added none vs := ⟨_, rfl⟩
  have os : Ok30 s ∧ cnt s ≤ 3 := by
    have c := cnt_added vs none
    rw [← hs] at c
    have c0 : cnt (none : S) = 0 := rfl
    refine ⟨⟨?_, by unfold c30; omega⟩, by omega⟩
    rw [hs]
    exact val_added (fun q h => by cases h) fun v hv => by have := v4 v hv; omega
  have ad1 := Ad none (stD none) (.lst (vs.map .int)) vs ms (H.set p (potC a1 b1)) (.inl rfl) (.inl rfl)
  rw [← hs] at ad1
  have q2 : exec cl gl ms (tState ad t) [some N, some (.int I), some (.ref p), x3, x4, x5, x6, x7, x8, x9, x10, x11, x12] H = .nx [some N, some (.int I), some (.ref p), some (stD s), x4, x5, x6, x7, x8, x9, x10, x11, x12] (H.set p (potC a1 b1)) := by
    have ad1 : cl ms ad [.tup [.int 0, .int 0, .non, .non], .lst (vs.map .int)] (H.set p (potC a1 b1)) = .ok (stD s) (H.set p (potC a1 b1)) := ad1
    unfold tState
    generalize tComp t = X at *
    generalize vs.map D.int = V at *
    generalize stD s = S1 at *
    simp -dsimp [e1, ad1]
  obtain ⟨_, a2, b2, e2, o2, x, rfl, x0, x1⟩ := (T 7 ms _ _ h1 (by omega) (small_pow (by omega))).again
  have h2 := h0.set (a := a2) o2
  obtain ⟨_, a3, b3, e3, o3, y, rfl, y0, y1⟩ := (T 7 ms _ _ h2 (by omega) (small_pow (by omega))).again
  have h3 := h0.set (a := a3) o3
  have q3 : exec cl gl ms (tPar t) [some N, some (.int I), some (.ref p), some (stD s), x4, x5, x6, x7, x8, x9, x10, x11, x12] (H.set p (potC a1 b1)) = .nx [some N, some (.int I), some (.ref p), some (stD s), some (.int (x - 3)), some (.int (y - 3)), x6, x7, x8, x9, x10, x11, x12] (H.set p (potC a3 b3)) := by
    unfold tPar
    generalize stD s = S1 at *
    simp -dsimp [e2, e3, pars]
  obtain ⟨l, hl⟩ : ∃ l, l = if y - 3 < x - 3 then y - 3 else x - 3 := ⟨_, rfl⟩
  obtain ⟨g, hg⟩ : ∃ g, g = if y - 3 > x - 3 then y - 3 else x - 3 := ⟨_, rfl⟩
  have lg : l ≤ g ∧ -3 ≤ l ∧ g ≤ 3 := by
    rw [hl, hg]
    split <;> split <;> omega
  obtain ⟨lg, l3, g3⟩ := lg
  have q4 : exec cl gl ms tMM [some N, some (.int I), some (.ref p), some (stD s), some (.int (x - 3)), some (.int (y - 3)), x6, x7, x8, x9, x10, x11, x12] (H.set p (potC a3 b3)) = .nx [some N, some (.int I), some (.ref p), some (stD s), some (.int (x - 3)), some (.int (y - 3)), some (.int l), some (.int g), x8, x9, x10, x11, x12] (H.set p (potC a3 b3)) := by
    unfold tMM
    generalize x - 3 = X at *
    generalize y - 3 = Y at *
    generalize stD s = S1 at *
    simp -dsimp [pars, hl, hg]
  generalize x - 3 = X at *
  generalize y - 3 = Y at *
  clear hl hg
  obtain ⟨Ls, al1, l6, hL⟩ := Al s l g ms (H.set p (potC a3 b3)) lg (by omega) (by omega) (by omega)
  have q5 : exec cl gl ms (tAll al) [some N, some (.int I), some (.ref p), some (stD s), some (.int X), some (.int Y), some (.int l), some (.int g), x8, x9, x10, x11, x12] (H.set p (potC a3 b3)) = .nx [some N, some (.int I), some (.ref p), some (stD s), some (.int X), some (.int Y), some (.int l), some (.int g), some (.lst (Ls.map lvD)), x9, x10, x11, x12] (H.set p (potC a3 b3)) := by
    unfold tAll
    generalize stD s = S1 at *
    generalize Ls.map lvD = F at *
    simp -dsimp [al1]
  have L := for_range (slot := 9) (n := 40) (step := fun st G1 => exec cl gl ms (gIn t go pl le) st G1) (Inv := fun i st G' => ∃ y9 y10 y11 y12, st = [some N, some (.int I), some (.ref p), some (stD s), some (.int X), some (.int Y), some (.int l), some (.int g), some (.lst (Ls.map lvD)), y9, y10, y11, y12] ∧ PotAt G' p)
    (fun i st G' hi ⟨y9, y10, y11, y12, e1, e2⟩ => by
      subst e1
      obtain ⟨z10, z11, z12, a, b, ob, e⟩ := in_turn (gl := gl) (ms := ms) T Go Pl Le e2 os.1 os.2 (show W30 l by unfold W30; omega) (show W30 g by unfold W30; omega) lg l6 hL (some N) (some (.int I)) (some (.int X)) (some (.int Y)) (some (.int (i : Nat))) y10 y11 y12
      exact ⟨_, _, e, some (.int (i : Nat)), z10, z11, z12, rfl, e2.set ob⟩)
    40 0 [some N, some (.int I), some (.ref p), some (stD s), some (.int X), some (.int Y), some (.int l), some (.int g), some (.lst (Ls.map lvD)), x9, x10, x11, x12] (H.set p (potC a3 b3)) (by omega) ⟨x9, x10, x11, x12, rfl, h3⟩
  obtain ⟨s', G', l1, y9, y10, y11, y12, hs', _⟩ := L
  subst hs'
  refine ⟨some (.ref p), some (stD s), some (.int X), some (.int Y), some (.int l), some (.int g), some (.lst (Ls.map lvD)), y9, y10, y11, y12, G', ?_⟩
  unfold tTurn
  rw [ex_seq, q1, O.then_nx, ex_seq, q2, O.then_nx, ex_seq, q3, O.then_nx, ex_seq, q4, O.then_nx, ex_seq, q5, O.then_nx]
  have ev : ∀ s H, evals cl gl ms (.cons (.c (.int 40)) .nil) s H = .ok (.tup [.int 40]) H := fun s H => rfl
  rw [ex_for, ev, R.st_ok, tupK_tup, it_r1, if_pos (by decide), optK_some]
  exact l1
def tIt : Ls := (.cons (.bi .max2 false (.cons (.c (.int 2)) (.cons (.bi .min2 false (.cons (.bi .len false (.cons (.v 0) .nil)) (.cons (.c (.int 6)) .nil))) .nil))) .nil)
def fK72 (cell pot t ad al go pl le : Nat) : Fn := ⟨1, 13, true, true, (.seq (.for .range1 [1] true tIt (tTurn cell pot t ad al go pl le))
  (.ret (.c (.bl true))))⟩
theorem k72_run (T : TakeC cl t) (C : CallsR cl cell gl fCell) (P : CallsR cl pot gl (fPot 18 2147483563)) (Ad : AddedR cl ad) (Al : AllR cl al) (Go : Goal72 cl go) (Pl : PlanR cl pl) (Le : LeadsR cl le) (ns : List Int) :
    ∃ G', run cl gl ms (fK72 cell pot t ad al go pl le) [.fz (ns.map .int)] G = .ok (.bl true) G' := by
  let N : Nat := max 2 (min ns.length 6)
  have hN : (if (if (6 : Int) < ns.length then (6 : Int) else ns.length) > 2 then (if (6 : Int) < ns.length then (6 : Int) else ns.length) else 2) = (N : Nat) := by
    show _ = ((max 2 (min ns.length 6) : Nat) : Int)
    split <;> split <;> omega
  have hN8 : N ≤ 6 := by show max 2 (min ns.length 6) ≤ 6; omega
  have L := for_range (slot := 1) (n := N) (step := fun s G1 => exec cl gl (G.length :: ms) (tTurn cell pot t ad al go pl le) s G1) (Inv := fun i s G' => ∃ x1 x2 x3 x4 x5 x6 x7 x8 x9 x10 x11 x12, s = [some (.fz (ns.map .int)), x1, x2, x3, x4, x5, x6, x7, x8, x9, x10, x11, x12])
    (fun i s G' hi ⟨x1, x2, x3, x4, x5, x6, x7, x8, x9, x10, x11, x12, hs⟩ => by
      subst hs
      obtain ⟨y2, y3, y4, y5, y6, y7, y8, y9, y10, y11, y12, G2, e⟩ := k72_turn (gl := gl) (ms := G.length :: ms) (G := G') T C P Ad Al Go Pl Le ns i x2 x3 x4 x5 x6 x7 x8 x9 x10 x11 x12
      exact ⟨_, G2, e, _, y2, y3, y4, y5, y6, y7, y8, y9, y10, y11, y12, rfl⟩)
    N 0 [some (.fz (ns.map .int)), none, none, none, none, none, none, none, none, none, none, none, none] G (by omega) ⟨_, _, _, _, _, _, _, _, _, _, _, _, rfl⟩
  obtain ⟨s', G', e1, x1, x2, x3, x4, x5, x6, x7, x8, x9, x10, x11, x12, hs⟩ := L
  subst hs
  have hr : decide (-(2 ^ 62) ≤ (N : Int) ∧ (N : Int) < 2 ^ 62) = true := decide_eq_true ⟨by omega, by omega⟩
  have hx : exec cl gl (G.length :: ms) (.for .range1 [1] true tIt (tTurn cell pot t ad al go pl le)) [some (.fz (ns.map .int)), none, none, none, none, none, none, none, none, none, none, none, none] G = .nx [some (.fz (ns.map .int)), x1, x2, x3, x4, x5, x6, x7, x8, x9, x10, x11, x12] G' := by
    have ev : evals cl gl (G.length :: ms) tIt [some (.fz (ns.map .int)), none, none, none, none, none, none, none, none, none, none, none, none] G = .ok (.tup [.int (N : Nat)]) G := by
      unfold tIt
      simp -dsimp
      exact hN
    rw [ex_for, ev, R.st_ok, tupK_tup, it_r1, if_pos hr, optK_some]
    rw [show (N : Int).toNat = N by omega]
    exact e1
  refine ⟨G'.take G.length, ?_⟩
  unfold fK72
  rw [run_t (by rfl)]
  have e0 : List.map some [D.fz (ns.map .int)] ++ List.replicate (13 - 1) none = [some (.fz (ns.map .int)), none, none, none, none, none, none, none, none, none, none, none, none] := rfl
  rw [e0, ex_seq, hx, O.then_nx, ex_ret, ev_c, R.st_ok, fr_ttf, fz_bl, be_bl, if_pos rfl]
end
end Pl
end PK
namespace Tk72
open PK PK.Pl
abbrev kl (n : Nat) : List Nat → Nat → List D → Hp → R := call tab gl n
theorem st_ {f : Fn} {i : Nat} (n : Nat) (h : tab i = some f) (ms : List Nat) (xs : List D) (G : Hp) : kl (n + 1) ms i xs G = PK.run (kl n) gl ms f xs G := by
  show optK (tab i) _ _ = _
  rw [h]; rfl
theorem cR {f : Fn} {i : Nat} (n : Nat) (h : tab i = some f) : CallsR (kl (n + 1)) i gl f := ⟨kl n, st_ n h⟩
theorem g0 : gl 0 = some (.int c30) := rfl
theorem g1 : gl 1 = some (.int m30) := rfl
theorem g2 : gl 2 = some (.int 200) := rfl
theorem g3 : gl 3 = some (stD none) := rfl
theorem i0 : tab 0 = some fWhole := rfl
theorem i1 : tab 1 = some (fWideQ 0) := rfl
theorem i2 : tab 2 = some (fNoneQ 0) := rfl
theorem i3 : tab 3 = some (fSomeQ 0 1) := rfl
theorem i4 : tab 4 = some (fState 2 3) := rfl
theorem i5 : tab 5 = some (fBounds 1) := rfl
theorem i6 : tab 6 = some fMusts := rfl
theorem i7 : tab 7 = some fEven := rfl
theorem i8 : tab 8 = some fWithin := rfl
theorem i9 : tab 9 = some (fPlanB 6 7) := rfl
theorem i10 : tab 10 = some (fPlan 4 5 8 9) := rfl
theorem i11 : tab 11 = some fCell := rfl
theorem i12 : tab 12 = some (fPot 18 2147483563) := rfl
theorem i13 : tab 13 = some fTake := rfl
theorem i14 : tab 14 = some fAdded := rfl
theorem i15 : tab 15 = some (fLeads 14) := rfl
theorem i16 : tab 16 = some (fGoal72 13) := rfl
theorem i17 : tab 17 = some (fAll 14) := rfl
theorem i18 : tab 18 = some (fK72 11 12 13 14 17 16 10 15) := rfl
theorem whole_c (n : Nat) : WholeR (kl (n + 1)) 0 := fun ms G => ⟨fun k => by rw [st_ n i0]; exact (whole_run k).1, by rw [st_ n i0]; exact (whole_run 0).2⟩
theorem wideq_c (n : Nat) : WideR (kl (n + 2)) 1 := fun ms G => ⟨fun k hk => by rw [st_ (n + 1) i1]; exact (wideq_run (whole_c n) g1).1 k hk, by rw [st_ (n + 1) i1]; exact (wideq_run (whole_c n) g1).2⟩
theorem none_c (n : Nat) : NoneR (kl (n + 2)) 2 := fun s x ms G hv hx => by rw [st_ (n + 1) i2]; exact none_run (whole_c n) hv hx
theorem some_c (n : Nat) : SomeR (kl (n + 3)) 3 := fun q x ms G hv hc hx => by rw [st_ (n + 2) i3]; exact some_run (whole_c (n + 1)) (wideq_c n) g0 hv hc hx
theorem state_c (n : Nat) : StateR (kl (n + 4)) 4 := fun s x ms G h hx => by rw [st_ (n + 3) i4]; exact state_run (none_c (n + 1)) (some_c n) h hx
theorem bounds_c (n : Nat) : BoundsR (kl (n + 3)) 5 := fun lo hi ms G h1 h2 h => by rw [st_ (n + 2) i5]; exact bounds_run (wideq_c n) h1 h2 h
theorem musts_c (n : Nat) : MustsR (kl (n + 1)) 6 := fun s g ms G => by rw [st_ n i6]; exact musts_run g3 s g
theorem even_c (n : Nat) : EvenR (kl (n + 1)) 7 := fun many total lo hi ms G h0 h1 hl hh => by rw [st_ n i7]; exact even_run h0 h1 hl hh
theorem within_c (n : Nat) : WithinR (kl (n + 1)) 8 := fun s g ms G => by rw [st_ n i8]; exact within_run g3 s g
theorem planB_c (n : Nat) : PlanBR (kl (n + 2)) 9 := fun s g lo hi ms G hv hl hh hn => by rw [st_ (n + 1) i9]; exact planB_run (musts_c n) (even_c n) hv hl hh hn
theorem plan_c (n : Nat) : PlanR (kl (n + 5)) 10 := fun s g x y lo hi ms G hs hg hx hy hl hh hlh => by rw [st_ (n + 4) i10]; exact plan_run (state_c n) (bounds_c (n + 1)) (within_c (n + 3)) (planB_c (n + 2)) g2 hs hg hx hy hl hh hlh
theorem take_c (n : Nat) : TakeC (kl (n + 1)) 13 := fun k ms G p h h0 h1 => take_call (cR n i13) h h0 h1
theorem added_c (n : Nat) : AddedR (kl (n + 1)) 14 := fun s x y vs ms G hx hy => by rw [st_ n i14]; exact added_run hx hy
theorem leads_c (n : Nat) : LeadsR (kl (n + 2)) 15 := fun s g lo hi x ps ms G L hx => by rw [st_ (n + 1) i15]; exact leads_run (added_c n) L hx
theorem goal_c (n : Nat) : Goal72 (kl (n + 2)) 16 := fun c ms G p h hc => by rw [st_ (n + 1) i16]; exact goal72_draw (take_c n) h hc
theorem all_c (n : Nat) : AllR (kl (n + 2)) 17 := fun s lo hi ms G h1 h2 h3 h4 => by rw [st_ (n + 1) i17]; exact all_run (added_c n) h1 h2 h3 h4
theorem plain (ns : List Int) (_ : ns.length ≤ 63) (_ : ∀ z ∈ ns, PySem.Builtin.Int.intBits z ≤ 1048576) : ∃ G', PK.call tab gl 20 [] 18 [.fz (ns.map .int)] [] = .ok (.bl true) G' := by
  have h := st_ 19 i18 [] [.fz (ns.map .int)] []
  obtain ⟨G', e⟩ := k72_run (ms := []) (G := []) (gl := gl) (take_c 18) (cR 18 i11) (cR 18 i12) (added_c 18) (all_c 17) (goal_c 17) (plan_c 14) (leads_c 17) ns
  exact ⟨G', h.trans e⟩
theorem done : PySem.Challenge.rw_peakroll_k72_none_where_none.Holds := holds plain
end Tk72
theorem PySem.Challenge.cw_peakroll_k72_none_where_none_holds : PySem.Challenge.rw_peakroll_k72_none_where_none.Holds := by
  exact Tk72.done
