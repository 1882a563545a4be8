import PyProof.Rows.All
import Wide.All
import OpenK.AllK
import Wide.FinOn
import HandS.ForMost
import HandS.Exc
import HandS.Lambda
import HandS.TupAny
import HandS.Star
import HandS.Style
import HandS.Wide
import HandS.WordsDict
import HandS.Conv
import HandS.Small
import HandS.NoneIn
import KE.GoesEnum
import HandS.Comp
import HandS.Defaults
import HandS.HeadHook2
import HandS.EndTab
import HandS.HeadWalk
import HandS.Words
import PyProof.Rows.StrOr
import PyProof.ReprRoads
import KE.KExcSuper
import HandS.ExcInit
import HandS.ExcField
import HandS.Head2
import PySem.Challenge.RW_guestwebs_k46_webs_counted_by_listing
set_option Elab.async false
set_option linter.all false
set_option maxRecDepth 1000000
section
/-! PBCore: plain data, a small store, and the combinators of the evaluator (continuation style, the answer a Bool). No kit in it. -/
set_option linter.all false
namespace PB
/-- pure data; a text is a number (PBStr tells the code) -/
inductive P where
  | non | bl (b : Bool) | int (i : Int) | str (n : Nat) | tup (ps : List P)
/-- what a slot or an item holds: nothing known; pure data; the n-th thing of the store; a new list that nobody holds; a tuple with things in it -/
inductive D where
  | un | p (x : P) | ref (n : Nat) | tmp (ds : List D) | tr (ds : List D)
/-- a thing of the store: a list (its length, items ahead, items behind the last one first), locked or not; a dict, locked or not; an instance of the class c -/
inductive O where
  | lst (lk : Bool) (len : Nat) (fw rv : List D)
  | dct (lk : Bool) (kvs : List (P × D))
  | ins (c : Nat) (fs : List (Nat × D))
  | src (j : Nat)
  | cel
  | tab (j : Nat)
/-- the store: how many things, those below k are kept at a call's end, the things, newest first -/
structure Mem where
  n : Nat
  k : Nat
  os : List O

abbrev KD := D → Mem → Bool
abbrev KX := Nat → List P → Mem → Bool
abbrev Sl := List D
abbrev Ex := Sl → Mem → KX → KD → Bool
abbrev Ax := Sl → Mem → KX → (List D → Mem → Bool) → Bool
abbrev KN := Sl → Mem → Bool
structure Ks where
  x : KX
  r : KD
  b : KN
  c : KN
abbrev Sx := Sl → Mem → Ks → KN → Bool

abbrev sizeL : Nat := 16777216

/-! ### small things -/
noncomputable def nth {α : Type} (z : α) (l : List α) : Nat → α := List.rec (motive := fun _ => Nat → α) (fun _ => z) (fun a _ ih i => Nat.rec a (fun j _ => ih j) i) l
noncomputable def setN {α : Type} (x : α) (l : List α) : Nat → List α := List.rec (motive := fun _ => Nat → List α) (fun _ => []) (fun a r ih i => Nat.rec (x :: r) (fun j _ => a :: ih j) i) l
/-- an int forced -/
noncomputable def fN (n : Nat) (k : Nat → Bool) : Bool := Nat.rec (k 0) (fun m _ => k (Nat.succ m)) n
/-- .. a great one kept as a difference (the kernel's tables tell numbers by their low bits) -/
noncomputable def fB (n : Nat) (k : Nat → Bool) : Bool := Bool.rec (Nat.rec (k 0) (fun c _ => Nat.rec (k 0) (fun m _ => k (Nat.sub m c)) (Nat.add n (Nat.succ c))) (Nat.succ (Nat.mod n 1000003))) (fN n k) (Nat.ble n 4294967296)
noncomputable def fI (i : Int) (k : Int → Bool) : Bool := Int.rec (fun n => fB n (fun n => k (Int.ofNat n))) (fun n => fB n (fun n => k (Int.negSucc n))) i
def ilt (a b : Int) : Bool := match a, b with
  | .ofNat x, .ofNat y => Nat.blt x y
  | .ofNat _, .negSucc _ => false
  | .negSucc _, .ofNat _ => true
  | .negSucc x, .negSucc y => Nat.blt y x
def ieq (a b : Int) : Bool := match a, b with
  | .ofNat x, .ofNat y => Nat.beq x y
  | .negSucc x, .negSucc y => Nat.beq x y
  | _, _ => false
def b2I (b : Bool) : Int := match b with
  | true => 1
  | false => 0

mutual
/-- == of pure data, as Python has it -/
def eqP : P → P → Bool
  | .non, .non => true
  | .bl a, .bl b => a == b
  | .bl a, .int j => ieq (b2I a) j
  | .int i, .bl b => ieq i (b2I b)
  | .int i, .int j => ieq i j
  | .str a, .str b => Nat.beq a b
  | .tup a, .tup b => eqPs a b
  | _, _ => false
def eqPs : List P → List P → Bool
  | [], [] => true
  | a :: x, b :: y => match eqP a b with
    | true => eqPs x y
    | false => false
  | _, _ => false
end

mutual
/-- at most so deep -/
def depLe : Nat → P → Bool
  | n, .tup ps => match n with
    | 0 => false
    | n + 1 => depLes n ps
  | _, _ => true
def depLes : Nat → List P → Bool
  | _, [] => true
  | n, p :: ps => match depLe n p with
    | true => depLes n ps
    | false => false
end
abbrev deep : Nat := 100

/-! ### the store -/
noncomputable def Mem.get (m : Mem) (i : Nat) : O := nth (.ins 0 []) m.os (m.n - 1 - i)
noncomputable def Mem.set (m : Mem) (i : Nat) (o : O) : Mem := { m with os := setN o m.os (m.n - 1 - i) }
def Mem.new (m : Mem) (o : O) : Mem := { m with n := m.n + 1, os := o :: m.os }
/-- things above t are forgotten -/
def Mem.cut (m : Mem) (t : Nat) : Mem := { m with n := t, os := m.os.drop (m.n - t) }
mutual
/-- one more than the greatest thing named -/
def topD : D → Nat
  | .un => 0 | .p _ => 0 | .ref n => n + 1 | .tmp ds => topDs ds | .tr ds => topDs ds
def topDs : List D → Nat
  | [] => 0
  | d :: ds => max (topD d) (topDs ds)
end
/-- a thing is written into another one -/
def Mem.keep (m : Mem) (d : D) : Mem := match d with
  | .p _ => m
  | d => { m with k := max m.k (topD d) }
/-- a temporary list is laid -/
def lay (d : D) (m : Mem) (k : KD) : Bool := match d with
  | .tmp ds => k (.ref m.n) (m.new (.lst false ds.length ds []))
  | d => k d m
/-- a list's items, read -/
noncomputable def listOf (d : D) (m : Mem) (k : List D → Bool) : Bool := match d with
  | .tmp ds => k ds
  | .ref i => match Nat.blt i m.n, m.get i with
    | true, .lst _ _ fw rv => match rv with
      | [] => k fw
      | rv => k (fw ++ rv.reverse)
    | _, _ => false
  | _ => false
/-- .. of one that is not locked -/
noncomputable def listU (d : D) (m : Mem) (k : List D → Bool) : Bool := match d with
  | .tmp ds => k ds
  | .ref i => match Nat.blt i m.n, m.get i with
    | true, .lst false _ fw rv => match rv with
      | [] => k fw
      | rv => k (fw ++ rv.reverse)
    | _, _ => false
  | _ => false
def pures : List D → Option (List P)
  | [] => some []
  | .p x :: r => match pures r with
    | some xs => some (x :: xs)
    | none => none
  | _ :: _ => none
def wraps : List P → List D
  | [] => []
  | x :: r => .p x :: wraps r
/-- a tuple of items -/
def mkTup (ds : List D) (m : Mem) (k : KD) : Bool := match Nat.ble ds.length sizeL with
  | true => match pures ds with
    | some xs => k (.p (.tup xs)) m
    | none => k (.tr ds) m
  | false => false
def tupOf (d : D) (k : List D → Bool) : Bool := match d with
  | .p (.tup xs) => k (wraps xs)
  | .tr ds => k ds
  | _ => false
/-- items of a list or a tuple -/
noncomputable def seqOf (d : D) (m : Mem) (k : List D → Bool) : Bool := match d with
  | .p (.tup xs) => k (wraps xs)
  | .tr ds => k ds
  | d => listOf d m k

/-! ### expressions -/
noncomputable def eVar (i : Nat) : Ex := fun σ m _ k => match nth .un σ i with
  | .un => false
  | d => k d m
def eLit (x : P) : Ex := fun _ m _ k => k (.p x) m
/-- the arguments one behind another, each laid -/
def aNil : Ax := fun _ m _ k => k [] m
def aCons (a : Ex) (r : Ax) : Ax := fun σ m x k => a σ m x fun d m => lay d m fun d m => r σ m x fun ds m => k (d :: ds) m
noncomputable def aStar (a : Ex) (r : Ax) : Ax := fun σ m x k => a σ m x fun d m => lay d m fun d m => seqOf d m fun ds => r σ m x fun es m => k (ds ++ es) m
def eTup (a : Ax) : Ex := fun σ m x k => a σ m x fun ds m => mkTup ds m k
def eLst (a : Ax) : Ex := fun σ m x k => a σ m x fun ds m => match Nat.ble ds.length sizeL with
  | true => k (.tmp ds) m
  | false => false
def eBin (f : D → D → Mem → KD → Bool) (a b : Ex) : Ex := fun σ m x k => a σ m x fun u m => b σ m x fun v m => f u v m k
def eUn (f : D → Mem → KD → Bool) (a : Ex) : Ex := fun σ m x k => a σ m x fun u m => f u m k
def asB (d : D) (k : Bool → Bool) : Bool := match d with
  | .p (.bl b) => k b
  | _ => false
/-- a test: true ahead -/
def eIf (c a b : Ex) : Ex := fun σ m x k => c σ m x fun d m => asB d fun t => match t with
  | true => a σ m x k
  | false => b σ m x k
def eAnd (a b : Ex) : Ex := fun σ m x k => a σ m x fun d m => asB d fun t => match t with
  | true => b σ m x k
  | false => k (.p (.bl false)) m
def eOr (a b : Ex) : Ex := fun σ m x k => a σ m x fun d m => asB d fun t => match t with
  | true => k (.p (.bl true)) m
  | false => b σ m x k
def fNot (d : D) (m : Mem) (k : KD) : Bool := asB d fun t => match t with
  | true => k (.p (.bl false)) m
  | false => k (.p (.bl true)) m

/-! ### operators -/
noncomputable def fAdd (a b : D) (m : Mem) (k : KD) : Bool := match a, b with
  | .p (.int i), .p (.int j) => fI (Int.add i j) fun r => k (.p (.int r)) m
  | .p (.tup xs), .p (.tup ys) => match Nat.ble (xs.length + ys.length) sizeL with
    | true => k (.p (.tup (xs ++ ys))) m
    | false => false
  | a, b => listU a m fun xs => listU b m fun ys => match Nat.ble (xs.length + ys.length) sizeL with
    | true => k (.tmp (xs ++ ys)) m
    | false => false
noncomputable def fSub (a b : D) (m : Mem) (k : KD) : Bool := match a, b with
  | .p (.int i), .p (.int j) => fI (Int.sub i j) fun r => k (.p (.int r)) m
  | _, _ => false
noncomputable def fNeg (a : D) (m : Mem) (k : KD) : Bool := match a with
  | .p (.int i) => fI (Int.neg i) fun r => k (.p (.int r)) m
  | _ => false
def wide (i : Int) : Bool := Nat.blt (Int.natAbs i) 18446744073709551616
def repN {α : Type} (l : List α) : Nat → List α
  | 0 => []
  | n + 1 => l ++ repN l n
def bigW : Nat := Nat.pow 2 100000
noncomputable def fMul (a b : D) (m : Mem) (k : KD) : Bool := match a, b with
  | .p (.int i), .p (.int j) => match Nat.blt (Int.natAbs i) bigW && Nat.blt (Int.natAbs j) bigW with
    | true => fI (Int.mul i j) fun r => k (.p (.int r)) m
    | false => false
  | a, .p (.int (.ofNat j)) => listU a m fun xs => match Nat.ble (xs.length * j) sizeL && Nat.ble j 1000 with
    | true => k (.tmp (repN xs j)) m
    | false => false
  | _, _ => false
/-- in place: one factor of 64 bits -/
noncomputable def fMulI (a b : D) (m : Mem) (k : KD) : Bool := match a, b with
  | .p (.int i), .p (.int j) => match wide i || wide j with
    | true => fI (Int.mul i j) fun r => k (.p (.int r)) m
    | false => false
  | _, _ => false
noncomputable def fDiv (a b : D) (m : Mem) (k : KD) : Bool := match a, b with
  | .p (.int i), .p (.int (.ofNat j)) => match Nat.ble 1 j && Nat.blt j 1073741824 with
    | true => fI (Int.ediv i (.ofNat j)) fun r => k (.p (.int r)) m
    | false => false
  | _, _ => false
noncomputable def fMod (a b : D) (m : Mem) (k : KD) : Bool := match a, b with
  | .p (.int i), .p (.int (.ofNat j)) => match Nat.ble 1 j with
    | true => fI (Int.emod i (.ofNat j)) fun r => k (.p (.int r)) m
    | false => false
  | _, _ => false
def fLt (a b : D) (m : Mem) (k : KD) : Bool := match a, b with
  | .p (.int i), .p (.int j) => k (.p (.bl (ilt i j))) m
  | _, _ => false
def fLe (a b : D) (m : Mem) (k : KD) : Bool := match a, b with
  | .p (.int i), .p (.int j) => k (.p (.bl (!ilt j i))) m
  | _, _ => false
def fGt (a b : D) (m : Mem) (k : KD) : Bool := fLt b a m k
def fGe (a b : D) (m : Mem) (k : KD) : Bool := fLe b a m k
/-- == -/
noncomputable def eqD (a b : D) (m : Mem) (k : Bool → Bool) : Bool := match a, b with
  | .p x, .p y => match depLe deep y || depLe deep x with
    | true => k (eqP x y)
    | false => false
  | a, b => listOf a m fun xs => listOf b m fun ys => match pures xs, pures ys with
    | some xs, some ys => match depLes deep ys || depLes deep xs with
      | true => k (eqPs xs ys)
      | false => false
    | _, _ => false
noncomputable def fEq (a b : D) (m : Mem) (k : KD) : Bool := eqD a b m fun t => k (.p (.bl t)) m
noncomputable def fNe (a b : D) (m : Mem) (k : KD) : Bool := eqD a b m fun t => k (.p (.bl (!t))) m
def isNonP : P → Bool
  | .non => true
  | _ => false
def fIsN (a b : D) (m : Mem) (k : KD) : Bool := match b with
  | .p .non => match a with
    | .p x => k (.p (.bl (isNonP x))) m
    | .un => false
    | _ => k (.p (.bl false)) m
  | .p (.bl t) => match a with
    | .p (.bl u) => k (.p (.bl (u == t))) m
    | _ => false
  | _ => false
def fNotN (a b : D) (m : Mem) (k : KD) : Bool := match b with
  | .p .non => match a with
    | .p x => k (.p (.bl (!isNonP x))) m
    | .un => false
    | _ => k (.p (.bl true)) m
  | .p (.bl t) => match a with
    | .p (.bl u) => k (.p (.bl (!(u == t)))) m
    | _ => false
  | _ => false
def inPs (x : P) : List P → Bool
  | [] => false
  | y :: r => match eqP y x with
    | true => true
    | false => inPs x r
def hasK (x : P) : List (P × D) → Bool
  | [] => false
  | (y, _) :: r => match eqP y x with
    | true => true
    | false => hasK x r
/-- what may be a key here -/
def kOk : P → Bool
  | .int _ => true
  | .str _ => true
  | _ => false
/-- in a list, a tuple, a dict -/
noncomputable def inX (x : P) (b : D) (m : Mem) (k : Bool → Bool) : Bool := match b with
  | .p (.tup ys) => k (inPs x ys)
  | .ref i => match Nat.blt i m.n, m.get i with
    | true, .dct false kvs => match kOk x with
      | true => k (hasK x kvs)
      | false => false
    | _, _ => listOf (.ref i) m fun ds => match pures ds with
      | some ys => k (inPs x ys)
      | none => false
  | b => listOf b m fun ds => match pures ds with
    | some ys => k (inPs x ys)
    | none => false
noncomputable def inD (a b : D) (m : Mem) (k : Bool → Bool) : Bool := match a with
  | .p x => match depLe deep x with
    | true => inX x b m k
    | false => false
  | _ => false
noncomputable def fIn (a b : D) (m : Mem) (k : KD) : Bool := inD a b m fun t => k (.p (.bl t)) m
noncomputable def fNotIn (a b : D) (m : Mem) (k : KD) : Bool := inD a b m fun t => k (.p (.bl (!t))) m

/-! ### items by places -/
noncomputable def ixK {α : Type} (l : List α) : Nat → (α → Bool) → Bool := List.rec (motive := fun _ => Nat → (α → Bool) → Bool) (fun _ _ => false) (fun a _ ih i k => Nat.rec (k a) (fun j _ => ih j k) i) l
noncomputable def ixI {α : Type} (l : List α) (i : Int) (k : α → Bool) : Bool := match i with
  | .ofNat n => ixK l n k
  | .negSucc n => match Nat.blt n l.length with
    | true => ixK l (l.length - 1 - n) k
    | false => false
/-- .. the last item known -/
noncomputable def ixR {α : Type} (d0 : α) (l : List α) (i : Int) (k : α → Bool) : Bool := match i with
  | .negSucc 0 => k d0
  | i => ixI l i k
def getK (x : P) (k : D → Bool) : List (P × D) → Bool
  | [] => false
  | (y, d) :: r => match eqP y x with
    | true => k d
    | false => getK x k r
noncomputable def fIx (a b : D) (m : Mem) (k : KD) : Bool := match a, b with
  | .p (.tup xs), .p (.int i) => ixI xs i fun x => k (.p x) m
  | .tr ds, .p (.int i) => ixI ds i fun d => k d m
  | .ref r, b => match Nat.blt r m.n, m.get r with
    | true, .lst _ _ fw rv => match b with
      | .p (.int i) => match rv with
        | [] => ixI fw i fun d => k d m
        | d0 :: rv => ixR d0 (fw ++ (d0 :: rv).reverse) i fun d => k d m
      | _ => false
    | true, .dct false kvs => match b with
      | .p x => match kOk x with
        | true => getK x (fun d => k d m) kvs
        | false => false
      | _ => false
    | _, _ => false
  | .tmp ds, .p (.int i) => ixI ds i fun d => k d m
  | _, _ => false
/-- a part's end, clipped -/
def clip (n d : Nat) : Option Int → Nat
  | none => d
  | some (.ofNat j) => min j n
  | some (.negSucc j) => n - (j + 1)
def cutL {α : Type} (l : List α) (lo hi : Option Int) : List α := (l.drop (clip l.length 0 lo)).take (clip l.length l.length hi - clip l.length 0 lo)
abbrev Px := Sl → Mem → KX → (Option Int → Mem → Bool) → Bool
def pNone : Px := fun _ m _ k => k none m
def pSome (a : Ex) : Px := fun σ m x k => a σ m x fun d m => match d with
  | .p (.int i) => k (some i) m
  | _ => false
noncomputable def eSl (a : Ex) (lo hi : Px) : Ex := fun σ m x k => a σ m x fun d m => lo σ m x fun l m => hi σ m x fun h m => match d with
  | .p (.tup xs) => k (.p (.tup (cutL xs l h))) m
  | d => listOf d m fun ds => k (.tmp (cutL ds l h)) m
/-- xs[::-1] -/
noncomputable def fRev (d : D) (m : Mem) (k : KD) : Bool := listOf d m fun ds => k (.tmp ds.reverse) m

/-! ### built-in functions -/
def iN (n : Nat) : D := .p (.int (.ofNat n))
noncomputable def fLen (d : D) (m : Mem) (k : KD) : Bool := match d with
  | .p (.tup xs) => k (iN xs.length) m
  | .tr ds => k (iN ds.length) m
  | .tmp ds => k (iN ds.length) m
  | .ref r => match Nat.blt r m.n, m.get r with
    | true, .lst _ n _ _ => k (iN n) m
    | true, .dct false kvs => k (iN kvs.length) m
    | _, _ => false
  | _ => false
def fAbs (d : D) (m : Mem) (k : KD) : Bool := match d with
  | .p (.int i) => k (iN i.natAbs) m
  | _ => false
def fInt (d : D) (m : Mem) (k : KD) : Bool := match d with
  | .p (.int i) => k (.p (.int i)) m
  | .p (.bl b) => k (.p (.int (b2I b))) m
  | _ => false
def fMax2 (a b : D) (m : Mem) (k : KD) : Bool := match a, b with
  | .p (.int i), .p (.int j) => match ilt i j with
    | true => k (.p (.int j)) m
    | false => k (.p (.int i)) m
  | _, _ => false
def fMin2 (a b : D) (m : Mem) (k : KD) : Bool := match a, b with
  | .p (.int i), .p (.int j) => match ilt j i with
    | true => k (.p (.int j)) m
    | false => k (.p (.int i)) m
  | _, _ => false
def intsD : List D → Option (List Int)
  | [] => some []
  | .p (.int x) :: r => match intsD r with
    | some xs => some (x :: xs)
    | none => none
  | _ :: _ => none
def boolsD : List D → Option (List Bool)
  | [] => some []
  | .p (.bl x) :: r => match boolsD r with
    | some xs => some (x :: xs)
    | none => none
  | _ :: _ => none
noncomputable def fSum (d : D) (m : Mem) (k : KD) : Bool := listOf d m fun ds => match intsD ds with
  | some xs => fI (xs.foldl Int.add 0) fun r => k (.p (.int r)) m
  | none => false
noncomputable def fAll (d : D) (m : Mem) (k : KD) : Bool := listOf d m fun ds => match boolsD ds with
  | some xs => k (.p (.bl (xs.all id))) m
  | none => false
noncomputable def fAny (d : D) (m : Mem) (k : KD) : Bool := listOf d m fun ds => match boolsD ds with
  | some xs => k (.p (.bl (xs.any id))) m
  | none => false
noncomputable def fTuple (d : D) (m : Mem) (k : KD) : Bool := match d with
  | .p (.tup xs) => k (.p (.tup xs)) m
  | .tr ds => k (.tr ds) m
  | d => listOf d m fun ds => mkTup ds m k
def keysOf : List (P × D) → List D
  | [] => []
  | (x, _) :: r => .p x :: keysOf r
noncomputable def fList (d : D) (m : Mem) (k : KD) : Bool := match d with
  | .ref r => match Nat.blt r m.n, m.get r with
    | true, .dct false kvs => k (.tmp (keysOf kvs)) m
    | _, _ => listOf d m fun ds => k (.tmp ds) m
  | d => seqOf d m fun ds => k (.tmp ds) m
def upto (lo : Int) : Nat → List D
  | 0 => []
  | n + 1 => .p (.int lo) :: upto (lo + 1) n
def insP (x : P) (d : D) : List (P × D) → List (P × D)
  | [] => [(x, d)]
  | (y, e) :: r => match eqP y x with
    | true => (y, d) :: r
    | false => (y, e) :: insP x d r
/-- pairs of a list -/
def pairsP : List D → Option (List (P × D))
  | [] => some []
  | .p (.tup [x, y]) :: r => match pairsP r with
    | some kvs => some ((x, .p y) :: kvs)
    | none => none
  | .tr [.p x, d] :: r => match pairsP r with
    | some kvs => some ((x, d) :: kvs)
    | none => none
  | _ :: _ => none
def keysOk : List (P × D) → Bool
  | [] => true
  | (x, _) :: r => match kOk x with
    | true => keysOk r
    | false => false
def merP (kvs : List (P × D)) : List (P × D) := kvs.foldl (fun acc kv => insP kv.1 kv.2 acc) []
noncomputable def fDict (d : D) (m : Mem) (k : KD) : Bool := listOf d m fun ds => match pairsP ds with
  | some kvs => match keysOk kvs with
    | true => k (.ref m.n) (m.new (.dct false (merP kvs)))
    | false => false
  | none => false
/-- keys and values by turns -/
def twos : List D → Option (List (P × D))
  | [] => some []
  | .p x :: d :: r => match twos r with
    | some kvs => some ((x, d) :: kvs)
    | none => none
  | _ => none
/-- {k: v, ..} -/
def eDict (a : Ax) : Ex := fun σ m x k => a σ m x fun ds m => match twos ds with
  | some kvs => match keysOk kvs && Nat.ble kvs.length 15 with
    | true => k (.ref m.n) (m.new (.dct false (merP kvs)))
    | false => false
  | none => false

/-! ### methods of lists and dicts -/
noncomputable def isLst (d : D) (m : Mem) : Bool := match d with
  | .tmp _ => true
  | .ref r => match Nat.blt r m.n, m.get r with
    | true, .lst _ _ _ _ => true
    | _, _ => false
  | _ => false
noncomputable def isDct (d : D) (m : Mem) : Bool := match d with
  | .ref r => match Nat.blt r m.n, m.get r with
    | true, .dct false _ => true
    | _, _ => false
  | _ => false
/-- o.name(args): o is looked at ahead of the arguments -/
def eMB (c : D → Mem → Bool) (f : D → List D → Mem → KD → Bool) (o : Ex) (a : Ax) : Ex := fun σ m x k => o σ m x fun d m => match c d m with
  | true => a σ m x fun ds m => f d ds m k
  | false => false
def on1 (f : D → D → Mem → KD → Bool) (d : D) (ds : List D) (m : Mem) (k : KD) : Bool := match ds with
  | [e] => f d e m k
  | _ => false
def on2 (f : D → D → D → Mem → KD → Bool) (d : D) (ds : List D) (m : Mem) (k : KD) : Bool := match ds with
  | [e, g] => f d e g m k
  | _ => false
def on0 (f : D → Mem → KD → Bool) (d : D) (ds : List D) (m : Mem) (k : KD) : Bool := match ds with
  | [] => f d m k
  | _ => false
/-- f(args), f built-in -/
def eCB (f : List D → Mem → KD → Bool) (a : Ax) : Ex := fun σ m x k => a σ m x fun ds m => f ds m k
def o1 (f : D → Mem → KD → Bool) (ds : List D) (m : Mem) (k : KD) : Bool := match ds with
  | [e] => f e m k
  | _ => false
def o2 (f : D → D → Mem → KD → Bool) (ds : List D) (m : Mem) (k : KD) : Bool := match ds with
  | [e, g] => f e g m k
  | _ => false

/-! ### things changed -/
noncomputable def fApp (a b : D) (m : Mem) (k : KD) : Bool := match a with
  | .ref r => match Nat.blt r m.n, m.get r with
    | true, .lst false n fw rv => match Nat.blt n sizeL with
      | true => lay b m fun b m => k (.p .non) ((m.set r (.lst false (n + 1) fw (b :: rv))).keep b)
      | false => false
    | _, _ => false
  | _ => false
noncomputable def fExt (a b : D) (m : Mem) (k : KD) : Bool := match a with
  | .ref r => match Nat.blt r m.n, m.get r with
    | true, .lst false n fw rv => listU b m fun ds => match Nat.ble (n + ds.length) sizeL with
      | true => k (.p .non) ((m.set r (.lst false (n + ds.length) fw (ds.reverse ++ rv))).keep (.tr ds))
      | false => false
    | _, _ => false
  | _ => false
noncomputable def fPop (a : D) (m : Mem) (k : KD) : Bool := match a with
  | .ref r => match Nat.blt r m.n, m.get r with
    | true, .lst false n fw rv => match rv with
      | d :: rv => k d (m.set r (.lst false (n - 1) fw rv))
      | [] => match fw.reverse with
        | d :: rv => k d (m.set r (.lst false (n - 1) [] rv))
        | [] => false
    | _, _ => false
  | _ => false
def idxP (x : P) (i : Nat) (k : Nat → Bool) : List P → Bool
  | [] => false
  | y :: r => match eqP y x with
    | true => k i
    | false => idxP x (i + 1) k r
/-- a.index(b) -/
noncomputable def fIndex (a b : D) (m : Mem) (k : KD) : Bool := match b with
  | .p x => match depLe deep x with
    | true => listOf a m fun ds => match pures ds with
      | some ys => idxP x 0 (fun i => k (iN i) m) ys
      | none => false
    | false => false
  | _ => false
/-- d[i] = v; xs[i] = v -/
noncomputable def fPut (a i b : D) (m : Mem) (k : Mem → Bool) : Bool := match a with
  | .ref r => match Nat.blt r m.n, m.get r with
    | true, .dct false kvs => match i with
      | .p x => match Nat.blt kvs.length sizeL && kOk x with
        | true => k ((m.set r (.dct false (insP x b kvs))).keep b)
        | false => false
      | _ => false
    | true, .lst false n fw rv => match i with
      | .p (.int (.ofNat j)) => match Nat.blt j n with
        | true => k ((m.set r (.lst false n (setN b (fw ++ rv.reverse) j) [])).keep b)
        | false => false
      | _ => false
    | _, _ => false
  | _ => false
/-- d.get(i, b) -/
noncomputable def fGet (a i b : D) (m : Mem) (k : KD) : Bool := match a with
  | .ref r => match Nat.blt r m.n, m.get r with
    | true, .dct false kvs => match i with
      | .p x => match kOk x with
        | true => match hasK x kvs with
          | true => getK x (fun d => k d m) kvs
          | false => k b m
        | false => false
      | _ => false
    | _, _ => false
  | _ => false
def itemsOf : List (P × D) → List D
  | [] => []
  | (x, .p y) :: r => .p (.tup [x, y]) :: itemsOf r
  | (x, d) :: r => .tr [.p x, d] :: itemsOf r

/-! ### what is walked -/
inductive Wk where
  | fix (ds : List D)
  | at (r i : Nat)
  | en (r i : Nat)
  | rng (j hi : Int)
noncomputable def lstAt (r i : Nat) (m : Mem) (k : D → Nat → Bool) (z : Bool) : Bool := match Nat.blt r m.n, m.get r with
  | true, .lst _ n fw rv => match Nat.blt i n with
    | true => fN (Nat.succ i) fun i' => match rv with
      | [] => ixK fw i fun d => k d i'
      | rv => ixK (fw ++ rv.reverse) i fun d => k d i'
    | false => z
  | _, _ => false
def pairD (i : Nat) (d : D) : D := match d with
  | .p x => .p (.tup [.int (.ofNat i), x])
  | d => .tr [iN i, d]
noncomputable def Wk.step (w : Wk) (m : Mem) (k : D → Wk → Bool) (z : Bool) : Bool := match w with
  | .fix ds => match ds with
    | [] => z
    | d :: ds => k d (.fix ds)
  | .at r i => lstAt r i m (fun d i' => k d (.at r i')) z
  | .en r i => lstAt r i m (fun d i' => k (pairD i d) (.en r i')) z
  | .rng j hi => match ilt j hi with
    | true => fI (Int.add j 1) fun j' => k (.p (.int j)) (.rng j' hi)
    | false => z
abbrev Ix := Sl → Mem → KX → (Wk → Mem → Bool) → Bool
/-- a list laid out -/
noncomputable def fL {α : Type} (l : List α) : (List α → Bool) → Bool := List.rec (motive := fun _ => (List α → Bool) → Bool) (fun k => k []) (fun a _ ih k => ih fun r => k (a :: r)) l
/-- all of a list's items ahead -/
noncomputable def normK (m : Mem) (r : Nat) (k : Mem → Bool) : Bool := match m.get r with
  | .lst lk n fw (d :: rv) => fL (fw ++ (d :: rv).reverse) fun l => k (m.set r (.lst lk n l []))
  | _ => k m
/-- a list or a tuple -/
noncomputable def iSeq (a : Ex) : Ix := fun σ m x k => a σ m x fun d m => lay d m fun d m => match d with
  | .p (.tup xs) => k (.fix (wraps xs)) m
  | .tr ds => k (.fix ds) m
  | .ref r => match isLst (.ref r) m with
    | true => normK m r fun m => k (.at r 0) m
    | false => false
  | _ => false
def enumF (i : Nat) : List D → List D
  | [] => []
  | d :: r => pairD i d :: enumF (i + 1) r
noncomputable def iEnum (a : Ex) : Ix := fun σ m x k => a σ m x fun d m => lay d m fun d m => match d with
  | .p (.tup xs) => k (.fix (enumF 0 (wraps xs))) m
  | .tr ds => k (.fix (enumF 0 ds)) m
  | .ref r => match isLst (.ref r) m with
    | true => normK m r fun m => k (.en r 0) m
    | false => false
  | _ => false
def small62 (i : Int) : Bool := Nat.blt i.natAbs 4611686018427387904
/-- a range -/
def iRng1 (a : Ex) : Ix := fun σ m x k => a σ m x fun d m => lay d m fun d m => match d with
  | .p (.int j) => match small62 j with
    | true => k (.rng 0 j) m
    | false => false
  | _ => false
def iRng2 (a b : Ex) : Ix := fun σ m x k => a σ m x fun d m => lay d m fun d m => b σ m x fun e m => lay e m fun e m => match d, e with
  | .p (.int i), .p (.int j) => match small62 i && small62 j with
    | true => k (.rng i j) m
    | false => false
  | _, _ => false
noncomputable def Mem.lock (m : Mem) (r : Nat) (b : Bool) : Mem := match m.get r with
  | .dct _ kvs => m.set r (.dct b kvs)
  | .lst _ n fw rv => m.set r (.lst b n fw rv)
  | _ => m
/-- the slot's dict, locked -/
noncomputable def lockK (i : Nat) (σ : Sl) (m : Mem) (k : Nat → List (P × D) → Mem → Bool) : Bool := match nth .un σ i with
  | .ref r => match Nat.blt r m.n, m.get r with
    | true, .dct false kvs => k r kvs (m.set r (.dct true kvs))
    | _, _ => false
  | _ => false

/-! ### targets -/
abbrev Gx := D → Sl → Mem → KX → (Sl → Mem → Bool) → Bool
noncomputable def gNm (i : Nat) : Gx := fun d σ m _ k => k (setN d σ i) m
abbrev Gs := List D → Sl → Mem → KX → (Sl → Mem → Bool) → Bool
def gsNil : Gs := fun ds σ m _ k => match ds with
  | [] => k σ m
  | _ => false
def gsCons (g : Gx) (r : Gs) : Gs := fun ds σ m x k => match ds with
  | d :: ds => g d σ m x fun σ m => r ds σ m x k
  | [] => false
noncomputable def gTp (n : Nat) (g : Gs) : Gx := fun d σ m x k => seqOf d m fun ds => match Nat.beq ds.length n with
  | true => g ds σ m x k
  | false => false
noncomputable def gSub (o i : Ex) : Gx := fun d σ m x k => o σ m x fun a m => i σ m x fun b m => fPut a b d m fun m => k σ m

/-! ### comprehensions: the element is laid; the block's own slots are forgotten; no exception goes out -/
abbrev fuel : Nat := 1000000
def onB (t : Bool) (a b : Bool) : Bool := match t with
  | true => a
  | false => b
def xF : KX := fun _ _ _ => false
noncomputable def wipeD (σ : Sl) : List Nat → Sl
  | [] => σ
  | v :: vs => setN .un (wipeD σ vs) v
noncomputable def lcG (g : Gx) (c e : Ex) (σ : Sl) (k : List D → Mem → Bool) (n : Nat) : Wk → List D → Mem → Bool :=
  Nat.rec (motive := fun _ => Wk → List D → Mem → Bool) (fun _ _ _ => false)
    (fun _ ih w acc m => w.step m (fun d w => g d σ m xF fun σ m => c σ m xF fun t m => asB t fun t => onB t (e σ m xF fun d m => lay d m fun d m => ih w (d :: acc) m) (ih w acc m)) (k acc.reverse m)) n
def eTrue : Ex := fun _ m _ k => k (.p (.bl true)) m
noncomputable def eComp (vs : List Nat) (i : Ix) (g : Gx) (c e : Ex) : Ex := fun σ m x k => i σ m x fun w m => lcG g c e (wipeD σ vs) (fun ds m => k (.tmp ds) m) fuel w [] m
/-- .. over d.items() -/
noncomputable def eCompI (vs : List Nat) (i : Nat) (g : Gx) (c e : Ex) : Ex := fun σ m x k => lockK i σ m fun r kvs m => lcG g c e (wipeD σ vs) (fun ds m => k (.tmp ds) (m.lock r false)) fuel (.fix (itemsOf kvs)) [] m

/-! ### list(range(..)) -/
noncomputable def uptoK (lo : Int) (k : List D → Bool) (n : Nat) : List D → Bool := Nat.rec (motive := fun _ => List D → Bool) (fun acc => k acc) (fun n ih acc => fI (Int.add lo (Int.ofNat n)) fun j => ih (.p (.int j) :: acc)) n
noncomputable def lrK (i j : Int) (k : List D → Bool) : Bool := match small62 i && small62 j with
  | true => fN (Int.toNat (Int.sub j i)) fun n => match Nat.ble n sizeL with
    | true => uptoK i k n []
    | false => false
  | false => false
noncomputable def eLR1 (a : Ex) : Ex := fun σ m x k => a σ m x fun d m => match d with
  | .p (.int j) => lrK 0 j fun ds => k (.tmp ds) m
  | _ => false
noncomputable def eLR2 (a b : Ex) : Ex := fun σ m x k => a σ m x fun d m => b σ m x fun e m => match d, e with
  | .p (.int i), .p (.int j) => lrK i j fun ds => k (.tmp ds) m
  | _, _ => false

/-! ### calls -/
abbrev Fx := List D → Mem → KX → KD → Bool
def eCall (f : Fx) (a : Ax) : Ex := fun σ m x k => a σ m x fun ds m => f ds m x k
/-- a call's end: what it made is forgotten but for what it hands back -/
def gcRet (n0 : Nat) (d : D) (m : Mem) (k : KD) : Bool := match d with
  | .p x => k (.p x) (m.cut (max n0 m.k))
  | d => k d (m.cut (max (max n0 m.k) (topD d)))
noncomputable def fnBody (n nl : Nat) (b : Sx) : Fx := fun ds m x k => match Nat.beq ds.length n with
  | true => b (ds ++ List.replicate nl .un) m ⟨x, fun d m' => gcRet m.n d m' k, fun _ _ => false, fun _ _ => false⟩ (fun _ m' => gcRet m.n (.p .non) m' k)
  | false => false

/-! ### statements -/
def sPass : Sx := fun σ m _ k => k σ m
def sSeq (a b : Sx) : Sx := fun σ m K k => a σ m K fun σ m => b σ m K k
def sAsg (g : Gx) (e : Ex) : Sx := fun σ m K k => e σ m K.x fun d m => lay d m fun d m => g d σ m K.x k
/-- a, b = x, y stored from the right (names) -/
noncomputable def sPar (i j : Nat) (a : Ax) : Sx := fun σ m K k => a σ m K.x fun ds m => match ds with
  | [u, v] => k (setN v (setN u σ i) j) m
  | _ => false
noncomputable def sPar3 (i j l : Nat) (a : Ax) : Sx := fun σ m K k => a σ m K.x fun ds m => match ds with
  | [u, v, w] => k (setN w (setN v (setN u σ i) j) l) m
  | _ => false
noncomputable def sAug (i : Nat) (f : D → D → Mem → KD → Bool) (e : Ex) : Sx := fun σ m K k => match nth .un σ i with
  | .un => false
  | a => e σ m K.x fun b m => f a b m fun d m => lay d m fun d m => k (setN d σ i) m
/-- two ints -/
def onII (f : D → D → Mem → KD → Bool) (a b : D) (m : Mem) (k : KD) : Bool := match a, b with
  | .p (.int _), .p (.int _) => f a b m k
  | _, _ => false
def sExpr (e : Ex) : Sx := fun σ m K k => e σ m K.x fun _ m => k σ m
def sRet (e : Ex) : Sx := fun σ m K _ => e σ m K.x K.r
def sRetN : Sx := fun _ m K _ => K.r (.p .non) m
def sIf (c : Ex) (a b : Sx) : Sx := fun σ m K k => c σ m K.x fun d m => asB d fun t => match t with
  | true => a σ m K k
  | false => b σ m K k
def sBreak : Sx := fun σ m K _ => K.b σ m
def sCont : Sx := fun σ m K _ => K.c σ m
def sRaise (c : Nat) (a : Ax) : Sx := fun σ m K _ => a σ m K.x fun ds m => match pures ds with
  | some xs => K.x c xs m
  | none => false
noncomputable def forG (g : Gx) (b : Sx) (K : Ks) (k : KN) (n : Nat) : Wk → Sl → Mem → Bool :=
  Nat.rec (motive := fun _ => Wk → Sl → Mem → Bool) (fun _ _ _ => false)
    (fun _ ih w σ m => w.step m (fun d w => g d σ m K.x fun σ m => b σ m ⟨K.x, K.r, k, ih w⟩ (ih w)) (k σ m)) n
noncomputable def sFor (i : Ix) (g : Gx) (b : Sx) : Sx := fun σ m K k => i σ m K.x fun w m => forG g b K k fuel w σ m
/-- for x in a name: its list is locked the while -/
noncomputable def sForN (i : Nat) (g : Gx) (b : Sx) : Sx := fun σ m K k => match nth .un σ i with
  | .p (.tup xs) => forG g b K k fuel (.fix (wraps xs)) σ m
  | .tr ds => forG g b K k fuel (.fix ds) σ m
  | .ref r => match Nat.blt r m.n, m.get r with
    | true, .lst false n fw rv => fL (fw ++ rv.reverse) fun ds => forG g b ⟨K.x, fun d m => K.r d (m.lock r false), K.b, K.c⟩ (fun σ m => k σ (m.lock r false)) fuel (.fix ds) σ (m.set r (.lst true n ds []))
    | true, .lst true _ fw rv => fL (fw ++ rv.reverse) fun ds => forG g b K k fuel (.fix ds) σ m
    | _, _ => false
  | _ => false
noncomputable def sForI (i : Nat) (g : Gx) (b : Sx) : Sx := fun σ m K k => lockK i σ m fun r kvs m => forG g b ⟨K.x, fun d m => K.r d (m.lock r false), K.b, K.c⟩ (fun σ m => k σ (m.lock r false)) fuel (.fix (itemsOf kvs)) σ m
noncomputable def whileF (c : Ex) (b : Sx) (K : Ks) (k : KN) (n : Nat) : Sl → Mem → Bool :=
  Nat.rec (motive := fun _ => Sl → Mem → Bool) (fun _ _ => false)
    (fun _ ih σ m => c σ m K.x fun d m => asB d fun t => match t with
      | true => b σ m ⟨K.x, K.r, k, ih⟩ ih
      | false => k σ m) n
noncomputable def sWhile (c : Ex) (b : Sx) : Sx := fun σ m K k => whileF c b K k fuel σ m
end PB
end
section
set_option Elab.async false
set_option linter.all false
set_option maxRecDepth 100000
/-! PBRep: what the evaluator's data are in the abstract heap. -/
namespace PB
open PySem PySem.Spec PyProof.Rows L2

/-! ### texts -/
abbrev strB : Nat := 2097152
def encL : List Nat → Nat
  | [] => 0
  | c :: r => (c + 1) + strB * encL r
def decF : Nat → Nat → List Nat
  | 0, _ => []
  | f + 1, n => match n with
    | 0 => []
    | n + 1 => (n % strB) :: decF f (n / strB)
def decL (n : Nat) : List Nat := decF (Nat.log2 n + 1) n
def decS (n : Nat) : Str := ⟨(decL n).toArray⟩
def okS (n : Nat) : Bool := Nat.beq (encL (decL n)) n && (decL n).all fun c => Nat.blt c 1114112
theorem decS_inj {a b : Nat} (ha : okS a = true) (hb : okS b = true) (e : decS a = decS b) : a = b := by
  unfold okS at ha hb
  rw [Bool.and_eq_true] at ha hb
  have h1 := Nat.eq_of_beq_eq_true ha.1
  have h2 := Nat.eq_of_beq_eq_true hb.1
  have e2 : decL a = decL b := by
    have := congrArg (fun s : Str => s.cps.toList) e
    simpa [decS] using this
  rw [← h1, ← h2, e2]
theorem decS_ok {a : Nat} (ha : okS a = true) : PyData.strOk (decS a) = true := by
  unfold okS at ha
  rw [Bool.and_eq_true] at ha
  unfold PyData.strOk decS
  rw [← Array.all_toList]
  have h := ha.2
  rw [List.all_eq_true] at h ⊢
  intro c hc
  have := h c hc
  simp only [Nat.blt_eq] at this
  exact decide_eq_true this

/-! ### pure data -/
mutual
def toPy : P → PyData
  | .non => .none
  | .bl b => .bool b
  | .int i => .int i
  | .str n => .str (decS n)
  | .tup ps => .tuple (toPys ps)
def toPys : List P → List PyData
  | [] => []
  | p :: ps => toPy p :: toPys ps
end
mutual
inductive RP (K : PySem.W.Frag) (H : Hp) : P → V → Prop
  | non : RP K H .non .non
  | bl (b : Bool) : RP K H (.bl b) (.bl b)
  | int (i : Int) : RP K H (.int i) (.int i)
  | str {n : Nat} : okS n = true → RP K H (.str n) (.str (decS n))
  | tup {a : Addr} {vs : List V} {ps : List P} : SqT K H a vs → RPs K H ps vs → vs.length ≤ sizeLine → RP K H (.tup ps) (.ref a)
inductive RPs (K : PySem.W.Frag) (H : Hp) : List P → List V → Prop
  | nil : RPs K H [] []
  | cons {p : P} {ps : List P} {v : V} {vs : List V} : RP K H p v → RPs K H ps vs → RPs K H (p :: ps) (v :: vs)
end
/-- tuples, and what is locked, stay -/
def TS (H H' : Hp) : Prop := ∀ a, (∀ vs, H a = some (.tup vs) → H' a = some (.tup vs)) ∧ (∀ o vs, H a = some (.frz o (.tup vs)) → H' a = some (.frz o (.tup vs))) ∧ ∀ e, H a = some (.ext e) → H' a = some (.ext e)
theorem TS.refl (H : Hp) : TS H H := fun _ => ⟨fun _ h => h, fun _ _ h => h, fun _ h => h⟩
theorem TS.trans {H H1 H2 : Hp} (a : TS H H1) (b : TS H1 H2) : TS H H2 := fun x => ⟨fun vs h => (b x).1 vs ((a x).1 vs h), fun o u h => (b x).2.1 o u ((a x).2.1 o u h), fun e h => (b x).2.2 e ((a x).2.2 e h)⟩
theorem TS.sq {K : PySem.W.Frag} {H H' : Hp} {a : Addr} {vs : List V} (t : TS H H') (h : SqT K H a vs) : SqT K H' a vs := by
  rcases h with (h | ⟨o, h⟩) | h
  · exact .inl (.inl ((t a).1 vs h))
  · exact .inl (.inr ⟨o, (t a).2.1 o _ h⟩)
  · exact .inr h
section
variable {K : PySem.W.Frag} {H H' : Hp}
mutual
theorem RP.mono (t : TS H H') : ∀ {p : P} {v : V}, RP K H p v → RP K H' p v
  | _, _, .non => .non
  | _, _, .bl b => .bl b
  | _, _, .int i => .int i
  | _, _, .str h => .str h
  | _, _, .tup h hs z => .tup (t.sq h) (RPs.mono t hs) z
theorem RPs.mono (t : TS H H') : ∀ {ps : List P} {vs : List V}, RPs K H ps vs → RPs K H' ps vs
  | _, _, .nil => .nil
  | _, _, .cons h hs => .cons (RP.mono t h) (RPs.mono t hs)
end
mutual
theorem RP.dp : ∀ {p : P} {v : V}, RP K H p v → Dp K H v (toPy p)
  | _, _, .non => .non
  | _, _, .bl b => .bl b
  | _, _, .int i => .int i
  | _, _, .str h => .str _
  | _, _, .tup h hs z => .tup h (RPs.dp hs)
theorem RPs.dp : ∀ {ps : List P} {vs : List V}, RPs K H ps vs → DpAll K H vs (toPys ps)
  | _, _, .nil => .nil
  | _, _, .cons h hs => .cons (RP.dp h) (RPs.dp hs)
end
mutual
theorem RP.lay : ∀ {p : P} {v : V}, RP K H p v → (toPy p).canLay0 = true
  | _, _, .non => rfl
  | _, _, .bl b => rfl
  | _, _, .int i => rfl
  | _, _, .str h => decS_ok h
  | _, _, .tup h hs z => RPs.lay hs
theorem RPs.lay : ∀ {ps : List P} {vs : List V}, RPs K H ps vs → PyData.canLayAll0 (toPys ps) = true
  | _, _, .nil => rfl
  | _, _, .cons h hs => by
    show (PyData.canLay0 _ && PyData.canLayAll0 _) = true
    rw [RP.lay h, RPs.lay hs]
    rfl
end
theorem ieq_iff (a b : Int) : ieq a b = (a == b) := by
  rw [Bool.eq_iff_iff, beq_iff_eq]
  cases a with
  | ofNat x =>
    cases b with
    | ofNat y =>
      show Nat.beq x y = true ↔ _
      constructor
      · intro h
        rw [Nat.eq_of_beq_eq_true h]
      · intro h
        rw [Int.ofNat.inj h]
        exact Nat.beq_refl _
    | negSucc y => exact ⟨fun h => (nomatch h), fun h => (nomatch h)⟩
  | negSucc x =>
    cases b with
    | ofNat y => exact ⟨fun h => (nomatch h), fun h => (nomatch h)⟩
    | negSucc y =>
      show Nat.beq x y = true ↔ _
      constructor
      · intro h
        rw [Nat.eq_of_beq_eq_true h]
      · intro h
        rw [Int.negSucc.inj h]
        exact Nat.beq_refl _
mutual
theorem eqP_eqv : ∀ {p q : P} {v u : V}, RP K H p v → RP K H q u → eqP p q = PyData.eqv (toPy p) (toPy q)
  | _, _, _, _, .non, .non => by simp [eqP, toPy, PyData.eqv]
  | _, _, _, _, .non, .bl b => by simp [eqP, toPy, PyData.eqv]
  | _, _, _, _, .non, .int i => by simp [eqP, toPy, PyData.eqv]
  | _, _, _, _, .non, .str h => by simp [eqP, toPy, PyData.eqv]
  | _, _, _, _, .non, .tup h hs z => by simp [eqP, toPy, PyData.eqv]
  | _, _, _, _, .bl b, .non => by simp [eqP, toPy, PyData.eqv]
  | _, _, _, _, .bl b, .bl c => by simp [eqP, toPy, PyData.eqv]
  | _, _, _, _, .bl b, .int i => by
    simp only [eqP, toPy, PyData.eqv, ieq_iff]
    cases b <;> rfl
  | _, _, _, _, .bl b, .str h => by simp [eqP, toPy, PyData.eqv]
  | _, _, _, _, .bl b, .tup h hs z => by simp [eqP, toPy, PyData.eqv]
  | _, _, _, _, .int i, .non => by simp [eqP, toPy, PyData.eqv]
  | _, _, _, _, .int i, .bl c => by
    simp only [eqP, toPy, PyData.eqv, ieq_iff]
    cases c <;> rfl
  | _, _, _, _, .int i, .int j => by simp only [eqP, toPy, PyData.eqv, ieq_iff]
  | _, _, _, _, .int i, .str h => by simp [eqP, toPy, PyData.eqv]
  | _, _, _, _, .int i, .tup h hs z => by simp [eqP, toPy, PyData.eqv]
  | _, _, _, _, .str h, .non => by simp [eqP, toPy, PyData.eqv]
  | _, _, _, _, .str h, .bl c => by simp [eqP, toPy, PyData.eqv]
  | _, _, _, _, .str h, .int i => by simp [eqP, toPy, PyData.eqv]
  | _, _, _, _, @RP.str _ _ n h, @RP.str _ _ k h' => by
    simp only [eqP, toPy, PyData.eqv]
    rw [Bool.eq_iff_iff, beq_iff_eq]
    constructor
    · intro e
      rw [Nat.eq_of_beq_eq_true e]
    · intro e
      rw [decS_inj h h' e]
      exact Nat.beq_refl _
  | _, _, _, _, .str h, .tup h' hs z => by simp [eqP, toPy, PyData.eqv]
  | _, _, _, _, .tup h hs z, .non => by simp [eqP, toPy, PyData.eqv]
  | _, _, _, _, .tup h hs z, .bl c => by simp [eqP, toPy, PyData.eqv]
  | _, _, _, _, .tup h hs z, .int i => by simp [eqP, toPy, PyData.eqv]
  | _, _, _, _, .tup h hs z, .str h' => by simp [eqP, toPy, PyData.eqv]
  | _, _, _, _, .tup h hs z, .tup h' hs' z' => by
    simp only [eqP, toPy, PyData.eqv]
    exact eqPs_eqv hs hs'
theorem eqPs_eqv : ∀ {ps qs : List P} {vs us : List V}, RPs K H ps vs → RPs K H qs us → eqPs ps qs = PyData.eqvAll (toPys ps) (toPys qs)
  | _, _, _, _, .nil, .nil => by simp [eqPs, toPys, PyData.eqvAll]
  | _, _, _, _, .nil, .cons h hs => by simp [eqPs, toPys, PyData.eqvAll]
  | _, _, _, _, .cons h hs, .nil => by simp [eqPs, toPys, PyData.eqvAll]
  | _, _, _, _, .cons h hs, .cons h' hs' => by
    simp only [eqPs, toPys, PyData.eqvAll]
    rw [← eqP_eqv h h', ← eqPs_eqv hs hs']
    cases eqP _ _ <;> rfl
end
mutual
theorem depLe_depth : ∀ (n : Nat) (p : P), depLe n p = true → (toPy p).depth ≤ n
  | _, .non, _ => Nat.zero_le _
  | _, .bl _, _ => Nat.zero_le _
  | _, .int _, _ => Nat.zero_le _
  | _, .str _, _ => Nat.zero_le _
  | 0, .tup ps, h => by simp [depLe] at h
  | n + 1, .tup ps, h => by
    have h' : depLes n ps = true := by simpa [depLe] using h
    show PyData.depthAll (toPys ps) + 1 ≤ n + 1
    exact Nat.succ_le_succ (depLes_depth n ps h')
theorem depLes_depth : ∀ (n : Nat) (ps : List P), depLes n ps = true → PyData.depthAll (toPys ps) ≤ n
  | _, [], _ => Nat.zero_le _
  | n, p :: ps, h => by
    have h' : depLe n p = true ∧ depLes n ps = true := by
      unfold depLes at h
      cases e : depLe n p with
      | true =>
        rw [e] at h
        exact ⟨rfl, h⟩
      | false =>
        rw [e] at h
        cases h
    show max _ _ ≤ n
    exact Nat.max_le.mpr ⟨depLe_depth n p h'.1, depLes_depth n ps h'.2⟩
end
theorem RPs.length : ∀ {ps : List P} {vs : List V}, RPs K H ps vs → ps.length = vs.length
  | _, _, .nil => rfl
  | _, _, .cons _ h => by rw [List.length_cons, List.length_cons, RPs.length h]
end

/-! ### lists by places -/
theorem nth_eq {α : Type} (z : α) : ∀ (l : List α) (i : Nat), nth z l i = l.getD i z
  | [], _ => rfl
  | a :: l, 0 => rfl
  | a :: l, i + 1 => by
    show nth z l i = _
    rw [nth_eq z l i]
    rfl
theorem setN_eq {α : Type} (x : α) : ∀ (l : List α) (i : Nat), setN x l i = l.set i x
  | [], _ => rfl
  | a :: l, 0 => rfl
  | a :: l, i + 1 => by
    show a :: setN x l i = _
    rw [setN_eq x l i]
    rfl
theorem ixK_eq {α : Type} : ∀ (l : List α) (i : Nat) (k : α → Bool), ixK l i k = true → ∃ a, l[i]? = some a ∧ k a = true
  | [], _, _, h => nomatch (show false = true from h)
  | a :: l, 0, k, h => ⟨a, rfl, h⟩
  | a :: l, i + 1, k, h => by
    obtain ⟨b, e, hb⟩ := ixK_eq l i k h
    exact ⟨b, by rw [List.getElem?_cons_succ]; exact e, hb⟩

/-! ### items, things -/
mutual
inductive RI (K : PySem.W.Frag) (H : Hp) (ρ : List Addr) : D → V → Prop
  | p {x : P} {v : V} : RP K H x v → RI K H ρ (.p x) v
  | ref {i : Nat} {a : Addr} : ρ[i]? = some a → RI K H ρ (.ref i) (.ref a)
  | tr {a : Addr} {vs : List V} {ds : List D} : SqT K H a vs → RIs K H ρ ds vs → vs.length ≤ sizeLine → RI K H ρ (.tr ds) (.ref a)
inductive RIs (K : PySem.W.Frag) (H : Hp) (ρ : List Addr) : List D → List V → Prop
  | nil : RIs K H ρ [] []
  | cons {d : D} {ds : List D} {v : V} {vs : List V} : RI K H ρ d v → RIs K H ρ ds vs → RIs K H ρ (d :: ds) (v :: vs)
end
/-- nothing stood there, or a table -/
def NewS (H : Hp) (a : Addr) : Prop := ∀ o, H a = some o → ∃ ps, o = .tbl ps
theorem NewS.of {H : Hp} {a : Addr} (h : H a = none) : NewS H a := fun o e => nomatch (h.symm.trans e)
/-- .. a temporary list too, new since the heap H0 -/
def RX (K : PySem.W.Frag) (H0 H : Hp) (ρ : List Addr) (d : D) (v : V) : Prop := match d with
  | .tmp ds => ∃ a vs, v = .ref a ∧ NewS H0 a ∧ H a = some (.lst vs) ∧ a ∉ ρ ∧ RIs K H ρ ds vs ∧ vs.length ≤ sizeLine
  | d => RI K H ρ d v
inductive RK : P → Key → Prop
  | int (i : Int) : RK (.int i) (.inl i)
  | str {n : Nat} : okS n = true → RK (.str n) (.inr (decS n))
inductive RKs (K : PySem.W.Frag) (H : Hp) (ρ : List Addr) : List (P × D) → List (Key × V) → Prop
  | nil : RKs K H ρ [] []
  | cons {x : P} {d : D} {kv : List (P × D)} {k : Key} {v : V} {kvs : List (Key × V)} : RK x k → RI K H ρ d v → RKs K H ρ kv kvs → RKs K H ρ ((x, d) :: kv) ((k, v) :: kvs)
/-- the script's draws: a dict of its own and its list of cells, that the evaluator never looks into -/
def SrcOk (H : Hp) (ρ : List Addr) (a : Addr) (j : Nat) : Prop := ∃ (c : Addr) (l x t : Int), H a = some (.dK [(.inr "cells", .ref c), (.inr "left", .int l), (.inr "mixed", .int x), (.inr "turn", .int t)]) ∧ ρ[j]? = some c ∧ 0 ≤ l ∧ 0 ≤ x ∧ x < 2147483647 ∧ 0 ≤ t
def CelOk (H : Hp) (a : Addr) : Prop := ∃ ns : List Int, H a = some (.lst (ns.map V.int)) ∧ (∀ n ∈ ns, 0 ≤ n) ∧ ns.length ≤ 63
/-- the tables of code objects of the defs that make lambdas, each with its lambdas' name -/
class TBL where
  tbs : List (Addr × Str)
theorem tabS_ts {H H' : Hp} {a : Addr} {q : Str} (h : LamX.TabS H a q) (e : H' a = H a) (t : TS H H') : LamX.TabS H' a q := by
  obtain ⟨ps, h1, h2, h3⟩ := h
  refine ⟨ps, e.trans h1, h2, fun pos cv hc => ?_⟩
  obtain ⟨c, e1, e2⟩ := h3 pos cv hc
  exact ⟨c, e1, (t c).2.2 _ e2⟩
variable [TBL]
inductive RO (K : PySem.W.Frag) (H : Hp) (ρ : List Addr) : O → Addr → Prop
  | lst {a : Addr} {vs : List V} {n : Nat} {fw rv : List D} : H a = some (.lst vs) → RIs K H ρ (fw ++ rv.reverse) vs → n = vs.length → vs.length ≤ sizeLine → RO K H ρ (.lst false n fw rv) a
  | lstL {a : Addr} {ob : Obj} {vs : List V} {n : Nat} {fw rv : List D} : H a = some (.frz ob (.lst vs)) → RIs K H ρ (fw ++ rv.reverse) vs → n = vs.length → vs.length ≤ sizeLine → RO K H ρ (.lst true n fw rv) a
  | dct {a : Addr} {kvs : List (Key × V)} {kv : List (P × D)} : H a = some (.dK kvs) → RKs K H ρ kv kvs → (kvs.map (·.1)).Nodup ∧ kvs.length ≤ sizeLine → RO K H ρ (.dct false kv) a
  | dctL {a : Addr} {ob : Obj} {kvs : List (Key × V)} {kv : List (P × D)} : H a = some (.frz ob (.dK kvs)) → RKs K H ρ kv kvs → (kvs.map (·.1)).Nodup ∧ kvs.length ≤ sizeLine → RO K H ρ (.dct true kv) a
  | src {a : Addr} {j : Nat} : SrcOk H ρ a j → RO K H ρ (.src j) a
  | cel {a : Addr} : CelOk H a → RO K H ρ .cel a
  | tab {a : Addr} {j : Nat} {q : Str} : TBL.tbs[j]? = some (a, q) → LamX.TabS H a q → RO K H ρ (.tab j) a
mutual
/-- things named by an item -/
def topP : List (P × D) → Nat
  | [] => 0
  | (_, d) :: r => max (topD d) (topP r)
end
def topO : O → Nat
  | .lst _ _ fw rv => max (topDs fw) (topDs rv)
  | .dct _ kvs => topP kvs
  | .ins _ fs => topDs (fs.map (·.2))
  | .src j => j + 1
  | .cel => 0
  | .tab _ => 0
structure Rep (K : PySem.W.Frag) (H : Hp) (ρ : List Addr) (m : Mem) : Prop where
  len : ρ.length = m.n
  lo : m.os.length = m.n
  nd : ρ.Nodup
  kn : m.k ≤ m.n
  obj : ∀ i a, ρ[i]? = some a → RO K H ρ (m.get i) a
  top : ∀ i, i < m.n → topO (m.get i) ≤ max i m.k
/-- slots -/
def Slots (K : PySem.W.Frag) (H : Hp) (ρ : List Addr) (σ : Sl) (st : L2.St) : Prop := σ.length ≤ st.length ∧ ∀ i d, nth .un σ i = d → d ≠ .un → ∃ v, st[i]? = some (some v) ∧ RI K H ρ d v
/-- what a step does: the old things stand at their places, all else that was tracked stays -/
structure Fr (ρ : List Addr) (H : Hp) (ρ' : List Addr) (H' : Hp) : Prop where
  pre : ∃ e, ρ' = ρ ++ e
  st : ∀ a o, H a = some o → (∀ ps, o ≠ .tbl ps) → a ∉ ρ → H' a = some o ∧ a ∉ ρ'
  fz : ∀ a o u, H a = some (.frz o u) → H' a = some (.frz o u)
section
variable {K : PySem.W.Frag} {H H' H1 H2 : Hp} {ρ ρ' ρ1 ρ2 : List Addr} {m m' : Mem}
theorem Fr.refl : Fr ρ H ρ H := ⟨⟨[], by simp⟩, fun _ _ h _ n => ⟨h, n⟩, fun _ _ _ h => h⟩
theorem Fr.trans (a : Fr ρ H ρ1 H1) (b : Fr ρ1 H1 ρ2 H2) : Fr ρ H ρ2 H2 := by
  obtain ⟨e, rfl⟩ := a.pre
  obtain ⟨f, rfl⟩ := b.pre
  refine ⟨⟨e ++ f, by simp⟩, fun x o h nt n => ?_, fun x o u h => b.fz x o u (a.fz x o u h)⟩
  obtain ⟨h1, n1⟩ := a.st x o h nt n
  exact b.st x o h1 nt n1
theorem Fr.at (f : Fr ρ H ρ' H') {i : Nat} {a : Addr} (h : ρ[i]? = some a) : ρ'[i]? = some a := by
  obtain ⟨e, rfl⟩ := f.pre
  rw [List.getElem?_append_left (List.getElem?_eq_some_iff.mp h).1]
  exact h
theorem RO.ne {o : O} {a : Addr} (r : RO K H ρ o a) : (∀ vs, H a ≠ some (.tup vs)) ∧ (∀ ob vs, H a ≠ some (.frz ob (.tup vs))) ∧ ∀ e, H a ≠ some (.ext e) := by
  cases r with
  | tab _ h =>
    obtain ⟨ps, h, _⟩ := h
    exact ⟨fun vs e => (nomatch (h.symm.trans e)), fun ob u e => (nomatch (h.symm.trans e)), fun x e => nomatch (h.symm.trans e)⟩
  | lst h _ _ _ => exact ⟨fun vs e => (nomatch (h.symm.trans e)), fun ob u e => (nomatch (h.symm.trans e)), fun x e => nomatch (h.symm.trans e)⟩
  | lstL h _ _ _ => exact ⟨fun vs e => (nomatch (h.symm.trans e)), fun ob u e => (nomatch (h.symm.trans e)), fun x e => nomatch (h.symm.trans e)⟩
  | dct h _ _ => exact ⟨fun vs e => (nomatch (h.symm.trans e)), fun ob u e => (nomatch (h.symm.trans e)), fun x e => nomatch (h.symm.trans e)⟩
  | dctL h _ _ => exact ⟨fun vs e => (nomatch (h.symm.trans e)), fun ob u e => (nomatch (h.symm.trans e)), fun x e => nomatch (h.symm.trans e)⟩
  | src h =>
    obtain ⟨c, l, x, t, h, _⟩ := h
    exact ⟨fun vs e => (nomatch (h.symm.trans e)), fun ob u e => (nomatch (h.symm.trans e)), fun x e => nomatch (h.symm.trans e)⟩
  | cel h =>
    obtain ⟨ns, h, _⟩ := h
    exact ⟨fun vs e => (nomatch (h.symm.trans e)), fun ob u e => (nomatch (h.symm.trans e)), fun x e => nomatch (h.symm.trans e)⟩
theorem Rep.ts (R : Rep K H ρ m) (f : Fr ρ H ρ' H') : TS H H' := fun a => by
  have no : ∀ o, H a = some o → (∀ ps, o ≠ .tbl ps) → (∀ i b, ρ[i]? = some b → b ≠ a) → H' a = some o := fun o h nt n => (f.st a o h nt fun hm => by
    obtain ⟨i, hi⟩ := List.getElem?_of_mem hm
    exact n i a hi rfl).1
  refine ⟨fun vs h => no _ h (fun ps z => nomatch z) fun i b hi e => ?_, fun o u h => no _ h (fun ps z => nomatch z) fun i b hi e => ?_, fun x h => no _ h (fun ps z => nomatch z) fun i b hi e => ?_⟩
  · subst e
    exact (R.obj i b hi).ne.1 vs h
  · subst e
    exact (R.obj i b hi).ne.2.1 o u h
  · subst e
    exact (R.obj i b hi).ne.2.2 x h
mutual
theorem RI.mono (t : TS H H') (pr : ∀ (i : Nat) (a : Addr), ρ[i]? = some a → ρ'[i]? = some a) : ∀ {d : D} {v : V}, RI K H ρ d v → RI K H' ρ' d v
  | _, _, .p h => .p (h.mono t)
  | _, _, .ref h => .ref (pr _ _ h)
  | _, _, .tr h hs z => .tr (t.sq h) (RIs.mono t pr hs) z
theorem RIs.mono (t : TS H H') (pr : ∀ (i : Nat) (a : Addr), ρ[i]? = some a → ρ'[i]? = some a) : ∀ {ds : List D} {vs : List V}, RIs K H ρ ds vs → RIs K H' ρ' ds vs
  | _, _, .nil => .nil
  | _, _, .cons h hs => .cons (RI.mono t pr h) (RIs.mono t pr hs)
end
theorem RKs.mono (t : TS H H') (pr : ∀ (i : Nat) (a : Addr), ρ[i]? = some a → ρ'[i]? = some a) : ∀ {kv : List (P × D)} {kvs : List (Key × V)}, RKs K H ρ kv kvs → RKs K H' ρ' kv kvs
  | _, _, .nil => .nil
  | _, _, .cons h hd hs => .cons h (hd.mono t pr) (RKs.mono t pr hs)
theorem RI.fr (R : Rep K H ρ m) (f : Fr ρ H ρ' H') {d : D} {v : V} (h : RI K H ρ d v) : RI K H' ρ' d v := h.mono (R.ts f) fun _ _ => f.at
theorem RIs.fr (R : Rep K H ρ m) (f : Fr ρ H ρ' H') {d : List D} {v : List V} (h : RIs K H ρ d v) : RIs K H' ρ' d v := h.mono (R.ts f) fun _ _ => f.at
theorem RX.fr {H0 : Hp} (R : Rep K H ρ m) (f : Fr ρ H ρ' H') {d : D} {v : V} (h : RX K H0 H ρ d v) : RX K H0 H' ρ' d v := by
  cases d with
  | tmp ds =>
    obtain ⟨a, vs, e, h0, ha, n, hs, z⟩ := h
    obtain ⟨ha', n'⟩ := f.st a _ ha (fun ps z => nomatch z) n
    exact ⟨a, vs, e, h0, ha', n', hs.fr R f, z⟩
  | un => exact RI.fr R f h
  | p x => exact RI.fr R f h
  | ref n => exact RI.fr R f h
  | tr ds => exact RI.fr R f h
theorem Slots.fr (R : Rep K H ρ m) (f : Fr ρ H ρ' H') {σ : Sl} {st : L2.St} (h : Slots K H ρ σ st) : Slots K H' ρ' σ st := ⟨h.1, fun i d e n => by
  obtain ⟨v, h1, h2⟩ := h.2 i d e n
  exact ⟨v, h1, h2.fr R f⟩⟩
theorem RIs.length : ∀ {ds : List D} {vs : List V}, RIs K H ρ ds vs → ds.length = vs.length
  | _, _, .nil => rfl
  | _, _, .cons _ h => by rw [List.length_cons, List.length_cons, RIs.length h]
theorem RIs.append : ∀ {ds es : List D} {vs us : List V}, RIs K H ρ ds vs → RIs K H ρ es us → RIs K H ρ (ds ++ es) (vs ++ us)
  | _, _, _, _, .nil, h => h
  | _, _, _, _, .cons h hs, h' => .cons h (RIs.append hs h')
theorem RIs.reverse {ds : List D} {vs : List V} (h : RIs K H ρ ds vs) : RIs K H ρ ds.reverse vs.reverse := by
  induction h using RIs.rec (motive_1 := fun _ _ _ => True) with
  | p _ => trivial
  | ref _ => trivial
  | tr _ _ _ _ => trivial
  | nil => exact .nil
  | cons h _ _ ih =>
    rw [List.reverse_cons, List.reverse_cons]
    exact ih.append (.cons h .nil)
theorem RIs.at : ∀ {ds : List D} {vs : List V}, RIs K H ρ ds vs → ∀ {i : Nat} {d : D}, ds[i]? = some d → ∃ v, vs[i]? = some v ∧ RI K H ρ d v
  | _, _, .nil, i, d, h => by simp at h
  | _, _, .cons h hs, 0, d, e => by
    obtain rfl := Option.some.inj (show some _ = some d from e)
    exact ⟨_, rfl, h⟩
  | _, _, .cons h hs, i + 1, d, e => hs.at (i := i) (by simpa using e)
theorem RIs.at' : ∀ {ds : List D} {vs : List V}, RIs K H ρ ds vs → ∀ {i : Nat} {v : V}, vs[i]? = some v → ∃ d, ds[i]? = some d ∧ RI K H ρ d v
  | _, _, .nil, i, d, h => by simp at h
  | _, _, .cons h hs, 0, d, e => by
    obtain rfl := Option.some.inj (show some _ = some d from e)
    exact ⟨_, rfl, h⟩
  | _, _, .cons h hs, i + 1, d, e => hs.at' (i := i) (by simpa using e)
theorem RIs.take : ∀ {ds : List D} {vs : List V}, RIs K H ρ ds vs → ∀ n, RIs K H ρ (ds.take n) (vs.take n)
  | _, _, _, 0 => .nil
  | _, _, .nil, n + 1 => .nil
  | _, _, .cons h hs, n + 1 => .cons h (hs.take n)
theorem RIs.drop : ∀ {ds : List D} {vs : List V}, RIs K H ρ ds vs → ∀ n, RIs K H ρ (ds.drop n) (vs.drop n)
  | _, _, h, 0 => h
  | _, _, .nil, n + 1 => .nil
  | _, _, .cons h hs, n + 1 => hs.drop n
theorem wraps_ri : ∀ {ps : List P} {vs : List V}, RPs K H ps vs → RIs K H ρ (wraps ps) vs
  | _, _, .nil => .nil
  | _, _, .cons h hs => .cons (.p h) (wraps_ri hs)
theorem pures_ri : ∀ {ds : List D} {ps : List P} {vs : List V}, pures ds = some ps → RIs K H ρ ds vs → RPs K H ps vs
  | [], _, _, e, h => by
    cases h
    obtain rfl := Option.some.inj (show some [] = some _ from e)
    exact .nil
  | .p x :: r, ps, _, e, h => by
    unfold pures at e
    cases q : pures r with
    | none =>
      rw [q] at e
      cases e
    | some xs =>
      rw [q] at e
      obtain rfl := Option.some.inj (show some (x :: xs) = some _ from e)
      cases h with
      | cons h hs =>
        cases h with
        | p h => exact .cons h (pures_ri q hs)
  | .un :: r, ps, _, e, h => nomatch (show (none : Option (List P)) = some ps from e)
  | .ref _ :: r, ps, _, e, h => nomatch (show (none : Option (List P)) = some ps from e)
  | .tmp _ :: r, ps, _, e, h => nomatch (show (none : Option (List P)) = some ps from e)
  | .tr _ :: r, ps, _, e, h => nomatch (show (none : Option (List P)) = some ps from e)
/-- things named stand -/
theorem RI.top {d : D} {v : V} (h : RI K H ρ d v) : topD d ≤ ρ.length := by
  induction h using RI.rec (motive_2 := fun ds _ _ => topDs ds ≤ ρ.length) with
  | p _ => exact Nat.zero_le _
  | ref h => exact (List.getElem?_eq_some_iff.mp h).1
  | tr _ _ _ ih => exact ih
  | nil => exact Nat.zero_le _
  | cons _ _ ih1 ih2 => exact Nat.max_le.mpr ⟨ih1, ih2⟩
theorem RIs.top : ∀ {ds : List D} {vs : List V}, RIs K H ρ ds vs → topDs ds ≤ ρ.length
  | _, _, .nil => Nat.zero_le _
  | _, _, .cons h hs => Nat.max_le.mpr ⟨h.top, hs.top⟩
end
end PB
end
section
set_option Elab.async false
set_option linter.all false
set_option maxRecDepth 100000
/-! PBMem: what the store's steps do to the representation. -/
namespace PB
open PySem PySem.Spec PyProof.Rows L2
section
variable [TBL] {K : PySem.W.Frag} {H H' : Hp} {ρ ρ' : List Addr} {m m' : Mem}
theorem get_def (m : Mem) (i : Nat) : m.get i = m.os.getD (m.n - 1 - i) (.ins 0 []) := nth_eq _ _ _
theorem get_new_at (o : O) (h : m.os.length = m.n) : (m.new o).get m.n = o := by
  rw [get_def]
  show (o :: m.os).getD (m.n + 1 - 1 - m.n) _ = o
  rw [show m.n + 1 - 1 - m.n = 0 by omega]
  rfl
theorem get_new_lt (o : O) {i : Nat} (h : i < m.n) : (m.new o).get i = m.get i := by
  rw [get_def, get_def]
  show (o :: m.os).getD (m.n + 1 - 1 - i) _ = _
  rw [show m.n + 1 - 1 - i = (m.n - 1 - i) + 1 by omega]
  rfl
theorem get_set_at {o : O} {i : Nat} (lo : m.os.length = m.n) (h : i < m.n) : (m.set i o).get i = o := by
  rw [get_def]
  show (setN o m.os (m.n - 1 - i)).getD (m.n - 1 - i) _ = o
  rw [setN_eq, List.getD_eq_getElem?_getD, List.getElem?_set_self (by omega)]
  rfl
theorem get_set_ne {o : O} {i j : Nat} (hi : i < m.n) (hj : j < m.n) (h : j ≠ i) : (m.set i o).get j = m.get j := by
  rw [get_def, get_def]
  show (setN o m.os (m.n - 1 - i)).getD (m.n - 1 - j) _ = _
  rw [setN_eq, List.getD_eq_getElem?_getD, List.getD_eq_getElem?_getD, List.getElem?_set_ne (by omega)]
theorem get_cut {t i : Nat} (ht : t ≤ m.n) (h : i < t) : (m.cut t).get i = m.get i := by
  rw [get_def, get_def]
  show (m.os.drop (m.n - t)).getD (t - 1 - i) _ = _
  rw [List.getD_eq_getElem?_getD, List.getD_eq_getElem?_getD, List.getElem?_drop, show m.n - t + (t - 1 - i) = m.n - 1 - i by omega]
theorem keep_n (d : D) : (m.keep d).n = m.n := by
  cases d <;> rfl
theorem keep_os (d : D) : (m.keep d).os = m.os := by
  cases d <;> rfl
theorem keep_get (d : D) (i : Nat) : (m.keep d).get i = m.get i := by
  rw [get_def, get_def, keep_n, keep_os]
theorem keep_k (d : D) : (m.keep d).k = max m.k (topD d) := by
  cases d with
  | p x => exact (Nat.max_eq_left (Nat.zero_le _)).symm
  | un => rfl
  | ref n => rfl
  | tmp ds => rfl
  | tr ds => rfl

theorem RKs.top : ∀ {kv : List (P × D)} {kvs : List (Key × V)}, RKs K H ρ kv kvs → topP kv ≤ ρ.length
  | _, _, .nil => Nat.zero_le _
  | _, _, .cons _ h hs => Nat.max_le.mpr ⟨h.top, hs.top⟩
theorem RKs.length : ∀ {kv : List (P × D)} {kvs : List (Key × V)}, RKs K H ρ kv kvs → kv.length = kvs.length
  | _, _, .nil => rfl
  | _, _, .cons _ _ hs => by rw [List.length_cons, List.length_cons, hs.length]
theorem topDs_app : ∀ (a b : List D), topDs (a ++ b) = max (topDs a) (topDs b)
  | [], b => (Nat.max_eq_right (Nat.zero_le _)).symm
  | d :: a, b => by
    show max (topD d) (topDs (a ++ b)) = max (max (topD d) (topDs a)) (topDs b)
    rw [topDs_app a b, Nat.max_assoc]
theorem topDs_rev : ∀ (a : List D), topDs a.reverse = topDs a
  | [] => rfl
  | d :: a => by
    rw [List.reverse_cons, topDs_app, topDs_rev a]
    show max (topDs a) (max (topD d) 0) = max (topD d) (topDs a)
    rw [Nat.max_eq_left (Nat.zero_le _), Nat.max_comm]

/-! ### Same heaps -/
theorem Same.ts (s : Same H H') : TS H H' := fun a => ⟨fun vs h => s a _ h, fun o u h => s a _ h, fun e h => s a _ h⟩
theorem Fr.same (s : Same H H') : Fr ρ H ρ H' := ⟨⟨[], by simp⟩, fun a o h _ n => ⟨s a o h, n⟩, fun a o u h => s a _ h⟩
theorem RO.same (s : Same H H') {o : O} {a : Addr} (r : RO K H ρ o a) : RO K H' ρ o a := by
  cases r with
  | lst h hs e z => exact .lst (s _ _ h) (hs.mono (Same.ts s) fun _ _ h => h) e z
  | lstL h hs e z => exact .lstL (s _ _ h) (hs.mono (Same.ts s) fun _ _ h => h) e z
  | dct h hs z => exact .dct (s _ _ h) (hs.mono (Same.ts s) fun _ _ h => h) z
  | dctL h hs z => exact .dctL (s _ _ h) (hs.mono (Same.ts s) fun _ _ h => h) z
  | src h =>
    obtain ⟨c, l, x, t, h1, r⟩ := h
    exact .src ⟨c, l, x, t, s _ _ h1, r⟩
  | cel h =>
    obtain ⟨ns, h1, r⟩ := h
    exact .cel ⟨ns, s _ _ h1, r⟩
  | tab hj h =>
    have h1 := h
    obtain ⟨ps, h1, _⟩ := h1
    exact .tab hj (tabS_ts h ((s _ _ h1).trans h1.symm) (Same.ts s))
theorem Rep.same (R : Rep K H ρ m) (s : Same H H') : Rep K H' ρ m := ⟨R.len, R.lo, R.nd, R.kn, fun i a h => (R.obj i a h).same s, R.top⟩
theorem same_new {a : Addr} {o : HO} (h : H a = none) : Same H (upd H a o) := fun b x e => by
  rw [upd_ne (ne_of_none e h)]
  exact e
theorem RO.there {o : O} {a : Addr} (r : RO K H ρ o a) : H a ≠ none := by
  cases r with
  | lst h _ _ _ => exact fun e => nomatch (h.symm.trans e)
  | lstL h _ _ _ => exact fun e => nomatch (h.symm.trans e)
  | dct h _ _ => exact fun e => nomatch (h.symm.trans e)
  | dctL h _ _ => exact fun e => nomatch (h.symm.trans e)
  | src h =>
    obtain ⟨c, l, x, t, h1, _⟩ := h
    exact fun e => nomatch (h1.symm.trans e)
  | cel h =>
    obtain ⟨ns, h1, _⟩ := h
    exact fun e => nomatch (h1.symm.trans e)
  | tab _ h =>
    obtain ⟨ps, h1, _⟩ := h
    exact fun e => nomatch (h1.symm.trans e)
theorem Rep.fresh (R : Rep K H ρ m) {a : Addr} (h : H a = none) : a ∉ ρ := fun hm => by
  obtain ⟨i, hi⟩ := List.getElem?_of_mem hm
  exact (R.obj i a hi).there h
theorem Rep.lt (R : Rep K H ρ m) {i : Nat} {a : Addr} (h : ρ[i]? = some a) : i < m.n := by
  rw [← R.len]
  exact (List.getElem?_eq_some_iff.mp h).1
theorem Rep.at (R : Rep K H ρ m) {i : Nat} (h : i < m.n) : ∃ a, ρ[i]? = some a := by
  rw [← R.len] at h
  exact ⟨ρ[i], List.getElem?_eq_getElem h⟩

/-! ### adopting an object -/
theorem RI.app {a : Addr} {d : D} {v : V} (h : RI K H ρ d v) : RI K H (ρ ++ [a]) d v := h.mono (TS.refl H) fun i b e => by
  rw [List.getElem?_append_left (List.getElem?_eq_some_iff.mp e).1]
  exact e
theorem RIs.app {a : Addr} {d : List D} {v : List V} (h : RIs K H ρ d v) : RIs K H (ρ ++ [a]) d v := h.mono (TS.refl H) fun i b e => by
  rw [List.getElem?_append_left (List.getElem?_eq_some_iff.mp e).1]
  exact e
theorem RO.app {a b : Addr} {o : O} (r : RO K H ρ o b) : RO K H (ρ ++ [a]) o b := by
  have pr : ∀ (i : Nat) (b : Addr), ρ[i]? = some b → (ρ ++ [a])[i]? = some b := fun i b e => by
    rw [List.getElem?_append_left (List.getElem?_eq_some_iff.mp e).1]
    exact e
  cases r with
  | lst h1 h2 h3 h4 => exact .lst h1 h2.app h3 h4
  | lstL h1 h2 h3 h4 => exact .lstL h1 h2.app h3 h4
  | dct h1 h2 h3 => exact .dct h1 (h2.mono (TS.refl H) pr) h3
  | dctL h1 h2 h3 => exact .dctL h1 (h2.mono (TS.refl H) pr) h3
  | src h =>
    obtain ⟨c, l, x, t, h1, h2, h3⟩ := h
    exact .src ⟨c, l, x, t, h1, pr _ _ h2, h3⟩
  | cel h => exact .cel h
  | tab hj h => exact .tab hj h
/-- the object at a is the newest thing -/
theorem Rep.new (R : Rep K H ρ m) {o : O} {a : Addr} (n : a ∉ ρ) (r : RO K H (ρ ++ [a]) o a) (t : topO o ≤ m.n) : Rep K H (ρ ++ [a]) (m.new o) := by
  refine ⟨by simp [R.len, Mem.new], by simp [R.lo, Mem.new], ?_, Nat.le_succ_of_le R.kn, fun i b h => ?_, fun i hi => ?_⟩
  · rw [List.nodup_append]
    exact ⟨R.nd, by simp, fun x hx y hy e => n (by
      rw [List.mem_singleton.mp hy] at e
      rw [← e]
      exact hx)⟩
  · by_cases hi : i < m.n
    · rw [get_new_lt o hi]
      rw [List.getElem?_append_left (by rw [R.len]; exact hi)] at h
      exact (R.obj i b h).app
    · have hi2 : i = m.n := by
        have := (List.getElem?_eq_some_iff.mp h).1
        rw [List.length_append, R.len, List.length_singleton] at this
        omega
      subst hi2
      rw [List.getElem?_append_right (by rw [R.len]; exact Nat.le_refl _), R.len, Nat.sub_self] at h
      obtain rfl := Option.some.inj (show some a = some b from h)
      rw [get_new_at o R.lo]
      exact r
  · have hi : i < m.n + 1 := hi
    by_cases h : i < m.n
    · rw [get_new_lt o h]
      exact R.top i h
    · obtain rfl : i = m.n := by omega
      rw [get_new_at o R.lo]
      exact Nat.le_trans t (Nat.le_max_left _ _)
theorem app_at (a : Addr) (R : Rep K H ρ m) : (ρ ++ [a])[m.n]? = some a := by
  rw [List.getElem?_append_right (by rw [R.len]; exact Nat.le_refl _), R.len, Nat.sub_self]
  rfl
theorem Fr.adopt {a : Addr} {o : HO} (h : H a = some o) (n : a ∉ ρ) (s : ∀ b o, H b = some o → b ∉ ρ → b ≠ a → True) : ∀ b x, H b = some x → b ∉ ρ → b ≠ a → H b = some x ∧ b ∉ ρ ++ [a] := fun b x e nb ne => ⟨e, fun hm => by
  rcases List.mem_append.mp hm with z | z
  · exact nb z
  · exact ne (List.mem_singleton.mp z)⟩
/-- a new object at a -/
theorem Fr.new {a : Addr} {o : HO} (h : H a = none) : Fr ρ H (ρ ++ [a]) (upd H a o) := ⟨⟨[a], rfl⟩, fun b x e _ nb => ⟨same_new h b x e, fun hm => by
  rcases List.mem_append.mp hm with z | z
  · exact nb z
  · exact ne_of_none e h (List.mem_singleton.mp z)⟩, fun b ob u e => same_new h b _ e⟩

/-! ### a thing is written -/
theorem RO.upd {a b : Addr} {o : O} {x : HO} (r : RO K H ρ o b) (ne : b ≠ a) (t : TS H (upd H a x)) : RO K (upd H a x) ρ o b := by
  cases r with
  | lst h1 h2 h3 h4 => exact .lst (by rw [upd_ne ne]; exact h1) (h2.mono t fun _ _ h => h) h3 h4
  | lstL h1 h2 h3 h4 => exact .lstL (by rw [upd_ne ne]; exact h1) (h2.mono t fun _ _ h => h) h3 h4
  | dct h1 h2 h3 => exact .dct (by rw [upd_ne ne]; exact h1) (h2.mono t fun _ _ h => h) h3
  | dctL h1 h2 h3 => exact .dctL (by rw [upd_ne ne]; exact h1) (h2.mono t fun _ _ h => h) h3
  | src h =>
    obtain ⟨c, l, x, t, h1, h2⟩ := h
    exact .src ⟨c, l, x, t, by rw [upd_ne ne]; exact h1, h2⟩
  | cel h =>
    obtain ⟨ns, h1, h2⟩ := h
    exact .cel ⟨ns, by rw [upd_ne ne]; exact h1, h2⟩
  | tab hj h => exact .tab hj (tabS_ts h (upd_ne ne) t)
theorem Rep.tsU (R : Rep K H ρ m) {i : Nat} {a : Addr} {x : HO} (h : ρ[i]? = some a) : TS H (upd H a x) := fun b => by
  have q := (R.obj i a h).ne
  refine ⟨fun vs e => ?_, fun o u e => ?_, fun y e => ?_⟩
  · rw [upd_ne fun z => q.1 vs (by rw [← z]; exact e)]
    exact e
  · rw [upd_ne fun z => q.2.1 o u (by rw [← z]; exact e)]
    exact e
  · rw [upd_ne fun z => q.2.2 y (by rw [← z]; exact e)]
    exact e
theorem Fr.write {i : Nat} {a : Addr} {x : HO} (h : ρ[i]? = some a) (nf : ∀ o u, H a ≠ some (.frz o u)) : Fr ρ H ρ (upd H a x) := ⟨⟨[], by simp⟩, fun b o e _ n => ⟨by
  rw [upd_ne fun z => n (by rw [z]; exact List.mem_of_getElem? h)]
  exact e, n⟩, fun b o u e => by
  rw [upd_ne fun z => nf o u (by rw [← z]; exact e)]
  exact e⟩
theorem Rep.set (R : Rep K H ρ m) {i : Nat} {a : Addr} {x : HO} {o : O} (h : ρ[i]? = some a) (r : RO K (upd H a x) ρ o a) {k : Nat} (hk : m.k ≤ k) (hk2 : k ≤ m.n) (t : topO o ≤ max i k) : Rep K (upd H a x) ρ { m.set i o with k := k } := by
  have hi := R.lt h
  have gk : ∀ j, ({ m.set i o with k := k } : Mem).get j = (m.set i o).get j := fun j => rfl
  refine ⟨R.len, ?_, R.nd, hk2, fun j b hj => ?_, fun j hj => ?_⟩
  · show (setN o m.os _).length = m.n
    rw [setN_eq, List.length_set]
    exact R.lo
  · rw [gk]
    by_cases e : j = i
    · subst e
      obtain rfl := Option.some.inj (h.symm.trans hj)
      rw [get_set_at R.lo hi]
      exact r
    · rw [get_set_ne hi (R.lt hj) e]
      refine (R.obj j b hj).upd (fun z => e ?_) (R.tsU h)
      subst z
      have h1 := (List.getElem?_eq_some_iff.mp h)
      have h2 := (List.getElem?_eq_some_iff.mp hj)
      obtain ⟨p1, e1⟩ := h1
      obtain ⟨p2, e2⟩ := h2
      exact (List.getElem_inj R.nd).mp (e2.trans e1.symm)
  · rw [gk]
    have hj : j < m.n := hj
    by_cases e : j = i
    · subst e
      rw [get_set_at R.lo hi]
      exact t
    · rw [get_set_ne hi hj e]
      exact Nat.le_trans (R.top j hj) (Nat.max_le.mpr ⟨Nat.le_max_left _ _, Nat.le_trans hk (Nat.le_max_right _ _)⟩)
/-- .. and kept -/
theorem Rep.setK (R : Rep K H ρ m) {i : Nat} {a : Addr} {x : HO} {o : O} {d : D} (h : ρ[i]? = some a) (r : RO K (upd H a x) ρ o a) (hd : topD d ≤ m.n) (t : topO o ≤ max i (max m.k (topD d))) : Rep K (upd H a x) ρ ((m.set i o).keep d) := by
  have q := R.set h r (k := max m.k (topD d)) (Nat.le_max_left _ _) (Nat.max_le.mpr ⟨R.kn, hd⟩) t
  have e : (m.set i o).keep d = { m.set i o with k := max m.k (topD d) } := by
    cases d with
    | p x =>
      have z : max m.k (topD (.p x)) = m.k := Nat.max_eq_left (Nat.zero_le _)
      rw [z]
      rfl
    | un => rfl
    | ref n => rfl
    | tmp ds => rfl
    | tr ds => rfl
  rw [e]
  exact q
/-- only the store's own word changes (a lock) -/
theorem Rep.relock (R : Rep K H ρ m) {i : Nat} {a : Addr} {o : O} (h : ρ[i]? = some a) (r : RO K H ρ o a) (t : topO o ≤ max i m.k) : Rep K H ρ (m.set i o) := by
  have hi := R.lt h
  refine ⟨R.len, ?_, R.nd, R.kn, fun j b hj => ?_, fun j hj => ?_⟩
  · show (setN o m.os _).length = m.n
    rw [setN_eq, List.length_set]
    exact R.lo
  · by_cases e : j = i
    · subst e
      obtain rfl := Option.some.inj (h.symm.trans hj)
      rw [get_set_at R.lo hi]
      exact r
    · rw [get_set_ne hi (R.lt hj) e]
      exact R.obj j b hj
  · have hj : j < m.n := hj
    by_cases e : j = i
    · subst e
      rw [get_set_at R.lo hi]
      exact t
    · rw [get_set_ne hi hj e]
      exact R.top j hj
/-- a dict is locked -/
theorem Rep.lockD (R : Rep K H ρ m) {i : Nat} {a : Addr} {kv : List (P × D)} (h : ρ[i]? = some a) (e : m.get i = .dct false kv) : ∃ kvs, H a = some (.dK kvs) ∧ RKs K H ρ kv kvs ∧ ∀ od, Rep K (upd H a (.frz od (.dK kvs))) ρ (m.set i (.dct true kv)) ∧ Fr ρ H ρ (upd H a (.frz od (.dK kvs))) := by
  have q := R.obj i a h
  have t := R.top i (R.lt h)
  rw [e] at q t
  cases q with
  | dct h1 h2 h3 =>
    refine ⟨_, h1, h2, fun od => ⟨?_, Fr.write h fun o u z => nomatch (h1.symm.trans z)⟩⟩
    have w := R.set (x := .frz od (.dK _)) (o := .dct true kv) (k := m.k) h (.dctL upd_same (h2.mono (R.tsU h) fun _ _ h => h) h3) (Nat.le_refl _) R.kn t
    exact w
/-- .. and unlocked -/
theorem Rep.unlockD (R : Rep K H ρ m) {i : Nat} {a : Addr} {od : Obj} {kvs : List (Key × V)} (h : ρ[i]? = some a) (e : H a = some (.frz od (.dK kvs))) : Rep K (upd H a (.dK kvs)) ρ (m.lock i false) := by
  have q := R.obj i a h
  have t := R.top i (R.lt h)
  unfold Mem.lock
  generalize m.get i = o at q t
  cases q with
  | lst h1 _ _ _ => exact nomatch (h1.symm.trans e)
  | lstL h1 _ _ _ => exact nomatch (h1.symm.trans e)
  | dct h1 _ _ => exact nomatch (h1.symm.trans e)
  | src h1 =>
    obtain ⟨c, l, x, t, h1, _⟩ := h1
    exact nomatch (h1.symm.trans e)
  | cel h1 =>
    obtain ⟨ns, h1, _⟩ := h1
    exact nomatch (h1.symm.trans e)
  | tab _ h1 =>
    obtain ⟨ps, h1, _⟩ := h1
    exact nomatch (h1.symm.trans e)
  | @dctL _ ob kvs' kv h1 h2 h3 =>
    have z := Option.some.inj (h1.symm.trans e)
    injection z with z1 z2
    injection z2 with z2
    subst z2
    have w := R.set (x := .dK kvs') (o := .dct false kv) (k := m.k) h (.dct upd_same (h2.mono (R.tsU h) fun _ _ h => h) h3) (Nat.le_refl _) R.kn t
    exact w
/-- a list is locked, its items laid out -/
theorem Rep.lockL (R : Rep K H ρ m) {i : Nat} {a : Addr} {n : Nat} {fw rv : List D} (h : ρ[i]? = some a) (e : m.get i = .lst false n fw rv) : ∃ vs, H a = some (.lst vs) ∧ RIs K H ρ (fw ++ rv.reverse) vs ∧ ∀ od, Rep K (upd H a (.frz od (.lst vs))) ρ (m.set i (.lst true n (fw ++ rv.reverse) [])) ∧ Fr ρ H ρ (upd H a (.frz od (.lst vs))) := by
  have q := R.obj i a h
  have t := R.top i (R.lt h)
  rw [e] at q t
  cases q with
  | lst h1 h2 h3 h4 =>
    refine ⟨_, h1, h2, fun od => ⟨?_, Fr.write h fun o u z => nomatch (h1.symm.trans z)⟩⟩
    have w := R.set (x := .frz od (.lst _)) (o := .lst true n (fw ++ rv.reverse) []) (k := m.k) h (.lstL upd_same (by simpa using h2.mono (R.tsU h) fun _ _ h => h) h3 h4) (Nat.le_refl _) R.kn (by
      show max (topDs (fw ++ rv.reverse)) (topDs []) ≤ _
      rw [topDs_app, topDs_rev]
      exact Nat.max_le.mpr ⟨t, Nat.zero_le _⟩)
    exact w
theorem Rep.unlockL (R : Rep K H ρ m) {i : Nat} {a : Addr} {od : Obj} {vs : List V} (h : ρ[i]? = some a) (e : H a = some (.frz od (.lst vs))) : Rep K (upd H a (.lst vs)) ρ (m.lock i false) := by
  have q := R.obj i a h
  have t := R.top i (R.lt h)
  unfold Mem.lock
  generalize m.get i = o at q t
  cases q with
  | lst h1 _ _ _ => exact nomatch (h1.symm.trans e)
  | dct h1 _ _ => exact nomatch (h1.symm.trans e)
  | dctL h1 _ _ => exact nomatch (h1.symm.trans e)
  | src h1 =>
    obtain ⟨c, l, x, t, h1, _⟩ := h1
    exact nomatch (h1.symm.trans e)
  | cel h1 =>
    obtain ⟨ns, h1, _⟩ := h1
    exact nomatch (h1.symm.trans e)
  | tab _ h1 =>
    obtain ⟨ps, h1, _⟩ := h1
    exact nomatch (h1.symm.trans e)
  | @lstL _ ob vs' n fw rv h1 h2 h3 h4 =>
    have z := Option.some.inj (h1.symm.trans e)
    injection z with z1 z2
    injection z2 with z2
    subst z2
    have w := R.set (x := .lst vs') (o := .lst false n fw rv) (k := m.k) h (.lst upd_same (h2.mono (R.tsU h) fun _ _ h => h) h3 h4) (Nat.le_refl _) R.kn t
    exact w
theorem Fr.unlockL {a : Addr} {od : Obj} {vs : List V} {i : Nat} (h : ρ[i]? = some a) (e : H a = some (.lst vs)) (f : Fr ρ (upd H a (.frz od (.lst vs))) ρ' H') : H' a = some (.frz od (.lst vs)) ∧ Fr ρ H ρ' (upd H' a (.lst vs)) := by
  refine ⟨f.fz a od _ upd_same, f.pre, fun b o hb nt nb => ?_, fun b o u hb => ?_⟩
  · have ne : b ≠ a := fun z => nb (by rw [z]; exact List.mem_of_getElem? h)
    rw [upd_ne ne]
    exact f.st b o (by rw [upd_ne ne]; exact hb) nt nb
  · have ne : b ≠ a := fun z => by
      rw [z, e] at hb
      cases hb
    rw [upd_ne ne]
    exact f.fz b o u (by rw [upd_ne ne]; exact hb)
/-- from before the lock to behind the unlocking -/
theorem Fr.unlock {a : Addr} {od : Obj} {kvs : List (Key × V)} {i : Nat} (h : ρ[i]? = some a) (e : H a = some (.dK kvs)) (f : Fr ρ (upd H a (.frz od (.dK kvs))) ρ' H') : H' a = some (.frz od (.dK kvs)) ∧ Fr ρ H ρ' (upd H' a (.dK kvs)) := by
  refine ⟨f.fz a od _ upd_same, f.pre, fun b o hb nt nb => ?_, fun b o u hb => ?_⟩
  · have ne : b ≠ a := fun z => nb (by rw [z]; exact List.mem_of_getElem? h)
    rw [upd_ne ne]
    exact f.st b o (by rw [upd_ne ne]; exact hb) nt nb
  · have ne : b ≠ a := fun z => by
      rw [z, e] at hb
      cases hb
    rw [upd_ne ne]
    exact f.fz b o u (by rw [upd_ne ne]; exact hb)


/-! ### a call's end -/
theorem take_at {t i : Nat} {a : Addr} (h : ρ[i]? = some a) (hi : i < t) : (ρ.take t)[i]? = some a := by
  rw [List.getElem?_take_of_lt hi]
  exact h
mutual
theorem RI.cut {t : Nat} : ∀ {d : D} {v : V}, RI K H ρ d v → topD d ≤ t → RI K H (ρ.take t) d v
  | _, _, .p h, _ => .p h
  | _, _, .ref h, z => .ref (take_at h z)
  | _, _, .tr h hs z, q => .tr h (RIs.cut hs q) z
theorem RIs.cut {t : Nat} : ∀ {ds : List D} {vs : List V}, RIs K H ρ ds vs → topDs ds ≤ t → RIs K H (ρ.take t) ds vs
  | _, _, .nil, _ => .nil
  | _, _, .cons h hs, q => .cons (RI.cut h (Nat.max_le.mp q).1) (RIs.cut hs (Nat.max_le.mp q).2)
end
theorem RKs.cut {t : Nat} : ∀ {kv : List (P × D)} {kvs : List (Key × V)}, RKs K H ρ kv kvs → topP kv ≤ t → RKs K H (ρ.take t) kv kvs
  | _, _, .nil, _ => .nil
  | _, _, .cons h hd hs, q => .cons h (hd.cut (Nat.max_le.mp q).1) (hs.cut (Nat.max_le.mp q).2)
theorem RO.cut {t : Nat} {o : O} {a : Addr} (r : RO K H ρ o a) (q : topO o ≤ t) : RO K H (ρ.take t) o a := by
  cases r with
  | @lst _ vs n fw rv h1 h2 h3 h4 =>
    have z : topDs (fw ++ rv.reverse) ≤ t := by
      rw [topDs_app, topDs_rev]
      exact q
    exact .lst h1 (h2.cut z) h3 h4
  | @lstL _ ob vs n fw rv h1 h2 h3 h4 =>
    have z : topDs (fw ++ rv.reverse) ≤ t := by
      rw [topDs_app, topDs_rev]
      exact q
    exact .lstL h1 (h2.cut z) h3 h4
  | dct h1 h2 h3 => exact .dct h1 (h2.cut q) h3
  | dctL h1 h2 h3 => exact .dctL h1 (h2.cut q) h3
  | src h =>
    obtain ⟨c, l, x, t', h1, h2, h3⟩ := h
    exact .src ⟨c, l, x, t', h1, take_at h2 q, h3⟩
  | cel h => exact .cel h
  | tab hj h => exact .tab hj h
theorem Rep.cut (R : Rep K H ρ m) {t : Nat} (h1 : m.k ≤ t) (h2 : t ≤ m.n) : Rep K H (ρ.take t) (m.cut t) := by
  refine ⟨?_, ?_, R.nd.sublist (List.take_sublist _ _), h1, fun i a h => ?_, fun i hi => ?_⟩
  · rw [List.length_take, R.len]
    exact Nat.min_eq_left h2
  · show (m.os.drop (m.n - t)).length = t
    rw [List.length_drop, R.lo]
    omega
  · have hi : i < t := by
      have := (List.getElem?_eq_some_iff.mp h).1
      rw [List.length_take] at this
      omega
    rw [get_cut h2 hi]
    rw [List.getElem?_take_of_lt hi] at h
    exact (R.obj i a h).cut (Nat.le_trans (R.top i (by omega)) (Nat.max_le.mpr ⟨by omega, h1⟩))
  · have hi : i < t := hi
    rw [get_cut h2 hi]
    exact R.top i (by omega)
theorem Fr.cut (f : Fr ρ H ρ' H') {t : Nat} (h : ρ.length ≤ t) : Fr ρ H (ρ'.take t) H' := by
  obtain ⟨e, rfl⟩ := f.pre
  refine ⟨⟨e.take (t - ρ.length), by rw [List.take_append, List.take_of_length_le h]⟩, fun a o ha nt n => ?_, f.fz⟩
  obtain ⟨h1, h2⟩ := f.st a o ha nt n
  exact ⟨h1, fun hm => h2 (List.mem_of_mem_take hm)⟩
end
end PB
end
section
set_option Elab.async false
set_option linter.all false
set_option maxRecDepth 100000
/-! PBSnd1: the readings of the evaluator's combinators; expressions, tests, arguments. -/
namespace PB
open PySem PySem.Spec PyProof.Rows L2
variable [PB.TBL]
/-- the exception classes of the law: their objects, their fields -/
structure Tab where
  ecl : Nat → Option Addr
  efs : Nat → List Str
section
variable {T : Tab} {K : PySem.W.Frag} {H H' H0 H1 H2 : Hp} {ρ ρ' ρ0 ρ1 ρ2 : List Addr} {m m' m1 : Mem}
def KOk (K : PySem.W.Frag) (ρ : List Addr) (H : Hp) (k : KD) (Q : VK) : Prop := ∀ ρ' d m' v H', Fr ρ H ρ' H' → Rep K H' ρ' m' → RX K H H' ρ' d v → k d m' = true → Q v H'
def XR (T : Tab) (K : PySem.W.Frag) (H : Hp) (c : Nat) (ps : List P) (cls : Value) (dx : Option Addr) : Prop :=
  ∃ C d vs, T.ecl c = some C ∧ cls = .ref C ∧ dx = some d ∧ RPs K H ps vs ∧ H d = some (.xd ((T.efs c).zip vs)) ∧ (T.efs c).length = vs.length
def XOk (T : Tab) (K : PySem.W.Frag) (ρ : List Addr) (H : Hp) (x : KX) (W : WX) : Prop := ∀ ρ' c ps m' cls dx st' H', Fr ρ H ρ' H' → Rep K H' ρ' m' → XR T K H' c ps cls dx → x c ps m' = true → W cls dx st' H'
def AOk (K : PySem.W.Frag) (ρ : List Addr) (H : Hp) (k : List D → Mem → Bool) (Q : List V → Hp → Prop) : Prop := ∀ ρ' ds m' vs H', Fr ρ H ρ' H' → Rep K H' ρ' m' → RIs K H' ρ' ds vs → k ds m' = true → Q vs H'
def TOk (K : PySem.W.Frag) (ρ : List Addr) (H : Hp) (k : Bool → Mem → Bool) (Q : Bool → Hp → Prop) : Prop := ∀ ρ' t m' H', Fr ρ H ρ' H' → Rep K H' ρ' m' → k t m' = true → Q t H'
def NOk (K : PySem.W.Frag) (ρ : List Addr) (H : Hp) (k : KN) (Q : L2.St → Hp → Prop) : Prop := ∀ ρ' σ' m' st' H', Fr ρ H ρ' H' → Rep K H' ρ' m' → Slots K H' ρ' σ' st' → k σ' m' = true → Q st' H'
/-- new since H1 is new since H0 -/
theorem new_back (f : Fr ρ H ρ1 H1) {a : Addr} (n : a ∉ ρ) (h : NewS H1 a) : NewS H a := fun o e => by
  cases o with
  | tbl ps => exact ⟨ps, rfl⟩
  | _ => exact h _ (f.st a _ e (fun ps z => nomatch z) n).1
theorem RX.back (f : Fr ρ H ρ1 H1) (g : Fr ρ1 H1 ρ' H') {d : D} {v : V} (h : RX K H1 H' ρ' d v) : RX K H H' ρ' d v := by
  cases d with
  | tmp ds =>
    obtain ⟨a, vs, e, h0, h1, n, r⟩ := h
    refine ⟨a, vs, e, new_back f (fun z => n ?_) h0, h1, n, r⟩
    obtain ⟨x, ex⟩ := (f.trans g).pre
    rw [ex]
    exact List.mem_append_left _ z
  | un => exact h
  | p x => exact h
  | ref n => exact h
  | tr ds => exact h
theorem RX.of {d : D} {v : V} (h : RI K H ρ d v) : RX K H0 H ρ d v := by
  cases d with
  | tmp ds => cases h
  | un => exact h
  | p x => exact h
  | ref n => exact h
  | tr ds => exact h
theorem KOk.fr {k : KD} {Q : VK} (h : KOk K ρ H k Q) (f : Fr ρ H ρ1 H1) (R : Rep K H1 ρ1 m1) : KOk K ρ1 H1 k Q := fun ρ' d m' v H' g R' r q => h ρ' d m' v H' (f.trans g) R' (r.back f g) q
theorem XOk.fr {x : KX} {W : WX} (h : XOk T K ρ H x W) (f : Fr ρ H ρ1 H1) : XOk T K ρ1 H1 x W := fun ρ' c ps m' cls dx st' H' g R' r q => h ρ' c ps m' cls dx st' H' (f.trans g) R' r q
theorem AOk.fr {k : List D → Mem → Bool} {Q : List V → Hp → Prop} (h : AOk K ρ H k Q) (f : Fr ρ H ρ1 H1) : AOk K ρ1 H1 k Q := fun ρ' d m' v H' g R' r q => h ρ' d m' v H' (f.trans g) R' r q
theorem TOk.fr {k : Bool → Mem → Bool} {Q : Bool → Hp → Prop} (h : TOk K ρ H k Q) (f : Fr ρ H ρ1 H1) : TOk K ρ1 H1 k Q := fun ρ' d m' H' g R' q => h ρ' d m' H' (f.trans g) R' q
theorem NOk.fr {k : KN} {Q : L2.St → Hp → Prop} (h : NOk K ρ H k Q) (f : Fr ρ H ρ1 H1) : NOk K ρ1 H1 k Q := fun ρ' d m' v H' g R' r q => h ρ' d m' v H' (f.trans g) R' r q
/-- a value is laid -/
theorem lay_ok {d : D} {v : V} {k : KD} (f : Fr ρ0 H0 ρ H) (R : Rep K H ρ m) (r : RX K H0 H ρ d v) (h : lay d m k = true) : ∃ ρ' d' m', Fr ρ0 H0 ρ' H ∧ Fr ρ H0 ρ' H0 ∧ Rep K H ρ' m' ∧ RI K H ρ' d' v ∧ (∀ (i : Nat) (a : Addr), ρ[i]? = some a → ρ'[i]? = some a) ∧ k d' m' = true := by
  cases d with
  | tmp ds =>
    obtain ⟨a, vs, rfl, h0, ha, n, hs, z⟩ := r
    have pr : ∀ (i : Nat) (b : Addr), ρ[i]? = some b → (ρ ++ [a])[i]? = some b := fun i b e => by
      rw [List.getElem?_append_left (List.getElem?_eq_some_iff.mp e).1]
      exact e
    obtain ⟨e, rfl⟩ := f.pre
    refine ⟨(ρ0 ++ e) ++ [a], .ref m.n, m.new (.lst false ds.length ds []), ⟨⟨e ++ [a], by simp⟩, fun b o hb nt nb => ?_, f.fz⟩, ⟨⟨[a], rfl⟩, fun b o hb nt nb => ⟨hb, fun hm => ?_⟩, fun _ _ _ h => h⟩, R.new n (.lst ha (by simpa using hs.app) hs.length z) ?_, .ref (app_at a R), pr, h⟩
    · obtain ⟨h1, h2⟩ := f.st b o hb nt nb
      refine ⟨h1, fun hm => ?_⟩
      rcases List.mem_append.mp hm with q | q
      · exact h2 q
      · rw [List.mem_singleton.mp q] at hb
        obtain ⟨ps, z⟩ := h0 o hb
        exact nt ps z
    · rcases List.mem_append.mp hm with q | q
      · exact nb q
      · rw [List.mem_singleton.mp q] at hb
        obtain ⟨ps, z⟩ := h0 o hb
        exact nt ps z
    · show max (topDs ds) 0 ≤ m.n
      rw [← R.len]
      exact Nat.max_le.mpr ⟨hs.top, Nat.zero_le _⟩
  | un => exact ⟨ρ, .un, m, f, Fr.refl, R, r, fun _ _ h => h, h⟩
  | p x => exact ⟨ρ, .p x, m, f, Fr.refl, R, r, fun _ _ h => h, h⟩
  | ref n => exact ⟨ρ, .ref n, m, f, Fr.refl, R, r, fun _ _ h => h, h⟩
  | tr ds => exact ⟨ρ, .tr ds, m, f, Fr.refl, R, r, fun _ _ h => h, h⟩
/-- a list is read -/
theorem listOf_ok {d : D} {v : V} {k : List D → Bool} (R : Rep K H ρ m) (r : RX K H0 H ρ d v) (h : listOf d m k = true) : ∃ ds a vs, v = .ref a ∧ SqL K H a vs ∧ RIs K H ρ ds vs ∧ vs.length ≤ sizeLine ∧ k ds = true := by
  cases d with
  | tmp ds =>
    obtain ⟨a, vs, e, h0, ha, n, hs, z⟩ := r
    exact ⟨ds, a, vs, e, SqL.of ha, hs, z, h⟩
  | ref i =>
    cases r with
    | @ref _ a hi =>
      have q := R.obj i a hi
      have hb : Nat.blt i m.n = true := by
        rw [Nat.blt_eq]
        exact R.lt hi
      dsimp only [listOf] at h
      rw [hb] at h
      cases e : m.get i with
      | lst lk n fw rv =>
        rw [e] at q h
        cases q with
        | lst h1 h2 h3 h4 =>
          cases rv with
          | nil => exact ⟨fw, a, _, rfl, SqL.of h1, by simpa using h2, h4, h⟩
          | cons x xs => exact ⟨fw ++ (x :: xs).reverse, a, _, rfl, SqL.of h1, h2, h4, h⟩
        | lstL h1 h2 h3 h4 =>
          cases rv with
          | nil => exact ⟨fw, a, _, rfl, .inl (.inr ⟨_, h1⟩), by simpa using h2, h4, h⟩
          | cons x xs => exact ⟨fw ++ (x :: xs).reverse, a, _, rfl, .inl (.inr ⟨_, h1⟩), h2, h4, h⟩
      | dct lk kvs =>
        rw [e] at h
        cases h
      | ins c fs =>
        rw [e] at h
        cases h
      | src j =>
        rw [e] at h
        cases h
      | cel =>
        rw [e] at h
        cases h
      | tab j =>
        rw [e] at h
        cases h
  | un => nomatch (show false = true from h)
  | p x => nomatch (show false = true from h)
  | tr ds => nomatch (show false = true from h)
theorem listU_ok {d : D} {v : V} {k : List D → Bool} (R : Rep K H ρ m) (r : RX K H0 H ρ d v) (h : listU d m k = true) : ∃ ds a vs, v = .ref a ∧ H a = some (.lst vs) ∧ RIs K H ρ ds vs ∧ vs.length ≤ sizeLine ∧ k ds = true := by
  cases d with
  | tmp ds =>
    obtain ⟨a, vs, e, h0, ha, n, hs, z⟩ := r
    exact ⟨ds, a, vs, e, ha, hs, z, h⟩
  | ref i =>
    cases r with
    | @ref _ a hi =>
      have q := R.obj i a hi
      dsimp only [listU] at h
      split at h
      · rename_i n fw rv hb e
        rw [e] at q
        cases q with
        | lst h1 h2 h3 h4 =>
          cases rv with
          | nil => exact ⟨fw, a, _, rfl, h1, by simpa using h2, h4, h⟩
          | cons x xs => exact ⟨fw ++ (x :: xs).reverse, a, _, rfl, h1, h2, h4, h⟩
      · cases h
  | un => nomatch (show false = true from h)
  | p x => nomatch (show false = true from h)
  | tr ds => nomatch (show false = true from h)
end
/-! ### the readings -/
def rdE (T : Tab) (K : PySem.W.Frag) (W : WX) (e : Ex) : TE := fun st H Q => ∃ ρ σ m x k, Rep K H ρ m ∧ Slots K H ρ σ st ∧ e σ m x k = true ∧ KOk K ρ H k Q ∧ XOk T K ρ H x W
def rdA (T : Tab) (K : PySem.W.Frag) (W : WX) (e : Ax) : TA := fun st H Q => ∃ ρ σ m x k, Rep K H ρ m ∧ Slots K H ρ σ st ∧ e σ m x k = true ∧ AOk K ρ H k Q ∧ XOk T K ρ H x W
def rdT (T : Tab) (K : PySem.W.Frag) (W : WX) (e : Ex) : TT := fun st H Q => ∃ ρ σ m x k, Rep K H ρ m ∧ Slots K H ρ σ st ∧ e σ m x (fun d m => asB d fun t => k t m) = true ∧ TOk K ρ H k Q ∧ XOk T K ρ H x W
structure Good (X : Cx) (W : WX) : Prop where
  calm : X.calm = true
  nd : X.N.Nodup
  tk : Takes X W
  hu : X.A.units + 200 < cLine
section
variable {T : Tab} {X : Cx} {W : WX} {a b : Expr} {ea eb : Ex} {pos : Pos}
theorem pe_imp {e : Expr} {t u : TE} (h : PE X e t) (i : ∀ st H Q, u st H Q → t st H Q) : PE X e u := ⟨fun pins s st H Q I q => h.run pins s st H Q I (i st H Q q)⟩
theorem pt_imp {e : Expr} {t u : TT} (h : PT X e t) (i : ∀ st H Q, u st H Q → t st H Q) : PT X e u := ⟨fun pins s st H Q I q => h.run pins s st H Q I (i st H Q q)⟩
theorem pw_imp {e : Expr} {t u : TT} (h : PW X e t) (i : ∀ st H Q, u st H Q → t st H Q) : PW X e u := ⟨fun wh pins s st H Q I q => h.run wh pins s st H Q I (i st H Q q)⟩
theorem pa_imp {e : List Expr} {t u : TA} (h : PA X e t) (i : ∀ st H Q, u st H Q → t st H Q) : PA X e u := ⟨fun p pins s st H Q I q => h.run p pins s st H Q I (i st H Q q)⟩

/-! ### names, constants -/
theorem se_var (i : Nat) {x : Str} (hN : X.N[i]? = some x) (hv : Vis X.env.scope x) (hd : (x == ("__debug__" : Str)) = false := by decide) (hcd : (x == ("__classdict__" : Str)) = false := by decide) : PE X (.Name x pos) (rdE T X.K W (eVar i)) := by
  refine pe_imp (pe_var hN hv hd hcd) fun st H Q h => ?_
  obtain ⟨ρ, σ, m, x, k, R, S, e, hk, hx⟩ := h
  have key : ∀ d, nth .un σ i = d → d ≠ .un → k d m = true → tVar i st H Q := fun d hd nd hq => by
    obtain ⟨v, h1, h2⟩ := S.2 i d hd nd
    exact ⟨v, h1, hk ρ d m v H Fr.refl R (.of h2) hq⟩
  unfold eVar at e
  cases q : nth .un σ i with
  | un =>
    rw [q] at e
    cases e
  | p x =>
    rw [q] at e
    exact key _ q (fun z => nomatch z) e
  | ref n =>
    rw [q] at e
    exact key _ q (fun z => nomatch z) e
  | tmp ds =>
    rw [q] at e
    exact key _ q (fun z => nomatch z) e
  | tr ds =>
    rw [q] at e
    exact key _ q (fun z => nomatch z) e
theorem lit_of {x : P} {v : V} (hr : ∀ H, RP X.K H x v) : ∀ st H Q, rdE T X.K W (eLit x) st H Q → tC v st H Q := fun st H Q h => by
  obtain ⟨ρ, σ, m, y, k, R, S, e, hk, hx⟩ := h
  exact hk ρ (.p x) m v H Fr.refl R (show RI X.K H ρ (.p x) v from .p (hr H)) e
theorem se_int {i j} : PE X (.Constant (.int i) j pos) (rdE T X.K W (eLit (.int i))) := pe_imp pe_int (lit_of fun _ => .int i)
theorem se_bl {i j} : PE X (.Constant (.bool i) j pos) (rdE T X.K W (eLit (.bl i))) := pe_imp pe_bl (lit_of fun _ => .bl i)
theorem se_non {j} : PE X (.Constant .none j pos) (rdE T X.K W (eLit .non)) := pe_imp pe_non (lit_of fun _ => .non)
theorem se_str (n : Nat) {x : Str} {j} (ho : okS n = true) (hd : decS n = x) : PE X (.Constant (.str x) j pos) (rdE T X.K W (eLit (.str n))) := pe_imp pe_str (lit_of fun _ => by
  rw [← hd]
  exact .str ho)
/-- a constant of the module -/
theorem se_glob {x : Str} {v : V} {u : Value} {p : P} (hg : Gl X x) (hm : X.mg x = some u) (r : RelV v u) (hr : ∀ H, RP X.K H p v) (hd : (x == ("__debug__" : Str)) = false := by decide) : PE X (.Name x pos) (rdE T X.K W (eLit p)) := pe_imp (pe_glob hg hm r hd) (lit_of hr)

/-! ### operators -/
def rOp (K : PySem.W.Frag) (f : D → D → Mem → KD → Bool) : R2 := fun u v H Q => ∃ H0 ρ d1 d2 m k, Rep K H ρ m ∧ RX K H0 H ρ d1 u ∧ RX K H0 H ρ d2 v ∧ f d1 d2 m k = true ∧ KOk K ρ H k Q
theorem bin_of {f : D → D → Mem → KD → Bool} {ta tb : TE} (ha : ta = rdE T X.K W ea) (hb : tb = rdE T X.K W eb) : ∀ st H Q, rdE T X.K W (eBin f ea eb) st H Q → tOp (rOp X.K f) ta tb st H Q := fun st H Q h => by
  subst ha hb
  obtain ⟨ρ, σ, m, x, k, R, S, e, hk, hx⟩ := h
  refine ⟨ρ, σ, m, x, _, R, S, e, fun ρ1 d1 m1 v1 H1 f1 R1 r1 q1 => ?_, hx⟩
  refine ⟨ρ1, σ, m1, x, _, R1, S.fr R f1, q1, fun ρ2 d2 m2 v2 H2 f2 R2 r2 q2 => ?_, hx.fr f1⟩
  exact ⟨H, ρ2, d1, d2, m2, k, R2, r1.fr R1 f2, r2.back f1 f2, q2, hk.fr (f1.trans f2) R2⟩
theorem se_bin {op : Operator} {f : D → D → Mem → KD → Bool} (ho : OpR X (binaryOp op) (rOp X.K f)) (ha : PE X a (rdE T X.K W ea)) (hb : PE X b (rdE T X.K W eb)) : PE X (.BinOp a op b pos) (rdE T X.K W (eBin f ea eb)) := pe_imp (pe_op ho ha hb) (bin_of rfl rfl)
theorem se_cmp {op : CmpOp} {f : D → D → Mem → KD → Bool} (ho : OpR X (compareOp op) (rOp X.K f)) (ha : PE X a (rdE T X.K W ea)) (hb : PE X b (rdE T X.K W eb)) (hm : behindInMarks op b = false) : PE X (.Compare a [op] [b] pos) (rdE T X.K W (eBin f ea eb)) := pe_imp (pe_cmpR ho ha hb hm) (bin_of rfl rfl)
def rUn (K : PySem.W.Frag) (f : D → Mem → KD → Bool) : V → Hp → VK → Prop := fun u H Q => ∃ H0 ρ d m k, Rep K H ρ m ∧ RX K H0 H ρ d u ∧ f d m k = true ∧ KOk K ρ H k Q
theorem un_of {f : D → Mem → KD → Bool} {ta : TE} (ha : ta = rdE T X.K W ea) : ∀ st H Q, rdE T X.K W (eUn f ea) st H Q → tUn (rUn X.K f) ta st H Q := fun st H Q h => by
  subst ha
  obtain ⟨ρ, σ, m, x, k, R, S, e, hk, hx⟩ := h
  refine ⟨ρ, σ, m, x, _, R, S, e, fun ρ1 d1 m1 v1 H1 f1 R1 r1 q1 => ?_, hx⟩
  exact ⟨H, ρ1, d1, m1, k, R1, r1, q1, hk.fr f1 R1⟩
theorem se_un {op : UnaryOp} {f : D → Mem → KD → Bool} (ho : UnR X (unaryOp op) (rUn X.K f)) (ha : PE X a (rdE T X.K W ea)) : PE X (.UnaryOp op a pos) (rdE T X.K W (eUn f ea)) := pe_imp (pe_un ho ha) (un_of rfl)

/-! ### tests -/
theorem asB_ok {d : D} {k : Bool → Bool} (h : asB d k = true) : ∃ t, d = .p (.bl t) ∧ k t = true := by
  cases d with
  | p x =>
    cases x with
    | bl t => exact ⟨t, rfl, h⟩
    | non => cases h
    | int i => cases h
    | str n => cases h
    | tup ps => cases h
  | un => cases h
  | ref n => cases h
  | tmp ds => cases h
  | tr ds => cases h
theorem rx_bl {K : PySem.W.Frag} {H0 H : Hp} {ρ : List Addr} {t : Bool} {v : V} (h : RX K H0 H ρ (.p (.bl t)) v) : v = .bl t := by
  have h : RI K H ρ (.p (.bl t)) v := h
  cases h with
  | p h =>
    cases h
    rfl
/-- a value read as a test -/
theorem rdT_tB {e : Ex} : ∀ st H Q, rdT T X.K W e st H Q → tB (rdE T X.K W e) st H Q := fun st H Q h => by
  obtain ⟨ρ, σ, m, x, k, R, S, e, hk, hx⟩ := h
  refine ⟨ρ, σ, m, x, _, R, S, e, fun ρ1 d1 m1 v1 H1 f1 R1 r1 q1 => ?_, hx⟩
  obtain ⟨t, rfl, q⟩ := asB_ok q1
  exact ⟨t, rx_bl r1, hk ρ1 t m1 H1 f1 R1 q⟩
theorem st_val {e : Expr} {m : Ex} (h : PE X e (rdE T X.K W m)) (he : ∀ whole, isTrue e X.env whole = (do let v ← whole; standAt e.pos; holding [v] (truthy v))) : PT X e (rdT T X.K W m) := pt_imp (pt_val h he) rdT_tB
theorem st_cmp {op : CmpOp} {f : D → D → Mem → KD → Bool} (ho : OpR X (compareOp op) (rOp X.K f)) (ha : PE X a (rdE T X.K W ea)) (hb : PE X b (rdE T X.K W eb)) (hm : behindInMarks op b = false) : PT X (.Compare a [op] [b] pos) (rdT T X.K W (eBin f ea eb)) := by
  refine pt_imp (pt_cmpR ho ha hb hm) fun st H Q h => ?_
  obtain ⟨t, ht⟩ : ∃ t, t = rdE T X.K W (eBin f ea eb) := ⟨_, rfl⟩
  exact bin_of rfl rfl st H _ (rdT_tB st H Q h)
variable {rest : List Expr}
theorem sw_and1 (h : PT X a (rdT T X.K W ea)) : PW X (.BoolOp .And [a] pos) (rdT T X.K W ea) := pw_and1 h
theorem sw_or1 (h : PT X a (rdT T X.K W ea)) : PW X (.BoolOp .Or [a] pos) (rdT T X.K W ea) := pw_or1 h
theorem sw_and (ha : PT X a (rdT T X.K W ea)) (hb : PW X (.BoolOp .And (b :: rest) pos) (rdT T X.K W eb)) : PW X (.BoolOp .And (a :: b :: rest) pos) (rdT T X.K W (eAnd ea eb)) := by
  refine pw_imp (pw_and ha hb) fun st H Q h => ?_
  obtain ⟨ρ, σ, m, x, k, R, S, e, hk, hx⟩ := h
  refine ⟨ρ, σ, m, x, fun t m => match t with
    | true => eb σ m x fun d m => asB d fun t => k t m
    | false => k false m, R, S, e, fun ρ1 t m1 H1 f1 R1 q1 => ?_, hx⟩
  cases t with
  | true => exact ⟨ρ1, σ, m1, x, k, R1, S.fr R f1, q1, hk.fr f1, hx.fr f1⟩
  | false => exact hk ρ1 false m1 H1 f1 R1 q1
theorem sw_or (ha : PT X a (rdT T X.K W ea)) (hb : PW X (.BoolOp .Or (b :: rest) pos) (rdT T X.K W eb)) : PW X (.BoolOp .Or (a :: b :: rest) pos) (rdT T X.K W (eOr ea eb)) := by
  refine pw_imp (pw_or ha hb) fun st H Q h => ?_
  obtain ⟨ρ, σ, m, x, k, R, S, e, hk, hx⟩ := h
  refine ⟨ρ, σ, m, x, fun t m => match t with
    | true => k true m
    | false => eb σ m x fun d m => asB d fun t => k t m, R, S, e, fun ρ1 t m1 H1 f1 R1 q1 => ?_, hx⟩
  cases t with
  | false => exact ⟨ρ1, σ, m1, x, k, R1, S.fr R f1, q1, hk.fr f1, hx.fr f1⟩
  | true => exact hk ρ1 true m1 H1 f1 R1 q1
theorem st_not (ha : PT X a (rdT T X.K W ea)) : PT X (.UnaryOp .Not a pos) (rdT T X.K W (eUn fNot ea)) := by
  refine pt_imp (pt_not ha) fun st H Q h => ?_
  obtain ⟨ρ, σ, m, x, k, R, S, e, hk, hx⟩ := h
  refine ⟨ρ, σ, m, x, fun t m => k (!t) m, R, S, ?_, fun ρ1 t m1 H1 f1 R1 q1 => hk ρ1 (!t) m1 H1 f1 R1 q1, hx⟩
  have q : (fun d m => asB d fun t => k (!t) m) = fun (u : D) m => fNot u m fun d m => asB d fun t => k t m := by
    funext d m
    unfold fNot
    congr 1
    funext t
    cases t <;> rfl
  rw [q]
  exact e
/-- and, or, not as values -/
theorem se_one {op} {t : TE} (h : PE X a t) : PE X (.BoolOp op [a] pos) t := pe_one h
theorem se_and (ha : PE X a (rdE T X.K W ea)) (hb : PE X (.BoolOp .And (b :: rest) pos) (rdE T X.K W eb)) : PE X (.BoolOp .And (a :: b :: rest) pos) (rdE T X.K W (eAnd ea eb)) := by
  refine pe_imp (pe_and ha hb) fun st H Q h => ?_
  obtain ⟨ρ, σ, m, x, k, R, S, e, hk, hx⟩ := h
  refine ⟨ρ, σ, m, x, _, R, S, e, fun ρ1 d m1 v1 H1 f1 R1 r1 q1 => ?_, hx⟩
  obtain ⟨t, rfl, q⟩ := asB_ok q1
  refine ⟨t, rx_bl r1, ?_⟩
  cases t with
  | true =>
    rw [if_pos rfl]
    exact ⟨ρ1, σ, m1, x, k, R1, S.fr R f1, q, hk.fr f1 R1, hx.fr f1⟩
  | false =>
    rw [if_neg Bool.false_ne_true]
    exact hk ρ1 _ m1 (.bl false) H1 f1 R1 (RX.of (.p (.bl false))) q
theorem se_or (ha : PE X a (rdE T X.K W ea)) (hb : PE X (.BoolOp .Or (b :: rest) pos) (rdE T X.K W eb)) : PE X (.BoolOp .Or (a :: b :: rest) pos) (rdE T X.K W (eOr ea eb)) := by
  refine pe_imp (pe_or ha hb) fun st H Q h => ?_
  obtain ⟨ρ, σ, m, x, k, R, S, e, hk, hx⟩ := h
  refine ⟨ρ, σ, m, x, _, R, S, e, fun ρ1 d m1 v1 H1 f1 R1 r1 q1 => ?_, hx⟩
  obtain ⟨t, rfl, q⟩ := asB_ok q1
  refine ⟨t, rx_bl r1, ?_⟩
  cases t with
  | false =>
    rw [if_neg Bool.false_ne_true]
    exact ⟨ρ1, σ, m1, x, k, R1, S.fr R f1, q, hk.fr f1 R1, hx.fr f1⟩
  | true =>
    rw [if_pos rfl]
    exact hk ρ1 _ m1 (.bl true) H1 f1 R1 (RX.of (.p (.bl true))) q
theorem se_not (ha : PE X a (rdE T X.K W ea)) : PE X (.UnaryOp .Not a pos) (rdE T X.K W (eUn fNot ea)) := by
  refine pe_imp (pe_not ha) fun st H Q h => ?_
  obtain ⟨ρ, σ, m, x, k, R, S, e, hk, hx⟩ := h
  refine ⟨ρ, σ, m, x, _, R, S, e, fun ρ1 d m1 v1 H1 f1 R1 r1 q1 => ?_, hx⟩
  obtain ⟨t, rfl, q⟩ := asB_ok q1
  refine ⟨t, rx_bl r1, ?_⟩
  cases t with
  | true => exact hk ρ1 _ m1 (.bl false) H1 f1 R1 (RX.of (.p (.bl false))) q
  | false => exact hk ρ1 _ m1 (.bl true) H1 f1 R1 (RX.of (.p (.bl true))) q
theorem se_if {c : Expr} {ec : Ex} (hc : PT X c (rdT T X.K W ec)) (ha : PE X a (rdE T X.K W ea)) (hb : PE X b (rdE T X.K W eb)) : PE X (.IfExp c a b pos) (rdE T X.K W (eIf ec ea eb)) := by
  refine pe_imp (pe_ifExp hc ha hb) fun st H Q h => ?_
  obtain ⟨ρ, σ, m, x, k, R, S, e, hk, hx⟩ := h
  refine ⟨ρ, σ, m, x, fun t m => match t with
    | true => ea σ m x k
    | false => eb σ m x k, R, S, e, fun ρ1 t m1 H1 f1 R1 q1 => ?_, hx⟩
  cases t with
  | true =>
    rw [if_pos rfl]
    exact ⟨ρ1, σ, m1, x, k, R1, S.fr R f1, q1, hk.fr f1 R1, hx.fr f1⟩
  | false =>
    rw [if_neg Bool.false_ne_true]
    exact ⟨ρ1, σ, m1, x, k, R1, S.fr R f1, q1, hk.fr f1 R1, hx.fr f1⟩
end
end PB
end
section
set_option Elab.async false
set_option linter.all false
set_option maxRecDepth 100000
/-! PBSnd2: operators, comparisons, displays, items and parts. -/
namespace PB
open PySem PySem.Spec PyProof.Rows L2
variable [PB.TBL]
theorem fN_eq (n : Nat) (k : Nat → Bool) : fN n k = k n := by cases n <;> rfl
theorem fB_eq (n : Nat) (k : Nat → Bool) : fB n k = k n := by
  unfold fB
  cases Nat.ble n 4294967296 with
  | true => exact fN_eq n k
  | false =>
    show k (Nat.sub (Nat.add n (Nat.mod n 1000003)) (Nat.mod n 1000003)) = k n
    have e : Nat.sub (Nat.add n (Nat.mod n 1000003)) (Nat.mod n 1000003) = n := Nat.add_sub_cancel n _
    rw [e]
theorem fI_eq (i : Int) (k : Int → Bool) : fI i k = k i := by
  cases i with
  | ofNat n => exact fB_eq n fun n => k (Int.ofNat n)
  | negSucc n => exact fB_eq n fun n => k (Int.negSucc n)
theorem ilt_iff (a b : Int) : ilt a b = decide (a < b) := by
  rw [Bool.eq_iff_iff, decide_eq_true_eq]
  cases a with
  | ofNat x =>
    cases b with
    | ofNat y =>
      show Nat.blt x y = true ↔ _
      rw [Nat.blt_eq]
      exact Int.ofNat_lt.symm
    | negSucc y => exact ⟨fun h => (nomatch h), fun h => by
        have := Int.negSucc_lt_zero y
        have h2 : (0 : Int) ≤ Int.ofNat x := Int.natCast_nonneg x
        omega⟩
  | negSucc x =>
    cases b with
    | ofNat y => exact ⟨fun _ => by
        have := Int.negSucc_lt_zero x
        have h2 : (0 : Int) ≤ Int.ofNat y := Int.natCast_nonneg y
        omega, fun _ => rfl⟩
    | negSucc y =>
      show Nat.blt y x = true ↔ _
      rw [Nat.blt_eq]
      constructor <;> intro h <;> omega
section
variable {K : PySem.W.Frag} {H H0 : Hp} {ρ : List Addr} {m : Mem} {k : KD} {Q : VK} {p : Addr}
theorem fin_p (hk : KOk K ρ H k Q) (R : Rep K H ρ m) {x : P} {v : V} (h : RP K H x v) (e : k (.p x) m = true) : Q v H := hk ρ (.p x) m v H Fr.refl R (RX.of (.p h)) e
theorem fin_d (hk : KOk K ρ H k Q) (R : Rep K H ρ m) {d : D} {v : V} (h : RI K H ρ d v) (e : k d m = true) : Q v H := hk ρ d m v H Fr.refl R (RX.of h) e
theorem fr_new {o : HO} (hp : H p = none) : Fr ρ H ρ (upd H p o) := Fr.same (same_new hp)
theorem ts_new {o : HO} (hp : H p = none) : TS H (upd H p o) := Same.ts (same_new hp)
theorem fin_tup (hk : KOk K ρ H k Q) (R : Rep K H ρ m) (hp : H p = none) {ps : List P} {vs : List V} (h : RPs K H ps vs) (z : vs.length ≤ sizeLine) (e : k (.p (.tup ps)) m = true) : Q (.ref p) (upd H p (.tup vs)) :=
  hk ρ (.p (.tup ps)) m _ _ (fr_new hp) (R.same (same_new hp)) (RX.of (.p (.tup (SqT.of upd_same) (h.mono (ts_new hp)) z))) e
theorem fin_tr (hk : KOk K ρ H k Q) (R : Rep K H ρ m) (hp : H p = none) {ds : List D} {vs : List V} (h : RIs K H ρ ds vs) (z : vs.length ≤ sizeLine) (e : k (.tr ds) m = true) : Q (.ref p) (upd H p (.tup vs)) :=
  hk ρ (.tr ds) m _ _ (fr_new hp) (R.same (same_new hp)) (RX.of (.tr (SqT.of upd_same) (h.mono (ts_new hp) fun _ _ h => h) z)) e
theorem fin_lst (hk : KOk K ρ H k Q) (R : Rep K H ρ m) (hp : H p = none) {ds : List D} {vs : List V} (h : RIs K H ρ ds vs) (z : vs.length ≤ sizeLine) (e : k (.tmp ds) m = true) : Q (.ref p) (upd H p (.lst vs)) :=
  hk ρ (.tmp ds) m _ _ (fr_new hp) (R.same (same_new hp)) ⟨p, vs, rfl, NewS.of hp, upd_same, R.fresh hp, h.mono (ts_new hp) fun _ _ h => h, z⟩ e
theorem mkTup_ok {ds : List D} (e : mkTup ds m k = true) {vs : List V} (h : RIs K H ρ ds vs) : vs.length ≤ sizeLine ∧ ((∃ ps, pures ds = some ps ∧ RPs K H ps vs ∧ k (.p (.tup ps)) m = true) ∨ k (.tr ds) m = true) := by
  unfold mkTup at e
  cases z : Nat.ble ds.length sizeL with
  | false =>
    rw [z] at e
    cases e
  | true =>
    rw [z] at e
    have z1 : vs.length ≤ sizeLine := by
      rw [← h.length, sizeLine_eq]
      exact Nat.le_of_ble_eq_true z
    refine ⟨z1, ?_⟩
    cases q : pures ds with
    | some ps =>
      rw [q] at e
      exact .inl ⟨ps, rfl, pures_ri q h, e⟩
    | none =>
      rw [q] at e
      exact .inr e
theorem fin_mk (hk : KOk K ρ H k Q) (R : Rep K H ρ m) (hp : H p = none) {ds : List D} {vs : List V} (h : RIs K H ρ ds vs) (e : mkTup ds m k = true) : Q (.ref p) (upd H p (.tup vs)) := by
  obtain ⟨z, ⟨ps, _, hr, e⟩ | e⟩ := mkTup_ok e h
  · exact fin_tup hk R hp hr z e
  · exact fin_tr hk R hp h z e
theorem rx_int {i : Int} {v : V} (h : RX K H0 H ρ (.p (.int i)) v) : v = .int i := by
  have h : RI K H ρ (.p (.int i)) v := h
  cases h with
  | p h =>
    cases h
    rfl
theorem rx_tup {ps : List P} {v : V} (h : RX K H0 H ρ (.p (.tup ps)) v) : ∃ a vs, v = .ref a ∧ SqT K H a vs ∧ RPs K H ps vs ∧ vs.length ≤ sizeLine := by
  have h : RI K H ρ (.p (.tup ps)) v := h
  cases h with
  | p h =>
    cases h with
    | tup h1 h2 h3 => exact ⟨_, _, rfl, h1, h2, h3⟩
theorem rx_tr {ds : List D} {v : V} (h : RX K H0 H ρ (.tr ds) v) : ∃ a vs, v = .ref a ∧ SqT K H a vs ∧ RIs K H ρ ds vs ∧ vs.length ≤ sizeLine := by
  have h : RI K H ρ (.tr ds) v := h
  cases h with
  | tr h1 h2 h3 => exact ⟨_, _, rfl, h1, h2, h3⟩
theorem rx_p {x : P} {v : V} (h : RX K H0 H ρ (.p x) v) : RP K H x v := by
  have h : RI K H ρ (.p x) v := h
  cases h with
  | p h => exact h
theorem RPs.app : ∀ {ps qs : List P} {vs us : List V}, RPs K H ps vs → RPs K H qs us → RPs K H (ps ++ qs) (vs ++ us)
  | _, _, _, _, .nil, h => h
  | _, _, _, _, .cons h hs, h' => .cons h (RPs.app hs h')
theorem seqOf_ok {d : D} {v : V} {k : List D → Bool} (R : Rep K H ρ m) (r : RX K H0 H ρ d v) (h : seqOf d m k = true) : ∃ ds a vs, v = .ref a ∧ (SqT K H a vs ∨ SqL K H a vs) ∧ RIs K H ρ ds vs ∧ vs.length ≤ sizeLine ∧ k ds = true := by
  have viaL : listOf d m k = true → ∃ ds a vs, v = .ref a ∧ (SqT K H a vs ∨ SqL K H a vs) ∧ RIs K H ρ ds vs ∧ vs.length ≤ sizeLine ∧ k ds = true := fun h => by
    obtain ⟨ds, a, vs, e, ha, hs, z, q⟩ := listOf_ok R r h
    exact ⟨ds, a, vs, e, .inr ha, hs, z, q⟩
  cases d with
  | p x =>
    cases x with
    | tup ps =>
      obtain ⟨a, vs, rfl, h1, h2, z⟩ := rx_tup r
      exact ⟨wraps ps, a, vs, rfl, .inl h1, wraps_ri h2, z, h⟩
    | non => exact viaL h
    | bl _ => exact viaL h
    | int _ => exact viaL h
    | str _ => exact viaL h
  | tr ds =>
    obtain ⟨a, vs, rfl, h1, h2, z⟩ := rx_tr r
    exact ⟨ds, a, vs, rfl, .inl h1, h2, z, h⟩
  | un => exact viaL h
  | ref n => exact viaL h
  | tmp ds => exact viaL h
end
section
variable {T : Tab} {X : Cx} {W : WX}
theorem ob_addI {H : Hp} {ρ : List Addr} {m : Mem} {k : KD} {Q : VK} {d1 d2 : D} (h : fAdd d1 d2 m k = true) : (∃ i j, d1 = .p (.int i) ∧ d2 = .p (.int j) ∧ k (.p (.int (i + j))) m = true) ∨ (∃ xs ys, d1 = .p (.tup xs) ∧ d2 = .p (.tup ys) ∧ xs.length + ys.length ≤ sizeLine ∧ k (.p (.tup (xs ++ ys))) m = true) ∨
    (listU d1 m fun xs => listU d2 m fun ys => match Nat.ble (xs.length + ys.length) sizeL with | true => k (.tmp (xs ++ ys)) m | false => false) = true := by
  unfold fAdd at h
  split at h
  · rename_i i j
    rw [fI_eq] at h
    exact .inl ⟨i, j, rfl, rfl, h⟩
  · rename_i xs ys
    split at h
    · rename_i z
      exact .inr (.inl ⟨xs, ys, rfl, rfl, by rw [sizeLine_eq]; exact Nat.le_of_ble_eq_true z, h⟩)
    · cases h
  · exact .inr (.inr h)
theorem ob_add : OpR X (binaryOp .Add) (rOp X.K fAdd) := by
  intro pins s σ H x y v u Q I rx ry h
  obtain ⟨H0, ρ, d1, d2, m, k, R, r1, r2, e, hk⟩ := h
  rcases ob_addI (H := H) (ρ := ρ) (Q := Q) e with ⟨i, j, rfl, rfl, e'⟩ | ⟨xs, ys, rfl, rfl, z, e'⟩ | e
  · obtain rfl := rx_int r1
    obtain rfl := rx_int r2
    exact op_add pins s σ H _ _ v u Q I rx ry ⟨i, j, rfl, rfl, fin_p hk R (.int _) e'⟩
  · obtain ⟨a, vs, rfl, h1, h2, z1⟩ := rx_tup r1
    obtain ⟨b, us, rfl, g1, g2, z2⟩ := rx_tup r2
    have l1 := h2.length
    have l2 := g2.length
    refine op_catA pins s σ H _ _ v u Q I rx ry ⟨a, b, vs, us, rfl, rfl, h1, g1, by omega, fun q => ?_, fun _ q => ?_, fun _ _ p hp => ?_⟩
    · subst q
      cases h2
      exact fin_p hk R (.tup g1 g2 z2) e'
    · subst q
      cases g2
      rw [List.append_nil] at e'
      exact fin_p hk R (.tup h1 h2 z1) e'
    · exact fin_tup hk R hp (h2.app g2) (by rw [List.length_append]; omega) e'
  · obtain ⟨xs, a, vs, rfl, ha, hs, z, e⟩ := listU_ok R r1 e
    obtain ⟨ys, b, us, rfl, hb, gs, z', e⟩ := listU_ok R r2 e
    split at e
    · rename_i zz
      have zz : xs.length + ys.length ≤ 16777216 := Nat.le_of_ble_eq_true zz
      have l1 := hs.length
      have l2 := gs.length
      have hz : vs.length + us.length ≤ sizeLine := by
        rw [sizeLine_eq]
        omega
      exact op_cat pins s σ H _ _ v u Q I rx ry ⟨a, b, vs, us, rfl, rfl, ha, hb, hz, fun p hp => fin_lst hk R hp (hs.append gs) (by rw [List.length_append]; exact hz) e⟩
    · cases e
theorem ob_sub : OpR X (binaryOp .Sub) (rOp X.K fSub) := by
  intro pins s σ H x y v u Q I rx ry h
  obtain ⟨H0, ρ, d1, d2, m, k, R, r1, r2, e, hk⟩ := h
  unfold fSub at e
  split at e
  · rename_i i j
    rw [fI_eq] at e
    obtain rfl := rx_int r1
    obtain rfl := rx_int r2
    exact op_sub pins s σ H _ _ v u Q I rx ry ⟨i, j, rfl, rfl, fin_p hk R (.int _) e⟩
  · cases e
theorem ob_neg : UnR X (unaryOp .USub) (rUn X.K fNeg) := by
  intro pins s σ H x v Q I rx h
  obtain ⟨H0, ρ, d1, m, k, R, r1, e, hk⟩ := h
  unfold fNeg at e
  split at e
  · rename_i i
    rw [fI_eq] at e
    obtain rfl := rx_int r1
    exact un_neg pins s σ H _ v Q I rx ⟨i, rfl, fin_p hk R (.int _) e⟩
  · cases e
theorem wide_ok {i : Int} (h : wide i = true) : -(2 ^ 64) < i ∧ i < 2 ^ 64 := by
  unfold wide at h
  rw [Nat.blt_eq] at h
  omega
theorem repN_eq {α : Type} (l : List α) : ∀ n, repN l n = (List.replicate n l).flatten
  | 0 => rfl
  | n + 1 => by
    rw [List.replicate_succ, List.flatten_cons, ← repN_eq l n]
    rfl
theorem RIs.rep {K : PySem.W.Frag} {H : Hp} {ρ : List Addr} {ds : List D} {vs : List V} (h : RIs K H ρ ds vs) : ∀ n, RIs K H ρ (repN ds n) (List.replicate n vs).flatten
  | 0 => .nil
  | n + 1 => by
    rw [List.replicate_succ, List.flatten_cons]
    exact h.append (RIs.rep h n)
theorem RPs.rep {K : PySem.W.Frag} {H : Hp} {ds : List P} {vs : List V} (h : RPs K H ds vs) : ∀ n, RPs K H (repN ds n) (List.replicate n vs).flatten
  | 0 => .nil
  | n + 1 => by
    rw [List.replicate_succ, List.flatten_cons]
    exact h.app (RPs.rep h n)
theorem length_flat {α : Type} (l : List α) : ∀ n, (List.replicate n l).flatten.length = l.length * n
  | 0 => rfl
  | n + 1 => by
    rw [List.replicate_succ, List.flatten_cons, List.length_append, length_flat l n, Nat.mul_succ]
    omega
theorem ob_div : OpR X (binaryOp .FloorDiv) (rOp X.K fDiv) := by
  intro pins s σ H x y v u Q I rx ry h
  obtain ⟨H0, ρ, d1, d2, m, k, R, r1, r2, e, hk⟩ := h
  unfold fDiv at e
  split at e
  · rename_i i j
    split at e
    · rename_i z
      rw [Bool.and_eq_true, Nat.blt_eq] at z
      have z1 := Nat.le_of_ble_eq_true z.1
      have z2 := z.2
      rw [fI_eq] at e
      obtain rfl := rx_int r1
      obtain rfl := rx_int r2
      refine op_fdiv pins s σ H _ _ v u Q I rx ry ⟨i, Int.ofNat j, rfl, rfl, ⟨?_, ?_⟩, fin_p hk R (.int _) e⟩
      · have : (0 : Int) < (j : Int) := by omega
        exact this
      · have : (j : Int) < 1073741824 := by omega
        exact this
    · cases e
  · cases e
theorem ob_mod : OpR X (binaryOp .Mod) (rOp X.K fMod) := by
  intro pins s σ H x y v u Q I rx ry h
  obtain ⟨H0, ρ, d1, d2, m, k, R, r1, r2, e, hk⟩ := h
  unfold fMod at e
  split at e
  · rename_i i j
    split at e
    · rename_i z
      have z1 := Nat.le_of_ble_eq_true z
      rw [fI_eq] at e
      obtain rfl := rx_int r1
      obtain rfl := rx_int r2
      refine op_mod pins s σ H _ _ v u Q I rx ry ⟨i, Int.ofNat j, rfl, rfl, ?_, fin_p hk R (.int _) e⟩
      have : (0 : Int) < (j : Int) := by omega
      exact this
    · cases e
  · cases e
/-! ### comparisons -/
theorem ob_cmpI {op : CmpOp} {f : D → D → Mem → KD → Bool} {g : Int → Int → Bool} (ho : OpR X (compareOp op) (rI0 fun i j => .bl (g i j))) (hf : ∀ d1 d2 m k, f d1 d2 m k = true → ∃ i j, d1 = .p (.int i) ∧ d2 = .p (.int j) ∧ k (.p (.bl (g i j))) m = true) : OpR X (compareOp op) (rOp X.K f) := by
  intro pins s σ H x y v u Q I rx ry h
  obtain ⟨H0, ρ, d1, d2, m, k, R, r1, r2, e, hk⟩ := h
  obtain ⟨i, j, rfl, rfl, e'⟩ := hf _ _ _ _ e
  obtain rfl := rx_int r1
  obtain rfl := rx_int r2
  exact ho pins s σ H _ _ v u Q I rx ry ⟨i, j, rfl, rfl, fin_p hk R (.bl _) e'⟩
theorem fLt_ok : ∀ d1 d2 m k, fLt d1 d2 m k = true → ∃ i j, d1 = .p (.int i) ∧ d2 = .p (.int j) ∧ k (.p (.bl (decide (i < j)))) m = true := fun d1 d2 m k h => by
  unfold fLt at h
  split at h
  · rw [ilt_iff] at h
    exact ⟨_, _, rfl, rfl, h⟩
  · cases h
theorem fLe_ok : ∀ d1 d2 m k, fLe d1 d2 m k = true → ∃ i j, d1 = .p (.int i) ∧ d2 = .p (.int j) ∧ k (.p (.bl (decide (i ≤ j)))) m = true := fun d1 d2 m k h => by
  unfold fLe at h
  split at h
  · rename_i i j
    have e : (!ilt j i) = decide (i ≤ j) := by
      rw [ilt_iff, Bool.eq_iff_iff]
      simp
    rw [e] at h
    exact ⟨_, _, rfl, rfl, h⟩
  · cases h
theorem ob_lt : OpR X (compareOp .Lt) (rOp X.K fLt) := ob_cmpI op_lt fLt_ok
theorem ob_le : OpR X (compareOp .LtE) (rOp X.K fLe) := ob_cmpI op_le fLe_ok
theorem ob_gt : OpR X (compareOp .Gt) (rOp X.K fGt) := ob_cmpI (g := fun i j => decide (j < i)) op_gt fun d1 d2 m k h => by
  obtain ⟨i, j, e1, e2, e⟩ := fLt_ok d2 d1 m k h
  exact ⟨j, i, e2, e1, e⟩
theorem ob_ge : OpR X (compareOp .GtE) (rOp X.K fGe) := ob_cmpI (g := fun i j => decide (j ≤ i)) op_ge fun d1 d2 m k h => by
  obtain ⟨i, j, e1, e2, e⟩ := fLe_ok d2 d1 m k h
  exact ⟨j, i, e2, e1, e⟩
/-- what == answers -/
theorem eqD_ok {pins : List (Addr × Obj)} {s : Shared} {σ : L2.St} {H H0 : Hp} {ρ : List Addr} {d1 d2 : D} {m : Mem} {k : Bool → Bool} {x y : V} {v u : Value} (hu : X.A.units + 200 < cLine) (I : Inv X pins σ H s) (rx : RelV x v) (ry : RelV y u) (R : Rep X.K H ρ m) (r1 : RX X.K H0 H ρ d1 x) (r2 : RX X.K H0 H ρ d2 y) (e : eqD d1 d2 m k = true) :
    ∃ t as bs da db, Reads s.heap v da as ∧ Reads s.heap u db bs ∧ da.canLay0 = true ∧ db.canLay0 = true ∧ X.A.units + min da.depth db.depth < cLine ∧ PyData.eqv da db = t ∧ k t = true := by
  have dp : ∀ {a b : Bool}, (a || b) = true → a = true ∨ b = true := fun h => by
    rw [Bool.or_eq_true] at h
    exact h
  unfold eqD at e
  split at e
  · rename_i p q
    split at e
    · rename_i z
      have h1 := rx_p r1
      have h2 := rx_p r2
      obtain ⟨as, q1⟩ := Dp.reads I _ x v h1.dp rx
      obtain ⟨bs, q2⟩ := Dp.reads I _ y u h2.dp ry
      refine ⟨_, as, bs, _, _, q1, q2, h1.lay, h2.lay, ?_, (eqP_eqv h1 h2).symm, e⟩
      rcases dp z with z | z
      · have hh : (toPy q).depth ≤ 100 := depLe_depth _ _ z
        have : min (toPy p).depth (toPy q).depth ≤ 100 := Nat.le_trans (Nat.min_le_right _ _) hh
        omega
      · have hh : (toPy p).depth ≤ 100 := depLe_depth _ _ z
        have : min (toPy p).depth (toPy q).depth ≤ 100 := Nat.le_trans (Nat.min_le_left _ _) hh
        omega
    · cases e
  · obtain ⟨xs, a, vs, rfl, ha, hs, z1, e⟩ := listOf_ok R r1 e
    obtain ⟨ys, b, us, rfl, hb, gs, z2, e⟩ := listOf_ok R r2 e
    split at e
    · rename_i ps qs e1 e2
      split at e
      · rename_i z
        have h1 := pures_ri e1 hs
        have h2 := pures_ri e2 gs
        obtain ⟨as, q1⟩ := Dp.reads I _ _ v (.lst ha h1.dp) rx
        obtain ⟨bs, q2⟩ := Dp.reads I _ _ u (.lst hb h2.dp) ry
        refine ⟨_, as, bs, _, _, q1, q2, h1.lay, h2.lay, ?_, ?_, e⟩
        · show X.A.units + min (PyData.depthAll (toPys ps) + 1) (PyData.depthAll (toPys qs) + 1) < cLine
          rcases dp z with z | z
          · have : PyData.depthAll (toPys qs) ≤ 100 := depLes_depth _ _ z
            omega
          · have : PyData.depthAll (toPys ps) ≤ 100 := depLes_depth _ _ z
            omega
        · rw [eqPs_eqv h1 h2]
          simp only [PyData.eqv]
      · cases e
    · cases e
theorem ob_eq (hu : X.A.units + 200 < cLine) : OpR X (compareOp .Eq) (rOp X.K fEq) := by
  intro pins s σ H x y v u Q I rx ry h
  obtain ⟨H0, ρ, d1, d2, m, k, R, r1, r2, e, hk⟩ := h
  obtain ⟨t, as, bs, da, db, q1, q2, l1, l2, hd, et, e⟩ := eqD_ok hu I rx ry R r1 r2 e
  exact SeqAt.compareEq_reads q1 q2 l1 l2 hd (by
    rw [et]
    exact ⟨.bl t, H, I, rfl, fin_p hk R (.bl _) e⟩)
theorem ob_ne (hu : X.A.units + 200 < cLine) : OpR X (compareOp .NotEq) (rOp X.K fNe) := by
  intro pins s σ H x y v u Q I rx ry h
  obtain ⟨H0, ρ, d1, d2, m, k, R, r1, r2, e, hk⟩ := h
  obtain ⟨t, as, bs, da, db, q1, q2, l1, l2, hd, et, e⟩ := eqD_ok hu I rx ry R r1 r2 e
  exact SeqAt.compareNe_reads q1 q2 l1 l2 hd (by
    rw [et]
    exact ⟨.bl (!t), H, I, rfl, fin_p hk R (.bl _) e⟩)
end
end PB
end
section
set_option Elab.async false
set_option linter.all false
set_option maxRecDepth 100000
/-! PBSnd3: more operators, arguments, displays, items and parts. -/
namespace PB
open PySem PySem.Spec PyProof.Rows L2
variable [PB.TBL]
section
variable {K : PySem.W.Frag} {H H0 : Hp} {ρ : List Addr} {m : Mem}
theorem kOk_key {x : P} {v : V} (h : kOk x = true) (r : RP K H x v) : ∃ k, RK x k ∧ v = kV k := by
  cases r with
  | int i => exact ⟨.inl i, .int i, rfl⟩
  | str q => exact ⟨.inr _, .str q, rfl⟩
  | non => cases h
  | bl b => cases h
  | tup _ _ _ => cases h
theorem eqP_key {x y : P} {j k : Key} (hx : RK x j) (hy : RK y k) : eqP x y = decide (j = k) := by
  cases hx with
  | int a =>
    cases hy with
    | int b =>
      simp only [eqP]
      rw [ieq_iff, Bool.eq_iff_iff]
      simp
    | str q => simp [eqP]
  | str p =>
    cases hy with
    | int b => simp [eqP]
    | str q =>
      simp only [eqP]
      rw [Bool.eq_iff_iff]
      simp only [decide_eq_true_eq]
      constructor
      · intro e
        rw [Nat.eq_of_beq_eq_true e]
      · intro e
        rw [decS_inj p q (Sum.inr.inj e)]
        exact Nat.beq_refl _
theorem getK_ok {x : P} {j : Key} (hx : RK x j) {k : D → Bool} : ∀ {kv : List (P × D)} {kvs : List (Key × V)}, RKs K H ρ kv kvs → getK x k kv = true → ∃ d v, valV kvs j = some v ∧ RI K H ρ d v ∧ k d = true
  | _, _, .nil, h => nomatch (show false = true from h)
  | _, _, @RKs.cons _ _ _ y d kv i v kvs hy hd hs, h => by
    unfold getK at h
    rw [eqP_key hy hx] at h
    by_cases e : i = j
    · rw [decide_eq_true e] at h
      exact ⟨d, v, valV_pos e, hd, h⟩
    · rw [decide_eq_false e] at h
      obtain ⟨d', v', h1, h2, h3⟩ := getK_ok hx hs h
      exact ⟨d', v', by rw [valV_neg e]; exact h1, h2, h3⟩
theorem hasK_ok {x : P} {j : Key} (hx : RK x j) : ∀ {kv : List (P × D)} {kvs : List (Key × V)}, RKs K H ρ kv kvs → hasK x kv = (valV kvs j).isSome
  | _, _, .nil => rfl
  | _, _, @RKs.cons _ _ _ y d kv i v kvs hy hd hs => by
    unfold hasK
    rw [eqP_key hy hx]
    by_cases e : i = j
    · rw [decide_eq_true e, valV_pos e]
      rfl
    · rw [decide_eq_false e, valV_neg e]
      exact hasK_ok hx hs
theorem inPs_any {x : P} {v : V} (hx : RP K H x v) : ∀ {ps : List P} {vs : List V}, RPs K H ps vs → inPs x ps = (toPys ps).any fun z => PyData.eqv z (toPy x)
  | _, _, .nil => rfl
  | _, _, .cons h hs => by
    unfold inPs
    rw [eqP_eqv h hx, toPys, List.any_cons, inPs_any hx hs]
    cases PyData.eqv _ _ <;> rfl
/-- the thing at a number -/
theorem ref_ok {i : Nat} {v : V} (R : Rep K H ρ m) (r : RX K H0 H ρ (.ref i) v) : ∃ a, v = .ref a ∧ ρ[i]? = some a ∧ Nat.blt i m.n = true ∧ RO K H ρ (m.get i) a := by
  have r : RI K H ρ (.ref i) v := r
  cases r with
  | @ref _ a hi => exact ⟨a, rfl, hi, by
      rw [Nat.blt_eq]
      exact R.lt hi, R.obj i a hi⟩
end
section
variable {T : Tab} {X : Cx} {W : WX}
theorem ob_mul : OpR X (binaryOp .Mult) (rOp X.K fMul) := by
  intro pins s σ H x y v u Q I rx ry h
  obtain ⟨H0, ρ, d1, d2, m, k, R, r1, r2, e, hk⟩ := h
  unfold fMul at e
  split at e
  · rename_i i j
    split at e
    · rename_i z
      rw [fI_eq] at e
      obtain rfl := rx_int r1
      obtain rfl := rx_int r2
      exact op_mulW pins s σ H _ _ v u Q I rx ry ⟨i, j, rfl, rfl, by rw [Bool.and_eq_true, Nat.blt_eq, Nat.blt_eq] at z; exact wide_mul z.1 z.2 (by decide) (by decide) (by decide), fin_p hk R (.int _) e⟩
    · cases e
  · rename_i d j hne
    obtain ⟨xs, a, vs, rfl, ha, hs, z, e⟩ := listU_ok R r1 e
    split at e
    · rename_i zz
      rw [Bool.and_eq_true] at zz
      have z1 : xs.length * j ≤ sizeL := Nat.le_of_ble_eq_true zz.1
      have z2 := Nat.le_of_ble_eq_true zz.2
      have l1 := hs.length
      obtain rfl := rx_int r2
      have hz : vs.length * j ≤ sizeLine := by
        rw [sizeLine_eq, ← l1]
        exact z1
      refine op_rep pins s σ H _ _ v u Q I rx ry ⟨a, Int.ofNat j, vs, rfl, rfl, ha, ?_, ?_, hz, fun p hp => fin_lst hk R hp (hs.rep j) (by
        rw [length_flat]
        exact hz) e⟩
      · have : (0 : Int) ≤ (j : Int) := Int.natCast_nonneg j
        show -(2 ^ 63) ≤ (j : Int)
        omega
      · show (j : Int) < 2 ^ 63
        omega
    · cases e
  · cases e
theorem rx_non {K : PySem.W.Frag} {H0 H : Hp} {ρ : List Addr} {x : P} {v : V} (h : RX K H0 H ρ (.p x) v) : decide (v = .non) = isNonP x := by
  have h := rx_p h
  cases h <;> rfl
theorem rx_ref {K : PySem.W.Frag} {H0 H : Hp} {ρ : List Addr} {d : D} {v : V} (h : RX K H0 H ρ d v) (hd : ∀ x, d ≠ .p x) (hu : d ≠ .un) : ∃ a, v = .ref a := by
  cases d with
  | p x => exact absurd rfl (hd x)
  | un => exact absurd rfl hu
  | ref n =>
    have h : RI K H ρ (.ref n) v := h
    cases h
    exact ⟨_, rfl⟩
  | tmp ds =>
    obtain ⟨a, vs, e, _⟩ := h
    exact ⟨a, e⟩
  | tr ds =>
    have h : RI K H ρ (.tr ds) v := h
    cases h
    exact ⟨_, rfl⟩
theorem ob_isN : OpR X (compareOp .Is) (rOp X.K fIsN) := by
  intro pins s σ H x y v u Q I rx ry h
  obtain ⟨H0, ρ, d1, d2, m, k, R, r1, r2, e, hk⟩ := h
  unfold fIsN at e
  split at e
  · have h2 := rx_p r2
    cases h2
    refine op_isN pins s σ H _ _ v u Q I rx ry ⟨rfl, ?_⟩
    split at e
    · rw [rx_non r1]
      exact fin_p hk R (.bl _) e
    · cases e
    · rename_i n1 n2
      obtain ⟨a, rfl⟩ := rx_ref r1 (fun x z => n1 x z) n2
      exact fin_p hk R (.bl false) e
  · split at e
    · have h1 := rx_p r1
      have h2 := rx_p r2
      cases h1
      cases h2
      rename_i t u' _
      refine op_isBl pins s σ H _ _ v u Q I rx ry ⟨_, _, rfl, rfl, ?_⟩
      refine fin_p hk R (.bl _) ?_
      rw [← e]
      congr 3
    · cases e
  · cases e
theorem ob_notN : OpR X (compareOp .IsNot) (rOp X.K fNotN) := by
  intro pins s σ H x y v u Q I rx ry h
  obtain ⟨H0, ρ, d1, d2, m, k, R, r1, r2, e, hk⟩ := h
  unfold fNotN at e
  split at e
  · have h2 := rx_p r2
    cases h2
    refine op_notN pins s σ H _ _ v u Q I rx ry ⟨rfl, ?_⟩
    split at e
    · rw [rx_non r1]
      exact fin_p hk R (.bl _) e
    · cases e
    · rename_i n1 n2
      obtain ⟨a, rfl⟩ := rx_ref r1 (fun x z => n1 x z) n2
      exact fin_p hk R (.bl true) e
  · split at e
    · have h1 := rx_p r1
      have h2 := rx_p r2
      cases h1
      cases h2
      refine op_notBl pins s σ H _ _ v u Q I rx ry ⟨_, _, rfl, rfl, ?_⟩
      refine fin_p hk R (.bl _) ?_
      rw [← e]
      congr 3
    · cases e
  · cases e
theorem inD_ok {pins : List (Addr × Obj)} {s : Shared} {σ : L2.St} {H H0 : Hp} {ρ : List Addr} {d1 d2 : D} {m : Mem} {k : Bool → Bool} {x y : V} {v u : Value} (hu : X.A.units + 200 < cLine) (I : Inv X pins σ H s) (rx : RelV x v) (ry : RelV y u) (R : Rep X.K H ρ m) (r1 : RX X.K H0 H ρ d1 x) (r2 : RX X.K H0 H ρ d2 y) (e : inD d1 d2 m k = true) :
    ∃ t, k t = true ∧ ((∃ a o, y = .ref a ∧ DGet H a x o ∧ o.isSome = t) ∨ ∃ as bs d ds, Reads s.heap v d as ∧ (Reads s.heap u (.list ds) bs ∨ Reads s.heap u (.tuple ds) bs) ∧ d.canLay0 = true ∧ PyData.canLayAll0 ds = true ∧ X.A.units + 1 + min (PyData.depthAll ds) d.depth < cLine ∧ (ds.any fun z => PyData.eqv z d) = t) := by
  cases d1 with
  | p p =>
    have hp := rx_p r1
    obtain ⟨as, q1⟩ := Dp.reads I _ x v hp.dp rx
    dsimp only [inD] at e
    cases z : depLe deep p with
    | false =>
      rw [z] at e
      cases e
    | true =>
      rw [z] at e
      have hd : (toPy p).depth ≤ 100 := depLe_depth _ _ z
      have room : ∀ n, X.A.units + 1 + min n (toPy p).depth < cLine := fun n => by
        have := Nat.min_le_right n (toPy p).depth
        omega
      have viaL : ∀ d2, RX X.K H0 H ρ d2 y → (listOf d2 m fun ds => match pures ds with | some ys => k (inPs p ys) | none => false) = true → ∃ t, k t = true ∧ ((∃ a o, y = .ref a ∧ DGet H a x o ∧ o.isSome = t) ∨ ∃ as bs d ds, Reads s.heap v d as ∧ (Reads s.heap u (.list ds) bs ∨ Reads s.heap u (.tuple ds) bs) ∧ d.canLay0 = true ∧ PyData.canLayAll0 ds = true ∧ X.A.units + 1 + min (PyData.depthAll ds) d.depth < cLine ∧ (ds.any fun z => PyData.eqv z d) = t) := fun d2 r2 e => by
        obtain ⟨ds, a, vs, rfl, ha, hs, z2, e⟩ := listOf_ok R r2 e
        cases q : pures ds with
        | none =>
          rw [q] at e
          cases e
        | some ys =>
          rw [q] at e
          have hq := pures_ri q hs
          obtain ⟨bs, q2⟩ := Dp.reads I _ _ u (.lst ha hq.dp) ry
          exact ⟨_, e, .inr ⟨as, bs, _, _, q1, .inl q2, hp.lay, hq.lay, room _, (inPs_any hp hq).symm⟩⟩
      dsimp only at e
      cases d2 with
      | p b =>
        cases b with
        | tup ys =>
          obtain ⟨a, vs, rfl, h1, h2, z2⟩ := rx_tup r2
          obtain ⟨bs, q2⟩ := Dp.reads I _ _ u (.tup h1 h2.dp) ry
          exact ⟨_, e, .inr ⟨as, bs, _, _, q1, .inr q2, hp.lay, h2.lay, room _, (inPs_any hp h2).symm⟩⟩
        | non => exact viaL _ r2 e
        | bl _ => exact viaL _ r2 e
        | int _ => exact viaL _ r2 e
        | str _ => exact viaL _ r2 e
      | ref i =>
        obtain ⟨a, rfl, hi, hb, ro⟩ := ref_ok R r2
        dsimp only [inX] at e
        rw [hb] at e
        cases q : m.get i with
        | dct lk kvs =>
          rw [q] at e ro
          cases ro with
          | dct h1 h2 h3 =>
            dsimp only at e
            cases zk : kOk p with
            | false =>
              rw [zk] at e
              cases e
            | true =>
              rw [zk] at e
              obtain ⟨j, hj, rfl⟩ := kOk_key zk hp
              rw [hasK_ok hj h2] at e
              exact ⟨_, e, .inl ⟨a, _, rfl, DGet.k h1, rfl⟩⟩
          | dctL _ _ _ => exact viaL _ r2 e
        | lst lk n fw rv =>
          rw [q] at e
          exact viaL _ r2 e
        | ins c fs =>
          rw [q] at e
          exact viaL _ r2 e
        | src j =>
          rw [q] at e
          exact viaL _ r2 e
        | cel =>
          rw [q] at e
          exact viaL _ r2 e
        | tab j =>
          rw [q] at e
          exact viaL _ r2 e
      | un => exact viaL _ r2 e
      | tmp ds => exact viaL _ r2 e
      | tr ds => exact viaL _ r2 e
  | un => nomatch (show false = true from e)
  | ref n => nomatch (show false = true from e)
  | tmp ds => nomatch (show false = true from e)
  | tr ds => nomatch (show false = true from e)
theorem ob_in (hu : X.A.units + 200 < cLine) : OpR X (compareOp .In) (rOp X.K fIn) := by
  intro pins s σ H x y v u Q I rx ry h
  obtain ⟨H0, ρ, d1, d2, m, k, R, r1, r2, e, hk⟩ := h
  obtain ⟨t, e, ⟨a, o, rfl, g, et⟩ | ⟨as, bs, d, ds, q1, q2, l1, l2, hd, et⟩⟩ := inD_ok hu I rx ry R r1 r2 e
  · cases ry
    exact d_in (by omega) I g rx fun s3 I3 => ⟨.bl o.isSome, H, I3, rfl, by
      rw [et]
      exact fin_p hk R (.bl _) e⟩
  · rcases q2 with q2 | q2
    · exact SeqAt.in_list_reads q2 q1 l2 l1 hd (by
        rw [et]
        exact ⟨.bl t, H, I, rfl, fin_p hk R (.bl _) e⟩)
    · exact SeqAt.in_tuple_reads q2 q1 l2 l1 hd (by
        rw [et]
        exact ⟨.bl t, H, I, rfl, fin_p hk R (.bl _) e⟩)
theorem ob_notIn (hu : X.A.units + 200 < cLine) : OpR X (compareOp .NotIn) (rOp X.K fNotIn) := by
  intro pins s σ H x y v u Q I rx ry h
  obtain ⟨H0, ρ, d1, d2, m, k, R, r1, r2, e, hk⟩ := h
  obtain ⟨t, e, ⟨a, o, rfl, g, et⟩ | ⟨as, bs, d, ds, q1, q2, l1, l2, hd, et⟩⟩ := inD_ok hu I rx ry R r1 r2 e
  · cases ry
    exact d_notIn (by omega) I g rx fun s3 I3 => ⟨.bl (!o.isSome), H, I3, rfl, by
      rw [et]
      exact fin_p hk R (.bl _) e⟩
  · rcases q2 with q2 | q2
    · exact SeqAt.notIn_list_reads q2 q1 l2 l1 hd (by
        rw [et]
        exact ⟨.bl (!t), H, I, rfl, fin_p hk R (.bl _) e⟩)
    · exact SeqAt.notIn_tuple_reads q2 q1 l2 l1 hd (by
        rw [et]
        exact ⟨.bl (!t), H, I, rfl, fin_p hk R (.bl _) e⟩)

/-! ### arguments -/
variable {a b : Expr} {ea eb : Ex} {es : List Expr} {al : Ax} {pos : Pos}
theorem sa_nil : PA X [] (rdA T X.K W aNil) := pa_imp pa_nil fun st H Q h => by
  obtain ⟨ρ, σ, m, x, k, R, S, e, hk, hx⟩ := h
  exact hk ρ [] m [] H Fr.refl R .nil e
theorem sa_cons (ha : PE X a (rdE T X.K W ea)) (hr : PA X es (rdA T X.K W al)) (hs : starEach (a :: es) X.env = (false, eval a X.env) :: starEach es X.env := by rfl) : PA X (a :: es) (rdA T X.K W (aCons ea al)) := pa_imp (pa_cons ha hr hs) fun st H Q h => by
  obtain ⟨ρ, σ, m, x, k, R, S, e, hk, hx⟩ := h
  refine ⟨ρ, σ, m, x, _, R, S, e, fun ρ1 d1 m1 v1 H1 f1 R1 r1 q1 => ?_, hx⟩
  obtain ⟨ρ2, d2, m2, f2, _, R2, r2, pr, q2⟩ := lay_ok f1 R1 r1 q1
  refine ⟨ρ2, σ, m2, x, _, R2, S.fr R f2, q2, fun ρ3 ds m3 vs H3 f3 R3 r3 q3 => ?_, hx.fr f2⟩
  exact hk ρ3 (d2 :: ds) m3 (v1 :: vs) H3 (f2.trans f3) R3 (.cons (r2.fr R2 f3) r3) q3
theorem sa_star {p : Pos} (ha : PE X a (rdE T X.K W ea)) (hr : PA X es (rdA T X.K W al)) (hs : starEach (.Starred a p :: es) X.env = (true, eval a X.env) :: starEach es X.env := by rfl) : PA X (.Starred a p :: es) (rdA T X.K W (aStar ea al)) := pa_imp (StX.pa_star ha hr hs) fun st H Q h => by
  obtain ⟨ρ, σ, m, x, k, R, S, e, hk, hx⟩ := h
  refine ⟨ρ, σ, m, x, _, R, S, e, fun ρ1 d1 m1 v1 H1 f1 R1 r1 q1 => ?_, hx⟩
  obtain ⟨ρ2, d2, m2, f2, _, R2, r2, pr, q2⟩ := lay_ok f1 R1 r1 q1
  obtain ⟨ds, p, vs, rfl, hsq, hs, z, q2⟩ := seqOf_ok (H0 := H1) R2 (RX.of r2) q2
  refine ⟨p, vs, rfl, hsq, ρ2, σ, m2, x, _, R2, S.fr R f2, q2, fun ρ3 es m3 us H3 f3 R3 r3 q3 => ?_, hx.fr f2⟩
  exact hk ρ3 (ds ++ es) m3 (vs ++ us) H3 (f2.trans f3) R3 ((hs.fr R2 f3).append r3) q3

/-! ### displays -/
theorem se_tup {x1} (h : PA X es (rdA T X.K W al)) : PE X (.Tuple es x1 pos) (rdE T X.K W (eTup al)) := pe_imp (pe_tup h) fun st H Q h => by
  obtain ⟨ρ, σ, m, x, k, R, S, e, hk, hx⟩ := h
  refine ⟨ρ, σ, m, x, _, R, S, e, fun ρ1 ds m1 vs H1 f1 R1 r1 q1 => ?_, hx⟩
  refine ⟨(mkTup_ok q1 r1).1, fun p hp => fin_mk (hk.fr f1 R1) R1 hp r1 q1⟩
theorem se_lst (h : PA X es (rdA T X.K W al)) : PE X (.List es pos) (rdE T X.K W (eLst al)) := pe_imp (pe_lst h) fun st H Q h => by
  obtain ⟨ρ, σ, m, x, k, R, S, e, hk, hx⟩ := h
  refine ⟨ρ, σ, m, x, _, R, S, e, fun ρ1 ds m1 vs H1 f1 R1 r1 q1 => ?_, hx⟩
  dsimp only at q1
  split at q1
  · rename_i z
    have z : ds.length ≤ 16777216 := Nat.le_of_ble_eq_true z
    have hz : vs.length ≤ sizeLine := by
      rw [sizeLine_eq, ← r1.length]
      exact z
    exact ⟨hz, fun p hp => fin_lst (hk.fr f1 R1) R1 hp r1 hz q1⟩
  · cases q1

/-! ### items -/
theorem ixI_ok {α : Type} {l : List α} {i : Int} {k : α → Bool} (h : ixI l i k = true) : ∃ j a, ixN l.length i = some j ∧ l[j]? = some a ∧ k a = true := by
  unfold ixI at h
  split at h
  · rename_i n
    obtain ⟨a, e, q⟩ := ixK_eq l n k h
    have hn := (List.getElem?_eq_some_iff.mp e).1
    refine ⟨n, a, ?_, e, q⟩
    unfold ixN
    have h1 : (0 : Int) ≤ Int.ofNat n := Int.natCast_nonneg n
    have h2 : Int.ofNat n < (l.length : Int) := by
      have : (n : Int) < (l.length : Int) := by omega
      exact this
    rw [if_pos h1, if_pos h2]
    rfl
  · rename_i n
    split at h
    · rename_i z
      rw [Nat.blt_eq] at z
      obtain ⟨a, e, q⟩ := ixK_eq l _ k h
      refine ⟨_, a, ?_, e, q⟩
      unfold ixN
      have h1 : ¬ (0 : Int) ≤ Int.negSucc n := by
        have := Int.negSucc_lt_zero n
        omega
      have e1 : Int.negSucc n = -((n : Int) + 1) := by omega
      have h2 : -(l.length : Int) ≤ Int.negSucc n := by omega
      rw [if_neg h1, if_pos h2]
      congr 1
      omega
    · cases h
theorem atI_of {l : List V} {i : Int} {j : Nat} {v : V} (h : ixN l.length i = some j) (e : l[j]? = some v) : atI l i = some v := by
  unfold atI
  rw [h]
  exact e
theorem RPs.at : ∀ {K : PySem.W.Frag} {H : Hp} {ds : List P} {vs : List V}, RPs K H ds vs → ∀ {i : Nat} {d : P}, ds[i]? = some d → ∃ v, vs[i]? = some v ∧ RP K H d v
  | _, _, _, _, .nil, i, d, h => by simp at h
  | _, _, _, _, .cons h hs, 0, d, e => by
    obtain rfl := Option.some.inj (show some _ = some d from e)
    exact ⟨_, rfl, h⟩
  | _, _, _, _, .cons h hs, i + 1, d, e => hs.at (i := i) (by simpa using e)
end
end PB
end
section
set_option Elab.async false
set_option linter.all false
set_option maxRecDepth 100000
/-! PBSnd4: items, parts, built-in functions, methods. -/
namespace PB
open PySem PySem.Spec PyProof.Rows L2
variable [PB.TBL]
section
variable {T : Tab} {X : Cx} {W : WX} {a b : Expr} {ea eb : Ex} {es : List Expr} {al : Ax} {pos : Pos}
theorem RPs.len {K : PySem.W.Frag} {H : Hp} {ps : List P} {vs : List V} (h : RPs K H ps vs) : ps.length = vs.length := h.length
/-! ### a[b] -/
theorem ix_dict (hu : X.A.units + 1 < cLine) : IxR X (fun x y H Q => ∃ a v, x = .ref a ∧ DGet H a y (some v) ∧ Q v H) := by
  intro value slice pins s σ H x y v u Q I rx ry h hs
  obtain ⟨a, w, rfl, g, q⟩ := h
  cases rx
  have hT := dict_typeIs I g
  unfold subscriptTail
  refine wpAny_bind ?_
  rw [getitemInPython_of_ne hT.not_modules]
  refine wpAny_bind (wpAny_specialOf hT PySem.F.slot_dict_getitem.lookup ?_)
  have fin : wpAny (model X.prog X.w) X.A (subscripted slice false (.ref a) u) (fun r s₃ => wpAny (model X.prog X.w) X.A (letTemporaryGo value (.ref a) r >>= fun _ => pure r) (EP X pins σ Q) X.xe s₃) X.xe s := by
    rw [hs]
    exact wpAny_operating (wpAny_mono (d_getItem hu I g ry fun w' s3 I3 rw' => (⟨w, H, I3, rw', q⟩ : EP X pins σ Q w' s3)) (fun r s₃ h₃ => wpAny_bind (wpAny_letTemporaryGo (wpAny_pure h₃))) fun _ _ x => x)
  first
    | exact wpAny_pure (wpAny_bind fin)
    | exact wpAny_bind (wpAny_pure (wpAny_bind fin))
    | exact wpAny_bind fin
theorem ixK_of {α : Type} : ∀ {l : List α} {i : Nat} {a : α} {k : α → Bool}, l[i]? = some a → k a = true → ixK l i k = true
  | [], _, _, _, h, _ => by simp at h
  | a :: l, 0, b, k, h, e => by
    obtain rfl := Option.some.inj (show some a = some b from h)
    exact e
  | a :: l, i + 1, b, k, h, e => ixK_of (l := l) (i := i) (by simpa using h) e
theorem ix_any (hu : X.A.units + 200 < cLine) : IxR X (rOp X.K fIx) := by
  intro value slice pins s σ H x y v u Q I rx ry h hs
  obtain ⟨H0, ρ, d1, d2, m, k, R, r1, r2, e, hk⟩ := h
  have onL : ∀ {ds : List D} {p : Addr} {vs : List V}, x = .ref p → SqL X.K H p vs → RIs X.K H ρ ds vs → (∃ i, d2 = .p (.int i) ∧ ixI ds i (fun d => k d m) = true) → wpAny (model X.prog X.w) X.A (subscriptTail value slice v u) (EP X pins σ Q) X.xe s := fun {ds p vs} ex hp hr ⟨i, e2, hq⟩ => by
    subst ex e2
    obtain rfl := rx_int r2
    obtain ⟨j, d, h1, h2, h3⟩ := ixI_ok hq
    obtain ⟨w, g1, g2⟩ := hr.at h2
    rw [hr.length] at h1
    exact ix_list value slice pins s σ H _ _ v u Q I rx ry ⟨p, vs, i, w, rfl, rfl, hp, atI_of h1 g1, fin_d hk R g2 h3⟩ hs
  have e0 := e
  unfold fIx at e
  split at e
  · rename_i xs i
    obtain ⟨p, vs, rfl, h1, h2, z⟩ := rx_tup r1
    obtain rfl := rx_int r2
    obtain ⟨j, d, g1, g2, g3⟩ := ixI_ok e
    obtain ⟨w, q1, q2⟩ := h2.at g2
    rw [h2.length] at g1
    exact ix_tup value slice pins s σ H _ _ v u Q I rx ry ⟨p, vs, i, w, rfl, rfl, h1, atI_of g1 q1, fin_p hk R q2 g3⟩ hs
  · rename_i ds i
    obtain ⟨p, vs, rfl, h1, h2, z⟩ := rx_tr r1
    obtain rfl := rx_int r2
    obtain ⟨j, d, g1, g2, g3⟩ := ixI_ok e
    obtain ⟨w, q1, q2⟩ := h2.at g2
    rw [h2.length] at g1
    exact ix_tup value slice pins s σ H _ _ v u Q I rx ry ⟨p, vs, i, w, rfl, rfl, h1, atI_of g1 q1, fin_d hk R q2 g3⟩ hs
  · rename_i _ r
    obtain ⟨a, rfl, hi, hb, ro⟩ := ref_ok R r1
    rw [hb] at e
    cases q : m.get r with
    | lst lk n fw rv =>
      rw [q] at e ro
      have both : ∀ {vs' : List V}, SqL X.K H a vs' → RIs X.K H ρ (fw ++ rv.reverse) vs' → wpAny (model X.prog X.w) X.A (subscriptTail value slice v u) (EP X pins σ Q) X.xe s := fun {vs'} h1 h2 => by
        dsimp only at e
        split at e
        · rename_i i
          split at e
          · exact onL rfl h1 (by simpa using h2) ⟨i, rfl, e⟩
          · rename_i d0 rv
            refine onL rfl h1 h2 ⟨i, rfl, ?_⟩
            unfold ixR at e
            split at e
            · show ixI (fw ++ (d0 :: rv).reverse) (.negSucc 0) (fun d => k d m) = true
              unfold ixI
              have l : Nat.blt 0 (fw ++ (d0 :: rv).reverse).length = true := by
                rw [Nat.blt_eq]
                simp
                omega
              dsimp only
              rw [l]
              dsimp only
              have q1 : (fw ++ (d0 :: rv).reverse)[(fw ++ (d0 :: rv).reverse).length - 1 - 0]? = some d0 := by
                rw [List.reverse_cons, ← List.append_assoc]
                simp
              exact ixK_of q1 e
            · exact e
        · cases e
      cases ro with
      | lst h1 h2 h3 h4 => exact both (SqL.of h1) h2
      | lstL h1 h2 h3 h4 => exact both (.inl (.inr ⟨_, h1⟩)) h2
    | dct lk kvs =>
      rw [q] at e ro
      cases ro with
      | dct h1 h2 h3 =>
        dsimp only at e
        split at e
        · rename_i y'
          split at e
          · rename_i zk
            obtain ⟨j, hj, rfl⟩ := kOk_key zk (rx_p r2)
            obtain ⟨d, w, g1, g2, g3⟩ := getK_ok hj h2 e
            refine ix_dict (by omega) value slice pins s σ H _ _ v u Q I rx ry ⟨a, w, rfl, ?_, fin_d hk R g2 g3⟩ hs
            rw [← g1]
            exact DGet.k h1
          · cases e
        · cases e
      | dctL _ _ _ => cases e
    | ins c fs =>
      rw [q] at e
      cases e
    | src j =>
      rw [q] at e
      cases e
    | cel =>
      rw [q] at e
      cases e
    | tab j =>
      rw [q] at e
      cases e
  · rename_i ds i
    obtain ⟨a, vs, rfl, h0, ha, na, hs', z⟩ := r1
    exact onL rfl (SqL.of ha) hs' ⟨i, rfl, e⟩
  · cases e
theorem se_ix (g : Good X W) (ha : PE X a (rdE T X.K W ea)) (hb : PE X b (rdE T X.K W eb)) (hs : PlainIx b) : PE X (.Subscript a b pos) (rdE T X.K W (eBin fIx ea eb)) := pe_imp (pe_ix (ix_any g.hu) ha hb hs) (bin_of rfl rfl)

/-! ### a[lo:hi] -/
def rdP (T : Tab) (K : PySem.W.Frag) (W : WX) (e : Px) : TO := fun st H Q => ∃ ρ σ m x k, Rep K H ρ m ∧ Slots K H ρ σ st ∧ e σ m x k = true ∧ (∀ ρ' o m' H', Fr ρ H ρ' H' → Rep K H' ρ' m' → k o m' = true → Q o H') ∧ XOk T K ρ H x W
theorem po_imp {e : Option Expr} {t u : TO} (h : PO X e t) (i : ∀ st H Q, u st H Q → t st H Q) : PO X e u := ⟨fun pins s st H Q I q => h.run pins s st H Q I (i st H Q q)⟩
theorem so_none : PO X none (rdP T X.K W pNone) := po_imp po_none fun st H Q h => by
  obtain ⟨ρ, σ, m, x, k, R, S, e, hk, hx⟩ := h
  exact hk ρ none m H Fr.refl R e
theorem so_some (ha : PE X a (rdE T X.K W ea)) : PO X (some a) (rdP T X.K W (pSome ea)) := po_imp (po_some ha) fun st H Q h => by
  obtain ⟨ρ, σ, m, x, k, R, S, e, hk, hx⟩ := h
  refine ⟨ρ, σ, m, x, _, R, S, e, fun ρ1 d1 m1 v1 H1 f1 R1 r1 q1 => ?_, hx⟩
  dsimp only at q1
  split at q1
  · rename_i i
    exact ⟨i, rx_int r1, hk ρ1 (some i) m1 H1 f1 R1 q1⟩
  · cases q1
theorem clip_eq (n d : Nat) (o : Option Int) : clip n d o = HT.sIx n d o := by
  cases o with
  | none => rfl
  | some i =>
    cases i with
    | ofNat j => exact (HT.sIx_nat n d j).symm
    | negSucc j =>
      have h := HT.clip_eq (Int.negSucc j) n d
      rw [if_pos (Int.negSucc_lt_zero j)] at h
      show n - (j + 1) = _
      omega
theorem cutL_eq (vs : List V) (lo hi : Option Int) : cutL vs lo hi = cutV vs lo hi := by
  unfold cutL cutV
  rw [clip_eq, clip_eq]
theorem RPs.take {K : PySem.W.Frag} {H : Hp} : ∀ {ds : List P} {vs : List V}, RPs K H ds vs → ∀ n, RPs K H (ds.take n) (vs.take n)
  | _, _, _, 0 => .nil
  | _, _, .nil, n + 1 => .nil
  | _, _, .cons h hs, n + 1 => .cons h (hs.take n)
theorem RPs.drop {K : PySem.W.Frag} {H : Hp} : ∀ {ds : List P} {vs : List V}, RPs K H ds vs → ∀ n, RPs K H (ds.drop n) (vs.drop n)
  | _, _, h, 0 => h
  | _, _, .nil, n + 1 => .nil
  | _, _, .cons h hs, n + 1 => hs.drop n
theorem RIs.cutL {K : PySem.W.Frag} {H : Hp} {ρ : List Addr} {ds : List D} {vs : List V} (h : RIs K H ρ ds vs) (lo hi : Option Int) : RIs K H ρ (cutL ds lo hi) (cutV vs lo hi) := by
  rw [← cutL_eq]
  unfold PB.cutL
  rw [h.length]
  exact (h.drop _).take _
theorem RPs.cutL {K : PySem.W.Frag} {H : Hp} {ds : List P} {vs : List V} (h : RPs K H ds vs) (lo hi : Option Int) : RPs K H (cutL ds lo hi) (cutV vs lo hi) := by
  rw [← cutL_eq]
  unfold PB.cutL
  rw [h.length]
  exact (h.drop _).take _
theorem se_slice {lo hi : Option Expr} {el eh : Px} {p2 : Pos} (ha : PE X a (rdE T X.K W ea)) (hl : PO X lo (rdP T X.K W el)) (hh : PO X hi (rdP T X.K W eh)) : PE X (.Subscript a (.Slice lo hi none p2) pos) (rdE T X.K W (eSl ea el eh)) := by
  refine pe_imp (pe_slice (SlR.or sl_tupA sl_list) ha hl hh) fun st H Q h => ?_
  obtain ⟨ρ, σ, m, x, k, R, S, e, hk, hx⟩ := h
  refine ⟨ρ, σ, m, x, _, R, S, e, fun ρ1 d1 m1 v1 H1 f1 R1 r1 q1 => ?_, hx⟩
  refine ⟨ρ1, σ, m1, x, _, R1, S.fr R f1, q1, fun ρ2 l m2 H2 f2 R2 q2 => ?_, hx.fr f1⟩
  refine ⟨ρ2, σ, m2, x, _, R2, S.fr R (f1.trans f2), q2, fun ρ3 u m3 H3 f3 R3 q3 => ?_, hx.fr (f1.trans f2)⟩
  have r3 := r1.fr R1 (f2.trans f3)
  have hk3 := hk.fr ((f1.trans f2).trans f3) R3
  have viaL : ∀ d1, RX X.K H H3 ρ3 d1 v1 → (listOf d1 m3 fun ds => k (.tmp (cutL ds l u)) m3) = true → rSlA X.K v1 l u H3 Q ∨ rSlL X.K v1 l u H3 Q := fun d1 r3 q3 => by
    obtain ⟨ds, a, vs, rfl, ha, hs, z, q3⟩ := listOf_ok R3 r3 q3
    exact .inr ⟨a, vs, rfl, ha, fun p hp => fin_lst hk3 R3 hp (hs.cutL l u) (Nat.le_trans (cutV_length _ _ _) z) q3⟩
  split at q3
  · rename_i xs
    obtain ⟨a, vs, rfl, h1, h2, z⟩ := rx_tup r3
    refine .inl ⟨a, vs, rfl, h1, fun hw => ?_, fun hw p hp => ?_⟩
    · have e : cutL xs l u = xs := by
        unfold cutL
        rw [clip_eq, clip_eq, h2.length, hw.1, hw.2, List.drop_zero, Nat.sub_zero, ← h2.length]
        exact List.take_length
      rw [e] at q3
      exact fin_p hk3 R3 (.tup h1 h2 z) q3
    · exact fin_tup hk3 R3 hp (h2.cutL l u) (Nat.le_trans (cutV_length _ _ _) z) q3
  · exact viaL _ r3 q3
theorem se_revL {k : Nat} {p1 p2 p3 : Pos} (ha : PE X a (rdE T X.K W ea)) : PE X (.Subscript a (.Slice none none (some (.UnaryOp .USub (.Constant (.int 1) k p1) p2)) p3) pos) (rdE T X.K W (eUn fRev ea)) := by
  refine pe_imp (pe_revL ha) fun st H Q h => ?_
  obtain ⟨ρ, σ, m, x, k, R, S, e, hk, hx⟩ := h
  refine ⟨ρ, σ, m, x, _, R, S, e, fun ρ1 d1 m1 v1 H1 f1 R1 r1 q1 => ?_, hx⟩
  obtain ⟨ds, a, vs, rfl, ha, hs, z, q⟩ := listOf_ok R1 r1 q1
  exact ⟨a, vs, rfl, ha, fun p hp => fin_lst (hk.fr f1 R1) R1 hp hs.reverse (by rw [List.length_reverse]; exact z) q⟩

/-! ### calls of built-in functions -/
def rCB (K : PySem.W.Frag) (f : List D → Mem → KD → Bool) : List V → Hp → VK → Prop := fun vs H Q => ∃ ρ ds m k, Rep K H ρ m ∧ RIs K H ρ ds vs ∧ f ds m k = true ∧ KOk K ρ H k Q
theorem cb_of {f : List D → Mem → KD → Bool} {ta : TA} (ha : ta = rdA T X.K W al) : ∀ st H Q, rdE T X.K W (eCB f al) st H Q → tCB (rCB X.K f) ta st H Q := fun st H Q h => by
  subst ha
  obtain ⟨ρ, σ, m, x, k, R, S, e, hk, hx⟩ := h
  refine ⟨ρ, σ, m, x, _, R, S, e, fun ρ1 d1 m1 v1 H1 f1 R1 r1 q1 => ?_, hx⟩
  exact ⟨ρ1, d1, m1, k, R1, r1, q1, hk.fr f1 R1⟩
theorem o1_ok {f : D → Mem → KD → Bool} {r : List V → Hp → VK → Prop} (h : ∀ K H ρ d m k v Q, K = X.K → Rep K H ρ m → RI K H ρ d v → f d m k = true → KOk K ρ H k Q → r [v] H Q) : ∀ vs H Q, rCB X.K (o1 f) vs H Q → r vs H Q := fun vs H Q ⟨ρ, ds, m, k, R, hs, e, hk⟩ => by
  unfold o1 at e
  split at e
  · cases hs with
    | cons hd hn =>
      cases hn
      exact h _ H ρ _ m k _ Q rfl R hd e hk
  · cases e
theorem o2_ok {f : D → D → Mem → KD → Bool} {r : List V → Hp → VK → Prop} (h : ∀ K H ρ d d2 m k v v2 Q, K = X.K → Rep K H ρ m → RI K H ρ d v → RI K H ρ d2 v2 → f d d2 m k = true → KOk K ρ H k Q → r [v, v2] H Q) : ∀ vs H Q, rCB X.K (o2 f) vs H Q → r vs H Q := fun vs H Q ⟨ρ, ds, m, k, R, hs, e, hk⟩ => by
  unfold o2 at e
  split at e
  · cases hs with
    | cons hd hn =>
      cases hn with
      | cons hd2 hn =>
        cases hn
        exact h _ H ρ _ _ m k _ _ Q rfl R hd hd2 e hk
  · cases e
theorem callR_imp {f : Value} {r r' : List V → Hp → VK → Prop} (h : CallR X f r) (i : ∀ vs H Q, r' vs H Q → r vs H Q) : CallR X f r' := fun pins s σ H xs us Q I rs q => h pins s σ H xs us Q I rs (i xs H Q q)
theorem ri_p {K : PySem.W.Frag} {H : Hp} {ρ : List Addr} {x : P} {v : V} (h : RI K H ρ (.p x) v) : RP K H x v := by
  cases h with
  | p h => exact h
theorem cr_abs : CallR X (.builtin "abs") (rCB X.K (o1 fAbs)) := callR_imp call_abs (o1_ok fun K H ρ d m k v Q _ R hd e hk => by
  unfold fAbs at e
  split at e
  · rename_i i
    have h := ri_p hd
    cases h
    refine ⟨i, rfl, fin_p hk R ?_ e⟩
    have e2 : (if i < 0 then -i else i) = ((i.natAbs : Nat) : Int) := by
      split <;> omega
    rw [e2]
    exact .int _
  · cases e)
theorem cr_int : CallR X (.type "int") (rCB X.K (o1 fInt)) := callR_imp call_int1 (o1_ok fun K H ρ d m k v Q _ R hd e hk => by
  unfold fInt at e
  split at e
  · have h := ri_p hd
    cases h
    exact .inl ⟨_, rfl, fin_p hk R (.int _) e⟩
  · rename_i b
    have h := ri_p hd
    cases h
    refine .inr ⟨b, rfl, fin_p hk R ?_ e⟩
    cases b <;> exact .int _
  · cases e)
theorem cr_max2 (hc : X.calm = true) : CallR X (.builtin "max") (rCB X.K (o2 fMax2)) := callR_imp (call_max2 hc) (o2_ok fun K H ρ d d2 m k v v2 Q _ R hd hd2 e hk => by
  unfold fMax2 at e
  split at e
  · rename_i i j
    have h := ri_p hd
    have h2 := ri_p hd2
    cases h
    cases h2
    refine ⟨i, j, rfl, ?_⟩
    rw [ilt_iff] at e
    by_cases z : i < j
    · rw [decide_eq_true z] at e
      rw [if_pos (show j > i from z)]
      exact fin_p hk R (.int _) e
    · rw [decide_eq_false z] at e
      rw [if_neg (show ¬ j > i from z)]
      exact fin_p hk R (.int _) e
  · cases e)
theorem intsD_rel {K : PySem.W.Frag} {H : Hp} {ρ : List Addr} : ∀ {ds : List D} {vs : List V} {is : List Int}, RIs K H ρ ds vs → intsD ds = some is → vs = is.map V.int
  | [], _, is, h, e => by
    cases h
    obtain rfl := Option.some.inj (show some [] = some is from e)
    rfl
  | .p (.int i) :: r, _, is, h, e => by
    unfold intsD at e
    cases h with
    | cons h hs =>
      cases q : intsD r with
      | none =>
        rw [q] at e
        cases e
      | some xs =>
        rw [q] at e
        obtain rfl := Option.some.inj (show some (i :: xs) = some is from e)
        have h := ri_p h
        cases h
        rw [intsD_rel hs q]
        rfl
  | .p .non :: r, _, _, _, e => nomatch (show (none : Option (List Int)) = some _ from e)
  | .p (.bl _) :: r, _, _, _, e => nomatch (show (none : Option (List Int)) = some _ from e)
  | .p (.str _) :: r, _, _, _, e => nomatch (show (none : Option (List Int)) = some _ from e)
  | .p (.tup _) :: r, _, _, _, e => nomatch (show (none : Option (List Int)) = some _ from e)
  | .un :: r, _, _, _, e => nomatch (show (none : Option (List Int)) = some _ from e)
  | .ref _ :: r, _, _, _, e => nomatch (show (none : Option (List Int)) = some _ from e)
  | .tmp _ :: r, _, _, _, e => nomatch (show (none : Option (List Int)) = some _ from e)
  | .tr _ :: r, _, _, _, e => nomatch (show (none : Option (List Int)) = some _ from e)
theorem boolsD_rel {K : PySem.W.Frag} {H : Hp} {ρ : List Addr} : ∀ {ds : List D} {vs : List V} {is : List Bool}, RIs K H ρ ds vs → boolsD ds = some is → vs = is.map V.bl
  | [], _, is, h, e => by
    cases h
    obtain rfl := Option.some.inj (show some [] = some is from e)
    rfl
  | .p (.bl i) :: r, _, is, h, e => by
    unfold boolsD at e
    cases h with
    | cons h hs =>
      cases q : boolsD r with
      | none =>
        rw [q] at e
        cases e
      | some xs =>
        rw [q] at e
        obtain rfl := Option.some.inj (show some (i :: xs) = some is from e)
        have h := ri_p h
        cases h
        rw [boolsD_rel hs q]
        rfl
  | .p .non :: r, _, _, _, e => nomatch (show (none : Option (List Bool)) = some _ from e)
  | .p (.int _) :: r, _, _, _, e => nomatch (show (none : Option (List Bool)) = some _ from e)
  | .p (.str _) :: r, _, _, _, e => nomatch (show (none : Option (List Bool)) = some _ from e)
  | .p (.tup _) :: r, _, _, _, e => nomatch (show (none : Option (List Bool)) = some _ from e)
  | .un :: r, _, _, _, e => nomatch (show (none : Option (List Bool)) = some _ from e)
  | .ref _ :: r, _, _, _, e => nomatch (show (none : Option (List Bool)) = some _ from e)
  | .tmp _ :: r, _, _, _, e => nomatch (show (none : Option (List Bool)) = some _ from e)
  | .tr _ :: r, _, _, _, e => nomatch (show (none : Option (List Bool)) = some _ from e)
theorem foldl_sum : ∀ (xs : List Int) (a : Int), xs.foldl Int.add a = a + xs.sum
  | [], a => by simp
  | x :: xs, a => by
    rw [List.foldl_cons, foldl_sum xs, List.sum_cons]
    show a + x + xs.sum = _
    omega
theorem ri_rx {K : PySem.W.Frag} {H : Hp} {ρ : List Addr} {d : D} {v : V} (h : RI K H ρ d v) : RX K H H ρ d v := RX.of h
theorem cb_sum (hc : X.calm = true) : CallR X (.builtin "sum") (rCB X.K (o1 fSum)) := callR_imp (cr_sum hc) (o1_ok fun K H ρ d m k v Q eK R hd e hk => by
  obtain ⟨ds, a, vs, rfl, ha, hs, z, e⟩ := listOf_ok R (ri_rx hd) e
  cases q : intsD ds with
  | none =>
    rw [q] at e
    cases e
  | some is =>
    rw [q] at e
    dsimp only at e
    rw [fI_eq, foldl_sum, Int.zero_add] at e
    refine ⟨a, is, rfl, ?_, fin_p hk R (.int _) e⟩
    rw [← intsD_rel hs q]
    subst eK
    exact ha)
theorem cb_all (hc : X.calm = true) : CallR X (.builtin "all") (rCB X.K (o1 fAll)) := callR_imp (cr_all hc) (o1_ok fun K H ρ d m k v Q eK R hd e hk => by
  obtain ⟨ds, a, vs, rfl, ha, hs, z, e⟩ := listOf_ok R (ri_rx hd) e
  cases q : boolsD ds with
  | none =>
    rw [q] at e
    cases e
  | some is =>
    rw [q] at e
    refine ⟨a, is, rfl, ?_, fin_p hk R (.bl _) e⟩
    rw [← boolsD_rel hs q]
    subst eK
    exact ha)
theorem cb_any (hc : X.calm = true) : CallR X (.builtin "any") (rCB X.K (o1 fAny)) := callR_imp (cr_any hc) (o1_ok fun K H ρ d m k v Q eK R hd e hk => by
  obtain ⟨ds, a, vs, rfl, ha, hs, z, e⟩ := listOf_ok R (ri_rx hd) e
  cases q : boolsD ds with
  | none =>
    rw [q] at e
    cases e
  | some is =>
    rw [q] at e
    refine ⟨a, is, rfl, ?_, fin_p hk R (.bl _) e⟩
    rw [← boolsD_rel hs q]
    subst eK
    exact ha)
theorem cb_tuple : CallR X (.type "tuple") (rCB X.K (o1 fTuple)) := callR_imp call_tuple_of (o1_ok fun K H ρ d m k v Q eK R hd e hk => by
  subst eK
  unfold fTuple at e
  split at e
  · obtain ⟨a, vs, rfl, h1, h2, z⟩ := rx_tup (ri_rx hd)
    exact ⟨a, vs, rfl, .inr ⟨h1, fin_p hk R (.tup h1 h2 z) e⟩⟩
  · obtain ⟨a, vs, rfl, h1, h2, z⟩ := rx_tr (ri_rx hd)
    exact ⟨a, vs, rfl, .inr ⟨h1, fin_d hk R (.tr h1 h2 z) e⟩⟩
  · obtain ⟨ds, a, vs, rfl, ha, hs, z, e⟩ := listOf_ok R (ri_rx hd) e
    exact ⟨a, vs, rfl, .inl ⟨ha, fun p hp => fin_mk hk R hp hs e⟩⟩)
end
end PB
end
section
set_option Elab.async false
set_option linter.all false
set_option maxRecDepth 100000
/-! PBSnd5: methods, dicts. -/
namespace PB
open PySem PySem.Spec PyProof.Rows L2
variable [PB.TBL]
section
variable {K : PySem.W.Frag} {H H0 : Hp} {ρ : List Addr} {m : Mem}
theorem lay_ri {d : D} {v : V} {k : KD} (h : RI K H ρ d v) : lay d m k = k d m := by
  cases h <;> rfl
theorem topKd {fw rv : List D} {r k : Nat} (d : D) (h : max (topDs fw) (topDs rv) ≤ max r k) : max (topDs fw) (topDs (d :: rv)) ≤ max r (max k (topD d)) := by
  show max (topDs fw) (max (topD d) (topDs rv)) ≤ _
  omega
theorem isLst_ty {d : D} {v : V} (R : Rep K H ρ m) (r : RX K H0 H ρ d v) (h : isLst d m = true) : tyV K "list" v H := by
  unfold isLst at h
  split at h
  · obtain ⟨a, vs, rfl, _, ha, _⟩ := r
    exact .inl ⟨rfl, vs, SqL.of ha⟩
  · rename_i i
    obtain ⟨a, rfl, hi, hb, ro⟩ := ref_ok R r
    split at h
    · rename_i _ lk n fw rv _ e
      rw [e] at ro
      cases ro with
      | lst h1 _ _ _ => exact .inl ⟨rfl, _, SqL.of h1⟩
      | lstL h1 _ _ _ => exact .inl ⟨rfl, _, .inl (.inr ⟨_, h1⟩)⟩
    · cases h
  · cases h
theorem isDct_ty {d : D} {v : V} (R : Rep K H ρ m) (r : RX K H0 H ρ d v) (h : isDct d m = true) : ∃ a kvs, v = .ref a ∧ H a = some (.dK kvs) := by
  unfold isDct at h
  split at h
  · rename_i i
    obtain ⟨a, rfl, hi, hb, ro⟩ := ref_ok R r
    split at h
    · rename_i _ lk kvs _ e
      rw [e] at ro
      cases ro with
      | dct h1 _ _ => exact ⟨a, _, rfl, h1⟩
    · cases h
  · cases h
end
section
variable {T : Tab} {X : Cx} {W : WX} {o e : Expr} {eo ea : Ex} {es : List Expr} {al : Ax}
/-! ### methods -/
def rMB (K : PySem.W.Frag) (f : D → List D → Mem → KD → Bool) : V → List V → Hp → VK → Prop := fun u vs H Q => ∃ H0 ρ d ds m k, Rep K H ρ m ∧ RX K H0 H ρ d u ∧ RIs K H ρ ds vs ∧ f d ds m k = true ∧ KOk K ρ H k Q
theorem se_mbL {f : D → List D → Mem → KD → Bool} {name : Str} {id : String} {apos cpos : Pos} (pa : PlainAttrs "list") (slot : Slot "list" name id) (hty : typeOf (.builtin id) = pure (.type "method_descriptor")) (hm : MtR X id (rMB X.K f)) (ho : PE X o (rdE T X.K W eo)) (ha : PA X (e :: es) (rdA T X.K W al))
    (hbase : attributeBase o name X.env (eval o X.env) = eval o X.env := by rfl)
    (hfew : ((backTo cpos (starEach (e :: es) X.env)).all (fun x => !x.1) && (backToKw cpos (keywordEach [] X.env)).all (fun x => x.1.isSome)
      && decide ((e :: es).length + ([] : List Keyword).length + (if ([] : List Keyword).isEmpty then 0 else 1) < 30)) = true := by rfl)
    (hline : (apos.endLine == cpos.line) = true := by rfl) (hs : starEach (e :: es) X.env = (false, eval e X.env) :: starEach es X.env := by rfl) (hplain : (backTo cpos (starEach es X.env)).any (·.1) = false := by rfl) :
    PE X (.Call (.Attribute o name apos) (e :: es) [] cpos) (rdE T X.K W (eMB isLst f eo al)) := by
  refine pe_imp (pe_bm pa slot hty hm ho ha hbase hfew hline hs hplain) fun st H Q h => ?_
  obtain ⟨ρ, σ, m, x, k, R, S, q, hk, hx⟩ := h
  refine ⟨ρ, σ, m, x, _, R, S, q, fun ρ1 d1 m1 v1 H1 f1 R1 r1 q1 => ?_, hx⟩
  dsimp only at q1
  split at q1
  · rename_i c
    refine ⟨isLst_ty R1 r1 c, ρ1, σ, m1, x, _, R1, S.fr R f1, q1, fun ρ2 ds m2 vs H2 f2 R2 r2 q2 => ?_, hx.fr f1⟩
    exact ⟨H, ρ2, d1, ds, m2, k, R2, r1.fr R1 f2, r2, q2, hk.fr (f1.trans f2) R2⟩
  · cases q1
theorem mb_app : MtR X "list.append" (rMB X.K (on1 fApp)) := by
  intro pins s σ H x xs v us Q I rx rs h
  obtain ⟨H0, ρ, d, ds, m, k, R, r1, hs, e, hk⟩ := h
  unfold on1 at e
  split at e
  · rename_i b
    cases hs with
    | @cons _ _ w0 _ hb hn =>
      cases hn
      unfold fApp at e
      split at e
      · rename_i i
        obtain ⟨a, rfl, hi, hlt, ro⟩ := ref_ok R r1
        split at e
        · rename_i _ n fw rv _ em
          have top := R.top i (R.lt hi)
          rw [em] at ro top
          cases ro with
          | @lst _ vs _ _ _ h1 h2 h3 h4 =>
            split at e
            · rename_i z
              rw [lay_ri hb] at e
              rw [Nat.blt_eq] at z
              have z2 : vs.length < sizeLine := by
                rw [sizeLine_eq, ← h3]
                exact z
              refine mt_append pins s σ H _ _ v us Q I rx rs ⟨a, vs, _, rfl, rfl, h1, z2, ?_⟩
              have t := R.tsU (x := .lst (vs ++ [w0])) hi
              refine hk ρ _ _ .non _ (Fr.write hi fun o u z => nomatch (h1.symm.trans z)) (R.setK hi (.lst upd_same ?_ ?_ ?_) (by rw [← R.len]; exact hb.top) (topKd b top)) (RX.of (.p .non)) e
              · rw [List.reverse_cons, ← List.append_assoc]
                exact (h2.append (.cons hb .nil)).mono t fun _ _ h => h
              · rw [List.length_append, h3]
                rfl
              · rw [List.length_append]
                exact z2
            · cases e
        · cases e
      · cases e
  · cases e
theorem mb_ext : MtR X "list.extend" (rMB X.K (on1 fExt)) := by
  intro pins s σ H x xs v us Q I rx rs h
  obtain ⟨H0, ρ, d, ds, m, k, R, r1, hs, e, hk⟩ := h
  unfold on1 at e
  split at e
  · rename_i b
    cases hs with
    | cons hb hn =>
      cases hn
      unfold fExt at e
      split at e
      · rename_i i
        obtain ⟨a, rfl, hi, hlt, ro⟩ := ref_ok R r1
        split at e
        · rename_i _ n fw rv _ em
          have top := R.top i (R.lt hi)
          rw [em] at ro top
          cases ro with
          | @lst _ vs _ _ _ h1 h2 h3 h4 =>
            obtain ⟨ds, p, ws, rfl, hp, hw, zw, e⟩ := listU_ok R (ri_rx hb) e
            split at e
            · rename_i z
              have z : n + ds.length ≤ 16777216 := Nat.le_of_ble_eq_true z
              have l := hw.length
              have z2 : vs.length + ws.length ≤ sizeLine := by
                rw [sizeLine_eq]
                omega
              refine mt_extend pins s σ H _ _ v us Q I rx rs ⟨a, p, vs, ws, rfl, rfl, h1, hp, z2, ?_⟩
              have t := R.tsU (x := .lst (vs ++ ws)) hi
              refine hk ρ _ _ .non _ (Fr.write hi fun o u z => nomatch (h1.symm.trans z)) (R.setK hi (.lst upd_same ?_ ?_ ?_) (by rw [← R.len]; exact hw.top) ?_) (RX.of (.p .non)) e
              · rw [List.reverse_append, List.reverse_reverse, ← List.append_assoc]
                exact (h2.append hw).mono t fun _ _ h => h
              · rw [List.length_append]
                omega
              · rw [List.length_append]
                exact z2
              · show max (topDs fw) (topDs (ds.reverse ++ rv)) ≤ max i (max m.k (topDs ds))
                rw [topDs_app, topDs_rev]
                have top : max (topDs fw) (topDs rv) ≤ max i m.k := top
                omega
            · cases e
        · cases e
      · cases e
  · cases e
theorem idxP_ok {K : PySem.W.Frag} {H : Hp} {x : P} {v : V} (hx : RP K H x v) {k : Nat → Bool} : ∀ {ps : List P} {vs : List V} {i : Nat}, RPs K H ps vs → idxP x i k ps = true → ∃ j z, (toPys ps)[j]? = some z ∧ PyData.eqv z (toPy x) = true ∧ (∀ n z', n < j → (toPys ps)[n]? = some z' → PyData.eqv z' (toPy x) = false) ∧ k (i + j) = true
  | _, _, _, .nil, h => nomatch (show false = true from h)
  | _, _, i, @RPs.cons _ _ p ps _ _ h hs, e => by
    unfold idxP at e
    rw [eqP_eqv h hx] at e
    cases q : PyData.eqv (toPy p) (toPy x) with
    | true =>
      rw [q] at e
      exact ⟨0, toPy p, rfl, q, fun n z' hn _ => absurd hn (Nat.not_lt_zero n), e⟩
    | false =>
      rw [q] at e
      obtain ⟨j, z, h1, h2, h3, h4⟩ := idxP_ok hx hs e
      refine ⟨j + 1, z, by rw [toPys, List.getElem?_cons_succ]; exact h1, h2, fun n z' hn hz => ?_, by rw [Nat.add_assoc, Nat.add_comm 1 j] at h4; exact h4⟩
      cases n with
      | zero =>
        rw [toPys, List.getElem?_cons_zero] at hz
        rw [← Option.some.inj hz]
        exact q
      | succ n =>
        rw [toPys, List.getElem?_cons_succ] at hz
        exact h3 n z' (Nat.lt_of_succ_lt_succ hn) hz
theorem mb_index (hu : X.A.units + 200 < cLine) : MtR X "list.index" (rMB X.K (on1 fIndex)) := by
  intro pins s σ H x xs v us Q I rx rxs h
  obtain ⟨H0, ρ, d, ds, m, k, R, r1, hs, e, hk⟩ := h
  unfold on1 at e
  split at e
  · rename_i b
    cases hs with
    | cons hb hn =>
      cases hn
      unfold fIndex at e
      split at e
      · rename_i p
        have hy := ri_p hb
        split at e
        · rename_i dl
          obtain ⟨es, a, vs, rfl, ha, hvs, z, e⟩ := listOf_ok R r1 e
          cases q : pures es with
          | none =>
            rw [q] at e
            cases e
          | some ys =>
            rw [q] at e
            have hps := pures_ri q hvs
            obtain ⟨j, zd, hz, hzj, hno, e⟩ := idxP_ok hy hps e
            cases rx
            cases rxs with
            | cons ry rt =>
              rename_i uy ut
              cases rt
              obtain ⟨bs, r1⟩ := Dp.reads I _ _ uy hy.dp ry
              have hxs : PyData.canLayAll0 (toPys ys) = true := hps.lay
              have hdep := depLe_depth deep p dl
              have hroom : X.A.units + 1 + min (PyData.depthAll (toPys ys)) (toPy p).depth < cLine := by
                have : min (PyData.depthAll (toPys ys)) (toPy p).depth ≤ 100 := Nat.le_trans (Nat.min_le_right _ _) hdep
                omega
              obtain ⟨its, rv, ⟨⟨cls, dd, data, sls⟩, n, ho, hc, hdn, hdt⟩, hlen⟩ := I.list (ha)
              simp only at hc hdt
              subst hc hdt
              obtain ⟨as, h4⟩ := Dp.readsAll I (toPys ys) _ its hps.dp rv
              have hn : its.length = (toPys ys).length := SeqAt.ReadsAll.length (toPys ys) its as h4
              have hmap : its.map (SeqAt.readOf s.heap) = toPys ys := SeqAt.readsAll_map (toPys ys) its as hxs h4
              have hvl := rv.length
              have hsl := sizeLine_eq
              obtain ⟨hjd, _⟩ := List.getElem?_eq_some_iff.mp hz
              have hjl : j < its.length := by omega
              have hj : j < its.toArray.size := by simpa using hjl
              have at_ : ∀ (m : Nat) (hm : m < its.toArray.size) (z' : PyData), (toPys ys)[m]? = some z' → SeqAt.readOf s.heap its.toArray[m] = z' := by
                intro m hm z' hz'
                have hml : m < its.length := by simpa using hm
                rw [← hmap, List.getElem?_map, List.getElem?_eq_getElem hml] at hz'
                have e1 : SeqAt.readOf s.heap its[m] = z' := Option.some.inj (show some (SeqAt.readOf s.heap its[m]) = some z' from hz')
                simpa using e1
              refine call_meets PySem.F.slot_list_index ⟨_, ho, rfl⟩ PySem.F.entry_list_index (PySem.F.args_list_index_2 _ _)
                (SeqAt.list_indexAt a its.toArray n dd sls uy (fun u => PyData.eqv (SeqAt.readOf s.heap u) (toPy p)) j hj (by omega) ?_ ?_) ⟨ho, SeqAt.items_eqAt (vs := its.toArray) (show ReadsAll s.heap its.toArray.toList (toPys ys) as from h4) r1 hxs hy.lay hroom, ?_⟩
              · show PyData.eqv (SeqAt.readOf s.heap its.toArray[j]) (toPy p) = true
                rw [at_ j hj zd hz]
                exact hzj
              · intro m hm hmj
                have hmd : m < (toPys ys).length := by omega
                have hz' : (toPys ys)[m]? = some (toPys ys)[m] := List.getElem?_eq_getElem hmd
                show PyData.eqv (SeqAt.readOf s.heap its.toArray[m]) (toPy p) = false
                rw [at_ m hm _ hz']
                exact hno m _ hmj hz'
              · rw [Nat.zero_add] at e
                exact ⟨.int (j : Nat), H, I.tok _, ⟨_, rfl⟩, fin_p hk R (.int _) e⟩
        · cases e
      · cases e
  · cases e

/-! ### dicts -/
theorem RKs.keys {K : PySem.W.Frag} {H : Hp} {ρ : List Addr} {x : P} {d : D} {k : Key} {v : V} (hx : RK x k) (hd : RI K H ρ d v) : ∀ {kv : List (P × D)} {kvs : List (Key × V)}, RKs K H ρ kv kvs → (kvs.map (·.1)).Nodup → RKs K H ρ (insP x d kv) (L2.putK kvs k v)
  | _, _, .nil, _ => by
    show RKs K H ρ [(x, d)] ([] ++ [(k, v)])
    exact .cons hx hd .nil
  | _, _, @RKs.cons _ _ _ y e kv j w kvs hy he hs, nd => by
    rw [List.map_cons, List.nodup_cons] at nd
    unfold insP
    rw [eqP_key hy hx]
    by_cases q : j = k
    · rw [decide_eq_true q]
      have same : kvs.map (fun p => if p.1 = k then (p.1, v) else p) = kvs := by
        refine (List.map_congr_left (g := id) fun p hp => ?_).trans (List.map_id kvs)
        rw [if_neg fun z => nd.1 (List.mem_map.mpr ⟨p, hp, z.trans q.symm⟩)]
        rfl
      have e2 : L2.putK ((j, w) :: kvs) k v = (j, v) :: kvs := by
        unfold L2.putK
        rw [List.any_cons, decide_eq_true q, Bool.true_or, if_pos rfl, List.map_cons, if_pos q, same]
      rw [e2]
      exact .cons hy hd hs
    · rw [decide_eq_false q]
      have e2 : L2.putK ((j, w) :: kvs) k v = (j, w) :: L2.putK kvs k v := by
        unfold L2.putK
        rw [List.any_cons, decide_eq_false q, Bool.false_or, List.map_cons, if_neg q]
        split <;> rfl
      rw [e2]
      exact .cons hy he (hs.keys hx hd nd.2)
theorem putK_nodup {kvs : List (Key × V)} {k : Key} {v : V} (h : (kvs.map (·.1)).Nodup) : ((L2.putK kvs k v).map (·.1)).Nodup := by
  cases e : valV kvs k with
  | none =>
    rw [putK_new v e, List.map_append, List.map_cons, List.map_nil]
    refine List.nodup_append.mpr ⟨h, by simp, fun a ha b hb => ?_⟩
    rw [List.mem_singleton] at hb
    subst hb
    intro z
    subst z
    exact valV_not e ha
  | some u =>
    have q : (kvs.any fun kv => decide (kv.1 = k)) = true := by
      rw [valV_any, e]
      rfl
    unfold L2.putK
    rw [if_pos q, List.map_map]
    have : ((fun p : Key × V => p.1) ∘ fun kv => if kv.1 = k then (kv.1, v) else kv) = fun p => p.1 := by
      funext p
      show (if p.1 = k then (p.1, v) else p).1 = p.1
      split <;> rfl
    rw [this]
    exact h
theorem RKs.merge {K : PySem.W.Frag} {H : Hp} {ρ : List Addr} {more : List (P × D)} {ms : List (Key × V)} (r : RKs K H ρ more ms) : ∀ {kv : List (P × D)} {kvs : List (Key × V)}, RKs K H ρ kv kvs → (kvs.map (·.1)).Nodup → RKs K H ρ (more.foldl (fun acc kv => insP kv.1 kv.2 acc) kv) (mergeK kvs ms) ∧ ((mergeK kvs ms).map (·.1)).Nodup := by
  induction r with
  | nil => exact fun h nd => ⟨h, nd⟩
  | cons hx hd _ ih => exact fun h nd => ih (h.keys hx hd nd) (putK_nodup nd)
theorem topP_ins {x : P} {d : D} : ∀ kv : List (P × D), topP (insP x d kv) ≤ max (topP kv) (topD d)
  | [] => by
    show max (topD d) 0 ≤ _
    omega
  | (y, e) :: r => by
    unfold insP
    have ih := topP_ins (x := x) (d := d) r
    split
    · show max (topD d) (topP r) ≤ max (max (topD e) (topP r)) (topD d)
      omega
    · show max (topD e) (topP (insP x d r)) ≤ max (max (topD e) (topP r)) (topD d)
      omega
/-- a dict is laid -/
theorem fin_dct {K : PySem.W.Frag} {H : Hp} {ρ : List Addr} {m : Mem} {k : KD} {Q : VK} {p : Addr} (hk : KOk K ρ H k Q) (R : Rep K H ρ m) (hp : H p = none) {kv : List (P × D)} {kvs : List (Key × V)} (h : RKs K H ρ kv kvs) (nd : (kvs.map (·.1)).Nodup) (z : kvs.length ≤ sizeLine) (e : k (.ref m.n) (m.new (.dct false kv)) = true) : Q (.ref p) (upd H p (.dK kvs)) :=
  hk (ρ ++ [p]) (.ref m.n) _ _ _ (Fr.new hp) ((R.same (same_new hp)).new (R.fresh hp) (.dct upd_same (h.mono (ts_new hp) fun i b e => by
    rw [List.getElem?_append_left (List.getElem?_eq_some_iff.mp e).1]
    exact e) ⟨nd, z⟩) (by
      show topP kv ≤ m.n
      rw [← R.len]
      exact h.top)) (RX.of (.ref (app_at p R))) e
end
end PB
end
section
set_option Elab.async false
set_option linter.all false
set_option maxRecDepth 100000
/-! PBSnd6: dicts, len, list. -/
namespace PB
open PySem PySem.Spec PyProof.Rows L2
variable [PB.TBL]
section
variable {T : Tab} {X : Cx} {W : WX} {a b o e f : Expr} {ea eb eo ef : Ex} {es : List Expr} {al : Ax} {pos : Pos}
theorem pairsP_ok {K : PySem.W.Frag} {H : Hp} {ρ : List Addr} : ∀ {ds : List D} {vs : List V} {kv : List (P × D)}, RIs K H ρ ds vs → pairsP ds = some kv → keysOk kv = true → ∃ ps kvs, vs = ps.map V.ref ∧ Paired (fun p (kv : Key × V) => SqT K H p [kV kv.1, kv.2]) ps kvs ∧ RKs K H ρ kv kvs
  | [], _, kv, h, e, _ => by
    cases h
    obtain rfl := Option.some.inj (show some [] = some kv from e)
    exact ⟨[], [], rfl, .nil, .nil⟩
  | d :: r, _, kv, h, e, ko => by
    unfold pairsP at e
    cases h with
    | cons hd hr =>
      split at e
      · rename_i heq
        cases heq
      · rename_i x y r' heq
        obtain ⟨rfl, rfl⟩ := List.cons.inj heq
        cases q : pairsP r with
        | none =>
          rw [q] at e
          cases e
        | some kv' =>
          rw [q] at e
          obtain rfl := Option.some.inj e
          unfold keysOk at ko
          split at ko
          · rename_i kx
            obtain ⟨ps, kvs, h1, h2, h3⟩ := pairsP_ok hr q ko
            have hd := ri_p hd
            cases hd with
            | @tup a ws _ g1 g2 g3 =>
              cases g2 with
              | cons gx g2 =>
                cases g2 with
                | cons gy g2 =>
                  cases g2
                  obtain ⟨key, hk, rfl⟩ := kOk_key kx gx
                  exact ⟨a :: ps, (key, _) :: kvs, by rw [h1]; rfl, .cons g1 h2, .cons hk (.p gy) h3⟩
          · cases ko
      · rename_i x d' r' heq
        obtain ⟨rfl, rfl⟩ := List.cons.inj heq
        cases q : pairsP r with
        | none =>
          rw [q] at e
          cases e
        | some kv' =>
          rw [q] at e
          obtain rfl := Option.some.inj e
          unfold keysOk at ko
          split at ko
          · rename_i kx
            obtain ⟨ps, kvs, h1, h2, h3⟩ := pairsP_ok hr q ko
            cases hd with
            | @tr a ws _ g1 g2 g3 =>
              cases g2 with
              | cons gx g2 =>
                cases g2 with
                | cons gy g2 =>
                  cases g2
                  obtain ⟨key, hk, rfl⟩ := kOk_key kx (ri_p gx)
                  exact ⟨a :: ps, (key, _) :: kvs, by rw [h1]; rfl, .cons g1 h2, .cons hk gy h3⟩
          · cases ko
      · cases e
theorem cb_dict (hc : X.calm = true) : CallR X (.type "dict") (rCB X.K (o1 fDict)) := callR_imp (call_dictP hc) (o1_ok fun K H ρ d m k v Q eK R hd e hk => by
  subst eK
  unfold fDict at e
  obtain ⟨ds, a, vs, rfl, ha, hs, z, e⟩ := listOf_ok R (ri_rx hd) e
  split at e
  · rename_i kv q
    split at e
    · rename_i ko
      obtain ⟨ps, kvs, h1, h2, h3⟩ := pairsP_ok hs q ko
      subst h1
      obtain ⟨g1, g2⟩ := h3.merge (kv := []) (kvs := []) .nil List.nodup_nil
      refine ⟨a, ps, kvs, rfl, ha, h2, fun p hp => fin_dct hk R hp g1 g2 ?_ e⟩
      have l1 := length_mergeK kvs []
      have l2 := Paired.length h2
      rw [List.length_map] at z
      rw [List.length_nil] at l1
      omega
    · cases e
  · cases e)
/-! ### {..} -/
def flatV : List (V × V) → List V
  | [] => []
  | p :: r => p.1 :: p.2 :: flatV r
def rdD (T : Tab) (K : PySem.W.Frag) (W : WX) (al : Ax) (trs : List (TE × TE)) : Prop := ∀ st H (Q : List (V × V) → Hp → Prop), (∃ ρ σ m x k, Rep K H ρ m ∧ Slots K H ρ σ st ∧ al σ m x k = true ∧ (∀ ρ' ds m' H' ps, Fr ρ H ρ' H' → Rep K H' ρ' m' → RIs K H' ρ' ds (flatV ps) → k ds m' = true → Q ps H') ∧ XOk T K ρ H x W) → tPairs trs st H Q
structure SPs (T : Tab) (X : Cx) (W : WX) (pos : Pos) (keys : List (Option Expr)) (values : List Expr) (al : Ax) : Prop where
  run : ∃ trs, PPs X pos keys values trs ∧ rdD T X.K W al trs
theorem sd_nil : SPs T X W pos [] [] aNil := ⟨[], pps_nil, fun st H Q ⟨ρ, σ, m, x, k, R, S, e, hk, hx⟩ => hk ρ [] m H [] Fr.refl R .nil e⟩
theorem sd_cons {k v : Expr} {ks : List (Option Expr)} {vs : List Expr} (hk : PE X k (rdE T X.K W ea)) (hv : PE X v (rdE T X.K W eb)) (hr : SPs T X W pos ks vs al) : SPs T X W pos (some k :: ks) (v :: vs) (aCons ea (aCons eb al)) := by
  obtain ⟨trs, h1, h2⟩ := hr
  refine ⟨(_, _) :: trs, pps_cons hk hv h1, fun st H Q ⟨ρ, σ, m, x, k, R, S, e, hk, hx⟩ => ?_⟩
  refine ⟨ρ, σ, m, x, _, R, S, e, fun ρ1 d1 m1 v1 H1 f1 R1 r1 q1 => ?_, hx⟩
  obtain ⟨ρ2, d2, m2, f2, f2', R2, r2, _, q2⟩ := lay_ok f1 R1 r1 q1
  refine ⟨ρ2, σ, m2, x, _, R2, S.fr R f2, q2, fun ρ3 d3 m3 v3 H3 f3 R3 r3 q3 => ?_, hx.fr f2⟩
  obtain ⟨ρ4, d4, m4, f4, f4', R4, r4, pr, q4⟩ := lay_ok f3 R3 r3 q3
  refine h2 st H3 _ ⟨ρ4, σ, m4, x, _, R4, S.fr R (f2.trans f4), q4, fun ρ5 ds m5 H5 ps f5 R5 r5 q5 => ?_, hx.fr (f2.trans f4)⟩
  exact hk ρ5 (d2 :: d4 :: ds) m5 H5 ((v1, v3) :: ps) ((f2.trans f4).trans f5) R5 (.cons ((r2.fr R2 f4).fr R4 f5) (.cons (r4.fr R4 f5) r5)) q5
theorem twos_ok {K : PySem.W.Frag} {H : Hp} {ρ : List Addr} : ∀ {ps : List (V × V)} {ds : List D} {kv : List (P × D)}, RIs K H ρ ds (flatV ps) → twos ds = some kv → keysOk kv = true → ∃ kvs : List (Key × V), ps = kvs.map (fun kv => (kV kv.1, kv.2)) ∧ RKs K H ρ kv kvs
  | [], ds, kv, h, e, _ => by
    cases h
    obtain rfl := Option.some.inj (show some [] = some kv from e)
    exact ⟨[], rfl, .nil⟩
  | p :: ps, ds, kv, h, e, ko => by
    obtain ⟨p1, p2⟩ := p
    have h0 : RIs K H ρ ds (p1 :: p2 :: flatV ps) := h
    clear h
    cases h0 with
    | @cons d1 _ _ _ h1 h0 =>
      cases h0 with
      | @cons d2 ds' _ _ h2 h3 =>
        cases d1 with
        | p x =>
          unfold twos at e
          cases q : twos ds' with
          | none =>
            rw [q] at e
            cases e
          | some kv' =>
            rw [q] at e
            obtain rfl := Option.some.inj e
            unfold keysOk at ko
            split at ko
            · rename_i kx
              obtain ⟨kvs, g1, g2⟩ := twos_ok h3 q ko
              obtain ⟨key, hk, rfl⟩ := kOk_key kx (ri_p h1)
              exact ⟨(key, p2) :: kvs, by rw [g1]; rfl, .cons hk h2 g2⟩
            · cases ko
        | un => simp [twos] at e
        | ref _ => simp [twos] at e
        | tmp _ => simp [twos] at e
        | tr _ => simp [twos] at e
theorem se_dict0 : PE X (.Dict [] [] pos) (rdE T X.K W (eDict aNil)) := by
  refine pe_imp pe_dnewK fun st H Q ⟨ρ, σ, m, x, k, R, S, e, hk, hx⟩ => ?_
  exact fun p hp => fin_dct hk R hp (kv := []) .nil List.nodup_nil (Nat.zero_le _) e
theorem se_dict {keys : List (Option Expr)} {values : List Expr} (h : SPs T X W pos keys values al) (hall : keys.all (·.isSome) = true := by rfl) (hl : keys.length = values.length := by rfl) (h0 : keys ≠ [] := by exact fun h => nomatch h) (h15 : keys.length ≤ 15 := by decide) : PE X (.Dict keys values pos) (rdE T X.K W (eDict al)) := by
  obtain ⟨trs, h1, h2⟩ := h
  refine pe_imp (pe_disp h1 hall hl h0 h15) fun st H Q ⟨ρ, σ, m, x, k, R, S, e, hk, hx⟩ => ?_
  intro p hp
  have f0 : Fr ρ H ρ (upd H p (.dK [])) := fr_new hp
  have R0 := R.same (same_new (o := .dK []) hp)
  refine h2 st _ _ ⟨ρ, σ, m, x, _, R0, S.fr R f0, e, fun ρ1 ds m1 H1 ps f1 R1 r1 q1 => ?_, hx.fr f0⟩
  obtain ⟨e1, n1⟩ := f1.st p (.dK []) upd_same (fun ps z => nomatch z) (R.fresh hp)
  split at q1
  · rename_i kv q
    split at q1
    · rename_i ko
      rw [Bool.and_eq_true] at ko
      obtain ⟨kvs, g1, g2⟩ := twos_ok r1 q ko.1
      have l : kvs.length ≤ 15 := by
        rw [← g2.length]
        exact Nat.le_of_ble_eq_true ko.2
      refine ⟨e1, kvs, g1, l, ?_⟩
      obtain ⟨w1, w2⟩ := g2.merge (kv := []) (kvs := []) .nil List.nodup_nil
      have l1 := length_mergeK kvs []
      rw [List.length_nil] at l1
      have hs := sizeLine_eq
      have t1 : TS H1 (upd H1 p (.dK (mergeK [] kvs))) := fun b => by
        by_cases ne : b = p
        · refine ⟨fun vs h => ?_, fun o u h => ?_, fun x h => ?_⟩
          · rw [ne, e1] at h
            cases h
          · rw [ne, e1] at h
            cases h
          · rw [ne, e1] at h
            cases h
        · refine ⟨fun vs h => ?_, fun o u h => ?_, fun x h => ?_⟩
          · rw [upd_ne ne]
            exact h
          · rw [upd_ne ne]
            exact h
          · rw [upd_ne ne]
            exact h
      have R2 : Rep X.K (upd H1 p (.dK (mergeK [] kvs))) ρ1 m1 := ⟨R1.len, R1.lo, R1.nd, R1.kn, fun i a ha => (R1.obj i a ha).upd (fun z => n1 (z ▸ List.mem_of_getElem? ha)) t1, R1.top⟩
      refine hk (ρ1 ++ [p]) (.ref m1.n) _ _ _ ⟨?_, fun b o hb nt nb => ?_, fun b o u hb => ?_⟩ (R2.new n1 (.dct upd_same (w1.mono t1 fun i b e => by
        rw [List.getElem?_append_left (List.getElem?_eq_some_iff.mp e).1]
        exact e) ⟨w2, by omega⟩) ?_) (RX.of (.ref (app_at p R2))) q1
      · obtain ⟨x, rfl⟩ := f1.pre
        exact ⟨x ++ [p], by simp⟩
      · have ne : b ≠ p := fun z => by
          subst z
          rw [hp] at hb
          cases hb
        obtain ⟨g1, g2⟩ := (f0.trans f1).st b o hb nt nb
        rw [upd_ne ne]
        refine ⟨g1, fun hm => ?_⟩
        rcases List.mem_append.mp hm with z | z
        · exact g2 z
        · exact ne (List.mem_singleton.mp z)
      · have ne : b ≠ p := fun z => by
          subst z
          rw [hp] at hb
          cases hb
        rw [upd_ne ne]
        exact (f0.trans f1).fz b o u hb
      · show topP (merP kv) ≤ m1.n
        rw [← R1.len]
        exact w1.top
    · cases q1
  · cases q1
/-! ### len, list -/
theorem cb_len : CallR X (.builtin "len") (rCB X.K (o1 fLen)) := callR_imp (call_len.or call_lenD) (o1_ok fun K H ρ d m k v Q eK R hd e hk => by
  subst eK
  unfold fLen at e
  split at e
  · obtain ⟨a, vs, rfl, h1, h2, z⟩ := rx_tup (ri_rx hd)
    refine .inl ⟨_, _, rfl, .inr ⟨vs, h1, rfl⟩, fin_p hk R (.int _) ?_⟩
    rw [← h2.length]
    exact e
  · obtain ⟨a, vs, rfl, h1, h2, z⟩ := rx_tr (ri_rx hd)
    refine .inl ⟨_, _, rfl, .inr ⟨vs, h1, rfl⟩, fin_p hk R (.int _) ?_⟩
    rw [← h2.length]
    exact e
  · cases hd
  · rename_i r
    obtain ⟨a, rfl, hi, hb, ro⟩ := ref_ok R (ri_rx hd)
    rw [hb] at e
    cases q : m.get r with
    | lst lk n fw rv =>
      rw [q] at e ro
      cases ro with
      | lst h1 h2 h3 h4 =>
        subst h3
        exact .inl ⟨_, _, rfl, .inl ⟨_, SqL.of h1, rfl⟩, fin_p hk R (.int _) e⟩
      | lstL h1 h2 h3 h4 =>
        subst h3
        exact .inl ⟨_, _, rfl, .inl ⟨_, .inl (.inr ⟨_, h1⟩), rfl⟩, fin_p hk R (.int _) e⟩
    | dct lk kv =>
      rw [q] at e ro
      cases ro with
      | dct h1 h2 h3 =>
        refine .inr ⟨a, _, rfl, h1, fin_p hk R (.int _) ?_⟩
        rw [← h2.length]
        exact e
      | dctL _ _ _ => cases e
    | ins _ _ =>
      rw [q] at e
      cases e
    | src _ =>
      rw [q] at e
      cases e
    | cel =>
      rw [q] at e
      cases e
    | tab j =>
      rw [q] at e
      cases e
  · cases e)
theorem keysOf_ok {K : PySem.W.Frag} {H : Hp} {ρ : List Addr} : ∀ {kv : List (P × D)} {kvs : List (Key × V)}, RKs K H ρ kv kvs → RIs K H ρ (keysOf kv) (kvs.map fun kv => kV kv.1)
  | _, _, .nil => .nil
  | _, _, .cons hx hd hs => .cons (.p (by
    cases hx with
    | int i => exact .int i
    | str q => exact .str q)) (keysOf_ok hs)
theorem cb_list (hc : X.calm = true) : CallR X (.type "list") (rCB X.K (o1 fList)) := callR_imp (call_list_of.or (call_list_dK hc)) (o1_ok fun K H ρ d m k v Q eK R hd e hk => by
  subst eK
  unfold fList at e
  split at e
  · rename_i r
    split at e
    · rename_i lk kv q1 q
      obtain ⟨a, rfl, hi, hb, ro⟩ := ref_ok R (ri_rx hd)
      rw [q] at ro
      cases ro with
      | dct h1 h2 h3 => exact .inr ⟨a, _, rfl, h1, fun p hp => fin_lst hk R hp (keysOf_ok h2) (by rw [List.length_map]; exact h3.2) e⟩
    · obtain ⟨ds, a, vs, rfl, ha, hs, z, e⟩ := listOf_ok R (ri_rx hd) e
      exact .inl ⟨a, vs, rfl, .inl ha, fun p hp => fin_lst hk R hp hs z e⟩
  · obtain ⟨ds, a, vs, rfl, h, hs, z, e⟩ := seqOf_ok R (ri_rx hd) e
    exact .inl ⟨a, vs, rfl, h.symm, fun p hp => fin_lst hk R hp hs z e⟩)
end
end PB
end
section
set_option Elab.async false
set_option linter.all false
set_option maxRecDepth 100000
/-! PBSnd7: things written; targets; statements. -/
namespace PB
open PySem PySem.Spec PyProof.Rows L2
variable [PB.TBL]
section
variable {T : Tab} {K : PySem.W.Frag} {H H' H0 H1 H2 : Hp} {ρ ρ' ρ0 ρ1 ρ2 : List Addr} {m m' m1 : Mem}
theorem length_putK' (kvs : List (Key × V)) (k : Key) (v : V) : (L2.putK kvs k v).length ≤ kvs.length + 1 := length_putK kvs k v
theorem RIs.setN {ds : List D} {vs : List V} (h : RIs K H ρ ds vs) {d : D} {v : V} (hd : RI K H ρ d v) : ∀ i, RIs K H ρ (setN d ds i) (vs.set i v) := by
  intro i
  rw [setN_eq]
  induction h using RIs.rec (motive_1 := fun _ _ _ => True) generalizing i with
  | p _ => trivial
  | ref _ => trivial
  | tr _ _ _ _ => trivial
  | nil => exact .nil
  | cons h hs _ ih =>
    cases i with
    | zero => exact .cons hd hs
    | succ i => exact .cons h (ih i)
theorem topDs_set (d : D) : ∀ (l : List D) (i : Nat), topDs (l.set i d) ≤ max (topDs l) (topD d)
  | [], _ => by
    show 0 ≤ _
    omega
  | a :: l, 0 => by
    show max (topD d) (topDs l) ≤ max (max (topD a) (topDs l)) (topD d)
    omega
  | a :: l, i + 1 => by
    have ih := topDs_set d l i
    show max (topD a) (topDs (l.set i d)) ≤ max (max (topD a) (topDs l)) (topD d)
    omega
/-- a thing is put at a place -/
theorem fPut_ok {d i b : D} {dv iv bv : V} {k : Mem → Bool} {Q : Hp → Prop} (R : Rep K H ρ m) (r1 : RX K H0 H ρ d dv) (r2 : RX K H1 H ρ i iv) (r3 : RI K H ρ b bv) (e : fPut d i b m k = true) (hk : ∀ m' H', Fr ρ H ρ H' → Rep K H' ρ m' → k m' = true → Q H') : rSetD dv iv bv H Q ∨ rSetL dv iv bv H Q := by
  unfold fPut at e
  split at e
  · rename_i r
    obtain ⟨a, rfl, hi, hb, ro⟩ := ref_ok R r1
    have top := R.top r (R.lt hi)
    split at e
    · rename_i kv hb2 q
      rw [q] at ro top
      cases ro with
      | @dct _ kvs _ h1 h2 h3 =>
        split at e
        · rename_i y
          split at e
          · rename_i z
            rw [Bool.and_eq_true] at z
            have z1 : kv.length < 16777216 := Nat.blt_eq.mp z.1
            obtain ⟨key, hkey, rfl⟩ := kOk_key z.2 (rx_p r2)
            have hl : kvs.length < sizeLine := by
              rw [sizeLine_eq, ← h2.length]
              exact z1
            refine .inl ⟨a, _, rfl, DPut.k h1 hl, ?_⟩
            have t := R.tsU (x := .dK (L2.putK kvs key bv)) hi
            refine hk _ _ (Fr.write hi fun o u w => nomatch (h1.symm.trans w)) (R.setK hi (.dct upd_same ((h2.keys hkey r3 h3.1).mono t fun _ _ h => h) ⟨putK_nodup h3.1, Nat.le_trans (length_putK' _ _ _) hl⟩) (by rw [← R.len]; exact r3.top) ?_) e
            have g := topP_ins (x := y) (d := b) kv
            have top : topP kv ≤ max r m.k := top
            show topP (insP y b kv) ≤ _
            omega
          · cases e
        · cases e
    · rename_i n fw rv hb2 q
      rw [q] at ro top
      cases ro with
      | @lst _ vs _ _ _ h1 h2 h3 h4 =>
        split at e
        · rename_i j
          obtain rfl := rx_int r2
          split at e
          · rename_i z
            have z1 : j < n := Nat.blt_eq.mp z
            have hj : ixN vs.length (Int.ofNat j) = some j := by
              rw [h3] at z1
              unfold ixN
              have h0 : (0 : Int) ≤ Int.ofNat j := Int.natCast_nonneg j
              rw [if_pos h0, if_pos (show Int.ofNat j < (vs.length : Int) from Int.ofNat_lt.mpr z1)]
              rfl
            refine .inr ⟨a, vs, _, j, rfl, rfl, h1, hj, ?_⟩
            have t := R.tsU (x := .lst (vs.set j bv)) hi
            refine hk _ _ (Fr.write hi fun o u w => nomatch (h1.symm.trans w)) (R.setK hi (.lst upd_same ?_ ?_ ?_) (by rw [← R.len]; exact r3.top) ?_) e
            · rw [List.reverse_nil, List.append_nil]
              exact (h2.setN r3 j).mono t fun _ _ h => h
            · rw [List.length_set]
              exact h3
            · rw [List.length_set]
              exact h4
            · have g := topDs_set b (fw ++ rv.reverse) j
              rw [topDs_app, topDs_rev] at g
              have top : max (topDs fw) (topDs rv) ≤ max r m.k := top
              show max (topDs (PB.setN b (fw ++ rv.reverse) j)) 0 ≤ _
              rw [setN_eq]
              omega
          · cases e
        · cases e
    · cases e
  · cases e
theorem Slots.set {σ : Sl} {st : L2.St} {d : D} {v : V} (S : Slots K H ρ σ st) (h : RI K H ρ d v) (i : Nat) : Slots K H ρ (PB.setN d σ i) (st.set i (some v)) := by
  rw [setN_eq]
  refine ⟨by rw [List.length_set, List.length_set]; exact S.1, fun j e he hn => ?_⟩
  rw [nth_eq] at he
  by_cases c : i = j
  · subst c
    by_cases l : i < σ.length
    · have : (σ.set i d).getD i .un = d := by
        rw [List.getD_eq_getElem?_getD, List.getElem?_set_self l]
        rfl
      rw [this] at he
      subst he
      exact ⟨v, List.getElem?_set_self (Nat.lt_of_lt_of_le l S.1), h⟩
    · rw [List.set_eq_of_length_le (Nat.le_of_not_lt l), List.getD_eq_getElem?_getD, List.getElem?_eq_none (Nat.le_of_not_lt l)] at he
      exact absurd he.symm hn
  · have : (σ.set i d).getD j .un = σ.getD j .un := by
      rw [List.getD_eq_getElem?_getD, List.getElem?_set_ne c, ← List.getD_eq_getElem?_getD]
    rw [this, ← nth_eq] at he
    obtain ⟨w, h1, h2⟩ := S.2 j e he hn
    exact ⟨w, by rw [List.getElem?_set_ne c]; exact h1, h2⟩
end
/-! ### targets -/
/-- Z: how the frame may change -/
def NOkZ (Z : L2.St → Prop) (K : PySem.W.Frag) (ρ : List Addr) (H : Hp) (k : KN) (Q : L2.St → Hp → Prop) : Prop := ∀ ρ' σ' m' st' H', Z st' → Fr ρ H ρ' H' → Rep K H' ρ' m' → Slots K H' ρ' σ' st' → k σ' m' = true → Q st' H'
abbrev ZR := L2.St → L2.St → Prop
def rdZ (Z : ZR) (T : Tab) (K : PySem.W.Frag) (W : WX) (g : Gx) : TG := fun v st H Q => ∃ ρ σ d m x k, Rep K H ρ m ∧ Slots K H ρ σ st ∧ RI K H ρ d v ∧ g d σ m x k = true ∧ NOkZ (Z st) K ρ H k Q ∧ XOk T K ρ H x W
def rdZs (Z : ZR) (T : Tab) (K : PySem.W.Frag) (W : WX) (g : Gs) : TGs := fun vs st H Q => ∃ ρ σ ds m x k, Rep K H ρ m ∧ Slots K H ρ σ st ∧ RIs K H ρ ds vs ∧ g ds σ m x k = true ∧ NOkZ (Z st) K ρ H k Q ∧ XOk T K ρ H x W
def zAll : ZR := fun _ _ => True
def zOwn (vs : List Nat) : ZR := fun a b => wipe b vs = wipe a vs
structure ZOk (Z : ZR) : Prop where
  refl : ∀ a, Z a a
  trans : ∀ {a b c}, Z a b → Z b c → Z a c
theorem zAll_ok : ZOk zAll := ⟨fun _ => trivial, fun _ _ => trivial⟩
theorem zOwn_ok {vs : List Nat} : ZOk (zOwn vs) := ⟨fun _ => rfl, fun h h' => h'.trans h⟩
theorem zAll_set {i : Nat} : ∀ (a : L2.St) (v : Option V), zAll a (a.set i v) := fun _ _ => trivial
theorem zOwn_set {i : Nat} : ∀ {vs : List Nat}, i ∈ vs → ∀ (a : L2.St) (v : Option V), zOwn vs a (a.set i v)
  | [], h => nomatch h
  | w :: vs, h => fun a v => by
    show (wipe (a.set i v) vs).set w none = (wipe a vs).set w none
    by_cases e : i ∈ vs
    · rw [show wipe (a.set i v) vs = wipe a vs from zOwn_set e a v]
    · have e2 : i = w := by
        rcases List.mem_cons.mp h with h | h
        · exact h
        · exact absurd h e
      subst e2
      have out : ∀ vs : List Nat, i ∉ vs → wipe (a.set i v) vs = (wipe a vs).set i v := fun vs => by
        induction vs with
        | nil => exact fun _ => rfl
        | cons w vs ih =>
          intro h
          show (wipe (a.set i v) vs).set w none = ((wipe a vs).set w none).set i v
          rw [ih fun z => h (List.mem_cons_of_mem _ z), List.set_comm]
          exact fun z => h (by rw [z]; exact List.mem_cons_self)
      rw [out vs e, List.set_set]
theorem pg_imp {X : Cx} {e : Expr} {t u : TG} (h : PG X e t) (i : ∀ v st H Q, u v st H Q → t v st H Q) : PG X e u := ⟨fun pins s st H v w Q I r q => h.run pins s st H v w Q I r (i v st H Q q)⟩
theorem pgs_imp {X : Cx} {e : List Expr} {t u : TGs} (h : PGs X e t) (i : ∀ v st H Q, u v st H Q → t v st H Q) : PGs X e u := ⟨fun pins s st H v w Q I r q => h.run pins s st H v w Q I r (i v st H Q q)⟩
theorem ps_imp {X : Cx} {e : Stmt} {t u : L2.TS} (h : PS X e t) (i : ∀ D st H, u D st H → t D st H) : PS X e u := ⟨fun pins s st H D I q => h.run pins s st H D I (i D st H q)⟩
theorem pss_imp {X : Cx} {e : List Stmt} {t u : L2.TS} (h : PSs X e t) (i : ∀ D st H, u D st H → t D st H) : PSs X e u := ⟨fun pins s st H D I q => h.run pins s st H D I (i D st H q)⟩
theorem pg_or {X : Cx} {e : Expr} {t u : TG} (h : PG X e t) (h' : PG X e u) : PG X e (fun v st H Q => t v st H Q ∨ u v st H Q) := ⟨fun pins s st H v w Q I r q => q.elim (h.run pins s st H v w Q I r) (h'.run pins s st H v w Q I r)⟩
theorem pset_or {X : Cx} {t u : TSet} (h : PSet X t) (h' : PSet X u) : PSet X (fun o i v H Q => t o i v H Q ∨ u o i v H Q) := fun pins s st H o i v ov iv w Q I r1 r2 r3 q => q.elim (h pins s st H o i v ov iv w Q I r1 r2 r3) (h' pins s st H o i v ov iv w Q I r1 r2 r3)
section
variable {T : Tab} {X : Cx} {W : WX} {a b o e : Expr} {ea eb eo ei : Ex} {es : List Expr} {al : Ax} {pos : Pos} {g : Gx} {gs : Gs}
variable {Z : ZR}
theorem sg_name (G : Good X W) (i : Nat) {x : Str} (hz : ∀ (a : L2.St) (v : Option V), Z a (a.set i v)) (hi : X.N[i]? = some x) (hx : Loc X.env.scope x) (hf : X.fn x = true ∨ X.env.scope.names.lookup x = some .local) : PG X (.Name x pos) (rdZ Z T X.K W (gNm i)) :=
  pg_imp (pg_name G.nd hi hx hf) fun v st H Q ⟨ρ, σ, d, m, x, k, R, S, r, e, hk, hx⟩ => hk ρ _ m _ H (hz _ _) Fr.refl R (S.set r i) e
theorem sgs_nil (z : ZOk Z) : PGs X [] (rdZs Z T X.K W gsNil) := pgs_imp pgs_nil fun v st H Q ⟨ρ, σ, ds, m, x, k, R, S, r, e, hk, hx⟩ => by
  unfold gsNil at e
  split at e
  · cases r
    exact ⟨rfl, hk ρ _ m _ H (z.refl _) Fr.refl R S e⟩
  · cases e
theorem sgs_cons (z : ZOk Z) (h1 : PG X a (rdZ Z T X.K W g)) (h2 : PGs X es (rdZs Z T X.K W gs)) (hs : (assignEach (a :: es) X.env).map (·.2) = assign a X.env :: (assignEach es X.env).map (·.2) := by rfl) : PGs X (a :: es) (rdZs Z T X.K W (gsCons g gs)) :=
  pgs_imp (pgs_cons h1 h2 hs) fun v st H Q ⟨ρ, σ, ds, m, x, k, R, S, r, e, hk, hx⟩ => by
    unfold gsCons at e
    split at e
    · rename_i d ds
      cases r with
      | cons r rs =>
        refine ⟨_, _, rfl, ρ, σ, d, m, x, _, R, S, r, e, fun ρ1 σ1 m1 st1 H1 z1 f1 R1 S1 q1 => ?_, hx⟩
        exact ⟨ρ1, σ1, ds, m1, x, k, R1, S1, rs.fr R f1, q1, fun ρ2 σ2 m2 st2 H2 z2 f2 R2 S2 q2 => hk ρ2 σ2 m2 st2 H2 (z.trans z1 z2) (f1.trans f2) R2 S2 q2, hx.fr f1⟩
    · cases e
theorem sg_tup {k : Nat} {n : Nat} (G : Good X W) (h : PGs X es (rdZs Z T X.K W gs)) (hn : (assignEach es X.env).length = n := by rfl) (hst : (assignEach es X.env).findIdx? (·.1) = none := by rfl) : PG X (.Tuple es k pos) (rdZ Z T X.K W (gTp n gs)) :=
  pg_imp (pg_or (pg_tup G.calm h hn hst) (pg_unl G.calm h hn hst)) fun v st H Q ⟨ρ, σ, d, m, x, k, R, S, r, e, hk, hx⟩ => by
    unfold gTp at e
    obtain ⟨ds, a, vs, rfl, ho, hs, z, e⟩ := seqOf_ok R (ri_rx r) e
    split at e
    · rename_i l
      have l := Nat.eq_of_beq_eq_true l
      rw [hs.length] at l
      rcases ho with ho | ho
      · exact .inl ⟨a, vs, rfl, ho, l, ρ, σ, ds, m, x, k, R, S, hs, e, hk, hx⟩
      · exact .inr ⟨a, vs, rfl, ho, l, ρ, σ, ds, m, x, k, R, S, hs, e, hk, hx⟩
    · cases e
theorem sg_sub (G : Good X W) (z : ZOk Z) (ho : PE X o (rdE T X.K W eo)) (hi : PE X a (rdE T X.K W ei)) (ha : ∀ v, assign (.Subscript o a pos) X.env v = (do
      let ov ← holding [v] (eval o X.env)
      let iv ← holding [v, ov] (eval a X.env)
      standAt pos
      holding [v, ov, iv] (setItem ov iv v)
      release [v, ov, iv] []) := by intro _; rfl) : PG X (.Subscript o a pos) (rdZ Z T X.K W (gSub eo ei)) :=
  pg_imp (pg_sub ho hi (pset_or (set_dict (show X.A.units + 1 < cLine by have := G.hu; omega)) set_list) ha) fun v st H Q ⟨ρ, σ, d, m, x, k, R, S, r, e, hk, hx⟩ => by
    refine ⟨ρ, σ, m, x, _, R, S, e, fun ρ1 d1 m1 v1 H1 f1 R1 r1 q1 => ?_, hx⟩
    refine ⟨ρ1, σ, m1, x, _, R1, S.fr R f1, q1, fun ρ2 d2 m2 v2 H2 f2 R2 r2 q2 => ?_, hx.fr f1⟩
    refine fPut_ok R2 (r1.fr R1 f2) r2 (r.fr R (f1.trans f2)) q2 fun m3 H3 f3 R3 q3 => ?_
    have f := (f1.trans f2).trans f3
    exact hk ρ2 σ m3 st H3 (z.refl _) f R3 (S.fr R f) q3
abbrev rdG (T : Tab) (K : PySem.W.Frag) (W : WX) (g : Gx) : TG := rdZ zAll T K W g
end
end PB
end
section
set_option Elab.async false
set_option linter.all false
set_option maxRecDepth 100000
/-! PBSnd8: statements. -/
namespace PB
open PySem PySem.Spec PyProof.Rows L2
variable [PB.TBL]
structure EOk (T : Tab) (K : PySem.W.Frag) (ρ : List Addr) (H : Hp) (k : Ks) (W : WX) (D : Ends) : Prop where
  x : XOk T K ρ H k.x W
  r : KOk K ρ H k.r D.rt
  b : NOk K ρ H k.b D.bk
  c : NOk K ρ H k.c D.ct
def rdS (T : Tab) (K : PySem.W.Frag) (W : WX) (e : Sx) : L2.TS := fun D st H => ∃ ρ σ m ks k, Rep K H ρ m ∧ Slots K H ρ σ st ∧ e σ m ks k = true ∧ NOk K ρ H k D.nx ∧ EOk T K ρ H ks W D
section
variable {T : Tab} {K : PySem.W.Frag} {H H' H0 H1 H2 : Hp} {ρ ρ' ρ0 ρ1 ρ2 : List Addr} {m m' m1 : Mem} {W : WX}
theorem EOk.fr {ks : Ks} {D : Ends} (h : EOk T K ρ H ks W D) (f : Fr ρ H ρ1 H1) (R : Rep K H1 ρ1 m1) : EOk T K ρ1 H1 ks W D := ⟨h.x.fr f, h.r.fr f R, h.b.fr f, h.c.fr f⟩
end
section
variable {T : Tab} {X : Cx} {W : WX} {a b o e : Expr} {ea eb eo ei : Ex} {es : List Expr} {al : Ax} {pos : Pos} {g : Gx} {gs : Gs} {s : Stmt} {ss : List Stmt} {ms ns : Sx}
theorem ss_nil : PSs X [] (rdS T X.K W sPass) := pss_imp pss_nil fun D st H ⟨ρ, σ, m, ks, k, R, S, e, hk, hx⟩ => hk ρ σ m st H Fr.refl R S e
theorem ss_one (h : PS X s (rdS T X.K W ms)) : PSs X [s] (rdS T X.K W ms) := pss_one h
theorem ss_cons (h1 : PS X s (rdS T X.K W ms)) (h2 : PSs X ss (rdS T X.K W ns)) : PSs X (s :: ss) (rdS T X.K W (sSeq ms ns)) := pss_imp (pss_cons h1 h2) fun D st H ⟨ρ, σ, m, ks, k, R, S, e, hk, hx⟩ =>
  ⟨ρ, σ, m, ks, _, R, S, e, fun ρ1 σ1 m1 st1 H1 f1 R1 S1 q1 => ⟨ρ1, σ1, m1, ks, k, R1, S1, q1, hk.fr f1, hx.fr f1 R1⟩, ⟨hx.x, hx.r, hx.b, hx.c⟩⟩
theorem sp_pass : PS X (.Pass pos) (rdS T X.K W sPass) := ps_imp ps_pass fun D st H ⟨ρ, σ, m, ks, k, R, S, e, hk, hx⟩ => hk ρ σ m st H Fr.refl R S e
theorem sp_break : PS X (.Break pos) (rdS T X.K W sBreak) := ps_imp ps_break fun D st H ⟨ρ, σ, m, ks, k, R, S, e, hk, hx⟩ => hx.b ρ σ m st H Fr.refl R S e
theorem sp_cont : PS X (.Continue pos) (rdS T X.K W sCont) := ps_imp ps_continue fun D st H ⟨ρ, σ, m, ks, k, R, S, e, hk, hx⟩ => hx.c ρ σ m st H Fr.refl R S e
theorem sp_doc {x j pos'} : PS X (.Expr (.Constant (.str x) j pos) pos') (rdS T X.K W sPass) := ps_imp ps_doc fun D st H ⟨ρ, σ, m, ks, k, R, S, e, hk, hx⟩ => hk ρ σ m st H Fr.refl R S e
theorem sp_expr (he : PE X e (rdE T X.K W ea)) (hs : swapsWith e none pos.line X.env = pure false := by rfl) : PS X (.Expr e pos) (rdS T X.K W (sExpr ea)) := ps_imp (ps_expr he hs) fun D st H ⟨ρ, σ, m, ks, k, R, S, e, hk, hx⟩ =>
  ⟨ρ, σ, m, ks.x, _, R, S, e, fun ρ1 d1 m1 v1 H1 f1 R1 r1 q1 => hk ρ1 σ m1 st H1 f1 R1 (S.fr R f1) q1, hx.x⟩
theorem sp_ret (he : PE X e (rdE T X.K W ea)) : PS X (.Return (some e) pos) (rdS T X.K W (sRet ea)) := ps_imp (ps_ret he) fun D st H ⟨ρ, σ, m, ks, k, R, S, e, hk, hx⟩ => ⟨ρ, σ, m, ks.x, _, R, S, e, hx.r, hx.x⟩
theorem sp_retN : PS X (.Return none pos) (rdS T X.K W sRetN) := ps_imp ps_retN fun D st H ⟨ρ, σ, m, ks, k, R, S, e, hk, hx⟩ => hx.r ρ (.p .non) m .non H Fr.refl R (RX.of (.p .non)) e
theorem sp_if {c : Expr} {ec : Ex} {ys zs : List Stmt} (hc : PT X c (rdT T X.K W ec)) (ha : PSs X ys (rdS T X.K W ms)) (hb : PSs X zs (rdS T X.K W ns)) : PS X (.If c ys zs pos) (rdS T X.K W (sIf ec ms ns)) := ps_imp (ps_if hc ha hb) fun D st H ⟨ρ, σ, m, ks, k, R, S, e, hk, hx⟩ => by
  refine ⟨ρ, σ, m, ks.x, fun t m => match t with
    | true => ms σ m ks k
    | false => ns σ m ks k, R, S, e, fun ρ1 t m1 H1 f1 R1 q1 => ?_, hx.x⟩
  cases t with
  | true =>
    rw [if_pos rfl]
    exact ⟨ρ1, σ, m1, ks, k, R1, S.fr R f1, q1, hk.fr f1, hx.fr f1 R1⟩
  | false =>
    rw [if_neg Bool.false_ne_true]
    exact ⟨ρ1, σ, m1, ks, k, R1, S.fr R f1, q1, hk.fr f1, hx.fr f1 R1⟩
/-- a value laid and stored -/
theorem asg_of {g : Gx} {te : TE} {tg : TG} (he : te = rdE T X.K W ea) (hg : tg = rdG T X.K W g) : ∀ D st H, rdS T X.K W (sAsg g ea) D st H → tAsg te tg D st H := fun D st H ⟨ρ, σ, m, ks, k, R, S, e, hk, hx⟩ => by
  subst he hg
  refine ⟨ρ, σ, m, ks.x, _, R, S, e, fun ρ1 d1 m1 v1 H1 f1 R1 r1 q1 => ?_, hx.x⟩
  obtain ⟨ρ2, d2, m2, f2, f2', R2, r2, _, q2⟩ := lay_ok f1 R1 r1 q1
  exact ⟨ρ2, σ, d2, m2, ks.x, k, R2, S.fr R f2, r2, q2, fun ρ3 σ3 m3 st3 H3 _ f3 => hk.fr f2 ρ3 σ3 m3 st3 H3 f3, hx.x.fr f2⟩
theorem sp_asg {tg : Expr} (he : PE X e (rdE T X.K W ea)) (hg : PG X tg (rdG T X.K W g)) (hs : swapsWithSole [tg] e pos.line X.env = pure false := by rfl) (hw : swappedStores [tg] e X.env = pure none := by rfl)
    (h1 : (assignEach [tg] X.env).map (·.2) = [assign tg X.env] := by rfl) : PS X (.Assign [tg] e pos) (rdS T X.K W (sAsg g ea)) := ps_imp (ps_asg he hg hs hw h1) (asg_of rfl rfl)
theorem sp_set (G : Good X W) (i : Nat) {x : Str} {pos' : Pos} (hi : X.N[i]? = some x) (hx : Loc X.env.scope x) (he : PE X e (rdE T X.K W ea)) (hs : swapsWith e (some (.Name x pos')) pos.line X.env = pure false := by rfl) (hf : X.fn x = true ∨ X.env.scope.names.lookup x = some .local) :
    PS X (.Assign [.Name x pos'] e pos) (rdS T X.K W (sAsg (gNm i) ea)) := ps_imp (ps_set G.nd hi hx he hs hf) fun D st H ⟨ρ, σ, m, ks, k, R, S, e, hk, hx⟩ => by
  refine ⟨ρ, σ, m, ks.x, _, R, S, e, fun ρ1 d1 m1 v1 H1 f1 R1 r1 q1 => ?_, hx.x⟩
  obtain ⟨ρ2, d2, m2, f2, f2', R2, r2, _, q2⟩ := lay_ok f1 R1 r1 q1
  exact hk ρ2 _ m2 _ H1 f2 R2 ((S.fr R f2).set r2 i) q2
theorem sp_par (G : Good X W) (i j : Nat) {x y : Str} {px py pt : Pos} {kt k2 pt2} (hi : X.N[i]? = some x) (hj : X.N[j]? = some y) (hij : i ≠ j)
    (hx : X.env.scope.names.lookup x = some .local) (hy : X.env.scope.names.lookup y = some .local) (ha : PA X [a, b] (rdA T X.K W al))
    (hw : swappedStores [.Tuple [.Name x px, .Name y py] kt pt] (.Tuple [a, b] k2 pt2) X.env = pure (some [x, y]))
    (hs : swapsWithSole [.Tuple [.Name x px, .Name y py] kt pt] (.Tuple [a, b] k2 pt2) pos.line X.env = pure false := by rfl) :
    PS X (.Assign [.Tuple [.Name x px, .Name y py] kt pt] (.Tuple [a, b] k2 pt2) pos) (rdS T X.K W (sPar i j al)) := ps_imp (ps_par G.calm G.nd hi hj hij hx hy ha hw hs) fun D st H ⟨ρ, σ, m, ks, k, R, S, e, hk, hx⟩ => by
  refine ⟨ρ, σ, m, ks.x, _, R, S, e, fun ρ1 ds m1 vs H1 f1 R1 r1 q1 => ?_, hx.x⟩
  dsimp only at q1
  split at q1
  · cases r1 with
    | cons h1 r1 =>
      cases r1 with
      | cons h2 r1 =>
        cases r1
        exact ⟨_, _, rfl, hk ρ1 _ m1 _ H1 f1 R1 (((S.fr R f1).set h1 i).set h2 j) q1⟩
  · cases q1
theorem sp_par3 (G : Good X W) (i j l : Nat) {x y z : Str} {c : Expr} {px py pz pt : Pos} {kt k2 pt2} (hi : X.N[i]? = some x) (hj : X.N[j]? = some y) (hl : X.N[l]? = some z) (hij : i ≠ j) (hil : i ≠ l) (hjl : j ≠ l)
    (hx : X.env.scope.names.lookup x = some .local) (hy : X.env.scope.names.lookup y = some .local) (hz : X.env.scope.names.lookup z = some .local) (ha : PA X [a, b, c] (rdA T X.K W al))
    (hw : swappedStores [.Tuple [.Name x px, .Name y py, .Name z pz] kt pt] (.Tuple [a, b, c] k2 pt2) X.env = pure (some [x, y, z]))
    (hs : swapsWithSole [.Tuple [.Name x px, .Name y py, .Name z pz] kt pt] (.Tuple [a, b, c] k2 pt2) pos.line X.env = pure false := by rfl) :
    PS X (.Assign [.Tuple [.Name x px, .Name y py, .Name z pz] kt pt] (.Tuple [a, b, c] k2 pt2) pos) (rdS T X.K W (sPar3 i j l al)) := ps_imp (ps_par3 G.calm G.nd hi hj hl hij hil hjl hx hy hz ha hw hs) fun D st H ⟨ρ, σ, m, ks, k, R, S, e, hk, hx⟩ => by
  refine ⟨ρ, σ, m, ks.x, _, R, S, e, fun ρ1 ds m1 vs H1 f1 R1 r1 q1 => ?_, hx.x⟩
  dsimp only at q1
  split at q1
  · cases r1 with
    | cons h1 r1 =>
      cases r1 with
      | cons h2 r1 =>
        cases r1 with
        | cons h3 r1 =>
          cases r1
          exact ⟨_, _, _, rfl, hk ρ1 _ m1 _ H1 f1 R1 ((((S.fr R f1).set h1 i).set h2 j).set h3 l) q1⟩
  · cases q1
/-! ### op= -/
def rIp (K : PySem.W.Frag) (f : D → D → Mem → KD → Bool) : TIp := fun u v H Q => ∃ i j, u = .int i ∧ v = .int j ∧ ∃ ρ m k, Rep K H ρ m ∧ f (.p (.int i)) (.p (.int j)) m k = true ∧ KOk K ρ H k Q
theorem ip_addP : PIp X .Add (rIp X.K fAdd) := fun pins s st H x y v u Q I rx ry ⟨i, j, e1, e2, ρ, m, k, R, e, hk⟩ => ip_add pins s st H x y v u Q I rx ry ⟨i, j, e1, e2, by
  unfold fAdd at e
  dsimp only at e
  rw [fI_eq] at e
  exact fin_p hk R (.int _) e⟩
theorem ip_subP : PIp X .Sub (rIp X.K fSub) := fun pins s st H x y v u Q I rx ry ⟨i, j, e1, e2, ρ, m, k, R, e, hk⟩ => ip_sub pins s st H x y v u Q I rx ry ⟨i, j, e1, e2, by
  unfold fSub at e
  dsimp only at e
  rw [fI_eq] at e
  exact fin_p hk R (.int _) e⟩
theorem ip_mulP : PIp X .Mult (rIp X.K fMulI) := fun pins s st H x y v u Q I rx ry ⟨i, j, e1, e2, ρ, m, k, R, e, hk⟩ => by
  unfold fMulI at e
  dsimp only at e
  split at e
  · rename_i z
    rw [fI_eq] at e
    rw [Bool.or_eq_true] at z
    exact iop_mul pins s st H x y v u Q I rx ry ⟨i, j, e1, e2, z.imp wide_ok wide_ok, fin_p hk R (.int _) e⟩
  · cases e
theorem sp_aug (G : Good X W) (i : Nat) {x : Str} {op : Operator} {f : D → D → Mem → KD → Bool} {pos' : Pos} (hi : X.N[i]? = some x) (hx : Loc X.env.scope x) (he : PE X e (rdE T X.K W ea)) (ho : PIp X op (rIp X.K f)) (hf : X.fn x = true ∨ X.env.scope.names.lookup x = some .local) :
    PS X (.AugAssign (.Name x pos') op e pos) (rdS T X.K W (sAug i (onII f) ea)) := ps_imp (ps_aug G.nd hi hx he ho hf) fun D st H ⟨ρ, σ, m, ks, k, R, S, e, hk, hx⟩ => by
  have key : ∀ d, nth .un σ i = d → d ≠ .un → (ea σ m ks.x fun b m => onII f d b m fun d m => lay d m fun d m => k (setN d σ i) m) = true → tAug i (rdE T X.K W ea) (rIp X.K f) D st H := fun d hd nd e => by
    obtain ⟨v, h1, h2⟩ := S.2 i d hd nd
    refine ⟨v, h1, ρ, σ, m, ks.x, _, R, S, e, fun ρ1 d1 m1 v1 H1 f1 R1 r1 q1 => ?_, hx.x⟩
    unfold onII at q1
    dsimp only at q1
    split at q1
    · rename_i i' j'
      have r0 := h2.fr R f1
      obtain rfl := rx_int (H0 := H1) (RX.of r0)
      obtain rfl := rx_int r1
      refine ⟨i', j', rfl, rfl, ρ1, m1, _, R1, q1, fun ρ2 d2 m2 v2 H2 f2 R2 r2 q2 => ?_⟩
      obtain ⟨ρ3, d3, m3, f3, f3', R3, r3, _, q3⟩ := lay_ok f2 R2 r2 q2
      have f := f1.trans f3
      exact hk ρ3 _ m3 _ H2 f R3 ((S.fr R f).set r3 i) q3
    · cases q1
  unfold sAug at e
  cases q : nth .un σ i with
  | un =>
    rw [q] at e
    cases e
  | p x =>
    rw [q] at e
    exact key _ q (fun z => nomatch z) e
  | ref n =>
    rw [q] at e
    exact key _ q (fun z => nomatch z) e
  | tmp ds =>
    rw [q] at e
    exact key _ q (fun z => nomatch z) e
  | tr ds =>
    rw [q] at e
    exact key _ q (fun z => nomatch z) e
/-! ### while -/
theorem sp_while {c : Expr} {body : List Stmt} {ec : Ex} (hp : PassesOwn (model X.prog X.w) X.A X.env X.xe) (hc : PT X c (rdT T X.K W ec)) (hb : PSs X body (rdS T X.K W ms)) : PS X (.While c body [] pos) (rdS T X.K W (sWhile ec ms)) := ps_imp (ps_while hp hc hb) fun D st H ⟨ρ, σ, m, ks, k, R, S, e, hk, hx⟩ => by
  refine ⟨fun n st' H' => ∃ ρ' σ' m', Fr ρ H ρ' H' ∧ Rep X.K H' ρ' m' ∧ Slots X.K H' ρ' σ' st' ∧ whileF ec ms ks k n σ' m' = true, ⟨fuel, ρ, σ, m, Fr.refl, R, S, e⟩, ?_⟩
  rintro n st1 H1 ⟨ρ1, σ1, m1, f1, R1, S1, q1⟩
  cases n with
  | zero => exact nomatch (show false = true from q1)
  | succ n =>
    refine ⟨ρ1, σ1, m1, ks.x, fun t m => match t with
      | true => ms σ1 m ⟨ks.x, ks.r, k, whileF ec ms ks k n⟩ (whileF ec ms ks k n)
      | false => k σ1 m, R1, S1, q1, fun ρ2 t m2 H2 f2 R2 q2 => ?_, hx.x.fr f1⟩
    have f := f1.trans f2
    cases t with
    | false => exact hk ρ2 σ1 m2 st1 H2 f R2 (S1.fr R1 f2) q2
    | true =>
      refine (if_pos rfl).mpr ?_
      refine ⟨_, fun st' H' h => ⟨n, Nat.lt_succ_self n, h⟩, ?_⟩
      have again : NOk X.K ρ2 H2 (whileF ec ms ks k n) (fun st' H' => ∃ ρ' σ' m', Fr ρ H ρ' H' ∧ Rep X.K H' ρ' m' ∧ Slots X.K H' ρ' σ' st' ∧ whileF ec ms ks k n σ' m' = true) := fun ρ3 σ3 m3 st3 H3 f3 R3 S3 q3 => ⟨ρ3, σ3, m3, f.trans f3, R3, S3, q3⟩
      exact ⟨ρ2, σ1, m2, _, _, R2, S1.fr R1 f2, q2, again, ⟨hx.x.fr f, hx.r.fr f R2, hk.fr f, again⟩⟩
end
end PB
end
section
set_option Elab.async false
set_option linter.all false
set_option maxRecDepth 100000
/-! PBWalk: lists and tuples walked, enumerated. -/
namespace PB
open PySem PySem.Spec PyProof.Rows L2
variable [PB.TBL]
/-! ### enumerate(a tuple) -/
set_option maxHeartbeats 1000000 in
theorem meets_enum1 {v : Value} {o : Obj} {H : Heap → Prop} (B : Begins v o H) : Meets (Builtin.«enumerate.__new__» ⟨[.type "enumerate", v], []⟩) (fun _ R s => H s.heap ∧
      R (.ok (.ret (.ref (s.heap.push o).objs.size))) { s with heap := (s.heap.push o).push { cls := .type "enumerate", data := .fields #[.none, .bool false, .ref s.heap.objs.size, rawInt 0, .none, .none] } }) :=
  .of_wp fun prog w A R s h => by
    obtain ⟨hp, g, d, tk, os⟩ := s
    obtain ⟨h1, h⟩ := h
    have begun : ∀ {A' : Around} {E : Value → Shared → Prop} {Q : Value → Shared → Prop}, Q (.ref hp.objs.size) ⟨hp.push o, g, d, tk, os⟩ → wpAny (model prog w) A' (pyIter v) Q E ⟨hp, g, d, tk, os⟩ :=
      fun q => B.iter prog w _ _ ⟨hp, g, d, tk, os⟩ _ h1 q
    have sub := sub_enumerate
    wp_walk using begun
    refine wpAny_stack_any fun st => wpAny_pure ?_
    split
    · rename_i c _ _ _ _ _
      cases (c == Value.type "enumerate")
      · wp_walk using begun
        exact ⟨_, rfl, h⟩
      · wp_walk using begun
        exact ⟨_, rfl, h⟩
    · wp_walk using begun
      exact ⟨_, rfl, h⟩
theorem call_enumT {prog : Program} {w : World} {A : Around} {E : Value → Shared → Prop} {s : Shared} {a : Addr} {items : Array Value} {Q : Value → Shared → Prop} (hL : s.heap.IsTuple a items)
    (h : ∀ h', IsEnum h' (s.heap.objs.size + 1) s.heap.objs.size 0 .none → h'.IsTupleIter s.heap.objs.size a 0 → (∀ b o, s.heap.get? b = some o → h'.get? b = some o) → Q (.ref (s.heap.objs.size + 1)) { s with heap := h' }) :
    wpAny (model prog w) A (call (.type "enumerate") [.ref a]) Q E s := by
  refine callType_new F.called_enumerate (by decide) (F.typeCall_enumerate_1 _) (F.newCall_enumerate_1 _) (fun obj => F.args_object_init_2 obj _) F.entry_enumerate_new (meets_enum1 (begins_tuple a items)) ⟨hL, ?_⟩
  have z : (s.heap.push { cls := .type "tuple_iterator", data := .fields #[.ref a, .int 0 0] }).objs.size = s.heap.objs.size + 1 := Heap.size_push ..
  have e1 := Heap.get?_push_size s.heap (o := { cls := .type "tuple_iterator", data := .fields #[.ref a, .int 0 0] }) rfl
  have e2 := Heap.get?_push_size (s.heap.push { cls := .type "tuple_iterator", data := .fields #[.ref a, .int 0 0] }) (o := { cls := .type "enumerate", data := .fields #[.none, .bool false, .ref s.heap.objs.size, rawInt 0, .none, .none] }) rfl
  rw [z] at e2
  show _ ∧ _
  rw [z]
  exact ⟨⟨_, e2, rfl⟩, h _ e2 ⟨_, Heap.get?_push_of_some _ e1, rfl, rfl⟩ fun b o x => Heap.get?_push_of_some _ (Heap.get?_push_of_some _ x)⟩
def IteT (K : PySem.W.Frag) (a : Addr) : It :=
  ⟨fun i H => ∃ (xs : List V) (x : V), SqT K H a xs ∧ xs[i]? = some x, fun i H v H' => ∃ T x, v = .ref T ∧ H T = none ∧ H' = upd H T (.tup [.int (i : Nat), x]) ∧ ∀ xs, SqT K H a xs → xs[i]? = some x, fun i H => ∃ xs : List V, SqT K H a xs ∧ xs.length = i⟩
theorem turn_enumT {P : Program} {w : World} {K : PySem.W.Frag} {elts : List Expr} {kk : Nat} {tpos : Pos} (a e it : Addr) (ea : e ≠ a) (ia : a ≠ it) :
    Turn P w K (.Tuple elts kk tpos) (IteT K a) [e, it] e (fun i h => (∃ old, IsEnum h e it ((i : Nat) : Int) old) ∧ h.IsTupleIter it a i ∧ e ≠ it) where
  mem := by simp
  obj := fun i h ⟨⟨old, he⟩, ⟨o, ho, hc, hd⟩, _⟩ b hb => by
    rcases List.mem_cons.mp hb with rfl | hb
    · exact ⟨_, he, fun v q => nomatch q⟩
    · rw [List.mem_singleton.mp hb]
      exact ⟨o, ho, fun v q => by rw [hd] at q; cases q⟩
  keep := fun i h h' ⟨⟨old, he⟩, hi, hne⟩ k => ⟨⟨old, k e (by simp) _ he⟩, hi.at fun o q => k it (by simp) o q, hne⟩
  item := by
    intro X hP hw hK hc i pins s σ H E I hf st hg
    subst hP hw hK
    obtain ⟨⟨old, he⟩, hit, hne⟩ := st
    obtain ⟨xs, x, hq, hx⟩ := hg
    obtain ⟨its, rv, p, hz⟩ := I.tuple hq
    obtain ⟨u, hu, ru⟩ := rv.get hx
    have lu : i < its.toArray.size := by
      have := (List.getElem?_eq_some_iff.mp hu).1
      simpa using this
    have p' : s.heap.IsTuple a its.toArray := p
    have hel : e < s.heap.objs.size := Heap.lt_size he
    have hil : it < s.heap.objs.size := by
      obtain ⟨_, q, _⟩ := hit
      exact Heap.lt_size q
    have D : Draws X.prog X.w X.A.in1 it [it, a] its.toArray.size (fun i v => its.toArray[i]? = some v) (fun i h => h.IsTupleIter it a i ∧ h.IsTuple a its.toArray) := Draws.tuple (A := X.A.in1) (I.ok.hd hc) it a ia its.toArray
    refine wpAny_pyNext_enum_itemD D he ⟨hit, p'⟩ lu hne (by simp [hne, ea]) fun y h' tk hy ho hst hT hsz hk => ?_
    have hy : its.toArray[i]? = some y := hy
    obtain rfl : u = y := by
      have e1 : its.toArray[i]? = some u := by simpa using hu
      exact Option.some.inj (e1.symm.trans hy)
    refine ⟨_, rfl, wpAny_letOwnedTupleGo_enum (s := { s with heap := h', toks := tk + 1 }) ho fun h'' he' sb => ?_⟩
    have hT2 : h''.get? s.heap.objs.size = some { cls := .type "tuple", data := .seq #[.int i tk, u] } := (sb.2 _ (Nat.ne_of_gt hel)).trans hT
    have new : ObjOk X.prog X.w (upd H s.heap.objs.size (.tup [.int (i : Nat), x])) h'' s.heap.objs.size (.tup [.int (i : Nat), x]) :=
      ⟨by show 2 ≤ sizeLine; decide, [.int i tk, u], .cons ⟨_, rfl⟩ (.cons ru .nil), ⟨_, hT2, rfl, _, rfl⟩⟩
    have I1 : Inv X pins σ (upd H s.heap.objs.size (.tup [.int (i : Nat), x])) { s with heap := h'', toks := tk + 1 } :=
      I.turnedNew (ch := [e, it]) (fun b ob hb q => (sb.2 b (fun z => hb (by simp [z]))).trans (hk b ob (fun z => hb (by simp [z])) (fun z => hb (by simp [z])) q)) hf (Nat.le_refl _) new
    refine ⟨.ref s.heap.objs.size, _, I1, rfl, ⟨_, x, rfl, I.hok.fresh (Nat.le_refl _), rfl, fun ys hy => by rw [I.tuple_inj hy hq]; exact hx⟩, ⟨⟨u, ?_⟩, hst.1.at fun o q => (sb.2 it (Ne.symm hne)).trans q, hne⟩, fun b hb => ?_⟩
    · have e1 : ((i + 1 : Nat) : Int) = (i : Int) + 1 := by omega
      rw [e1]
      exact he'
    · have hb' : b < s.heap.objs.size := by
        rcases List.mem_cons.mp hb with z | z
        · rw [z]
          exact hel
        · rw [List.mem_singleton.mp z]
          exact hil
      rw [upd_ne (Nat.ne_of_lt hb')]
      exact (hf b hb).1
  done := by
    intro X hP hw hK hc i pins s σ H E I hf st hg
    subst hP hw hK
    obtain ⟨⟨old, he⟩, hit, hne⟩ := st
    obtain ⟨xs, hq, hx⟩ := hg
    obtain ⟨its, rv, p, hz⟩ := I.tuple hq
    obtain ⟨f0, f1, f2, f3, f4, f5⟩ := hf it (by simp)
    have p' : s.heap.IsTuple a its.toArray := p
    have D : Draws X.prog X.w X.A.in1 it [it, a] its.toArray.size (fun i v => its.toArray[i]? = some v) (fun i h => h.IsTupleIter it a i ∧ h.IsTuple a its.toArray) := Draws.tuple (A := X.A.in1) (I.ok.hd hc) it a ia its.toArray
    have l : its.toArray.size = i := by
      rw [List.size_toArray, ← rv.length]
      exact hx
    refine wpAny_pyNext_enum_endD D he (by rw [l]; exact ⟨hit, p'⟩) fun h' eb => ⟨rfl, I.turned (t' := s.toks) (fun b o hb q => eb b o hb q) f0 f1 f3 f4 f5⟩
  self := fun A i s Q E ⟨⟨_, he⟩, _⟩ h => wpAny_pyIter_enum he h
/-! ### for x in a list or a tuple; for i, x in enumerate(a list or a tuple) -/
section
variable {X : Cx} {tg e : Expr} {te : TE}
def iSq (K : PySem.W.Frag) (te : TE) : TI := fun σ H R => te σ H fun x H1 => ∃ a xs, x = .ref a ∧ ((SqL K H1 a xs ∧ R (Itl K a) H1) ∨ (SqT K H1 a xs ∧ R (Itt K a) H1))
theorem pi_sq (he : PE X e te) : PI X tg e (iSq X.K te) := ⟨fun pins s σ H R I h => thn (he.run pins s σ H _ I h) fun v s1 ⟨x, H1, I1, rx, a, xs, ex, q⟩ => by
  subst ex
  cases rx
  have fresh : ∀ b ∈ [s1.heap.objs.size], FpOk X pins H1 b := fun b hb => by
    rw [List.mem_singleton.mp hb]
    exact I1.fpOk (Nat.le_refl _) (I1.hok.fresh (Nat.le_refl _))
  rcases q with ⟨hq, q⟩ | ⟨hq, q⟩
  · obtain ⟨its, rv, p, hz⟩ := I1.list hq
    exact wpAny_pyIter_list p.isList ⟨_, [s1.heap.objs.size], _, _, H1, rfl, I1.kept (t' := s1.toks) fun b o e => Heap.get?_push_of_some _ e, turn_list a _, ⟨_, Heap.get?_push_size _ rfl, rfl, rfl⟩, fresh, q⟩
  · obtain ⟨its, rv, p, hz⟩ := I1.tuple hq
    exact wpAny_pyIter_tuple (show s1.heap.IsTuple a its.toArray from p) ⟨_, [s1.heap.objs.size], _, _, H1, rfl, I1.kept (t' := s1.toks) fun b o e => Heap.get?_push_of_some _ e, turn_tuple a _, ⟨_, Heap.get?_push_size _ rfl, rfl, rfl⟩, fresh, q⟩⟩
def iEn (K : PySem.W.Frag) (ta : TA) : TI := fun σ H R => ta σ H fun vs H1 => ∃ a xs, vs = [.ref a] ∧ ((SqL K H1 a xs ∧ R (Ite K a) H1) ∨ (SqT K H1 a xs ∧ R (IteT K a) H1))
theorem pi_en {ta : TA} {p pos tpos : Pos} {elts : List Expr} {kk : Nat} (hg : Gl X "enumerate") (hm : X.mg "enumerate" = none) (ha : PA X [e] ta) (hs : starEach [e] X.env = [(false, eval e X.env)] := by rfl) :
    PI X (.Tuple elts kk tpos) (.Call (.Name "enumerate" p) [e] [] pos) (iEn X.K ta) := ⟨fun pins s σ H R I h => by
  refine Call_ (ld_blt I hg hm boot_enumerate (PyProof.Rows.callWith_type1 (thn (ha.run pos pins s σ H _ I h) fun us s1 ⟨vs, H1, I1, r1, a, xs, ex, q⟩ => ?_) hs rfl))
  subst ex
  cases r1 with
  | cons r rr =>
    cases rr
    cases r
    have fresh : ∀ b ∈ [s1.heap.objs.size + 1, s1.heap.objs.size], FpOk X pins H1 b := fun b hb => by
      have hle : s1.heap.objs.size ≤ b := by
        rcases List.mem_cons.mp hb with z | z
        · rw [z]
          exact Nat.le_succ _
        · rw [List.mem_singleton.mp z]
          exact Nat.le_refl _
      exact I1.fpOk hle (I1.hok.fresh hle)
    rcases q with ⟨hq, q⟩ | ⟨hq, q⟩
    · obtain ⟨its, rv, p', hz⟩ := I1.list hq
      refine call_enumerate_list p'.isList fun h' he hit hsz hk => wpAny_pyIter_enum he ?_
      exact ⟨_, [s1.heap.objs.size + 1, s1.heap.objs.size], _, _, H1, rfl, I1.kept (t' := s1.toks) hk, turn_enum a (s1.heap.objs.size + 1) s1.heap.objs.size, ⟨⟨.none, he⟩, hit, Nat.succ_ne_self _⟩, fresh, q⟩
    · obtain ⟨its, rv, p', hz⟩ := I1.tuple hq
      have p2 : s1.heap.IsTuple a its.toArray := p'
      have lt : a < s1.heap.objs.size := by
        obtain ⟨o, ho, _⟩ := p2
        exact Heap.lt_size ho
      refine call_enumT p2 fun h' he hit hk => wpAny_pyIter_enum he ?_
      exact ⟨_, [s1.heap.objs.size + 1, s1.heap.objs.size], _, _, H1, rfl, I1.kept (t' := s1.toks) hk, turn_enumT a (s1.heap.objs.size + 1) s1.heap.objs.size (Nat.ne_of_gt (Nat.lt_succ_of_lt lt)) (Nat.ne_of_lt lt), ⟨⟨.none, he⟩, hit, Nat.succ_ne_self _⟩, fresh, q⟩⟩
end
end PB
end
section
set_option Elab.async false
set_option linter.all false
set_option maxRecDepth 100000
/-! PBSnd9: for, comprehensions. -/
namespace PB
open PySem PySem.Spec PyProof.Rows L2
variable [PB.TBL]
section
variable {T : Tab} {K : PySem.W.Frag} {H H' H0 H1 H2 : Hp} {ρ ρ' ρ0 ρ1 ρ2 : List Addr} {m m' m0 m1 : Mem} {W : WX}
/-- what the walker gives is what the iterator gives -/
def Feeds (K : PySem.W.Frag) (ρ0 : List Addr) (H0 : Hp) (J : It) (P : Nat → Wk → Prop) : Prop := ∀ i w ρ H m kd z, P i w → Fr ρ0 H0 ρ H → Rep K H ρ m → w.step m kd z = true →
  (J.stop i H ∧ z = true) ∨ (J.go i H ∧ ∃ d w', P (i + 1) w' ∧ kd d w' = true ∧ ∀ x H', J.yld i H x H' → Fr ρ H ρ H' ∧ Rep K H' ρ m ∧ RI K H' ρ d x)
def rdI (T : Tab) (K : PySem.W.Frag) (W : WX) (e : Ix) : TI := fun st H R => ∃ ρ σ m x k, Rep K H ρ m ∧ Slots K H ρ σ st ∧ e σ m x k = true ∧ (∀ ρ' w m' H' J P, Fr ρ H ρ' H' → Rep K H' ρ' m' → Feeds K ρ' H' J P → P 0 w → k w m' = true → R J H') ∧ XOk T K ρ H x W
theorem pi_imp {X : Cx} {tg e : Expr} {t u : TI} (h : PI X tg e t) (i : ∀ st H Q, u st H Q → t st H Q) : PI X tg e u := ⟨fun pins s st H Q I q => h.run pins s st H Q I (i st H Q q)⟩
/-- items handed out one by one -/
theorem feed_fix {J : It} {ds : List D} (go : ∀ i d ρ H m, ds[i]? = some d → Fr ρ0 H0 ρ H → Rep K H ρ m → J.go i H ∧ ∀ x H', J.yld i H x H' → Fr ρ H ρ H' ∧ Rep K H' ρ m ∧ RI K H' ρ d x) (stop : ∀ ρ H, Fr ρ0 H0 ρ H → J.stop ds.length H) : Feeds K ρ0 H0 J fun i w => i ≤ ds.length ∧ w = .fix (ds.drop i) := by
  rintro i w ρ H m kd z ⟨hi, rfl⟩ f R e
  unfold Wk.step at e
  dsimp only at e
  cases q : ds.drop i with
  | nil =>
    rw [q] at e
    have l := congrArg List.length q
    rw [List.length_drop, List.length_nil] at l
    have l2 : i = ds.length := by omega
    subst l2
    exact .inl ⟨stop ρ H f, e⟩
  | cons d r =>
    rw [q] at e
    have hd : ds[i]? = some d := by
      rw [← List.head?_drop, q]
      rfl
    obtain ⟨g, y⟩ := go i d ρ H m hd f R
    refine .inr ⟨g, d, _, ⟨(List.getElem?_eq_some_iff.mp hd).1, ?_⟩, e, y⟩
    rw [← List.drop_drop, q]
    rfl
theorem feed_tup {a : Addr} {vs : List V} {ds : List D} (R0 : Rep K H0 ρ0 m0) (hq : SqT K H0 a vs) (h : RIs K H0 ρ0 ds vs) : Feeds K ρ0 H0 (Itt K a) fun i w => i ≤ ds.length ∧ w = .fix (ds.drop i) := by
  refine feed_fix (fun i d ρ H m hd f R => ?_) fun ρ H f => ⟨vs, (R0.ts f).sq hq, by rw [h.length]; exact Nat.le_refl _⟩
  obtain ⟨v, hv, r⟩ := h.at hd
  refine ⟨⟨vs, v, (R0.ts f).sq hq, hv⟩, fun x H' ⟨e, y⟩ => ?_⟩
  subst e
  obtain rfl := Option.some.inj (hv.symm.trans (y vs ((R0.ts f).sq hq)))
  exact ⟨Fr.refl, R, r.fr R0 f⟩
theorem pair_ri {H : Hp} {ρ : List Addr} {m : Mem} (R : Rep K H ρ m) {p : Addr} (hp : H p = none) {d : D} {v : V} (i : Nat) (h : RI K H ρ d v) : Fr ρ H ρ (upd H p (.tup [.int (i : Nat), v])) ∧ Rep K (upd H p (.tup [.int (i : Nat), v])) ρ m ∧ RI K (upd H p (.tup [.int (i : Nat), v])) ρ (pairD i d) (.ref p) := by
  refine ⟨Fr.same (same_new hp), R.same (same_new hp), ?_⟩
  have h' : RI K (upd H p (.tup [.int (i : Nat), v])) ρ d v := h.mono (ts_new hp) fun _ _ h => h
  have z : [V.int (i : Nat), v].length ≤ sizeLine := by
    rw [sizeLine_eq]
    show 2 ≤ 16777216
    omega
  have other : RI K (upd H p (.tup [.int (i : Nat), v])) ρ (.tr [iN i, d]) (.ref p) := .tr (SqT.of upd_same) (.cons (.p (.int _)) (.cons h' .nil)) z
  cases d with
  | p x => exact .p (.tup (SqT.of upd_same) (.cons (.int _) (.cons (ri_p h') .nil)) z)
  | un => exact other
  | ref n => exact other
  | tmp ds => exact other
  | tr ds => exact other
theorem enumF_at : ∀ (ds : List D) (i n : Nat) (e : D), (enumF n ds)[i]? = some e → ∃ d, ds[i]? = some d ∧ e = pairD (n + i) d
  | [], i, n, e, h => by simp [enumF] at h
  | d :: r, 0, n, e, h => ⟨d, rfl, (Option.some.inj (show some (pairD n d) = some e from h)).symm⟩
  | d :: r, i + 1, n, e, h => by
    obtain ⟨d', h1, h2⟩ := enumF_at r i (n + 1) e (by simpa [enumF] using h)
    exact ⟨d', by rw [List.getElem?_cons_succ]; exact h1, by rw [h2, Nat.add_assoc, Nat.add_comm 1 i]⟩
theorem enumF_len : ∀ (ds : List D) (n : Nat), (enumF n ds).length = ds.length
  | [], _ => rfl
  | d :: r, n => by
    show (enumF (n + 1) r).length + 1 = r.length + 1
    rw [enumF_len]
theorem feed_enT {a : Addr} {vs : List V} {ds : List D} (R0 : Rep K H0 ρ0 m0) (hq : SqT K H0 a vs) (h : RIs K H0 ρ0 ds vs) : Feeds K ρ0 H0 (IteT K a) fun i w => i ≤ (enumF 0 ds).length ∧ w = .fix ((enumF 0 ds).drop i) := by
  refine feed_fix (fun i e ρ H m hd f R => ?_) fun ρ H f => ⟨vs, (R0.ts f).sq hq, by rw [enumF_len, h.length]⟩
  obtain ⟨d, hd2, rfl⟩ := enumF_at ds i 0 e hd
  rw [Nat.zero_add]
  obtain ⟨v, hv, r⟩ := h.at hd2
  refine ⟨⟨vs, v, (R0.ts f).sq hq, hv⟩, fun x H' ⟨p, y, ex, hp, eH, hy⟩ => ?_⟩
  subst ex eH
  obtain rfl := Option.some.inj (hv.symm.trans (hy vs ((R0.ts f).sq hq)))
  exact pair_ri R hp i (r.fr R0 f)
theorem lstAt_ok {r i : Nat} {kd : D → Nat → Bool} {z : Bool} {a : Addr} (R : Rep K H ρ m) (hr : ρ[r]? = some a) (e : lstAt r i m kd z = true) : ∃ vs, SqL K H a vs ∧ ((vs.length ≤ i ∧ z = true) ∨ ∃ d v, vs[i]? = some v ∧ RI K H ρ d v ∧ kd d (i + 1) = true) := by
  unfold lstAt at e
  have ro := R.obj r a hr
  split at e
  · rename_i n fw rv hb q
    rw [q] at ro
    have both : ∀ {vs : List V}, SqL K H a vs → RIs K H ρ (fw ++ rv.reverse) vs → n = vs.length → ∃ vs, SqL K H a vs ∧ ((vs.length ≤ i ∧ z = true) ∨ ∃ d v, vs[i]? = some v ∧ RI K H ρ d v ∧ kd d (i + 1) = true) := fun {vs} h1 h2 h3 => by
      refine ⟨vs, h1, ?_⟩
      split at e
      · rename_i l
        rw [fN_eq] at e
        have fin : ixK (fw ++ rv.reverse) i (fun d => kd d (Nat.succ i)) = true → ∃ d v, vs[i]? = some v ∧ RI K H ρ d v ∧ kd d (i + 1) = true := fun e => by
          obtain ⟨d, g1, g2⟩ := ixK_eq _ _ _ e
          obtain ⟨v, g3, g4⟩ := h2.at g1
          exact ⟨d, v, g3, g4, g2⟩
        split at e
        · exact .inr (fin (by simpa using e))
        · exact .inr (fin e)
      · rename_i l
        refine .inl ⟨?_, e⟩
        have : ¬ i < n := fun z => by
          rw [Nat.blt_eq.mpr z] at l
          cases l
        omega
    cases ro with
    | lst h1 h2 h3 h4 => exact both (SqL.of h1) h2 h3
    | lstL h1 h2 h3 h4 => exact both (.inl (.inr ⟨_, h1⟩)) h2 h3
  · cases e
theorem feed_lst {r : Nat} {a : Addr} (hr : ρ0[r]? = some a) : Feeds K ρ0 H0 (Itl K a) fun i w => w = .at r i := by
  rintro i w ρ H m kd z rfl f R e
  obtain ⟨vs, ha, ⟨l, q⟩ | ⟨d, v, hv, rd, q⟩⟩ := lstAt_ok R (f.at hr) e
  · exact .inl ⟨⟨vs, ha, l⟩, q⟩
  · refine .inr ⟨⟨vs, v, ha, hv⟩, d, _, rfl, q, fun x H' ⟨e, y⟩ => ?_⟩
    subst e
    obtain rfl := Option.some.inj (hv.symm.trans (y vs (ha)))
    exact ⟨Fr.refl, R, rd⟩
theorem feed_en {r : Nat} {a : Addr} (hr : ρ0[r]? = some a) : Feeds K ρ0 H0 (Ite K a) fun i w => w = .en r i := by
  rintro i w ρ H m kd z rfl f R e
  obtain ⟨vs, ha, ⟨l, q⟩ | ⟨d, v, hv, rd, q⟩⟩ := lstAt_ok R (f.at hr) e
  · exact .inl ⟨⟨vs, ha, l⟩, q⟩
  · refine .inr ⟨⟨vs, v, ha, hv⟩, _, _, rfl, q, fun x H' ⟨p, y, ex, hp, eH, hy⟩ => ?_⟩
    subst ex eH
    obtain rfl := Option.some.inj (hv.symm.trans (hy vs (ha)))
    exact pair_ri R hp i rd
theorem feed_rng {lo hi : Int} : Feeds K ρ0 H0 (Itr lo (hi - lo).toNat) fun i w => i ≤ (hi - lo).toNat ∧ w = .rng (lo + i) hi := by
  rintro i w ρ H m kd z ⟨l, rfl⟩ f R e
  unfold Wk.step at e
  dsimp only at e
  rw [ilt_iff] at e
  by_cases c : lo + (i : Int) < hi
  · rw [decide_eq_true c] at e
    dsimp only at e
    rw [fI_eq] at e
    refine .inr ⟨show i < _ by omega, _, _, ⟨by omega, ?_⟩, e, fun x H' ⟨e, y⟩ => ?_⟩
    · show Wk.rng (lo + (i : Int) + 1) hi = _
      congr 1
      omega
    · subst e y
      exact ⟨Fr.refl, R, .p (.int _)⟩
  · rw [decide_eq_false c] at e
    exact .inl ⟨show _ ≤ i by omega, e⟩
theorem feed_items {a : Addr} {ob : Obj} {kv : List (P × D)} {kvs : List (Key × V)} (R0 : Rep K H0 ρ0 m0) (hq : H0 a = some (.frz ob (.dK kvs))) (h : RKs K H0 ρ0 kv kvs) : Feeds K ρ0 H0 (Iti a ob kvs) fun i w => i ≤ (itemsOf kv).length ∧ w = .fix ((itemsOf kv).drop i) := by
  have len : ∀ {kv : List (P × D)} {kvs : List (Key × V)}, RKs K H0 ρ0 kv kvs → (itemsOf kv).length = kvs.length := fun h => by
    induction h with
    | nil => rfl
    | @cons x d kv k v kvs hx hd hs ih =>
      cases d <;> exact congrArg Nat.succ ih
  have at' : ∀ {kv : List (P × D)} {kvs : List (Key × V)}, RKs K H0 ρ0 kv kvs → ∀ {i : Nat} {e : D}, (itemsOf kv)[i]? = some e → ∃ x d k v, kvs[i]? = some (k, v) ∧ RK x k ∧ RI K H0 ρ0 d v ∧ (e = .tr [.p x, d] ∨ ∃ y, d = .p y ∧ e = .p (.tup [x, y])) := fun h => by
    induction h with
    | nil => exact fun h => by simp [itemsOf] at h
    | @cons x d kv k v kvs hx hd hs ih =>
      intro i e h
      cases i with
      | zero =>
        refine ⟨x, d, k, v, rfl, hx, hd, ?_⟩
        cases d with
        | p y => exact .inr ⟨y, rfl, (Option.some.inj (show some (D.p (.tup [x, y])) = some e from h)).symm⟩
        | un => exact .inl (Option.some.inj h).symm
        | ref _ => exact .inl (Option.some.inj h).symm
        | tmp _ => exact .inl (Option.some.inj h).symm
        | tr _ => exact .inl (Option.some.inj h).symm
      | succ i =>
        have h' : (itemsOf kv)[i]? = some e := by cases d <;> exact h
        exact ih h'
  refine feed_fix (fun i e ρ H m hd f R => ?_) fun ρ H f => ⟨f.fz _ _ _ hq, by rw [len h]; exact Nat.le_refl _⟩
  obtain ⟨x, d, k, v, hkv, hx, hd', he⟩ := at' h hd
  refine ⟨⟨f.fz _ _ _ hq, (List.getElem?_eq_some_iff.mp hkv).1⟩, fun y H' ⟨p, k', v', hkv', ey, hp, eH⟩ => ?_⟩
  subst ey eH
  obtain ⟨rfl, rfl⟩ := Prod.mk.inj (Option.some.inj (hkv.symm.trans hkv'))
  refine ⟨Fr.same (same_new hp), R.same (same_new hp), ?_⟩
  have z : [kV k, v].length ≤ sizeLine := by
    rw [sizeLine_eq]
    show 2 ≤ 16777216
    omega
  have rx : RP K (upd H p (.tup [kV k, v])) x (kV k) := by
    cases hx with
    | int i => exact .int i
    | str q => exact .str q
  have rd : RI K (upd H p (.tup [kV k, v])) ρ d v := (hd'.fr R0 f).mono (ts_new hp) fun _ _ h => h
  rcases he with rfl | ⟨y, rfl, rfl⟩
  · exact .tr (SqT.of upd_same) (.cons (.p rx) (.cons rd .nil)) z
  · exact .p (.tup (SqT.of upd_same) (.cons rx (.cons (ri_p rd) .nil)) z)
end
section
variable {T : Tab} {X : Cx} {W : WX} {a b o e tg iter : Expr} {ea eb eo ei ec : Ex} {es : List Expr} {al : Ax} {pos p : Pos} {g : Gx} {gs : Gs} {ms : Sx} {ix : Ix} {body : List Stmt}
/-! ### what is walked -/
theorem lst_at {K : PySem.W.Frag} {H H0 : Hp} {ρ : List Addr} {m : Mem} {r : Nat} {v : V} (R : Rep K H ρ m) (h : RX K H0 H ρ (.ref r) v) (e : isLst (.ref r) m = true) : ∃ a vs, v = .ref a ∧ ρ[r]? = some a ∧ SqL K H a vs := by
  obtain ⟨a, rfl, hi, hb, ro⟩ := ref_ok R h
  unfold isLst at e
  dsimp only at e
  split at e
  · rename_i q
    rw [q] at ro
    cases ro with
    | lst h1 _ _ _ => exact ⟨a, _, rfl, hi, SqL.of h1⟩
    | lstL h1 _ _ _ => exact ⟨a, _, rfl, hi, .inl (.inr ⟨_, h1⟩)⟩
  · cases e
theorem fL_eq {α : Type} : ∀ (l : List α) (k : List α → Bool), fL l k = k l
  | [], _ => rfl
  | a :: r, k => fL_eq r fun r => k (a :: r)
theorem normK_ok {K : PySem.W.Frag} {H : Hp} {ρ : List Addr} {m : Mem} {r : Nat} {a : Addr} {k : Mem → Bool} (R : Rep K H ρ m) (hi : ρ[r]? = some a) (e : normK m r k = true) : ∃ m', Rep K H ρ m' ∧ k m' = true := by
  unfold normK at e
  split at e
  · rename_i lk n fw d rv q
    rw [fL_eq] at e
    refine ⟨_, R.relock hi ?_ ?_, e⟩
    · have ro := R.obj r a hi
      rw [q] at ro
      cases ro with
      | lst h1 h2 h3 h4 => exact .lst h1 (by simpa using h2) h3 h4
      | lstL h1 h2 h3 h4 => exact .lstL h1 (by simpa using h2) h3 h4
    · have t := R.top r (R.lt hi)
      rw [q] at t
      show max (topDs (fw ++ (d :: rv).reverse)) (topDs []) ≤ _
      rw [topDs_app, topDs_rev]
      exact Nat.max_le.mpr ⟨t, Nat.zero_le _⟩
  · exact ⟨m, R, e⟩
theorem si_seq (he : PE X e (rdE T X.K W ea)) : PI X tg e (rdI T X.K W (iSeq ea)) := pi_imp (pi_sq he) fun st H Q ⟨ρ, σ, m, x, k, R, S, e, hk, hx⟩ => by
  refine ⟨ρ, σ, m, x, _, R, S, e, fun ρ1 d1 m1 v1 H1 f1 R1 r1 q1 => ?_, hx⟩
  obtain ⟨ρ2, d2, m2, f2, f2', R2, r2, _, q2⟩ := lay_ok f1 R1 r1 q1
  split at q2
  · obtain ⟨a, vs, rfl, h1, h2, z⟩ := rx_tup (ri_rx r2)
    exact ⟨a, vs, rfl, .inr ⟨h1, hk ρ2 _ m2 H1 _ _ f2 R2 (feed_tup R2 h1 (wraps_ri h2)) ⟨Nat.zero_le _, rfl⟩ q2⟩⟩
  · obtain ⟨a, vs, rfl, h1, h2, z⟩ := rx_tr (ri_rx r2)
    exact ⟨a, vs, rfl, .inr ⟨h1, hk ρ2 _ m2 H1 _ _ f2 R2 (feed_tup R2 h1 h2) ⟨Nat.zero_le _, rfl⟩ q2⟩⟩
  · split at q2
    · rename_i c
      obtain ⟨a, vs, rfl, hi, ha⟩ := lst_at R2 (ri_rx r2) c
      obtain ⟨m3, R3, q3⟩ := normK_ok R2 hi q2
      exact ⟨a, vs, rfl, .inl ⟨ha, hk ρ2 _ m3 H1 _ _ f2 R3 (feed_lst hi) rfl q3⟩⟩
    · cases q2
  · cases q2
theorem si_enum {tpos : Pos} {elts : List Expr} {kk : Nat} (hg : Gl X "enumerate") (hm : X.mg "enumerate" = none) (he : PE X e (rdE T X.K W ea)) (hs : starEach [e] X.env = [(false, eval e X.env)] := by rfl) (ha : PA X [e] (rdA T X.K W (aCons ea aNil))) :
    PI X (.Tuple elts kk tpos) (.Call (.Name "enumerate" p) [e] [] pos) (rdI T X.K W (iEnum ea)) := pi_imp (pi_en hg hm ha hs) fun st H Q ⟨ρ, σ, m, x, k, R, S, e, hk, hx⟩ => by
  refine ⟨ρ, σ, m, x, fun ds m => match ds with
    | [d] => (match d with
      | .p (.tup xs) => k (.fix (enumF 0 (wraps xs))) m
      | .tr ds => k (.fix (enumF 0 ds)) m
      | .ref r => match isLst (.ref r) m with
        | true => normK m r fun m => k (.en r 0) m
        | false => false
      | _ => false)
    | _ => false, R, S, e, fun ρ1 ds m1 vs H1 f1 R1 r1 q1 => ?_, hx⟩
  dsimp only at q1
  split at q1
  · rename_i d
    cases r1 with
    | cons r1 rr =>
      cases rr
      split at q1
      · obtain ⟨a, vs, rfl, h1, h2, z⟩ := rx_tup (ri_rx r1)
        exact ⟨a, vs, rfl, .inr ⟨h1, hk ρ1 _ m1 H1 _ _ f1 R1 (feed_enT R1 h1 (wraps_ri h2)) ⟨Nat.zero_le _, rfl⟩ q1⟩⟩
      · obtain ⟨a, vs, rfl, h1, h2, z⟩ := rx_tr (ri_rx r1)
        exact ⟨a, vs, rfl, .inr ⟨h1, hk ρ1 _ m1 H1 _ _ f1 R1 (feed_enT R1 h1 h2) ⟨Nat.zero_le _, rfl⟩ q1⟩⟩
      · split at q1
        · rename_i c
          obtain ⟨a, vs, rfl, hi, ha⟩ := lst_at R1 (ri_rx r1) c
          obtain ⟨m3, R3, q3⟩ := normK_ok R1 hi q1
          exact ⟨a, vs, rfl, .inl ⟨ha, hk ρ1 _ m3 H1 _ _ f1 R3 (feed_en hi) rfl q3⟩⟩
        · cases q1
      · cases q1
  · cases q1
theorem small_ok {i : Int} (h : small62 i = true) : -(2 ^ 62) ≤ i ∧ i < 2 ^ 62 := by
  have := Nat.blt_eq.mp (show Nat.blt i.natAbs 4611686018427387904 = true from h)
  omega
theorem si_rng1 (hg : Gl X "range") (hm : X.mg "range" = none) (ha : PA X [a] (rdA T X.K W (aCons ea aNil))) (hs : starEach [a] X.env = [(false, eval a X.env)] := by rfl) : PI X tg (.Call (.Name "range" p) [a] [] pos) (rdI T X.K W (iRng1 ea)) := pi_imp (pi_range1 hg hm ha hs) fun st H Q ⟨ρ, σ, m, x, k, R, S, e, hk, hx⟩ => by
  refine ⟨ρ, σ, m, x, fun ds m => match ds with
    | [d] => (match d with
      | .p (.int j) => (match small62 j with
        | true => k (.rng 0 j) m
        | false => false)
      | _ => false)
    | _ => false, R, S, e, fun ρ1 ds m1 vs H1 f1 R1 r1 q1 => ?_, hx⟩
  dsimp only at q1
  split at q1
  · split at q1
    · rename_i j
      split at q1
      · rename_i z
        obtain ⟨z1, z2⟩ := small_ok z
        cases r1 with
        | cons r1 rr =>
          cases rr
          obtain rfl := rx_int (ri_rx r1)
          refine ⟨j, rfl, z1, z2, ?_⟩
          have := hk ρ1 (.rng 0 j) m1 H1 (Itr 0 (j - 0).toNat) _ f1 R1 (feed_rng (lo := 0) (hi := j)) ⟨Nat.zero_le _, by simp⟩ q1
          rw [Int.sub_zero] at this
          exact this
      · cases q1
    · cases q1
  · cases q1
theorem si_rng2 (hg : Gl X "range") (hm : X.mg "range" = none) (ha : PA X [a, b] (rdA T X.K W (aCons ea (aCons eb aNil)))) (hs : starEach [a, b] X.env = [(false, eval a X.env), (false, eval b X.env)] := by rfl) (hs2 : starEach [b] X.env = [(false, eval b X.env)] := by rfl) : PI X tg (.Call (.Name "range" p) [a, b] [] pos) (rdI T X.K W (iRng2 ea eb)) := pi_imp (pi_range2 hg hm ha hs hs2) fun st H Q ⟨ρ, σ, m, x, k, R, S, e, hk, hx⟩ => by
  refine ⟨ρ, σ, m, x, fun ds m => match ds with
    | [d, e] => (match d, e with
      | .p (.int i), .p (.int j) => (match small62 i && small62 j with
        | true => k (.rng i j) m
        | false => false)
      | _, _ => false)
    | _ => false, R, S, e, fun ρ1 ds m1 vs H1 f1 R1 r1 q1 => ?_, hx⟩
  dsimp only at q1
  split at q1
  · split at q1
    · rename_i i j
      split at q1
      · rename_i z
        rw [Bool.and_eq_true] at z
        obtain ⟨z1, z2⟩ := small_ok z.1
        obtain ⟨z3, z4⟩ := small_ok z.2
        cases r1 with
        | cons r1 rr =>
          cases rr with
          | cons r2 rr =>
            cases rr
            obtain rfl := rx_int (ri_rx r1)
            obtain rfl := rx_int (ri_rx r2)
            exact ⟨i, j, rfl, ⟨z1, z2, z3, z4⟩, hk ρ1 (.rng i j) m1 H1 (Itr i (j - i).toNat) _ f1 R1 (feed_rng (lo := i) (hi := j)) ⟨Nat.zero_le _, by simp⟩ q1⟩
      · cases q1
    · cases q1
  · cases q1
/-! ### for -/
theorem for_of {J : It} {P : Nat → Wk → Prop} {ρ1 : List Addr} {H1 : Hp} {m1 : Mem} {σ : Sl} {st : L2.St} {k : KN} {ks : Ks} {D : Ends} {w : Wk} {tb : L2.TS} {tg' : TG} (hb : tb = rdS T X.K W ms) (hg : tg' = rdG T X.K W g) (R : Rep X.K H1 ρ1 m1) (S : Slots X.K H1 ρ1 σ st) (feed : Feeds X.K ρ1 H1 J P) (p0 : P 0 w)
    (hk : NOk X.K ρ1 H1 k D.nx) (hx : XOk T X.K ρ1 H1 ks.x W) (hr : KOk X.K ρ1 H1 ks.r D.rt) (q : forG g ms ks k fuel w σ m1 = true) : ∃ Wn : Nat → Nat → L2.St → Hp → Prop, (∃ m, Wn 0 m st H1) ∧ ∀ i m σ H, Wn i m σ H →
  (J.stop i H ∧ D.nx σ H) ∨ (J.go i H ∧ ∃ N : L2.St → Hp → Prop, (∀ σ' H', N σ' H' → ∃ m', m' < m ∧ Wn (i + 1) m' σ' H') ∧ ∀ x H', J.yld i H x H' → tg' x σ H' fun σ2 H2 => tb { D with nx := N, ct := N, bk := D.nx } σ2 H2) := by
  subst hb hg
  refine ⟨fun i n st' H' => ∃ ρ' σ' m' w, Fr ρ1 H1 ρ' H' ∧ Rep X.K H' ρ' m' ∧ Slots X.K H' ρ' σ' st' ∧ P i w ∧ forG g ms ks k n w σ' m' = true, ⟨fuel, ρ1, σ, m1, w, Fr.refl, R, S, p0, q⟩, ?_⟩
  rintro i n st2 H2 ⟨ρ2, σ2, m2, w2, f2, R2, S2, p2, q2⟩
  cases n with
  | zero => exact nomatch (show false = true from q2)
  | succ n =>
    have q2 : w2.step m2 (fun d w => g d σ2 m2 ks.x fun σ m => ms σ m ⟨ks.x, ks.r, k, forG g ms ks k n w⟩ (forG g ms ks k n w)) (k σ2 m2) = true := q2
    rcases feed i w2 ρ2 H2 m2 _ _ p2 f2 R2 q2 with ⟨stop, q3⟩ | ⟨go, d, w3, p3, q3, y⟩
    · exact .inl ⟨stop, hk ρ2 σ2 m2 st2 H2 f2 R2 S2 q3⟩
    · refine .inr ⟨go, _, fun st' H' h => ⟨n, Nat.lt_succ_self n, h⟩, fun x H3 hy => ?_⟩
      obtain ⟨f3, R3, r3⟩ := y x H3 hy
      have f := f2.trans f3
      refine ⟨ρ2, σ2, d, m2, ks.x, _, R3, S2.fr R2 f3, r3, q3, fun ρ4 σ4 m4 st4 H4 _ f4 R4 S4 q4 => ?_, hx.fr f⟩
      have f := f.trans f4
      have again : NOk X.K ρ4 H4 (forG g ms ks k n w3) (fun st' H' => ∃ ρ' σ' m' w, Fr ρ1 H1 ρ' H' ∧ Rep X.K H' ρ' m' ∧ Slots X.K H' ρ' σ' st' ∧ P (i + 1) w ∧ forG g ms ks k n w σ' m' = true) := fun ρ5 σ5 m5 st5 H5 f5 R5 S5 q5 => ⟨ρ5, σ5, m5, w3, f.trans f5, R5, S5, p3, q5⟩
      exact ⟨ρ4, σ4, m4, _, _, R4, S4, q4, again, ⟨hx.fr f, hr.fr f R4, hk.fr f, again⟩⟩
theorem sp_for (G : Good X W) (hp : PassesOwn (model X.prog X.w) X.A X.env X.xe) (hi : PI X tg iter (rdI T X.K W ix)) (hg : PG X tg (rdG T X.K W g)) (hb : PSs X body (rdS T X.K W ms)) (hs : ∀ x, foldedSetIterable iter X.env x = pure x := by intro _; rfl) : PS X (.For tg iter body [] pos) (rdS T X.K W (sFor ix g ms)) := ps_imp (ps_for hp G.calm hi hg hb hs) fun D st H ⟨ρ, σ, m, ks, k, R, S, e, hk, hx⟩ => by
  refine ⟨ρ, σ, m, ks.x, _, R, S, e, fun ρ1 w m1 H1 J P f1 R1 feed p0 q1 => ?_, hx.x⟩
  exact for_of rfl rfl R1 (S.fr R f1) feed p0 (hk.fr f1) (hx.x.fr f1) (hx.r.fr f1 R1) q1
/-- for k, v in d.items(), d a name -/
theorem lockK_ok {K : PySem.W.Frag} {ρ : List Addr} {H : Hp} {m : Mem} {σ : Sl} {st : L2.St} {i : Nat} {k : Nat → List (P × D) → Mem → Bool} (R : Rep K H ρ m) (S : Slots K H ρ σ st) (e : lockK i σ m k = true) :
    ∃ r a kv kvs, st[i]? = some (some (.ref a)) ∧ ρ[r]? = some a ∧ m.get r = .dct false kv ∧ H a = some (.dK kvs) ∧ RKs K H ρ kv kvs ∧ k r kv (m.set r (.dct true kv)) = true ∧ ∀ od, Rep K (upd H a (.frz od (.dK kvs))) ρ (m.set r (.dct true kv)) ∧ Fr ρ H ρ (upd H a (.frz od (.dK kvs))) := by
  unfold lockK at e
  split at e
  · rename_i r q
    obtain ⟨v, h1, h2⟩ := S.2 i _ q fun z => nomatch z
    obtain ⟨a, rfl, hi, hb, ro⟩ := ref_ok R (ri_rx h2)
    split at e
    · rename_i kv hb2 q2
      obtain ⟨kvs, g1, g2, g3⟩ := R.lockD hi q2
      exact ⟨r, a, kv, kvs, h1, hi, q2, g1, g2, e, g3⟩
    · cases e
  · cases e
theorem sp_forI (G : Good X W) (hp : PassesOwn (model X.prog X.w) X.A X.env X.xe) (i : Nat) {x : Str} {elts : List Expr} {kk : Nat} {tpos apos cpos : Pos} (hN : X.N[i]? = some x) (hv : Vis X.env.scope x) (hg : PG X (.Tuple elts kk tpos) (rdG T X.K W g)) (hb : PSs X body (rdS T X.K W ms)) (hd : (x == ("__debug__" : Str)) = false := by decide) (hcd : (x == ("__classdict__" : Str)) = false := by decide)
    (hbase : attributeBase (.Name x p) "items" X.env (eval (.Name x p) X.env) = eval (.Name x p) X.env := by rfl) (hline : (apos.endLine == cpos.line) = true := by rfl)
    (hs : ∀ v, foldedSetIterable (.Call (.Attribute (.Name x p) "items" apos) [] [] cpos) X.env v = pure v := by intro _; rfl) : PS X (.For (.Tuple elts kk tpos) (.Call (.Attribute (.Name x p) "items" apos) [] [] cpos) body [] pos) (rdS T X.K W (sForI i g ms)) := ps_imp (ps_lock (ps_for hp G.calm (pi_items (pe_var hN hv hd hcd) hbase hline) hg hb hs)) fun D st H ⟨ρ, σ, m, ks, k, R, S, e, hk, hx⟩ => by
  obtain ⟨r, a, kv, kvs, h1, h2, h3, h4, h5, e, h6⟩ := lockK_ok R S e
  refine ⟨a, _, h4, trivial, fun od => ?_⟩
  obtain ⟨R1, f1⟩ := h6 od
  refine ⟨.ref a, h1, a, od, kvs, rfl, upd_same, ?_⟩
  have fin : ∀ {ρ' : List Addr} {H' : Hp} {m' : Mem}, Fr ρ (upd H a (.frz od (.dK kvs))) ρ' H' → Rep X.K H' ρ' m' → H' a = some (.frz od (.dK kvs)) ∧ Fr ρ H ρ' (upd H' a (.dK kvs)) ∧ Rep X.K (upd H' a (.dK kvs)) ρ' (m'.lock r false) ∧ PB.TS H' (upd H' a (.dK kvs)) := fun f R' => by
    obtain ⟨g1, g2⟩ := Fr.unlock h2 h4 f
    exact ⟨g1, g2, R'.unlockD (f.at h2) g1, R'.tsU (f.at h2)⟩
  have q0 : forG g ms ⟨ks.x, fun d m => ks.r d (m.lock r false), ks.b, ks.c⟩ (fun σ m => k σ (m.lock r false)) fuel (.fix ((itemsOf kv).drop 0)) σ (m.set r (.dct true kv)) = true := e
  refine for_of (ks := ⟨ks.x, fun d m => ks.r d (m.lock r false), ks.b, ks.c⟩) (k := fun σ m => k σ (m.lock r false)) (D := ⟨fun σ' H' => H' a = some (.frz od (.dK kvs)) ∧ D.nx σ' (upd H' a (.dK kvs)), fun v H' => H' a = some (.frz od (.dK kvs)) ∧ D.rt v (upd H' a (.dK kvs)), fun σ' H' => H' a = some (.frz od (.dK kvs)) ∧ D.bk σ' (upd H' a (.dK kvs)), fun σ' H' => H' a = some (.frz od (.dK kvs)) ∧ D.ct σ' (upd H' a (.dK kvs))⟩) rfl rfl R1 (S.fr R f1) (feed_items R1 upd_same (h5.mono (R.ts f1) fun _ _ h => h)) ⟨Nat.zero_le _, rfl⟩ (fun ρ' σ' m' st' H' f R' S' q => ?_) (hx.x.fr f1) (fun ρ' d m' v H' f R' r' q => ?_) q0
  · obtain ⟨g1, g2, g3, g4⟩ := fin f R'
    exact ⟨g1, hk ρ' σ' _ st' _ g2 g3 ⟨S'.1, fun j d e n => by
      obtain ⟨v, w1, w2⟩ := S'.2 j d e n
      exact ⟨v, w1, w2.mono g4 fun _ _ h => h⟩⟩ q⟩
  · obtain ⟨g1, g2, g3, g4⟩ := fin f R'
    refine ⟨g1, hx.r ρ' d _ v _ g2 g3 ?_ q⟩
    cases d with
    | tmp ds =>
      obtain ⟨b, vs, e1, e2, e3, e4, e5, e6⟩ := r'
      have ne : b ≠ a := fun z => by
        obtain ⟨ps, w⟩ := e2 _ (by rw [z, upd_same])
        cases w
      refine ⟨b, vs, e1, fun o ho => e2 o (by rw [upd_ne ne]; exact ho), ?_, e4, e5.mono g4 fun _ _ h => h, e6⟩
      · rw [upd_ne ne]
        exact e3
    | un => exact RI.mono g4 (fun _ _ h => h) r'
    | p x => exact RI.mono g4 (fun _ _ h => h) r'
    | ref n => exact RI.mono g4 (fun _ _ h => h) r'
    | tr ds => exact RI.mono g4 (fun _ _ h => h) r'
theorem ps_or2 {s : Stmt} {t u : L2.TS} (h1 : PS X s t) (h2 : PS X s u) : PS X s (fun D st H => t D st H ∨ u D st H) := ⟨fun pins s σ H D I h => h.elim (h1.run pins s σ H D I) (h2.run pins s σ H D I)⟩
theorem feed_lstL {K : PySem.W.Frag} {ρ0 : List Addr} {H0 : Hp} {m0 : Mem} {a : Addr} {ob : Obj} {vs : List V} {ds : List D} (R0 : Rep K H0 ρ0 m0) (hq : H0 a = some (.frz ob (.lst vs))) (h : RIs K H0 ρ0 ds vs) : Feeds K ρ0 H0 (Itl K a) fun i w => i ≤ ds.length ∧ w = .fix (ds.drop i) := by
  have sq : ∀ {ρ : List Addr} {H : Hp}, Fr ρ0 H0 ρ H → SqL K H a vs := fun f => .inl (.inr ⟨_, f.fz _ _ _ hq⟩)
  refine feed_fix (fun i d ρ H m hd f R => ?_) fun ρ H f => ⟨vs, sq f, by rw [h.length]; exact Nat.le_refl _⟩
  obtain ⟨v, hv, r⟩ := h.at hd
  refine ⟨⟨vs, v, sq f, hv⟩, fun x H' ⟨e, y⟩ => ?_⟩
  subst e
  obtain rfl := Option.some.inj (hv.symm.trans (y vs (sq f)))
  exact ⟨Fr.refl, R, r.fr R0 f⟩
/-- for x in a name -/
theorem sp_forN (G : Good X W) (hp : PassesOwn (model X.prog X.w) X.A X.env X.xe) (i : Nat) {x : Str} (hN : X.N[i]? = some x) (hv : Vis X.env.scope x) (hg : PG X tg (rdG T X.K W g)) (hb : PSs X body (rdS T X.K W ms)) (hd : (x == ("__debug__" : Str)) = false := by decide) (hcd : (x == ("__classdict__" : Str)) = false := by decide)
    (hs : ∀ v, foldedSetIterable (.Name x p) X.env v = pure v := by intro _; rfl) : PS X (.For tg (.Name x p) body [] pos) (rdS T X.K W (sForN i g ms)) := by
  have A := ps_for (pos := pos) hp G.calm (pi_sq (tg := tg) (pe_var (pos := p) hN hv hd hcd)) hg hb hs
  refine ps_imp (ps_or2 A (ps_lock A)) fun D st H ⟨ρ, σ, m, ks, k, R, S, e, hk, hx⟩ => ?_
  unfold sForN at e
  split at e
  · rename_i xs q
    obtain ⟨v, h1, h2⟩ := S.2 i _ q fun z => nomatch z
    obtain ⟨a, vs, rfl, g1, g2, z⟩ := rx_tup (ri_rx h2)
    exact .inl ⟨.ref a, h1, a, vs, rfl, .inr ⟨g1, for_of rfl rfl R S (feed_tup R g1 (wraps_ri g2)) ⟨Nat.zero_le _, rfl⟩ hk hx.x hx.r e⟩⟩
  · rename_i ds q
    obtain ⟨v, h1, h2⟩ := S.2 i _ q fun z => nomatch z
    obtain ⟨a, vs, rfl, g1, g2, z⟩ := rx_tr (ri_rx h2)
    exact .inl ⟨.ref a, h1, a, vs, rfl, .inr ⟨g1, for_of rfl rfl R S (feed_tup R g1 g2) ⟨Nat.zero_le _, rfl⟩ hk hx.x hx.r e⟩⟩
  · rename_i r q
    obtain ⟨v, h1, h2⟩ := S.2 i _ q fun z => nomatch z
    obtain ⟨a, rfl, hi, hb', ro⟩ := ref_ok R (ri_rx h2)
    split at e
    · rename_i n fw rv hb2 q2
      rw [fL_eq] at e
      obtain ⟨vs, h4, h5, h6⟩ := R.lockL hi q2
      refine .inr ⟨a, _, h4, trivial, fun od => ?_⟩
      obtain ⟨R1, f1⟩ := h6 od
      refine ⟨.ref a, h1, a, vs, rfl, .inl ⟨.inl (.inr ⟨od, upd_same⟩), ?_⟩⟩
      have fin : ∀ {ρ' : List Addr} {H' : Hp} {m' : Mem}, Fr ρ (upd H a (.frz od (.lst vs))) ρ' H' → Rep X.K H' ρ' m' → H' a = some (.frz od (.lst vs)) ∧ Fr ρ H ρ' (upd H' a (.lst vs)) ∧ Rep X.K (upd H' a (.lst vs)) ρ' (m'.lock r false) ∧ PB.TS H' (upd H' a (.lst vs)) := fun f R' => by
        obtain ⟨g1, g2⟩ := Fr.unlockL hi h4 f
        exact ⟨g1, g2, R'.unlockL (f.at hi) g1, R'.tsU (f.at hi)⟩
      have q0 : forG g ms ⟨ks.x, fun d m => ks.r d (m.lock r false), ks.b, ks.c⟩ (fun σ m => k σ (m.lock r false)) fuel (.fix ((fw ++ rv.reverse).drop 0)) σ (m.set r (.lst true n (fw ++ rv.reverse) [])) = true := e
      refine for_of (ks := ⟨ks.x, fun d m => ks.r d (m.lock r false), ks.b, ks.c⟩) (k := fun σ m => k σ (m.lock r false)) (D := ⟨fun σ' H' => H' a = some (.frz od (.lst vs)) ∧ D.nx σ' (upd H' a (.lst vs)), fun v H' => H' a = some (.frz od (.lst vs)) ∧ D.rt v (upd H' a (.lst vs)), fun σ' H' => H' a = some (.frz od (.lst vs)) ∧ D.bk σ' (upd H' a (.lst vs)), fun σ' H' => H' a = some (.frz od (.lst vs)) ∧ D.ct σ' (upd H' a (.lst vs))⟩) rfl rfl R1 (S.fr R f1) (feed_lstL R1 upd_same (h5.fr R f1)) ⟨Nat.zero_le _, rfl⟩ (fun ρ' σ' m' st' H' f R' S' q => ?_) (hx.x.fr f1) (fun ρ' d m' v H' f R' r' q => ?_) q0
      · obtain ⟨g1, g2, g3, g4⟩ := fin f R'
        exact ⟨g1, hk ρ' σ' _ st' _ g2 g3 ⟨S'.1, fun j d e n => by
          obtain ⟨v, w1, w2⟩ := S'.2 j d e n
          exact ⟨v, w1, w2.mono g4 fun _ _ h => h⟩⟩ q⟩
      · obtain ⟨g1, g2, g3, g4⟩ := fin f R'
        refine ⟨g1, hx.r ρ' d _ v _ g2 g3 ?_ q⟩
        cases d with
        | tmp ds =>
          obtain ⟨b, us, e1, e2, e3, e4, e5, e6⟩ := r'
          have ne : b ≠ a := fun z => by
            obtain ⟨ps, w⟩ := e2 _ (by rw [z, upd_same])
            cases w
          refine ⟨b, us, e1, fun o ho => e2 o (by rw [upd_ne ne]; exact ho), ?_, e4, e5.mono g4 fun _ _ h => h, e6⟩
          rw [upd_ne ne]
          exact e3
        | un => exact RI.mono g4 (fun _ _ h => h) r'
        | p x => exact RI.mono g4 (fun _ _ h => h) r'
        | ref n => exact RI.mono g4 (fun _ _ h => h) r'
        | tr ds => exact RI.mono g4 (fun _ _ h => h) r'
    · rename_i n fw rv hb2 q2
      rw [fL_eq] at e
      rw [q2] at ro
      cases ro with
      | lstL g1 g2 g3 g4 =>
        exact .inl ⟨.ref a, h1, a, _, rfl, .inl ⟨.inl (.inr ⟨_, g1⟩), for_of rfl rfl R S (feed_lstL R g1 g2) ⟨Nat.zero_le _, rfl⟩ hk hx.x hx.r e⟩⟩
    · cases e
  · cases e
end
end PB
end
section
set_option Elab.async false
set_option linter.all false
set_option maxRecDepth 100000
/-! PBSnd10: comprehensions. -/
namespace PB
open PySem PySem.Spec PyProof.Rows L2
variable [PB.TBL]
abbrev W0 : WX := fun _ _ _ _ => False
theorem xF_ok {T : Tab} {K : PySem.W.Frag} {ρ : List Addr} {H : Hp} {W : WX} : XOk T K ρ H xF W := fun _ _ _ _ _ _ _ _ _ _ _ q => nomatch (show false = true from q)
theorem wipe_sub (σ : L2.St) (vs : List Nat) : ∀ us : List Nat, (∀ u ∈ us, u ∈ vs) → wipe (wipe σ us) vs = wipe σ vs
  | [], _ => rfl
  | u :: us, h => by
    have e : wipe (wipe σ (u :: us)) vs = wipe (wipe σ us) vs := zOwn_set (h u List.mem_cons_self) (wipe σ us) none
    rw [e]
    exact wipe_sub σ vs us fun w hw => h w (List.mem_cons_of_mem _ hw)
section
variable {T : Tab} {K : PySem.W.Frag} {H H' H0 H1 H2 : Hp} {ρ ρ' ρ0 ρ1 ρ2 : List Addr} {m m' m0 m1 : Mem} {W : WX}
theorem Slots.un {σ : Sl} {st : L2.St} (S : Slots K H ρ σ st) (i : Nat) : Slots K H ρ (setN .un σ i) (st.set i none) := by
  rw [setN_eq]
  refine ⟨by rw [List.length_set, List.length_set]; exact S.1, fun j e he hn => ?_⟩
  rw [nth_eq] at he
  by_cases c : i = j
  · subst c
    have : (σ.set i .un).getD i .un = .un := by
      rw [List.getD_eq_getElem?_getD]
      by_cases l : i < σ.length
      · rw [List.getElem?_set_self l]
        rfl
      · rw [List.getElem?_eq_none (by rw [List.length_set]; exact Nat.le_of_not_lt l)]
        rfl
    rw [this] at he
    exact absurd he.symm hn
  · have : (σ.set i .un).getD j .un = σ.getD j .un := by
      rw [List.getD_eq_getElem?_getD, List.getElem?_set_ne c, ← List.getD_eq_getElem?_getD]
    rw [this, ← nth_eq] at he
    obtain ⟨w, h1, h2⟩ := S.2 j e he hn
    exact ⟨w, by rw [List.getElem?_set_ne c]; exact h1, h2⟩
theorem Slots.wipe {σ : Sl} {st : L2.St} (S : Slots K H ρ σ st) : ∀ vs : List Nat, Slots K H ρ (wipeD σ vs) (L2.wipe st vs)
  | [] => S
  | v :: vs => (Slots.wipe S vs).un v
/-- a list that nobody holds is written -/
theorem Rep.free (R : Rep K H ρ m) {D : Addr} {xs ys : List V} (h : H D = some (.lst xs)) (n : D ∉ ρ) : Rep K (upd H D (.lst ys)) ρ m ∧ PB.TS H (upd H D (.lst ys)) := by
  have t : PB.TS H (upd H D (.lst ys)) := fun b => by
    by_cases e : b = D
    · refine ⟨fun vs h' => ?_, fun o u h' => ?_, fun x h' => ?_⟩
      · rw [e, h] at h'
        cases h'
      · rw [e, h] at h'
        cases h'
      · rw [e, h] at h'
        cases h'
    · exact ⟨fun vs h' => by rw [upd_ne e]; exact h', fun o u h' => (by rw [upd_ne e]; exact h'), fun x h' => by rw [upd_ne e]; exact h'⟩
  exact ⟨⟨R.len, R.lo, R.nd, R.kn, fun i a ha => (R.obj i a ha).upd (fun z => n (z ▸ List.mem_of_getElem? ha)) t, R.top⟩, t⟩
theorem Fr.free (f : Fr ρ H ρ' H') {D : Addr} (h : H D = none) {o : HO} : Fr ρ H ρ' (upd H' D o) := ⟨f.pre, fun b x e nt n => by
  rw [upd_ne fun z => by rw [z, h] at e; cases e]
  exact f.st b x e nt n, fun b x u e => by
  rw [upd_ne fun z => by rw [z, h] at e; cases e]
  exact f.fz b x u e⟩
theorem lc_of {J : It} {P : Nat → Wk → Prop} {σ : Sl} {st : L2.St} {kf : List D → Mem → Bool} {Q : VK} {w : Wk} {g : Gx} {c e : Ex} {tt : TT} {te : TE} {tg : TG} {vs : List Nat} (hg : tg = rdZ (zOwn vs) T K W0 g) (ht : tt = rdT T K W0 c) (he : te = rdE T K W0 e)
    (R : Rep K H1 ρ1 m1) (S : Slots K H1 ρ1 σ st) (feed : Feeds K ρ1 H1 J P) (p0 : P 0 w)
    (hk : ∀ ρ' ds m' H' D us, Fr ρ1 H1 ρ' H' → Rep K H' ρ' m' → H1 D = none → D ∉ ρ' → H' D = some (.lst us) → RIs K H' ρ' ds us → us.length ≤ sizeLine → kf ds m' = true → Q (.ref D) H')
    (q : lcG g c e (wipeD σ vs) kf fuel w [] m1 = true) : ∀ D, H1 D = none → ∃ Wn : Nat → Nat → Hp → Prop, (∃ m, Wn 0 m (upd H1 D (.lst []))) ∧ ∀ i m H, Wn i m H →
  (J.stop i H ∧ Q (.ref D) H) ∨ (J.go i H ∧ ∃ Nx : Hp → Prop, (∀ H', Nx H' → ∃ m', m' < m ∧ Wn (i + 1) m' H') ∧ ∀ x H', J.yld i H x H' → tg x (wipe st vs) H' fun σ2 H2 => wipe σ2 vs = wipe st vs ∧ tt σ2 H2 fun b H3 =>
    if b = true then te σ2 H3 fun y H4 => ∃ acc, H4 D = some (.lst acc) ∧ acc.length < sizeLine ∧ Nx (upd H4 D (.lst (acc ++ [y]))) else Nx H3) := by
  subst hg ht he
  intro D hD
  refine ⟨fun i n H' => ∃ ρ' m' w acc us, Fr ρ1 H1 ρ' H' ∧ Rep K H' ρ' m' ∧ D ∉ ρ' ∧ H' D = some (.lst us) ∧ RIs K H' ρ' acc.reverse us ∧ P i w ∧ us.length + n ≤ fuel ∧ lcG g c e (wipeD σ vs) kf n w acc m' = true,
    ⟨fuel, ρ1, m1, w, [], [], fr_new hD, R.same (same_new hD), R.fresh hD, upd_same, .nil, p0, by show 0 + fuel ≤ fuel; omega, q⟩, ?_⟩
  rintro i n H2 ⟨ρ2, m2, w2, acc, us, f2, R2, n2, h2, r2, p2, l2, q2⟩
  have sl := sizeLine_eq
  have fu : fuel = 1000000 := rfl
  cases n with
  | zero => exact nomatch (show false = true from q2)
  | succ n =>
    have q2 : w2.step m2 (fun d w => g d (wipeD σ vs) m2 xF fun σ' m => c σ' m xF fun t m => asB t fun t => onB t (e σ' m xF fun d m => lay d m fun d m => lcG g c e (wipeD σ vs) kf n w (d :: acc) m) (lcG g c e (wipeD σ vs) kf n w acc m)) (kf acc.reverse m2) = true := q2
    rcases feed i w2 ρ2 H2 m2 _ _ p2 f2 R2 q2 with ⟨stop, q3⟩ | ⟨go, d, w3, p3, q3, y⟩
    · exact .inl ⟨stop, hk ρ2 _ m2 H2 D us f2 R2 hD n2 h2 r2 (by omega) q3⟩
    · refine .inr ⟨go, fun H' => ∃ ρ' m' acc us, Fr ρ1 H1 ρ' H' ∧ Rep K H' ρ' m' ∧ D ∉ ρ' ∧ H' D = some (.lst us) ∧ RIs K H' ρ' acc.reverse us ∧ us.length + n ≤ fuel ∧ lcG g c e (wipeD σ vs) kf n w3 acc m' = true, fun H' ⟨ρ', m', acc, us, h1, h2, h3, h4, h5, h6, h7⟩ => ⟨n, Nat.lt_succ_self n, ρ', m', w3, acc, us, h1, h2, h3, h4, h5, p3, h6, h7⟩, fun x H3 hy => ?_⟩
      obtain ⟨f3, R3, r3⟩ := y x H3 hy
      refine ⟨ρ2, wipeD σ vs, d, m2, xF, _, R3, (S.fr R (f2.trans f3)).wipe vs, r3, q3, fun ρ4 σ4 m4 st4 H4 z4 f4 R4 S4 q4 => ?_, xF_ok⟩
      refine ⟨z4.trans (wipe_sub st vs vs fun _ h => h), ρ4, σ4, m4, xF, fun t m => onB t (e σ4 m xF fun d m => lay d m fun d m => lcG g c e (wipeD σ vs) kf n w3 (d :: acc) m) (lcG g c e (wipeD σ vs) kf n w3 acc m), R4, S4, q4, fun ρ5 t m5 H5 f5 R5 q5 => ?_, xF_ok⟩
      have f35 := f3.trans (f4.trans f5)
      cases t with
      | false =>
        refine (if_neg Bool.false_ne_true).mpr ?_
        obtain ⟨g1, g2⟩ := f35.st D _ h2 (fun ps z => nomatch z) n2
        exact ⟨ρ5, m5, acc, us, f2.trans f35, R5, g2, g1, r2.fr R2 f35, by omega, q5⟩
      | true =>
        refine (if_pos rfl).mpr ?_
        refine ⟨ρ5, σ4, m5, xF, _, R5, S4.fr R4 f5, q5, fun ρ6 d6 m6 v6 H6 f6 R6 r6 q6 => ?_, xF_ok⟩
        obtain ⟨ρ7, d7, m7, f7, f7', R7, r7, _, q7⟩ := lay_ok f6 R6 r6 q6
        have f27 := f35.trans f7
        obtain ⟨g1, g2⟩ := f27.st D _ h2 (fun ps z => nomatch z) n2
        obtain ⟨R8, t8⟩ := R7.free (ys := us ++ [v6]) g1 g2
        refine ⟨us, g1, by omega, ρ7, m7, d7 :: acc, us ++ [v6], (f2.trans f27).free hD, R8, g2, upd_same, ?_, ?_, q7⟩
        · rw [List.reverse_cons]
          exact ((r2.fr R2 f27).append (.cons r7 .nil)).mono t8 fun _ _ h => h
        · rw [List.length_append]
          show us.length + 1 + n ≤ fuel
          omega
end
section
variable {T : Tab} {X : Cx} {W : WX} {elt tg iter : Expr} {ifs : List Expr} {scope : Scope} {own : List (Str × Nat)} {pos : Pos} {g : Gx} {c e : Ex} {ix : Ix}
theorem pts_imp {X : Cx} {ifs : List Expr} {t u : TT} (h : PTs X ifs t) (i : ∀ st H Q, u st H Q → t st H Q) : PTs X ifs u := ⟨fun pins s st H Q I q => h.run pins s st H Q I (i st H Q q)⟩
theorem sts_nil : PTs X [] (rdT T X.K W eTrue) := pts_imp pts_nil fun st H Q ⟨ρ, σ, m, x, k, R, S, e, hk, hx⟩ => hk ρ true m H Fr.refl R e
theorem sts_one {a : Expr} (h : PT X a (rdT T X.K W c)) : PTs X [a] (rdT T X.K W c) := pts_one h
/-- the block's context -/
abbrev Blk (X : Cx) (scope : Scope) (s : Shared) (H : Hp) (C : Addr) (cl : List (Str × Addr)) (fp : List Addr) : Cx := X.blk s H scope (compEnvC scope cl C X.env) fp
theorem good_blk (G : Good X W) (s : Shared) (H : Hp) (C : Addr) (cl : List (Str × Addr)) (fp : List Addr) : Good (Blk X scope s H C cl fp) W0 := ⟨G.calm, G.nd, fun u s' ⟨_, _, _, _, _, _, _, _, _, _, _, _, _, _, _, _, w⟩ => w, G.hu⟩
theorem comp_of (i : Nat) : ∀ st H Q, rdE T X.K W (eComp (own.map (·.2)) ix g c e) st H Q → tLc (rdI T X.K W ix) (rdZ (zOwn (own.map (·.2))) T X.K W0 g) (rdT T X.K W0 c) (rdE T X.K W0 e) (own.map (·.2)) st H Q := fun st H Q ⟨ρ, σ, m, x, k, R, S, q, hk, hx⟩ => by
  refine ⟨ρ, σ, m, x, _, R, S, q, fun ρ1 w m1 H1 J P f1 R1 feed p0 q1 => ?_, hx⟩
  refine lc_of rfl rfl rfl R1 (S.fr R f1) feed p0 (fun ρ' ds m' H' D us f R' hD nD h r z q => ?_) q1
  exact hk ρ' (.tmp ds) m' _ H' (f1.trans f) R' ⟨D, us, rfl, new_back f1 (fun z => nD ((f1.trans f).pre.elim fun x ex => ex ▸ List.mem_append_left _ z)) (NewS.of hD), h, nD, r, z⟩ q
theorem se_comp (G : Good X W) (own : List (Str × Nat)) (hi : PI X tg iter (rdI T X.K W ix)) (ok : BlkOk X.N X.env.scope scope own)
    (hg : ∀ s H C cl fp, Good (Blk X scope s H C cl fp) W0 → PG (Blk X scope s H C cl fp) tg (rdZ (zOwn (own.map (·.2))) T X.K W0 g)) (ht : ∀ s H C cl fp, Good (Blk X scope s H C cl fp) W0 → PTs (Blk X scope s H C cl fp) ifs (rdT T X.K W0 c)) (he : ∀ s H C cl fp, Good (Blk X scope s H C cl fp) W0 → PE (Blk X scope s H C cl fp) elt (rdE T X.K W0 e))
    (hs : ∀ x, foldedSetIterable iter X.env x = pure x := by intro _; rfl) : PE X (.ListComp elt [⟨tg, iter, ifs, 0⟩] scope pos) (rdE T X.K W (eComp (own.map (·.2)) ix g c e)) := pe_imp (pe_lc G.calm G.nd hi ok (fun s H C cl fp => hg s H C cl fp (good_blk G s H C cl fp)) (fun s H C cl fp => ht s H C cl fp (good_blk G s H C cl fp)) (fun s H C cl fp => he s H C cl fp (good_blk G s H C cl fp)) hs) (comp_of 0)
theorem sp_setComp (G : Good X W) (i : Nat) {y : Str} {py spos : Pos} (own : List (Str × Nat)) (hy : X.N[i]? = some y) (hyl : X.env.scope.names.lookup y = some .local) (hsw : swapsWith (.ListComp elt [⟨tg, iter, ifs, 0⟩] scope pos) (some (.Name y py)) spos.line X.env = pure true) (hi : PI X tg iter (rdI T X.K W ix)) (ok : BlkOk X.N X.env.scope scope own)
    (hg : ∀ s H C cl fp, Good (Blk X scope s H C cl fp) W0 → PG (Blk X scope s H C cl fp) tg (rdZ (zOwn (own.map (·.2))) T X.K W0 g)) (ht : ∀ s H C cl fp, Good (Blk X scope s H C cl fp) W0 → PTs (Blk X scope s H C cl fp) ifs (rdT T X.K W0 c)) (he : ∀ s H C cl fp, Good (Blk X scope s H C cl fp) W0 → PE (Blk X scope s H C cl fp) elt (rdE T X.K W0 e))
    (hs : ∀ x, foldedSetIterable iter X.env x = pure x := by intro _; rfl) : PS X (.Assign [.Name y py] (.ListComp elt [⟨tg, iter, ifs, 0⟩] scope pos) spos) (rdS T X.K W (sAsg (gNm i) (eComp (own.map (·.2)) ix g c e))) := ps_imp (ps_setLc G.calm G.nd hy hyl hsw hi ok (fun s H C cl fp => hg s H C cl fp (good_blk G s H C cl fp)) (fun s H C cl fp => ht s H C cl fp (good_blk G s H C cl fp)) (fun s H C cl fp => he s H C cl fp (good_blk G s H C cl fp)) hs) fun D st H ⟨ρ, σ, m, ks, k, R, S, q, hk, hx⟩ => by
  refine comp_of 0 st H _ ⟨ρ, σ, m, ks.x, _, R, S, q, fun ρ1 d1 m1 v1 H1 f1 R1 r1 q1 => ?_, hx.x⟩
  obtain ⟨ρ2, d2, m2, f2, f2', R2, r2, _, q2⟩ := lay_ok f1 R1 r1 q1
  exact hk ρ2 _ m2 _ H1 f2 R2 ((S.fr R f2).set r2 i) q2
theorem se_compI (G : Good X W) (i : Nat) (own : List (Str × Nat)) {x : Str} {elts : List Expr} {kk : Nat} {tpos apos cpos p : Pos} (hN : X.N[i]? = some x) (hv : Vis X.env.scope x) (ok : BlkOk X.N X.env.scope scope own)
    (hg : ∀ s H C cl fp, Good (Blk X scope s H C cl fp) W0 → PG (Blk X scope s H C cl fp) (.Tuple elts kk tpos) (rdZ (zOwn (own.map (·.2))) T X.K W0 g)) (ht : ∀ s H C cl fp, Good (Blk X scope s H C cl fp) W0 → PTs (Blk X scope s H C cl fp) ifs (rdT T X.K W0 c)) (he : ∀ s H C cl fp, Good (Blk X scope s H C cl fp) W0 → PE (Blk X scope s H C cl fp) elt (rdE T X.K W0 e))
    (hd : (x == ("__debug__" : Str)) = false := by decide) (hcd : (x == ("__classdict__" : Str)) = false := by decide)
    (hbase : attributeBase (.Name x p) "items" X.env (eval (.Name x p) X.env) = eval (.Name x p) X.env := by rfl) (hline : (apos.endLine == cpos.line) = true := by rfl)
    (hs : ∀ v, foldedSetIterable (.Call (.Attribute (.Name x p) "items" apos) [] [] cpos) X.env v = pure v := by intro _; rfl) : PE X (.ListComp elt [⟨.Tuple elts kk tpos, .Call (.Attribute (.Name x p) "items" apos) [] [] cpos, ifs, 0⟩] scope pos) (rdE T X.K W (eCompI (own.map (·.2)) i g c e)) :=
  pe_imp (pe_lock (pe_lc G.calm G.nd (pi_items (pe_var hN hv hd hcd) hbase hline) ok (fun s H C cl fp => hg s H C cl fp (good_blk G s H C cl fp)) (fun s H C cl fp => ht s H C cl fp (good_blk G s H C cl fp)) (fun s H C cl fp => he s H C cl fp (good_blk G s H C cl fp)) hs)) fun st H Q ⟨ρ, σ, m, x, k, R, S, q0, hk, hx⟩ => by
    obtain ⟨r, a, kv, kvs, h1, h2, h3, h4, h5, q1, h6⟩ := lockK_ok R S q0
    refine ⟨a, _, h4, trivial, fun od => ?_⟩
    obtain ⟨R1, f1⟩ := h6 od
    refine ⟨.ref a, h1, a, od, kvs, rfl, upd_same, ?_⟩
    refine lc_of (T := T) (Q := fun v H' => H' a = some (.frz od (.dK kvs)) ∧ Q v (upd H' a (.dK kvs))) rfl rfl rfl R1 (S.fr R f1) (feed_items R1 upd_same (h5.mono (R.ts f1) fun _ _ h => h)) ⟨Nat.zero_le _, rfl⟩ (fun ρ' ds m' H' D us f R' hD nD h r z q => ?_) q1
    obtain ⟨g1, g2⟩ := Fr.unlock h2 h4 f
    have g3 := R'.unlockD (f.at h2) g1
    have g4 := R'.tsU (x := .dK kvs) (f.at h2)
    have ne : D ≠ a := fun z => by
      rw [z, upd_same] at hD
      cases hD
    refine ⟨g1, hk ρ' (.tmp ds) _ _ _ g2 g3 ⟨D, us, rfl, ?_, ?_, nD, r.mono g4 fun _ _ h => h, z⟩ q⟩
    · rw [upd_ne ne] at hD
      exact NewS.of hD
    · rw [upd_ne ne]
      exact h
end
end PB
end
section
set_option Elab.async false
set_option linter.all false
set_option maxRecDepth 100000
/-! PBSnd11: calls. -/
namespace PB
open PySem PySem.Spec PyProof.Rows L2
variable [PB.TBL]
/-- a def's promise: its evaluator comes through -/
def spF (T : Tab) (K : PySem.W.Frag) (f : Fx) : Sp := fun vs H Q E => ∃ ρ ds m x k, Rep K H ρ m ∧ RIs K H ρ ds vs ∧ f ds m x k = true ∧ KOk K ρ H k Q ∧ XOk T K ρ H x (fun c d _ H => E c d H)
section
variable {T : Tab} {K : PySem.W.Frag} {H H' H0 H1 H2 : Hp} {ρ ρ' ρ0 ρ1 ρ2 : List Addr} {m m' m0 m1 : Mem}
theorem gc_ok {k : KD} {Q : VK} (hk : KOk K ρ H k Q) (R : Rep K H ρ m) : KOk K ρ H (fun d m' => gcRet m.n d m' k) Q := fun ρ' d m' v H' f R' r e => by
  have l1 : m.n ≤ m'.n := by
    rw [← R.len, ← R'.len]
    obtain ⟨x, rfl⟩ := f.pre
    rw [List.length_append]
    exact Nat.le_add_right _ _
  have go : ∀ t, topD d ≤ t → max m.n m'.k ≤ t → t ≤ m'.n → k d (m'.cut t) = true → Q v H' := fun t h1 h2 h3 e => by
    refine hk (ρ'.take t) d _ v H' (f.cut (by rw [R.len]; exact Nat.le_trans (Nat.le_max_left _ _) h2)) (R'.cut (Nat.le_trans (Nat.le_max_right _ _) h2) h3) ?_ e
    cases d with
    | tmp ds =>
      obtain ⟨a, vs, e1, e2, e3, e4, e5, e6⟩ := r
      exact ⟨a, vs, e1, e2, e3, fun hm => e4 (List.mem_of_mem_take hm), e5.cut h1, e6⟩
    | un => exact RI.cut r h1
    | p x => exact RI.cut r h1
    | ref n => exact RI.cut r h1
    | tr ds => exact RI.cut r h1
  have kn := R'.kn
  have top : topD d ≤ m'.n := by
    rw [← R'.len]
    cases d with
    | tmp ds =>
      obtain ⟨a, vs, e1, e2, e3, e4, e5, e6⟩ := r
      exact e5.top
    | un => exact RI.top r
    | p x => exact RI.top r
    | ref n => exact RI.top r
    | tr ds => exact RI.top r
  have e : gcRet m.n d m' k = true := e
  unfold gcRet at e
  split at e
  · exact go _ (Nat.zero_le _) (Nat.le_refl _) (Nat.max_le.mpr ⟨l1, kn⟩) e
  · exact go _ (Nat.le_max_right _ _) (Nat.le_max_left _ _) (Nat.max_le.mpr ⟨Nat.max_le.mpr ⟨l1, kn⟩, top⟩) e
theorem start_at {N : List Str} {vs : List V} {i : Nat} {v : V} (h : vs[i]? = some v) : (L2.start N vs)[i]? = some (some v) := by
  unfold L2.start
  have l := (List.getElem?_eq_some_iff.mp h).1
  rw [List.getElem?_append_left (by rw [List.length_map]; exact l), List.getElem?_map, h]
  rfl
theorem slots_start {N : List Str} {ds : List D} {vs : List V} {n nl : Nat} (h : RIs K H ρ ds vs) (hn : ds.length = n) (hN : N.length = n + nl) : Slots K H ρ (ds ++ List.replicate nl .un) (L2.start N vs) := by
  have l := h.length
  refine ⟨?_, fun i d e nd => ?_⟩
  · unfold L2.start
    rw [List.length_append, List.length_append, List.length_map, List.length_replicate, List.length_replicate]
    omega
  · rw [nth_eq, List.getD_eq_getElem?_getD] at e
    by_cases c : i < ds.length
    · rw [List.getElem?_append_left c, List.getElem?_eq_getElem c] at e
      have e : ds[i] = d := e
      have hi : ds[i]? = some d := by rw [List.getElem?_eq_getElem c, e]
      obtain ⟨v, h1, h2⟩ := h.at hi
      exact ⟨v, start_at h1, h2⟩
    · rw [List.getElem?_append_right (Nat.le_of_not_lt c), List.getElem?_replicate] at e
      exfalso
      split at e
      · exact nd e.symm
      · exact nd e.symm
end
section
variable {P : Program} {w : World} {K : PySem.W.Frag} {mg : Str → Option Value} {base : Heap} {T : Tab}
theorem fn_big {k n nl : Nat} {x qual : Str} {params : Arguments} {body : List Stmt} {scope : Scope} {f : Addr} {fd : FuncData} {N ps : List Str} {ms : Sx} (F : FunD K x qual params body scope [] [] f fd) (S : FnScope N ps scope) (hn : ps.length = n) (hN : N.length = n + nl)
    (hbody : ∀ (cdv : Value) (A : Around) (outer : List Env) (s : Shared) (H : Hp) (E : XK), Room k (A.deeper (envOfC qual scope s.heap.objs.size f cdv)) → Good (cxOf (L2.CX P w) P w K mg base N qual scope f cdv A outer s H E) (fun c d _ H => E c d H) →
      PSs (cxOf (L2.CX P w) P w K mg base N qual scope f cdv A outer s H E) body (rdS T K (fun c d _ H => E c d H) ms)) : FnOk P w K mg base (L2.CX P w) (k + 1) f fd ps (spF T K (fnBody n nl ms)) := by
  refine F.ok S (fun vs H Q E ⟨ρ, ds, m, x, kk, R, r, e, hk, hx⟩ => ?_) fun cdv A outer s H vs Q E hr ⟨ρ, ds, m, x, kk, R, r, e, hk, hx⟩ => ⟨_, hbody cdv A outer s H E hr ⟨rfl, S.nd, takes_of rfl rfl rfl rfl, by have := hr.un; show (A.deeper _).units + 200 < cLine; omega⟩, ?_⟩
  · unfold fnBody at e
    split at e
    · rename_i l
      rw [← r.length, Nat.eq_of_beq_eq_true l, hn]
    · cases e
  · unfold fnBody at e
    split at e
    · rename_i l
      have l := Nat.eq_of_beq_eq_true l
      have gc := gc_ok hk R
      refine ⟨ρ, _, m, _, _, R, slots_start r l hN, e, fun ρ' σ' m' st' H' f R' S' q => ?_, ⟨hx, gc, fun _ _ _ _ _ _ _ _ q => (nomatch (show false = true from q)), fun _ _ _ _ _ _ _ _ q => (nomatch (show false = true from q))⟩⟩
      exact gc ρ' (.p .non) m' .non H' f R' (RX.of (.p .non)) q
    · cases e
end
section
variable {T : Tab} {X : Cx} {W : WX} {x : Str} {e : Expr} {es : List Expr} {al : Ax} {p pos : Pos} {k : Nat} {f : Addr} {fd : FuncData} {ps : List Str} {fx : Fx}
theorem se_call (G : Good X W) (F : FnOk X.prog X.w X.K X.mg X.base (L2.CX X.prog X.w) k f fd ps (spF T X.K fx)) (hr : Room k X.A) (hg : Gl X x) (hm : X.mg x = some (.ref f)) (hk : PySem.W.keepIn X.K (.ref f) = true) (hb : Binds X.K fd ps []) (ha : PA X (e :: es) (rdA T X.K W al))
    (hdb : (x == ("__debug__" : Str)) = false := by decide) (he : starEach (e :: es) X.env = (false, eval e X.env) :: starEach es X.env := by rfl) (hpl : (backTo pos (starEach es X.env)).any (·.1) = false := by rfl) :
    PE X (.Call (.Name x p) (e :: es) [] pos) (rdE T X.K W (eCall fx al)) := pe_imp (pe_call (E := fun c d H => ∀ σ, W c d σ H) F hr hg hm hk hb .nil (passes_call G.tk fun c d σ H h => h σ) ha hdb he hpl) fun st H Q ⟨ρ, σ, m, y, kk, R, S, q, hk, hx⟩ => by
  refine ⟨ρ, σ, m, y, _, R, S, q, fun ρ1 ds m1 vs H1 f1 R1 r1 q1 => ?_, hx⟩
  show spF T X.K fx (vs ++ []) H1 Q _
  rw [List.append_nil]
  exact ⟨ρ1, ds, m1, y, kk, R1, r1, q1, hk.fr f1 R1, fun ρ2 c qs m2 cls dx st2 H2 f2 R2 xr q2 σ => hx ρ2 c qs m2 cls dx σ H2 (f1.trans f2) R2 xr q2⟩
theorem se_call0 (G : Good X W) (F : FnOk X.prog X.w X.K X.mg X.base (L2.CX X.prog X.w) k f fd ps (spF T X.K fx)) (hr : Room k X.A) (hg : Gl X x) (hm : X.mg x = some (.ref f)) (hk : PySem.W.keepIn X.K (.ref f) = true) (hb : Binds X.K fd ps [])
    (hdb : (x == ("__debug__" : Str)) = false := by decide) : PE X (.Call (.Name x p) [] [] pos) (rdE T X.K W (eCall fx aNil)) := pe_imp (pe_call0 (E := fun c d H => ∀ σ, W c d σ H) F hr hg hm hk hb .nil (passes_call G.tk fun c d σ H h => h σ) hdb) fun st H Q ⟨ρ, σ, m, y, kk, R, S, q, hk, hx⟩ =>
  ⟨ρ, [], m, y, kk, R, .nil, q, hk, fun ρ2 c qs m2 cls dx st2 H2 f2 R2 xr q2 σ => hx ρ2 c qs m2 cls dx σ H2 f2 R2 xr q2⟩
variable {id Ty : String} {fb : List D → Mem → KD → Bool}
theorem se_cb (hc : CallR X (.builtin id) (rCB X.K fb)) (hg : Gl X x) (hm : X.mg x = none) (hv : bootBuiltins x = some (.builtin id)) (ha : PA X (e :: es) (rdA T X.K W al)) (hn : x ≠ "__name__" := by decide) (hdb : (x == ("__debug__" : Str)) = false := by decide)
    (he : starEach (e :: es) X.env = (false, eval e X.env) :: starEach es X.env := by rfl) (hpl : (backTo pos (starEach es X.env)).any (·.1) = false := by rfl) : PE X (.Call (.Name x p) (e :: es) [] pos) (rdE T X.K W (eCB fb al)) := pe_imp (pe_callB hc hg hm hv ha hn hdb he hpl) (cb_of rfl)
theorem se_ct (hc : CallR X (.type Ty) (rCB X.K fb)) (hg : Gl X x) (hm : X.mg x = none) (hv : bootBuiltins x = some (.type Ty)) (ha : PA X (e :: es) (rdA T X.K W al)) (hn : x ≠ "__name__" := by decide) (hdb : (x == ("__debug__" : Str)) = false := by decide)
    (he : starEach (e :: es) X.env = (false, eval e X.env) :: starEach es X.env := by rfl) (hpl : (backTo pos (starEach es X.env)).any (·.1) = false := by rfl) : PE X (.Call (.Name x p) (e :: es) [] pos) (rdE T X.K W (eCB fb al)) := pe_imp (pe_callTy hc hg hm hv ha hn hdb he hpl) (cb_of rfl)
end
end PB
end
section
set_option Elab.async false
set_option linter.all false
set_option maxRecDepth 100000
/-! PBSnd12: words for the printed derivations. -/
namespace PB
open PySem PySem.Spec PyProof.Rows L2
variable [PB.TBL]
abbrev FnP (K : PySem.W.Frag) (x : Str) (st : Stmt) (f : Addr) (fd : FuncData) : Prop := FunD K x x (defArgs st) (defBody st) (defScope st) [] [] f fd
/-- a def that keeps its promise stands under the name x -/
def Kn (P : Program) (w : World) (K : PySem.W.Frag) (mg : Str → Option Value) (base : Heap) (T : Tab) (k : Nat) (x : Str) (ps : List Str) (fx : Fx) : Prop :=
  ∃ f fd, FnOk P w K mg base (L2.CX P w) k f fd ps (spF T K fx) ∧ mg x = some (.ref f) ∧ PySem.W.keepIn K (.ref f) = true ∧ Binds K fd ps []
/-- the name x is this -/
def Glit (K : PySem.W.Frag) (mg : Str → Option Value) (x : Str) (p : P) : Prop := ∃ u v, mg x = some u ∧ RelV v u ∧ ∀ H, RP K H p v
section
variable {T : Tab} {X : Cx} {W : WX} {x : Str} {a b o e : Expr} {ea eb eo : Ex} {es : List Expr} {al : Ax} {p pos : Pos} {k j : Nat} {ps : List Str} {fx : Fx}
theorem se_callK (G : Good X W) (h : Kn X.prog X.w X.K X.mg X.base T k x ps fx) (hr : Room j X.A) (hg : Gl X x) (ha : PA X (e :: es) (rdA T X.K W al)) (hkj : k ≤ j := by decide)
    (hdb : (x == ("__debug__" : Str)) = false := by decide) (he : starEach (e :: es) X.env = (false, eval e X.env) :: starEach es X.env := by rfl) (hpl : (backTo pos (starEach es X.env)).any (·.1) = false := by rfl) : PE X (.Call (.Name x p) (e :: es) [] pos) (rdE T X.K W (eCall fx al)) := by
  obtain ⟨f, fd, h1, h2, h3, h4⟩ := h
  exact se_call G h1 (hr.mono hkj) hg h2 h3 h4 ha hdb he hpl
theorem se_callK0 (G : Good X W) (h : Kn X.prog X.w X.K X.mg X.base T k x ps fx) (hr : Room j X.A) (hg : Gl X x) (hkj : k ≤ j := by decide) (hdb : (x == ("__debug__" : Str)) = false := by decide) : PE X (.Call (.Name x p) [] [] pos) (rdE T X.K W (eCall fx aNil)) := by
  obtain ⟨f, fd, h1, h2, h3, h4⟩ := h
  exact se_call0 G h1 (hr.mono hkj) hg h2 h3 h4 hdb
theorem st_w {t : TT} (h : PW X e t) : PT X e t := h.pt
theorem se_glc {q : P} (h : Glit X.K X.mg x q) (hg : Gl X x) (hd : (x == ("__debug__" : Str)) = false := by decide) : PE X (.Name x p) (rdE T X.K W (eLit q)) := by
  obtain ⟨u, v, h1, h2, h3⟩ := h
  exact se_glob hg h1 h2 h3 hd
theorem se_get2 {apos cpos : Pos} (G : Good X W) (ho : PE X o (rdE T X.K W eo)) (ha : PE X a (rdE T X.K W ea)) (hb : PE X b (rdE T X.K W eb)) (m : M2 X o "get" apos a b cpos) : PE X (.Call (.Attribute o "get" apos) [a, b] [] cpos) (rdE T X.K W (eMB isDct (on2 fGet) eo (aCons ea (aCons eb aNil)))) :=
  pe_imp (pe_dget2 (show X.A.units + 1 < cLine by have := G.hu; omega) ho ha hb m) fun st H Q ⟨ρ, σ, m, x, k, R, S, e, hk, hx⟩ => by
    refine ⟨ρ, σ, m, x, _, R, S, e, fun ρ1 d1 m1 v1 H1 f1 R1 r1 q1 => ?_, hx⟩
    dsimp only at q1
    split at q1
    · rename_i c
      obtain ⟨a, kvs, rfl, hd⟩ := isDct_ty R1 r1 c
      refine ⟨a, rfl, .inl ⟨kvs, .inl hd⟩, ρ1, σ, m1, x, _, R1, S.fr R f1, q1, fun ρ2 d2 m2 v2 H2 f2 R2 r2 q2 => ?_, hx.fr f1⟩
      obtain ⟨ρ3, d3, m3, f3, f3', R3, r3, _, q3⟩ := lay_ok f2 R2 r2 q2
      refine ⟨ρ3, σ, m3, x, _, R3, S.fr R (f1.trans f3), q3, fun ρ4 d4 m4 v4 H4 f4 R4 r4 q4 => ?_, hx.fr (f1.trans f3)⟩
      obtain ⟨ρ5, d5, m5, f5, f5', R5, r5, _, q5⟩ := lay_ok f4 R4 r4 q4
      have r1' := r1.fr R1 (f3.trans f5)
      have r3' := r3.fr R3 f5
      have hk5 := hk.fr ((f1.trans f3).trans f5) R5
      have q5 : fGet d1 d3 d5 m5 k = true := q5
      unfold fGet at q5
      split at q5
      · rename_i r
        obtain ⟨a', ea', hi, hb, ro⟩ := ref_ok R5 r1'
        injection ea' with ea'
        subst ea'
        split at q5
        · rename_i kv hb2 q
          rw [q] at ro
          cases ro with
          | dct g1 g2 g3 =>
            split at q5
            · rename_i y
              split at q5
              · rename_i z
                obtain ⟨key, hkey, rfl⟩ := kOk_key z (ri_p r3')
                rw [hasK_ok hkey g2] at q5
                refine ⟨_, DGet.k g1, ?_⟩
                split at q5
                · obtain ⟨dd, vv, w1, w2, w3⟩ := getK_ok hkey g2 q5
                  rw [w1]
                  exact fin_d hk5 R5 w2 w3
                · rename_i c
                  cases w : valV _ key with
                  | none => exact fin_d hk5 R5 r5 q5
                  | some vv =>
                    rw [w] at c
                    cases c
              · cases q5
            · cases q5
        · cases q5
      · cases q5
    · cases q1
/-! ### list(range(..)) -/
theorem uptoK_ok {K : PySem.W.Frag} {H : Hp} {ρ : List Addr} {lo : Int} {k : List D → Bool} : ∀ {n : Nat} {acc : List D} {vs : List V}, RIs K H ρ acc vs → uptoK lo k n acc = true → ∃ ds, RIs K H ρ ds (((List.range n).map fun i => V.int (lo + (i : Nat))) ++ vs) ∧ k ds = true
  | 0, acc, vs, h, e => ⟨acc, by simpa using h, e⟩
  | n + 1, acc, vs, h, e => by
    have e : (fI (Int.add lo (Int.ofNat n)) fun j => uptoK lo k n (.p (.int j) :: acc)) = true := e
    rw [fI_eq] at e
    obtain ⟨ds, h1, h2⟩ := uptoK_ok (.cons (.p (.int _)) h) e
    refine ⟨ds, ?_, h2⟩
    rw [List.range_succ, List.map_append, List.append_assoc]
    exact h1
theorem lrK_ok {K : PySem.W.Frag} {H : Hp} {ρ : List Addr} {m : Mem} {i j : Int} {k : KD} {Q : VK} (R : Rep K H ρ m) (hk : KOk K ρ H k Q) (e : (lrK i j fun ds => k (.tmp ds) m) = true) : RgOk i j ∧ ∀ q, H q = none → Q (.ref q) (upd H q (.lst (rgV i j))) := by
  unfold lrK at e
  split at e
  · rename_i z
    rw [Bool.and_eq_true] at z
    rw [fN_eq] at e
    split at e
    · rename_i l
      have l := Nat.le_of_ble_eq_true l
      obtain ⟨z1, z2⟩ := small_ok z.1
      obtain ⟨z3, z4⟩ := small_ok z.2
      have l : (j - i).toNat ≤ 16777216 := l
      refine ⟨⟨z1, z2, z3, z4, l⟩, fun q hq => ?_⟩
      obtain ⟨ds, h1, h2⟩ := uptoK_ok (K := K) (H := H) (ρ := ρ) .nil e
      rw [List.append_nil] at h1
      exact fin_lst hk R hq (vs := rgV i j) h1 (by rw [rgV_length, sizeLine_eq]; exact l) h2
    · cases e
  · cases e
theorem se_lr1 {p2 pos2 : Pos} (G : Good X W) (hg : Gl X "list") (hm : X.mg "list" = none) (hg2 : Gl X "range") (hm2 : X.mg "range" = none) (ha : PE X a (rdE T X.K W ea)) (n1 : starEach [a] X.env = (false, eval a X.env) :: starEach [] X.env := by rfl) (na : starEach [.Call (.Name "range" p2) [a] [] pos2] X.env = (false, eval (.Call (.Name "range" p2) [a] [] pos2) X.env) :: starEach [] X.env := by rfl) : PE X (.Call (.Name "list" p) [.Call (.Name "range" p2) [a] [] pos2] [] pos) (rdE T X.K W (eLR1 ea)) :=
  pe_imp (pe_listRg G.calm hg hm (prg_1 hg2 hm2 ha n1) na) fun st H Q ⟨ρ, σ, m, x, k, R, S, e, hk, hx⟩ => by
    refine ⟨ρ, σ, m, x, _, R, S, e, fun ρ1 d1 m1 v1 H1 f1 R1 r1 q1 => ?_, hx⟩
    dsimp only at q1
    split at q1
    · exact ⟨_, rx_int r1, lrK_ok R1 (hk.fr f1 R1) q1⟩
    · cases q1
theorem se_lr2 {p2 pos2 : Pos} (G : Good X W) (hg : Gl X "list") (hm : X.mg "list" = none) (hg2 : Gl X "range") (hm2 : X.mg "range" = none) (ha : PE X a (rdE T X.K W ea)) (hb : PE X b (rdE T X.K W eb)) (n1 : starEach [a, b] X.env = (false, eval a X.env) :: starEach [b] X.env := by rfl) (n2 : starEach [b] X.env = (false, eval b X.env) :: starEach [] X.env := by rfl) (hp : (backTo pos2 (starEach [b] X.env)).any (·.1) = false := by rfl)
    (na : starEach [.Call (.Name "range" p2) [a, b] [] pos2] X.env = (false, eval (.Call (.Name "range" p2) [a, b] [] pos2) X.env) :: starEach [] X.env := by rfl) : PE X (.Call (.Name "list" p) [.Call (.Name "range" p2) [a, b] [] pos2] [] pos) (rdE T X.K W (eLR2 ea eb)) :=
  pe_imp (pe_listRg G.calm hg hm (prg_2 hg2 hm2 ha hb n1 n2 hp) na) fun st H Q ⟨ρ, σ, m, x, k, R, S, e, hk, hx⟩ => by
    refine ⟨ρ, σ, m, x, _, R, S, e, fun ρ1 d1 m1 v1 H1 f1 R1 r1 q1 => ?_, hx⟩
    refine ⟨ρ1, σ, m1, x, _, R1, S.fr R f1, q1, fun ρ2 d2 m2 v2 H2 f2 R2 r2 q2 => ?_, hx.fr f1⟩
    dsimp only at q2
    split at q2
    · exact ⟨_, _, rx_int r1, rx_int r2, lrK_ok R2 (hk.fr (f1.trans f2) R2) q2⟩
    · cases q2
end
end PB
end
section
set_option Elab.async false
set_option linter.all false
set_option maxRecDepth 100000
/-! PBEnd: a law's end, the law called by nobody but the claim (so no repr is under way). -/
namespace PB
open PySem PySem.Spec PyProof.Rows L2
/-- a def called straight from the claim -/
def RunC (P : Program) (w : World) (K : PySem.W.Frag) (mg : Str → Option Value) (base : Heap) (CX : CXT) (f : Addr) (fd : FuncData) (ps : List Str) (sp : Sp) : Prop :=
  ∀ (s : Shared) (H : Hp) (args : Args) (us : List Value) (vs : List V) (Q : VK) (E : XK), Env0 P w K mg base callerA [] s H → BindsTo s fd args (ps.zip us) → Vals vs us → sp vs H Q E → codeAny (model P w) callerA (.call (.ref f) args) (CR CX [] P w H s Q E) s
section
variable {P : Program} {w : World} {K : PySem.W.Frag} {mg mb : Str → Option Value} {CX : CXT} {fa a : Addr} {ts : List (Addr × Addr)} {fd : FuncData} {x : Str} {sp : Sp} {s1 : Shared} {vs : List Value} {ns : List Int}
/-- what the end asks of the heap -/
structure EndS (K : PySem.W.Frag) (mg mb : Str → Option Value) (ts : List (Addr × Addr)) (a : Addr) (vs : List Value) (ns : List Int) (s1 : Shared) : Prop where
  k : K.In s1.heap
  g : s1.heap.Ns mainGlobals mg
  b : s1.heap.Ns builtinsNs mb
  bb : ∀ y : Str, y ≠ "__name__" → mb y = bootBuiltins y
  lim : s1.heap.NoLimit
  gens : s1.gens = #[]
  tab : ∀ p ∈ ts, s1.heap.get? p.2 = some { cls := .none, data := .fields #[] }
  tabK : ∀ p ∈ ts, K.lookup p.2 = none
  code : ∀ p ∈ ts, PySem.W.CodeHd s1.heap p.1 p.2
  bm : ∃ (m : Addr) (ob : Obj), mg "__builtins__" = some (.ref m) ∧ m ≠ builtinsNs ∧ s1.heap.get? m = some ob ∧ ob.cls = .type "module" ∧ ob.dict = some builtinsNs ∧ ob.data = .plain
  arg : s1.heap.get? a = some { cls := .type "list", data := .seq vs.toArray }
  nums : IntsAre vs ns
  few : ns.length ≤ sizeLine
/-- the abstract heap at the start: the tables, and the script unless the written part has it -/
structure EndH (K : PySem.W.Frag) (ts : List (Addr × Addr)) (a : Addr) (vs : List Value) (ns : List Int) (H : Hp) : Prop where
  tab : ∀ p ∈ ts, H p.2 = some (.tbl #[])
  all : ∀ b u, H b = some u → (b ∈ ts.map (·.2) ∧ u = .tbl #[]) ∨ (b = a ∧ K.lookup a = none ∧ ∃ o, u = .frz o (.lst (ns.map V.int)))
  arg : SqL K H a (ns.map V.int)
theorem end_heap (e : EndS K mg mb ts a vs ns s1) : ∃ H, EndH K ts a vs ns H ∧ L2.HOk P w H s1.heap := by
  have rv := vals_ints e.nums
  have lv := e.nums.length
  have isT : ∀ b, b ∈ ts.map (·.2) → s1.heap.get? b = some { cls := .none, data := .fields #[] } := fun b hb => by
    obtain ⟨p, hp, rfl⟩ := List.mem_map.mp hb
    exact e.tab p hp
  have mT : ∀ p ∈ ts, p.2 ∈ ts.map (·.2) := fun p hp => List.mem_map.mpr ⟨p, hp, rfl⟩
  have aT : a ∉ ts.map (·.2) := fun z => by
    have q := (e.arg.symm.trans (isT a z))
    injection q with q
    injection q with _ _ q
    cases q
  cases hk : K.lookup a with
  | some o =>
    have eo := e.k a o hk
    rw [e.arg] at eo
    cases eo
    refine ⟨fun b => if b ∈ ts.map (·.2) then some (.tbl #[]) else none, ⟨fun p hp => if_pos (mT p hp), fun b u z => ?_, .inr ⟨_, vs.toArray, _, hk, rfl, rfl, rfl, by rw [List.size_toArray, lv]; exact e.few, by simpa using rv⟩⟩, fun b u z => ?_⟩
    · by_cases hb : b ∈ ts.map (·.2)
      · exact .inl ⟨hb, (Option.some.inj ((if_pos hb).symm.trans z)).symm⟩
      · exact nomatch ((if_neg hb).symm.trans z)
    · by_cases hb : b ∈ ts.map (·.2)
      · obtain rfl := Option.some.inj ((if_pos hb).symm.trans z)
        exact isT b hb
      · exact nomatch ((if_neg hb).symm.trans z)
  | none =>
    have upd_at : ∀ b, b ≠ a → (if b = a then some (HO.frz { cls := .type "list", data := .seq vs.toArray } (.lst (ns.map V.int))) else if b ∈ ts.map (·.2) then some (.tbl #[]) else none) = if b ∈ ts.map (·.2) then some (.tbl #[]) else none := fun b h => if_neg h
    refine ⟨fun b => if b = a then some (.frz { cls := .type "list", data := .seq vs.toArray } (.lst (ns.map V.int))) else if b ∈ ts.map (·.2) then some (.tbl #[]) else none, ⟨fun p hp => ?_, fun b u z => ?_, .inl (.inr ⟨_, if_pos rfl⟩)⟩, fun b u z => ?_⟩
    · have ne : p.2 ≠ a := fun z => aT (z ▸ mT p hp)
      exact (upd_at _ ne).trans (if_pos (mT p hp))
    · by_cases ne : b = a
      · exact .inr ⟨ne, hk, _, (Option.some.inj ((if_pos ne).symm.trans z)).symm⟩
      · have z := (upd_at b ne).symm.trans z
        by_cases hb : b ∈ ts.map (·.2)
        · exact .inl ⟨hb, (Option.some.inj ((if_pos hb).symm.trans z)).symm⟩
        · exact nomatch ((if_neg hb).symm.trans z)
    · by_cases ne : b = a
      · obtain rfl := Option.some.inj ((if_pos ne).symm.trans z)
        rw [ne]
        exact ⟨e.arg, by rw [List.length_map]; exact e.few, vs, _, rv, e.arg⟩
      · have z := (upd_at b ne).symm.trans z
        by_cases hb : b ∈ ts.map (·.2)
        · obtain rfl := Option.some.inj ((if_pos hb).symm.trans z)
          exact isT b hb
        · exact nomatch ((if_neg hb).symm.trans z)
theorem end_call (e : EndS K mg mb ts a vs ns s1) (F : ∀ base : Heap, K.In base → base.Ns mainGlobals mg → (∀ p ∈ ts, LamX.TabB base mg p.1 p.2) → RunC P w K mg base CX fa fd [x] sp) (hbind : ∀ (s : Shared) (u : Value), BindsTo s fd ⟨[u], []⟩ [(x, u)])
    (hsp : ∀ H : Hp, (∀ p ∈ ts, H p.2 = some (.tbl #[])) → SqL K H a (ns.map V.int) → sp [.ref a] H (fun v _ => v = .bl true) fun _ _ _ => False) (hCX : ∀ H u s', CX [] H s1 (fun _ _ _ => False) u s' → False) :
    codeAny (model P w) callerA (.call (.ref fa) ⟨[.ref a], []⟩) (fun r s' => r = .ok (.ret (.bool true)) ∧ OldK s1.heap s'.heap ∧ s'.os = s1.os ∧ AllBare s'.gens) s1 := by
  obtain ⟨H, hH, hok⟩ := end_heap (P := P) (w := w) e
  have inG : ∀ {b : Addr} {o : Obj}, s1.heap.get? b = some o → H b = none → (hidT s1.heap H).get? b = some o := fun q n => hidT_get q n
  have out : ∀ {b : Addr} {o : Obj}, s1.heap.get? b = some o → (∀ vs n, o.data ≠ .seq vs n) → o.data ≠ .fields #[] → H b = none := fun {b o} q h1 h2 => by
    cases z : H b with
    | none => rfl
    | some u =>
      rcases hH.all b u z with ⟨hb, _⟩ | ⟨rfl, _⟩
      · obtain ⟨p, hp, rfl⟩ := List.mem_map.mp hb
        rw [e.tab p hp] at q
        cases q
        exact absurd rfl h2
      · rw [e.arg] at q
        cases q
        exact absurd rfl (h1 _ _)
  have nsIn : ∀ {b : Addr} {m : Str → Option Value}, s1.heap.Ns b m → (hidT s1.heap H).Ns b m := fun {b m} ⟨o, es, ep, q, d, r⟩ => ⟨o, es, ep, inG q (out q (fun _ _ z => nomatch (d.symm.trans z)) fun z => nomatch (d.symm.trans z)), d, r⟩
  have kIn : K.In (hidT s1.heap H) := fun b o q => inG (e.k b o q) (by
    cases z : H b with
    | none => rfl
    | some u =>
      rcases hH.all b u z with ⟨hb, _⟩ | ⟨rfl, hk, _⟩
      · obtain ⟨p, hp, rfl⟩ := List.mem_map.mp hb
        exact nomatch ((e.tabK p hp).symm.trans q)
      · exact nomatch (hk.symm.trans q))
  have md : L2.Mod K mg (hidT s1.heap H) := ⟨kIn, nsIn e.g, ⟨mb, nsIn e.b, e.bb⟩, let ⟨mc, h1, h2⟩ := e.lim; ⟨mc, nsIn h1, h2⟩⟩
  have tb : ∀ p ∈ ts, LamX.TabB (hidT s1.heap H) mg p.1 p.2 := fun p hp => by
    have tp := e.tab p hp
    refine ⟨?_, ?_, fun z => ?_⟩
    · obtain ⟨o, us, file, tf, flags, tg, inF, text, tt, e1, r1, r2, r3, rest⟩ := e.code p hp
      refine ⟨o, us, file, tf, flags, tg, inF, text, tt, inG e1 (out e1 (fun _ _ z => nomatch (r2.symm.trans z)) fun z => ?_), r1, r2, r3, rest⟩
      rw [r2] at z
      cases z
      simp at r3
    · obtain ⟨m, ob, b1, b2, b3, b4, b5, b6⟩ := e.bm
      refine ⟨m, ob, b1, b2, fun q => ?_, fun q => ?_, inG b3 (out b3 (fun _ _ z => nomatch (b6.symm.trans z)) fun z => nomatch (b6.symm.trans z)), b4, b5, b6⟩
      · obtain ⟨o, es, ep, g1, g2, _⟩ := e.g
        rw [q, g1] at b3
        cases b3
        exact nomatch (g2.symm.trans b6)
      · rw [q, tp] at b3
        cases b3
        cases b6
    · obtain ⟨o, es, ep, g1, g2, _⟩ := e.g
      rw [z, tp] at g1
      cases g1
      cases g2
  have e0 : Env0 P w K mg (hidT s1.heap H) callerA [] s1 H := ⟨rfl, md, fun b o q => of_hidT q, Nat.le_of_eq (hidT_size _ _), trivial, fun b hb => (nomatch (show b ∈ ([] : List Addr) from hb)), hok, .of_eq e.gens⟩
  refine codeAny_mono (F _ kIn (nsIn e.g) tb s1 H ⟨[.ref a], []⟩ [.ref a] [.ref a] _ _ e0 (hbind s1 (.ref a)) (.cons rfl .nil) (hsp H hH.tab hH.arg)) fun r s' h => ?_
  cases r with
  | error u => exact (hCX H u s' h).elim
  | ok fl =>
    cases fl with
    | next => exact False.elim h
    | brk => exact False.elim h
    | cont => exact False.elim h
    | ret u =>
      obtain ⟨v, H', os, bare, un, hok', r', q⟩ := h
      have q : v = .bl true := q
      subst q
      obtain rfl : u = Value.bool true := r'
      have key : ∀ b o, b ∉ ts.map (·.2) → s1.heap.get? b = some o → s'.heap.get? b = some o := fun b o nb q => by
        cases z : H b with
        | none => exact un.keep b o q z (fun z => nomatch (show b ∈ ([] : List Addr) from z)) fun z => nomatch (show b ∈ ([] : List Addr) from z)
        | some u =>
          rcases hH.all b u z with ⟨hb, _⟩ | ⟨_, _, ob, rfl⟩
          · exact absurd hb nb
          · have z1 := (hok b _ z).1
            have z2 := (hok' b _ (un.frzs b ob _ z)).1
            rw [q] at z1
            cases z1
            exact z2
      have grown : ∀ p ∈ ts, ∃ more : Array Value, s'.heap.get? p.2 = some { cls := .none, data := .fields more } := fun p hp => by
        obtain ⟨more, z⟩ := un.tbls p.2 #[] (hH.tab p hp)
        exact ⟨_, hok' p.2 _ z⟩
      refine ⟨rfl, ⟨fun b o q => ?_, fun b o q => ?_⟩, os, bare⟩
      · by_cases hb : b ∈ ts.map (·.2)
        · obtain ⟨p, hp, rfl⟩ := List.mem_map.mp hb
          obtain ⟨more, hm⟩ := grown p hp
          rw [e.tab p hp] at q
          cases q
          exact .inr (.inl ⟨((e.code p hp).tab (e.tab p hp)).isCodeTable, rfl, #[], more, rfl, by rw [Array.empty_append]; exact hm⟩)
        · exact .inl (key b o hb q)
      · by_cases hb : b ∈ ts.map (·.2)
        · obtain ⟨p, hp, rfl⟩ := List.mem_map.mp hb
          obtain ⟨more, hm⟩ := grown p hp
          exact ⟨_, hm⟩
        · exact ⟨o, key b o hb q⟩
/-- what is known of the law at the head's heap -/
def LawC (l : PySem.W.OpenLaw) (w : World) (K : PySem.W.Frag) (n : Nat) (x : Str) (mg : Str → Option Value) (fa : Addr) (h : Heap) : Prop :=
  ∃ (fd : FuncData) (ts : List (Addr × Addr)) (sp : Sp), (∀ p ∈ ts, h.get? p.2 = some { cls := .none, data := .fields #[] }) ∧ (∀ p ∈ ts, K.lookup p.2 = none) ∧ (∀ p ∈ ts, PySem.W.CodeHd h p.1 p.2) ∧ (∀ (s : Shared) (u : Value), BindsTo s fd ⟨[u], []⟩ [(x, u)]) ∧
    (∀ (H : Hp) (a : Addr) (ns : List Int), ns.length ≤ n → (∀ z ∈ ns, Builtin.Int.intBits z ≤ 1048576) → (∀ p ∈ ts, H p.2 = some (.tbl #[])) → SqL K H a (ns.map V.int) → sp [.ref a] H (fun v _ => v = .bl true) fun _ _ _ => False) ∧
    ∀ base : Heap, K.In base → base.Ns mainGlobals mg → (∀ p ∈ ts, LamX.TabB base mg p.1 p.2) → RunC l.prog w K mg base (L2.CX l.prog w) fa fd [x] sp
theorem cx_none {P : Program} {w : World} {H : Hp} {s s' : Shared} {u : Value} (h : L2.CX P w [] H s (fun _ _ _ => False) u s') : False := by
  obtain ⟨_, _, _, _, _, _, _, _, _, _, _, _, z⟩ := h
  exact z
theorem end_walk {l : PySem.W.OpenLaw} {n : Nat} {q : Program} {loose : List Str} {XP : (Str → Option Value) → Heap → Prop} {YP : World → Heap → Prop} {d : DefRec} {x : Str} (hn : l.most = some n) (hn2 : n ≤ sizeLine) (hdf : d.params.defaults = [])
    (F : ∀ (w : World) (mg : Str → Option Value) (fa : Addr) (h : Heap), YP w h → h.Ns mainGlobals mg → mg d.name = some (.ref fa) → ∃ K : PySem.W.Frag, K.In h ∧ LawC l w K n x mg fa h) : PySem.W.WalkO q loose XP YP l.row.toRowW d [] (fun f vs => PySem.call f vs) := by
  refine Att.attach_callB hn hdf fun w s0 s1 mg mb fa o pm cd doc a vs ns G Y ho hd hcd hmg hobj hints hlen hbits hg => ?_
  obtain ⟨K, KX, fd, ts, sp, h1, h2, h3, hb, hsp, hF⟩ := F w mg fa _ Y G.T.g hmg
  exact end_call ⟨KX, G.T.g, G.T.b, G.T.builtins, G.T.nolimit, hg, h1, h2, h3, G.T.bmain, hobj, hints, Nat.le_trans hlen hn2⟩ hF hb (fun H hH hS => hsp H a ns hlen hbits hH hS) fun H u s' => cx_none
end
end PB
end
section
set_option Elab.async false
set_option linter.all false
set_option maxRecDepth 100000
/-! PBPick: the law's draws, any of them. -/
namespace PB
open PySem PySem.Spec PyProof.Rows L2
variable [PB.TBL]
abbrev rGtI : R2 := rI0 fun i j => .bl (decide (j < i))
abbrev rLtI : R2 := rI0 fun i j => .bl (decide (i < j))
abbrev rAddI : R2 := rI0 fun i j => .int (i + j)
abbrev rMulI : R2 := rI CMul fun i j => .int (i * j)
abbrev rDivI : R2 := rI CDiv fun i j => .int (i / j)
abbrev rModI : R2 := rI (fun _ j => 0 < j) fun i j => .int (i % j)
abbrev rLenV (K : PySem.W.Frag) : List V → Hp → VK → Prop := fun xs H Q => ∃ x n, xs = [x] ∧ LenV K x H n ∧ Q (.int n) H
abbrev rIntI : List V → Hp → VK → Prop := fun xs H Q => (∃ i, xs = [.int i] ∧ Q (.int i) H) ∨ ∃ k, xs = [.bl k] ∧ Q (.int (if k then 1 else 0)) H
abbrev rMaxI : List V → Hp → VK → Prop := fun xs H Q => ∃ i j, xs = [.int i, .int j] ∧ Q (.int (if j > i then j else i)) H
/-- source[key] -/
abbrev sAt (key : Str) : TE := tDGet (tVar 0) (tC (.str key))
abbrev t1 (t : TE) : TA := tCons t tNil
abbrev tLow : L2.TS := tSeq (sDPut (tVar 0) (tC (.str "left")) (tOp rDivI (tVar 2) (tCB rMaxI (tCons (tC (.int 1)) (t1 (tVar 1)))))) (tRet (tOp rModI (tCB rIntI (t1 (tVar 2))) (tCB rMaxI (tCons (tC (.int 1)) (t1 (tVar 1))))))
abbrev tMix : L2.TS :=
  tSeq (sDPut (tVar 0) (tC (.str "turn")) (tOp rAddI (sAt "turn") (tC (.int 1))))
  (tSeq (tAsg (tOp rModI (tCB rIntI (t1 (tOp rAddI (sAt "mixed") (tOp rMulI (sAt "turn") (tC (.int 104729)))))) (tC (.int 998244353))) (gName 3))
  (tSeq (tAsg (tOp rModI (tCB rIntI (t1 (tOp rAddI (tOp rMulI (tVar 3) (tVar 3)) (tOp rMulI (sAt "turn") (tC (.int 17)))))) (tC (.int 2147483647))) (gName 3))
  (tSeq (sDPut (tVar 0) (tC (.str "mixed")) (tVar 3))
    (tRet (tOp rModI (tCB rIntI (t1 (tOp rDivI (tVar 3) (tC (.int 16))))) (tVar 1))))))
abbrev tRest : L2.TS := tSeq (tAsg (sAt "left") (gName 2)) (tSeq (tIfS (tOr (tTest (tOp rLtI (tVar 1) (tC (.int 2)))) (tTest (tOp rGtI (tVar 2) (tC (.int 1))))) tLow tNext) tMix)
def tPick (K : PySem.W.Frag) : L2.TS :=
  tSeq (tWhile (tAnd (tTest (tOp rGtI (tVar 1) (tC (.int 1)))) (tAnd (tTest (tOp rLtI (sAt "left") (tC (.int 2)))) (tTest (tOp rGtI (tCB (rLenV K) (t1 (sAt "cells"))) (tC (.int 0)))))) (sDPut (tVar 0) (tC (.str "left")) (tBM0 K "list" rPop (sAt "cells")))) tRest
/-- the source's dict -/
def srcKV (c : Addr) (l x t : Int) : List (Key × V) := [(.inr "cells", .ref c), (.inr "left", .int l), (.inr "mixed", .int x), (.inr "turn", .int t)]
/-- any number below many; only the source's own things are written -/
def spPick : Sp := fun vs H Q _ => ∃ (d c : Addr) (l x t many : Int) (ns : List Int), vs = [.ref d, .int many] ∧ d ≠ c ∧ H d = some (.dK (srcKV c l x t)) ∧ H c = some (.lst (ns.map V.int)) ∧ 0 ≤ l ∧ 0 ≤ x ∧ x < 2147483647 ∧ 0 ≤ t ∧ (∀ n ∈ ns, 0 ≤ n) ∧ ns.length ≤ 63 ∧ 1 ≤ many ∧ many < 1073741824 ∧
  ∀ (p : Int) (H' : Hp) (l x t : Int) (ns : List Int), 0 ≤ p → p < many → H' = upd (upd H d (.dK (srcKV c l x t))) c (.lst (ns.map V.int)) → 0 ≤ l → 0 ≤ x → x < 2147483647 → 0 ≤ t → (∀ n ∈ ns, 0 ≤ n) → ns.length ≤ 63 → Q (.int p) H'
structure PkS (H : Hp) (d c : Addr) (H' : Hp) (l x t : Int) (ns : List Int) : Prop where
  eq : H' = upd (upd H d (.dK (srcKV c l x t))) c (.lst (ns.map V.int))
  l0 : 0 ≤ l
  x0 : 0 ≤ x
  x1 : x < 2147483647
  t0 : 0 ≤ t
  n0 : ∀ n ∈ ns, 0 ≤ n
  n1 : ns.length ≤ 63
section
variable {H H' : Hp} {d c : Addr} {l x t : Int} {ns : List Int}
theorem PkS.dd (h : PkS H d c H' l x t ns) (ne : d ≠ c) : H' d = some (.dK (srcKV c l x t)) := by
  rw [h.eq, upd_ne ne, upd_same]
theorem PkS.cc (h : PkS H d c H' l x t ns) : H' c = some (.lst (ns.map V.int)) := by
  rw [h.eq, upd_same]
theorem upd_upd {H : Hp} {a : Addr} {o u : HO} : upd (upd H a o) a u = upd H a u := by
  funext b
  by_cases e : b = a
  · rw [e, upd_same, upd_same]
  · rw [upd_ne e, upd_ne e, upd_ne e]
theorem upd_swap {H : Hp} {a b : Addr} {o u : HO} (ne : a ≠ b) : upd (upd H a o) b u = upd (upd H b u) a o := by
  funext z
  by_cases e : z = b
  · have : z ≠ a := fun w => ne (w.symm.trans e)
    rw [e, upd_same, upd_ne (fun w => ne w.symm), upd_same]
  · by_cases e2 : z = a
    · rw [e2, upd_ne ne, upd_same, upd_same]
    · rw [upd_ne e, upd_ne e2, upd_ne e2, upd_ne e]
theorem upd_id {H : Hp} {a : Addr} {o : HO} (h : H a = some o) : upd H a o = H := by
  funext b
  by_cases e : b = a
  · rw [e, upd_same, h]
  · rw [upd_ne e]
theorem PkS.init (hd : H d = some (.dK (srcKV c l x t))) (hc : H c = some (.lst (ns.map V.int))) (l0 : 0 ≤ l) (x0 : 0 ≤ x) (x1 : x < 2147483647) (t0 : 0 ≤ t) (n0 : ∀ n ∈ ns, 0 ≤ n) (n1 : ns.length ≤ 63) : PkS H d c H l x t ns :=
  ⟨by rw [upd_id hd, upd_id hc], l0, x0, x1, t0, n0, n1⟩
theorem PkS.setD (h : PkS H d c H' l x t ns) (ne : d ≠ c) {l' x' t' : Int} (l0 : 0 ≤ l') (x0 : 0 ≤ x') (x1 : x' < 2147483647) (t0 : 0 ≤ t') : PkS H d c (upd H' d (.dK (srcKV c l' x' t'))) l' x' t' ns :=
  ⟨by rw [h.eq, ← upd_swap ne, upd_upd], l0, x0, x1, t0, h.n0, h.n1⟩
theorem PkS.setC (h : PkS H d c H' l x t ns) {ms : List Int} (n0 : ∀ n ∈ ms, 0 ≤ n) (n1 : ms.length ≤ 63) : PkS H d c (upd H' c (.lst (ms.map V.int))) l x t ms :=
  ⟨by rw [h.eq, upd_upd], h.l0, h.x0, h.x1, h.t0, n0, n1⟩
theorem PkS.left (h : PkS H d c H' l x t ns) (ne : d ≠ c) : DGet H' d (.str "left") (some (.int l)) := DGet.k (k := .inr "left") (h.dd ne)
theorem PkS.mixed (h : PkS H d c H' l x t ns) (ne : d ≠ c) : DGet H' d (.str "mixed") (some (.int x)) := DGet.k (k := .inr "mixed") (h.dd ne)
theorem PkS.turn (h : PkS H d c H' l x t ns) (ne : d ≠ c) : DGet H' d (.str "turn") (some (.int t)) := DGet.k (k := .inr "turn") (h.dd ne)
theorem PkS.cells (h : PkS H d c H' l x t ns) (ne : d ≠ c) : DGet H' d (.str "cells") (some (.ref c)) := DGet.k (k := .inr "cells") (h.dd ne)
theorem PkS.putL (h : PkS H d c H' l x t ns) (ne : d ≠ c) (l' : Int) : DPut H' d (.str "left") (.int l') (upd H' d (.dK (srcKV c l' x t))) := DPut.k (k := .inr "left") (h.dd ne) (by rw [sizeLine_eq]; show 4 < 16777216; omega)
theorem PkS.putT (h : PkS H d c H' l x t ns) (ne : d ≠ c) (t' : Int) : DPut H' d (.str "turn") (.int t') (upd H' d (.dK (srcKV c l x t'))) := DPut.k (k := .inr "turn") (h.dd ne) (by rw [sizeLine_eq]; show 4 < 16777216; omega)
theorem PkS.putX (h : PkS H d c H' l x t ns) (ne : d ≠ c) (x' : Int) : DPut H' d (.str "mixed") (.int x') (upd H' d (.dK (srcKV c l x' t))) := DPut.k (k := .inr "mixed") (h.dd ne) (by rw [sizeLine_eq]; show 4 < 16777216; omega)
end
theorem small_mul {i j : Int} (h0 : 0 ≤ j) (h1 : j < 4294967296) : CMul i j := .inr ⟨by omega, by omega⟩
theorem max1 {m : Int} (h : 1 ≤ m) : (if m > 1 then m else 1) = m := by
  split <;> omega
theorem pick_run {K : PySem.W.Frag} {vs : List V} {H : Hp} {Q : VK} {E : XK} (h : spPick vs H Q E) : tPick K { nx := fun _ H' => Q .non H', rt := Q } (L2.start ["source", "many", "left", "mixed"] vs) H := by
  obtain ⟨d, c, l, x, t, many, ns, rfl, ne, hd, hc, l0, x0, x1, t0, n0, n1, m1, m2, q⟩ := h
  have done : ∀ {p : Int} {H' : Hp} {l x t : Int} {ns : List Int}, PkS H d c H' l x t ns → 0 ≤ p → p < many → Q (.int p) H' := fun {p H' l x t ns} P h1 h2 => q p H' l x t ns h1 h2 P.eq P.l0 P.x0 P.x1 P.t0 P.n0 P.n1
  refine ⟨fun n σ H' => ∃ l x t ns, n = ns.length ∧ σ = [some (.ref d), some (.int many), none, none] ∧ PkS H d c H' l x t ns, ⟨ns.length, l, x, t, ns, rfl, rfl, PkS.init hd hc l0 x0 x1 t0 n0 n1⟩, ?_⟩
  rintro n σ H1 ⟨l, x, t, ns, rfl, rfl, P⟩
  -- behind the loop
  have rest : tRest { nx := fun _ H' => Q .non H', rt := Q } [some (.ref d), some (.int many), none, none] H1 := by
    refine ⟨_, rfl, d, _, rfl, P.left ne, ?_⟩
    refine ⟨_, rfl, _, _, rfl, rfl, _, rfl, ?_⟩
    have low : tLow { nx := fun _ H' => Q .non H', rt := Q } [some (.ref d), some (.int many), some (.int l), none] H1 := by
      refine ⟨_, rfl, _, rfl, 1, many, rfl, l, _, rfl, rfl, by rw [max1 m1]; exact ⟨by omega, m2⟩, ?_⟩
      rw [max1 m1]
      refine ⟨_, rfl, d, _, rfl, P.putL ne (l / many), ?_⟩
      have P2 := P.setD ne (l' := l / many) (Int.ediv_nonneg P.l0 (by omega)) P.x0 P.x1 P.t0
      refine ⟨_, rfl, .inl ⟨l, rfl, _, rfl, 1, many, rfl, l, _, rfl, rfl, by rw [max1 m1]; omega, ?_⟩⟩
      rw [max1 m1]
      exact done P2 (Int.emod_nonneg _ (by omega)) (Int.emod_lt_of_pos _ (by omega))
    by_cases b1 : many < 2
    · rw [decide_eq_true b1]
      exact low
    · rw [decide_eq_false b1]
      refine ⟨_, rfl, _, _, rfl, rfl, _, rfl, ?_⟩
      by_cases b2 : 1 < l
      · rw [decide_eq_true b2]
        exact low
      · rw [decide_eq_false b2]
        refine ⟨_, rfl, d, _, rfl, P.turn ne, _, _, rfl, rfl, _, rfl, d, _, rfl, P.putT ne (t + 1), ?_⟩
        have P2 := P.setD ne (t' := t + 1) P.l0 P.x0 P.x1 (by have := P.t0; omega)
        refine ⟨_, rfl, d, _, rfl, P2.mixed ne, _, rfl, d, _, rfl, P2.turn ne, _, _, rfl, rfl, small_mul (by omega) (by omega), _, _, rfl, rfl, .inl ⟨_, rfl, _, _, rfl, rfl, by omega, ?_⟩⟩
        have g1 := Int.emod_nonneg (x + (t + 1) * 104729) (show (998244353 : Int) ≠ 0 by omega)
        have g2 := Int.emod_lt_of_pos (x + (t + 1) * 104729) (show (0 : Int) < 998244353 by omega)
        refine ⟨_, rfl, _, rfl, _, _, rfl, rfl, small_mul g1 (Int.lt_trans g2 (by decide)), _, rfl, d, _, rfl, P2.turn ne, _, _, rfl, rfl, small_mul (by omega) (by omega), _, _, rfl, rfl, .inl ⟨_, rfl, _, _, rfl, rfl, by omega, ?_⟩⟩
        have g3 := Int.emod_nonneg ((x + (t + 1) * 104729) % 998244353 * ((x + (t + 1) * 104729) % 998244353) + (t + 1) * 17) (show (2147483647 : Int) ≠ 0 by omega)
        have g4 := Int.emod_lt_of_pos ((x + (t + 1) * 104729) % 998244353 * ((x + (t + 1) * 104729) % 998244353) + (t + 1) * 17) (show (0 : Int) < 2147483647 by omega)
        refine ⟨_, rfl, _, rfl, d, _, rfl, P2.putX ne _, ?_⟩
        have P3 := P2.setD ne P2.l0 g3 g4 P2.t0
        refine ⟨_, rfl, _, _, rfl, rfl, ⟨by omega, by omega⟩, .inl ⟨_, rfl, _, rfl, _, _, rfl, rfl, by omega, ?_⟩⟩
        exact done P3 (Int.emod_nonneg _ (by omega)) (Int.emod_lt_of_pos _ (by omega))
  -- the test
  refine ⟨_, rfl, _, _, rfl, rfl, _, rfl, ?_⟩
  by_cases b1 : 1 < many
  · rw [decide_eq_true b1]
    refine ⟨_, rfl, d, _, rfl, P.left ne, _, _, rfl, rfl, _, rfl, ?_⟩
    by_cases b2 : l < 2
    · rw [decide_eq_true b2]
      refine ⟨_, rfl, d, _, rfl, P.cells ne, .ref c, (ns.map V.int).length, rfl, .inl ⟨_, SqL.of P.cc, rfl⟩, _, _, rfl, rfl, _, rfl, ?_⟩
      by_cases b3 : (0 : Int) < (((ns.map V.int).length : Nat) : Int)
      · rw [decide_eq_true b3]
        rw [List.length_map] at b3
        refine ⟨fun σ H' => ∃ l x t ms, ms.length < ns.length ∧ σ = [some (.ref d), some (.int many), none, none] ∧ PkS H d c H' l x t ms, fun σ' H' ⟨l, x, t, ms, h1, h2, h3⟩ => ⟨ms.length, h1, l, x, t, ms, rfl, h2, h3⟩, ?_⟩
        have lt : ns.length - 1 < ns.length := by omega
        have hy : (ns.map V.int)[(ns.map V.int).length - 1]? = some (.int ns[ns.length - 1]) := by
          rw [List.length_map, List.getElem?_map, List.getElem?_eq_getElem lt]
          rfl
        have e2 : (ns.map V.int).dropLast = ns.dropLast.map V.int := by rw [List.dropLast_eq_take, List.dropLast_eq_take, List.length_map, List.map_take]
        refine ⟨_, rfl, d, _, rfl, P.cells ne, .inl ⟨rfl, _, SqL.of P.cc⟩, c, _, _, rfl, rfl, P.cc, hy, ?_⟩
        rw [e2]
        have P2 := P.setC (ms := ns.dropLast) (fun n h => P.n0 n (List.dropLast_subset _ h)) (by rw [List.length_dropLast]; have := P.n1; omega)
        refine ⟨_, rfl, d, _, rfl, P2.putL ne _, _, _, _, _, ?_, rfl, P2.setD ne (P.n0 _ (List.getElem_mem _)) P2.x0 P2.x1 P2.t0⟩
        rw [List.length_dropLast]
        omega
      · rw [decide_eq_false b3]
        exact rest
    · rw [decide_eq_false b2]
      exact rest
  · rw [decide_eq_false b1]
    exact rest
end PB
end
section
set_option Elab.async false
set_option linter.all false
set_option maxRecDepth 100000
/-! PBSrc: the law's source is made. -/
namespace PB
open PySem PySem.Spec PyProof.Rows L2
variable [PB.TBL]
abbrev rAbsI : List V → Hp → VK → Prop := fun xs H Q => ∃ i, xs = [.int i] ∧ Q (.int (if i < 0 then -i else i)) H
def tSource (K : PySem.W.Frag) : L2.TS :=
  tSeq (tAsg (tC (.int 11)) (gName 1))
  (tSeq (tFor (iList K (tVar 0)) (gName 2) (tAsg (tOp rModI (tCB rIntI (t1 (tOp rAddI (tOp rAddI (tOp rMulI (tVar 1) (tC (.int 69069))) (tOp rMulI (tVar 2) (tC (.int 31)))) (tC (.int 5))))) (tC (.int 2147483629))) (gName 1)))
    (tRet (tDisp [(tC (.str "cells"), tRevL K (tLc (iList K (tVar 0)) (gName 2) tYes (tCB rAbsI (t1 (tVar 2))) [2])), (tC (.str "left"), tC (.int 1)), (tC (.str "mixed"), tVar 1), (tC (.str "turn"), tC (.int 0))])))
/-- a new source over new cells -/
def spSource (K : PySem.W.Frag) : Sp := fun vs H Q _ => ∃ (a : Addr) (ns : List Int), vs = [.ref a] ∧ SqL K H a (ns.map V.int) ∧ ns.length ≤ 63 ∧
  ∀ (d c : Addr) (x : Int) (ms : List Int) (H' : Hp), Same H H' → d ≠ c → H d = none → H c = none → H' d = some (.dK (srcKV c 1 x 0)) → H' c = some (.lst (ms.map V.int)) → 0 ≤ x → x < 2147483647 → (∀ n ∈ ms, 0 ≤ n) → ms.length ≤ 63 → Q (.ref d) H'
theorem abs_nn (i : Int) : 0 ≤ if i < 0 then -i else i := by
  split <;> omega
theorem source_run {K : PySem.W.Frag} {vs : List V} {H : Hp} {Q : VK} {E : XK} (h : spSource K vs H Q E) : tSource K { nx := fun _ H' => Q .non H', rt := Q } (L2.start ["script", "mixed", "cell"] vs) H := by
  obtain ⟨a, ns, rfl, hS, n1, q⟩ := h
  refine ⟨_, rfl, a, rfl, ⟨_, hS⟩, for_list (K := K) (a := a) (xs := ns.map V.int) (fun i σ H' => ∃ (x : Int) (v : Option V), 0 ≤ x ∧ x < 2147483647 ∧ σ = [some (.ref a), some (.int x), v] ∧ H' = H) ⟨11, none, by omega, by omega, rfl, rfl⟩ (fun i σ H' _ ⟨_, _, _, _, _, e⟩ => by rw [e]; exact hS) ?_ ?_⟩
  · rintro i y σ H' hi ⟨x, v, x0, x1, rfl, rfl⟩
    obtain ⟨z, rfl⟩ : ∃ z : Int, y = .int z := by
      rw [List.getElem?_map] at hi
      cases e : ns[i]? with
      | none =>
        rw [e] at hi
        cases hi
      | some z =>
        rw [e] at hi
        exact ⟨z, (Option.some.inj hi).symm⟩
    refine ⟨_, rfl, _, _, rfl, rfl, small_mul (by omega) (by omega), _, rfl, _, _, rfl, rfl, small_mul (by omega) (by omega), _, _, rfl, rfl, _, _, rfl, rfl, .inl ⟨_, rfl, _, _, rfl, rfl, by omega, ?_⟩⟩
    exact ⟨_, _, Int.emod_nonneg _ (by omega), Int.lt_trans (Int.emod_lt_of_pos _ (by omega)) (by omega), rfl, rfl⟩
  · rintro σ H' ⟨x, v, x0, x1, rfl, rfl⟩
    intro d hd
    have s1 : Same H' (upd H' d (.dK [])) := same_new hd
    refine ⟨_, rfl, a, rfl, ⟨_, s1.seq hS⟩, fun D hD => ?_⟩
    have dD : d ≠ D := fun z => by
      rw [← z, upd_same] at hD
      cases hD
    have s2 : ∀ o, Same H' (upd (upd H' d (.dK [])) D o) := fun o => s1.trans (same_new hD)
    refine lc_list (K := K) (a := a) (xs := ns.map V.int) (σ := [some (.ref a), some (.int x), v]) (vs := [2]) (fun i H1 => ∃ ms : List Int, ms.length = i ∧ (∀ n ∈ ms, 0 ≤ n) ∧ H1 = upd (upd H' d (.dK [])) D (.lst (ms.map V.int))) ⟨[], rfl, (fun _ h => (nomatch h)), rfl⟩ (fun i H1 _ ⟨ms, _, _, e⟩ => by rw [e]; exact (s2 _).seq hS) ?_ ?_
    · rintro i y H1 hi ⟨ms, rfl, m0, rfl⟩
      obtain ⟨z, hz, rfl⟩ : ∃ z : Int, ms.length < ns.length ∧ y = .int z := by
        have l := (List.getElem?_eq_some_iff.mp hi).1
        rw [List.length_map] at l
        rw [List.getElem?_map] at hi
        cases e : ns[ms.length]? with
        | none =>
          rw [e] at hi
          cases hi
        | some z =>
          rw [e] at hi
          exact ⟨z, l, (Option.some.inj hi).symm⟩
      refine ⟨rfl, _, rfl, z, rfl, ms.map V.int, upd_same, ?_, ms ++ [if z < 0 then -z else z], by rw [List.length_append]; rfl, fun n hn => ?_, ?_⟩
      · rw [List.length_map, sizeLine_eq]
        omega
      · rcases List.mem_append.mp hn with h | h
        · exact m0 n h
        · rw [List.mem_singleton.mp h]
          exact abs_nn z
      · rw [upd_upd, List.map_append]
        rfl
    · rintro H1 ⟨ms, ml, m0, rfl⟩
      refine ⟨D, _, rfl, SqL.of upd_same, fun c hc => ?_⟩
      have cD : c ≠ D := fun z => by
        rw [z, upd_same] at hc
        cases hc
      have cd : d ≠ c := fun z => by
        rw [← z, upd_ne dD, upd_same] at hc
        cases hc
      have hc0 : H' c = none := by
        rw [upd_ne cD, upd_ne (Ne.symm cd)] at hc
        exact hc
      refine ⟨_, rfl, ?_⟩
      refine ⟨by rw [upd_ne cd, upd_ne dD, upd_same], [(.inr "cells", .ref c), (.inr "left", .int 1), (.inr "mixed", .int x), (.inr "turn", .int 0)], rfl, by show 4 ≤ 15; omega, ?_⟩
      refine q d c x ms.reverse _ ?_ cd hd hc0 upd_same ?_ x0 x1 (fun n hn => m0 n (List.mem_reverse.mp hn)) ?_
      · refine fun b o hb => ?_
        rw [upd_ne (ne_of_none hb hd), upd_ne (ne_of_none hb hc0)]
        exact s2 _ b o hb
      · rw [upd_ne (Ne.symm cd), upd_same, List.map_reverse]
      · rw [List.length_reverse, ml, List.length_map]
        exact n1
end PB
end
section
set_option Elab.async false
set_option linter.all false
set_option maxRecDepth 100000
/-! PBDraw: the draws in the evaluator; the law's start. -/
namespace PB
open PySem PySem.Spec PyProof.Rows L2
variable [PB.TBL]
/-- for each number below -/
noncomputable def allP (k : Nat → Bool) (n : Nat) : Bool := Nat.rec true (fun i ih => match k i with
  | true => ih
  | false => false) n
theorem allP_ok {k : Nat → Bool} : ∀ {n : Nat}, allP k n = true → ∀ i, i < n → k i = true
  | 0, _, i, h => absurd h (Nat.not_lt_zero i)
  | n + 1, e, i, h => by
    have e : (match k n with
      | true => allP k n
      | false => false) = true := e
    split at e
    · rename_i q
      rcases Nat.lt_succ_iff_lt_or_eq.mp h with h | rfl
      · exact allP_ok e i h
      · exact q
    · cases e
def isCel : O → Bool
  | .cel => true
  | _ => false
noncomputable def fPick : Fx := fun ds m x k => match ds with
  | [.ref s, .p (.int (.ofNat many))] => match Nat.blt s m.n, m.get s with
    | true, .src j => match isCel (m.get j) && Nat.blt 0 many && Nat.blt many 1000000 with
      | true => allP (fun p => k (.p (.int (.ofNat p))) m) many
      | false => false
    | _, _ => false
  | _ => false
section
variable {T : Tab} {K : PySem.W.Frag} {H : Hp} {ρ : List Addr} {m : Mem}
theorem Rep.put (R : Rep K H ρ m) {i : Nat} {a : Addr} {x : HO} (h : ρ[i]? = some a) (r : RO K (upd H a x) ρ (m.get i) a) : Rep K (upd H a x) ρ m := by
  refine ⟨R.len, R.lo, R.nd, R.kn, fun j b hj => ?_, R.top⟩
  by_cases e : j = i
  · subst e
    obtain rfl := Option.some.inj (h.symm.trans hj)
    exact r
  · refine (R.obj j b hj).upd (fun z => e ?_) (R.tsU h)
    subst z
    obtain ⟨p1, e1⟩ := List.getElem?_eq_some_iff.mp h
    obtain ⟨p2, e2⟩ := List.getElem?_eq_some_iff.mp hj
    exact (List.getElem_inj R.nd).mp (e2.trans e1.symm)
theorem pick_imp {vs : List V} {Q : VK} {E : XK} (h : spF T K fPick vs H Q E) : spPick vs H Q E := by
  obtain ⟨ρ, ds, m, x, k, R, r, e, hk, hx⟩ := h
  unfold fPick at e
  split at e
  · rename_i s many
    cases r with
    | cons r1 r =>
      cases r with
      | cons r2 r =>
        cases r
        obtain rfl := rx_int (ri_rx r2)
        obtain ⟨d, rfl, hi, hb, ro⟩ := ref_ok R (ri_rx r1)
        split at e
        · rename_i j hb2 q
          rw [q] at ro
          cases ro with
          | src so =>
            obtain ⟨c, l, y, t, h1, h2, h3, h4, h5, h6⟩ := so
            split at e
            · rename_i z
              rw [Bool.and_eq_true, Bool.and_eq_true] at z
              obtain ⟨⟨z1, z2⟩, z3⟩ := z
              have z2 := Nat.blt_eq.mp z2
              have z3 := Nat.blt_eq.mp z3
              have rc := R.obj j c h2
              have qc : m.get j = .cel := by
                revert z1
                generalize m.get j = o
                intro z1
                cases o <;> first | rfl | cases z1
              rw [qc] at rc
              cases rc with
              | cel co =>
                obtain ⟨ns, c1, c2, c3⟩ := co
                have ne : d ≠ c := fun z => by
                  rw [z, c1] at h1
                  cases h1
                have lm : (1 : Int) ≤ Int.ofNat many := Int.ofNat_le.mpr z2
                have lm2 : (Int.ofNat many : Int) < 1073741824 := Int.ofNat_lt.mpr (Nat.lt_trans z3 (by decide))
                refine ⟨d, c, l, y, t, _, ns, rfl, ne, h1, c1, h3, h4, h5, h6, c2, c3, lm, lm2, fun p H' l' x' t' ns' p0 p1 eH l0 x0 x1 t0 n0 n1 => ?_⟩
                subst eH
                obtain ⟨pn, rfl⟩ := Int.eq_ofNat_of_zero_le p0
                have hp := allP_ok e pn (Int.ofNat_lt.mp p1)
                have f1 : Fr ρ H ρ (upd H d (.dK (srcKV c l' x' t'))) := Fr.write hi fun o u w => nomatch (h1.symm.trans w)
                have R1 : Rep K (upd H d (.dK (srcKV c l' x' t'))) ρ m := R.put hi (by
                  rw [q]
                  exact .src ⟨c, l', x', t', upd_same, h2, l0, x0, x1, t0⟩)
                have c1' : upd H d (.dK (srcKV c l' x' t')) c = some (.lst (ns.map V.int)) := by
                  rw [upd_ne (Ne.symm ne)]
                  exact c1
                have f2 : Fr ρ (upd H d (.dK (srcKV c l' x' t'))) ρ (upd (upd H d (.dK (srcKV c l' x' t'))) c (.lst (ns'.map V.int))) := Fr.write h2 fun o u w => nomatch (c1'.symm.trans w)
                have R2 := R1.put (x := .lst (ns'.map V.int)) h2 (by
                  rw [qc]
                  exact .cel ⟨ns', upd_same, n0, n1⟩)
                exact hk ρ _ m _ _ (f1.trans f2) R2 (RX.of (.p (.int _))) hp
            · cases e
        · cases e
  · cases e
end
/-! ### the law's start: source = _law_source(script) -/
def m0 : Mem := ⟨2, 0, [.src 0, .cel]⟩
def isTrueD (d : D) (m : Mem) : Bool := match d with
  | .p (.bl b) => b
  | _ => false
def k0 : Ks := ⟨xF, isTrueD, fun _ _ => false, fun _ _ => false⟩
theorem rep0 {K : PySem.W.Frag} {H : Hp} {d c : Addr} {x : Int} {ms : List Int} (ne : d ≠ c) (hd : H d = some (.dK (srcKV c 1 x 0))) (hc : H c = some (.lst (ms.map V.int))) (x0 : 0 ≤ x) (x1 : x < 2147483647) (n0 : ∀ n ∈ ms, 0 ≤ n) (n1 : ms.length ≤ 63) : Rep K H [c, d] m0 := by
  refine ⟨rfl, rfl, by simp [Ne.symm ne], Nat.zero_le _, fun i a h => ?_, fun i hi => ?_⟩
  · cases i with
    | zero =>
      obtain rfl := Option.some.inj (show some c = some a from h)
      exact .cel ⟨ms, hc, n0, n1⟩
    | succ i =>
      cases i with
      | zero =>
        obtain rfl := Option.some.inj (show some d = some a from h)
        exact .src ⟨c, 1, x, 0, hd, rfl, by omega, x0, x1, by omega⟩
      | succ i => exact nomatch (show ([] : List Addr)[i]? = some a from h)
  · have hi : i < 2 := hi
    match i, hi with
    | 0, _ => exact Nat.zero_le _
    | 1, _ => exact Nat.le_refl _
/-- the law from its second statement on -/
def Starts (ms : Sx) (n : Nat) : Prop := ms (.un :: .ref 1 :: List.replicate n .un) m0 k0 (fun _ _ => false) = true
def spLaw (K : PySem.W.Frag) : Sp := fun vs H Q _ => ∃ (a : Addr) (ns : List Int), vs = [.ref a] ∧ SqL K H a (ns.map V.int) ∧ ns.length ≤ 63 ∧ ∀ H', Q (.bl true) H'
theorem law_starts {T : Tab} {K : PySem.W.Frag} {N : List Str} {n : Nat} {ms : Sx} {vs : List V} {H : Hp} {Q : VK} {E : XK} {W : WX} {E1 : XK} (hN : N.length = n + 2) (h : spLaw K vs H Q E) (st : Starts ms n) : tSeq (tAsg (tCall (spSource K) [] E1 (t1 (tVar 0))) (gName 1)) (rdS T K W ms) { nx := fun _ H' => Q .non H', rt := Q } (L2.start N vs) H := by
  obtain ⟨a, ns, rfl, hS, n1, q⟩ := h
  have e0 : (L2.start N [V.ref a]) = some (.ref a) :: List.replicate (n + 1) none := by
    unfold L2.start
    rw [hN]
    rfl
  rw [e0]
  refine ⟨.ref a, rfl, a, ns, rfl, hS, n1, fun d c x ms' H' s ne hd0 hc0 hd hc x0 x1 m0' m1 => ?_⟩
  refine ⟨[c, d], _, m0, k0, _, rep0 ne hd hc x0 x1 m0' m1, ⟨?_, fun i e he hn => ?_⟩, st, fun _ _ _ _ _ _ _ _ z => (nomatch (show false = true from z)), ⟨xF_ok, fun ρ' e m' v H2 f R r z => ?_, fun _ _ _ _ _ _ _ _ z => (nomatch (show false = true from z)), fun _ _ _ _ _ _ _ _ z => (nomatch (show false = true from z))⟩⟩
  · rw [List.length_set]
    simp
  · rw [nth_eq] at he
    match i with
    | 0 => exact absurd he.symm hn
    | 1 =>
      refine ⟨.ref d, ?_, ?_⟩
      · rw [List.replicate_succ]
        rfl
      · have he : D.ref 1 = e := he
        rw [← he]
        exact .ref rfl
    | i + 2 =>
      have he : (List.replicate n D.un).getD i .un = e := he
      rw [List.getD_eq_getElem?_getD, List.getElem?_replicate] at he
      exfalso
      split at he
      · exact hn he.symm
      · exact hn he.symm
  · have z : isTrueD e m' = true := z
    unfold isTrueD at z
    split at z
    · subst z
      obtain rfl := rx_bl r
      exact q H2
    · cases z
end PB
end
section
set_option Elab.async false
set_option linter.all false
set_option maxRecDepth 100000
/-! PBRepr: repr(a) == repr(b), len(str(n)): told without the text. -/
namespace PB
open PySem PySem.Spec PyProof.Rows L2
variable [PB.TBL]
mutual
/-- the very same data -/
def idP : P → P → Bool
  | .non, .non => true
  | .bl a, .bl b => a == b
  | .int i, .int j => ieq i j
  | .str a, .str b => Nat.beq a b
  | .tup a, .tup b => idPs a b
  | _, _ => false
def idPs : List P → List P → Bool
  | [], [] => true
  | a :: x, b :: y => match idP a b with
    | true => idPs x y
    | false => false
  | _, _ => false
end
mutual
theorem idP_eq : ∀ {p q : P}, idP p q = true → p = q
  | .non, .non, _ => rfl
  | .bl a, .bl b, h => by
    have h : (a == b) = true := by simpa [idP] using h
    rw [eq_of_beq h]
  | .int i, .int j, h => by
    have h : ieq i j = true := by simpa [idP] using h
    rw [ieq_iff] at h
    rw [eq_of_beq h]
  | .str a, .str b, h => by
    have h : Nat.beq a b = true := by simpa [idP] using h
    rw [Nat.eq_of_beq_eq_true h]
  | .tup a, .tup b, h => by
    have h : idPs a b = true := by simpa [idP] using h
    rw [idPs_eq h]
  | .non, .bl _, h => by simp [idP] at h
  | .non, .int _, h => by simp [idP] at h
  | .non, .str _, h => by simp [idP] at h
  | .non, .tup _, h => by simp [idP] at h
  | .bl _, .non, h => by simp [idP] at h
  | .bl _, .int _, h => by simp [idP] at h
  | .bl _, .str _, h => by simp [idP] at h
  | .bl _, .tup _, h => by simp [idP] at h
  | .int _, .non, h => by simp [idP] at h
  | .int _, .bl _, h => by simp [idP] at h
  | .int _, .str _, h => by simp [idP] at h
  | .int _, .tup _, h => by simp [idP] at h
  | .str _, .non, h => by simp [idP] at h
  | .str _, .bl _, h => by simp [idP] at h
  | .str _, .int _, h => by simp [idP] at h
  | .str _, .tup _, h => by simp [idP] at h
  | .tup _, .non, h => by simp [idP] at h
  | .tup _, .bl _, h => by simp [idP] at h
  | .tup _, .int _, h => by simp [idP] at h
  | .tup _, .str _, h => by simp [idP] at h
theorem idPs_eq : ∀ {p q : List P}, idPs p q = true → p = q
  | [], [], _ => rfl
  | a :: x, b :: y, h => by
    unfold idPs at h
    split at h
    · rename_i c
      rw [idP_eq c, idPs_eq h]
    · cases h
  | [], _ :: _, h => by simp [idPs] at h
  | _ :: _, [], h => by simp [idPs] at h
end
/-! ### what may be shown -/
def big1900 : Nat := Nat.pow 2 1900
mutual
def wtP : P → Nat
  | .non => 0
  | .bl _ => 0
  | .int _ => 1920
  | .str n => (decL n).length
  | .tup ps => wtPs ps
def wtPs : List P → Nat
  | [] => 0
  | p :: ps => wtP p + 1 + wtPs ps
end
mutual
def okR : P → Bool
  | .int i => Nat.blt i.natAbs big1900
  | .tup ps => okRs ps
  | _ => true
def okRs : List P → Bool
  | [] => true
  | p :: ps => match okR p with
    | true => okRs ps
    | false => false
end
theorem big_log {n : Nat} (h : n < big1900) : n.log2 < 1901 := by
  by_cases z : n = 0
  · rw [z]
    decide
  · rw [Nat.log2_lt z]
    exact Nat.lt_of_lt_of_le h (Nat.pow_le_pow_right (by omega) (by omega))
theorem big_ten {n : Nat} (h : n < big1900) : n < 10 ^ 599 := Nat.lt_trans h (by decide +kernel)
section
variable {K : PySem.W.Frag} {H : Hp}
theorem str_lt {n : Nat} (h : okS n = true) : ∀ c ∈ (decS n).cps.toList, c < 16 ^ 8 := by
  have := decS_ok h
  unfold PyData.strOk at this
  rw [← Array.all_toList, List.all_eq_true] at this
  intro c hc
  have := of_decide_eq_true (this c hc)
  omega
mutual
theorem okR_show : ∀ {p : P} {v : V}, RP K H p v → okR p = true → (toPy p).showable = true ∧ (toPy p).leavesShort 600 = true ∧ (toPy p).weight ≤ wtP p ∧ (toPy p).hasDict = false
  | _, _, .non, _ => ⟨rfl, rfl, Nat.le_refl _, rfl⟩
  | _, _, .bl b, _ => ⟨rfl, rfl, Nat.le_refl _, rfl⟩
  | _, _, .int i, h => by
    have h : i.natAbs < big1900 := Nat.blt_eq.mp (by simpa [okR] using h)
    have l := big_log h
    refine ⟨?_, ?_, ?_, rfl⟩
    · show decide (i.natAbs.log2 < 1920) = true
      exact decide_eq_true (by omega)
    · show decide ((PyData.shown (.int i)).length ≤ 600) = true
      refine decide_eq_true ?_
      show (Str.ofString (toString i)).length ≤ 600
      rw [PySem.ofString_length]
      exact int_text_length_le10 (by omega) (big_ten h)
    · show (if i == 0 then 0 else i.natAbs.log2 + 1) ≤ 1920
      split <;> omega
  | _, _, @RP.str _ _ n h, _ => by
    refine ⟨rfl, ?_, ?_, rfl⟩
    · show ((decS n).cps.toList.all fun c => decide (c < 16 ^ 8)) = true
      rw [List.all_eq_true]
      exact fun c hc => decide_eq_true (str_lt h c hc)
    · show (decL n).toArray.size ≤ (decL n).length
      simp
  | _, _, @RP.tup _ _ _ _ ps h hs z, e => by
    have e : okRs ps = true := by simpa [okR] using e
    obtain ⟨h1, h2, h3, h4⟩ := okRs_show hs e
    exact ⟨h1, h2, h3, h4⟩
theorem okRs_show : ∀ {ps : List P} {vs : List V}, RPs K H ps vs → okRs ps = true → PyData.showableAll (toPys ps) = true ∧ PyData.leavesShortAll 600 (toPys ps) = true ∧ PyData.weightAll (toPys ps) ≤ wtPs ps ∧ PyData.hasDictAll (toPys ps) = false
  | _, _, .nil, _ => ⟨rfl, rfl, Nat.le_refl _, rfl⟩
  | _, _, .cons h hs, e => by
    unfold okRs at e
    split at e
    · rename_i c
      obtain ⟨a1, a2, a3, a4⟩ := okR_show h c
      obtain ⟨b1, b2, b3, b4⟩ := okRs_show hs e
      refine ⟨?_, ?_, ?_, ?_⟩
      · show (PyData.showable _ && PyData.showableAll _) = true
        rw [a1, b1]
        rfl
      · show (PyData.leavesShort 600 _ && PyData.leavesShortAll 600 _) = true
        rw [a2, b2]
        rfl
      · show PyData.weight _ + 1 + PyData.weightAll _ ≤ wtP _ + 1 + wtPs _
        omega
      · show (PyData.hasDict _ || PyData.hasDictAll _) = false
        rw [a4, b4]
        rfl
    · cases e
end
end
theorem shown_ok {d : PyData} (h : d.leavesShort 600 = true) (w : d.weight ≤ 20000) : d.shown.length ≤ sizeLine := by
  have e := PyData.shown_le 600 (by omega) d h
  have e2 : (600 + 2) * d.weight ≤ 602 * 20000 := Nat.mul_le_mul_left _ w
  rw [sizeLine_eq]
  omega
/-! ### repr, by nobody else's repr -/
def rRepr (K : PySem.W.Frag) : List V → Hp → VK → Prop := fun xs H Q => ∃ v d, xs = [v] ∧ Dp K H v d ∧ d.showable = true ∧ d.shown.length ≤ sizeLine ∧ d.hasDict = false ∧ d.depth ≤ 100 ∧ Q (.str d.shown) H
theorem cr_repr {X : Cx} (hg : X.A.guards = some []) (hu : X.A.units + 200 < cLine) : CallR X (.builtin "repr") (rRepr X.K) := by
  intro pins s σ H xs us Q I r h
  obtain ⟨v, d, rfl, hd, h1, h2, h3, h4, q⟩ := h
  obtain ⟨u, rfl, ru⟩ := vals1 r
  obtain ⟨as, rd⟩ := Dp.reads I d v u hd ru
  cases hd with
  | non =>
    obtain rfl : u = Value.none := ru
    exact PySem.P.repr_of_none ⟨.str _, H, I.tok _, ⟨_, rfl⟩, q⟩
  | bl b =>
    obtain rfl : u = Value.bool b := ru
    exact PySem.P.repr_of_bool ⟨.str _, H, I.tok _, ⟨_, rfl⟩, q⟩
  | int i =>
    obtain ⟨t, rfl⟩ := ru
    exact PySem.P.repr_of_int (of_decide_eq_true (show decide (i.natAbs.log2 < 1920) = true from h1)) ⟨.str _, H, I.tok _, ⟨_, rfl⟩, q⟩
  | str x =>
    obtain ⟨t, rfl⟩ := ru
    exact PySem.P.repr_of_str ⟨.str _, H, I.tok _, ⟨_, rfl⟩, q⟩ h2
  | lst ha hs =>
    obtain rfl : u = Value.ref _ := ru
    exact repr_of_reads' rd h1 (PyData.noDict_hsm h3) hg (by omega) (fun _ _ e => e) (fun h' t tk hk => ⟨.str _, H, I.kept hk, ⟨_, rfl⟩, q⟩) h2
  | tup ha hs =>
    obtain rfl : u = Value.ref _ := ru
    exact repr_of_reads' rd h1 (PyData.noDict_hsm h3) hg (by omega) (fun _ _ e => e) (fun h' t tk hk => ⟨.str _, H, I.kept hk, ⟨_, rfl⟩, q⟩) h2
/-! ### repr(a) == repr(b) where both are the same data -/
inductive RD where
  | a (x : P)
  | l (xs : List P)
noncomputable def rdat (d : D) (m : Mem) (k : RD → Bool) : Bool := match d with
  | .p x => match okR x && Nat.ble (wtP x) 20000 && depLe deep x with
    | true => k (.a x)
    | false => false
  | d => listOf d m fun ds => match pures ds with
    | some xs => match okRs xs && Nat.ble (wtPs xs) 20000 && depLes 99 xs with
      | true => k (.l xs)
      | false => false
    | none => false
def sameR : RD → RD → Bool
  | .a x, .a y => idP x y
  | .l xs, .l ys => idPs xs ys
  | _, _ => false
def RD.py : RD → PyData
  | .a x => toPy x
  | .l xs => .list (toPys xs)
theorem sameR_eq {a b : RD} (h : sameR a b = true) : a = b := by
  cases a with
  | a x =>
    cases b with
    | a y => rw [idP_eq h]
    | l _ => cases h
  | l xs =>
    cases b with
    | l ys => rw [idPs_eq h]
    | a _ => cases h
noncomputable def eReprC (neg : Bool) (a b : Ex) : Ex := fun σ m x k => a σ m x fun u m => lay u m fun u m => rdat u m fun p => b σ m x fun v m => lay v m fun v m => rdat v m fun q => match sameR p q with
  | true => k (.p (.bl (!neg))) m
  | false => false
section
variable {T : Tab} {X : Cx} {W : WX} {a b : Expr} {ea eb : Ex} {pos p1 p2 p3 p4 : Pos}
theorem rdat_ok {K : PySem.W.Frag} {H : Hp} {ρ : List Addr} {m : Mem} {d : D} {v : V} {k : RD → Bool} (R : Rep K H ρ m) (r : RI K H ρ d v) (e : rdat d m k = true) : ∃ p, Dp K H v p.py ∧ p.py.showable = true ∧ p.py.shown.length ≤ sizeLine ∧ p.py.hasDict = false ∧ p.py.depth ≤ 100 ∧ k p = true := by
  have viaL : ∀ d, RI K H ρ d v → (listOf d m fun ds => match pures ds with
    | some xs => match okRs xs && Nat.ble (wtPs xs) 20000 && depLes 99 xs with
      | true => k (.l xs)
      | false => false
    | none => false) = true → ∃ p, Dp K H v p.py ∧ p.py.showable = true ∧ p.py.shown.length ≤ sizeLine ∧ p.py.hasDict = false ∧ p.py.depth ≤ 100 ∧ k p = true := fun d r e => by
    obtain ⟨ds, a, vs, rfl, ha, hs, z, e⟩ := listOf_ok R (ri_rx r) e
    split at e
    · rename_i xs q
      have hp := pures_ri q hs
      split at e
      · rename_i c
        rw [Bool.and_eq_true, Bool.and_eq_true] at c
        obtain ⟨h1, h2, h3, h4⟩ := okRs_show hp c.1.1
        have w := Nat.le_of_ble_eq_true c.1.2
        refine ⟨.l xs, .lst (ha) hp.dp, h1, shown_ok (d := .list (toPys xs)) h2 (Nat.le_trans h3 w), h4, ?_, e⟩
        show PyData.depthAll (toPys xs) + 1 ≤ 100
        exact Nat.succ_le_succ (depLes_depth 99 xs c.2)
      · cases e
    · cases e
  unfold rdat at e
  cases d with
  | p x =>
    dsimp only at e
    split at e
    · rename_i c
      rw [Bool.and_eq_true, Bool.and_eq_true] at c
      have hp := ri_p r
      obtain ⟨h1, h2, h3, h4⟩ := okR_show hp c.1.1
      exact ⟨.a x, hp.dp, h1, shown_ok h2 (Nat.le_trans h3 (Nat.le_of_ble_eq_true c.1.2)), h4, depLe_depth deep x c.2, e⟩
    · cases e
  | un => exact viaL _ r e
  | ref n => exact viaL _ r e
  | tmp ds => exact viaL _ r e
  | tr ds => exact viaL _ r e
theorem rcmp_of {neg : Bool} {r : R2} (hr : ∀ (z : Str) H Q, Q (V.bl (!neg)) H → r (.str z) (.str z) H Q) : ∀ st H Q, rdE T X.K W (eReprC neg ea eb) st H Q → tOp r (tCB (rRepr X.K) (tCons (rdE T X.K W ea) tNil)) (tCB (rRepr X.K) (tCons (rdE T X.K W eb) tNil)) st H Q := fun st H Q ⟨ρ, σ, m, x, k, R, S, e, hk, hx⟩ => by
  refine ⟨ρ, σ, m, x, _, R, S, e, fun ρ1 d1 m1 v1 H1 f1 R1 r1 q1 => ?_, hx⟩
  obtain ⟨ρ2, d2, m2, f2, f2', R2, r2, _, q2⟩ := lay_ok f1 R1 r1 q1
  obtain ⟨p, a1, a2, a3, a4, a5, q2⟩ := rdat_ok R2 r2 q2
  refine ⟨v1, p.py, rfl, a1, a2, a3, a4, a5, ?_⟩
  refine ⟨ρ2, σ, m2, x, _, R2, S.fr R f2, q2, fun ρ3 d3 m3 v3 H3 f3 R3 r3 q3 => ?_, hx.fr f2⟩
  obtain ⟨ρ4, d4, m4, f4, f4', R4, r4, _, q4⟩ := lay_ok f3 R3 r3 q3
  obtain ⟨q, b1, b2, b3, b4, b5, q4⟩ := rdat_ok R4 r4 q4
  refine ⟨v3, q.py, rfl, b1, b2, b3, b4, b5, ?_⟩
  split at q4
  · rename_i c
    rw [sameR_eq c]
    exact hr _ H3 Q (fin_p (hk.fr (f2.trans f4) R4) R4 (.bl _) q4)
  · cases q4
theorem se_rne (G : Good X W) (hgd : X.A.guards = some []) (hm : X.mg "repr" = none) (hg : Gl X "repr") (ha : PE X a (rdE T X.K W ea)) (hb : PE X b (rdE T X.K W eb)) (na : starEach [a] X.env = (false, eval a X.env) :: starEach [] X.env := by rfl) (nb : starEach [b] X.env = (false, eval b X.env) :: starEach [] X.env := by rfl) :
    PE X (.Compare (.Call (.Name "repr" p1) [a] [] p2) [.NotEq] [.Call (.Name "repr" p3) [b] [] p4] pos) (rdE T X.K W (eReprC true ea eb)) :=
  pe_imp (pe_cmpR op_ne (pe_callB (cr_repr hgd G.hu) hg hm boot_repr (pa_cons ha pa_nil na) (by decide) (by decide) na) (pe_callB (cr_repr hgd G.hu) hg hm boot_repr (pa_cons hb pa_nil nb) (by decide) (by decide) nb) rfl) (rcmp_of fun z H Q q => ⟨rfl, by
    rw [decide_eq_true rfl]
    exact q⟩)
theorem st_rne (G : Good X W) (hgd : X.A.guards = some []) (hm : X.mg "repr" = none) (hg : Gl X "repr") (ha : PE X a (rdE T X.K W ea)) (hb : PE X b (rdE T X.K W eb)) (na : starEach [a] X.env = (false, eval a X.env) :: starEach [] X.env := by rfl) (nb : starEach [b] X.env = (false, eval b X.env) :: starEach [] X.env := by rfl) :
    PT X (.Compare (.Call (.Name "repr" p1) [a] [] p2) [.NotEq] [.Call (.Name "repr" p3) [b] [] p4] pos) (rdT T X.K W (eReprC true ea eb)) :=
  pt_imp (pt_cmpR op_ne (pe_callB (cr_repr hgd G.hu) hg hm boot_repr (pa_cons ha pa_nil na) (by decide) (by decide) na) (pe_callB (cr_repr hgd G.hu) hg hm boot_repr (pa_cons hb pa_nil nb) (by decide) (by decide) nb) rfl) fun st H Q h => rcmp_of (fun z H Q q => ⟨rfl, by
    rw [decide_eq_true rfl]
    exact q⟩) st H _ (rdT_tB st H Q h)
theorem se_req (G : Good X W) (hgd : X.A.guards = some []) (hm : X.mg "repr" = none) (hg : Gl X "repr") (ha : PE X a (rdE T X.K W ea)) (hb : PE X b (rdE T X.K W eb)) (na : starEach [a] X.env = (false, eval a X.env) :: starEach [] X.env := by rfl) (nb : starEach [b] X.env = (false, eval b X.env) :: starEach [] X.env := by rfl) :
    PE X (.Compare (.Call (.Name "repr" p1) [a] [] p2) [.Eq] [.Call (.Name "repr" p3) [b] [] p4] pos) (rdE T X.K W (eReprC false ea eb)) :=
  pe_imp (pe_cmpR op_eq (pe_callB (cr_repr hgd G.hu) hg hm boot_repr (pa_cons ha pa_nil na) (by decide) (by decide) na) (pe_callB (cr_repr hgd G.hu) hg hm boot_repr (pa_cons hb pa_nil nb) (by decide) (by decide) nb) rfl) (rcmp_of fun z H Q q => ⟨rfl, by
    rw [decide_eq_true rfl]
    exact q⟩)
end
end PB
end
section
set_option Elab.async false
set_option linter.all false
set_option maxRecDepth 100000
/-! PBLen: len(str(n)). -/
namespace PB
open PySem PySem.Spec PyProof.Rows L2
variable [PB.TBL]
/-- how often ten goes in: the exponent by halves -/
noncomputable def tenK (n : Nat) (k : Nat → Bool) (ps : List Nat) : Nat → Bool := List.rec (motive := fun _ => Nat → Bool) k (fun p _ ih l => Bool.rec (ih l) (fN (Nat.add l p) ih) (Nat.ble (Nat.pow 10 (Nat.add l p)) n)) ps
noncomputable def lenK (n : Nat) (k : Nat → Bool) : Bool := match Nat.blt n 10 with
  | true => k 1
  | false => tenK n (fun l => match Nat.ble (Nat.pow 10 l) n with
    | true => match Nat.blt n (Nat.pow 10 (l + 1)) with
      | true => k (l + 1)
      | false => false
    | false => false) [2048, 1024, 512, 256, 128, 64, 32, 16, 8, 4, 2, 1] 0
def big4300 : Nat := Nat.pow 10 4300
theorem len_small {n : Nat} (h : n < 10) : (Nat.repr n).length = 1 := by
  have h1 : (Nat.repr n).length ≤ 1 := (Nat.length_repr_le_iff (by omega)).mpr (by omega)
  have h2 : ¬ (Nat.repr n).length = 0 := fun z => by
    have : Nat.repr n ≠ "" := Nat.repr_ne_empty
    exact this (String.length_eq_zero_iff.mp z)
  omega
theorem len_big {n : Nat} (h : ¬ n < 10) : (Nat.repr n).length = (Nat.repr (n / 10)).length + 1 := by
  have p : ∀ m : Nat, 0 < (Nat.repr m).length := fun m => Nat.pos_of_ne_zero fun z => (Nat.repr_ne_empty : Nat.repr m ≠ "") (String.length_eq_zero_iff.mp z)
  have key : ∀ k, 0 < k → ((Nat.repr n).length ≤ k + 1 ↔ (Nat.repr (n / 10)).length ≤ k) := fun k hk => by
    rw [Nat.length_repr_le_iff (by omega), Nat.length_repr_le_iff hk, Nat.div_lt_iff_lt_mul (by omega), Nat.pow_succ]
  have h1 : ¬ (Nat.repr n).length ≤ 1 := fun z => h (by
    have := (Nat.length_repr_le_iff (k := 1) (by omega)).mp z
    omega)
  have a1 := (key _ (p (n / 10))).mpr (Nat.le_refl _)
  have a2 := (key ((Nat.repr n).length - 1) (by omega)).mp (by omega)
  omega
theorem tenK_ok {n : Nat} {k : Nat → Bool} : ∀ {ps : List Nat} {l : Nat}, tenK n k ps l = true → ∃ l, k l = true
  | [], l, e => ⟨l, e⟩
  | p :: ps, l, e => by
    have e : (Bool.rec (tenK n k ps l) (fN (Nat.add l p) (tenK n k ps)) (Nat.ble (Nat.pow 10 (Nat.add l p)) n) : Bool) = true := e
    cases q : Nat.ble (Nat.pow 10 (Nat.add l p)) n with
    | true =>
      rw [q] at e
      have e : fN (Nat.add l p) (tenK n k ps) = true := e
      rw [fN_eq] at e
      exact tenK_ok e
    | false =>
      rw [q] at e
      exact tenK_ok (show tenK n k ps l = true from e)
theorem lenK_ok {k : Nat → Bool} {n : Nat} (e : lenK n k = true) : k (Nat.repr n).length = true := by
  unfold lenK at e
  split at e
  · rename_i z
    rw [len_small (Nat.blt_eq.mp z)]
    exact e
  · rename_i z
    have z : ¬ n < 10 := fun w => by
      rw [Nat.blt_eq.mpr w] at z
      cases z
    obtain ⟨l, e⟩ := tenK_ok e
    have up : ∀ j, n < 10 ^ (j + 1) → (Nat.repr n).length ≤ j + 1 := fun j h => (Nat.length_repr_le_iff (Nat.succ_pos j)).mpr h
    have lo : ∀ j, 10 ^ j ≤ n → j + 1 ≤ (Nat.repr n).length := fun j h => by
      rcases Nat.eq_zero_or_pos j with rfl | p
      · have := len_big z
        omega
      · refine Nat.lt_of_not_le fun w => ?_
        have := (Nat.length_repr_le_iff p).mp w
        omega
    split at e
    · rename_i a
      have a : 10 ^ l ≤ n := Nat.le_of_ble_eq_true a
      split at e
      · rename_i b
        have b : n < 10 ^ (l + 1) := Nat.blt_eq.mp b
        rw [Nat.le_antisymm (up l b) (lo l a)]
        exact e
      · cases e
    · cases e
noncomputable def eLenStr (a : Ex) : Ex := fun σ m x k => a σ m x fun d m => match d with
  | .p (.int (.ofNat n)) => match Nat.blt n big4300 with
    | true => lenK n fun l => k (iN l) m
    | false => false
  | _ => false
section
variable {T : Tab} {X : Cx} {W : WX} {a : Expr} {ea : Ex} {pos p1 p2 p3 : Pos}
theorem cr_strN (hc : X.calm = true) (hn : ∀ h : Heap, X.K.In h → h.NoDigits) : CallR X (.type "str") (fun xs H Q => ∃ i : Int, xs = [.int i] ∧ i.natAbs < big4300 ∧ Q (.str (toString i)) H) := by
  intro pins s σ H xs us Q I r h
  obtain ⟨i, rfl, hz, q⟩ := h
  obtain ⟨u, rfl, t, rfl⟩ := vals1 r
  exact str_of_int_or (I.ok.hd hc) (hn _ I.kIn) (fun _ => ⟨.str _, H, I.tok _, ⟨_, rfl⟩, q⟩) fun z => absurd hz (Nat.not_lt_of_le z)
theorem lenstr_of : ∀ st H Q, rdE T X.K W (eLenStr ea) st H Q → tCB (rLenV X.K) (tCons (tCB (fun xs H Q => ∃ i : Int, xs = [.int i] ∧ i.natAbs < big4300 ∧ Q (.str (toString i)) H) (tCons (rdE T X.K W ea) tNil)) tNil) st H Q := fun st H Q ⟨ρ, σ, m, x, k, R, S, e, hk, hx⟩ => by
  refine ⟨ρ, σ, m, x, _, R, S, e, fun ρ1 d1 m1 v1 H1 f1 R1 r1 q1 => ?_, hx⟩
  dsimp only at q1
  split at q1
  · rename_i n
    split at q1
    · rename_i z
      obtain rfl := rx_int r1
      have z : n < big4300 := Nat.blt_eq.mp z
      refine ⟨_, rfl, z, .str _, _, rfl, ⟨int_text_fits10 (a := Int.ofNat n) z, rfl⟩, ?_⟩
      have := lenK_ok q1
      have e2 : (toString (Int.ofNat n) : Str).length = (Nat.repr n).length := PySem.ofString_length _
      refine fin_p (hk.fr f1 R1) R1 ?_ this
      rw [e2]
      exact .int _
    · cases q1
  · cases q1
theorem se_lenstr (G : Good X W) (hn : ∀ h : Heap, X.K.In h → h.NoDigits) (m1 : X.mg "len" = none) (m2 : X.mg "str" = none) (g1 : Gl X "len") (g2 : Gl X "str") (ha : PE X a (rdE T X.K W ea)) (na : starEach [a] X.env = (false, eval a X.env) :: starEach [] X.env := by rfl) (nb : starEach [.Call (.Name "str" p1) [a] [] p2] X.env = (false, eval (.Call (.Name "str" p1) [a] [] p2) X.env) :: starEach [] X.env := by rfl) :
    PE X (.Call (.Name "len" p3) [.Call (.Name "str" p1) [a] [] p2] [] pos) (rdE T X.K W (eLenStr ea)) :=
  pe_imp (pe_callB call_len g1 m1 boot_len (pa_cons (pe_callTy (cr_strN G.calm hn) g2 m2 boot_str (pa_cons ha pa_nil na) (by decide) (by decide) na) pa_nil nb) (by decide) (by decide) nb) lenstr_of
end
end PB
end
section
set_option Elab.async false
set_option linter.all false
set_option maxRecDepth 100000
/-! PBExc: own errors below ValueError whose __init__ hands its arguments to super() and keeps them as fields. -/
namespace PBX
open PySem PySem.W PySem.Calls PyProof.Rows PySem.HandSPX
variable [PB.TBL]
/-- what the written part says of the class at C and of its __init__ -/
structure XT (P : Program) (K : Frag) (mg : Str → Option Value) (x : Str) (C fI : Addr) (fs : List Str) (qual : Str) (params : Arguments) (body : List Stmt) (scope : Scope) : Prop where
  gC : mg x = some (.ref C)
  cls : ∃ nm q N bs bm sn sub ab col dd k0 k1 k2 k3 k5, K.lookup C = some (excClassObj nm q C N bs bm true sn sub ab col dd k0 k1 k2 k3 k5 "ValueError.__new__") ∧ refsVE bm = true
  sa : findIn K (.ref C) "__setattr__" = some (some (.builtin "object.__setattr__"))
  no : ∀ f ∈ fs, findIn K (.ref C) f = some none
  iC : findIn K (.ref C) "__init__" = some (some (.ref fI))
  tC : typeIn K (.ref fI) = some (.type "function")
  kC : keepIn K (.ref C) = true
  exC : subIn K (.ref C) (.type "BaseException") = some true
  tyC : typeIn K (.ref C) = some (.type "type")
  up : mroIn K C (.ref C) = some true
  sup : ks_superIn K C C "__init__" = some (some (.builtin "ValueError.__init__"))
  sVE : subIn K (.ref C) (.type "ValueError") = some true
  nsup : nsIn K mainGlobals "super" = some none
  opq : nsIn K cStatics "thirdparty.any" = some none
  fn : ∃ (oc : Value) (od : Option Addr) (doc pm : Value) (an : Option Addr) (cda cc : Addr) (ct : Value) (osl : Array (Option Value)) (ccl : Value) (cdd : Option Addr) (vs : Array Value) (ccs : Array (Option Value)) (file : Str) (tf : Tok) (cl : Value) (cld : Option Addr) (csl : Array (Option Value)),
    K.lookup fI = some ⟨oc, od, .func (fnX "__init__" qual params body scope [("__class__", cc)] .none .none doc pm an (.ref cda) ct), osl⟩ ∧ codeIn K (.ref cda) qual = true ∧
      K.lookup cda = some ⟨ccl, cdd, .fields vs, ccs⟩ ∧ vs[2]? = some (.str file tf) ∧ ((P.main.file : Str) == file) = true ∧ K.lookup cc = some ⟨cl, cld, .cell (some (.ref C)), csl⟩
  top : (P.main.scope.names.lookup ("super" : Str)).isSome = false
section
variable {P : Program} {w : World} {A : Around} {E : Value → Shared → Prop} {K : Frag} {mg mb : Str → Option Value} {xn : Str} {C fI x L : Addr} {fs : List Str} {qual : Str} {params : Arguments} {body : List Stmt} {scope : Scope} {m : Str → Option Value}
/-- super().__init__(e, ..) -/
theorem sup_run (T : XT P K mg xn C fI fs qual params body scope) {h : Heap} {g : Array GenState} {d : Drawn} {t : Nat} {os : OsState} {t0 cda cc : Addr} {us : List Value} {e : Expr} {es : List Expr} {p0 p1 p2 p3 p4 : Pos} {Q : Flow → Shared → Prop} {rb : List Stmt} {ar : Arg} {rest : List Arg}
    (hfn : ∃ (oc : Value) (od : Option Addr) (doc pm : Value) (an : Option Addr) (ct : Value) (osl : Array (Option Value)) (ccl : Value) (cdd : Option Addr) (vs : Array Value) (ccs : Array (Option Value)) (file : Str) (tf : Tok) (cl : Value) (cld : Option Addr) (csl : Array (Option Value)),
      K.lookup fI = some ⟨oc, od, .func (fnX "__init__" qual params body scope [("__class__", cc)] .none .none doc pm an (.ref cda) ct), osl⟩ ∧ K.lookup cda = some ⟨ccl, cdd, .fields vs, ccs⟩ ∧ vs[2]? = some (.str file tf) ∧ ((P.main.file : Str) == file) = true ∧ K.lookup cc = some ⟨cl, cld, .cell (some (.ref C)), csl⟩)
    (hpar : params.posonlyargs ++ params.args = ar :: rest) (X : K.In h) (hG : h.Ns mainGlobals mg) (hB : h.Ns builtinsNs mb) (hb : mb "super" = some (.type "super")) (hn : h.Ns L m) (hv : m ar.arg = some (.ref x)) (hx : h.get? x = some (excO C t0)) (hxK : K.lookup x = none)
    (hk : scope.kind = .function) (hks : scope.names.lookup ("super" : Str) = some .globalImplicit) (hkc : scope.names.lookup ("__class__" : Str) = some .free) (hka : scope.names.lookup ar.arg = some .local) (hz : us.length ≤ sizeLine)
    (hargs : ∀ (h' : Heap) (tk : Nat) (Q' : List Value → Shared → Prop) (E' : Value → Shared → Prop), (∀ b o, h.get? b = some o → h'.get? b = some o) → Q' us ⟨h', g, d, tk, os⟩ → wpAny (model P w) A (spliced (backTo p3 (starEach (e :: es) (ksEnv qual scope L fI (.ref cda) cc)))) Q' E' ⟨h', g, d, tk, os⟩)
    (hq : ∀ h' t1 tk, (∀ b o, b ≠ x → h.get? b = some o → h'.get? b = some o) → h'.get? x = some (excO C t1) → Q .next ⟨h', g, d, tk, os⟩)
    (hst : starEach (e :: es) (ksEnv qual scope L fI (.ref cda) cc) = (false, eval e (ksEnv qual scope L fI (.ref cda) cc)) :: starEach es (ksEnv qual scope L fI (.ref cda) cc)) (hpl : (backTo p3 (starEach es (ksEnv qual scope L fI (.ref cda) cc))).any (·.1) = false)
    (hsw : swapsWith (.Call (.Attribute (.Call (.Name "super" p0) [] [] p1) "__init__" p2) (e :: es) [] p3) none p4.line (ksEnv qual scope L fI (.ref cda) cc) = pure false) (hin : interactive (ksEnv qual scope L fI (.ref cda) cc) = false)
    {pl : Sem Bool} (he : eval (.Call (.Attribute (.Call (.Name "super" p0) [] [] p1) "__init__" p2) (e :: es) [] p3) (ksEnv qual scope L fI (.ref cda) cc) = (do
      let ov ← attributeBase (.Call (.Name "super" p0) [] [] p1) "__init__" (ksEnv qual scope L fI (.ref cda) cc) (eval (.Call (.Name "super" p0) [] [] p1) (ksEnv qual scope L fI (.ref cda) cc))
      standAt p2.atName
      let (f, first) ← holding [ov] (getMethod ov "__init__" pl)
      callWith p3 f first (backTo p3 (starEach (e :: es) (ksEnv qual scope L fI (.ref cda) cc))) [])) :
    _root_.PySem.wpAt (model P w) A (.func rb (ksEnv qual scope L fI (.ref cda) cc)) (exec (.Expr (.Call (.Attribute (.Call (.Name "super" p0) [] [] p1) "__init__" p2) (e :: es) [] p3) p4) (ksEnv qual scope L fI (.ref cda) cc)) Q E ⟨h, g, d, t, os⟩ := by
  obtain ⟨oc, od, doc, pm, an, ct, osl, ccl, cdd, vs, ccs, file, tf, cl, cld, csl, lf, lc, hvs, hfile, lcc⟩ := hfn
  obtain ⟨nm, q, N, bs, bm, sn, sub, ab, col, dd, k0, k1, k2, k3, k5, hC, hbm⟩ := T.cls
  have hcl : clsIn K C = some { name := nm, bases := bs, mro := .ref C :: bm, ns := N, qualname := q, hasDict := true, slotNames := sn, subclasses := sub, abstract := ab, collection := col, hasDel := false } := by
    unfold clsIn
    rw [hC] <;> rfl
  have I : InstAt h x (excO C t0) C none := ⟨hx, rfl, rfl, trivial⟩
  refine ks_wpAt_Expr_any (ks_wpAt_MethodCall ?_ he) hin hsw
  refine ks_wpAt_super_base hks hkc (by decide) rfl (X _ _ lf) rfl (by show (params.posonlyargs ++ params.args).head? = some ar; rw [hpar]; rfl) rfl (X _ _ lc) rfl hvs hfile T.top ?_
  have X1 : ∀ {h'}, (∀ b o, h.get? b = some o → h'.get? b = some o) → K.In h' := fun k => X.keeps k
  refine ks_loadName_global hk hks (loadGlobal_builtin hG (mg_none_of X hG T.nsup) hB hb ⟨rfl, ?_⟩)
  refine wpAny_loadName_free hk hkc rfl ⟨_, X _ _ lcc, rfl⟩ ?_
  refine wpAny_loadName_local hk hka hn hv ?_
  refine ks_wpAny_isType_cls (X _ _ hC) rfl ⟨rfl, ?_⟩
  refine ks_wpAny_call_super (X _ _ hC) rfl hx rfl (fun c => by simp) (looks_mroIn X T.up) fun h1 eso k1 => ?_
  have Xa := X1 k1
  have hx1 := k1 _ _ hx
  have I1 : InstAt h1 x (excO C t0) C none := ⟨hx1, rfl, rfl, trivial⟩
  have hm := T.sup
  unfold ks_superIn at hm
  rw [hcl] at hm
  refine kxs_getMethod kxs_ValueError eso (looks_opaque Xa T.opq) ?_ rfl Xa hm (I1.type.andThen (looks_subIn Xa T.sVE)) (ks_ne Xa I1 hcl) rfl ?_
  · exact fun A Q E s k q => wpAny_bind ((looks_clsIn Xa hcl) A _ E s k (wpAny_pure q))
  have k2 : ∀ b o, h.get? b = some o → (h1.push (kxs_mw "ValueError.__init__" x)).get? b = some o := fun b o e => Heap.get?_push_of_some _ (k1 b o e)
  have hu2 : (h1.push (kxs_mw "ValueError.__init__" x)).get? h1.objs.size = some (kxs_mw "ValueError.__init__" x) := Heap.get?_push_at rfl rfl
  rw [hst]
  refine kxs_callWith (i := "ValueError.__init__") (x := x) (by show (false || _) = false; rw [Bool.false_or]; exact hpl) (evalArgs_plain ?_)
  have ha := hargs _ (t + 1) (fun vs s₁ => KxsAt "ValueError.__init__" h1.objs.size x s₁.heap ∧ wpAny (model P w) A (call (.ref h1.objs.size) ([] ++ vs)) (fun _ s => Q .next s) E s₁) E k2 ?_
  · rw [hst] at ha
    exact ha
  refine ⟨hu2, ?_⟩
  have hCx := k2 _ _ (X _ _ hC)
  have hx2 := k2 _ _ hx
  refine wpAny_call (codeAny_of_tree ?_)
  show wpAny _ A.in1 (callAny (.ref h1.objs.size) ⟨us, []⟩) _ _ _
  simp only [callAny]
  refine wpAny_bind (wpAny_load hu2 ?_)
  simp only [kxs_mw, show (Value.type "method-wrapper" == Value.type "method" || Value.type "method-wrapper" == Value.type "builtin_function_or_method" || Value.type "method-wrapper" == Value.type "method-wrapper") = true by decide, if_true]
  refine KFB.if_so (by decide) ?_
  refine wpAny_bind (check_bound_init PySem.F.excBase_ValueError.toExcCallFacts hCx hx2 rfl ?_)
  refine wpAny_bind (wpAny_pure (wpAny_pure ?_))
  refine ⟨plainId_quiet PySem.F.excBase_ValueError.init.plain _, codeAny_builtin PySem.F.excBase_ValueError.initEntry ?_⟩
  refine exc_init_tree (cls := .ref C) (t0 := t0) (dv := none) (c2 := .none) (c3 := .none) (b4 := .bool false) hx2 hz fun h' k e' t' => ?_
  exact hq h' _ _ (fun b o nb e => k b o nb (k2 b o e)) e'
/-- what __init__ leaves of a fresh exception at x -/
structure IEnd (h h' : Heap) (x C dx t1 : Addr) (fm : Str → Option Value) : Prop where
  keep : ∀ b o, b ≠ x → h.get? b = some o → h'.get? b = some o
  obj : h'.get? x = some { cls := .ref C, dict := some dx, data := .fields #[.ref t1, .none, .none, .none, .bool false, .none] }
  dbig : h.objs.size ≤ dx
  dne : dx ≠ x
  ns : h'.Ns1 dx fm
theorem kept_but {K : Frag} {h h' : Heap} {x : Addr} (X : K.In h) (hx : K.lookup x = none) (k : ∀ b o, b ≠ x → h.get? b = some o → h'.get? b = some o) : K.In h' := fun a o e =>
  k a o (fun z => by rw [z, hx] at e; cases e) (X a o e)
theorem sz1 (v : Value) : [v].length ≤ sizeLine := by
  rw [sizeLine_eq]
  exact (by decide : 1 ≤ 16777216)
theorem sz2 (u v : Value) : [u, v].length ≤ sizeLine := by
  rw [sizeLine_eq]
  exact (by decide : 2 ≤ 16777216)
theorem he_of {o : Expr} {name : Str} {p2 p3 : Pos} {args : List Expr} {env : Env} {pl : Sem Bool} (hpos : (p2.endLine == p3.line) = true) (hf : methodCallForm (args.length + ([] : List Keyword).length) (backTo p3 (starEach args env)) (backToKw p3 (keywordEach [] env)) = true)
    (hpl : (do return (← importBound o env).getD true : Sem Bool) = pl) :
    eval (.Call (.Attribute o name p2) args [] p3) env = (do
      let ov ← attributeBase o name env (eval o env)
      standAt p2.atName
      let (f, first) ← holding [ov] (getMethod ov name pl)
      callWith p3 f first (backTo p3 (starEach args env)) []) := by
  rw [arm_eval_Call]
  unfold methodCall calleeOf methodCallPos
  rw [hf, hpos]
  subst hpl
  rfl
theorem ldK {M : Model} {s : Shared} {name : Str} {scope : Scope} {L a cc : Addr} {cd : Value} {m : Str → Option Value} {x : Str} {pos : Pos} {v : Value} {Q : Value → Shared → Prop} {A : Around} {E : Value → Shared → Prop} (hn : s.heap.Ns L m) (hv : m x = some v) (h : Q v s)
    (hk : scope.kind = .function) (hl : scope.names.lookup x = some .local) (hd : (x == ("__debug__" : Str)) = false) :
    wpAny M A (eval (.Name x pos) (ksEnv name scope L a cd cc)) Q E s := wpAny_Name (wpAny_loadName_local hk hl hn hv h) hd
theorem ns_but {h h' : Heap} {L x : Addr} {m : Str → Option Value} (hn : h.Ns L m) (hx : L ≠ x) (k : ∀ b o, b ≠ x → h.get? b = some o → h'.get? b = some o) : h'.Ns L m := by
  obtain ⟨oL, es, ep, hL, r⟩ := hn
  exact ⟨oL, es, ep, k _ _ hx hL, r⟩
section
variable {R : Result → Shared → Prop} {s : Shared} {t0 : Addr}
def iA1 (p1 p2 : Pos) : Arguments := { posonlyargs := [], args := [{ arg := "self", annotation := none, pos := p1 }, { arg := "number", annotation := none, pos := p2 }], vararg := none, kwonlyargs := [], kw_defaults := [], kwarg := none, defaults := [] }
def iB1 (p0 p1 p2 p3 p4 r1 q1 q2 q3 q4 : Pos) : List Stmt := [.Expr (.Call (.Attribute (.Call (.Name "super" p0) [] [] p1) "__init__" p2) [.Name "number" r1] [] p3) p4, .Assign [.Attribute (.Name "self" q1) "number" q2] (.Name "number" q3) q4]
def iS1 : Scope := { kind := .function, names := [(PySem.Str.ofString "self", .local), (PySem.Str.ofString "number", .local), (PySem.Str.ofString "__class__", .free), (PySem.Str.ofString "super", .globalImplicit)], isGenerator := false, isCoroutine := false, more := [] }
theorem init1 {a1 a2 p0 p1 p2 p3 p4 r1 q1 q2 q3 q4 : Pos} (T : XT P K mg xn C fI ["number"] qual (iA1 a1 a2) (iB1 p0 p1 p2 p3 p4 r1 q1 q2 q3 q4) iS1) {v : Value} (X : K.In s.heap) (hlim : s.heap.NoLimit) (hG : s.heap.Ns mainGlobals mg) (hB : s.heap.Ns builtinsNs mb) (hb : mb "super" = some (.type "super"))
    (hx : s.heap.get? x = some (excO C t0)) (hnx : K.lookup x = none) (hroom : A.depth < recursionLimit) (hpos : (p2.endLine == p3.line) = true)
    (hq : ∀ h' tk dx t1, IEnd s.heap h' x C dx t1 (fun y => if y = "number" then some v else none) → R (.ok (.ret .none)) { s with heap := h', toks := tk }) :
    codeAny (model P w) A (.call (.ref fI) ⟨[.ref x, v], []⟩) R s := by
  obtain ⟨oc, od, doc, pm, an, cda, cc, ct, osl, ccl, cdd, vs, ccs, file, tf, cl, cld, csl, ho, hcd, lc, hvs, hfile, lcc⟩ := T.fn
  obtain ⟨nm, q, N, bs, bm, sn, sub, ab, col, dd, k0, k1, k2, k3, k5, hC, hbm⟩ := T.cls
  have hcl : clsIn K C = some { name := nm, bases := bs, mro := .ref C :: bm, ns := N, qualname := q, hasDict := true, slotNames := sn, subclasses := sub, abstract := ab, collection := col, hasDel := false } := by unfold clsIn; rw [hC] <;> rfl
  have hxL : s.heap.objs.size ≠ x := Nat.ne_of_gt (Heap.lt_size hx)
  refine ks_codeAny_call_defAt (binds := [("self", .ref x), ("number", v)]) hroom (X _ _ ho) rfl hlim (codeRec_of X hcd) rfl (BindsTo.of_eq (by first | rfl | with_unfolding_all rfl)) (show ∀ y ∈ iS1.names, y.2 ≠ NameKind.cell from by decide) (fun y hy => ?_) (fun h1 hn k => ?_)
  · rcases List.mem_cons.mp hy with rfl | hy
    · rfl
    rcases List.mem_cons.mp hy with rfl | hy
    · rfl
    · cases hy
  have X1 : K.In h1 := X.keeps k
  have hx1 := k _ _ hx
  have hn' : h1.Ns s.heap.objs.size (fun y : Str => ([("number", v), ("self", Value.ref x)] : List (Str × Value)).lookup y) := hn
  refine ks_wpAt_execs_cons ?_
  refine sup_run (x := x) (us := [v]) (m := fun y : Str => ([("number", v), ("self", Value.ref x)] : List (Str × Value)).lookup y) (rb := iB1 p0 p1 p2 p3 p4 r1 q1 q2 q3 q4) (L := s.heap.objs.size) (cda := cda) (cc := cc) (ar := { arg := "self", annotation := none, pos := a1 }) (rest := [{ arg := "number", annotation := none, pos := a2 }]) T ⟨oc, od, doc, pm, an, ct, osl, ccl, cdd, vs, ccs, file, tf, cl, cld, csl, ho, lc, hvs, hfile, lcc⟩ rfl X1 (hG.at fun o e => k _ _ e) (hB.at fun o e => k _ _ e) hb hn' rfl hx1 hnx rfl rfl rfl rfl (sz1 v) (fun h2 tk Q' E' k2 hQ => ?_) (fun h2 t1 tk k2 hx2 => ?_) rfl rfl rfl rfl (he_of hpos rfl rfl)
  · exact spliced_cons (ldK (hn'.at fun o e => k2 _ _ e) rfl (spliced_nil hQ) rfl rfl rfl)
  refine wpAt_of_wpAny ?_
  have X2 : K.In h2 := kept_but X1 hnx k2
  have hn2 : h2.Ns s.heap.objs.size _ := ns_but hn' hxL k2
  refine wpAny_execs_cons (plainObj_wpAny_Assign_Attribute ?_)
  refine ldK (v := v) hn2 rfl (ldK (v := .ref x) hn2 rfl ?_ rfl rfl rfl) rfl rfl rfl
  refine set_plain X2 (ox := excO C t1) (od := none) ⟨hx2, rfl, rfl, trivial⟩ T.sa ?_
  refine exc_osa X2 hx2 hcl (show refsVE (.ref C :: bm) = true from hbm) rfl (T.no _ (List.mem_singleton.mpr rfl)) (fun h₃ tk₃ dx k₃ dn dne hx₃ hn₃ => ?_)
  show wpAny _ _ (execs _ _) _ _ _
  have z : s.heap.objs.size < h2.objs.size := hn2.lt
  exact wpAny_execs_nil (hq h₃ tk₃ dx t1 ⟨fun b o hb e => k₃ b o hb (k2 b o hb (k b o e)), hx₃, Nat.le_of_lt (Nat.lt_of_lt_of_le z dn), dne, hn₃⟩)
def iA2 (p1 p2 p5 : Pos) : Arguments := { posonlyargs := [], args := [{ arg := "self", annotation := none, pos := p1 }, { arg := "word", annotation := none, pos := p2 }, { arg := "place", annotation := none, pos := p5 }], vararg := none, kwonlyargs := [], kw_defaults := [], kwarg := none, defaults := [] }
def iB2 (p0 p1 p2 p3 p4 r1 r2 q1 q2 q3 q4 q5 q6 q7 q8 : Pos) : List Stmt := [.Expr (.Call (.Attribute (.Call (.Name "super" p0) [] [] p1) "__init__" p2) [.Name "word" r1, .Name "place" r2] [] p3) p4, .Assign [.Attribute (.Name "self" q1) "word" q2] (.Name "word" q3) q4, .Assign [.Attribute (.Name "self" q5) "place" q6] (.Name "place" q7) q8]
def iS2 : Scope := { kind := .function, names := [(PySem.Str.ofString "self", .local), (PySem.Str.ofString "word", .local), (PySem.Str.ofString "place", .local), (PySem.Str.ofString "__class__", .free), (PySem.Str.ofString "super", .globalImplicit)], isGenerator := false, isCoroutine := false, more := [] }
theorem init2 {a1 a2 a3 p0 p1 p2 p3 p4 r1 r2 q1 q2 q3 q4 q5 q6 q7 q8 : Pos} (T : XT P K mg xn C fI ["word", "place"] qual (iA2 a1 a2 a3) (iB2 p0 p1 p2 p3 p4 r1 r2 q1 q2 q3 q4 q5 q6 q7 q8) iS2) {v u : Value} (X : K.In s.heap) (hlim : s.heap.NoLimit) (hG : s.heap.Ns mainGlobals mg) (hB : s.heap.Ns builtinsNs mb) (hb : mb "super" = some (.type "super"))
    (hx : s.heap.get? x = some (excO C t0)) (hnx : K.lookup x = none) (hroom : A.depth < recursionLimit) (hpos : (p2.endLine == p3.line) = true)
    (hq : ∀ h' tk dx t1, IEnd s.heap h' x C dx t1 (fun y => if y = "place" then some u else if y = "word" then some v else none) → R (.ok (.ret .none)) { s with heap := h', toks := tk }) :
    codeAny (model P w) A (.call (.ref fI) ⟨[.ref x, v, u], []⟩) R s := by
  obtain ⟨oc, od, doc, pm, an, cda, cc, ct, osl, ccl, cdd, vs, ccs, file, tf, cl, cld, csl, ho, hcd, lc, hvs, hfile, lcc⟩ := T.fn
  obtain ⟨nm, q, N, bs, bm, sn, sub, ab, col, dd, k0, k1, k2, k3, k5, hC, hbm⟩ := T.cls
  have hcl : clsIn K C = some { name := nm, bases := bs, mro := .ref C :: bm, ns := N, qualname := q, hasDict := true, slotNames := sn, subclasses := sub, abstract := ab, collection := col, hasDel := false } := by unfold clsIn; rw [hC] <;> rfl
  have hxL : s.heap.objs.size ≠ x := Nat.ne_of_gt (Heap.lt_size hx)
  refine ks_codeAny_call_defAt (binds := [("self", .ref x), ("word", v), ("place", u)]) hroom (X _ _ ho) rfl hlim (codeRec_of X hcd) rfl (BindsTo.of_eq (by first | rfl | with_unfolding_all rfl)) (show ∀ y ∈ iS2.names, y.2 ≠ NameKind.cell from by decide) (fun y hy => ?_) (fun h1 hn k => ?_)
  · rcases List.mem_cons.mp hy with rfl | hy
    · rfl
    rcases List.mem_cons.mp hy with rfl | hy
    · rfl
    rcases List.mem_cons.mp hy with rfl | hy
    · rfl
    · cases hy
  have X1 : K.In h1 := X.keeps k
  have hx1 := k _ _ hx
  have hn' : h1.Ns s.heap.objs.size (fun y : Str => ([("place", u), ("word", v), ("self", Value.ref x)] : List (Str × Value)).lookup y) := hn
  refine ks_wpAt_execs_cons ?_
  refine sup_run (x := x) (us := [v, u]) (m := fun y : Str => ([("place", u), ("word", v), ("self", Value.ref x)] : List (Str × Value)).lookup y) (rb := iB2 p0 p1 p2 p3 p4 r1 r2 q1 q2 q3 q4 q5 q6 q7 q8) (L := s.heap.objs.size) (cda := cda) (cc := cc) (ar := { arg := "self", annotation := none, pos := a1 }) (rest := [{ arg := "word", annotation := none, pos := a2 }, { arg := "place", annotation := none, pos := a3 }]) T ⟨oc, od, doc, pm, an, ct, osl, ccl, cdd, vs, ccs, file, tf, cl, cld, csl, ho, lc, hvs, hfile, lcc⟩ rfl X1 (hG.at fun o e => k _ _ e) (hB.at fun o e => k _ _ e) hb hn' rfl hx1 hnx rfl rfl rfl rfl (sz2 v u) (fun h2 tk Q' E' k2 hQ => ?_) (fun h2 t1 tk k2 hx2 => ?_) rfl rfl rfl rfl (he_of hpos rfl rfl)
  · exact spliced_cons (ldK (hn'.at fun o e => k2 _ _ e) rfl (spliced_cons (ldK (hn'.at fun o e => k2 _ _ e) rfl (spliced_nil hQ) rfl rfl rfl)) rfl rfl rfl)
  refine wpAt_of_wpAny ?_
  have X2 : K.In h2 := kept_but X1 hnx k2
  have hn2 : h2.Ns s.heap.objs.size _ := ns_but hn' hxL k2
  refine wpAny_execs_cons (plainObj_wpAny_Assign_Attribute ?_)
  refine ldK (v := v) hn2 rfl (ldK (v := .ref x) hn2 rfl ?_ rfl rfl rfl) rfl rfl rfl
  refine set_plain X2 (ox := excO C t1) (od := none) ⟨hx2, rfl, rfl, trivial⟩ T.sa ?_
  refine exc_osa X2 hx2 hcl (show refsVE (.ref C :: bm) = true from hbm) rfl (T.no _ (.head _)) (fun h₃ tk₃ dx k₃ dn dne hx₃ hn₃ => ?_)
  show wpAny _ _ (execs _ _) _ _ _
  have X3 : K.In h₃ := kept_but X2 hnx k₃
  have hn3 : h₃.Ns s.heap.objs.size _ := ns_but hn2 hxL k₃
  refine wpAny_execs_cons (plainObj_wpAny_Assign_Attribute ?_)
  refine ldK (v := u) hn3 rfl (ldK (v := .ref x) hn3 rfl ?_ rfl rfl rfl) rfl rfl rfl
  obtain ⟨oD, esD, epD, hoD, hrD⟩ := hn₃
  refine set_plain X3 (od := some oD) ⟨hx₃, rfl, rfl, hoD⟩ T.sa ?_
  have hw : Within (fun y => if y = "word" then some v else none) [("word" : Str)] := Within.cons "word" v Within.nil
  refine OEX.osa_old X3 hx₃ ⟨oD, esD, epD, hoD, hrD⟩ hw (by show 1 ≤ 1000; decide) hcl (show refsVE (.ref C :: bm) = true from hbm) rfl (T.no _ (.tail _ (.head _))) (fun h₄ tk₄ k₄ hn₄ => ?_)
  show wpAny _ _ (execs _ _) _ _ _
  have z : s.heap.objs.size < h2.objs.size := hn2.lt
  have y1 : s.heap.objs.size ≤ dx := Nat.le_of_lt (Nat.lt_of_lt_of_le z dn)
  exact wpAny_execs_nil (hq h₄ tk₄ dx t1 ⟨fun b o hb e => k₄ b o (Nat.ne_of_lt (Nat.lt_of_lt_of_le (Heap.lt_size e) y1)) (k₃ b o hb (k2 b o hb (k b o e))), k₄ _ _ (Ne.symm dne) hx₃, y1, dne, hn₄⟩)
end
section
variable {R : Result → Shared → Prop} {s : Shared}
/-- a made own error -/
structure Made (h h' : Heap) (e C d : Addr) (fm : Str → Option Value) : Prop where
  keep : ∀ b o, h.get? b = some o → h'.get? b = some o
  new : h.objs.size ≤ e
  obj : ∃ oe vs, h'.get? e = some oe ∧ oe.cls = .ref C ∧ oe.dict = some d ∧ oe.data = .fields vs ∧ vs[1]? = some .none
  dbig : h.objs.size ≤ d
  dne : d ≠ e
  ns : h'.Ns1 d fm
/-- __init__ told, for these arguments -/
def InitP (P : Program) (w : World) (K : Frag) (mg mb : Str → Option Value) (C fI : Addr) (us : List Value) (fm : Str → Option Value) : Prop :=
  ∀ (A : Around) (s : Shared) (R : Result → Shared → Prop) (x t0 : Addr), K.In s.heap → s.heap.NoLimit → s.heap.Ns mainGlobals mg → s.heap.Ns builtinsNs mb → s.heap.get? x = some (excO C t0) → K.lookup x = none → A.depth < recursionLimit →
    (∀ h' tk dx t1, IEnd s.heap h' x C dx t1 fm → R (.ok (.ret .none)) { s with heap := h', toks := tk }) → codeAny (model P w) A (.call (.ref fI) ⟨.ref x :: us, []⟩) R s
theorem made (T : XT P K mg xn C fI fs qual params body scope) {us : List Value} {fm : Str → Option Value} (hi : InitP P w K mg mb C fI us fm) (hz : us.length ≤ sizeLine) (X : K.In s.heap) (hlim : s.heap.NoLimit) (hG : s.heap.Ns mainGlobals mg) (hB : s.heap.Ns builtinsNs mb) (hroom : A.depth + 1 < recursionLimit)
    (hq : ∀ h' tk e d, Made s.heap h' e C d fm → R (.ok (.ret (.ref e))) { s with heap := h', toks := tk }) :
    codeAny (model P w) A (.call (.ref C) ⟨us, []⟩) R s := by
  obtain ⟨nm, q, N, bs, bm, sn, sub, ab, col, dd, k0, k1, k2, k3, k5, hC, hbm⟩ := T.cls
  obtain ⟨hp, g, dr, tk, os⟩ := s
  have k : ∀ b o, hp.get? b = some o → ((hp.push (kdv_tup us)).push (excO C hp.objs.size)).get? b = some o := fun b o e => Heap.get?_push_of_some _ (Heap.get?_push_of_some _ e)
  have hget : ((hp.push (kdv_tup us)).push (excO C hp.objs.size)).get? (hp.objs.size + 1) = some (excO C hp.objs.size) := by heap_get
  have hnx : K.lookup (hp.objs.size + 1) = none := by
    cases e : K.lookup (hp.objs.size + 1) with
    | none => rfl
    | some o =>
      have z : hp.get? (hp.objs.size + 1) = some o := X _ _ e
      exact absurd (Nat.lt_of_succ_lt (Heap.lt_size z)) (Nat.lt_irrefl _)
  refine call_own F.excBase_ValueError (fun X => refsVE_contains X bm hbm) (X _ _ hC) (looks_findIn X T.iC) (fun self => bind_fn X self T.tC) hz ?_
  refine hi _ ⟨(hp.push (kdv_tup us)).push (excO C hp.objs.size), g, dr, tk, os⟩ _ _ _ (X.keeps k) (hlim.keeps k) (hG.keeps k) (hB.keeps k) hget hnx ?_ fun h' tk' dx t1 ⟨k', hx, dn, dne, hns⟩ => ?_
  · show A.depth + 1 < recursionLimit
    exact hroom
  · have old : ∀ b o, hp.get? b = some o → h'.get? b = some o := fun b o e => k' b o (Nat.ne_of_lt (Nat.lt_succ_of_lt (Heap.lt_size e))) (k b o e)
    have z : hp.objs.size + 1 + 1 ≤ dx := by
      first
        | (simpa only [Heap.size_push] using dn)
        | exact dn
        | (have q := dn; rw [Heap.size_push, Heap.size_push] at q; exact q)
    exact ⟨rfl, hq h' tk' (hp.objs.size + 1) dx ⟨old, Nat.le_succ _, ⟨_, _, hx, rfl, rfl, rfl, rfl⟩, Nat.le_trans (Nat.le_trans (Nat.le_succ _) (Nat.le_succ _)) z, dne, hns⟩⟩
end
end
end PBX

namespace PBX
open PySem PySem.Spec PyProof.Rows L2
variable [PB.TBL]
section
variable {X : Cx} {C fI : Addr} {xn : Str} {fs : List Str} {qual : Str} {params : Arguments} {body : List Stmt} {scope : Scope}
/-- Own(e, ..): the arguments us, the fields fl of them -/
def tMk (C : Addr) (fl : List V → List (Str × V)) (n : Nat) (ta : TA) : L2.St → Hp → XK → Prop := fun σ H Q => ta σ H fun vs H1 => vs.length = n ∧ ∀ d, H1 d = none → Q (.ref C) (some d) (upd H1 d (.xd (fl vs)))
theorem pmk_own {a : Expr} {as : List Expr} {ta : TA} {p pos : Pos} {k n : Nat} {fl : List V → List (Str × V)} {fm : List Value → Str → Option Value} (T : XT X.prog X.K X.mg xn C fI fs qual params body scope) (hr : Room k X.A) (ha : PA X (a :: as) ta) (hg : Gl X xn) (hd : (xn == ("__debug__" : Str)) = false)
    (hi : ∀ (mb : Str → Option Value) (us : List Value), mb "super" = some (.type "super") → us.length = n → InitP X.prog X.w X.K X.mg mb C fI us (fm us)) (hn : n ≤ 1000) (hfm : ∀ vs us, Vals vs us → vs.length = n → ∀ f, RelO ((fl vs).lookup f) (fm us f))
    (he : starEach (a :: as) X.env = (false, eval a X.env) :: starEach as X.env) (hpl : (backTo pos (starEach as X.env)).any (·.1) = false) :
    PMk X (.Call (.Name xn p) (a :: as) [] pos) (tMk C fl n ta) := by
  intro pins s σ H Q I h
  refine wpAny_Call_Name_kw (ld_glob I hg T.gC ?_ hd)
  refine PySem.W.callWith_K (h₀ := X.base) I.ok.mod.kin T.kC (thn (ha.run pos pins s σ H _ I h) fun us s1 hh => ?_) he hpl
  obtain ⟨vs, H1, I1, r1, ev, q1⟩ := hh
  refine ⟨I1.kIn, ?_⟩
  show wpAny _ _ (call (.ref C) us) _ _ _
  have hlim := I1.nolimit
  obtain ⟨mb, hB, hbb⟩ := I1.mod.blt
  have hG := I1.mod.glob.keeps I1.bk
  have hB1 := hB.keeps I1.bk
  have ul : us.length = n := by rw [← ev]; exact r1.length.symm
  obtain ⟨hp, g, dr, tk, os⟩ := s1
  refine wpAny_call (made T (hi mb us ((hbb _ (by decide)).trans rfl) ul) (by rw [ul, sizeLine_eq]; omega) I1.kIn hlim hG hB1 (by have := hr.dp; omega) fun h' tk' e d M => ?_)
  show MkP X pins σ Q (.ref e) ⟨h', g, dr, tk', os⟩
  obtain ⟨oe, fv, hoe, hc, hd, hdat, h1⟩ := M.obj
  have hns := M.ns
  obtain ⟨G', g1, g2⟩ := restrict h' fun b => decide (b ≠ e)
  have gk : ∀ b, b ≠ e → G'.get? b = h'.get? b := fun b hb => g1 b (decide_eq_true hb)
  have ge : G'.get? e = none := g2 e (by simp)
  have old : ∀ b o, hp.get? b = some o → G'.get? b = some o := fun b o q => (gk b (Nat.ne_of_lt (Nat.lt_of_lt_of_le (Heap.lt_size q) M.new))).trans (M.keep b o q)
  have ob : ObjOk X.prog X.w (upd H1 d (.xd (fl vs))) G' d (.xd (fl vs)) :=
    ⟨_, hns.at (fun o q => (gk d M.dne).trans q), hfm _ _ r1 ev⟩
  have J : Inv X pins σ (upd H1 d (.xd (fl vs))) ⟨G', g, dr, tk', os⟩ := I1.laid (t' := tk') old M.dbig ob
  refine ⟨e, oe, fv, ⟨G', g, dr, tk', os⟩, _, .ref C, some d, rfl, J, fun b o q => ?_, ge, hoe, ⟨hc, hd⟩, hdat, h1, ?_, rfl, I1.bare, raises_own T.exC T.tyC, q1 d (I1.hok.fresh M.dbig)⟩
  · by_cases hb : b = e
    · have q' : G'.get? b = some o := q
      rw [hb, ge] at q'; cases q'
    · exact (gk b hb).symm.trans q
  · rw [upd_ne (Ne.symm M.dne)]
    exact I1.hok.fresh M.new
/-- raise Own(e, ..), with n arguments -/
def sRaiseN (c n : Nat) (a : PB.Ax) : PB.Sx := fun σ m K _ => a σ m K.x fun ds m => match PB.pures ds with
  | some xs => match Nat.beq xs.length n with
    | true => K.x c xs m
    | false => false
  | none => false
theorem sp_raiseN {T : PB.Tab} {W : WX} {a : Expr} {as : List Expr} {al : PB.Ax} {p pos pos2 : Pos} {k c n : Nat} {fm : List Value → Str → Option Value} (hc : X.calm = true) (tk : Takes X W) (TX : XT X.prog X.K X.mg xn C fI fs qual params body scope) (hr : Room k X.A)
    (ha : PA X (a :: as) (PB.rdA T X.K W al)) (hC : T.ecl c = some C) (hlen : (T.efs c).length = n) (hn : n ≤ 1000) (hg : Gl X xn) (hd : (xn == ("__debug__" : Str)) = false)
    (hi : ∀ (mb : Str → Option Value) (us : List Value), mb "super" = some (.type "super") → us.length = n → InitP X.prog X.w X.K X.mg mb C fI us (fm us)) (hfm : ∀ vs us, Vals vs us → vs.length = n → ∀ f, RelO (((T.efs c).zip vs).lookup f) (fm us f))
    (he : starEach (a :: as) X.env = (false, eval a X.env) :: starEach as X.env) (hpl : (backTo pos (starEach as X.env)).any (·.1) = false) :
    PS X (.Raise (some (.Call (.Name xn p) (a :: as) [] pos)) none pos2) (PB.rdS T X.K W (sRaiseN c n al)) :=
  PB.ps_imp (ps_raise hc tk (pmk_own (fl := fun vs => (T.efs c).zip vs) TX hr ha hg hd hi hn hfm he hpl)) fun D st H ⟨ρ, σ, m, ks, kk, R, S, e, hk, hx⟩ =>
    ⟨ρ, σ, m, ks.x, _, R, S, e, fun ρ' ds m' vs H' f R' hs q => by
      dsimp only at q
      cases e1 : PB.pures ds with
      | none =>
        rw [e1] at q
        cases q
      | some ps =>
        rw [e1] at q
        dsimp only at q
        cases e2 : Nat.beq ps.length n with
        | false =>
          rw [e2] at q
          cases q
        | true =>
          rw [e2] at q
          have hp := PB.pures_ri e1 hs
          have hl : vs.length = n := by rw [← hp.len]; exact Nat.eq_of_beq_eq_true e2
          refine ⟨hl, fun d hd0 => ?_⟩
          have sm := PB.same_new (o := HO.xd ((T.efs c).zip vs)) hd0
          exact hx.x ρ' c ps m' (.ref C) (some d) st _ (f.trans (PB.Fr.same sm)) (R'.same sm) ⟨C, d, vs, hC, rfl, rfl, hp.mono (PB.Same.ts sm), upd_same, by rw [hlen, hl]⟩ q, hx.x⟩
def fm1 (us : List Value) (y : Str) : Option Value := if y = "number" then us[0]? else none
def fm2 (us : List Value) (y : Str) : Option Value := if y = "place" then us[1]? else if y = "word" then us[0]? else none
theorem len1 {α : Type} {l : List α} (h : l.length = 1) : ∃ a, l = [a] := by
  cases l with
  | nil => cases h
  | cons a r =>
    cases r with
    | nil => exact ⟨a, rfl⟩
    | cons b s => cases h
theorem len2 {α : Type} {l : List α} (h : l.length = 2) : ∃ a b, l = [a, b] := by
  cases l with
  | nil => cases h
  | cons a r =>
    obtain ⟨b, rfl⟩ := len1 (Nat.succ.inj h)
    exact ⟨a, b, rfl⟩
theorem rel1 {vs : List V} {us : List Value} (r : Vals vs us) (h : vs.length = 1) (f : Str) : RelO ((([("number" : Str)] : List Str).zip vs).lookup f) (fm1 us f) := by
  obtain ⟨v, rfl⟩ := len1 h
  cases r with
  | cons rv rn =>
    cases rn
    by_cases hw : f = "number"
    · subst hw
      show RelO ([(("number" : Str), v)].lookup ("number" : Str)) _
      have q : List.lookup ("number" : Str) [(("number" : Str), v)] = some v := by simp [List.lookup]
      rw [q]
      exact rv
    · have qw : (f == ("number" : Str)) = false := by simpa using hw
      have q : List.lookup f [(("number" : Str), v)] = none := by simp [List.lookup, qw]
      show RelO ([(("number" : Str), v)].lookup f) _
      rw [q]
      unfold fm1
      rw [if_neg hw]
      trivial
theorem rel2 {vs : List V} {us : List Value} (r : Vals vs us) (h : vs.length = 2) (f : Str) : RelO ((([("word" : Str), ("place" : Str)] : List Str).zip vs).lookup f) (fm2 us f) := by
  obtain ⟨v, u, rfl⟩ := len2 h
  cases r with
  | cons rv rn =>
    cases rn with
    | cons ru rn =>
      cases rn
      show RelO ([(("word" : Str), v), (("place" : Str), u)].lookup f) _
      by_cases hw : f = "word"
      · subst hw
        have q : List.lookup ("word" : Str) [(("word" : Str), v), (("place" : Str), u)] = some v := by simp [List.lookup]
        rw [q]
        exact rv
      · have qw : (f == ("word" : Str)) = false := by simpa using hw
        by_cases hp : f = "place"
        · subst hp
          have q : List.lookup ("place" : Str) [(("word" : Str), v), (("place" : Str), u)] = some u := by simp [List.lookup, qw]
          rw [q]
          exact ru
        · have qp : (f == ("place" : Str)) = false := by simpa using hp
          have q : List.lookup f [(("word" : Str), v), (("place" : Str), u)] = none := by simp [List.lookup, qw, qp]
          rw [q]
          unfold fm2
          rw [if_neg hp, if_neg hw]
          trivial
theorem ip1 {P : Program} {w : World} {K : PySem.W.Frag} {mg : Str → Option Value} {a1 a2 p0 p1 p2 p3 p4 r1 q1 q2 q3 q4 : Pos} (T : XT P K mg xn C fI ["number"] qual (iA1 a1 a2) (iB1 p0 p1 p2 p3 p4 r1 q1 q2 q3 q4) iS1) (hpos : (p2.endLine == p3.line) = true)
    (mb : Str → Option Value) (us : List Value) (hb : mb "super" = some (.type "super")) (hl : us.length = 1) : InitP P w K mg mb C fI us (fm1 us) := by
  obtain ⟨v, rfl⟩ := len1 hl
  intro A s R x t0 X hlim hG hB hx hnx hroom hq
  exact init1 T X hlim hG hB hb hx hnx hroom hpos hq
theorem ip2 {P : Program} {w : World} {K : PySem.W.Frag} {mg : Str → Option Value} {a1 a2 a3 p0 p1 p2 p3 p4 r1 r2 q1 q2 q3 q4 q5 q6 q7 q8 : Pos} (T : XT P K mg xn C fI ["word", "place"] qual (iA2 a1 a2 a3) (iB2 p0 p1 p2 p3 p4 r1 r2 q1 q2 q3 q4 q5 q6 q7 q8) iS2) (hpos : (p2.endLine == p3.line) = true)
    (mb : Str → Option Value) (us : List Value) (hb : mb "super" = some (.type "super")) (hl : us.length = 2) : InitP P w K mg mb C fI us (fm2 us) := by
  obtain ⟨v, u, rfl⟩ := len2 hl
  intro A s R x t0 X hlim hG hB hx hnx hroom hq
  exact init2 T X hlim hG hB hb hx hnx hroom hpos hq
/-- raise TooGreat(e) -/
theorem sp_rz1 {T : PB.Tab} {W : WX} {a : Expr} {al : PB.Ax} {p pos pos2 : Pos} {k c : Nat} {a1 a2 p0 p1 p2 p3 p4 r1 q1 q2 q3 q4 : Pos} (hc : X.calm = true) (tk : Takes X W) (TX : XT X.prog X.K X.mg xn C fI ["number"] qual (iA1 a1 a2) (iB1 p0 p1 p2 p3 p4 r1 q1 q2 q3 q4) iS1) (hpos : (p2.endLine == p3.line) = true) (hr : Room k X.A)
    (ha : PA X [a] (PB.rdA T X.K W al)) (hC : T.ecl c = some C) (hfs : T.efs c = ([("number" : Str)] : List Str)) (hg : Gl X xn) (hd : (xn == ("__debug__" : Str)) = false)
    (he : starEach [a] X.env = (false, eval a X.env) :: starEach [] X.env := by rfl) (hpl : (backTo pos (starEach [] X.env)).any (·.1) = false := by rfl) :
    PS X (.Raise (some (.Call (.Name xn p) [a] [] pos)) none pos2) (PB.rdS T X.K W (sRaiseN c 1 al)) :=
  sp_raiseN (fm := fm1) hc tk TX hr ha hC (by rw [hfs]; rfl) (by decide) hg hd (fun mb us hb hl => ip1 TX hpos mb us hb hl) (fun vs us r h f => by rw [hfs]; exact rel1 r h f) he hpl
/-- raise Refused(e, f) -/
theorem sp_rz2 {T : PB.Tab} {W : WX} {a b : Expr} {al : PB.Ax} {p pos pos2 : Pos} {k c : Nat} {a1 a2 a3 p0 p1 p2 p3 p4 r1 r2 q1 q2 q3 q4 q5 q6 q7 q8 : Pos} (hc : X.calm = true) (tk : Takes X W) (TX : XT X.prog X.K X.mg xn C fI ["word", "place"] qual (iA2 a1 a2 a3) (iB2 p0 p1 p2 p3 p4 r1 r2 q1 q2 q3 q4 q5 q6 q7 q8) iS2) (hpos : (p2.endLine == p3.line) = true) (hr : Room k X.A)
    (ha : PA X [a, b] (PB.rdA T X.K W al)) (hC : T.ecl c = some C) (hfs : T.efs c = ([("word" : Str), ("place" : Str)] : List Str)) (hg : Gl X xn) (hd : (xn == ("__debug__" : Str)) = false)
    (he : starEach [a, b] X.env = (false, eval a X.env) :: starEach [b] X.env := by rfl) (hpl : (backTo pos (starEach [b] X.env)).any (·.1) = false := by rfl) :
    PS X (.Raise (some (.Call (.Name xn p) [a, b] [] pos)) none pos2) (PB.rdS T X.K W (sRaiseN c 2 al)) :=
  sp_raiseN (fm := fm2) hc tk TX hr ha hC (by rw [hfs]; rfl) (by decide) hg hd (fun mb us hb hl => ip2 TX hpos mb us hb hl) (fun vs us r h f => by rw [hfs]; exact rel2 r h f) he hpl
end
end PBX
end
section
set_option Elab.async false
set_option linter.all false
set_option maxRecDepth 100000
/-! PBTry: try with several clauses, each of which names the exception. -/
namespace PBX
open PySem PySem.Spec PyProof.Rows L2
variable [PB.TBL]
abbrev HT := Addr → Value → Option Addr → TS
/-- the ends of a named suite: the name goes -/
def dropN (i : Nat) (D : Ends) : Ends := { nx := fun τ G => D.nx (τ.set i none) G, rt := D.rt, bk := fun τ G => D.bk (τ.set i none) G, ct := fun τ G => D.ct (τ.set i none) G }
/-- what the clauses wish, one after the other -/
def wNm (K : PySem.W.Frag) (i m : Nat) (Wo : WX) (D : Ends) : List (Value × HT) → WX
  | [] => Wo
  | (c, ts) :: rest => fun cl dd τ G => ∃ t : Bool, PySem.W.exmOne K cl c = some t ∧
      (t = true → τ.length = m → ∀ z, G z = none → ts z cl dd (dropN i D) (τ.set i (some (.ref z))) G) ∧ (t = false → wNm K i m Wo D rest cl dd τ G)
inductive NmOk (X : Cx) (n : Str) : List ExceptHandler → List (Value × HT) → Prop
  | nil : NmOk X n [] []
  | cons {x : Str} {c : Value} {ts : HT} {b0 : Stmt} {bs : List Stmt} {np q : Pos} {hds : List ExceptHandler} {l : List (Value × HT)} :
      Names X x c → (∀ (z : Addr) (oz : Obj) (cl : Value) (dd : Option Addr) (pz : List (Addr × Obj)), Zc cl dd oz → (∃ vs, oz.data = .fields vs) → PSs (X.suite z ((z, oz) :: pz)) (b0 :: bs) (ts z cl dd)) → NmOk X n hds l →
      NmOk X n (.ExceptHandler (some (.Name x np)) (some n) (b0 :: bs) q :: hds) ((c, ts) :: l)
section
variable {X : Cx} {n : Str} {i : Nat} {body : List Stmt} {hd0 : ExceptHandler} {hds : List ExceptHandler} {l : List (Value × HT)} {pos : Pos} {tb : WX → TS} {Wo : WX}
/-- an end of the body is an end of the try -/
theorem sp_ofTry {pins pn' : List (Addr × Obj)} {xe : Value → Shared → Prop} {D : Ends} (ok : X.Ok) {f : Flow} {s : Shared} (h : SP (X.tr (X.pn ++ pins) xe) pn' D f s) : SP X pins D f s := by
  cases f with
  | next => exact h.elim fun τ h => h.elim fun G h => ⟨τ, G, h.1.ofTry ok, h.2⟩
  | brk => exact h.elim fun τ h => h.elim fun G h => ⟨τ, G, h.1.ofTry ok, h.2⟩
  | cont => exact h.elim fun τ h => h.elim fun G h => ⟨τ, G, h.1.ofTry ok, h.2⟩
  | ret u => exact h.elim fun v h => h.elim fun τ h => h.elim fun G h => ⟨v, τ, G, h.1.ofTry ok, h.2⟩
theorem ps_named (hst : X.stack = X.env :: X.outer) (hf : X.env.frame = some X.env.locals) (hN : X.N.Nodup) (hi : X.N[i]? = some n) (hl : X.env.kindOf n = some .local) (tk : Takes X Wo)
    (hb : ∀ (W : WX) (pz : List (Addr × Obj)) (xe : Value → Shared → Prop), Takes (X.tr pz xe) W → PassesOwn (model X.prog X.w) X.A X.env xe → PSs (X.tr pz xe) body (tb W))
    (hh : NmOk X n (hd0 :: hds) l) : PS X (.Try body (hd0 :: hds) [] [] pos) (fun D τ G => tb (wNm X.K i X.N.length Wo D l) D τ G) := by
  refine ⟨fun pins s τ G D I h => ?_⟩
  have ok := I.ok
  have fr : X.A.frames = some (X.env :: X.outer) := by rw [← hst]; exact ok.frames
  have lc : Loc X.env.scope n := .inl hl
  refine wpAny_Try_except (wpAny_mono ((hb (wNm X.K i X.N.length Wo D l) (X.pn ++ pins) (fun ev s1 => wpAny (model X.prog X.w) X.A (noteFrame ev X.env)
    (fun _ s2 => wpAny (model X.prog X.w) X.A (setFlight ev none) (fun _ s3 => wpAny (model X.prog X.w) X.A (handleBy ev X.env (hd0 :: hds)) (SP X pins D) X.xe s3) X.xe s2) X.xe s1)
    (fun u s1 xx => ?_) PassesOwn.looking).run [] s τ G D (I.toTry _) h) (fun f s1 hs => ?_) fun _ _ he => he)
  · obtain ⟨z, B, sI, pz, τ1, G1, cl, dd, rfl, J0, nb, up, sky, na, os, ag, w⟩ := xx
    have J : Inv X pins τ1 G1 sI := J0.ofTry ok
    show wpAny (model X.prog X.w) X.A (noteFrame (.ref z) X.env) _ _ _
    refine Sky.land Zc.steady fr hf (by rw [← hst]; exact sky) fun h3 fl up3 => ?_
    have J3 : Inv X pins τ1 G1 ⟨h3, s1.gens, s1.drawn, s1.toks, s1.os⟩ := J.landed nb fl.1 (up.trans up3) os ag
    obtain ⟨oz, vz, ez, zz, dz⟩ := fl.there
    have nfr : z ∉ frs (X.env :: X.outer) := fun hm => (fl.2.2.1.mem hm).elim fun _ h => h.elim fun o' h => by
      have e := h.1
      rw [ez] at e
      cases e
      exact h.2 _ dz
    have nL : z ≠ X.env.locals := fun e => nfr (List.mem_filterMap.mpr ⟨X.env, .head _, by rw [hf, e]⟩)
    have nF : z ∉ X.fs := fun hm => by
      obtain ⟨e, he, q⟩ := List.mem_filterMap.mp hm
      exact nfr (List.mem_filterMap.mpr ⟨e, .tail _ he, q⟩)
    have S3 := J3.suite ez dz na nL nF
    suffices go : ∀ {hs' : List ExceptHandler} {l' : List (Value × HT)}, NmOk X n hs' l' → wNm X.K i X.N.length Wo D l' cl dd τ1 G1 →
        wpAny (model X.prog X.w) X.A (handleBy (.ref z) X.env hs') (SP X pins D) X.xe ⟨h3, s1.gens, s1.drawn, s1.toks, s1.os⟩ from go hh w
    intro hs' l' hk
    induction hk with
    | nil =>
      intro w
      refine wpAny_handleBy_nil ?_
      obtain ⟨_, _, _, o9, v9, T9, oT, t9, e9, _, d9, h9, _⟩ := id fl
      unfold PySem.passOn
      refine wpAny_bind (wpAny_field e9 d9 h9 ?_)
      rw [if_neg (by simp : ¬ ((Value.ref T9 == Value.none) = true))]
      have fin : wpAny (model X.prog X.w) X.A (setFlight (.ref z) X.env.frame) (fun _ s4 => wpAny (model X.prog X.w) X.A (throw (.ref z) : Sem Flow) (SP X pins D) X.xe s4) X.xe ⟨h3, s1.gens, s1.drawn, s1.toks, s1.os⟩ := by
        rw [hf]
        exact HandSPX.setFlight_upZ fl fun h4 hh4 up4 => wpAny_throw (tk _ _ ⟨z, B, sI, pins, τ1, G1, cl, dd, rfl, J, nb, (up.trans up3).trans up4, .inr (.inr (by rw [hst]; exact hh4)), na, os, ag, w⟩)
      first
        | exact wpAny_bind (wpAny_pure (wpAny_bind fin))
        | exact wpAny_bind fin
    | @cons x c ts b0 bs np q hds2 l2 hc hsu r ih =>
      intro w
      obtain ⟨t, ht, yes, no⟩ := w
      refine wpAny_handleBy_cons (codeAny_handlers_test ?_) (fun q => nomatch q)
      have LT : PySem.W.Looks (model X.prog X.w) h3 (typeOf (.ref z)) cl := fun _ _ _ _ k y => wpAny_typeOf_ref (k _ _ ez) (by rw [zz.1]; exact y)
      have LM := PySem.W.exm_one (M := model X.prog X.w) J3.kIn LT ht
      have test : ∀ {Q E : Value → Shared → Prop}, Q c ⟨h3, s1.gens, s1.drawn, s1.toks, s1.os⟩ → wpAny (model X.prog X.w) (X.A.mark (some (.ref z))) (eval (.Name x np) X.env) Q E ⟨h3, s1.gens, s1.drawn, s1.toks, s1.os⟩ := fun {Q E} y =>
        match hc with
        | ⟨hg, hdb, .inl hm⟩ => ld_glob (X := X.suite z ((z, oz) :: (X.pn ++ pins))) S3 hg hm y hdb
        | ⟨hg, hdb, .inr ⟨hm, hv, hnn⟩⟩ => ld_blt (X := X.suite z ((z, oz) :: (X.pn ++ pins))) S3 hg hm hv y hnn hdb
      refine test (LM.here ?_)
      cases t with
      | false =>
        show wpAny _ X.A (handleBy (.ref z) X.env hds2) _ _ _
        exact ih (no rfl)
      | true =>
        refine codeAny_handlers_suite_as (HandSPX.lands_againZ fl fun h4 fl4 up4 => ?_)
        have J4 : Inv X pins τ1 G1 ⟨h4, s1.gens, s1.drawn, s1.toks, s1.os⟩ := J.landed nb fl4.1 ((up.trans up3).trans up4) os ag
        obtain ⟨o4, v4, e4, z4, d4⟩ := fl4.there
        refine store_ok (X := X.suite z ((z, o4) :: (X.pn ++ pins))) (v := .ref z) (J4.suite e4 d4 na nL nF) hN hi lc rfl (fun s5 S5 => ?_) (.inr hl)
        refine wpAny_mono ((hsu z o4 cl dd (X.pn ++ pins) z4 ⟨_, d4⟩).run [] s5 _ G1 _ S5 (yes rfl J.len z na)) (fun f s6 hs6 => ?_) (fun _ _ y => False.elim y)
        have end6 : ∀ {τ6 : L2.St} {G6 : Hp} {Q : Shared → Prop}, Inv (X.suite z ((z, o4) :: (X.pn ++ pins))) [] τ6 G6 s6 → (∀ s7, Inv X pins (τ6.set i none) G6 s7 → Q s7) →
            wpAny (model X.prog X.w) X.A (do bindName X.env n .none; unbindBehindTheSuite X.env n q) (fun _ s7 => Q s7) X.xe s6 := fun S6 y => gone_ok (S6.unsuite ok) hN hi hl y
        cases f with
        | next => exact hs6.elim fun τ6 k => k.elim fun G6 k => end6 k.1 fun s7 J7 => ⟨_, _, J7, k.2⟩
        | brk => exact hs6.elim fun τ6 k => k.elim fun G6 k => end6 k.1 fun s7 J7 => ⟨_, _, J7, k.2⟩
        | cont => exact hs6.elim fun τ6 k => k.elim fun G6 k => end6 k.1 fun s7 J7 => ⟨_, _, J7, k.2⟩
        | ret u => exact hs6.elim fun v6 k => k.elim fun τ6 k => k.elim fun G6 k => end6 k.1 fun s7 J7 => ⟨_, _, _, J7, k.2.1, k.2.2⟩
  · have hs2 := sp_ofTry ok hs
    cases f with
    | next => exact wpAny_execs_nil hs2
    | brk => exact hs2
    | cont => exact hs2
    | ret u => exact hs2
end
/-- TooGreat, as exception 0; Refused, as exception 1 -/
def TGf (P : Program) (K : PySem.W.Frag) (mg : Str → Option Value) (T : PB.Tab) : Prop :=
  ∃ (C fI : Addr) (qual : Str) (a1 a2 p0 p1 p2 p3 p4 r1 q1 q2 q3 q4 : Pos), XT P K mg "TooGreat" C fI ["number"] qual (iA1 a1 a2) (iB1 p0 p1 p2 p3 p4 r1 q1 q2 q3 q4) iS1 ∧ (p2.endLine == p3.line) = true ∧ T.ecl 0 = some C ∧ T.efs 0 = ([("number" : Str)] : List Str)
def RFf (P : Program) (K : PySem.W.Frag) (mg : Str → Option Value) (T : PB.Tab) : Prop :=
  ∃ (C fI : Addr) (qual : Str) (a1 a2 a3 p0 p1 p2 p3 p4 r1 r2 q1 q2 q3 q4 q5 q6 q7 q8 : Pos), XT P K mg "Refused" C fI ["word", "place"] qual (iA2 a1 a2 a3) (iB2 p0 p1 p2 p3 p4 r1 r2 q1 q2 q3 q4 q5 q6 q7 q8) iS2 ∧ (p2.endLine == p3.line) = true ∧ T.ecl 1 = some C ∧ T.efs 1 = ([("word" : Str), ("place" : Str)] : List Str)
structure XFacts (P : Program) (K : PySem.W.Frag) (mg : Str → Option Value) (T : PB.Tab) : Prop where
  tg : TGf P K mg T
  rf : RFf P K mg T
  nd : ∀ h : Heap, K.In h → h.NoDigits
section
variable {X : Cx} {T : PB.Tab} {W : WX} {a b : Expr} {al : PB.Ax} {p pos pos2 : Pos} {k : Nat}
theorem sp_tg (hx : XFacts X.prog X.K X.mg T) (G : PB.Good X W) (hr : Room k X.A) (hg : Gl X "TooGreat") (ha : PA X [a] (PB.rdA T X.K W al))
    (he : starEach [a] X.env = (false, eval a X.env) :: starEach [] X.env := by rfl) (hpl : (backTo pos (starEach [] X.env)).any (·.1) = false := by rfl) :
    PS X (.Raise (some (.Call (.Name "TooGreat" p) [a] [] pos)) none pos2) (PB.rdS T X.K W (sRaiseN 0 1 al)) := by
  obtain ⟨C, fI, qual, a1, a2, p0, p1, p2, p3, p4, r1, q1, q2, q3, q4, TX, hp, hC, hf⟩ := hx.tg
  exact sp_rz1 G.calm G.tk TX hp hr ha hC hf hg (by decide) he hpl
theorem sp_rf (hx : XFacts X.prog X.K X.mg T) (G : PB.Good X W) (hr : Room k X.A) (hg : Gl X "Refused") (ha : PA X [a, b] (PB.rdA T X.K W al))
    (he : starEach [a, b] X.env = (false, eval a X.env) :: starEach [b] X.env := by rfl) (hpl : (backTo pos (starEach [b] X.env)).any (·.1) = false := by rfl) :
    PS X (.Raise (some (.Call (.Name "Refused" p) [a, b] [] pos)) none pos2) (PB.rdS T X.K W (sRaiseN 1 2 al)) := by
  obtain ⟨C, fI, qual, a1, a2, a3, p0, p1, p2, p3, p4, r1, r2, q1, q2, q3, q4, q5, q6, q7, q8, TX, hp, hC, hf⟩ := hx.rf
  exact sp_rz2 G.calm G.tk TX hp hr ha hC hf hg (by decide) he hpl
end
/-! ### what _law_told makes of what it calls -/
def tupQ (Q : VK) (xs : List V) (H : Hp) : Prop := xs.length ≤ sizeLine ∧ ∀ p, H p = none → Q (.ref p) (upd H p (.tup xs))
def rHd (K : PySem.W.Frag) (C1 C2 : Addr) (Q : VK) : XK := fun cls d H => ∃ b, PySem.W.exmOne K cls (.ref C1) = some b ∧
  (b = true → cls = .ref C1 ∧ ∃ dd fs v u, d = some dd ∧ H dd = some (.xd fs) ∧ fs.lookup ("word" : Str) = some v ∧ fs.lookup ("place" : Str) = some u ∧ tupQ Q [.str "refused", v, u] H) ∧
  (b = false → ∃ b2, PySem.W.exmOne K cls (.ref C2) = some b2 ∧ (b2 = true → cls = .ref C2 ∧ ∃ dd fs v, d = some dd ∧ H dd = some (.xd fs) ∧ fs.lookup ("number" : Str) = some v ∧ tupQ Q [.str "great", v] H) ∧ (b2 = false → False))
def T2 (K : PySem.W.Frag) (C1 C2 : Addr) : (XK → Hp → VK → Prop) → Hp → VK → Prop := fun tl H Q => tl (rHd K C1 C2 Q) H fun v H1 => tupQ Q [.str "told", v] H1
theorem sz3 : ∀ {xs : List V}, xs.length ≤ 3 → xs.length ≤ sizeLine := fun h => by
  rw [sizeLine_eq]
  omega
theorem told2_gives {X : Cx} {x q : Str} {sg : Scope} {g C1 C2 : Addr} {cdg : Value} {j j2 j3 k1 k2 k3 : Nat} {p1 p2 p3 p4 p5 p6 p7 p8 p9 p10 p11 p12 p13 p14 p15 p16 p17 p18 p19 p20 p21 p22 p23 p24 : Pos}
    (h1 : sg.names.lookup ("Refused" : Str) = some .globalImplicit) (h2 : sg.names.lookup ("TooGreat" : Str) = some .globalImplicit) (m1 : X.mg "Refused" = some (.ref C1)) (m2 : X.mg "TooGreat" = some (.ref C2)) (he : sg.names.lookup ("error" : Str) = some .local)
    (X1 : XfC X.K C1) (X2 : XfC X.K C2) (nw : PySem.W.findIn X.K (.ref C1) "word" = some none) (np : PySem.W.findIn X.K (.ref C1) "place" = some none) (nn : PySem.W.findIn X.K (.ref C2) "number" = some none) :
    LamX.GivesTo X ["call", "error"] x sg g cdg [.Try [.Return (some (.Tuple [.Constant (.str "told") j p1, .Call (.Name "call" p2) [] [] p3] k1 p4)) p5]
      [.ExceptHandler (some (.Name "Refused" p6)) (some "error") [.Return (some (.Tuple [.Constant (.str "refused") j2 p7, .Attribute (.Name "error" p8) "word" p9, .Attribute (.Name "error" p10) "place" p11] k2 p12)) p13] p14,
       .ExceptHandler (some (.Name "TooGreat" p15)) (some "error") [.Return (some (.Tuple [.Constant (.str "great") j3 p16, .Attribute (.Name "error" p17) "number" p18] k3 p19)) p20] p21] [] [] p22] "call" q (T2 X.K C1 C2) := by
  intro f c' s H Q tl act hc h
  have hv : Vis sg ("error" : Str) := .inl he
  refine ⟨_, pss_one (ps_named (X := (cxOf C8.CX0 X.prog X.w X.K X.mg X.base ["call", "error"] x sg g cdg X.A X.stack s H C8.E0).nox) (i := 1) (n := "error") (Wo := fun _ _ _ _ => False)
      (tb := fun W D σ H => ∃ Ech : XK, (∀ cls d σ' H', Ech cls d H' → W cls d σ' H') ∧ σ[0]? = some (some (.ref f)) ∧ H c' = some (LamX.CodeO c' q) ∧ tl Ech H fun v H1 => tupQ D.rt [.str "told", v] H1)
      rfl rfl (show ([("call" : Str), ("error" : Str)] : List Str).Nodup from by decide) rfl he LamX.takes0 (fun W pn xe tk _ => ?_)
      (.cons (c := .ref C1) ⟨h1, by decide, .inl m1⟩ (fun z oz cl dd pz hz hf => pss_one (ps_ret (pe_tup (pa_cons pe_str (pa_cons (pe_xf X1 nw hz hf (pe_var (i := 1) rfl hv)) (pa_cons (pe_xf X1 np hz hf (pe_var (i := 1) rfl hv)) pa_nil))))))
      (.cons (c := .ref C2) ⟨h2, by decide, .inl m2⟩ (fun z oz cl dd pz hz hf => pss_one (ps_ret (pe_tup (pa_cons pe_str (pa_cons (pe_xf X2 nn hz hf (pe_var (i := 1) rfl hv)) pa_nil))))) .nil))), ?_⟩
  · refine ⟨fun pins s' σ H' D I h' => ?_⟩
    obtain ⟨Ech, hW, e1, e2, e3⟩ := h'
    have hp := act W pn xe Ech p2 p3 tk hW
    refine (pss_one (ps_ret (pos := p5) (pe_tup (x1 := k1) (pos := p4) (pa_cons (pe_str (x := "told") (j := j) (pos := p1)) (pa_cons hp pa_nil))))).run pins s' σ H' D I ?_
    exact ⟨e1, e2, e3⟩
  · refine ⟨rHd X.K C1 C2 Q, fun cls d σ' H' hh => ?_, rfl, hc, h⟩
    obtain ⟨b, e1, yes, no⟩ := hh
    have at1 : ∀ z : Addr, σ'.length = 2 → (σ'.set 1 (some (V.ref z)))[1]? = some (some (V.ref z)) := fun z hl => List.getElem?_set_self (by omega)
    refine ⟨b, e1, fun hb hl z hz => ?_, fun hb => ?_⟩
    · obtain ⟨ec, dd, fs, v, u, ed, hx, lw, lp, hq⟩ := yes hb
      exact ⟨.ref z, at1 z hl, rfl, ec, dd, fs, v, ed, hx, lw, .ref z, at1 z hl, rfl, ec, dd, fs, u, ed, hx, lp, hq⟩
    · obtain ⟨b2, e2, yes2, no2⟩ := no hb
      refine ⟨b2, e2, fun hb2 hl z hz => ?_, no2⟩
      obtain ⟨ec, dd, fs, v, ed, hx, ln, hq⟩ := yes2 hb2
      exact ⟨.ref z, at1 z hl, rfl, ec, dd, fs, v, ed, hx, ln, hq⟩
end PBX
end
section
set_option Elab.async false
set_option linter.all false
set_option maxRecDepth 100000
/-! PBTold: _law_told(lambda: e) in the evaluator; len(str(n)) by powers of ten. -/
namespace PBX
open PySem PySem.Spec PyProof.Rows L2
open PB (D P Mem Ex KD KX Rep RI RX Fr rdE KOk XOk Good Tab lay mkTup)
variable [PB.TBL]
/-- the tables stand behind the source's two things -/
noncomputable def tabsOk (m : Mem) (n : Nat) : Bool := Nat.rec true (fun i ih => match Nat.blt (2 + i) m.n, m.get (2 + i) with
  | true, .tab j => match Nat.beq j i with
    | true => ih
    | false => false
  | _, _ => false) n
abbrev txTold : Nat := 459369438365174805
abbrev txRef : Nat := 0
section
variable {T : Tab} {K : PySem.W.Frag} {H H1 : Hp} {ρ : List Addr} {m : Mem}
theorem tabsOk_at (R : Rep K H ρ m) : ∀ {n : Nat}, tabsOk m n = true → ∀ i, i < n → ∃ a q, ρ[2 + i]? = some a ∧ PB.TBL.tbs[i]? = some (a, q) ∧ LamX.TabS H a q
  | 0, _, i, h => absurd h (Nat.not_lt_zero i)
  | n + 1, e, i, h => by
    have e : (match Nat.blt (2 + n) m.n, m.get (2 + n) with
      | true, .tab j => match Nat.beq j n with
        | true => tabsOk m n
        | false => false
      | _, _ => false) = true := e
    split at e
    · rename_i j b q
      split at e
      · rename_i z
        rcases Nat.lt_succ_iff_lt_or_eq.mp h with h | rfl
        · exact tabsOk_at R e i h
        · obtain rfl := Nat.eq_of_beq_eq_true z
          obtain ⟨a, ha⟩ := R.at (Nat.blt_eq.mp b)
          have ro := R.obj _ a ha
          rw [q] at ro
          cases ro with
          | tab h1 h2 => exact ⟨a, _, ha, h1, h2⟩
      · cases e
    · cases e
theorem tabs_of (R : Rep K H ρ m) {n : Nat} (hn : PB.TBL.tbs.length = n) (e : tabsOk m n = true) : LamX.Tabs PB.TBL.tbs H := fun p hp => by
  obtain ⟨i, hi⟩ := List.getElem?_of_mem hp
  have l := (List.getElem?_eq_some_iff.mp hi).1
  obtain ⟨a, q, _, h2, h3⟩ := tabsOk_at R e i (by rw [← hn]; exact l)
  obtain rfl := Option.some.inj (hi.symm.trans h2)
  exact h3
theorem ts_ext (e : LamX.ExtN H H1) : PB.TS H H1 := fun a => ⟨fun vs h => e a _ h fun ps z => (nomatch z), fun o vs h => e a _ h fun ps z => (nomatch z), fun x h => e a _ h fun ps z => nomatch z⟩
theorem fr_ext (e : LamX.ExtN H H1) : Fr ρ H ρ H1 := ⟨⟨[], by simp⟩, fun a o h nt n => ⟨e a o h nt, n⟩, fun a o u h => e a _ h fun ps z => nomatch z⟩
theorem rep_ext (R : Rep K H ρ m) (e : LamX.ExtN H H1) (t : LamX.Tabs PB.TBL.tbs H1) : Rep K H1 ρ m := by
  refine ⟨R.len, R.lo, R.nd, R.kn, fun i a h => ?_, R.top⟩
  have r := R.obj i a h
  generalize m.get i = o at r
  have ts := ts_ext e
  cases r with
  | lst h1 h2 h3 h4 => exact .lst (e _ _ h1 fun ps z => nomatch z) (h2.mono ts fun _ _ h => h) h3 h4
  | lstL h1 h2 h3 h4 => exact .lstL (e _ _ h1 fun ps z => nomatch z) (h2.mono ts fun _ _ h => h) h3 h4
  | dct h1 h2 h3 => exact .dct (e _ _ h1 fun ps z => nomatch z) (h2.mono ts fun _ _ h => h) h3
  | dctL h1 h2 h3 => exact .dctL (e _ _ h1 fun ps z => nomatch z) (h2.mono ts fun _ _ h => h) h3
  | src h1 =>
    obtain ⟨c, l, x, t, h1, r⟩ := h1
    exact .src ⟨c, l, x, t, e _ _ h1 fun ps z => (nomatch z), r⟩
  | cel h1 =>
    obtain ⟨ns, h1, r⟩ := h1
    exact .cel ⟨ns, e _ _ h1 fun ps z => (nomatch z), r⟩
  | tab hj h1 => exact .tab hj (t _ (List.mem_of_getElem? hj))
end
/-- the wish of a lambda's body -/
abbrev WE (E : XK) : WX := fun cls d _ H => E cls d H
/-- x: what becomes of exceptions -/
noncomputable def eTold (nt tn : Nat) (xx : Nat → List P → Option (List P)) (e : Ex) : Ex := fun σ m x k => match tabsOk m nt with
  | true => e σ m (fun c ps m => match xx c ps with
    | some qs => mkTup (PB.wraps qs) m k
    | none => false) fun d m => lay d m fun d m => mkTup [.p (.str tn), d] m k
  | false => false
/-- .. by _law_told with its two clauses -/
def xx2 (rn gn : Nat) (c : Nat) (ps : List P) : Option (List P) := match c, ps with
  | 0, [y] => some [.str gn, y]
  | 1, [u, v] => some [.str rn, u, v]
  | _, _ => none
theorem tupQ_of {K : PySem.W.Frag} {H : Hp} {ρ : List Addr} {m : Mem} {k : KD} {Q : VK} (hk : KOk K ρ H k Q) (R : Rep K H ρ m) {ds : List D} {vs : List V} (h : PB.RIs K H ρ ds vs) (e : mkTup ds m k = true) : tupQ Q vs H := by
  obtain ⟨z, q⟩ := PB.mkTup_ok e h
  refine ⟨z, fun p hp => ?_⟩
  rcases q with ⟨ps, _, h2, h3⟩ | q
  · exact PB.fin_tup hk R hp h2 z h3
  · exact PB.fin_tr hk R hp h z q
theorem told_of {T : Tab} {K : PySem.W.Frag} {W : WX} {C1 C2 : Addr} {nt tn rn gn : Nat} {e : Ex} (hn : PB.TBL.tbs.length = nt) (o1 : PB.okS tn = true) (d1 : PB.decS tn = "told") (o2 : PB.okS rn = true) (d2 : PB.decS rn = "refused") (o3 : PB.okS gn = true) (d3 : PB.decS gn = "great")
    (t1 : T.ecl 1 = some C1) (t0 : T.ecl 0 = some C2) (f1 : T.efs 1 = ([("word" : Str), ("place" : Str)] : List Str)) (f0 : T.efs 0 = ([("number" : Str)] : List Str)) (m11 : PySem.W.exmOne K (.ref C1) (.ref C1) = some true) (m21 : PySem.W.exmOne K (.ref C2) (.ref C1) = some false) (m22 : PySem.W.exmOne K (.ref C2) (.ref C2) = some true) :
    ∀ st H Q, rdE T K W (eTold nt tn (xx2 rn gn) e) st H Q → LamX.tLam PB.TBL.tbs (T2 K C1 C2) (fun E => rdE T K (WE E) e) st H Q := fun st H Q ⟨ρ, σ, m, x, k, R, S, q, hk, hx⟩ => by
  unfold eTold at q
  split at q
  · rename_i ht
    refine ⟨tabs_of R hn ht, fun H1 eN T1 => ?_⟩
    have R1 := rep_ext R eN T1
    have F1 : Fr ρ H ρ H1 := fr_ext eN
    have hk1 := hk.fr F1 R1
    refine ⟨ρ, σ, m, _, _, R1, S.fr R F1, q, fun ρ2 d m2 v H2 f2 R2 r2 q2 => ?_, fun ρ2 c ps m2 cls dx st2 H2 f2 R2 xr q2 => ?_⟩
    · obtain ⟨ρ3, d3', m3, f3, f3', R3, r3, _, q3⟩ := PB.lay_ok f2 R2 r2 q2
      refine tupQ_of (hk1.fr f3 R3) R3 (.cons (.p ?_) (.cons r3 .nil)) q3
      rw [← d1]
      exact .str o1
    · obtain ⟨C, d, vs, h1, rfl, rfl, h4, h5, h6⟩ := xr
      have fin : ∀ {qs : List P} {us : List V}, PB.RPs K H2 qs us → mkTup (PB.wraps qs) m2 k = true → tupQ Q us H2 := fun h e => tupQ_of (hk1.fr f2 R2) R2 (PB.wraps_ri h) e
      dsimp only at q2
      split at q2
      · rename_i qs q
        unfold xx2 at q
        split at q
        · rename_i y
          obtain rfl := Option.some.inj q
          obtain rfl := Option.some.inj (h1.symm.trans t0)
          refine ⟨false, m21, fun z => (nomatch z), fun _ => ⟨true, m22, fun _ => ⟨rfl, ?_⟩, fun z => nomatch z⟩⟩
          rw [f0] at h5
          cases h4 with
          | cons h4 hr =>
            cases hr
            refine ⟨d, _, _, rfl, h5, rfl, ?_⟩
            refine fin (.cons ?_ (.cons h4 .nil)) q2
            rw [← d3]
            exact .str o3
        · rename_i u v
          obtain rfl := Option.some.inj q
          obtain rfl := Option.some.inj (h1.symm.trans t1)
          refine ⟨true, m11, fun _ => ⟨rfl, ?_⟩, fun z => nomatch z⟩
          rw [f1] at h5
          cases h4 with
          | cons h4 hr =>
            cases hr with
            | cons h4' hr =>
              cases hr
              refine ⟨d, _, _, _, rfl, h5, rfl, rfl, ?_⟩
              refine fin (.cons ?_ (.cons h4 (.cons h4' .nil))) q2
              rw [← d2]
              exact .str o2
        · cases q
      · cases q2
  · cases q
end PBX
end
section
set_option Elab.async false
set_option linter.all false
set_option maxRecDepth 100000
/-! PBLaw: the rule for _law_told(lambda: e); defs that make lambdas; the law's end in segments. -/
namespace PBX
open PySem PySem.Spec PyProof.Rows L2
open PB (D P Mem Ex KD KX Rep RI RX Fr rdE KOk XOk Good Tab lay mkTup FnP)
variable [PB.TBL]
structure XFacts2 (K : PySem.W.Frag) (T : Tab) : Prop where
  x1 : ∀ C, T.ecl 1 = some C → XfC K C
  x0 : ∀ C, T.ecl 0 = some C → XfC K C
  m11 : ∀ C, T.ecl 1 = some C → PySem.W.exmOne K (.ref C) (.ref C) = some true
  m21 : ∀ C1 C2, T.ecl 1 = some C1 → T.ecl 0 = some C2 → PySem.W.exmOne K (.ref C2) (.ref C1) = some false
  m22 : ∀ C, T.ecl 0 = some C → PySem.W.exmOne K (.ref C) (.ref C) = some true
/-- the text of _law_told with its two clauses -/
structure ToldIs (st : Stmt) : Prop where
  s1 : (defScope st).names.lookup ("Refused" : Str) = some .globalImplicit
  s2 : (defScope st).names.lookup ("TooGreat" : Str) = some .globalImplicit
  s3 : (defScope st).names.lookup ("error" : Str) = some .local
  s4 : Vis (defScope st) ("call" : Str)
  body : ∃ j j2 j3 k1 k2 k3 p1 p2 p3 p4 p5 p6 p7 p8 p9 p10 p11 p12 p13 p14 p15 p16 p17 p18 p19 p20 p21 p22, defBody st = [.Try [.Return (some (.Tuple [.Constant (.str "told") j p1, .Call (.Name "call" p2) [] [] p3] k1 p4)) p5]
      [.ExceptHandler (some (.Name "Refused" p6)) (some "error") [.Return (some (.Tuple [.Constant (.str "refused") j2 p7, .Attribute (.Name "error" p8) "word" p9, .Attribute (.Name "error" p10) "place" p11] k2 p12)) p13] p14,
       .ExceptHandler (some (.Name "TooGreat" p15)) (some "error") [.Return (some (.Tuple [.Constant (.str "great") j3 p16, .Attribute (.Name "error" p17) "number" p18] k3 p19)) p20] p21] [] [] p22]
/-- _law_told stands at its name -/
def TellsAt (K : PySem.W.Frag) (mg : Str → Option Value) (st : Stmt) : Prop := ∃ g fd, FnP K "_law_told" st g fd ∧ mg "_law_told" = some (.ref g) ∧ L2.Binds K fd ["call"] [] ∧ FnScope ["call", "error"] ["call"] (defScope st) ∧ ToldIs st
/-- the code object at c has its table, and the table is among those that are followed -/
def TabAt (base : Heap) (mg : Str → Option Value) (c : Addr) (q : Str) : Prop := ∃ A, LamX.TabB base mg c A ∧ (A, q) ∈ PB.TBL.tbs ∧ ∀ p ∈ PB.TBL.tbs, p.1 = A → p.2 = q
section
variable {T : Tab} {X : Cx} {W : WX} {e : Ex} {nt tn rn gn : Nat} {c : Addr} {st : Stmt} {params : Arguments} {body : Expr} {scope : Scope} {p lpos pos : Pos}
theorem se_told (k : Nat) (G : Good X W) (hx : XFacts X.prog X.K X.mg T) (hy : XFacts2 X.K T) (td : TellsAt X.K X.mg st)
    (hn : PB.TBL.tbs.length = nt) (o1 : PB.okS tn = true ∧ PB.decS tn = "told") (o2 : PB.okS rn = true ∧ PB.decS rn = "refused") (o3 : PB.okS gn = true ∧ PB.decS gn = "great")
    (hc : X.env.code = .ref c) (ht : TabAt X.base X.mg c (X.env.qual ++ "<lambda>")) (hr : Room (k + 2) X.A) (hg : Gl X "_law_told") (L : LamX.LamS X.env.scope scope) (hdef : defaultsOf params X.env = ([], []))
    (hbind : ∀ (q : Str) (cl : List (Str × Addr)) (pm cv ctv : Value), bindArgs (PySem.W.kla_fn "<lambda>" q params body scope cl pm cv ctv) ⟨[], []⟩ = pure [])
    (hbody : ∀ (A : Around) (outer : List Env) (s : Shared) (H : Hp) (E : XK) (f c' : Addr), Room k (A.deeper (LamX.lamEnv X scope s.heap.objs.size f c')) → Good (LamX.lamCx X A outer s H E scope f c') (WE E) → PE (LamX.lamCx X A outer s H E scope f c') body (rdE T X.K (WE E) e)) :
    PE X (.Call (.Name "_law_told" p) [.Lambda params body scope lpos] [] pos) (rdE T X.K W (eTold nt tn (xx2 rn gn) e)) := by
  obtain ⟨g, fd, F, gT, bT, S, hs⟩ := td
  obtain ⟨C2, fI2, qual2, a1, a2, p0, p1, p2, p3, p4, r1, q1, q2, q3, q4, TX2, hp2, hC2, hf2⟩ := hx.tg
  obtain ⟨C1, fI1, qual1, b1, b2, b3, b4, b5, b6, b7, b8, b9, b10, b11, b12, b13, b14, b15, b16, b17, b18, TX1, hp1, hC1, hf1⟩ := hx.rf
  obtain ⟨oc, od, dV, kV, doc, pm, an, cdv, ct, osl, efd, lk, hcd, _, _⟩ := F.ex
  subst efd
  obtain ⟨A, tb, h1, h2⟩ := ht
  obtain ⟨j, j2, j3, k1, k2, k3, p1', p2', p3', p4', p5', p6', p7', p8', p9', p10', p11', p12', p13', p14', p15', p16', p17', p18', p19', p20', p21', p22', hB⟩ := hs.body
  refine PB.pe_imp (LamX.pe_lamcall (T := PB.TBL.tbs) (TT := T2 X.K C1 C2) (t := fun E => rdE T X.K (WE E) e) (Ng := ["call", "error"]) (a := "call") (k := k) hg gT F.kp lk hcd bT S rfl hs.s4 ?_ tb hc h1 h2 hr L hdef hbind ?_) (told_of hn o1.1 o1.2 o2.1 o2.2 o3.1 o3.2 hC1 hC2 hf1 hf2 (hy.m11 _ hC1) (hy.m21 _ _ hC1 hC2) (hy.m22 _ hC2))
  · rw [hB]
    exact told2_gives (p23 := p0) (p24 := p0) hs.s1 hs.s2 TX1.gC TX2.gC hs.s3 (hy.x1 _ hC1) (hy.x0 _ hC2) (TX1.no _ (.head _)) (TX1.no _ (.tail _ (.head _))) (TX2.no _ (.head _))
  · exact fun A outer s H E f c' hr2 => hbody A outer s H E f c' hr2 ⟨rfl, G.nd, takes_of rfl rfl rfl rfl, by have := hr2.un; show (A.deeper _).units + 200 < cLine; omega⟩
end
/-! ### the law's def, its code object known -/
def CodeOf (K : PySem.W.Frag) (f c : Addr) : Prop := ∃ o1 o2 fd o4, K.lookup f = some ⟨o1, o2, .func fd, o4⟩ ∧ fd.code = .ref c
theorem law_runC {P : Program} {w : World} {K : PySem.W.Frag} {mg : Str → Option Value} {base : Heap} {x : Str} {st : Stmt} {f c : Addr} {fd : FuncData} {N ps : List Str} {k : Nat} {sp : Sp} (F : FnP K x st f fd) (hc : CodeOf K f c) (S : FnScope N ps (defScope st)) (hroom : Room (k + 1) callerA) (len : ∀ vs H Q E, sp vs H Q E → vs.length = ps.length)
    (hbody : ∀ (s : Shared) (H : Hp) (E : XK), Room k (callerA.deeper (envOfC x (defScope st) s.heap.objs.size f (.ref c))) → Good (cxOf (L2.CX P w) P w K mg base N x (defScope st) f (.ref c) callerA [] s H E) (WE E) →
      ∃ t, PSs (cxOf (L2.CX P w) P w K mg base N x (defScope st) f (.ref c) callerA [] s H E) (defBody st) t ∧ ∀ vs Q, sp vs H Q E → t { nx := fun _ H' => Q .non H', rt := Q } (L2.start N vs) H) : PB.RunC P w K mg base (L2.CX P w) f fd ps sp := by
  intro s H args us vs Q E e0 hb r hsp
  obtain ⟨oc, od, dV, kV, doc, pm, an, cdv, ct, osl, efd, lk, hcd, _, _⟩ := F.ex
  subst efd
  obtain ⟨o1, o2, fd', o4, lk2, hcode⟩ := hc
  have e1 := lk.symm.trans lk2
  simp only [Option.some.injEq, Obj.mk.injEq, Data.func.injEq] at e1
  obtain ⟨_, _, e1, _⟩ := e1
  subst e1
  obtain rfl : cdv = .ref c := hcode
  refine LamX.run_ofS lk hcd S hroom e0 hb r (len _ _ _ _ hsp) fun hr => ?_
  obtain ⟨t, h1, h2⟩ := hbody s H E hr ⟨rfl, S.nd, takes_of rfl rfl rfl rfl, by have := hr.un; show (callerA.deeper _).units + 200 < cLine; omega⟩
  exact ⟨t, h1, h2 vs Q hsp⟩
end PBX
end
section
set_option Elab.async false
set_option linter.all false
set_option maxRecDepth 100000
/-! PBSeg: a law's body in segments; a state between two of them is one of a few. -/
namespace PB
open PySem PySem.Spec PyProof.Rows L2
variable [PB.TBL]
section
variable {T : Tab} {X : Cx} {W : WX} {s : Stmt} {ss : List Stmt} {ms ns : Sx} {t : L2.TS}
theorem ss_consT (h1 : PS X s (rdS T X.K W ms)) (h2 : PSs X ss (tSeq (rdS T X.K W ns) t)) : PSs X (s :: ss) (tSeq (rdS T X.K W (sSeq ms ns)) t) := pss_imp (pss_cons h1 h2) fun D st H ⟨ρ, σ, m, ks, k, R, S, e, hk, hx⟩ =>
  ⟨ρ, σ, m, ks, _, R, S, e, fun ρ1 σ1 m1 st1 H1 f1 R1 S1 q1 => ⟨ρ1, σ1, m1, ks, k, R1, S1, q1, hk.fr f1, hx.fr f1 R1⟩, ⟨hx.x, hx.r, hx.b, hx.c⟩⟩
theorem ss_oneT (h1 : PS X s (rdS T X.K W ms)) (h2 : PSs X ss t) : PSs X (s :: ss) (tSeq (rdS T X.K W ms) t) := pss_cons h1 h2
end
/-! ### what is looked at between two segments -/
def sameD : D → D → Bool
  | .un, .un => true
  | .p x, .p y => idP x y
  | .ref i, .ref j => Nat.beq i j
  | _, _ => false
/-- what is not asked for is forgotten -/
def covD (a b : D) : Bool := match b with
  | .un => true
  | b => sameD a b
def cov : Sl → Sl → Bool
  | _, [] => true
  | a :: x, b :: y => match covD a b with
    | true => cov x y
    | false => false
  | [], _ :: _ => false
def covL (n : Nat) (σ : Sl) : List Sl → Bool
  | [] => false
  | τ :: r => match cov σ τ && Nat.ble (topDs τ) n with
    | true => true
    | false => covL n σ r
def sameO : O → O → Bool
  | .src i, .src j => Nat.beq i j
  | .cel, .cel => true
  | .tab i, .tab j => Nat.beq i j
  | _, _ => false
def sameOs : List O → List O → Bool
  | [], [] => true
  | a :: x, b :: y => match sameO a b with
    | true => sameOs x y
    | false => false
  | _, _ => false
def sameM (m m' : Mem) : Bool := Nat.beq m.n m'.n && Nat.beq m.k m'.k && sameOs m.os m'.os
/-- the store is cut back to mm, the slots are as one of L says -/
def cutK (L : List Sl) (mm : Mem) : KN := fun σ m => match Nat.ble m.k mm.n && Nat.ble mm.n m.n with
  | true => match sameM (m.cut mm.n) mm with
    | true => covL mm.n σ L
    | false => false
  | false => false
theorem sameD_eq {a b : D} (h : sameD a b = true) : a = b := by
  cases a with
  | un => cases b <;> first | rfl | cases h
  | p x =>
    cases b with
    | p y => rw [idP_eq (show idP x y = true from h)]
    | _ => cases h
  | ref i =>
    cases b with
    | ref j => rw [Nat.eq_of_beq_eq_true (show Nat.beq i j = true from h)]
    | _ => cases h
  | tmp _ => cases b <;> cases h
  | tr _ => cases b <;> cases h
theorem cov_len : ∀ {σ τ : Sl}, cov σ τ = true → τ.length ≤ σ.length
  | _, [], _ => Nat.zero_le _
  | [], _ :: _, h => by simp [cov] at h
  | a :: x, b :: y, h => by
    unfold cov at h
    split at h
    · exact Nat.succ_le_succ (cov_len h)
    · cases h
theorem covD_at {a b : D} (h : covD a b = true) (n : b ≠ .un) : a = b := by
  unfold covD at h
  split at h
  · exact absurd rfl n
  · exact sameD_eq h
theorem cov_at : ∀ {σ τ : Sl} {i : Nat} {d : D}, cov σ τ = true → nth .un τ i = d → d ≠ .un → nth .un σ i = d
  | _, [], i, d, _, h, n => absurd (show D.un = d from h).symm n
  | [], _ :: _, i, d, e, _, _ => by simp [cov] at e
  | a :: x, b :: y, 0, d, e, h, n => by
    unfold cov at e
    split at e
    · rename_i q
      have h : b = d := h
      subst h
      exact covD_at q n
    · cases e
  | a :: x, b :: y, i + 1, d, e, h, n => by
    unfold cov at e
    split at e
    · exact cov_at (σ := x) (τ := y) e h n
    · cases e
theorem covL_ok {n : Nat} {σ : Sl} : ∀ {L : List Sl}, covL n σ L = true → ∃ τ ∈ L, cov σ τ = true ∧ topDs τ ≤ n
  | [], h => by simp [covL] at h
  | τ :: r, h => by
    unfold covL at h
    split at h
    · rename_i q
      rw [Bool.and_eq_true] at q
      exact ⟨τ, .head _, q.1, Nat.le_of_ble_eq_true q.2⟩
    · obtain ⟨τ', h1, h2⟩ := covL_ok h
      exact ⟨τ', .tail _ h1, h2⟩
theorem sameO_eq {a b : O} (h : sameO a b = true) : a = b := by
  cases a with
  | src i =>
    cases b with
    | src j => rw [Nat.eq_of_beq_eq_true (show Nat.beq i j = true from h)]
    | _ => cases h
  | cel => cases b <;> first | rfl | cases h
  | tab i =>
    cases b with
    | tab j => rw [Nat.eq_of_beq_eq_true (show Nat.beq i j = true from h)]
    | _ => cases h
  | lst _ _ _ _ => cases b <;> cases h
  | dct _ _ => cases b <;> cases h
  | ins _ _ => cases b <;> cases h
theorem sameOs_eq : ∀ {a b : List O}, sameOs a b = true → a = b
  | [], [], _ => rfl
  | a :: x, b :: y, h => by
    unfold sameOs at h
    split at h
    · rename_i q
      rw [sameO_eq q, sameOs_eq h]
    · cases h
  | [], _ :: _, h => by simp [sameOs] at h
  | _ :: _, [], h => by simp [sameOs] at h
theorem sameM_eq {a b : Mem} (h : sameM a b = true) : a = b := by
  unfold sameM at h
  rw [Bool.and_eq_true, Bool.and_eq_true] at h
  obtain ⟨⟨h1, h2⟩, h3⟩ := h
  obtain ⟨n1, k1, o1⟩ := a
  obtain ⟨n2, k2, o2⟩ := b
  obtain rfl : n1 = n2 := Nat.eq_of_beq_eq_true h1
  obtain rfl : k1 = k2 := Nat.eq_of_beq_eq_true h2
  obtain rfl : o1 = o2 := sameOs_eq h3
  rfl
theorem topDs_nth : ∀ {ds : List D} {i : Nat}, topD (nth .un ds i) ≤ topDs ds
  | [], i => Nat.zero_le _
  | d :: r, 0 => Nat.le_max_left _ _
  | d :: r, i + 1 => Nat.le_trans (topDs_nth (ds := r) (i := i)) (Nat.le_max_right _ _)
section
variable {T : Tab} {K : PySem.W.Frag} {W : WX} {H : Hp} {ρ : List Addr} {σ : Sl} {st : L2.St} {m mm : Mem} {ms : Sx} {t : L2.TS} {D : Ends} {L : List Sl}
theorem k0_ok {k : KN} (hrt : ∀ H', D.rt (.bl true) H') : EOk T K ρ H k0 W D := ⟨fun _ _ _ _ _ _ _ _ _ _ _ z => (nomatch (show false = true from z)), fun ρ' e m' v H2 f R r z => (by
  have z : isTrueD e m' = true := z
  unfold isTrueD at z
  split at z
  · subst z
    obtain rfl := rx_bl r
    exact hrt H2
  · cases z), fun _ _ _ _ _ _ _ _ z => (nomatch (show false = true from z)), fun _ _ _ _ _ _ _ _ z => (nomatch (show false = true from z))⟩
/-- a segment ahead of others -/
theorem seg_cut (hrt : ∀ H', D.rt (.bl true) H') (R : Rep K H ρ m) (S : Slots K H ρ σ st) (e : ms σ m k0 (cutK L mm) = true)
    (next : ∀ ρ' σ' st' H', Rep K H' ρ' mm → Slots K H' ρ' σ' st' → σ' ∈ L → t D st' H') : tSeq (rdS T K W ms) t D st H := by
  refine ⟨ρ, σ, m, k0, _, R, S, e, fun ρ1 σ1 m1 st1 H1 f1 R1 S1 q1 => ?_, k0_ok (k := fun _ _ => false) hrt⟩
  unfold cutK at q1
  split at q1
  · rename_i c
    rw [Bool.and_eq_true] at c
    obtain ⟨c1, c2⟩ := c
    split at q1
    · rename_i q
      have R2 := R1.cut (Nat.le_of_ble_eq_true c1) (Nat.le_of_ble_eq_true c2)
      rw [sameM_eq q] at R2
      obtain ⟨τ, hm, hc, c3⟩ := covL_ok q1
      refine next _ _ st1 H1 R2 ⟨Nat.le_trans (cov_len hc) S1.1, fun i d hd hn => ?_⟩ hm
      obtain ⟨v, h1, h2⟩ := S1.2 i d (cov_at hc hd hn) hn
      refine ⟨v, h1, h2.cut ?_⟩
      rw [← hd]
      exact Nat.le_trans topDs_nth c3
    · cases q1
  · cases q1
/-- a segment whose end is the block's end -/
theorem seg_fall (hrt : ∀ H', D.rt (.bl true) H') (R : Rep K H ρ m) (S : Slots K H ρ σ st) (e : ms σ m k0 (cutK L mm) = true)
    (next : ∀ ρ' σ' st' H', Rep K H' ρ' mm → Slots K H' ρ' σ' st' → σ' ∈ L → D.nx st' H') : rdS T K W ms D st H :=
  seg_cut (t := fun D => D.nx) hrt R S e next
/-- what a test leaves -/
def ifK (La Lb : List Sl) (mm : Mem) (σ : Sl) : KD := fun d m => asB d fun t => match t with
  | true => cutK La mm σ m
  | false => cutK Lb mm σ m
theorem cutK_ok (S : Slots K H ρ σ st) (R : Rep K H ρ m) (q1 : cutK L mm σ m = true) : ∃ ρ' τ, Rep K H ρ' mm ∧ Slots K H ρ' τ st ∧ τ ∈ L := by
  unfold cutK at q1
  split at q1
  · rename_i c
    rw [Bool.and_eq_true] at c
    obtain ⟨c1, c2⟩ := c
    split at q1
    · rename_i q
      have R2 := R.cut (Nat.le_of_ble_eq_true c1) (Nat.le_of_ble_eq_true c2)
      rw [sameM_eq q] at R2
      obtain ⟨τ, hm, hc, c3⟩ := covL_ok q1
      refine ⟨_, _, R2, ⟨Nat.le_trans (cov_len hc) S.1, fun i d hd hn => ?_⟩, hm⟩
      obtain ⟨v, h1, h2⟩ := S.2 i d (cov_at hc hd hn) hn
      refine ⟨v, h1, h2.cut ?_⟩
      rw [← hd]
      exact Nat.le_trans topDs_nth c3
    · cases q1
  · cases q1
/-- an if whose suites are cut themselves -/
theorem seg_if {c : Ex} {ta tb : L2.TS} {La Lb Lj : List Sl} (R : Rep K H ρ m) (S : Slots K H ρ σ st) (e : c σ m xF (ifK La Lb mm σ) = true)
    (nx : ∀ ρ' σ' st' H', Rep K H' ρ' mm → Slots K H' ρ' σ' st' → σ' ∈ Lj → D.nx st' H')
    (ha : (∀ ρ' σ' st' H', Rep K H' ρ' mm → Slots K H' ρ' σ' st' → σ' ∈ Lj → D.nx st' H') → ∀ ρ' σ' st' H', Rep K H' ρ' mm → Slots K H' ρ' σ' st' → σ' ∈ La → ta D st' H')
    (hb : (∀ ρ' σ' st' H', Rep K H' ρ' mm → Slots K H' ρ' σ' st' → σ' ∈ Lj → D.nx st' H') → ∀ ρ' σ' st' H', Rep K H' ρ' mm → Slots K H' ρ' σ' st' → σ' ∈ Lb → tb D st' H') : tIfS (rdT T K W c) ta tb D st H := by
  refine ⟨ρ, σ, m, xF, fun t m => match t with
    | true => cutK La mm σ m
    | false => cutK Lb mm σ m, R, S, e, fun ρ1 t m1 H1 f1 R1 q1 => ?_, xF_ok⟩
  have S1 := S.fr R f1
  cases t with
  | true =>
    obtain ⟨ρ2, τ, R2, S2, hm⟩ := cutK_ok S1 R1 q1
    refine (if_pos rfl).mpr ?_
    exact ha nx ρ2 τ st H1 R2 S2 hm
  | false =>
    obtain ⟨ρ2, τ, R2, S2, hm⟩ := cutK_ok S1 R1 q1
    refine (if_neg Bool.false_ne_true).mpr ?_
    exact hb nx ρ2 τ st H1 R2 S2 hm
/-- the last one -/
theorem seg_end (hrt : ∀ H', D.rt (.bl true) H') (R : Rep K H ρ m) (S : Slots K H ρ σ st) (e : ms σ m k0 (fun _ _ => false) = true) : rdS T K W ms D st H :=
  ⟨ρ, σ, m, k0, _, R, S, e, fun _ _ _ _ _ _ _ _ z => (nomatch (show false = true from z)), k0_ok (k := fun _ _ => false) hrt⟩
/-- all states of a list -/
noncomputable def allS (f : Sl → Bool) (L : List Sl) : Bool := List.rec true (fun σ _ ih => match f σ with
  | true => ih
  | false => false) L
theorem allS_ok {f : Sl → Bool} : ∀ {L : List Sl}, allS f L = true → ∀ σ ∈ L, f σ = true
  | [], _, σ, h => nomatch h
  | τ :: r, e, σ, h => by
    have e : (match f τ with
      | true => allS f r
      | false => false) = true := e
    split at e
    · rename_i q
      cases h with
      | head => exact q
      | tail _ h => exact allS_ok e σ h
    · cases e
end
/-! ### the law's start -/
def tabO : Nat → List O
  | 0 => [.src 0, .cel]
  | n + 1 => .tab n :: tabO n
def m0T (nt : Nat) : Mem := ⟨2 + nt, 0, tabO nt⟩
/-- the tables stand, empty -/
structure Tabs0 (H : Hp) : Prop where
  nil : ∀ p ∈ TBL.tbs, H p.1 = some (.tbl #[])
  nd : (TBL.tbs.map (·.1)).Nodup
theorem rep0T {K : PySem.W.Frag} {H : Hp} {d c : Addr} {x : Int} {ms : List Int} (tb : Tabs0 H) (nd : d ∉ TBL.tbs.map (·.1)) (nc : c ∉ TBL.tbs.map (·.1)) (ne : d ≠ c) (hd : H d = some (.dK (srcKV c 1 x 0))) (hc : H c = some (.lst (ms.map V.int))) (x0 : 0 ≤ x) (x1 : x < 2147483647) (n0 : ∀ n ∈ ms, 0 ≤ n) (n1 : ms.length ≤ 63) :
    ∀ nt, nt ≤ TBL.tbs.length → Rep K H ([c, d] ++ (TBL.tbs.map (·.1)).take nt) (m0T nt)
  | 0, _ => by
    rw [List.take_zero, List.append_nil]
    exact rep0 ne hd hc x0 x1 n0 n1
  | nt + 1, h => by
    have R := rep0T (K := K) tb nd nc ne hd hc x0 x1 n0 n1 nt (Nat.le_of_succ_le h)
    have l : nt < (TBL.tbs.map (·.1)).length := by
      rw [List.length_map]
      exact h
    obtain ⟨q, hq⟩ : ∃ q, TBL.tbs[nt]? = some q := ⟨_, List.getElem?_eq_getElem h⟩
    have ha : (TBL.tbs.map (·.1))[nt]? = some q.1 := by rw [List.getElem?_map, hq]; rfl
    rw [← List.take_append_getElem l, ← List.append_assoc]
    have e2 : (TBL.tbs.map (·.1))[nt] = q.1 := by
      have := List.getElem?_eq_some_iff.mp ha
      exact this.2
    rw [e2]
    refine Rep.new (o := .tab nt) R (fun hm => ?_) (.tab hq (.nil (tb.nil q (List.mem_of_getElem? hq)))) (Nat.zero_le _)
    rcases List.mem_append.mp hm with z | z
    · rcases List.mem_cons.mp z with z | z
      · exact nc (z ▸ List.mem_of_getElem? ha)
      · exact nd (List.mem_singleton.mp z ▸ List.mem_of_getElem? ha)
    · obtain ⟨i, hi⟩ := List.getElem?_of_mem z
      have li : i < nt := by
        have := (List.getElem?_eq_some_iff.mp hi).1
        rw [List.length_take] at this
        omega
      rw [List.getElem?_take_of_lt li] at hi
      obtain ⟨p1, e1⟩ := List.getElem?_eq_some_iff.mp hi
      have := (List.getElem_inj tb.nd).mp (e1.trans e2.symm)
      omega
def spLawT (K : PySem.W.Frag) : Sp := fun vs H Q _ => ∃ (a : Addr) (ns : List Int), vs = [.ref a] ∧ SqL K H a (ns.map V.int) ∧ ns.length ≤ 63 ∧ Tabs0 H ∧ ∀ H', Q (.bl true) H'
theorem law_startsT {K : PySem.W.Frag} {N : List Str} {n : Nat} {vs : List V} {H : Hp} {Q : VK} {E : XK} {E1 : XK} {t : L2.TS} (nt : Nat) (hnt : TBL.tbs.length = nt) (hN : N.length = n + 2) (h : spLawT K vs H Q E)
    (st : ∀ ρ st H', Rep K H' ρ (m0T nt) → Slots K H' ρ (.un :: .ref 1 :: List.replicate n .un) st → t { nx := fun _ H' => Q .non H', rt := Q } st H') : tSeq (tAsg (tCall (spSource K) [] E1 (t1 (tVar 0))) (gName 1)) t { nx := fun _ H' => Q .non H', rt := Q } (L2.start N vs) H := by
  obtain ⟨a, ns, rfl, hS, n1, tb, q⟩ := h
  have e0 : (L2.start N [V.ref a]) = some (.ref a) :: List.replicate (n + 1) none := by
    unfold L2.start
    rw [hN]
    rfl
  rw [e0]
  refine ⟨.ref a, rfl, a, ns, rfl, hS, n1, fun d c x ms' H' s ne hd0 hc0 hd hc x0 x1 m0' m1 => ?_⟩
  have nT : ∀ b, H b = none → b ∉ TBL.tbs.map (·.1) := fun b hb hm => by
    obtain ⟨p, hp, rfl⟩ := List.mem_map.mp hm
    rw [tb.nil p hp] at hb
    cases hb
  have R := rep0T (K := K) (H := H') ⟨fun p hp => s _ _ (tb.nil p hp), tb.nd⟩ (nT d hd0) (nT c hc0) ne hd hc x0 x1 m0' m1 nt (Nat.le_of_eq hnt.symm)
  refine st _ _ H' R ⟨?_, fun i e he hn => ?_⟩
  · rw [List.length_set]
    simp
  · rw [nth_eq] at he
    match i with
    | 0 => exact absurd he.symm hn
    | 1 =>
      refine ⟨.ref d, ?_, ?_⟩
      · rw [List.replicate_succ]
        rfl
      · have he : D.ref 1 = e := he
        rw [← he]
        exact .ref rfl
    | i + 2 =>
      have he : (List.replicate n D.un).getD i .un = e := he
      rw [List.getD_eq_getElem?_getD, List.getElem?_replicate] at he
      exfalso
      split at he
      · exact hn he.symm
      · exact hn he.symm
end PB
end
section
set_option Elab.async false
set_option linter.all false
set_option maxRecDepth 100000
set_option maxHeartbeats 2000000
/-! PBHook: the head's facts for the evaluator: literals, own errors, tables of code objects. -/
namespace PBH
open PySem PySem.Spec PyProof.Rows L2
open PB (P okS decS RP RPs)
/-! ### the part of the heap that is looked at -/
def isTabO (o : Obj) : Bool := match o with
  | ⟨.none, none, .fields vs, sl⟩ => vs.isEmpty && sl.isEmpty
  | _ => false
theorem isTabO_ok {o : Obj} (e : isTabO o = true) : o = { cls := .none, data := .fields #[] } := by
  unfold isTabO at e
  split at e
  · rename_i vs sl
    rw [Bool.and_eq_true] at e
    have h1 : vs = #[] := by simpa using e.1
    have h2 : sl = #[] := by simpa using e.2
    rw [h1, h2]
  · cases e
def isTabG (g : Addr → Option Obj) (a : Addr) : Bool := match g a with
  | some o => isTabO o
  | none => false
def asX (g : Addr → Option Obj) : Nat → List Addr
  | 0 => [mainGlobals, cStatics]
  | n + 1 => He.growD g (asX g n)
def frX (g : Addr → Option Obj) (n : Nat) : PySem.W.Frag := He.frG g ((asX g n).filter fun a => !isTabG g a)
/-! ### literals -/
mutual
def rpB (K : PySem.W.Frag) : P → Value → Bool
  | .non, .none => true
  | .bl b, .bool c => b == c
  | .int i, .int j _ => decide (i = j)
  | .str n, .str y _ => okS n && decide (decS n = y)
  | .tup ps, .ref a => (match K.lookup a with
    | some ⟨.type c, _, .seq its _, _⟩ => decide (c = "tuple") && (decide (its.size ≤ sizeLine) && rpBs K ps its.toList)
    | _ => false)
  | _, _ => false
def rpBs (K : PySem.W.Frag) : List P → List Value → Bool
  | [], [] => true
  | p :: ps, u :: us => rpB K p u && rpBs K ps us
  | _, _ => false
end
mutual
theorem rpB_ok {K : PySem.W.Frag} : ∀ {p : P} {u : Value}, rpB K p u = true → ∃ v, RelV v u ∧ ∀ H, RP K H p v
  | .non, u, h => by
    cases u with
    | none => exact ⟨.non, rfl, fun _ => .non⟩
    | _ => simp [rpB] at h
  | .bl b, u, h => by
    cases u with
    | bool c =>
      have h : (b == c) = true := by simpa [rpB] using h
      rw [← eq_of_beq h]
      exact ⟨.bl b, rfl, fun _ => .bl b⟩
    | _ => simp [rpB] at h
  | .int i, u, h => by
    cases u with
    | int j t =>
      have h : i = j := by simpa [rpB] using h
      rw [← h]
      exact ⟨.int i, ⟨t, rfl⟩, fun _ => .int i⟩
    | _ => simp [rpB] at h
  | .str n, u, h => by
    cases u with
    | str y t =>
      have h : okS n = true ∧ decS n = y := by simpa [rpB] using h
      rw [← h.2]
      exact ⟨.str (decS n), ⟨t, rfl⟩, fun _ => .str h.1⟩
    | _ => simp [rpB] at h
  | .tup ps, u, h => by
    cases u with
    | ref a =>
      unfold rpB at h
      split at h
      · rename_i c od its ep sl q
        rw [Bool.and_eq_true, Bool.and_eq_true] at h
        obtain ⟨h1, h2, h3⟩ := h
        obtain ⟨vs, g1, g2⟩ := rpBs_ok h3
        have z : its.size ≤ sizeLine := of_decide_eq_true h2
        have l : vs.length ≤ sizeLine := by
          rw [g1.length]
          simpa using z
        exact ⟨.ref a, rfl, fun H => .tup (.inr ⟨_, its, ep, q, congrArg Value.type (of_decide_eq_true h1), rfl, z, g1⟩) (g2 H) l⟩
      · cases h
    | _ => simp [rpB] at h
theorem rpBs_ok {K : PySem.W.Frag} : ∀ {ps : List P} {us : List Value}, rpBs K ps us = true → ∃ vs, Vals vs us ∧ ∀ H, RPs K H ps vs
  | [], [], _ => ⟨[], .nil, fun _ => .nil⟩
  | p :: ps, u :: us, h => by
    have h : rpB K p u = true ∧ rpBs K ps us = true := by simpa [rpBs] using h
    obtain ⟨v, h1, h2⟩ := rpB_ok h.1
    obtain ⟨vs, g1, g2⟩ := rpBs_ok h.2
    exact ⟨v :: vs, .cons h1 g1, fun H => .cons (h2 H) (g2 H)⟩
  | [], _ :: _, h => by simp [rpBs] at h
  | _ :: _, [], h => by simp [rpBs] at h
end
def litB (K : PySem.W.Frag) (x : Str) (p : P) : Bool := match PySem.W.nsIn K mainGlobals x with
  | some (some u) => rpB K p u
  | _ => false
theorem litB_ok {K : PySem.W.Frag} {h : Heap} {mg : Str → Option Value} (X : K.In h) (G : h.Ns mainGlobals mg) {x : Str} {p : P} (e : litB K x p = true) : PB.Glit K mg x p := by
  unfold litB at e
  split at e
  · rename_i u q
    obtain ⟨v, h1, h2⟩ := rpB_ok e
    exact ⟨u, v, PySem.W.mg_of X G q, h1, h2⟩
  · cases e
/-! ### the module's statics -/
def isStrV : Value → Bool
  | .str _ _ => true
  | _ => false
def noDigB (K : PySem.W.Frag) : Bool := match K.lookup cStatics with
  | some ⟨_, _, .dict es _, _⟩ => es.toList.all (fun e => isStrV e.key) && (match es.toList.find? (fun e => e.key.isStr "sys.int_max_str_digits") with
    | some _ => false
    | none => true)
  | _ => false
theorem noDigB_ok {K : PySem.W.Frag} (e : noDigB K = true) : ∀ h : Heap, K.In h → h.NoDigits := fun h X => by
  unfold noDigB at e
  split at e
  · rename_i c d es ep sl q
    rw [Bool.and_eq_true] at e
    obtain ⟨e1, e2⟩ := e
    refine ⟨fun n => nsFind es n, ⟨_, es, ep, X _ _ q, rfl, fun x hx => ?_, fun _ => rfl⟩, ?_⟩
    · have := List.all_eq_true.mp e1 x (by simpa using hx)
      revert this
      cases x.key with
      | str n t => exact fun _ => ⟨n, t, rfl⟩
      | _ => exact fun z => nomatch (show false = true from z)
    · split at e2
      · cases e2
      · rename_i q2
        show nsFind es ("sys.int_max_str_digits" : Str) = none
        unfold nsFind findBy
        rw [← Array.find?_toList, q2]
        rfl
  · cases e
/-! ### own errors -/
open PySem.W in
def excObjB (K : Frag) (C : Addr) : Bool := match K.lookup C with
  | some ⟨.type t, _, .cls cd, sl⟩ => decide (t = "type") && ((match cd.mro with
    | .ref C' :: bm => decide (C' = C) && PySem.HandSPX.refsVE bm
    | _ => false) && (cd.hasDict && (!cd.hasDel && (match sl.toList with
      | [_, _, _, _, some (.builtin n), _] => decide (n = "ValueError.__new__")
      | _ => false))))
  | _ => false
open PySem.W in
theorem excObjB_ok {K : Frag} {C : Addr} (e : excObjB K C = true) : ∃ nm q N bs bm sn sub ab col dd k0 k1 k2 k3 k5, K.lookup C = some (excClassObj nm q C N bs bm true sn sub ab col dd k0 k1 k2 k3 k5 "ValueError.__new__") ∧ PySem.HandSPX.refsVE bm = true := by
  unfold excObjB at e
  split at e
  · rename_i t dd cd sl q
    rw [Bool.and_eq_true, Bool.and_eq_true, Bool.and_eq_true, Bool.and_eq_true] at e
    obtain ⟨h1, h2, h3, h4, h5⟩ := e
    have h1 := of_decide_eq_true h1
    split at h2
    · rename_i C' bm q2
      rw [Bool.and_eq_true] at h2
      have h2a := of_decide_eq_true h2.1
      split at h5
      · rename_i k0 k1 k2 k3 n k5 q3
        have h5 := of_decide_eq_true h5
        obtain ⟨nm, bs, mro, N, qn, hd, sn, sub, ab, col, hdel⟩ := cd
        have h4 : hdel = false := by simpa using h4
        have h3 : hd = true := h3
        have q2 : mro = .ref C' :: bm := q2
        subst h1 h2a h5 h4 h3 q2
        have es : sl = #[k0, k1, k2, k3, some (.builtin "ValueError.__new__"), k5] := by
          apply Array.ext'
          exact q3
        rw [es] at q
        exact ⟨nm, qn, N, bs, bm, sn, sub, ab, col, dd, k0, k1, k2, k3, k5, q, h2.2⟩
      · cases h5
    · cases h2
  · cases e
/-- a method's function, its closure's names told -/
abbrev FnC : Type := Option (Str × Str × Arguments × FuncBody × Scope × Addr × List Str × Value × Value × Addr)
def fnC (K : PySem.W.Frag) (p : Str × Option Str) : FnC := match K.lookup (He.fAd K p) with
  | some ⟨_, _, .func fd, _⟩ => some (fd.name, fd.qualname, fd.params, fd.body, fd.scope, fd.globals, fd.closure.map (·.1), fd.defaults, fd.kwdefaults, fd.builtins)
  | _ => none
/-- __init__ of an own error -/
structure IniD where
  cls : Str
  fs : List Str
  qual : Str
  params : Arguments
  body : List Stmt
  scope : Scope
def IniD.val (d : IniD) : FnC := some ("__init__", d.qual, d.params, .stmts d.body, d.scope, mainGlobals, ["__class__"], .none, .none, builtinsNs)
abbrev IniD.at_ (d : IniD) : Str × Option Str := (d.cls, some "__init__")
def eqB (a b : Option Bool) : Bool := decide (a = b)
def eqV (a b : Option Value) : Bool := decide (a = b)
open PySem.W in
def inCodeB (K : Frag) (file q : Str) (C fI : Addr) : Bool := match K.lookup fI with
  | some ⟨_, _, .func fd, _⟩ => (match fd.code, fd.closure with
    | .ref cda, [(_, cc)] => codeIn K (.ref cda) q && ((match K.lookup cda with
      | some ⟨_, _, .fields vs, _⟩ => (match vs[2]? with
        | some (Value.str f _) => file == f
        | _ => false)
      | _ => false) && (match K.lookup cc with
      | some ⟨_, _, .cell (some (.ref D)), _⟩ => decide (D = C)
      | _ => false))
    | _, _ => false)
  | _ => false
open PySem.W in
/-- facts of the class x and of its __init__ -/
def xtB (K : Frag) (file : Str) (d : IniD) : Bool :=
  (He.Fa.glo d.cls).ok K && (excObjB K (He.ga K d.cls) && (He.eqO (findIn K (.ref (He.ga K d.cls)) "__setattr__") (some (some (.builtin "object.__setattr__"))) && ((d.fs.all fun f => He.eqO (findIn K (.ref (He.ga K d.cls)) f) (some none)) &&
  (He.eqO (findIn K (.ref (He.ga K d.cls)) "__init__") (some (some (.ref (He.ma K (He.ga K d.cls) "__init__")))) && (eqV (typeIn K (.ref (He.ma K (He.ga K d.cls) "__init__"))) (some (.type "function")) && (keepIn K (.ref (He.ga K d.cls)) &&
  (eqB (subIn K (.ref (He.ga K d.cls)) (.type "BaseException")) (some true) && (eqV (typeIn K (.ref (He.ga K d.cls))) (some (.type "type")) && (eqB (mroIn K (He.ga K d.cls) (.ref (He.ga K d.cls))) (some true) &&
  (He.eqO (ks_superIn K (He.ga K d.cls) (He.ga K d.cls) "__init__") (some (some (.builtin "ValueError.__init__"))) && (eqB (subIn K (.ref (He.ga K d.cls)) (.type "ValueError")) (some true) && (He.eqO (nsIn K mainGlobals "super") (some none) &&
  (He.eqO (nsIn K cStatics "thirdparty.any") (some none) && inCodeB K file d.qual (He.ga K d.cls) (He.ma K (He.ga K d.cls) "__init__"))))))))))))))
theorem ba {a b : Bool} (h : (a && b) = true) : a = true ∧ b = true := Bool.and_eq_true_iff.mp h
open PySem.W in
theorem xt_of {P : Program} {K : Frag} {h : Heap} {mg : Str → Option Value} (X : K.In h) (G : h.Ns mainGlobals mg) {d : IniD} (e : fnC K d.at_ = d.val) (c : xtB K P.main.file d = true) (ht : (P.main.scope.names.lookup ("super" : Str)).isSome = false) :
    PBX.XT P K mg d.cls (He.ga K d.cls) (He.ma K (He.ga K d.cls) "__init__") d.fs d.qual d.params d.body d.scope := by
  obtain ⟨c1, c⟩ := ba c
  obtain ⟨c2, c⟩ := ba c
  obtain ⟨c3, c⟩ := ba c
  obtain ⟨c4, c⟩ := ba c
  obtain ⟨c5, c⟩ := ba c
  obtain ⟨c6, c⟩ := ba c
  obtain ⟨c7, c⟩ := ba c
  obtain ⟨c8, c⟩ := ba c
  obtain ⟨c9, c⟩ := ba c
  obtain ⟨c10, c⟩ := ba c
  obtain ⟨c11, c⟩ := ba c
  obtain ⟨c12, c⟩ := ba c
  obtain ⟨c13, c⟩ := ba c
  obtain ⟨c14, c15⟩ := ba c
  refine ⟨He.glo_ok X G c1, excObjB_ok c2, He.eqO_ok c3, fun f hf => He.eqO_ok (List.all_eq_true.mp c4 f hf), He.eqO_ok c5, of_decide_eq_true c6, c7, of_decide_eq_true c8, of_decide_eq_true c9, of_decide_eq_true c10, He.eqO_ok c11, of_decide_eq_true c12, He.eqO_ok c13, He.eqO_ok c14, ?_, ht⟩
  unfold inCodeB at c15
  have e : (match K.lookup (He.ma K (He.ga K d.cls) "__init__") with
    | some ⟨_, _, .func fd, _⟩ => some (fd.name, fd.qualname, fd.params, fd.body, fd.scope, fd.globals, fd.closure.map (·.1), fd.defaults, fd.kwdefaults, fd.builtins)
    | _ => (none : FnC)) = d.val := e
  split at c15
  · rename_i oc od fd osl q
    rw [q] at e
    split at c15
    · rename_i cda nm cc q1 q2
      obtain ⟨k1, k2⟩ := ba c15
      obtain ⟨k2, k3⟩ := ba k2
      split at k2
      · rename_i ccl cdd vs ccs q3
        split at k2
        · rename_i file tf q4
          split at k3
          · rename_i cl cld D csl q5
            obtain ⟨n1, n2, n3, n4, n5, n6, n7, n8, n9, n10, n11, n12, n13, n14, n15⟩ := fd
            have q1 : n13 = .ref cda := q1
            have q2 : n7 = [(nm, cc)] := q2
            subst q1 q2
            have e2 : (some (n1, n2, n3, n4, n5, n6, [nm], n8, n9, n15) : FnC) = some (("__init__" : Str), d.qual, d.params, FuncBody.stmts d.body, d.scope, mainGlobals, [("__class__" : Str)], Value.none, Value.none, builtinsNs) := e
            simp only [Option.some.injEq, Prod.mk.injEq, List.cons.injEq] at e2
            obtain ⟨h1, h2, h3, h4, h5, h6, ⟨h7, _⟩, h8, h9, h10⟩ := e2
            subst h1 h2 h3 h4 h5 h6 h7 h8 h9 h10
            obtain rfl : D = He.ga K d.cls := of_decide_eq_true k3
            exact ⟨oc, od, n10, n11, n12, cda, cc, n14, osl, ccl, cdd, vs, ccs, file, tf, cl, cld, csl, q, k1, q3, q4, k2, q5⟩
          · cases k3
        · cases k2
      · cases k2
    · cases c15
  · cases c15
/-! ### tables of code objects -/
def isIntV : Value → Bool
  | .int _ _ => true
  | _ => false
def isBoolV : Value → Bool
  | .bool _ => true
  | _ => false
def eqVal (a b : Value) : Bool := decide (a = b)
def codeHdB (g : Addr → Option Obj) (c A : Addr) : Bool := match g c with
  | some ⟨cl, _, .fields vs, _⟩ => eqVal cl (.type "code") && (eqV vs[11]? (some (.ref A)) && (isStrV (vs.getD 18 .none) && (isIntV (vs.getD 7 .none) && (isBoolV (vs.getD 9 .none) && (isIntV (vs.getD 10 .none) && decide (c ≠ A))))))
  | _ => false
def cAd (K : PySem.W.Frag) (f : Addr) : Addr := match K.lookup f with
  | some ⟨_, _, .func fd, _⟩ => (match fd.code with
    | .ref c => c
    | _ => 0)
  | _ => 0
def tAd (K : PySem.W.Frag) (c : Addr) : Addr := match K.lookup c with
  | some ⟨_, _, .fields vs, _⟩ => (match vs[11]? with
    | some (Value.ref A) => A
    | _ => 0)
  | _ => 0
def codeOfB (K : PySem.W.Frag) (f c : Addr) : Bool := match K.lookup f with
  | some ⟨_, _, .func fd, _⟩ => eqVal fd.code (.ref c)
  | _ => false
def tabB (g : Addr → Option Obj) (K : PySem.W.Frag) (p : Str × Option Str) : Bool :=
  codeOfB K (He.fAd K p) (cAd K (He.fAd K p)) && (codeHdB g (cAd K (He.fAd K p)) (tAd K (cAd K (He.fAd K p))) && (isTabG g (tAd K (cAd K (He.fAd K p))) && (K.lookup (tAd K (cAd K (He.fAd K p)))).isNone))
structure TabF (K : PySem.W.Frag) (h : Heap) (f c A : Addr) : Prop where
  co : PBX.CodeOf K f c
  hd : PySem.W.CodeHd h c A
  tab : h.get? A = some { cls := .none, data := .fields #[] }
  non : K.lookup A = none
theorem isStrV_ok {v : Value} (h : isStrV v = true) : ∃ s t, v = .str s t := by
  cases v <;> first | exact ⟨_, _, rfl⟩ | cases h
theorem isIntV_ok {v : Value} (h : isIntV v = true) : ∃ s t, v = .int s t := by
  cases v <;> first | exact ⟨_, _, rfl⟩ | cases h
theorem isBoolV_ok {v : Value} (h : isBoolV v = true) : ∃ s, v = .bool s := by
  cases v <;> first | exact ⟨_, rfl⟩ | cases h
theorem codeHdB_ok {h : Heap} {c A : Addr} (e : codeHdB h.get? c A = true) : PySem.W.CodeHd h c A := by
  unfold codeHdB at e
  split at e
  · rename_i cl od vs sl q
    obtain ⟨h1, e⟩ := ba e
    obtain ⟨h2, e⟩ := ba e
    obtain ⟨h3, e⟩ := ba e
    obtain ⟨h4, e⟩ := ba e
    obtain ⟨h5, e⟩ := ba e
    obtain ⟨h6, h7⟩ := ba e
    obtain ⟨file, tf, g3⟩ := isStrV_ok h3
    obtain ⟨flags, tg, g4⟩ := isIntV_ok h4
    obtain ⟨inF, g5⟩ := isBoolV_ok h5
    obtain ⟨text, tt, g6⟩ := isIntV_ok h6
    have g2 : vs[11]? = some (.ref A) := of_decide_eq_true h2
    have g2' : vs.getD 11 .none = .ref A := by
      rw [Array.getD_eq_getD_getElem?, g2]
      rfl
    exact ⟨_, vs, file, tf, flags, tg, inF, text, tt, q, of_decide_eq_true h1, rfl, g2, g2', g3, g4, g5, g6, of_decide_eq_true h7⟩
  · cases e
theorem codeOfB_ok {K : PySem.W.Frag} {f c : Addr} (e : codeOfB K f c = true) : PBX.CodeOf K f c := by
  unfold codeOfB at e
  split at e
  · rename_i o1 o2 fd o4 q
    exact ⟨o1, o2, fd, o4, q, of_decide_eq_true e⟩
  · cases e
theorem tabB_ok {h : Heap} {K : PySem.W.Frag} {p : Str × Option Str} (e : tabB h.get? K p = true) : ∃ c A, TabF K h (He.fAd K p) c A := by
  obtain ⟨h1, e⟩ := ba e
  obtain ⟨h2, e⟩ := ba e
  obtain ⟨h3, h4⟩ := ba e
  refine ⟨_, _, codeOfB_ok h1, codeHdB_ok h2, ?_, by simpa using h4⟩
  unfold isTabG at h3
  split at h3
  · rename_i o q
    rw [q, isTabO_ok h3]
  · cases h3
theorem TabF.keeps {K : PySem.W.Frag} {h h' : Heap} {f c A : Addr} (x : TabF K h f c A) (k : ∀ b o, h.get? b = some o → h'.get? b = some o) : TabF K h' f c A := ⟨x.co, x.hd.keeps k, k _ _ x.tab, x.non⟩
/-! ### the Hook -/
structure Ask where
  n : Nat
  fa : List He.Fa
  fn : List He.DefD
  ms : List IniD
  chk : PySem.W.Frag → Bool
  tabs : List (Str × Option Str)
abbrev AlX : Type := Bool × List He.FnW × List FnC
def okK (q : Ask) (g : Addr → Option Obj) (K : PySem.W.Frag) : Bool := (q.fa.all fun f => f.ok K) && ((q.fn.all fun d => d.ok K) && (q.chk K && q.tabs.all fun p => tabB g K p))
def obsK (q : Ask) (g : Addr → Option Obj) (K : PySem.W.Frag) : AlX := (okK q g K, q.fn.map fun d => He.fnW K d.at_, q.ms.map fun d => fnC K d.at_)
def obsX (q : Ask) (g : Addr → Option Obj) : AlX := obsK q g (frX g q.n)
structure Says (q : Ask) (K : PySem.W.Frag) (h : Heap) : Prop where
  fa : ∀ f ∈ q.fa, f.ok K = true
  fn : ∀ d ∈ q.fn, d.ok K = true ∧ He.fnW K d.at_ = d.val
  ms : ∀ d ∈ q.ms, fnC K d.at_ = d.val
  chk : q.chk K = true
  tabs : ∀ p ∈ q.tabs, ∃ c A, TabF K h (He.fAd K p) c A
theorem map_mem {α β : Type} {f g : α → β} : ∀ {l : List α}, l.map f = l.map g → ∀ x ∈ l, f x = g x
  | a :: l, h, x, hx => by
    rw [List.map_cons, List.map_cons, List.cons.injEq] at h
    cases hx with
    | head => exact h.1
    | tail _ hx => exact map_mem h.2 x hx
theorem says_of {q : Ask} {K : PySem.W.Frag} {h : Heap} (e : obsK q h.get? K = (true, q.fn.map He.DefD.val, q.ms.map IniD.val)) : Says q K h := by
  unfold obsK at e
  rw [Prod.mk.injEq, Prod.mk.injEq] at e
  obtain ⟨e1, e2, e3⟩ := e
  obtain ⟨h1, e1⟩ := ba e1
  obtain ⟨h2, e1⟩ := ba e1
  obtain ⟨h3, h4⟩ := ba e1
  exact ⟨fun f hf => List.all_eq_true.mp h1 f hf, fun d hd => ⟨List.all_eq_true.mp h2 d hd, map_mem e2 d hd⟩, fun d hd => map_mem e3 d hd, h3, fun p hp => tabB_ok (List.all_eq_true.mp h4 p hp)⟩
def hookX (q : Ask) : PySem.W.Hook where
  α := AlX
  obs := fun s => obsX q s.heap.get?
  val := fun _ => (true, q.fn.map He.DefD.val, q.ms.map IniD.val)
  says := fun _ h => ∃ K : PySem.W.Frag, K.In h ∧ Says q K h
  of := fun _ _ e => ⟨_, He.frG_in, says_of e⟩
  keeps := fun _ _ _ ⟨K, hK, c⟩ k => ⟨K, PySem.W.Frag.In.keeps hK k, ⟨c.fa, c.fn, c.ms, c.chk, fun p hp => (c.tabs p hp).elim fun a z => z.elim fun b z => ⟨a, b, z.keeps k⟩⟩⟩
theorem obsX_eq {q : Ask} {g : Addr → Option Obj} {s : Shared} (h : ∀ a, g a = s.heap.get? a) : obsX q g = (hookX q).obs s := by
  have e : g = s.heap.get? := funext h
  rw [e] <;> rfl
section
variable {q : Ask} {K : PySem.W.Frag} {h : Heap}
theorem Says.fact (c : Says q K h) (i : Nat) {f : He.Fa} (e : q.fa[i]? = some f := by rfl) : f.ok K = true := c.fa f (List.mem_of_getElem? e)
theorem Says.def_ (c : Says q K h) (i : Nat) {d : He.DefD} (e : q.fn[i]? = some d := by rfl) : ∃ fd, FunD K d.name d.qual d.params d.body d.scope (d.dvs K) (d.kws K) (He.fAd K d.at_) fd := by
  obtain ⟨h1, h2⟩ := c.fn d (List.mem_of_getElem? e)
  exact He.DefD.funD h2 h1
theorem Says.ini (c : Says q K h) (i : Nat) {d : IniD} (e : q.ms[i]? = some d := by rfl) : fnC K d.at_ = d.val := c.ms d (List.mem_of_getElem? e)
end
end PBH
end
set_option maxRecDepth 1000000
set_option maxHeartbeats 0
namespace Law
open PySem PySem.Spec PyProof.Rows L2 PB
variable [PB.TBL]
abbrev NT : Nat := 1
def top (i : Nat) : Stmt := PySem.Challenge.pw_guestwebs_k46_webs_counted_by_listing.main.body.getD i (.Pass ⟨0, 0, 0, 0⟩)
theorem tx0 : okS 2243767400339711069035429987 = true ∧ decS 2243767400339711069035429987 = "beats" := by decide +kernel
theorem tx1 : okS 2243767252765776071545061481 = true ∧ decS 2243767252765776071545061481 = "heeds" := by decide +kernel
theorem tx2 : okS 4705521001015195061105820296020073 = true ∧ decS 4705521001015195061105820296020073 = "houses" := by decide +kernel
theorem tx3 : okS 527765795242087 = true ∧ decS 527765795242087 = "few" := by decide +kernel
theorem tx4 : okS 536561907138658 = true ∧ decS 536561907138658 = "any" := by decide +kernel
theorem tx5 : okS 931561055109636948085 = true ∧ decS 931561055109636948085 = "told" := by decide +kernel
theorem tx6 : okS 2263110038209494027803295848 = true ∧ decS 2263110038209494027803295848 = "great" := by decide +kernel
theorem tx7 : okS 8592133902367518457549088723767062954084 = true ∧ decS 8592133902367518457549088723767062954084 = "counted" := by decide +kernel
theorem tx8 : okS 8592133902367499114800538427987532447859 = true ∧ decS 8592133902367499114800538427987532447859 = "refused" := by decide +kernel
structure Facts (K : PySem.W.Frag) (mg : Str → Option Value) : Prop where
  c_BEATS : Glit K mg "BEATS" (.str 2243767400339711069035429987)
  c_HEEDS : Glit K mg "HEEDS" (.str 2243767252765776071545061481)
  c_TURNED_HEEDS : Glit K mg "TURNED_HEEDS" (.tup [(.int 0), (.int 2), (.int 1), (.int 3)])
  c_FEW : Glit K mg "FEW" (.str 527765795242087)
  c_HOUSES : Glit K mg "HOUSES" (.str 4705521001015195061105820296020073)
  c_HOUSE : Glit K mg "HOUSE" (.int 1)
  c_GUEST : Glit K mg "GUEST" (.int 0)
  c_MOST_LISTED : Glit K mg "MOST_LISTED" (.int 5)
  c_WIDE_LIST : Glit K mg "WIDE_LIST" (.int 4)
  c_NO_WEB : Glit K mg "NO_WEB" (.tup [(.tup []), (.tup [])])
  c_MOST_FIGURES : Glit K mg "MOST_FIGURES" (.int 300)
  c_LONG_NUMBER : Glit K mg "LONG_NUMBER" (.int 5)
  c_COUNTED : Glit K mg "COUNTED" (.str 8592133902367518457549088723767062954084)
  c_MOST_COMINGS : Glit K mg "MOST_COMINGS" (.int 100)
  c_LONG_ROW : Glit K mg "LONG_ROW" (.int 3)
  f_abs : mg "abs" = none
  f_all : mg "all" = none
  f_dict : mg "dict" = none
  f_enumerate : mg "enumerate" = none
  f_int : mg "int" = none
  f_len : mg "len" = none
  f_list : mg "list" = none
  f_max : mg "max" = none
  f_range : mg "range" = none
  f_repr : mg "repr" = none
  f_str : mg "str" = none
  f_sum : mg "sum" = none
section
variable {P : Program} {w : World} {K : PySem.W.Frag} {mg : Str → Option Value} {base : Heap} {T : Tab}
noncomputable def m__law_pick : Fx := fPick
abbrev s__law_pick : Stmt := top 43
theorem sc__law_pick : FnScope ["source", "many", "left", "mixed"] ["source", "many"] (defScope s__law_pick) := ⟨rfl, rfl, rfl, by decide +kernel, rfl, by decide +kernel, by decide +kernel⟩
theorem ok__law_pick {f : Addr} {fd : FuncData} (F : FnP K "_law_pick" s__law_pick f fd) (h : Facts K mg) : FnOk P w K mg base (L2.CX P w) 1 f fd ["source", "many"] (spF T K m__law_pick) := by
  refine F.ok sc__law_pick (fun vs H Q E q => ?_) fun cdv A outer s H vs Q E hr q => ⟨tPick K, ?_, pick_run (pick_imp q)⟩
  · obtain ⟨d, c, l, x, t, many, ns, rfl, _⟩ := pick_imp q
    rfl
  have hu : (cxOf (L2.CX P w) P w K mg base ["source", "many", "left", "mixed"] "_law_pick" (defScope s__law_pick) f cdv A outer s H E).A.units + 1 < cLine := by
    have := hr.un
    show (A.deeper _).units + 1 < cLine
    omega
  have nd := sc__law_pick.nd
  exact pss_cons (ps_while (passes_of rfl) (pw_and (pt_cmpR op_gt (pv 1) pe_int (nomark _)) (pw_and (pt_cmpR op_lt (pe_dget hu (pv 0) pe_str (fun _ _ => rfl)) pe_int (nomark _)) (pw_and1 (pt_cmpR op_gt (pe_callB (x := "len") call_len rfl h.f_len boot_len (pa_cons (pe_dget hu (pv 0) pe_str (fun _ _ => rfl)) pa_nil)) pe_int (nomark _))))).pt
      (pss_one (ps_dput hu (pv 0) pe_str (pe_bm0 PySem.F.plainAttrs_list PySem.F.slot_list_pop PySem.F.type_list_pop mt_pop (pe_dget hu (pv 0) pe_str (fun _ _ => rfl))) rfl)))
    (pss_cons (ps_set (i := 2) nd rfl (.inl rfl) (pe_dget hu (pv 0) pe_str (fun _ _ => rfl)))
    (pss_cons (ps_if (pw_or (pt_cmpR op_lt (pv 1) pe_int (nomark _)) (pw_or1 (pt_cmpR op_gt (pv 2) pe_int (nomark _)))).pt
        (pss_cons (ps_dput hu (pv 0) pe_str (pe_op op_fdiv (pv 2) (pe_callB (x := "max") (call_max2 rfl) rfl h.f_max boot_max (pa_cons pe_int (pa_cons (pv 1) pa_nil)))) rfl)
          (pss_one (ps_ret (pe_op op_mod (pe_callTy (x := "int") call_int1 rfl h.f_int boot_int (pa_cons (pv 2) pa_nil)) (pe_callB (x := "max") (call_max2 rfl) rfl h.f_max boot_max (pa_cons pe_int (pa_cons (pv 1) pa_nil)))))))
        pss_nil)
    (pss_cons (ps_dput hu (pv 0) pe_str (pe_op op_add (pe_dget hu (pv 0) pe_str (fun _ _ => rfl)) pe_int) rfl)
    (pss_cons (ps_set (i := 3) nd rfl (.inl rfl) (pe_op op_mod (pe_callTy (x := "int") call_int1 rfl h.f_int boot_int (pa_cons (pe_op op_add (pe_dget hu (pv 0) pe_str (fun _ _ => rfl)) (pe_op op_mul (pe_dget hu (pv 0) pe_str (fun _ _ => rfl)) pe_int)) pa_nil)) pe_int))
    (pss_cons (ps_set (i := 3) nd rfl (.inl rfl) (pe_op op_mod (pe_callTy (x := "int") call_int1 rfl h.f_int boot_int (pa_cons (pe_op op_add (pe_op op_mul (pv 3) (pv 3)) (pe_op op_mul (pe_dget hu (pv 0) pe_str (fun _ _ => rfl)) pe_int)) pa_nil)) pe_int))
    (pss_cons (ps_dput hu (pv 0) pe_str (pv 3) rfl)
    (pss_one (ps_ret (pe_op op_mod (pe_callTy (x := "int") call_int1 rfl h.f_int boot_int (pa_cons (pe_op op_fdiv (pv 3) pe_int) pa_nil)) (pv 1))))))))))

abbrev s__law_source : Stmt := top 42
theorem sc__law_source : FnScope ["script", "mixed", "cell"] ["script"] (defScope s__law_source) := ⟨rfl, rfl, rfl, by decide +kernel, rfl, by decide +kernel, by decide +kernel⟩
theorem ok__law_source {f : Addr} {fd : FuncData} (F : FnP K "_law_source" s__law_source f fd) (h : Facts K mg) : FnOk P w K mg base (L2.CX P w) 1 f fd ["script"] (spSource K) := by
  refine F.ok sc__law_source (fun vs H Q E q => ?_) fun cdv A outer s H vs Q E hr q => ⟨tSource K, ?_, source_run q⟩
  · obtain ⟨a, ns, rfl, _⟩ := q
    rfl
  have nd := sc__law_source.nd
  exact pss_cons (ps_set (i := 1) nd rfl (.inl rfl) pe_int)
    (pss_cons (ps_for (passes_of rfl) rfl (pi_list (pv 0)) (pg_name (i := 2) nd rfl (.inl rfl)) (pss_one (ps_set (i := 1) nd rfl (.inl rfl) (pe_op op_mod (pe_callTy (x := "int") call_int1 rfl h.f_int boot_int (pa_cons (pe_op op_add (pe_op op_add (pe_op op_mul (pv 1) pe_int) (pe_op op_mul (pv 2) pe_int)) pe_int) pa_nil)) pe_int))))
    (pss_one (ps_ret (pe_disp (pps_cons pe_str (pe_revL (pe_lc (own := [("cell", 2)]) (g := gName 2) (tt := tYes) rfl nd (pi_list (pv 0)) (blkOk_by (by kernel_rfl)) (fun _ _ _ _ _ => pg_name (i := 2) nd rfl (.inl rfl)) (fun _ _ _ _ _ => pts_nil) (fun _ _ _ _ _ => pe_callB (x := "abs") call_abs rfl h.f_abs boot_abs (pa_cons (pv 2) pa_nil))))
      (pps_cons pe_str pe_int (pps_cons pe_str (pv 1) (pps_cons pe_str pe_int pps_nil)))) rfl rfl (fun z => nomatch z) (by decide)))))

abbrev s__law_told : Stmt := top 52
theorem sc__law_told : FnScope ["call", "error"] ["call"] (defScope s__law_told) := ⟨rfl, rfl, rfl, by decide +kernel, rfl, by decide +kernel, by decide +kernel⟩
theorem told_is : PBX.ToldIs s__law_told := ⟨rfl, rfl, rfl, .inl rfl, _, _, _, _, _, _, _, _, _, _, _, _, _, _, _, _, _, _, _, _, _, _, _, _, _, _, _, _, rfl⟩
noncomputable def m__law_of : Fx := fnBody 2 0 (sRet (eBin fIx (eVar 1) (eCall m__law_pick (aCons (eVar 0) (aCons (eCB (o1 fLen) (aCons (eVar 1) aNil)) aNil)))))
abbrev s__law_of : Stmt := top 44
theorem sc__law_of : FnScope ["source", "some"] ["source", "some"] (defScope s__law_of) := ⟨rfl, rfl, rfl, by decide +kernel, rfl, by decide +kernel, by decide +kernel⟩
theorem ok__law_of {f : Addr} {fd : FuncData} (F : FnP K "_law_of" s__law_of f fd) (h : Facts K mg) (hx : PBX.XFacts P K mg T) (k__law_pick : Kn P w K mg base T 1 "_law_pick" ["source", "many"] m__law_pick) : FnOk P w K mg base (L2.CX P w) 2 f fd ["source", "some"] (spF T K m__law_of) :=
  fn_big (k := 1) F sc__law_of rfl rfl fun cdv A outer s H E hr G => (ss_one (sp_ret (se_ix G (se_var 1 rfl (by first | exact .inl rfl | exact .inr (.inl rfl) | exact .inr (.inr rfl))) (se_callK G k__law_pick hr rfl (sa_cons (se_var 0 rfl (by first | exact .inl rfl | exact .inr (.inl rfl) | exact .inr (.inr rfl))) (sa_cons (se_cb cb_len rfl h.f_len boot_len (sa_cons (se_var 1 rfl (by first | exact .inl rfl | exact .inr (.inl rfl) | exact .inr (.inr rfl))) sa_nil)) sa_nil))) (fun _ _ => rfl))))
noncomputable def m__law_turned : Fx := fnBody 2 0 (sSeq (sIf (eBin fEq (eBin fIx (eVar 0) (eLit (.int 0))) (eLit (.str 2243767400339711069035429987))) (sRet (eBin fSub (eLit (.int 1)) (eVar 1))) sPass) (sRet (eIf (eBin fEq (eBin fIx (eVar 0) (eLit (.int 0))) (eLit (.str 2243767252765776071545061481))) (eBin fIx (eTup (aCons (eLit (.int 0)) (aCons (eLit (.int 2)) (aCons (eLit (.int 1)) (aCons (eLit (.int 3)) aNil))))) (eVar 1)) (eVar 1))))
abbrev s__law_turned : Stmt := top 46
theorem sc__law_turned : FnScope ["world", "tie"] ["world", "tie"] (defScope s__law_turned) := ⟨rfl, rfl, rfl, by decide +kernel, rfl, by decide +kernel, by decide +kernel⟩
theorem ok__law_turned {f : Addr} {fd : FuncData} (F : FnP K "_law_turned" s__law_turned f fd) (h : Facts K mg) (hx : PBX.XFacts P K mg T)  : FnOk P w K mg base (L2.CX P w) 1 f fd ["world", "tie"] (spF T K m__law_turned) :=
  fn_big (k := 0) F sc__law_turned rfl rfl fun cdv A outer s H E hr G => (ss_cons (sp_if (st_cmp (ob_eq G.hu) (se_ix G (se_var 0 rfl (by first | exact .inl rfl | exact .inr (.inl rfl) | exact .inr (.inr rfl))) se_int (fun _ _ => rfl)) (se_str 2243767400339711069035429987 tx0.1 tx0.2) rfl) (ss_one (sp_ret (se_bin ob_sub se_int (se_var 1 rfl (by first | exact .inl rfl | exact .inr (.inl rfl) | exact .inr (.inr rfl)))))) ss_nil)
    (ss_one (sp_ret (se_if (st_cmp (ob_eq G.hu) (se_ix G (se_var 0 rfl (by first | exact .inl rfl | exact .inr (.inl rfl) | exact .inr (.inr rfl))) se_int (fun _ _ => rfl)) (se_str 2243767252765776071545061481 tx1.1 tx1.2) rfl) (se_ix G (se_tup (sa_cons se_int (sa_cons se_int (sa_cons se_int (sa_cons se_int sa_nil))))) (se_var 1 rfl (by first | exact .inl rfl | exact .inr (.inl rfl) | exact .inr (.inr rfl))) (fun _ _ => rfl)) (se_var 1 rfl (by first | exact .inl rfl | exact .inr (.inl rfl) | exact .inr (.inr rfl)))))))
noncomputable def m__law_tie : Fx := fnBody 4 0 (sSeq (sIf (eBin fLt (eVar 2) (eVar 3)) (sRet (eBin fIx (eBin fIx (eVar 1) (eLit (.int 1))) (eBin fAdd (eBin fDiv (eBin fMul (eVar 3) (eBin fSub (eVar 3) (eLit (.int 1)))) (eLit (.int 2))) (eVar 2)))) sPass) (sRet (eCall m__law_turned (aCons (eVar 0) (aCons (eBin fIx (eBin fIx (eVar 1) (eLit (.int 1))) (eBin fAdd (eBin fDiv (eBin fMul (eVar 2) (eBin fSub (eVar 2) (eLit (.int 1)))) (eLit (.int 2))) (eVar 3))) aNil)))))
abbrev s__law_tie : Stmt := top 47
theorem sc__law_tie : FnScope ["world", "web", "early", "late"] ["world", "web", "early", "late"] (defScope s__law_tie) := ⟨rfl, rfl, rfl, by decide +kernel, rfl, by decide +kernel, by decide +kernel⟩
theorem ok__law_tie {f : Addr} {fd : FuncData} (F : FnP K "_law_tie" s__law_tie f fd) (h : Facts K mg) (hx : PBX.XFacts P K mg T) (k__law_turned : Kn P w K mg base T 1 "_law_turned" ["world", "tie"] m__law_turned) : FnOk P w K mg base (L2.CX P w) 2 f fd ["world", "web", "early", "late"] (spF T K m__law_tie) :=
  fn_big (k := 1) F sc__law_tie rfl rfl fun cdv A outer s H E hr G => (ss_cons (sp_if (st_cmp ob_lt (se_var 2 rfl (by first | exact .inl rfl | exact .inr (.inl rfl) | exact .inr (.inr rfl))) (se_var 3 rfl (by first | exact .inl rfl | exact .inr (.inl rfl) | exact .inr (.inr rfl))) rfl) (ss_one (sp_ret (se_ix G (se_ix G (se_var 1 rfl (by first | exact .inl rfl | exact .inr (.inl rfl) | exact .inr (.inr rfl))) se_int (fun _ _ => rfl)) (se_bin ob_add (se_bin ob_div (se_bin ob_mul (se_var 3 rfl (by first | exact .inl rfl | exact .inr (.inl rfl) | exact .inr (.inr rfl))) (se_bin ob_sub (se_var 3 rfl (by first | exact .inl rfl | exact .inr (.inl rfl) | exact .inr (.inr rfl))) se_int)) se_int) (se_var 2 rfl (by first | exact .inl rfl | exact .inr (.inl rfl) | exact .inr (.inr rfl)))) (fun _ _ => rfl)))) ss_nil)
    (ss_one (sp_ret (se_callK G k__law_turned hr rfl (sa_cons (se_var 0 rfl (by first | exact .inl rfl | exact .inr (.inl rfl) | exact .inr (.inr rfl))) (sa_cons (se_ix G (se_ix G (se_var 1 rfl (by first | exact .inl rfl | exact .inr (.inl rfl) | exact .inr (.inr rfl))) se_int (fun _ _ => rfl)) (se_bin ob_add (se_bin ob_div (se_bin ob_mul (se_var 2 rfl (by first | exact .inl rfl | exact .inr (.inl rfl) | exact .inr (.inr rfl))) (se_bin ob_sub (se_var 2 rfl (by first | exact .inl rfl | exact .inr (.inl rfl) | exact .inr (.inr rfl))) se_int)) se_int) (se_var 3 rfl (by first | exact .inl rfl | exact .inr (.inl rfl) | exact .inr (.inr rfl)))) (fun _ _ => rfl)) sa_nil))))))
noncomputable def m__law_is_of : Fx := fnBody 2 9 (sSeq (sAsg (gNm 2) (eLR1 (eCB (o1 fLen) (aCons (eBin fIx (eVar 1) (eLit (.int 0))) aNil)))) (sSeq (sIf (eBin fEq (eBin fIx (eVar 0) (eLit (.int 0))) (eLit (.str 4705521001015195061105820296020073))) (sForN 2 (gNm 3) (sForN 2 (gNm 4) (sSeq (sIf (eAnd (eBin fNe (eVar 3) (eVar 4)) (eAnd (eBin fEq (eBin fIx (eBin fIx (eVar 1) (eLit (.int 0))) (eVar 3)) (eLit (.int 1))) (eAnd (eBin fEq (eBin fIx (eBin fIx (eVar 1) (eLit (.int 0))) (eVar 4)) (eLit (.int 1))) (eBin fEq (eCall m__law_tie (aCons (eVar 0) (aCons (eVar 1) (aCons (eVar 3) (aCons (eVar 4) aNil))))) (eLit (.int 1)))))) (sRet (eLit (.bl false))) sPass) (sForN 2 (gNm 5) (sIf (eAnd (eBin fEq (eCB (o1 fLen) (aCons (eCB (o1 fDict) (aCons (eLst (aCons (eTup (aCons (eVar 3) (aCons (eLit (.int 0)) aNil))) (aCons (eTup (aCons (eVar 4) (aCons (eLit (.int 0)) aNil))) (aCons (eTup (aCons (eVar 5) (aCons (eLit (.int 0)) aNil))) aNil)))) aNil)) aNil)) (eLit (.int 3))) (eBin fEq (eCall m__law_tie (aCons (eVar 0) (aCons (eVar 1) (aCons (eVar 3) (aCons (eVar 4) aNil))))) (eLit (.int 1)))) (sIf (eAnd (eBin fEq (eCall m__law_tie (aCons (eVar 0) (aCons (eVar 1) (aCons (eVar 4) (aCons (eVar 5) aNil))))) (eLit (.int 1))) (eBin fEq (eCall m__law_tie (aCons (eVar 0) (aCons (eVar 1) (aCons (eVar 3) (aCons (eVar 5) aNil))))) (eLit (.int 0)))) (sRet (eLit (.bl false))) sPass) sPass))))) sPass) (sSeq (sIf (eBin fEq (eBin fIx (eVar 0) (eLit (.int 0))) (eLit (.str 527765795242087))) (sSeq (sAsg (gNm 6) (eComp [3] (iSeq (eVar 2)) (gNm 3) eTrue (eTup (aCons (eVar 3) aNil)))) (sSeq (sFor (iRng1 (eBin fSub (eBin fIx (eVar 0) (eLit (.int 1))) (eLit (.int 1)))) (gNm 7) (sSeq (sAsg (gNm 8) (eLst aNil)) (sSeq (sForN 6 (gNm 9) (sFor (iRng2 (eBin fAdd (eBin fIx (eVar 9) (eUn fNeg (eLit (.int 1)))) (eLit (.int 1))) (eCB (o1 fLen) (aCons (eVar 2) aNil))) (gNm 4) (sIf (eBin fEq (eComp [10] (iSeq (eVar 9)) (gNm 10) (eBin fEq (eCall m__law_tie (aCons (eVar 0) (aCons (eVar 1) (aCons (eVar 10) (aCons (eVar 4) aNil))))) (eLit (.int 0))) (eVar 10)) (eLst aNil)) (sExpr (eMB isLst (on1 fApp) (eVar 8) (aCons (eBin fAdd (eVar 9) (eTup (aCons (eVar 4) aNil))) aNil))) sPass))) (sAsg (gNm 6) (eVar 8))))) (sRet (eBin fEq (eVar 6) (eLst aNil))))) sPass) (sRet (eLit (.bl true))))))
abbrev s__law_is_of : Stmt := top 48
theorem sc__law_is_of : FnScope ["world", "web", "many", "a", "b", "c", "line", "lap", "late", "some", "one"] ["world", "web"] (defScope s__law_is_of) := ⟨rfl, rfl, rfl, by decide +kernel, rfl, by decide +kernel, by decide +kernel⟩
theorem ok__law_is_of {f : Addr} {fd : FuncData} (F : FnP K "_law_is_of" s__law_is_of f fd) (h : Facts K mg) (hx : PBX.XFacts P K mg T) (k__law_tie : Kn P w K mg base T 2 "_law_tie" ["world", "web", "early", "late"] m__law_tie) : FnOk P w K mg base (L2.CX P w) 3 f fd ["world", "web"] (spF T K m__law_is_of) :=
  fn_big (k := 2) F sc__law_is_of rfl rfl fun cdv A outer s H E hr G => (ss_cons (sp_set G 2 rfl (by first | exact .inl rfl | exact .inr rfl) (se_lr1 G rfl h.f_list rfl h.f_range (se_cb cb_len rfl h.f_len boot_len (sa_cons (se_ix G (se_var 1 rfl (by first | exact .inl rfl | exact .inr (.inl rfl) | exact .inr (.inr rfl))) se_int (fun _ _ => rfl)) sa_nil))) rfl (by first | exact .inl rfl | exact .inr rfl))
    (ss_cons (sp_if (st_cmp (ob_eq G.hu) (se_ix G (se_var 0 rfl (by first | exact .inl rfl | exact .inr (.inl rfl) | exact .inr (.inr rfl))) se_int (fun _ _ => rfl)) (se_str 4705521001015195061105820296020073 tx2.1 tx2.2) rfl) (ss_one (sp_forN G (passes_of rfl) 2 rfl (by first | exact .inl rfl | exact .inr (.inl rfl) | exact .inr (.inr rfl)) (sg_name G 3 zAll_set rfl (by first | exact .inl rfl | exact .inr rfl) (by first | exact .inl rfl | exact .inr rfl)) (ss_one (sp_forN G (passes_of rfl) 2 rfl (by first | exact .inl rfl | exact .inr (.inl rfl) | exact .inr (.inr rfl)) (sg_name G 4 zAll_set rfl (by first | exact .inl rfl | exact .inr rfl) (by first | exact .inl rfl | exact .inr rfl)) (ss_cons (sp_if (st_w (sw_and (st_cmp (ob_ne G.hu) (se_var 3 rfl (by first | exact .inl rfl | exact .inr (.inl rfl) | exact .inr (.inr rfl))) (se_var 4 rfl (by first | exact .inl rfl | exact .inr (.inl rfl) | exact .inr (.inr rfl))) rfl) (sw_and (st_cmp (ob_eq G.hu) (se_ix G (se_ix G (se_var 1 rfl (by first | exact .inl rfl | exact .inr (.inl rfl) | exact .inr (.inr rfl))) se_int (fun _ _ => rfl)) (se_var 3 rfl (by first | exact .inl rfl | exact .inr (.inl rfl) | exact .inr (.inr rfl))) (fun _ _ => rfl)) se_int rfl) (sw_and (st_cmp (ob_eq G.hu) (se_ix G (se_ix G (se_var 1 rfl (by first | exact .inl rfl | exact .inr (.inl rfl) | exact .inr (.inr rfl))) se_int (fun _ _ => rfl)) (se_var 4 rfl (by first | exact .inl rfl | exact .inr (.inl rfl) | exact .inr (.inr rfl))) (fun _ _ => rfl)) se_int rfl) (sw_and1 (st_cmp (ob_eq G.hu) (se_callK G k__law_tie hr rfl (sa_cons (se_var 0 rfl (by first | exact .inl rfl | exact .inr (.inl rfl) | exact .inr (.inr rfl))) (sa_cons (se_var 1 rfl (by first | exact .inl rfl | exact .inr (.inl rfl) | exact .inr (.inr rfl))) (sa_cons (se_var 3 rfl (by first | exact .inl rfl | exact .inr (.inl rfl) | exact .inr (.inr rfl))) (sa_cons (se_var 4 rfl (by first | exact .inl rfl | exact .inr (.inl rfl) | exact .inr (.inr rfl))) sa_nil))))) se_int rfl)))))) (ss_one (sp_ret se_bl)) ss_nil)
    (ss_one (sp_forN G (passes_of rfl) 2 rfl (by first | exact .inl rfl | exact .inr (.inl rfl) | exact .inr (.inr rfl)) (sg_name G 5 zAll_set rfl (by first | exact .inl rfl | exact .inr rfl) (by first | exact .inl rfl | exact .inr rfl)) (ss_one (sp_if (st_w (sw_and (st_cmp (ob_eq G.hu) (se_cb cb_len rfl h.f_len boot_len (sa_cons (se_ct (cb_dict G.calm) rfl h.f_dict boot_dict (sa_cons (se_lst (sa_cons (se_tup (sa_cons (se_var 3 rfl (by first | exact .inl rfl | exact .inr (.inl rfl) | exact .inr (.inr rfl))) (sa_cons se_int sa_nil))) (sa_cons (se_tup (sa_cons (se_var 4 rfl (by first | exact .inl rfl | exact .inr (.inl rfl) | exact .inr (.inr rfl))) (sa_cons se_int sa_nil))) (sa_cons (se_tup (sa_cons (se_var 5 rfl (by first | exact .inl rfl | exact .inr (.inl rfl) | exact .inr (.inr rfl))) (sa_cons se_int sa_nil))) sa_nil)))) sa_nil)) sa_nil)) se_int rfl) (sw_and1 (st_cmp (ob_eq G.hu) (se_callK G k__law_tie hr rfl (sa_cons (se_var 0 rfl (by first | exact .inl rfl | exact .inr (.inl rfl) | exact .inr (.inr rfl))) (sa_cons (se_var 1 rfl (by first | exact .inl rfl | exact .inr (.inl rfl) | exact .inr (.inr rfl))) (sa_cons (se_var 3 rfl (by first | exact .inl rfl | exact .inr (.inl rfl) | exact .inr (.inr rfl))) (sa_cons (se_var 4 rfl (by first | exact .inl rfl | exact .inr (.inl rfl) | exact .inr (.inr rfl))) sa_nil))))) se_int rfl)))) (ss_one (sp_if (st_w (sw_and (st_cmp (ob_eq G.hu) (se_callK G k__law_tie hr rfl (sa_cons (se_var 0 rfl (by first | exact .inl rfl | exact .inr (.inl rfl) | exact .inr (.inr rfl))) (sa_cons (se_var 1 rfl (by first | exact .inl rfl | exact .inr (.inl rfl) | exact .inr (.inr rfl))) (sa_cons (se_var 4 rfl (by first | exact .inl rfl | exact .inr (.inl rfl) | exact .inr (.inr rfl))) (sa_cons (se_var 5 rfl (by first | exact .inl rfl | exact .inr (.inl rfl) | exact .inr (.inr rfl))) sa_nil))))) se_int rfl) (sw_and1 (st_cmp (ob_eq G.hu) (se_callK G k__law_tie hr rfl (sa_cons (se_var 0 rfl (by first | exact .inl rfl | exact .inr (.inl rfl) | exact .inr (.inr rfl))) (sa_cons (se_var 1 rfl (by first | exact .inl rfl | exact .inr (.inl rfl) | exact .inr (.inr rfl))) (sa_cons (se_var 3 rfl (by first | exact .inl rfl | exact .inr (.inl rfl) | exact .inr (.inr rfl))) (sa_cons (se_var 5 rfl (by first | exact .inl rfl | exact .inr (.inl rfl) | exact .inr (.inr rfl))) sa_nil))))) se_int rfl)))) (ss_one (sp_ret se_bl)) ss_nil)) ss_nil))))))))) ss_nil)
    (ss_cons (sp_if (st_cmp (ob_eq G.hu) (se_ix G (se_var 0 rfl (by first | exact .inl rfl | exact .inr (.inl rfl) | exact .inr (.inr rfl))) se_int (fun _ _ => rfl)) (se_str 527765795242087 tx3.1 tx3.2) rfl) (ss_cons (by first | exact (sp_setComp G 6 [("a", 3)] rfl rfl (by first | rfl | exact sw_true rfl rfl rfl rfl) (si_seq (se_var 2 rfl (by first | exact .inl rfl | exact .inr (.inl rfl) | exact .inr (.inr rfl)))) (blkOk_by (by kernel_rfl)) (fun s H C cl fp G => by exact (sg_name G 3 (zOwn_set (by decide)) rfl (by first | exact .inl rfl | exact .inr rfl) (by first | exact .inl rfl | exact .inr rfl))) (fun s H C cl fp G => by exact sts_nil) (fun s H C cl fp G => by exact (se_tup (sa_cons (se_var 3 rfl (by first | exact .inl rfl | exact .inr (.inl rfl) | exact .inr (.inr rfl))) sa_nil)))) | exact (sp_set G 6 rfl (by first | exact .inl rfl | exact .inr rfl) (se_comp G [("a", 3)] (si_seq (se_var 2 rfl (by first | exact .inl rfl | exact .inr (.inl rfl) | exact .inr (.inr rfl)))) (blkOk_by (by kernel_rfl)) (fun s H C cl fp G => by exact (sg_name G 3 (zOwn_set (by decide)) rfl (by first | exact .inl rfl | exact .inr rfl) (by first | exact .inl rfl | exact .inr rfl))) (fun s H C cl fp G => by exact sts_nil) (fun s H C cl fp G => by exact (se_tup (sa_cons (se_var 3 rfl (by first | exact .inl rfl | exact .inr (.inl rfl) | exact .inr (.inr rfl))) sa_nil)))) rfl (by first | exact .inl rfl | exact .inr rfl)))
    (ss_cons (sp_for G (passes_of rfl) (si_rng1 rfl h.f_range (sa_cons (se_bin ob_sub (se_ix G (se_var 0 rfl (by first | exact .inl rfl | exact .inr (.inl rfl) | exact .inr (.inr rfl))) se_int (fun _ _ => rfl)) se_int) sa_nil)) (sg_name G 7 zAll_set rfl (by first | exact .inl rfl | exact .inr rfl) (by first | exact .inl rfl | exact .inr rfl)) (ss_cons (sp_set G 8 rfl (by first | exact .inl rfl | exact .inr rfl) (se_lst sa_nil) rfl (by first | exact .inl rfl | exact .inr rfl))
    (ss_cons (sp_forN G (passes_of rfl) 6 rfl (by first | exact .inl rfl | exact .inr (.inl rfl) | exact .inr (.inr rfl)) (sg_name G 9 zAll_set rfl (by first | exact .inl rfl | exact .inr rfl) (by first | exact .inl rfl | exact .inr rfl)) (ss_one (sp_for G (passes_of rfl) (si_rng2 rfl h.f_range (sa_cons (se_bin ob_add (se_ix G (se_var 9 rfl (by first | exact .inl rfl | exact .inr (.inl rfl) | exact .inr (.inr rfl))) (se_un ob_neg se_int) (fun _ _ => rfl)) se_int) (sa_cons (se_cb cb_len rfl h.f_len boot_len (sa_cons (se_var 2 rfl (by first | exact .inl rfl | exact .inr (.inl rfl) | exact .inr (.inr rfl))) sa_nil)) sa_nil))) (sg_name G 4 zAll_set rfl (by first | exact .inl rfl | exact .inr rfl) (by first | exact .inl rfl | exact .inr rfl)) (ss_one (sp_if (st_cmp (ob_eq G.hu) (se_comp G [("one", 10)] (si_seq (se_var 9 rfl (by first | exact .inl rfl | exact .inr (.inl rfl) | exact .inr (.inr rfl)))) (blkOk_by (by kernel_rfl)) (fun s H C cl fp G => by exact (sg_name G 10 (zOwn_set (by decide)) rfl (by first | exact .inl rfl | exact .inr rfl) (by first | exact .inl rfl | exact .inr rfl))) (fun s H C cl fp G => by exact (sts_one (st_cmp (ob_eq G.hu) (se_callK G k__law_tie hr rfl (sa_cons (se_var 0 rfl (by first | exact .inl rfl | exact .inr (.inl rfl) | exact .inr (.inr rfl))) (sa_cons (se_var 1 rfl (by first | exact .inl rfl | exact .inr (.inl rfl) | exact .inr (.inr rfl))) (sa_cons (se_var 10 rfl (by first | exact .inl rfl | exact .inr (.inl rfl) | exact .inr (.inr rfl))) (sa_cons (se_var 4 rfl (by first | exact .inl rfl | exact .inr (.inl rfl) | exact .inr (.inr rfl))) sa_nil))))) se_int rfl))) (fun s H C cl fp G => by exact (se_var 10 rfl (by first | exact .inl rfl | exact .inr (.inl rfl) | exact .inr (.inr rfl))))) (se_lst sa_nil) rfl) (ss_one (sp_expr (se_mbL PySem.F.plainAttrs_list PySem.F.slot_list_append PySem.F.type_list_append mb_app (se_var 8 rfl (by first | exact .inl rfl | exact .inr (.inl rfl) | exact .inr (.inr rfl))) (sa_cons (se_bin ob_add (se_var 9 rfl (by first | exact .inl rfl | exact .inr (.inl rfl) | exact .inr (.inr rfl))) (se_tup (sa_cons (se_var 4 rfl (by first | exact .inl rfl | exact .inr (.inl rfl) | exact .inr (.inr rfl))) sa_nil))) sa_nil)))) ss_nil)))))
    (ss_one (sp_set G 6 rfl (by first | exact .inl rfl | exact .inr rfl) (se_var 8 rfl (by first | exact .inl rfl | exact .inr (.inl rfl) | exact .inr (.inr rfl))) rfl (by first | exact .inl rfl | exact .inr rfl))))))
    (ss_one (sp_ret (se_cmp (ob_eq G.hu) (se_var 6 rfl (by first | exact .inl rfl | exact .inr (.inl rfl) | exact .inr (.inr rfl))) (se_lst sa_nil) rfl))))) ss_nil)
    (ss_one (sp_ret se_bl)))))
noncomputable def m__law_listed : Fx := fnBody 2 10 (sSeq (sPar 2 3 (aCons (eLst (aCons (eTup (aCons (eTup aNil) (aCons (eTup aNil) aNil))) aNil)) (aCons (eIf (eBin fEq (eBin fIx (eVar 0) (eLit (.int 0))) (eLit (.str 2243767252765776071545061481))) (eLit (.int 4)) (eLit (.int 2))) aNil))) (sSeq (sFor (iRng1 (eVar 1)) (gNm 4) (sSeq (sAsg (gNm 5) (eLst aNil)) (sSeq (sForN 2 (gNm 6) (sSeq (sAsg (gNm 7) (eLst (aCons (eTup aNil) aNil))) (sSeq (sFor (iSeq (eBin fIx (eVar 6) (eLit (.int 0)))) (gNm 8) (sSeq (sAsg (gNm 9) (eLst aNil)) (sSeq (sForN 7 (gNm 10) (sAsg (gNm 9) (eBin fAdd (eVar 9) (eComp [11] (iRng1 (eVar 3)) (gNm 11) eTrue (eBin fAdd (eVar 10) (eTup (aCons (eVar 11) aNil))))))) (sAsg (gNm 7) (eVar 9))))) (sAsg (gNm 5) (eBin fAdd (eVar 5) (eComp [10] (iSeq (eVar 7)) (gNm 10) eTrue (eTup (aCons (eBin fAdd (eBin fIx (eVar 6) (eLit (.int 0))) (eTup (aCons (eLit (.int 0)) aNil))) (aCons (eBin fAdd (eBin fIx (eVar 6) (eLit (.int 1))) (eVar 10)) aNil))))))))) (sAsg (gNm 2) (eComp [6] (iSeq (eVar 5)) (gNm 6) (eCall m__law_is_of (aCons (eVar 0) (aCons (eVar 6) aNil))) (eVar 6)))))) (sRet (eCB (o1 fLen) (aCons (eVar 2) aNil)))))
abbrev s__law_listed : Stmt := top 49
theorem sc__law_listed : FnScope ["world", "guests", "line", "few", "lap", "late", "web", "rows", "item", "longer", "row", "tie"] ["world", "guests"] (defScope s__law_listed) := ⟨rfl, rfl, rfl, by decide +kernel, rfl, by decide +kernel, by decide +kernel⟩
theorem ok__law_listed {f : Addr} {fd : FuncData} (F : FnP K "_law_listed" s__law_listed f fd) (h : Facts K mg) (hx : PBX.XFacts P K mg T) (k__law_is_of : Kn P w K mg base T 3 "_law_is_of" ["world", "web"] m__law_is_of) : FnOk P w K mg base (L2.CX P w) 4 f fd ["world", "guests"] (spF T K m__law_listed) :=
  fn_big (k := 3) F sc__law_listed rfl rfl fun cdv A outer s H E hr G => (ss_cons (sp_par G 2 3 rfl rfl (by decide) rfl rfl (sa_cons (se_lst (sa_cons (se_tup (sa_cons (se_tup sa_nil) (sa_cons (se_tup sa_nil) sa_nil))) sa_nil)) (sa_cons (se_if (st_cmp (ob_eq G.hu) (se_ix G (se_var 0 rfl (by first | exact .inl rfl | exact .inr (.inl rfl) | exact .inr (.inr rfl))) se_int (fun _ _ => rfl)) (se_str 2243767252765776071545061481 tx1.1 tx1.2) rfl) se_int se_int) sa_nil)) rfl)
    (ss_cons (sp_for G (passes_of rfl) (si_rng1 rfl h.f_range (sa_cons (se_var 1 rfl (by first | exact .inl rfl | exact .inr (.inl rfl) | exact .inr (.inr rfl))) sa_nil)) (sg_name G 4 zAll_set rfl (by first | exact .inl rfl | exact .inr rfl) (by first | exact .inl rfl | exact .inr rfl)) (ss_cons (sp_set G 5 rfl (by first | exact .inl rfl | exact .inr rfl) (se_lst sa_nil) rfl (by first | exact .inl rfl | exact .inr rfl))
    (ss_cons (sp_forN G (passes_of rfl) 2 rfl (by first | exact .inl rfl | exact .inr (.inl rfl) | exact .inr (.inr rfl)) (sg_name G 6 zAll_set rfl (by first | exact .inl rfl | exact .inr rfl) (by first | exact .inl rfl | exact .inr rfl)) (ss_cons (sp_set G 7 rfl (by first | exact .inl rfl | exact .inr rfl) (se_lst (sa_cons (se_tup sa_nil) sa_nil)) rfl (by first | exact .inl rfl | exact .inr rfl))
    (ss_cons (sp_for G (passes_of rfl) (si_seq (se_ix G (se_var 6 rfl (by first | exact .inl rfl | exact .inr (.inl rfl) | exact .inr (.inr rfl))) se_int (fun _ _ => rfl))) (sg_name G 8 zAll_set rfl (by first | exact .inl rfl | exact .inr rfl) (by first | exact .inl rfl | exact .inr rfl)) (ss_cons (sp_set G 9 rfl (by first | exact .inl rfl | exact .inr rfl) (se_lst sa_nil) rfl (by first | exact .inl rfl | exact .inr rfl))
    (ss_cons (sp_forN G (passes_of rfl) 7 rfl (by first | exact .inl rfl | exact .inr (.inl rfl) | exact .inr (.inr rfl)) (sg_name G 10 zAll_set rfl (by first | exact .inl rfl | exact .inr rfl) (by first | exact .inl rfl | exact .inr rfl)) (ss_one (sp_set G 9 rfl (by first | exact .inl rfl | exact .inr rfl) (se_bin ob_add (se_var 9 rfl (by first | exact .inl rfl | exact .inr (.inl rfl) | exact .inr (.inr rfl))) (se_comp G [("tie", 11)] (si_rng1 rfl h.f_range (sa_cons (se_var 3 rfl (by first | exact .inl rfl | exact .inr (.inl rfl) | exact .inr (.inr rfl))) sa_nil)) (blkOk_by (by kernel_rfl)) (fun s H C cl fp G => by exact (sg_name G 11 (zOwn_set (by decide)) rfl (by first | exact .inl rfl | exact .inr rfl) (by first | exact .inl rfl | exact .inr rfl))) (fun s H C cl fp G => by exact sts_nil) (fun s H C cl fp G => by exact (se_bin ob_add (se_var 10 rfl (by first | exact .inl rfl | exact .inr (.inl rfl) | exact .inr (.inr rfl))) (se_tup (sa_cons (se_var 11 rfl (by first | exact .inl rfl | exact .inr (.inl rfl) | exact .inr (.inr rfl))) sa_nil)))))) rfl (by first | exact .inl rfl | exact .inr rfl))))
    (ss_one (sp_set G 7 rfl (by first | exact .inl rfl | exact .inr rfl) (se_var 9 rfl (by first | exact .inl rfl | exact .inr (.inl rfl) | exact .inr (.inr rfl))) rfl (by first | exact .inl rfl | exact .inr rfl))))))
    (ss_one (sp_set G 5 rfl (by first | exact .inl rfl | exact .inr rfl) (se_bin ob_add (se_var 5 rfl (by first | exact .inl rfl | exact .inr (.inl rfl) | exact .inr (.inr rfl))) (se_comp G [("row", 10)] (si_seq (se_var 7 rfl (by first | exact .inl rfl | exact .inr (.inl rfl) | exact .inr (.inr rfl)))) (blkOk_by (by kernel_rfl)) (fun s H C cl fp G => by exact (sg_name G 10 (zOwn_set (by decide)) rfl (by first | exact .inl rfl | exact .inr rfl) (by first | exact .inl rfl | exact .inr rfl))) (fun s H C cl fp G => by exact sts_nil) (fun s H C cl fp G => by exact (se_tup (sa_cons (se_bin ob_add (se_ix G (se_var 6 rfl (by first | exact .inl rfl | exact .inr (.inl rfl) | exact .inr (.inr rfl))) se_int (fun _ _ => rfl)) (se_tup (sa_cons se_int sa_nil))) (sa_cons (se_bin ob_add (se_ix G (se_var 6 rfl (by first | exact .inl rfl | exact .inr (.inl rfl) | exact .inr (.inr rfl))) se_int (fun _ _ => rfl)) (se_var 10 rfl (by first | exact .inl rfl | exact .inr (.inl rfl) | exact .inr (.inr rfl)))) sa_nil)))))) rfl (by first | exact .inl rfl | exact .inr rfl))))))
    (ss_one (by first | exact (sp_setComp G 2 [("web", 6)] rfl rfl (by first | rfl | exact sw_true rfl rfl rfl rfl) (si_seq (se_var 5 rfl (by first | exact .inl rfl | exact .inr (.inl rfl) | exact .inr (.inr rfl)))) (blkOk_by (by kernel_rfl)) (fun s H C cl fp G => by exact (sg_name G 6 (zOwn_set (by decide)) rfl (by first | exact .inl rfl | exact .inr rfl) (by first | exact .inl rfl | exact .inr rfl))) (fun s H C cl fp G => by exact (sts_one (st_val (se_callK G k__law_is_of hr rfl (sa_cons (se_var 0 rfl (by first | exact .inl rfl | exact .inr (.inl rfl) | exact .inr (.inr rfl))) (sa_cons (se_var 6 rfl (by first | exact .inl rfl | exact .inr (.inl rfl) | exact .inr (.inr rfl))) sa_nil))) (fun _ => rfl)))) (fun s H C cl fp G => by exact (se_var 6 rfl (by first | exact .inl rfl | exact .inr (.inl rfl) | exact .inr (.inr rfl))))) | exact (sp_set G 2 rfl (by first | exact .inl rfl | exact .inr rfl) (se_comp G [("web", 6)] (si_seq (se_var 5 rfl (by first | exact .inl rfl | exact .inr (.inl rfl) | exact .inr (.inr rfl)))) (blkOk_by (by kernel_rfl)) (fun s H C cl fp G => by exact (sg_name G 6 (zOwn_set (by decide)) rfl (by first | exact .inl rfl | exact .inr rfl) (by first | exact .inl rfl | exact .inr rfl))) (fun s H C cl fp G => by exact (sts_one (st_val (se_callK G k__law_is_of hr rfl (sa_cons (se_var 0 rfl (by first | exact .inl rfl | exact .inr (.inl rfl) | exact .inr (.inr rfl))) (sa_cons (se_var 6 rfl (by first | exact .inl rfl | exact .inr (.inl rfl) | exact .inr (.inr rfl))) sa_nil))) (fun _ => rfl)))) (fun s H C cl fp G => by exact (se_var 6 rfl (by first | exact .inl rfl | exact .inr (.inl rfl) | exact .inr (.inr rfl))))) rfl (by first | exact .inl rfl | exact .inr rfl)))))))
    (ss_one (sp_ret (se_cb cb_len rfl h.f_len boot_len (sa_cons (se_var 2 rfl (by first | exact .inl rfl | exact .inr (.inl rfl) | exact .inr (.inr rfl))) sa_nil))))))
noncomputable def m__law_power : Fx := fnBody 2 2 (sSeq (sAsg (gNm 2) (eLit (.int 1))) (sSeq (sFor (iRng1 (eVar 1)) (gNm 3) (sAsg (gNm 2) (eBin fMul (eVar 2) (eVar 0)))) (sRet (eVar 2))))
abbrev s__law_power : Stmt := top 51
theorem sc__law_power : FnScope ["number", "times", "found", "lap"] ["number", "times"] (defScope s__law_power) := ⟨rfl, rfl, rfl, by decide +kernel, rfl, by decide +kernel, by decide +kernel⟩
theorem ok__law_power {f : Addr} {fd : FuncData} (F : FnP K "_law_power" s__law_power f fd) (h : Facts K mg) (hx : PBX.XFacts P K mg T)  : FnOk P w K mg base (L2.CX P w) 1 f fd ["number", "times"] (spF T K m__law_power) :=
  fn_big (k := 0) F sc__law_power rfl rfl fun cdv A outer s H E hr G => (ss_cons (sp_set G 2 rfl (by first | exact .inl rfl | exact .inr rfl) se_int rfl (by first | exact .inl rfl | exact .inr rfl))
    (ss_cons (sp_for G (passes_of rfl) (si_rng1 rfl h.f_range (sa_cons (se_var 1 rfl (by first | exact .inl rfl | exact .inr (.inl rfl) | exact .inr (.inr rfl))) sa_nil)) (sg_name G 3 zAll_set rfl (by first | exact .inl rfl | exact .inr rfl) (by first | exact .inl rfl | exact .inr rfl)) (ss_one (sp_set G 2 rfl (by first | exact .inl rfl | exact .inr rfl) (se_bin ob_mul (se_var 2 rfl (by first | exact .inl rfl | exact .inr (.inl rfl) | exact .inr (.inr rfl))) (se_var 0 rfl (by first | exact .inl rfl | exact .inr (.inl rfl) | exact .inr (.inr rfl)))) rfl (by first | exact .inl rfl | exact .inr rfl))))
    (ss_one (sp_ret (se_var 2 rfl (by first | exact .inl rfl | exact .inr (.inl rfl) | exact .inr (.inr rfl)))))))
noncomputable def m__law_worlds : Fx := fnBody 0 0 (sRet (eLst (aCons (eTup (aCons (eLit (.str 536561907138658)) (aCons (eLit (.int 0)) aNil))) (aCons (eTup (aCons (eLit (.str 527765795242087)) (aCons (eLit (.int 3)) aNil))) (aCons (eTup (aCons (eLit (.str 527765795242087)) (aCons (eLit (.int 4)) aNil))) (aCons (eTup (aCons (eLit (.str 2243767400339711069035429987)) (aCons (eLit (.int 0)) aNil))) (aCons (eTup (aCons (eLit (.str 2243767252765776071545061481)) (aCons (eLit (.int 0)) aNil))) (aCons (eTup (aCons (eLit (.str 4705521001015195061105820296020073)) (aCons (eLit (.int 0)) aNil))) aNil))))))))
abbrev s__law_worlds : Stmt := top 45
theorem sc__law_worlds : FnScope [] [] (defScope s__law_worlds) := ⟨rfl, rfl, rfl, by decide +kernel, rfl, by decide +kernel, by decide +kernel⟩
theorem ok__law_worlds {f : Addr} {fd : FuncData} (F : FnP K "_law_worlds" s__law_worlds f fd) (h : Facts K mg) (hx : PBX.XFacts P K mg T)  : FnOk P w K mg base (L2.CX P w) 1 f fd [] (spF T K m__law_worlds) :=
  fn_big (k := 0) F sc__law_worlds rfl rfl fun cdv A outer s H E hr G => (ss_one (sp_ret (se_lst (sa_cons (se_tup (sa_cons (se_str 536561907138658 tx4.1 tx4.2) (sa_cons se_int sa_nil))) (sa_cons (se_tup (sa_cons (se_str 527765795242087 tx3.1 tx3.2) (sa_cons se_int sa_nil))) (sa_cons (se_tup (sa_cons (se_str 527765795242087 tx3.1 tx3.2) (sa_cons se_int sa_nil))) (sa_cons (se_tup (sa_cons (se_str 2243767400339711069035429987 tx0.1 tx0.2) (sa_cons se_int sa_nil))) (sa_cons (se_tup (sa_cons (se_str 2243767252765776071545061481 tx1.1 tx1.2) (sa_cons se_int sa_nil))) (sa_cons (se_tup (sa_cons (se_str 4705521001015195061105820296020073 tx2.1 tx2.2) (sa_cons se_int sa_nil))) sa_nil)))))))))
noncomputable def m_web_with : Fx := fnBody 3 0 (sRet (eTup (aCons (eTup (aStar (eBin fIx (eVar 0) (eLit (.int 0))) (aCons (eVar 1) aNil))) (aCons (eTup (aStar (eBin fIx (eVar 0) (eLit (.int 1))) (aStar (eVar 2) aNil))) aNil))))
abbrev s_web_with : Stmt := top 18
theorem sc_web_with : FnScope ["web", "sort", "ties"] ["web", "sort", "ties"] (defScope s_web_with) := ⟨rfl, rfl, rfl, by decide +kernel, rfl, by decide +kernel, by decide +kernel⟩
theorem ok_web_with {f : Addr} {fd : FuncData} (F : FnP K "web_with" s_web_with f fd) (h : Facts K mg) (hx : PBX.XFacts P K mg T)  : FnOk P w K mg base (L2.CX P w) 1 f fd ["web", "sort", "ties"] (spF T K m_web_with) :=
  fn_big (k := 0) F sc_web_with rfl rfl fun cdv A outer s H E hr G => (ss_one (sp_ret (se_tup (sa_cons (se_tup (sa_star (se_ix G (se_var 0 rfl (by first | exact .inl rfl | exact .inr (.inl rfl) | exact .inr (.inr rfl))) se_int (fun _ _ => rfl)) (sa_cons (se_var 1 rfl (by first | exact .inl rfl | exact .inr (.inl rfl) | exact .inr (.inr rfl))) sa_nil))) (sa_cons (se_tup (sa_star (se_ix G (se_var 0 rfl (by first | exact .inl rfl | exact .inr (.inl rfl) | exact .inr (.inr rfl))) se_int (fun _ _ => rfl)) (sa_star (se_var 2 rfl (by first | exact .inl rfl | exact .inr (.inl rfl) | exact .inr (.inr rfl))) sa_nil))) sa_nil)))))
noncomputable def m_tie_turned : Fx := fnBody 2 0 (sSeq (sIf (eBin fEq (eBin fIx (eVar 0) (eLit (.int 0))) (eLit (.str 2243767400339711069035429987))) (sRet (eBin fSub (eLit (.int 1)) (eVar 1))) sPass) (sRet (eIf (eBin fEq (eBin fIx (eVar 0) (eLit (.int 0))) (eLit (.str 2243767252765776071545061481))) (eBin fIx (eLit (.tup [(.int 0), (.int 2), (.int 1), (.int 3)])) (eVar 1)) (eVar 1))))
abbrev s_tie_turned : Stmt := top 11
theorem sc_tie_turned : FnScope ["world", "tie"] ["world", "tie"] (defScope s_tie_turned) := ⟨rfl, rfl, rfl, by decide +kernel, rfl, by decide +kernel, by decide +kernel⟩
theorem ok_tie_turned {f : Addr} {fd : FuncData} (F : FnP K "tie_turned" s_tie_turned f fd) (h : Facts K mg) (hx : PBX.XFacts P K mg T)  : FnOk P w K mg base (L2.CX P w) 1 f fd ["world", "tie"] (spF T K m_tie_turned) :=
  fn_big (k := 0) F sc_tie_turned rfl rfl fun cdv A outer s H E hr G => (ss_cons (sp_if (st_cmp (ob_eq G.hu) (se_ix G (se_var 0 rfl (by first | exact .inl rfl | exact .inr (.inl rfl) | exact .inr (.inr rfl))) se_int (fun _ _ => rfl)) (se_glc (h.c_BEATS) rfl) rfl) (ss_one (sp_ret (se_bin ob_sub se_int (se_var 1 rfl (by first | exact .inl rfl | exact .inr (.inl rfl) | exact .inr (.inr rfl)))))) ss_nil)
    (ss_one (sp_ret (se_if (st_cmp (ob_eq G.hu) (se_ix G (se_var 0 rfl (by first | exact .inl rfl | exact .inr (.inl rfl) | exact .inr (.inr rfl))) se_int (fun _ _ => rfl)) (se_glc (h.c_HEEDS) rfl) rfl) (se_ix G (se_glc (h.c_TURNED_HEEDS) rfl) (se_var 1 rfl (by first | exact .inl rfl | exact .inr (.inl rfl) | exact .inr (.inr rfl))) (fun _ _ => rfl)) (se_var 1 rfl (by first | exact .inl rfl | exact .inr (.inl rfl) | exact .inr (.inr rfl)))))))
noncomputable def m_pair_place : Fx := fnBody 2 0 (sRet (eBin fAdd (eBin fDiv (eBin fMul (eVar 1) (eBin fSub (eVar 1) (eLit (.int 1)))) (eLit (.int 2))) (eVar 0)))
abbrev s_pair_place : Stmt := top 16
theorem sc_pair_place : FnScope ["early", "late"] ["early", "late"] (defScope s_pair_place) := ⟨rfl, rfl, rfl, by decide +kernel, rfl, by decide +kernel, by decide +kernel⟩
theorem ok_pair_place {f : Addr} {fd : FuncData} (F : FnP K "pair_place" s_pair_place f fd) (h : Facts K mg) (hx : PBX.XFacts P K mg T)  : FnOk P w K mg base (L2.CX P w) 1 f fd ["early", "late"] (spF T K m_pair_place) :=
  fn_big (k := 0) F sc_pair_place rfl rfl fun cdv A outer s H E hr G => (ss_one (sp_ret (se_bin ob_add (se_bin ob_div (se_bin ob_mul (se_var 1 rfl (by first | exact .inl rfl | exact .inr (.inl rfl) | exact .inr (.inr rfl))) (se_bin ob_sub (se_var 1 rfl (by first | exact .inl rfl | exact .inr (.inl rfl) | exact .inr (.inr rfl))) se_int)) se_int) (se_var 0 rfl (by first | exact .inl rfl | exact .inr (.inl rfl) | exact .inr (.inr rfl))))))
noncomputable def m_tie_seen : Fx := fnBody 4 0 (sSeq (sIf (eBin fLt (eVar 2) (eVar 3)) (sRet (eBin fIx (eBin fIx (eVar 1) (eLit (.int 1))) (eCall m_pair_place (aCons (eVar 2) (aCons (eVar 3) aNil))))) sPass) (sRet (eCall m_tie_turned (aCons (eVar 0) (aCons (eBin fIx (eBin fIx (eVar 1) (eLit (.int 1))) (eCall m_pair_place (aCons (eVar 3) (aCons (eVar 2) aNil)))) aNil)))))
abbrev s_tie_seen : Stmt := top 17
theorem sc_tie_seen : FnScope ["world", "web", "one", "other"] ["world", "web", "one", "other"] (defScope s_tie_seen) := ⟨rfl, rfl, rfl, by decide +kernel, rfl, by decide +kernel, by decide +kernel⟩
theorem ok_tie_seen {f : Addr} {fd : FuncData} (F : FnP K "tie_seen" s_tie_seen f fd) (h : Facts K mg) (hx : PBX.XFacts P K mg T) (k_pair_place : Kn P w K mg base T 1 "pair_place" ["early", "late"] m_pair_place) (k_tie_turned : Kn P w K mg base T 1 "tie_turned" ["world", "tie"] m_tie_turned) : FnOk P w K mg base (L2.CX P w) 2 f fd ["world", "web", "one", "other"] (spF T K m_tie_seen) :=
  fn_big (k := 1) F sc_tie_seen rfl rfl fun cdv A outer s H E hr G => (ss_cons (sp_if (st_cmp ob_lt (se_var 2 rfl (by first | exact .inl rfl | exact .inr (.inl rfl) | exact .inr (.inr rfl))) (se_var 3 rfl (by first | exact .inl rfl | exact .inr (.inl rfl) | exact .inr (.inr rfl))) rfl) (ss_one (sp_ret (se_ix G (se_ix G (se_var 1 rfl (by first | exact .inl rfl | exact .inr (.inl rfl) | exact .inr (.inr rfl))) se_int (fun _ _ => rfl)) (se_callK G k_pair_place hr rfl (sa_cons (se_var 2 rfl (by first | exact .inl rfl | exact .inr (.inl rfl) | exact .inr (.inr rfl))) (sa_cons (se_var 3 rfl (by first | exact .inl rfl | exact .inr (.inl rfl) | exact .inr (.inr rfl))) sa_nil))) (fun _ _ => rfl)))) ss_nil)
    (ss_one (sp_ret (se_callK G k_tie_turned hr rfl (sa_cons (se_var 0 rfl (by first | exact .inl rfl | exact .inr (.inl rfl) | exact .inr (.inr rfl))) (sa_cons (se_ix G (se_ix G (se_var 1 rfl (by first | exact .inl rfl | exact .inr (.inl rfl) | exact .inr (.inr rfl))) se_int (fun _ _ => rfl)) (se_callK G k_pair_place hr rfl (sa_cons (se_var 3 rfl (by first | exact .inl rfl | exact .inr (.inl rfl) | exact .inr (.inr rfl))) (sa_cons (se_var 2 rfl (by first | exact .inl rfl | exact .inr (.inl rfl) | exact .inr (.inr rfl))) sa_nil))) (fun _ _ => rfl)) sa_nil))))))
noncomputable def m_of_house : Fx := fnBody 3 1 (sRet (eComp [3] (iRng1 (eCB (o1 fLen) (aCons (eBin fIx (eVar 1) (eLit (.int 0))) aNil))) (gNm 3) (eOr (eBin fEq (eVar 3) (eVar 2)) (eBin fEq (eCall m_tie_seen (aCons (eVar 0) (aCons (eVar 1) (aCons (eVar 3) (aCons (eVar 2) aNil))))) (eLit (.int 1)))) (eVar 3)))
abbrev s_of_house : Stmt := top 20
theorem sc_of_house : FnScope ["world", "web", "item", "one"] ["world", "web", "item"] (defScope s_of_house) := ⟨rfl, rfl, rfl, by decide +kernel, rfl, by decide +kernel, by decide +kernel⟩
theorem ok_of_house {f : Addr} {fd : FuncData} (F : FnP K "of_house" s_of_house f fd) (h : Facts K mg) (hx : PBX.XFacts P K mg T) (k_tie_seen : Kn P w K mg base T 2 "tie_seen" ["world", "web", "one", "other"] m_tie_seen) : FnOk P w K mg base (L2.CX P w) 3 f fd ["world", "web", "item"] (spF T K m_of_house) :=
  fn_big (k := 2) F sc_of_house rfl rfl fun cdv A outer s H E hr G => (ss_one (sp_ret (se_comp G [("one", 3)] (si_rng1 rfl h.f_range (sa_cons (se_cb cb_len rfl h.f_len boot_len (sa_cons (se_ix G (se_var 1 rfl (by first | exact .inl rfl | exact .inr (.inl rfl) | exact .inr (.inr rfl))) se_int (fun _ _ => rfl)) sa_nil)) sa_nil)) (blkOk_by (by kernel_rfl)) (fun s H C cl fp G => by exact (sg_name G 3 (zOwn_set (by decide)) rfl (by first | exact .inl rfl | exact .inr rfl) (by first | exact .inl rfl | exact .inr rfl))) (fun s H C cl fp G => by exact (sts_one (st_w (sw_or (st_cmp (ob_eq G.hu) (se_var 3 rfl (by first | exact .inl rfl | exact .inr (.inl rfl) | exact .inr (.inr rfl))) (se_var 2 rfl (by first | exact .inl rfl | exact .inr (.inl rfl) | exact .inr (.inr rfl))) rfl) (sw_or1 (st_cmp (ob_eq G.hu) (se_callK G k_tie_seen hr rfl (sa_cons (se_var 0 rfl (by first | exact .inl rfl | exact .inr (.inl rfl) | exact .inr (.inr rfl))) (sa_cons (se_var 1 rfl (by first | exact .inl rfl | exact .inr (.inl rfl) | exact .inr (.inr rfl))) (sa_cons (se_var 3 rfl (by first | exact .inl rfl | exact .inr (.inl rfl) | exact .inr (.inr rfl))) (sa_cons (se_var 2 rfl (by first | exact .inl rfl | exact .inr (.inl rfl) | exact .inr (.inr rfl))) sa_nil))))) se_int rfl)))))) (fun s H C cl fp G => by exact (se_var 3 rfl (by first | exact .inl rfl | exact .inr (.inl rfl) | exact .inr (.inr rfl)))))))
noncomputable def m_has_tied : Fx := fnBody 4 7 (sSeq (sAsg (gNm 4) (eLst (aCons (eTup aNil) aNil))) (sSeq (sFor (iRng1 (eVar 3)) (gNm 5) (sSeq (sAsg (gNm 6) (eLst aNil)) (sSeq (sForN 4 (gNm 7) (sSeq (sAsg (gNm 8) (eIf (eBin fNe (eVar 7) (eTup aNil)) (eSl (eVar 2) (pSome (eBin fAdd (eMB isLst (on1 fIndex) (eVar 2) (aCons (eBin fIx (eVar 7) (eUn fNeg (eLit (.int 1)))) aNil)) (eLit (.int 1)))) pNone) (eVar 2))) (sForN 8 (gNm 9) (sIf (eCB (o1 fAll) (aCons (eComp [10] (iSeq (eVar 7)) (gNm 10) eTrue (eBin fEq (eCall m_tie_seen (aCons (eVar 0) (aCons (eVar 1) (aCons (eVar 10) (aCons (eVar 9) aNil))))) (eLit (.int 1)))) aNil)) (sExpr (eMB isLst (on1 fApp) (eVar 6) (aCons (eTup (aStar (eVar 7) (aCons (eVar 9) aNil))) aNil))) sPass)))) (sAsg (gNm 4) (eVar 6))))) (sRet (eBin fNe (eVar 4) (eLst aNil)))))
abbrev s_has_tied : Stmt := top 19
theorem sc_has_tied : FnScope ["world", "web", "guests", "many", "found", "lap", "late", "some", "ahead", "one", "other"] ["world", "web", "guests", "many"] (defScope s_has_tied) := ⟨rfl, rfl, rfl, by decide +kernel, rfl, by decide +kernel, by decide +kernel⟩
theorem ok_has_tied {f : Addr} {fd : FuncData} (F : FnP K "has_tied" s_has_tied f fd) (h : Facts K mg) (hx : PBX.XFacts P K mg T) (k_tie_seen : Kn P w K mg base T 2 "tie_seen" ["world", "web", "one", "other"] m_tie_seen) : FnOk P w K mg base (L2.CX P w) 3 f fd ["world", "web", "guests", "many"] (spF T K m_has_tied) :=
  fn_big (k := 2) F sc_has_tied rfl rfl fun cdv A outer s H E hr G => (ss_cons (sp_set G 4 rfl (by first | exact .inl rfl | exact .inr rfl) (se_lst (sa_cons (se_tup sa_nil) sa_nil)) rfl (by first | exact .inl rfl | exact .inr rfl))
    (ss_cons (sp_for G (passes_of rfl) (si_rng1 rfl h.f_range (sa_cons (se_var 3 rfl (by first | exact .inl rfl | exact .inr (.inl rfl) | exact .inr (.inr rfl))) sa_nil)) (sg_name G 5 zAll_set rfl (by first | exact .inl rfl | exact .inr rfl) (by first | exact .inl rfl | exact .inr rfl)) (ss_cons (sp_set G 6 rfl (by first | exact .inl rfl | exact .inr rfl) (se_lst sa_nil) rfl (by first | exact .inl rfl | exact .inr rfl))
    (ss_cons (sp_forN G (passes_of rfl) 4 rfl (by first | exact .inl rfl | exact .inr (.inl rfl) | exact .inr (.inr rfl)) (sg_name G 7 zAll_set rfl (by first | exact .inl rfl | exact .inr rfl) (by first | exact .inl rfl | exact .inr rfl)) (ss_cons (sp_set G 8 rfl (by first | exact .inl rfl | exact .inr rfl) (se_if (st_cmp (ob_ne G.hu) (se_var 7 rfl (by first | exact .inl rfl | exact .inr (.inl rfl) | exact .inr (.inr rfl))) (se_tup sa_nil) rfl) (se_slice (se_var 2 rfl (by first | exact .inl rfl | exact .inr (.inl rfl) | exact .inr (.inr rfl))) (so_some (se_bin ob_add (se_mbL PySem.F.plainAttrs_list PySem.F.slot_list_index PySem.F.type_list_index (mb_index G.hu) (se_var 2 rfl (by first | exact .inl rfl | exact .inr (.inl rfl) | exact .inr (.inr rfl))) (sa_cons (se_ix G (se_var 7 rfl (by first | exact .inl rfl | exact .inr (.inl rfl) | exact .inr (.inr rfl))) (se_un ob_neg se_int) (fun _ _ => rfl)) sa_nil)) se_int)) so_none) (se_var 2 rfl (by first | exact .inl rfl | exact .inr (.inl rfl) | exact .inr (.inr rfl)))) rfl (by first | exact .inl rfl | exact .inr rfl))
    (ss_one (sp_forN G (passes_of rfl) 8 rfl (by first | exact .inl rfl | exact .inr (.inl rfl) | exact .inr (.inr rfl)) (sg_name G 9 zAll_set rfl (by first | exact .inl rfl | exact .inr rfl) (by first | exact .inl rfl | exact .inr rfl)) (ss_one (sp_if (st_val (se_cb (cb_all G.calm) rfl h.f_all boot_all (sa_cons (se_comp G [("other", 10)] (si_seq (se_var 7 rfl (by first | exact .inl rfl | exact .inr (.inl rfl) | exact .inr (.inr rfl)))) (blkOk_by (by kernel_rfl)) (fun s H C cl fp G => by exact (sg_name G 10 (zOwn_set (by decide)) rfl (by first | exact .inl rfl | exact .inr rfl) (by first | exact .inl rfl | exact .inr rfl))) (fun s H C cl fp G => by exact sts_nil) (fun s H C cl fp G => by exact (se_cmp (ob_eq G.hu) (se_callK G k_tie_seen hr rfl (sa_cons (se_var 0 rfl (by first | exact .inl rfl | exact .inr (.inl rfl) | exact .inr (.inr rfl))) (sa_cons (se_var 1 rfl (by first | exact .inl rfl | exact .inr (.inl rfl) | exact .inr (.inr rfl))) (sa_cons (se_var 10 rfl (by first | exact .inl rfl | exact .inr (.inl rfl) | exact .inr (.inr rfl))) (sa_cons (se_var 9 rfl (by first | exact .inl rfl | exact .inr (.inl rfl) | exact .inr (.inr rfl))) sa_nil))))) se_int rfl))) sa_nil)) (fun _ => rfl)) (ss_one (sp_expr (se_mbL PySem.F.plainAttrs_list PySem.F.slot_list_append PySem.F.type_list_append mb_app (se_var 6 rfl (by first | exact .inl rfl | exact .inr (.inl rfl) | exact .inr (.inr rfl))) (sa_cons (se_tup (sa_star (se_var 7 rfl (by first | exact .inl rfl | exact .inr (.inl rfl) | exact .inr (.inr rfl))) (sa_cons (se_var 9 rfl (by first | exact .inl rfl | exact .inr (.inl rfl) | exact .inr (.inr rfl))) sa_nil))) sa_nil)))) ss_nil))))))
    (ss_one (sp_set G 4 rfl (by first | exact .inl rfl | exact .inr rfl) (se_var 6 rfl (by first | exact .inl rfl | exact .inr (.inl rfl) | exact .inr (.inr rfl))) rfl (by first | exact .inl rfl | exact .inr rfl))))))
    (ss_one (sp_ret (se_cmp (ob_ne G.hu) (se_var 4 rfl (by first | exact .inl rfl | exact .inr (.inl rfl) | exact .inr (.inr rfl))) (se_lst sa_nil) rfl)))))
noncomputable def m_may_come : Fx := fnBody 4 3 (sSeq (sAsg (gNm 4) (eComp [5, 6] (iEnum (eVar 3)) (gTp 2 (gsCons (gNm 5) (gsCons (gNm 6) gsNil))) (eBin fEq (eVar 6) (eLit (.int 1))) (eVar 5))) (sSeq (sIf (eBin fEq (eBin fIx (eVar 0) (eLit (.int 0))) (eLit (.str 527765795242087))) (sRet (eUn fNot (eCall m_has_tied (aCons (eVar 0) (aCons (eVar 1) (aCons (eVar 4) (aCons (eBin fSub (eBin fIx (eVar 0) (eLit (.int 1))) (eLit (.int 1))) aNil))))))) sPass) (sSeq (sIf (eOr (eBin fNe (eBin fIx (eVar 0) (eLit (.int 0))) (eLit (.str 4705521001015195061105820296020073))) (eBin fEq (eVar 4) (eLst aNil))) (sRet (eLit (.bl true))) sPass) (sSeq (sIf (eAnd (eBin fEq (eVar 2) (eLit (.int 1))) (eBin fIn (eLit (.int 1)) (eComp [5] (iSeq (eVar 4)) (gNm 5) eTrue (eBin fIx (eBin fIx (eVar 1) (eLit (.int 0))) (eVar 5))))) (sRet (eLit (.bl false))) sPass) (sRet (eBin fEq (eCall m_of_house (aCons (eVar 0) (aCons (eVar 1) (aCons (eBin fIx (eVar 4) (eLit (.int 0))) aNil)))) (eVar 4)))))))
abbrev s_may_come : Stmt := top 21
theorem sc_may_come : FnScope ["world", "web", "sort", "ties", "tied", "item", "tie"] ["world", "web", "sort", "ties"] (defScope s_may_come) := ⟨rfl, rfl, rfl, by decide +kernel, rfl, by decide +kernel, by decide +kernel⟩
theorem ok_may_come {f : Addr} {fd : FuncData} (F : FnP K "may_come" s_may_come f fd) (h : Facts K mg) (hx : PBX.XFacts P K mg T) (k_has_tied : Kn P w K mg base T 3 "has_tied" ["world", "web", "guests", "many"] m_has_tied) (k_of_house : Kn P w K mg base T 3 "of_house" ["world", "web", "item"] m_of_house) : FnOk P w K mg base (L2.CX P w) 4 f fd ["world", "web", "sort", "ties"] (spF T K m_may_come) :=
  fn_big (k := 3) F sc_may_come rfl rfl fun cdv A outer s H E hr G => (ss_cons (by first | exact (sp_setComp G 4 [("item", 5), ("tie", 6)] rfl rfl (by first | rfl | exact sw_true rfl rfl rfl rfl) (si_enum rfl h.f_enumerate (se_var 3 rfl (by first | exact .inl rfl | exact .inr (.inl rfl) | exact .inr (.inr rfl))) rfl (sa_cons (se_var 3 rfl (by first | exact .inl rfl | exact .inr (.inl rfl) | exact .inr (.inr rfl))) sa_nil)) (blkOk_by (by kernel_rfl)) (fun s H C cl fp G => by exact (sg_tup G (sgs_cons zOwn_ok (sg_name G 5 (zOwn_set (by decide)) rfl (by first | exact .inl rfl | exact .inr rfl) (by first | exact .inl rfl | exact .inr rfl)) (sgs_cons zOwn_ok (sg_name G 6 (zOwn_set (by decide)) rfl (by first | exact .inl rfl | exact .inr rfl) (by first | exact .inl rfl | exact .inr rfl)) (sgs_nil zOwn_ok))))) (fun s H C cl fp G => by exact (sts_one (st_cmp (ob_eq G.hu) (se_var 6 rfl (by first | exact .inl rfl | exact .inr (.inl rfl) | exact .inr (.inr rfl))) se_int rfl))) (fun s H C cl fp G => by exact (se_var 5 rfl (by first | exact .inl rfl | exact .inr (.inl rfl) | exact .inr (.inr rfl))))) | exact (sp_set G 4 rfl (by first | exact .inl rfl | exact .inr rfl) (se_comp G [("item", 5), ("tie", 6)] (si_enum rfl h.f_enumerate (se_var 3 rfl (by first | exact .inl rfl | exact .inr (.inl rfl) | exact .inr (.inr rfl))) rfl (sa_cons (se_var 3 rfl (by first | exact .inl rfl | exact .inr (.inl rfl) | exact .inr (.inr rfl))) sa_nil)) (blkOk_by (by kernel_rfl)) (fun s H C cl fp G => by exact (sg_tup G (sgs_cons zOwn_ok (sg_name G 5 (zOwn_set (by decide)) rfl (by first | exact .inl rfl | exact .inr rfl) (by first | exact .inl rfl | exact .inr rfl)) (sgs_cons zOwn_ok (sg_name G 6 (zOwn_set (by decide)) rfl (by first | exact .inl rfl | exact .inr rfl) (by first | exact .inl rfl | exact .inr rfl)) (sgs_nil zOwn_ok))))) (fun s H C cl fp G => by exact (sts_one (st_cmp (ob_eq G.hu) (se_var 6 rfl (by first | exact .inl rfl | exact .inr (.inl rfl) | exact .inr (.inr rfl))) se_int rfl))) (fun s H C cl fp G => by exact (se_var 5 rfl (by first | exact .inl rfl | exact .inr (.inl rfl) | exact .inr (.inr rfl))))) rfl (by first | exact .inl rfl | exact .inr rfl)))
    (ss_cons (sp_if (st_cmp (ob_eq G.hu) (se_ix G (se_var 0 rfl (by first | exact .inl rfl | exact .inr (.inl rfl) | exact .inr (.inr rfl))) se_int (fun _ _ => rfl)) (se_glc (h.c_FEW) rfl) rfl) (ss_one (sp_ret (se_not (se_callK G k_has_tied hr rfl (sa_cons (se_var 0 rfl (by first | exact .inl rfl | exact .inr (.inl rfl) | exact .inr (.inr rfl))) (sa_cons (se_var 1 rfl (by first | exact .inl rfl | exact .inr (.inl rfl) | exact .inr (.inr rfl))) (sa_cons (se_var 4 rfl (by first | exact .inl rfl | exact .inr (.inl rfl) | exact .inr (.inr rfl))) (sa_cons (se_bin ob_sub (se_ix G (se_var 0 rfl (by first | exact .inl rfl | exact .inr (.inl rfl) | exact .inr (.inr rfl))) se_int (fun _ _ => rfl)) se_int) sa_nil)))))))) ss_nil)
    (ss_cons (sp_if (st_w (sw_or (st_cmp (ob_ne G.hu) (se_ix G (se_var 0 rfl (by first | exact .inl rfl | exact .inr (.inl rfl) | exact .inr (.inr rfl))) se_int (fun _ _ => rfl)) (se_glc (h.c_HOUSES) rfl) rfl) (sw_or1 (st_cmp (ob_eq G.hu) (se_var 4 rfl (by first | exact .inl rfl | exact .inr (.inl rfl) | exact .inr (.inr rfl))) (se_lst sa_nil) rfl)))) (ss_one (sp_ret se_bl)) ss_nil)
    (ss_cons (sp_if (st_w (sw_and (st_cmp (ob_eq G.hu) (se_var 2 rfl (by first | exact .inl rfl | exact .inr (.inl rfl) | exact .inr (.inr rfl))) (se_glc (h.c_HOUSE) rfl) rfl) (sw_and1 (st_cmp (ob_in G.hu) (se_glc (h.c_HOUSE) rfl) (se_comp G [("item", 5)] (si_seq (se_var 4 rfl (by first | exact .inl rfl | exact .inr (.inl rfl) | exact .inr (.inr rfl)))) (blkOk_by (by kernel_rfl)) (fun s H C cl fp G => by exact (sg_name G 5 (zOwn_set (by decide)) rfl (by first | exact .inl rfl | exact .inr rfl) (by first | exact .inl rfl | exact .inr rfl))) (fun s H C cl fp G => by exact sts_nil) (fun s H C cl fp G => by exact (se_ix G (se_ix G (se_var 1 rfl (by first | exact .inl rfl | exact .inr (.inl rfl) | exact .inr (.inr rfl))) se_int (fun _ _ => rfl)) (se_var 5 rfl (by first | exact .inl rfl | exact .inr (.inl rfl) | exact .inr (.inr rfl))) (fun _ _ => rfl)))) rfl)))) (ss_one (sp_ret se_bl)) ss_nil)
    (ss_one (sp_ret (se_cmp (ob_eq G.hu) (se_callK G k_of_house hr rfl (sa_cons (se_var 0 rfl (by first | exact .inl rfl | exact .inr (.inl rfl) | exact .inr (.inr rfl))) (sa_cons (se_var 1 rfl (by first | exact .inl rfl | exact .inr (.inl rfl) | exact .inr (.inr rfl))) (sa_cons (se_ix G (se_var 4 rfl (by first | exact .inl rfl | exact .inr (.inl rfl) | exact .inr (.inr rfl))) se_int (fun _ _ => rfl)) sa_nil)))) (se_var 4 rfl (by first | exact .inl rfl | exact .inr (.inl rfl) | exact .inr (.inr rfl))) rfl)))))))
noncomputable def m_ties_many : Fx := fnBody 1 0 (sRet (eIf (eBin fEq (eBin fIx (eVar 0) (eLit (.int 0))) (eLit (.str 2243767252765776071545061481))) (eCB (o1 fLen) (aCons (eLit (.tup [(.int 0), (.int 2), (.int 1), (.int 3)])) aNil)) (eLit (.int 2))))
abbrev s_ties_many : Stmt := top 10
theorem sc_ties_many : FnScope ["world"] ["world"] (defScope s_ties_many) := ⟨rfl, rfl, rfl, by decide +kernel, rfl, by decide +kernel, by decide +kernel⟩
theorem ok_ties_many {f : Addr} {fd : FuncData} (F : FnP K "ties_many" s_ties_many f fd) (h : Facts K mg) (hx : PBX.XFacts P K mg T)  : FnOk P w K mg base (L2.CX P w) 1 f fd ["world"] (spF T K m_ties_many) :=
  fn_big (k := 0) F sc_ties_many rfl rfl fun cdv A outer s H E hr G => (ss_one (sp_ret (se_if (st_cmp (ob_eq G.hu) (se_ix G (se_var 0 rfl (by first | exact .inl rfl | exact .inr (.inl rfl) | exact .inr (.inr rfl))) se_int (fun _ _ => rfl)) (se_glc (h.c_HEEDS) rfl) rfl) (se_cb cb_len rfl h.f_len boot_len (sa_cons (se_glc (h.c_TURNED_HEEDS) rfl) sa_nil)) se_int)))
noncomputable def m_new_ties : Fx := fnBody 2 5 (sSeq (sAsg (gNm 2) (eLst (aCons (eTup aNil) aNil))) (sSeq (sFor (iSeq (eBin fIx (eVar 1) (eLit (.int 0)))) (gNm 3) (sSeq (sAsg (gNm 4) (eLst aNil)) (sSeq (sForN 2 (gNm 5) (sExpr (eMB isLst (on1 fExt) (eVar 4) (aCons (eComp [6] (iRng1 (eCall m_ties_many (aCons (eVar 0) aNil))) (gNm 6) eTrue (eTup (aStar (eVar 5) (aCons (eVar 6) aNil)))) aNil)))) (sAsg (gNm 2) (eVar 4))))) (sRet (eComp [5] (iSeq (eVar 2)) (gNm 5) (eCall m_may_come (aCons (eVar 0) (aCons (eVar 1) (aCons (eLit (.int 0)) (aCons (eVar 5) aNil))))) (eVar 5)))))
abbrev s_new_ties : Stmt := top 23
theorem sc_new_ties : FnScope ["world", "web", "found", "item", "late", "ties", "tie"] ["world", "web"] (defScope s_new_ties) := ⟨rfl, rfl, rfl, by decide +kernel, rfl, by decide +kernel, by decide +kernel⟩
theorem ok_new_ties {f : Addr} {fd : FuncData} (F : FnP K "new_ties" s_new_ties f fd) (h : Facts K mg) (hx : PBX.XFacts P K mg T) (k_ties_many : Kn P w K mg base T 1 "ties_many" ["world"] m_ties_many) (k_may_come : Kn P w K mg base T 4 "may_come" ["world", "web", "sort", "ties"] m_may_come) : FnOk P w K mg base (L2.CX P w) 5 f fd ["world", "web"] (spF T K m_new_ties) :=
  fn_big (k := 4) F sc_new_ties rfl rfl fun cdv A outer s H E hr G => (ss_cons (sp_set G 2 rfl (by first | exact .inl rfl | exact .inr rfl) (se_lst (sa_cons (se_tup sa_nil) sa_nil)) rfl (by first | exact .inl rfl | exact .inr rfl))
    (ss_cons (sp_for G (passes_of rfl) (si_seq (se_ix G (se_var 1 rfl (by first | exact .inl rfl | exact .inr (.inl rfl) | exact .inr (.inr rfl))) se_int (fun _ _ => rfl))) (sg_name G 3 zAll_set rfl (by first | exact .inl rfl | exact .inr rfl) (by first | exact .inl rfl | exact .inr rfl)) (ss_cons (sp_set G 4 rfl (by first | exact .inl rfl | exact .inr rfl) (se_lst sa_nil) rfl (by first | exact .inl rfl | exact .inr rfl))
    (ss_cons (sp_forN G (passes_of rfl) 2 rfl (by first | exact .inl rfl | exact .inr (.inl rfl) | exact .inr (.inr rfl)) (sg_name G 5 zAll_set rfl (by first | exact .inl rfl | exact .inr rfl) (by first | exact .inl rfl | exact .inr rfl)) (ss_one (sp_expr (se_mbL PySem.F.plainAttrs_list PySem.F.slot_list_extend PySem.F.type_list_extend mb_ext (se_var 4 rfl (by first | exact .inl rfl | exact .inr (.inl rfl) | exact .inr (.inr rfl))) (sa_cons (se_comp G [("tie", 6)] (si_rng1 rfl h.f_range (sa_cons (se_callK G k_ties_many hr rfl (sa_cons (se_var 0 rfl (by first | exact .inl rfl | exact .inr (.inl rfl) | exact .inr (.inr rfl))) sa_nil)) sa_nil)) (blkOk_by (by kernel_rfl)) (fun s H C cl fp G => by exact (sg_name G 6 (zOwn_set (by decide)) rfl (by first | exact .inl rfl | exact .inr rfl) (by first | exact .inl rfl | exact .inr rfl))) (fun s H C cl fp G => by exact sts_nil) (fun s H C cl fp G => by exact (se_tup (sa_star (se_var 5 rfl (by first | exact .inl rfl | exact .inr (.inl rfl) | exact .inr (.inr rfl))) (sa_cons (se_var 6 rfl (by first | exact .inl rfl | exact .inr (.inl rfl) | exact .inr (.inr rfl))) sa_nil))))) sa_nil)))))
    (ss_one (sp_set G 2 rfl (by first | exact .inl rfl | exact .inr rfl) (se_var 4 rfl (by first | exact .inl rfl | exact .inr (.inl rfl) | exact .inr (.inr rfl))) rfl (by first | exact .inl rfl | exact .inr rfl))))))
    (ss_one (sp_ret (se_comp G [("ties", 5)] (si_seq (se_var 2 rfl (by first | exact .inl rfl | exact .inr (.inl rfl) | exact .inr (.inr rfl)))) (blkOk_by (by kernel_rfl)) (fun s H C cl fp G => by exact (sg_name G 5 (zOwn_set (by decide)) rfl (by first | exact .inl rfl | exact .inr rfl) (by first | exact .inl rfl | exact .inr rfl))) (fun s H C cl fp G => by exact (sts_one (st_val (se_callK G k_may_come hr rfl (sa_cons (se_var 0 rfl (by first | exact .inl rfl | exact .inr (.inl rfl) | exact .inr (.inr rfl))) (sa_cons (se_var 1 rfl (by first | exact .inl rfl | exact .inr (.inl rfl) | exact .inr (.inr rfl))) (sa_cons (se_glc (h.c_GUEST) rfl) (sa_cons (se_var 5 rfl (by first | exact .inl rfl | exact .inr (.inl rfl) | exact .inr (.inr rfl))) sa_nil))))) (fun _ => rfl)))) (fun s H C cl fp G => by exact (se_var 5 rfl (by first | exact .inl rfl | exact .inr (.inl rfl) | exact .inr (.inr rfl)))))))))
noncomputable def m_few_webs : Fx := fnBody 2 5 (sSeq (sIf (eBin fGt (eVar 1) (eLit (.int 5))) (PBX.sRaiseN 0 1 (aCons (eLit (.int 4)) aNil)) sPass) (sSeq (sAsg (gNm 2) (eLst (aCons (eLit (.tup [(.tup []), (.tup [])])) aNil))) (sSeq (sFor (iRng1 (eVar 1)) (gNm 3) (sSeq (sAsg (gNm 4) (eLst aNil)) (sSeq (sForN 2 (gNm 5) (sExpr (eMB isLst (on1 fExt) (eVar 4) (aCons (eComp [6] (iSeq (eCall m_new_ties (aCons (eVar 0) (aCons (eVar 5) aNil)))) (gNm 6) eTrue (eCall m_web_with (aCons (eVar 5) (aCons (eLit (.int 0)) (aCons (eVar 6) aNil))))) aNil)))) (sAsg (gNm 2) (eVar 4))))) (sRet (eCB (o1 fLen) (aCons (eVar 2) aNil))))))
abbrev s_few_webs : Stmt := top 36
theorem sc_few_webs : FnScope ["world", "guests", "line", "lap", "late", "web", "ties"] ["world", "guests"] (defScope s_few_webs) := ⟨rfl, rfl, rfl, by decide +kernel, rfl, by decide +kernel, by decide +kernel⟩
theorem ok_few_webs {f : Addr} {fd : FuncData} (F : FnP K "few_webs" s_few_webs f fd) (h : Facts K mg) (hx : PBX.XFacts P K mg T) (k_new_ties : Kn P w K mg base T 5 "new_ties" ["world", "web"] m_new_ties) (k_web_with : Kn P w K mg base T 1 "web_with" ["web", "sort", "ties"] m_web_with) : FnOk P w K mg base (L2.CX P w) 6 f fd ["world", "guests"] (spF T K m_few_webs) :=
  fn_big (k := 5) F sc_few_webs rfl rfl fun cdv A outer s H E hr G => (ss_cons (sp_if (st_cmp ob_gt (se_var 1 rfl (by first | exact .inl rfl | exact .inr (.inl rfl) | exact .inr (.inr rfl))) (se_glc (h.c_MOST_LISTED) rfl) rfl) (ss_one (PBX.sp_tg hx G hr rfl (sa_cons (se_glc (h.c_WIDE_LIST) rfl) sa_nil))) ss_nil)
    (ss_cons (sp_set G 2 rfl (by first | exact .inl rfl | exact .inr rfl) (se_lst (sa_cons (se_glc (h.c_NO_WEB) rfl) sa_nil)) rfl (by first | exact .inl rfl | exact .inr rfl))
    (ss_cons (sp_for G (passes_of rfl) (si_rng1 rfl h.f_range (sa_cons (se_var 1 rfl (by first | exact .inl rfl | exact .inr (.inl rfl) | exact .inr (.inr rfl))) sa_nil)) (sg_name G 3 zAll_set rfl (by first | exact .inl rfl | exact .inr rfl) (by first | exact .inl rfl | exact .inr rfl)) (ss_cons (sp_set G 4 rfl (by first | exact .inl rfl | exact .inr rfl) (se_lst sa_nil) rfl (by first | exact .inl rfl | exact .inr rfl))
    (ss_cons (sp_forN G (passes_of rfl) 2 rfl (by first | exact .inl rfl | exact .inr (.inl rfl) | exact .inr (.inr rfl)) (sg_name G 5 zAll_set rfl (by first | exact .inl rfl | exact .inr rfl) (by first | exact .inl rfl | exact .inr rfl)) (ss_one (sp_expr (se_mbL PySem.F.plainAttrs_list PySem.F.slot_list_extend PySem.F.type_list_extend mb_ext (se_var 4 rfl (by first | exact .inl rfl | exact .inr (.inl rfl) | exact .inr (.inr rfl))) (sa_cons (se_comp G [("ties", 6)] (si_seq (se_callK G k_new_ties hr rfl (sa_cons (se_var 0 rfl (by first | exact .inl rfl | exact .inr (.inl rfl) | exact .inr (.inr rfl))) (sa_cons (se_var 5 rfl (by first | exact .inl rfl | exact .inr (.inl rfl) | exact .inr (.inr rfl))) sa_nil)))) (blkOk_by (by kernel_rfl)) (fun s H C cl fp G => by exact (sg_name G 6 (zOwn_set (by decide)) rfl (by first | exact .inl rfl | exact .inr rfl) (by first | exact .inl rfl | exact .inr rfl))) (fun s H C cl fp G => by exact sts_nil) (fun s H C cl fp G => by exact (se_callK G k_web_with hr rfl (sa_cons (se_var 5 rfl (by first | exact .inl rfl | exact .inr (.inl rfl) | exact .inr (.inr rfl))) (sa_cons (se_glc (h.c_GUEST) rfl) (sa_cons (se_var 6 rfl (by first | exact .inl rfl | exact .inr (.inl rfl) | exact .inr (.inr rfl))) sa_nil)))))) sa_nil)))))
    (ss_one (sp_set G 2 rfl (by first | exact .inl rfl | exact .inr rfl) (se_var 4 rfl (by first | exact .inl rfl | exact .inr (.inl rfl) | exact .inr (.inr rfl))) rfl (by first | exact .inl rfl | exact .inr rfl))))))
    (ss_one (sp_ret (se_cb cb_len rfl h.f_len boot_len (sa_cons (se_var 2 rfl (by first | exact .inl rfl | exact .inr (.inl rfl) | exact .inr (.inr rfl))) sa_nil)))))))
noncomputable def m_not_long : Fx := fnBody 1 0 (sSeq (sIf (eBin fGt (eLenStr (eVar 0)) (eLit (.int 300))) (PBX.sRaiseN 0 1 (aCons (eLit (.int 5)) aNil)) sPass) (sRet (eVar 0)))
abbrev s_not_long : Stmt := top 32
theorem sc_not_long : FnScope ["number"] ["number"] (defScope s_not_long) := ⟨rfl, rfl, rfl, by decide +kernel, rfl, by decide +kernel, by decide +kernel⟩
theorem ok_not_long {f : Addr} {fd : FuncData} (F : FnP K "not_long" s_not_long f fd) (h : Facts K mg) (hx : PBX.XFacts P K mg T)  : FnOk P w K mg base (L2.CX P w) 1 f fd ["number"] (spF T K m_not_long) :=
  fn_big (k := 0) F sc_not_long rfl rfl fun cdv A outer s H E hr G => (ss_cons (sp_if (st_cmp ob_gt (se_lenstr G hx.nd h.f_len h.f_str rfl rfl (se_var 0 rfl (by first | exact .inl rfl | exact .inr (.inl rfl) | exact .inr (.inr rfl)))) (se_glc (h.c_MOST_FIGURES) rfl) rfl) (ss_one (PBX.sp_tg hx G hr rfl (sa_cons (se_glc (h.c_LONG_NUMBER) rfl) sa_nil))) ss_nil)
    (ss_one (sp_ret (se_var 0 rfl (by first | exact .inl rfl | exact .inr (.inl rfl) | exact .inr (.inr rfl))))))
noncomputable def m_house_webs : Fx := fnBody 1 4 (sSeq (sAsg (gNm 1) (eLst (aCons (eLit (.int 1)) aNil))) (sSeq (sFor (iRng1 (eVar 0)) (gNm 2) (sSeq (sAsg (gNm 3) (eLst (aCons (eBin fIx (eVar 1) (eUn fNeg (eLit (.int 1)))) aNil))) (sSeq (sForN 1 (gNm 4) (sExpr (eMB isLst (on1 fApp) (eVar 3) (aCons (eBin fAdd (eBin fIx (eVar 3) (eUn fNeg (eLit (.int 1)))) (eVar 4)) aNil)))) (sSeq (sAsg (gNm 1) (eVar 3)) (sExpr (eCall m_not_long (aCons (eBin fIx (eVar 1) (eLit (.int 0))) aNil))))))) (sRet (eBin fIx (eVar 1) (eLit (.int 0))))))
abbrev s_house_webs : Stmt := top 35
theorem sc_house_webs : FnScope ["guests", "row", "lap", "late", "number"] ["guests"] (defScope s_house_webs) := ⟨rfl, rfl, rfl, by decide +kernel, rfl, by decide +kernel, by decide +kernel⟩
theorem ok_house_webs {f : Addr} {fd : FuncData} (F : FnP K "house_webs" s_house_webs f fd) (h : Facts K mg) (hx : PBX.XFacts P K mg T) (k_not_long : Kn P w K mg base T 1 "not_long" ["number"] m_not_long) : FnOk P w K mg base (L2.CX P w) 2 f fd ["guests"] (spF T K m_house_webs) :=
  fn_big (k := 1) F sc_house_webs rfl rfl fun cdv A outer s H E hr G => (ss_cons (sp_set G 1 rfl (by first | exact .inl rfl | exact .inr rfl) (se_lst (sa_cons se_int sa_nil)) rfl (by first | exact .inl rfl | exact .inr rfl))
    (ss_cons (sp_for G (passes_of rfl) (si_rng1 rfl h.f_range (sa_cons (se_var 0 rfl (by first | exact .inl rfl | exact .inr (.inl rfl) | exact .inr (.inr rfl))) sa_nil)) (sg_name G 2 zAll_set rfl (by first | exact .inl rfl | exact .inr rfl) (by first | exact .inl rfl | exact .inr rfl)) (ss_cons (sp_set G 3 rfl (by first | exact .inl rfl | exact .inr rfl) (se_lst (sa_cons (se_ix G (se_var 1 rfl (by first | exact .inl rfl | exact .inr (.inl rfl) | exact .inr (.inr rfl))) (se_un ob_neg se_int) (fun _ _ => rfl)) sa_nil)) rfl (by first | exact .inl rfl | exact .inr rfl))
    (ss_cons (sp_forN G (passes_of rfl) 1 rfl (by first | exact .inl rfl | exact .inr (.inl rfl) | exact .inr (.inr rfl)) (sg_name G 4 zAll_set rfl (by first | exact .inl rfl | exact .inr rfl) (by first | exact .inl rfl | exact .inr rfl)) (ss_one (sp_expr (se_mbL PySem.F.plainAttrs_list PySem.F.slot_list_append PySem.F.type_list_append mb_app (se_var 3 rfl (by first | exact .inl rfl | exact .inr (.inl rfl) | exact .inr (.inr rfl))) (sa_cons (se_bin ob_add (se_ix G (se_var 3 rfl (by first | exact .inl rfl | exact .inr (.inl rfl) | exact .inr (.inr rfl))) (se_un ob_neg se_int) (fun _ _ => rfl)) (se_var 4 rfl (by first | exact .inl rfl | exact .inr (.inl rfl) | exact .inr (.inr rfl)))) sa_nil)))))
    (ss_cons (sp_set G 1 rfl (by first | exact .inl rfl | exact .inr rfl) (se_var 3 rfl (by first | exact .inl rfl | exact .inr (.inl rfl) | exact .inr (.inr rfl))) rfl (by first | exact .inl rfl | exact .inr rfl))
    (ss_one (sp_expr (se_callK G k_not_long hr rfl (sa_cons (se_ix G (se_var 1 rfl (by first | exact .inl rfl | exact .inr (.inl rfl) | exact .inr (.inr rfl))) se_int (fun _ _ => rfl)) sa_nil))))))))
    (ss_one (sp_ret (se_ix G (se_var 1 rfl (by first | exact .inl rfl | exact .inr (.inl rfl) | exact .inr (.inr rfl))) se_int (fun _ _ => rfl))))))
noncomputable def m_free_webs : Fx := fnBody 2 3 (sSeq (sAsg (gTp 2 (gsCons (gNm 2) (gsCons (gNm 3) gsNil))) (eTup (aCons (eLit (.int 1)) (aCons (eLit (.int 1)) aNil)))) (sSeq (sFor (iRng1 (eVar 1)) (gNm 4) (sPar 2 3 (aCons (eCall m_not_long (aCons (eBin fMul (eVar 2) (eVar 3)) aNil)) (aCons (eBin fMul (eVar 3) (eVar 0)) aNil)))) (sRet (eVar 2))))
abbrev s_free_webs : Stmt := top 34
theorem sc_free_webs : FnScope ["many_ties", "guests", "found", "ways", "lap"] ["many_ties", "guests"] (defScope s_free_webs) := ⟨rfl, rfl, rfl, by decide +kernel, rfl, by decide +kernel, by decide +kernel⟩
theorem ok_free_webs {f : Addr} {fd : FuncData} (F : FnP K "free_webs" s_free_webs f fd) (h : Facts K mg) (hx : PBX.XFacts P K mg T) (k_not_long : Kn P w K mg base T 1 "not_long" ["number"] m_not_long) : FnOk P w K mg base (L2.CX P w) 2 f fd ["many_ties", "guests"] (spF T K m_free_webs) :=
  fn_big (k := 1) F sc_free_webs rfl rfl fun cdv A outer s H E hr G => (ss_cons (sp_asg (se_tup (sa_cons se_int (sa_cons se_int sa_nil))) (sg_tup G (sgs_cons zAll_ok (sg_name G 2 zAll_set rfl (by first | exact .inl rfl | exact .inr rfl) (by first | exact .inl rfl | exact .inr rfl)) (sgs_cons zAll_ok (sg_name G 3 zAll_set rfl (by first | exact .inl rfl | exact .inr rfl) (by first | exact .inl rfl | exact .inr rfl)) (sgs_nil zAll_ok)))))
    (ss_cons (sp_for G (passes_of rfl) (si_rng1 rfl h.f_range (sa_cons (se_var 1 rfl (by first | exact .inl rfl | exact .inr (.inl rfl) | exact .inr (.inr rfl))) sa_nil)) (sg_name G 4 zAll_set rfl (by first | exact .inl rfl | exact .inr rfl) (by first | exact .inl rfl | exact .inr rfl)) (ss_one (sp_par G 2 3 rfl rfl (by decide) rfl rfl (sa_cons (se_callK G k_not_long hr rfl (sa_cons (se_bin ob_mul (se_var 2 rfl (by first | exact .inl rfl | exact .inr (.inl rfl) | exact .inr (.inr rfl))) (se_var 3 rfl (by first | exact .inl rfl | exact .inr (.inl rfl) | exact .inr (.inr rfl)))) sa_nil)) (sa_cons (se_bin ob_mul (se_var 3 rfl (by first | exact .inl rfl | exact .inr (.inl rfl) | exact .inr (.inr rfl))) (se_var 0 rfl (by first | exact .inl rfl | exact .inr (.inl rfl) | exact .inr (.inr rfl)))) sa_nil)) rfl)))
    (ss_one (sp_ret (se_var 2 rfl (by first | exact .inl rfl | exact .inr (.inl rfl) | exact .inr (.inr rfl)))))))
noncomputable def m_webs_many : Fx := fnBody 2 0 (sSeq (sIf (eBin fEq (eBin fIx (eVar 0) (eLit (.int 0))) (eLit (.str 527765795242087))) (sRet (eCall m_few_webs (aCons (eVar 0) (aCons (eVar 1) aNil)))) sPass) (sRet (eIf (eBin fEq (eBin fIx (eVar 0) (eLit (.int 0))) (eLit (.str 4705521001015195061105820296020073))) (eCall m_house_webs (aCons (eVar 1) aNil)) (eCall m_free_webs (aCons (eCall m_ties_many (aCons (eVar 0) aNil)) (aCons (eVar 1) aNil))))))
abbrev s_webs_many : Stmt := top 37
theorem sc_webs_many : FnScope ["world", "guests"] ["world", "guests"] (defScope s_webs_many) := ⟨rfl, rfl, rfl, by decide +kernel, rfl, by decide +kernel, by decide +kernel⟩
theorem ok_webs_many {f : Addr} {fd : FuncData} (F : FnP K "webs_many" s_webs_many f fd) (h : Facts K mg) (hx : PBX.XFacts P K mg T) (k_few_webs : Kn P w K mg base T 6 "few_webs" ["world", "guests"] m_few_webs) (k_house_webs : Kn P w K mg base T 2 "house_webs" ["guests"] m_house_webs) (k_free_webs : Kn P w K mg base T 2 "free_webs" ["many_ties", "guests"] m_free_webs) (k_ties_many : Kn P w K mg base T 1 "ties_many" ["world"] m_ties_many) : FnOk P w K mg base (L2.CX P w) 7 f fd ["world", "guests"] (spF T K m_webs_many) :=
  fn_big (k := 6) F sc_webs_many rfl rfl fun cdv A outer s H E hr G => (ss_cons (sp_if (st_cmp (ob_eq G.hu) (se_ix G (se_var 0 rfl (by first | exact .inl rfl | exact .inr (.inl rfl) | exact .inr (.inr rfl))) se_int (fun _ _ => rfl)) (se_glc (h.c_FEW) rfl) rfl) (ss_one (sp_ret (se_callK G k_few_webs hr rfl (sa_cons (se_var 0 rfl (by first | exact .inl rfl | exact .inr (.inl rfl) | exact .inr (.inr rfl))) (sa_cons (se_var 1 rfl (by first | exact .inl rfl | exact .inr (.inl rfl) | exact .inr (.inr rfl))) sa_nil))))) ss_nil)
    (ss_one (sp_ret (se_if (st_cmp (ob_eq G.hu) (se_ix G (se_var 0 rfl (by first | exact .inl rfl | exact .inr (.inl rfl) | exact .inr (.inr rfl))) se_int (fun _ _ => rfl)) (se_glc (h.c_HOUSES) rfl) rfl) (se_callK G k_house_webs hr rfl (sa_cons (se_var 1 rfl (by first | exact .inl rfl | exact .inr (.inl rfl) | exact .inr (.inr rfl))) sa_nil)) (se_callK G k_free_webs hr rfl (sa_cons (se_callK G k_ties_many hr rfl (sa_cons (se_var 0 rfl (by first | exact .inl rfl | exact .inr (.inl rfl) | exact .inr (.inr rfl))) sa_nil)) (sa_cons (se_var 1 rfl (by first | exact .inl rfl | exact .inr (.inl rfl) | exact .inr (.inr rfl))) sa_nil)))))))
noncomputable def m__law_due : Fx := fnBody 1 0 (sRet (eIf (eBin fLe (eLenStr (eVar 0)) (eLit (.int 300))) (eTup (aCons (eLit (.str 931561055109636948085)) (aCons (eVar 0) aNil))) (eTup (aCons (eLit (.str 2263110038209494027803295848)) (aCons (eLit (.int 5)) aNil)))))
abbrev s__law_due : Stmt := top 53
theorem sc__law_due : FnScope ["number"] ["number"] (defScope s__law_due) := ⟨rfl, rfl, rfl, by decide +kernel, rfl, by decide +kernel, by decide +kernel⟩
theorem ok__law_due {f : Addr} {fd : FuncData} (F : FnP K "_law_due" s__law_due f fd) (h : Facts K mg) (hx : PBX.XFacts P K mg T)  : FnOk P w K mg base (L2.CX P w) 1 f fd ["number"] (spF T K m__law_due) :=
  fn_big (k := 0) F sc__law_due rfl rfl fun cdv A outer s H E hr G => (ss_one (sp_ret (se_if (st_cmp ob_le (se_lenstr G hx.nd h.f_len h.f_str rfl rfl (se_var 0 rfl (by first | exact .inl rfl | exact .inr (.inl rfl) | exact .inr (.inr rfl)))) se_int rfl) (se_tup (sa_cons (se_str 931561055109636948085 tx5.1 tx5.2) (sa_cons (se_var 0 rfl (by first | exact .inl rfl | exact .inr (.inl rfl) | exact .inr (.inr rfl))) sa_nil))) (se_tup (sa_cons (se_str 2263110038209494027803295848 tx6.1 tx6.2) (sa_cons se_int sa_nil))))))
noncomputable def m_new_cases : Fx := fnBody 2 2 (sSeq (sAsg (gNm 2) (eCB (o1 fLen) (aCons (eComp [3] (iSeq (eBin fIx (eBin fIx (eBin fIx (eBin fIx (eVar 0) (eLit (.int 1))) (eVar 1)) (eLit (.int 1))) (eLit (.int 0)))) (gNm 3) (eBin fEq (eVar 3) (eLit (.int 0))) (eVar 3)) aNil))) (sRet (eLR2 (eVar 2) (eCB (o1 fLen) (aCons (eBin fIx (eBin fIx (eBin fIx (eVar 0) (eLit (.int 1))) (eVar 1)) (eLit (.int 3))) aNil)))))
abbrev s_new_cases : Stmt := top 39
theorem sc_new_cases : FnScope ["machine", "number", "guests", "sort"] ["machine", "number"] (defScope s_new_cases) := ⟨rfl, rfl, rfl, by decide +kernel, rfl, by decide +kernel, by decide +kernel⟩
theorem ok_new_cases {f : Addr} {fd : FuncData} (F : FnP K "new_cases" s_new_cases f fd) (h : Facts K mg) (hx : PBX.XFacts P K mg T)  : FnOk P w K mg base (L2.CX P w) 1 f fd ["machine", "number"] (spF T K m_new_cases) :=
  fn_big (k := 0) F sc_new_cases rfl rfl fun cdv A outer s H E hr G => (ss_cons (sp_set G 2 rfl (by first | exact .inl rfl | exact .inr rfl) (se_cb cb_len rfl h.f_len boot_len (sa_cons (se_comp G [("sort", 3)] (si_seq (se_ix G (se_ix G (se_ix G (se_ix G (se_var 0 rfl (by first | exact .inl rfl | exact .inr (.inl rfl) | exact .inr (.inr rfl))) se_int (fun _ _ => rfl)) (se_var 1 rfl (by first | exact .inl rfl | exact .inr (.inl rfl) | exact .inr (.inr rfl))) (fun _ _ => rfl)) se_int (fun _ _ => rfl)) se_int (fun _ _ => rfl))) (blkOk_by (by kernel_rfl)) (fun s H C cl fp G => by exact (sg_name G 3 (zOwn_set (by decide)) rfl (by first | exact .inl rfl | exact .inr rfl) (by first | exact .inl rfl | exact .inr rfl))) (fun s H C cl fp G => by exact (sts_one (st_cmp (ob_eq G.hu) (se_var 3 rfl (by first | exact .inl rfl | exact .inr (.inl rfl) | exact .inr (.inr rfl))) (se_glc (h.c_GUEST) rfl) rfl))) (fun s H C cl fp G => by exact (se_var 3 rfl (by first | exact .inl rfl | exact .inr (.inl rfl) | exact .inr (.inr rfl))))) sa_nil)) rfl (by first | exact .inl rfl | exact .inr rfl))
    (ss_one (sp_ret (se_lr2 G rfl h.f_list rfl h.f_range (se_var 2 rfl (by first | exact .inl rfl | exact .inr (.inl rfl) | exact .inr (.inr rfl))) (se_cb cb_len rfl h.f_len boot_len (sa_cons (se_ix G (se_ix G (se_ix G (se_var 0 rfl (by first | exact .inl rfl | exact .inr (.inl rfl) | exact .inr (.inr rfl))) se_int (fun _ _ => rfl)) (se_var 1 rfl (by first | exact .inl rfl | exact .inr (.inl rfl) | exact .inr (.inr rfl))) (fun _ _ => rfl)) se_int (fun _ _ => rfl)) sa_nil))))))
noncomputable def m_living_modes : Fx := fnBody 1 7 (sSeq (sAsg (gTp 3 (gsCons (gNm 1) (gsCons (gNm 2) (gsCons (gNm 3) gsNil)))) (eTup (aCons (eBin fIx (eVar 0) (eLit (.int 1))) (aCons (eDict aNil) (aCons (eUn fNeg (eLit (.int 1))) aNil))))) (sSeq (sWhile (eBin fLt (eVar 3) (eCB (o1 fLen) (aCons (eVar 2) aNil))) (sSeq (sAsg (gNm 3) (eCB (o1 fLen) (aCons (eVar 2) aNil))) (sFor (iEnum (eVar 1)) (gTp 2 (gsCons (gNm 4) (gsCons (gNm 5) gsNil))) (sSeq (sAsg (gNm 6) (eComp [7] (iSeq (eCall m_new_cases (aCons (eVar 0) (aCons (eVar 4) aNil)))) (gNm 7) eTrue (eBin fIn (eBin fIx (eBin fIx (eBin fIx (eVar 5) (eLit (.int 3))) (eVar 7)) (eLit (.int 1))) (eVar 2)))) (sIf (eOr (eBin fIx (eVar 5) (eLit (.int 0))) (eBin fIn (eLit (.bl true)) (eVar 6))) (sAsg (gSub (eVar 2) (eVar 4)) (eLit (.bl true))) sPass))))) (sRet (eVar 2))))
abbrev s_living_modes : Stmt := top 38
theorem sc_living_modes : FnScope ["machine", "modes", "found", "many", "number", "mode", "some", "k"] ["machine"] (defScope s_living_modes) := ⟨rfl, rfl, rfl, by decide +kernel, rfl, by decide +kernel, by decide +kernel⟩
theorem ok_living_modes {f : Addr} {fd : FuncData} (F : FnP K "living_modes" s_living_modes f fd) (h : Facts K mg) (hx : PBX.XFacts P K mg T) (k_new_cases : Kn P w K mg base T 1 "new_cases" ["machine", "number"] m_new_cases) : FnOk P w K mg base (L2.CX P w) 2 f fd ["machine"] (spF T K m_living_modes) :=
  fn_big (k := 1) F sc_living_modes rfl rfl fun cdv A outer s H E hr G => (ss_cons (sp_asg (se_tup (sa_cons (se_ix G (se_var 0 rfl (by first | exact .inl rfl | exact .inr (.inl rfl) | exact .inr (.inr rfl))) se_int (fun _ _ => rfl)) (sa_cons se_dict0 (sa_cons (se_un ob_neg se_int) sa_nil)))) (sg_tup G (sgs_cons zAll_ok (sg_name G 1 zAll_set rfl (by first | exact .inl rfl | exact .inr rfl) (by first | exact .inl rfl | exact .inr rfl)) (sgs_cons zAll_ok (sg_name G 2 zAll_set rfl (by first | exact .inl rfl | exact .inr rfl) (by first | exact .inl rfl | exact .inr rfl)) (sgs_cons zAll_ok (sg_name G 3 zAll_set rfl (by first | exact .inl rfl | exact .inr rfl) (by first | exact .inl rfl | exact .inr rfl)) (sgs_nil zAll_ok))))))
    (ss_cons (sp_while (passes_of rfl) (st_cmp ob_lt (se_var 3 rfl (by first | exact .inl rfl | exact .inr (.inl rfl) | exact .inr (.inr rfl))) (se_cb cb_len rfl h.f_len boot_len (sa_cons (se_var 2 rfl (by first | exact .inl rfl | exact .inr (.inl rfl) | exact .inr (.inr rfl))) sa_nil)) rfl) (ss_cons (sp_set G 3 rfl (by first | exact .inl rfl | exact .inr rfl) (se_cb cb_len rfl h.f_len boot_len (sa_cons (se_var 2 rfl (by first | exact .inl rfl | exact .inr (.inl rfl) | exact .inr (.inr rfl))) sa_nil)) rfl (by first | exact .inl rfl | exact .inr rfl))
    (ss_one (sp_for G (passes_of rfl) (si_enum rfl h.f_enumerate (se_var 1 rfl (by first | exact .inl rfl | exact .inr (.inl rfl) | exact .inr (.inr rfl))) rfl (sa_cons (se_var 1 rfl (by first | exact .inl rfl | exact .inr (.inl rfl) | exact .inr (.inr rfl))) sa_nil)) (sg_tup G (sgs_cons zAll_ok (sg_name G 4 zAll_set rfl (by first | exact .inl rfl | exact .inr rfl) (by first | exact .inl rfl | exact .inr rfl)) (sgs_cons zAll_ok (sg_name G 5 zAll_set rfl (by first | exact .inl rfl | exact .inr rfl) (by first | exact .inl rfl | exact .inr rfl)) (sgs_nil zAll_ok)))) (ss_cons (by first | exact (sp_setComp G 6 [("k", 7)] rfl rfl (by first | rfl | exact sw_true rfl rfl rfl rfl) (si_seq (se_callK G k_new_cases hr rfl (sa_cons (se_var 0 rfl (by first | exact .inl rfl | exact .inr (.inl rfl) | exact .inr (.inr rfl))) (sa_cons (se_var 4 rfl (by first | exact .inl rfl | exact .inr (.inl rfl) | exact .inr (.inr rfl))) sa_nil)))) (blkOk_by (by kernel_rfl)) (fun s H C cl fp G => by exact (sg_name G 7 (zOwn_set (by decide)) rfl (by first | exact .inl rfl | exact .inr rfl) (by first | exact .inl rfl | exact .inr rfl))) (fun s H C cl fp G => by exact sts_nil) (fun s H C cl fp G => by exact (se_cmp (ob_in G.hu) (se_ix G (se_ix G (se_ix G (se_var 5 rfl (by first | exact .inl rfl | exact .inr (.inl rfl) | exact .inr (.inr rfl))) se_int (fun _ _ => rfl)) (se_var 7 rfl (by first | exact .inl rfl | exact .inr (.inl rfl) | exact .inr (.inr rfl))) (fun _ _ => rfl)) se_int (fun _ _ => rfl)) (se_var 2 rfl (by first | exact .inl rfl | exact .inr (.inl rfl) | exact .inr (.inr rfl))) rfl))) | exact (sp_set G 6 rfl (by first | exact .inl rfl | exact .inr rfl) (se_comp G [("k", 7)] (si_seq (se_callK G k_new_cases hr rfl (sa_cons (se_var 0 rfl (by first | exact .inl rfl | exact .inr (.inl rfl) | exact .inr (.inr rfl))) (sa_cons (se_var 4 rfl (by first | exact .inl rfl | exact .inr (.inl rfl) | exact .inr (.inr rfl))) sa_nil)))) (blkOk_by (by kernel_rfl)) (fun s H C cl fp G => by exact (sg_name G 7 (zOwn_set (by decide)) rfl (by first | exact .inl rfl | exact .inr rfl) (by first | exact .inl rfl | exact .inr rfl))) (fun s H C cl fp G => by exact sts_nil) (fun s H C cl fp G => by exact (se_cmp (ob_in G.hu) (se_ix G (se_ix G (se_ix G (se_var 5 rfl (by first | exact .inl rfl | exact .inr (.inl rfl) | exact .inr (.inr rfl))) se_int (fun _ _ => rfl)) (se_var 7 rfl (by first | exact .inl rfl | exact .inr (.inl rfl) | exact .inr (.inr rfl))) (fun _ _ => rfl)) se_int (fun _ _ => rfl)) (se_var 2 rfl (by first | exact .inl rfl | exact .inr (.inl rfl) | exact .inr (.inr rfl))) rfl))) rfl (by first | exact .inl rfl | exact .inr rfl)))
    (ss_one (sp_if (st_w (sw_or (st_val (se_ix G (se_var 5 rfl (by first | exact .inl rfl | exact .inr (.inl rfl) | exact .inr (.inr rfl))) se_int (fun _ _ => rfl)) (fun _ => rfl)) (sw_or1 (st_cmp (ob_in G.hu) se_bl (se_var 6 rfl (by first | exact .inl rfl | exact .inr (.inl rfl) | exact .inr (.inr rfl))) rfl)))) (ss_one (sp_asg se_bl (sg_sub G zAll_ok (se_var 2 rfl (by first | exact .inl rfl | exact .inr (.inl rfl) | exact .inr (.inr rfl))) (se_var 4 rfl (by first | exact .inl rfl | exact .inr (.inl rfl) | exact .inr (.inr rfl)))))) ss_nil)))))))
    (ss_one (sp_ret (se_var 2 rfl (by first | exact .inl rfl | exact .inr (.inl rfl) | exact .inr (.inr rfl)))))))
noncomputable def m_power : Fx := fnBody 2 2 (sSeq (sAsg (gNm 2) (eLit (.int 1))) (sSeq (sFor (iRng1 (eVar 1)) (gNm 3) (sAug 2 (onII fMulI) (eVar 0))) (sRet (eVar 2))))
abbrev s_power : Stmt := top 33
theorem sc_power : FnScope ["number", "many", "found", "lap"] ["number", "many"] (defScope s_power) := ⟨rfl, rfl, rfl, by decide +kernel, rfl, by decide +kernel, by decide +kernel⟩
theorem ok_power {f : Addr} {fd : FuncData} (F : FnP K "power" s_power f fd) (h : Facts K mg) (hx : PBX.XFacts P K mg T)  : FnOk P w K mg base (L2.CX P w) 1 f fd ["number", "many"] (spF T K m_power) :=
  fn_big (k := 0) F sc_power rfl rfl fun cdv A outer s H E hr G => (ss_cons (sp_set G 2 rfl (by first | exact .inl rfl | exact .inr rfl) se_int rfl (by first | exact .inl rfl | exact .inr rfl))
    (ss_cons (sp_for G (passes_of rfl) (si_rng1 rfl h.f_range (sa_cons (se_var 1 rfl (by first | exact .inl rfl | exact .inr (.inl rfl) | exact .inr (.inr rfl))) sa_nil)) (sg_name G 3 zAll_set rfl (by first | exact .inl rfl | exact .inr rfl) (by first | exact .inl rfl | exact .inr rfl)) (ss_one (sp_aug G 2 rfl (by first | exact .inl rfl | exact .inr rfl) (se_var 0 rfl (by first | exact .inl rfl | exact .inr (.inl rfl) | exact .inr (.inr rfl))) ip_mulP (by first | exact .inl rfl | exact .inr rfl))))
    (ss_one (sp_ret (se_var 2 rfl (by first | exact .inl rfl | exact .inr (.inl rfl) | exact .inr (.inr rfl)))))))
noncomputable def m_letwebs_many : Fx := fnBody 2 11 (sSeq (sAsg (gTp 2 (gsCons (gNm 2) (gsCons (gNm 3) gsNil))) (eVar 0)) (sSeq (sIf (eBin fIn (eBin fIx (eVar 2) (eLit (.int 0))) (eTup (aCons (eLit (.str 527765795242087)) (aCons (eLit (.str 4705521001015195061105820296020073)) aNil)))) (PBX.sRaiseN 1 2 (aCons (eLit (.str 8592133902367518457549088723767062954084)) (aCons (eLit (.int 0)) aNil))) sPass) (sSeq (sIf (eBin fGt (eVar 1) (eLit (.int 100))) (PBX.sRaiseN 0 1 (aCons (eLit (.int 3)) aNil)) sPass) (sSeq (sPar 4 5 (aCons (eCall m_living_modes (aCons (eVar 0) aNil)) (aCons (eDict (aCons (eLit (.int 0)) (aCons (eLit (.int 1)) aNil))) aNil))) (sSeq (sFor (iRng1 (eVar 1)) (gNm 6) (sSeq (sAsg (gNm 7) (eDict aNil)) (sSeq (sForI 5 (gTp 2 (gsCons (gNm 8) (gsCons (gNm 9) gsNil))) (sSeq (sAsg (gNm 10) (eCall m_power (aCons (eCall m_ties_many (aCons (eVar 2) aNil)) (aCons (eBin fSub (eVar 6) (eCB (o1 fLen) (aCons (eBin fIx (eBin fIx (eBin fIx (eVar 3) (eVar 8)) (eLit (.int 1))) (eLit (.int 0))) aNil))) aNil)))) (sFor (iSeq (eCall m_new_cases (aCons (eVar 0) (aCons (eVar 8) aNil)))) (gNm 11) (sSeq (sAsg (gNm 12) (eBin fIx (eBin fIx (eBin fIx (eBin fIx (eVar 3) (eVar 8)) (eLit (.int 3))) (eVar 11)) (eLit (.int 1)))) (sIf (eBin fIn (eVar 12) (eVar 4)) (sAsg (gSub (eVar 7) (eVar 12)) (eCall m_not_long (aCons (eBin fAdd (eMB isDct (on2 fGet) (eVar 7) (aCons (eVar 12) (aCons (eLit (.int 0)) aNil))) (eBin fMul (eVar 9) (eVar 10))) aNil))) sPass))))) (sAsg (gNm 5) (eVar 7))))) (sRet (eCB (o1 fSum) (aCons (eCompI [8, 9] 5 (gTp 2 (gsCons (gNm 8) (gsCons (gNm 9) gsNil))) (eBin fIx (eBin fIx (eVar 3) (eVar 8)) (eLit (.int 0))) (eVar 9)) aNil))))))))
abbrev s_letwebs_many : Stmt := top 40
theorem sc_letwebs_many : FnScope ["machine", "guests", "world", "modes", "living", "line", "came", "late", "number", "many", "free", "k", "there"] ["machine", "guests"] (defScope s_letwebs_many) := ⟨rfl, rfl, rfl, by decide +kernel, rfl, by decide +kernel, by decide +kernel⟩
theorem ok_letwebs_many {f : Addr} {fd : FuncData} (F : FnP K "letwebs_many" s_letwebs_many f fd) (h : Facts K mg) (hx : PBX.XFacts P K mg T) (k_living_modes : Kn P w K mg base T 2 "living_modes" ["machine"] m_living_modes) (k_power : Kn P w K mg base T 1 "power" ["number", "many"] m_power) (k_ties_many : Kn P w K mg base T 1 "ties_many" ["world"] m_ties_many) (k_not_long : Kn P w K mg base T 1 "not_long" ["number"] m_not_long) (k_new_cases : Kn P w K mg base T 1 "new_cases" ["machine", "number"] m_new_cases) : FnOk P w K mg base (L2.CX P w) 3 f fd ["machine", "guests"] (spF T K m_letwebs_many) :=
  fn_big (k := 2) F sc_letwebs_many rfl rfl fun cdv A outer s H E hr G => (ss_cons (sp_asg (se_var 0 rfl (by first | exact .inl rfl | exact .inr (.inl rfl) | exact .inr (.inr rfl))) (sg_tup G (sgs_cons zAll_ok (sg_name G 2 zAll_set rfl (by first | exact .inl rfl | exact .inr rfl) (by first | exact .inl rfl | exact .inr rfl)) (sgs_cons zAll_ok (sg_name G 3 zAll_set rfl (by first | exact .inl rfl | exact .inr rfl) (by first | exact .inl rfl | exact .inr rfl)) (sgs_nil zAll_ok)))))
    (ss_cons (sp_if (st_cmp (ob_in G.hu) (se_ix G (se_var 2 rfl (by first | exact .inl rfl | exact .inr (.inl rfl) | exact .inr (.inr rfl))) se_int (fun _ _ => rfl)) (se_tup (sa_cons (se_glc (h.c_FEW) rfl) (sa_cons (se_glc (h.c_HOUSES) rfl) sa_nil))) rfl) (ss_one (PBX.sp_rf hx G hr rfl (sa_cons (se_glc (h.c_COUNTED) rfl) (sa_cons se_int sa_nil)))) ss_nil)
    (ss_cons (sp_if (st_cmp ob_gt (se_var 1 rfl (by first | exact .inl rfl | exact .inr (.inl rfl) | exact .inr (.inr rfl))) (se_glc (h.c_MOST_COMINGS) rfl) rfl) (ss_one (PBX.sp_tg hx G hr rfl (sa_cons (se_glc (h.c_LONG_ROW) rfl) sa_nil))) ss_nil)
    (ss_cons (sp_par G 4 5 rfl rfl (by decide) rfl rfl (sa_cons (se_callK G k_living_modes hr rfl (sa_cons (se_var 0 rfl (by first | exact .inl rfl | exact .inr (.inl rfl) | exact .inr (.inr rfl))) sa_nil)) (sa_cons (se_dict (sd_cons se_int se_int sd_nil)) sa_nil)) rfl)
    (ss_cons (sp_for G (passes_of rfl) (si_rng1 rfl h.f_range (sa_cons (se_var 1 rfl (by first | exact .inl rfl | exact .inr (.inl rfl) | exact .inr (.inr rfl))) sa_nil)) (sg_name G 6 zAll_set rfl (by first | exact .inl rfl | exact .inr rfl) (by first | exact .inl rfl | exact .inr rfl)) (ss_cons (sp_set G 7 rfl (by first | exact .inl rfl | exact .inr rfl) se_dict0 rfl (by first | exact .inl rfl | exact .inr rfl))
    (ss_cons (sp_forI G (passes_of rfl) 5 rfl (by first | exact .inl rfl | exact .inr (.inl rfl) | exact .inr (.inr rfl)) (sg_tup G (sgs_cons zAll_ok (sg_name G 8 zAll_set rfl (by first | exact .inl rfl | exact .inr rfl) (by first | exact .inl rfl | exact .inr rfl)) (sgs_cons zAll_ok (sg_name G 9 zAll_set rfl (by first | exact .inl rfl | exact .inr rfl) (by first | exact .inl rfl | exact .inr rfl)) (sgs_nil zAll_ok)))) (ss_cons (sp_set G 10 rfl (by first | exact .inl rfl | exact .inr rfl) (se_callK G k_power hr rfl (sa_cons (se_callK G k_ties_many hr rfl (sa_cons (se_var 2 rfl (by first | exact .inl rfl | exact .inr (.inl rfl) | exact .inr (.inr rfl))) sa_nil)) (sa_cons (se_bin ob_sub (se_var 6 rfl (by first | exact .inl rfl | exact .inr (.inl rfl) | exact .inr (.inr rfl))) (se_cb cb_len rfl h.f_len boot_len (sa_cons (se_ix G (se_ix G (se_ix G (se_var 3 rfl (by first | exact .inl rfl | exact .inr (.inl rfl) | exact .inr (.inr rfl))) (se_var 8 rfl (by first | exact .inl rfl | exact .inr (.inl rfl) | exact .inr (.inr rfl))) (fun _ _ => rfl)) se_int (fun _ _ => rfl)) se_int (fun _ _ => rfl)) sa_nil))) sa_nil))) rfl (by first | exact .inl rfl | exact .inr rfl))
    (ss_one (sp_for G (passes_of rfl) (si_seq (se_callK G k_new_cases hr rfl (sa_cons (se_var 0 rfl (by first | exact .inl rfl | exact .inr (.inl rfl) | exact .inr (.inr rfl))) (sa_cons (se_var 8 rfl (by first | exact .inl rfl | exact .inr (.inl rfl) | exact .inr (.inr rfl))) sa_nil)))) (sg_name G 11 zAll_set rfl (by first | exact .inl rfl | exact .inr rfl) (by first | exact .inl rfl | exact .inr rfl)) (ss_cons (sp_set G 12 rfl (by first | exact .inl rfl | exact .inr rfl) (se_ix G (se_ix G (se_ix G (se_ix G (se_var 3 rfl (by first | exact .inl rfl | exact .inr (.inl rfl) | exact .inr (.inr rfl))) (se_var 8 rfl (by first | exact .inl rfl | exact .inr (.inl rfl) | exact .inr (.inr rfl))) (fun _ _ => rfl)) se_int (fun _ _ => rfl)) (se_var 11 rfl (by first | exact .inl rfl | exact .inr (.inl rfl) | exact .inr (.inr rfl))) (fun _ _ => rfl)) se_int (fun _ _ => rfl)) rfl (by first | exact .inl rfl | exact .inr rfl))
    (ss_one (sp_if (st_cmp (ob_in G.hu) (se_var 12 rfl (by first | exact .inl rfl | exact .inr (.inl rfl) | exact .inr (.inr rfl))) (se_var 4 rfl (by first | exact .inl rfl | exact .inr (.inl rfl) | exact .inr (.inr rfl))) rfl) (ss_one (sp_asg (se_callK G k_not_long hr rfl (sa_cons (se_bin ob_add (se_get2 G (se_var 7 rfl (by first | exact .inl rfl | exact .inr (.inl rfl) | exact .inr (.inr rfl))) (se_var 12 rfl (by first | exact .inl rfl | exact .inr (.inl rfl) | exact .inr (.inr rfl))) se_int ⟨rfl, rfl, rfl, rfl⟩) (se_bin ob_mul (se_var 9 rfl (by first | exact .inl rfl | exact .inr (.inl rfl) | exact .inr (.inr rfl))) (se_var 10 rfl (by first | exact .inl rfl | exact .inr (.inl rfl) | exact .inr (.inr rfl))))) sa_nil)) (sg_sub G zAll_ok (se_var 7 rfl (by first | exact .inl rfl | exact .inr (.inl rfl) | exact .inr (.inr rfl))) (se_var 12 rfl (by first | exact .inl rfl | exact .inr (.inl rfl) | exact .inr (.inr rfl)))))) ss_nil)))))))
    (ss_one (sp_set G 5 rfl (by first | exact .inl rfl | exact .inr rfl) (se_var 7 rfl (by first | exact .inl rfl | exact .inr (.inl rfl) | exact .inr (.inr rfl))) rfl (by first | exact .inl rfl | exact .inr rfl))))))
    (ss_one (sp_ret (se_cb (cb_sum G.calm) rfl h.f_sum boot_sum (sa_cons (se_compI G 5 [("number", 8), ("many", 9)] rfl (by first | exact .inl rfl | exact .inr (.inl rfl) | exact .inr (.inr rfl)) (blkOk_by (by kernel_rfl)) (fun s H C cl fp G => by exact (sg_tup G (sgs_cons zOwn_ok (sg_name G 8 (zOwn_set (by decide)) rfl (by first | exact .inl rfl | exact .inr rfl) (by first | exact .inl rfl | exact .inr rfl)) (sgs_cons zOwn_ok (sg_name G 9 (zOwn_set (by decide)) rfl (by first | exact .inl rfl | exact .inr rfl) (by first | exact .inl rfl | exact .inr rfl)) (sgs_nil zOwn_ok))))) (fun s H C cl fp G => by exact (sts_one (st_val (se_ix G (se_ix G (se_var 3 rfl (by first | exact .inl rfl | exact .inr (.inl rfl) | exact .inr (.inr rfl))) (se_var 8 rfl (by first | exact .inl rfl | exact .inr (.inl rfl) | exact .inr (.inr rfl))) (fun _ _ => rfl)) se_int (fun _ _ => rfl)) (fun _ => rfl)))) (fun s H C cl fp G => by exact (se_var 9 rfl (by first | exact .inl rfl | exact .inr (.inl rfl) | exact .inr (.inr rfl))))) sa_nil)))))))))
noncomputable def m__law_houses_many : Fx := fnBody 1 4 (sSeq (sAsg (gNm 1) (eLst (aCons (eLit (.int 1)) aNil))) (sSeq (sAsg (gNm 2) (eLst (aCons (eLit (.int 1)) aNil))) (sSeq (sFor (iRng1 (eVar 0)) (gNm 3) (sSeq (sExpr (eMB isLst (on1 fApp) (eVar 1) (aCons (eCB (o1 fSum) (aCons (eComp [4] (iRng1 (eBin fAdd (eVar 3) (eLit (.int 1)))) (gNm 4) eTrue (eBin fMul (eBin fIx (eVar 2) (eVar 4)) (eBin fIx (eVar 1) (eBin fSub (eVar 3) (eVar 4))))) aNil)) aNil))) (sAsg (gNm 2) (eBin fAdd (eBin fAdd (eLst (aCons (eLit (.int 1)) aNil)) (eComp [4] (iRng1 (eBin fSub (eCB (o1 fLen) (aCons (eVar 2) aNil)) (eLit (.int 1)))) (gNm 4) eTrue (eBin fAdd (eBin fIx (eVar 2) (eVar 4)) (eBin fIx (eVar 2) (eBin fAdd (eVar 4) (eLit (.int 1))))))) (eLst (aCons (eLit (.int 1)) aNil)))))) (sRet (eBin fIx (eVar 1) (eVar 0))))))
abbrev s__law_houses_many : Stmt := top 50
theorem sc__law_houses_many : FnScope ["guests", "found", "row", "many", "k"] ["guests"] (defScope s__law_houses_many) := ⟨rfl, rfl, rfl, by decide +kernel, rfl, by decide +kernel, by decide +kernel⟩
theorem ok__law_houses_many {f : Addr} {fd : FuncData} (F : FnP K "_law_houses_many" s__law_houses_many f fd) (h : Facts K mg) (hx : PBX.XFacts P K mg T)  : FnOk P w K mg base (L2.CX P w) 1 f fd ["guests"] (spF T K m__law_houses_many) :=
  fn_big (k := 0) F sc__law_houses_many rfl rfl fun cdv A outer s H E hr G => (ss_cons (sp_set G 1 rfl (by first | exact .inl rfl | exact .inr rfl) (se_lst (sa_cons se_int sa_nil)) rfl (by first | exact .inl rfl | exact .inr rfl))
    (ss_cons (sp_set G 2 rfl (by first | exact .inl rfl | exact .inr rfl) (se_lst (sa_cons se_int sa_nil)) rfl (by first | exact .inl rfl | exact .inr rfl))
    (ss_cons (sp_for G (passes_of rfl) (si_rng1 rfl h.f_range (sa_cons (se_var 0 rfl (by first | exact .inl rfl | exact .inr (.inl rfl) | exact .inr (.inr rfl))) sa_nil)) (sg_name G 3 zAll_set rfl (by first | exact .inl rfl | exact .inr rfl) (by first | exact .inl rfl | exact .inr rfl)) (ss_cons (sp_expr (se_mbL PySem.F.plainAttrs_list PySem.F.slot_list_append PySem.F.type_list_append mb_app (se_var 1 rfl (by first | exact .inl rfl | exact .inr (.inl rfl) | exact .inr (.inr rfl))) (sa_cons (se_cb (cb_sum G.calm) rfl h.f_sum boot_sum (sa_cons (se_comp G [("k", 4)] (si_rng1 rfl h.f_range (sa_cons (se_bin ob_add (se_var 3 rfl (by first | exact .inl rfl | exact .inr (.inl rfl) | exact .inr (.inr rfl))) se_int) sa_nil)) (blkOk_by (by kernel_rfl)) (fun s H C cl fp G => by exact (sg_name G 4 (zOwn_set (by decide)) rfl (by first | exact .inl rfl | exact .inr rfl) (by first | exact .inl rfl | exact .inr rfl))) (fun s H C cl fp G => by exact sts_nil) (fun s H C cl fp G => by exact (se_bin ob_mul (se_ix G (se_var 2 rfl (by first | exact .inl rfl | exact .inr (.inl rfl) | exact .inr (.inr rfl))) (se_var 4 rfl (by first | exact .inl rfl | exact .inr (.inl rfl) | exact .inr (.inr rfl))) (fun _ _ => rfl)) (se_ix G (se_var 1 rfl (by first | exact .inl rfl | exact .inr (.inl rfl) | exact .inr (.inr rfl))) (se_bin ob_sub (se_var 3 rfl (by first | exact .inl rfl | exact .inr (.inl rfl) | exact .inr (.inr rfl))) (se_var 4 rfl (by first | exact .inl rfl | exact .inr (.inl rfl) | exact .inr (.inr rfl)))) (fun _ _ => rfl))))) sa_nil)) sa_nil)))
    (ss_one (sp_set G 2 rfl (by first | exact .inl rfl | exact .inr rfl) (se_bin ob_add (se_bin ob_add (se_lst (sa_cons se_int sa_nil)) (se_comp G [("k", 4)] (si_rng1 rfl h.f_range (sa_cons (se_bin ob_sub (se_cb cb_len rfl h.f_len boot_len (sa_cons (se_var 2 rfl (by first | exact .inl rfl | exact .inr (.inl rfl) | exact .inr (.inr rfl))) sa_nil)) se_int) sa_nil)) (blkOk_by (by kernel_rfl)) (fun s H C cl fp G => by exact (sg_name G 4 (zOwn_set (by decide)) rfl (by first | exact .inl rfl | exact .inr rfl) (by first | exact .inl rfl | exact .inr rfl))) (fun s H C cl fp G => by exact sts_nil) (fun s H C cl fp G => by exact (se_bin ob_add (se_ix G (se_var 2 rfl (by first | exact .inl rfl | exact .inr (.inl rfl) | exact .inr (.inr rfl))) (se_var 4 rfl (by first | exact .inl rfl | exact .inr (.inl rfl) | exact .inr (.inr rfl))) (fun _ _ => rfl)) (se_ix G (se_var 2 rfl (by first | exact .inl rfl | exact .inr (.inl rfl) | exact .inr (.inr rfl))) (se_bin ob_add (se_var 4 rfl (by first | exact .inl rfl | exact .inr (.inl rfl) | exact .inr (.inr rfl))) se_int) (fun _ _ => rfl)))))) (se_lst (sa_cons se_int sa_nil))) rfl (by first | exact .inl rfl | exact .inr rfl)))))
    (ss_one (sp_ret (se_ix G (se_var 1 rfl (by first | exact .inl rfl | exact .inr (.inl rfl) | exact .inr (.inr rfl))) (se_var 0 rfl (by first | exact .inl rfl | exact .inr (.inl rfl) | exact .inr (.inr rfl))) (fun _ _ => rfl)))))))
noncomputable def g1 : Sx := (sSeq (sAsg (gNm 2) (eCall m__law_of (aCons (eVar 1) (aCons (eCall m__law_worlds aNil) aNil)))) (sAsg (gNm 3) (eIf (eBin fEq (eBin fIx (eVar 2) (eLit (.int 0))) (eLit (.str 2243767252765776071545061481))) (eLit (.int 4)) (eLit (.int 2)))))
noncomputable def g2 : Sx := (sSeq (sAsg (gNm 4) (eCall m__law_pick (aCons (eVar 1) (aCons (eIf (eBin fEq (eBin fIx (eVar 2) (eLit (.int 0))) (eLit (.str 2243767252765776071545061481))) (eLit (.int 4)) (eLit (.int 5))) aNil)))) (sSeq (sAsg (gNm 5) (eCall m__law_listed (aCons (eVar 2) (aCons (eVar 4) aNil)))) (sIf (eReprC true (eCall m_webs_many (aCons (eVar 2) (aCons (eVar 4) aNil))) (eVar 5)) (sRet (eLit (.bl false))) sPass)))
noncomputable def g3 : Sx := (sAsg (gNm 6) (eCall m__law_of (aCons (eVar 1) (aCons (eLst (aCons (eLit (.int 31)) (aCons (eLit (.int 32)) (aCons (eLit (.int 33)) (aCons (eLit (.int 44)) (aCons (eLit (.int 45)) (aCons (eLit (.int 46)) (aCons (eLit (.int 5)) (aCons (eLit (.int 6)) (aCons (eLit (.int 60)) aNil)))))))))) aNil))))
noncomputable def c4 : Ex := (eBin fEq (eBin fIx (eVar 2) (eLit (.int 0))) (eLit (.str 527765795242087)))
noncomputable def g5 : Sx := (sSeq (sAsg (gNm 6) (eCall m__law_of (aCons (eVar 1) (aCons (eLst (aCons (eLit (.int 6)) (aCons (eLit (.int 7)) (aCons (eLit (.int 1000)) (aCons (eLit (.int 999999)) aNil))))) aNil)))) (sIf (eBin fNe (PBX.eTold NT 931561055109636948085 (PBX.xx2 8592133902367499114800538427987532447859 2263110038209494027803295848) (eCall m_webs_many (aCons (eVar 2) (aCons (eVar 6) aNil)))) (eTup (aCons (eLit (.str 2263110038209494027803295848)) (aCons (eLit (.int 4)) aNil)))) (sRet (eLit (.bl false))) sPass))
noncomputable def c6 : Ex := (eBin fEq (eBin fIx (eVar 2) (eLit (.int 0))) (eLit (.str 4705521001015195061105820296020073)))
noncomputable def g7 : Sx := (sAsg (gNm 6) (eCall m__law_of (aCons (eVar 1) (aCons (eLst (aCons (eLit (.int 20)) (aCons (eLit (.int 40)) (aCons (eLit (.int 60)) aNil)))) aNil))))
noncomputable def g8 : Sx := (sIf (eReprC true (PBX.eTold NT 931561055109636948085 (PBX.xx2 8592133902367499114800538427987532447859 2263110038209494027803295848) (eCall m_webs_many (aCons (eVar 2) (aCons (eVar 6) aNil)))) (eCall m__law_due (aCons (eCall m__law_houses_many (aCons (eVar 6) aNil)) aNil))) (sRet (eLit (.bl false))) sPass)
noncomputable def g9 : Sx := (sIf (eAnd (eBin fEq (eCall m__law_pick (aCons (eVar 1) (aCons (eLit (.int 8)) aNil))) (eLit (.int 0))) (eBin fNe (PBX.eTold NT 931561055109636948085 (PBX.xx2 8592133902367499114800538427987532447859 2263110038209494027803295848) (eCall m_webs_many (aCons (eVar 2) (aCons (eLit (.int 999999)) aNil)))) (eTup (aCons (eLit (.str 2263110038209494027803295848)) (aCons (eLit (.int 5)) aNil))))) (sRet (eLit (.bl false))) sPass)
noncomputable def g10 : Sx := (sSeq (sAsg (gNm 7) (eCall m__law_due (aCons (eCall m__law_power (aCons (eVar 3) (aCons (eBin fDiv (eBin fMul (eVar 6) (eBin fSub (eVar 6) (eLit (.int 1)))) (eLit (.int 2))) aNil))) aNil))) (sIf (eReprC true (PBX.eTold NT 931561055109636948085 (PBX.xx2 8592133902367499114800538427987532447859 2263110038209494027803295848) (eCall m_webs_many (aCons (eVar 2) (aCons (eVar 6) aNil)))) (eVar 7)) (sRet (eLit (.bl false))) sPass))
noncomputable def g11 : Sx := (sIf (eBin fNe (PBX.eTold NT 931561055109636948085 (PBX.xx2 8592133902367499114800538427987532447859 2263110038209494027803295848) (eCall m_webs_many (aCons (eVar 2) (aCons (eLit (.int 999999)) aNil)))) (eTup (aCons (eLit (.str 2263110038209494027803295848)) (aCons (eLit (.int 5)) aNil)))) (sRet (eLit (.bl false))) sPass)
noncomputable def g12 : Sx := (sSeq (sAsg (gTp 2 (gsCons (gNm 8) (gsCons (gNm 9) gsNil))) (eTup (aCons (eTup (aCons (eTup aNil) (aCons (eTup aNil) aNil))) (aCons (eTup (aCons (eTup aNil) aNil)) aNil)))) (sSeq (sAsg (gTp 2 (gsCons (gNm 10) (gsCons (gNm 11) gsNil))) (eComp [16] (iSeq (eTup (aCons (eLit (.bl true)) (aCons (eLit (.bl false)) aNil)))) (gNm 16) eTrue (eTup (aCons (eVar 2) (aCons (eTup (aCons (eTup (aCons (eVar 16) (aCons (eVar 8) (aCons (eVar 9) (aCons (eTup (aCons (eTup (aCons (eTup aNil) (aCons (eLit (.int 0)) (aCons (eTup aNil) aNil)))) aNil)) aNil))))) aNil)) aNil))))) (sAsg (gNm 12) (eTup (aCons (eVar 2) (aCons (eTup (aCons (eTup (aCons (eLit (.bl true)) (aCons (eVar 8) (aCons (eVar 9) (aCons (eTup (aCons (eTup (aCons (eTup aNil) (aCons (eLit (.int 1)) (aCons (eTup aNil) aNil)))) aNil)) aNil))))) (aCons (eTup (aCons (eLit (.bl false)) (aCons (eVar 8) (aCons (eVar 9) (aCons (eTup (aCons (eTup (aCons (eTup aNil) (aCons (eLit (.int 0)) (aCons (eTup aNil) aNil)))) aNil)) aNil))))) aNil))) aNil))))))
noncomputable def g13 : Sx := (sSeq (sAsg (gNm 13) (eCall m__law_pick (aCons (eVar 1) (aCons (eLit (.int 12)) aNil)))) (sSeq (sAsg (gNm 14) (eCall m__law_power (aCons (eVar 3) (aCons (eBin fDiv (eBin fMul (eVar 13) (eBin fSub (eVar 13) (eLit (.int 1)))) (eLit (.int 2))) aNil)))) (sSeq (sAsg (gNm 15) (eComp [17] (iSeq (eTup (aCons (eVar 10) (aCons (eVar 11) (aCons (eVar 12) aNil))))) (gNm 17) eTrue (PBX.eTold NT 931561055109636948085 (PBX.xx2 8592133902367499114800538427987532447859 2263110038209494027803295848) (eCall m_letwebs_many (aCons (eVar 17) (aCons (eVar 13) aNil)))))) (sSeq (sIf (eBin fIn (eBin fIx (eVar 2) (eLit (.int 0))) (eTup (aCons (eLit (.str 527765795242087)) (aCons (eLit (.str 4705521001015195061105820296020073)) aNil)))) (sRet (eBin fEq (eVar 15) (eBin fMul (eLst (aCons (eTup (aCons (eLit (.str 8592133902367499114800538427987532447859)) (aCons (eLit (.str 8592133902367518457549088723767062954084)) (aCons (eLit (.int 0)) aNil)))) aNil)) (eLit (.int 3))))) sPass) (sIf (eReprC true (eVar 15) (eLst (aCons (eTup (aCons (eLit (.str 931561055109636948085)) (aCons (eVar 14) aNil))) (aCons (eTup (aCons (eLit (.str 931561055109636948085)) (aCons (eLit (.int 0)) aNil))) (aCons (eTup (aCons (eLit (.str 931561055109636948085)) (aCons (eIf (eBin fEq (eBin fMod (eVar 13) (eLit (.int 2))) (eLit (.int 0))) (eVar 14) (eLit (.int 0))) aNil))) aNil))))) (sRet (eLit (.bl false))) sPass)))))
noncomputable def g14 : Sx := (sSeq (sIf (eBin fNe (PBX.eTold NT 931561055109636948085 (PBX.xx2 8592133902367499114800538427987532447859 2263110038209494027803295848) (eCall m_letwebs_many (aCons (eVar 10) (aCons (eLit (.int 101)) aNil)))) (eTup (aCons (eLit (.str 2263110038209494027803295848)) (aCons (eLit (.int 3)) aNil)))) (sRet (eLit (.bl false))) sPass) (sIf (eBin fNe (PBX.eTold NT 931561055109636948085 (PBX.xx2 8592133902367499114800538427987532447859 2263110038209494027803295848) (eCall m_letwebs_many (aCons (eVar 11) (aCons (eLit (.int 100)) aNil)))) (eTup (aCons (eLit (.str 931561055109636948085)) (aCons (eLit (.int 0)) aNil)))) (sRet (eLit (.bl false))) sPass))
noncomputable def g15 : Sx := (sSeq (sAsg (gNm 6) (eCall m__law_of (aCons (eVar 1) (aCons (eLst (aCons (eLit (.int 31)) (aCons (eLit (.int 32)) (aCons (eLit (.int 33)) (aCons (eLit (.int 44)) (aCons (eLit (.int 45)) (aCons (eLit (.int 46)) aNil))))))) aNil)))) (sRet (eReprC false (PBX.eTold NT 931561055109636948085 (PBX.xx2 8592133902367499114800538427987532447859 2263110038209494027803295848) (eCall m_letwebs_many (aCons (eVar 10) (aCons (eVar 6) aNil)))) (eCall m__law_due (aCons (eCall m__law_power (aCons (eVar 3) (aCons (eBin fDiv (eBin fMul (eVar 6) (eBin fSub (eVar 6) (eLit (.int 1)))) (eLit (.int 2))) aNil))) aNil)))))
abbrev s_law : Stmt := top 54
theorem sc_law : FnScope ["script", "source", "world", "few", "guests", "listed", "far", "due", "plain", "group", "every", "none", "second", "many", "whole", "told", "is_yes", "machine"] ["script"] (defScope s_law) := ⟨rfl, rfl, rfl, by decide +kernel, rfl, by decide +kernel, by decide +kernel⟩
def law_N : List Str := ["script", "source", "world", "few", "guests", "listed", "far", "due", "plain", "group", "every", "none", "second", "many", "whole", "told", "is_yes", "machine"]
abbrev tLaw (T : Tab) (K : PySem.W.Frag) (E : XK) : L2.TS := tSeq (tAsg (tCall (spSource K) [] (fun _ _ _ => False) (t1 (tVar 0))) (gName 1)) (tSeq (rdS T K (PBX.WE E) g1) (tSeq (rdS T K (PBX.WE E) g2) (tSeq (rdS T K (PBX.WE E) g3) (tSeq (tIfS (rdT T K (PBX.WE E) c4) (rdS T K (PBX.WE E) g5) (tIfS (rdT T K (PBX.WE E) c6) (tSeq (rdS T K (PBX.WE E) g7) (tSeq (rdS T K (PBX.WE E) g8) (rdS T K (PBX.WE E) g9))) (tSeq (rdS T K (PBX.WE E) g10) (rdS T K (PBX.WE E) g11)))) (tSeq (rdS T K (PBX.WE E) g12) (tSeq (rdS T K (PBX.WE E) g13) (tSeq (rdS T K (PBX.WE E) g14) (rdS T K (PBX.WE E) g15))))))))
theorem body_law {c f : Addr} {s : Shared} {H : Hp} {E : XK} (hr : Room 9 (callerA.deeper (envOfC "law" (defScope s_law) s.heap.objs.size f (.ref c)))) (G : Good (cxOf (L2.CX P w) P w K mg base ["script", "source", "world", "few", "guests", "listed", "far", "due", "plain", "group", "every", "none", "second", "many", "whole", "told", "is_yes", "machine"] "law" (defScope s_law) f (.ref c) callerA [] s H E) (PBX.WE E)) (h : Facts K mg) (hx : PBX.XFacts P K mg T) (hy : PBX.XFacts2 K T) (td : PBX.TellsAt K mg s__law_told) (hn : TBL.tbs.length = NT) (ht : PBX.TabAt base mg c ("law" ++ ".<locals>." ++ "<lambda>")) (k__law_source : ∃ f fd, FnOk P w K mg base (L2.CX P w) 1 f fd ["script"] (spSource K) ∧ mg "_law_source" = some (.ref f) ∧ PySem.W.keepIn K (.ref f) = true ∧ Binds K fd ["script"] []) (k__law_of : Kn P w K mg base T 2 "_law_of" ["source", "some"] m__law_of) (k__law_worlds : Kn P w K mg base T 1 "_law_worlds" [] m__law_worlds) (k__law_pick : Kn P w K mg base T 1 "_law_pick" ["source", "many"] m__law_pick) (k__law_listed : Kn P w K mg base T 4 "_law_listed" ["world", "guests"] m__law_listed) (k_webs_many : Kn P w K mg base T 7 "webs_many" ["world", "guests"] m_webs_many) (k__law_due : Kn P w K mg base T 1 "_law_due" ["number"] m__law_due) (k__law_houses_many : Kn P w K mg base T 1 "_law_houses_many" ["guests"] m__law_houses_many) (k__law_power : Kn P w K mg base T 1 "_law_power" ["number", "times"] m__law_power) (k_letwebs_many : Kn P w K mg base T 3 "letwebs_many" ["machine", "guests"] m_letwebs_many) :
    PSs (cxOf (L2.CX P w) P w K mg base ["script", "source", "world", "few", "guests", "listed", "far", "due", "plain", "group", "every", "none", "second", "many", "whole", "told", "is_yes", "machine"] "law" (defScope s_law) f (.ref c) callerA [] s H E) (defBody s_law) (tLaw T K E) := by
  obtain ⟨fS, fdS, FS, gS, kS, bS⟩ := k__law_source
  exact pss_cons (ps_set (i := 1) sc_law.nd rfl (by first | exact .inl rfl | exact .inr rfl) (pe_call FS (hr.mono (by decide)) rfl gS kS bS .nil (passes_call G.tk fun _ _ _ _ z => z.elim) (pa_cons (pv 0) pa_nil)) rfl (by first | exact .inl rfl | exact .inr rfl))
    (ss_consT (sp_set G 2 rfl (by first | exact .inl rfl | exact .inr rfl) (se_callK G k__law_of hr rfl (sa_cons (se_var 1 rfl (by first | exact .inl rfl | exact .inr (.inl rfl) | exact .inr (.inr rfl))) (sa_cons (se_callK0 G k__law_worlds hr rfl) sa_nil))) rfl (by first | exact .inl rfl | exact .inr rfl))
    (ss_oneT (sp_set G 3 rfl (by first | exact .inl rfl | exact .inr rfl) (se_if (st_cmp (ob_eq G.hu) (se_ix G (se_var 2 rfl (by first | exact .inl rfl | exact .inr (.inl rfl) | exact .inr (.inr rfl))) se_int (fun _ _ => rfl)) (se_str 2243767252765776071545061481 tx1.1 tx1.2) rfl) se_int se_int) rfl (by first | exact .inl rfl | exact .inr rfl))
    (ss_consT (sp_set G 4 rfl (by first | exact .inl rfl | exact .inr rfl) (se_callK G k__law_pick hr rfl (sa_cons (se_var 1 rfl (by first | exact .inl rfl | exact .inr (.inl rfl) | exact .inr (.inr rfl))) (sa_cons (se_if (st_cmp (ob_eq G.hu) (se_ix G (se_var 2 rfl (by first | exact .inl rfl | exact .inr (.inl rfl) | exact .inr (.inr rfl))) se_int (fun _ _ => rfl)) (se_str 2243767252765776071545061481 tx1.1 tx1.2) rfl) se_int se_int) sa_nil))) rfl (by first | exact .inl rfl | exact .inr rfl))
    (ss_consT (sp_set G 5 rfl (by first | exact .inl rfl | exact .inr rfl) (se_callK G k__law_listed hr rfl (sa_cons (se_var 2 rfl (by first | exact .inl rfl | exact .inr (.inl rfl) | exact .inr (.inr rfl))) (sa_cons (se_var 4 rfl (by first | exact .inl rfl | exact .inr (.inl rfl) | exact .inr (.inr rfl))) sa_nil))) rfl (by first | exact .inl rfl | exact .inr rfl))
    (ss_oneT (sp_if (st_rne G rfl h.f_repr rfl (se_callK G k_webs_many hr rfl (sa_cons (se_var 2 rfl (by first | exact .inl rfl | exact .inr (.inl rfl) | exact .inr (.inr rfl))) (sa_cons (se_var 4 rfl (by first | exact .inl rfl | exact .inr (.inl rfl) | exact .inr (.inr rfl))) sa_nil))) (se_var 5 rfl (by first | exact .inl rfl | exact .inr (.inl rfl) | exact .inr (.inr rfl)))) (ss_one (sp_ret se_bl)) ss_nil)
    (ss_oneT (sp_set G 6 rfl (by first | exact .inl rfl | exact .inr rfl) (se_callK G k__law_of hr rfl (sa_cons (se_var 1 rfl (by first | exact .inl rfl | exact .inr (.inl rfl) | exact .inr (.inr rfl))) (sa_cons (se_lst (sa_cons se_int (sa_cons se_int (sa_cons se_int (sa_cons se_int (sa_cons se_int (sa_cons se_int (sa_cons se_int (sa_cons se_int (sa_cons se_int sa_nil)))))))))) sa_nil))) rfl (by first | exact .inl rfl | exact .inr rfl))
    (pss_cons (ps_if (st_cmp (ob_eq G.hu) (se_ix G (se_var 2 rfl (by first | exact .inl rfl | exact .inr (.inl rfl) | exact .inr (.inr rfl))) se_int (fun _ _ => rfl)) (se_str 527765795242087 tx3.1 tx3.2) rfl) (ss_cons (sp_set G 6 rfl (by first | exact .inl rfl | exact .inr rfl) (se_callK G k__law_of hr rfl (sa_cons (se_var 1 rfl (by first | exact .inl rfl | exact .inr (.inl rfl) | exact .inr (.inr rfl))) (sa_cons (se_lst (sa_cons se_int (sa_cons se_int (sa_cons se_int (sa_cons se_int sa_nil))))) sa_nil))) rfl (by first | exact .inl rfl | exact .inr rfl))
    (ss_one (sp_if (st_cmp (ob_ne G.hu) (PBX.se_told 7 G hx hy td hn tx5 tx8 tx6 rfl ht (hr.mono (by decide)) rfl (LamX.lamS_by (by kernel_rfl)) rfl (fun _ _ _ _ _ => rfl) (fun A outer s H E f c' hr G => by exact (se_callK G k_webs_many hr rfl (sa_cons (se_var 2 rfl (by first | exact .inl rfl | exact .inr (.inl rfl) | exact .inr (.inr rfl))) (sa_cons (se_var 6 rfl (by first | exact .inl rfl | exact .inr (.inl rfl) | exact .inr (.inr rfl))) sa_nil))))) (se_tup (sa_cons (se_str 2263110038209494027803295848 tx6.1 tx6.2) (sa_cons se_int sa_nil))) rfl) (ss_one (sp_ret se_bl)) ss_nil))) (pss_one (ps_if (st_cmp (ob_eq G.hu) (se_ix G (se_var 2 rfl (by first | exact .inl rfl | exact .inr (.inl rfl) | exact .inr (.inr rfl))) se_int (fun _ _ => rfl)) (se_str 4705521001015195061105820296020073 tx2.1 tx2.2) rfl) (ss_oneT (sp_set G 6 rfl (by first | exact .inl rfl | exact .inr rfl) (se_callK G k__law_of hr rfl (sa_cons (se_var 1 rfl (by first | exact .inl rfl | exact .inr (.inl rfl) | exact .inr (.inr rfl))) (sa_cons (se_lst (sa_cons se_int (sa_cons se_int (sa_cons se_int sa_nil)))) sa_nil))) rfl (by first | exact .inl rfl | exact .inr rfl))
    (ss_oneT (sp_if (st_rne G rfl h.f_repr rfl (PBX.se_told 7 G hx hy td hn tx5 tx8 tx6 rfl ht (hr.mono (by decide)) rfl (LamX.lamS_by (by kernel_rfl)) rfl (fun _ _ _ _ _ => rfl) (fun A outer s H E f c' hr G => by exact (se_callK G k_webs_many hr rfl (sa_cons (se_var 2 rfl (by first | exact .inl rfl | exact .inr (.inl rfl) | exact .inr (.inr rfl))) (sa_cons (se_var 6 rfl (by first | exact .inl rfl | exact .inr (.inl rfl) | exact .inr (.inr rfl))) sa_nil))))) (se_callK G k__law_due hr rfl (sa_cons (se_callK G k__law_houses_many hr rfl (sa_cons (se_var 6 rfl (by first | exact .inl rfl | exact .inr (.inl rfl) | exact .inr (.inr rfl))) sa_nil)) sa_nil))) (ss_one (sp_ret se_bl)) ss_nil)
    (ss_one (sp_if (st_w (sw_and (st_cmp (ob_eq G.hu) (se_callK G k__law_pick hr rfl (sa_cons (se_var 1 rfl (by first | exact .inl rfl | exact .inr (.inl rfl) | exact .inr (.inr rfl))) (sa_cons se_int sa_nil))) se_int rfl) (sw_and1 (st_cmp (ob_ne G.hu) (PBX.se_told 7 G hx hy td hn tx5 tx8 tx6 rfl ht (hr.mono (by decide)) rfl (LamX.lamS_by (by kernel_rfl)) rfl (fun _ _ _ _ _ => rfl) (fun A outer s H E f c' hr G => by exact (se_callK G k_webs_many hr rfl (sa_cons (se_var 2 rfl (by first | exact .inl rfl | exact .inr (.inl rfl) | exact .inr (.inr rfl))) (sa_cons se_int sa_nil))))) (se_tup (sa_cons (se_str 2263110038209494027803295848 tx6.1 tx6.2) (sa_cons se_int sa_nil))) rfl)))) (ss_one (sp_ret se_bl)) ss_nil)))) (ss_consT (sp_set G 7 rfl (by first | exact .inl rfl | exact .inr rfl) (se_callK G k__law_due hr rfl (sa_cons (se_callK G k__law_power hr rfl (sa_cons (se_var 3 rfl (by first | exact .inl rfl | exact .inr (.inl rfl) | exact .inr (.inr rfl))) (sa_cons (se_bin ob_div (se_bin ob_mul (se_var 6 rfl (by first | exact .inl rfl | exact .inr (.inl rfl) | exact .inr (.inr rfl))) (se_bin ob_sub (se_var 6 rfl (by first | exact .inl rfl | exact .inr (.inl rfl) | exact .inr (.inr rfl))) se_int)) se_int) sa_nil))) sa_nil)) rfl (by first | exact .inl rfl | exact .inr rfl))
    (ss_oneT (sp_if (st_rne G rfl h.f_repr rfl (PBX.se_told 7 G hx hy td hn tx5 tx8 tx6 rfl ht (hr.mono (by decide)) rfl (LamX.lamS_by (by kernel_rfl)) rfl (fun _ _ _ _ _ => rfl) (fun A outer s H E f c' hr G => by exact (se_callK G k_webs_many hr rfl (sa_cons (se_var 2 rfl (by first | exact .inl rfl | exact .inr (.inl rfl) | exact .inr (.inr rfl))) (sa_cons (se_var 6 rfl (by first | exact .inl rfl | exact .inr (.inl rfl) | exact .inr (.inr rfl))) sa_nil))))) (se_var 7 rfl (by first | exact .inl rfl | exact .inr (.inl rfl) | exact .inr (.inr rfl)))) (ss_one (sp_ret se_bl)) ss_nil)
    (ss_one (sp_if (st_cmp (ob_ne G.hu) (PBX.se_told 7 G hx hy td hn tx5 tx8 tx6 rfl ht (hr.mono (by decide)) rfl (LamX.lamS_by (by kernel_rfl)) rfl (fun _ _ _ _ _ => rfl) (fun A outer s H E f c' hr G => by exact (se_callK G k_webs_many hr rfl (sa_cons (se_var 2 rfl (by first | exact .inl rfl | exact .inr (.inl rfl) | exact .inr (.inr rfl))) (sa_cons se_int sa_nil))))) (se_tup (sa_cons (se_str 2263110038209494027803295848 tx6.1 tx6.2) (sa_cons se_int sa_nil))) rfl) (ss_one (sp_ret se_bl)) ss_nil)))))))
    (ss_consT (sp_asg (se_tup (sa_cons (se_tup (sa_cons (se_tup sa_nil) (sa_cons (se_tup sa_nil) sa_nil))) (sa_cons (se_tup (sa_cons (se_tup sa_nil) sa_nil)) sa_nil))) (sg_tup G (sgs_cons zAll_ok (sg_name G 8 zAll_set rfl (by first | exact .inl rfl | exact .inr rfl) (by first | exact .inl rfl | exact .inr rfl)) (sgs_cons zAll_ok (sg_name G 9 zAll_set rfl (by first | exact .inl rfl | exact .inr rfl) (by first | exact .inl rfl | exact .inr rfl)) (sgs_nil zAll_ok)))))
    (ss_consT (sp_asg (se_comp G [("is_yes", 16)] (si_seq (se_tup (sa_cons se_bl (sa_cons se_bl sa_nil)))) (blkOk_by (by kernel_rfl)) (fun s H C cl fp G => by exact (sg_name G 16 (zOwn_set (by decide)) rfl (by first | exact .inl rfl | exact .inr rfl) (by first | exact .inl rfl | exact .inr rfl))) (fun s H C cl fp G => by exact sts_nil) (fun s H C cl fp G => by exact (se_tup (sa_cons (se_var 2 rfl (by first | exact .inl rfl | exact .inr (.inl rfl) | exact .inr (.inr rfl))) (sa_cons (se_tup (sa_cons (se_tup (sa_cons (se_var 16 rfl (by first | exact .inl rfl | exact .inr (.inl rfl) | exact .inr (.inr rfl))) (sa_cons (se_var 8 rfl (by first | exact .inl rfl | exact .inr (.inl rfl) | exact .inr (.inr rfl))) (sa_cons (se_var 9 rfl (by first | exact .inl rfl | exact .inr (.inl rfl) | exact .inr (.inr rfl))) (sa_cons (se_tup (sa_cons (se_tup (sa_cons (se_tup sa_nil) (sa_cons se_int (sa_cons (se_tup sa_nil) sa_nil)))) sa_nil)) sa_nil))))) sa_nil)) sa_nil))))) (sg_tup G (sgs_cons zAll_ok (sg_name G 10 zAll_set rfl (by first | exact .inl rfl | exact .inr rfl) (by first | exact .inl rfl | exact .inr rfl)) (sgs_cons zAll_ok (sg_name G 11 zAll_set rfl (by first | exact .inl rfl | exact .inr rfl) (by first | exact .inl rfl | exact .inr rfl)) (sgs_nil zAll_ok)))))
    (ss_oneT (sp_set G 12 rfl (by first | exact .inl rfl | exact .inr rfl) (se_tup (sa_cons (se_var 2 rfl (by first | exact .inl rfl | exact .inr (.inl rfl) | exact .inr (.inr rfl))) (sa_cons (se_tup (sa_cons (se_tup (sa_cons se_bl (sa_cons (se_var 8 rfl (by first | exact .inl rfl | exact .inr (.inl rfl) | exact .inr (.inr rfl))) (sa_cons (se_var 9 rfl (by first | exact .inl rfl | exact .inr (.inl rfl) | exact .inr (.inr rfl))) (sa_cons (se_tup (sa_cons (se_tup (sa_cons (se_tup sa_nil) (sa_cons se_int (sa_cons (se_tup sa_nil) sa_nil)))) sa_nil)) sa_nil))))) (sa_cons (se_tup (sa_cons se_bl (sa_cons (se_var 8 rfl (by first | exact .inl rfl | exact .inr (.inl rfl) | exact .inr (.inr rfl))) (sa_cons (se_var 9 rfl (by first | exact .inl rfl | exact .inr (.inl rfl) | exact .inr (.inr rfl))) (sa_cons (se_tup (sa_cons (se_tup (sa_cons (se_tup sa_nil) (sa_cons se_int (sa_cons (se_tup sa_nil) sa_nil)))) sa_nil)) sa_nil))))) sa_nil))) sa_nil))) rfl (by first | exact .inl rfl | exact .inr rfl))
    (ss_consT (sp_set G 13 rfl (by first | exact .inl rfl | exact .inr rfl) (se_callK G k__law_pick hr rfl (sa_cons (se_var 1 rfl (by first | exact .inl rfl | exact .inr (.inl rfl) | exact .inr (.inr rfl))) (sa_cons se_int sa_nil))) rfl (by first | exact .inl rfl | exact .inr rfl))
    (ss_consT (sp_set G 14 rfl (by first | exact .inl rfl | exact .inr rfl) (se_callK G k__law_power hr rfl (sa_cons (se_var 3 rfl (by first | exact .inl rfl | exact .inr (.inl rfl) | exact .inr (.inr rfl))) (sa_cons (se_bin ob_div (se_bin ob_mul (se_var 13 rfl (by first | exact .inl rfl | exact .inr (.inl rfl) | exact .inr (.inr rfl))) (se_bin ob_sub (se_var 13 rfl (by first | exact .inl rfl | exact .inr (.inl rfl) | exact .inr (.inr rfl))) se_int)) se_int) sa_nil))) rfl (by first | exact .inl rfl | exact .inr rfl))
    (ss_consT (by first | exact (sp_setComp G 15 [("machine", 17)] rfl rfl (by first | rfl | exact sw_true rfl rfl rfl rfl) (si_seq (se_tup (sa_cons (se_var 10 rfl (by first | exact .inl rfl | exact .inr (.inl rfl) | exact .inr (.inr rfl))) (sa_cons (se_var 11 rfl (by first | exact .inl rfl | exact .inr (.inl rfl) | exact .inr (.inr rfl))) (sa_cons (se_var 12 rfl (by first | exact .inl rfl | exact .inr (.inl rfl) | exact .inr (.inr rfl))) sa_nil))))) (blkOk_by (by kernel_rfl)) (fun s H C cl fp G => by exact (sg_name G 17 (zOwn_set (by decide)) rfl (by first | exact .inl rfl | exact .inr rfl) (by first | exact .inl rfl | exact .inr rfl))) (fun s H C cl fp G => by exact sts_nil) (fun s H C cl fp G => by exact (PBX.se_told 3 G hx hy td hn tx5 tx8 tx6 rfl ht (hr.mono (by decide)) rfl (LamX.lamS_by (by kernel_rfl)) rfl (fun _ _ _ _ _ => rfl) (fun A outer s H E f c' hr G => by exact (se_callK G k_letwebs_many hr rfl (sa_cons (se_var 17 rfl (by first | exact .inl rfl | exact .inr (.inl rfl) | exact .inr (.inr rfl))) (sa_cons (se_var 13 rfl (by first | exact .inl rfl | exact .inr (.inl rfl) | exact .inr (.inr rfl))) sa_nil))))))) | exact (sp_set G 15 rfl (by first | exact .inl rfl | exact .inr rfl) (se_comp G [("machine", 17)] (si_seq (se_tup (sa_cons (se_var 10 rfl (by first | exact .inl rfl | exact .inr (.inl rfl) | exact .inr (.inr rfl))) (sa_cons (se_var 11 rfl (by first | exact .inl rfl | exact .inr (.inl rfl) | exact .inr (.inr rfl))) (sa_cons (se_var 12 rfl (by first | exact .inl rfl | exact .inr (.inl rfl) | exact .inr (.inr rfl))) sa_nil))))) (blkOk_by (by kernel_rfl)) (fun s H C cl fp G => by exact (sg_name G 17 (zOwn_set (by decide)) rfl (by first | exact .inl rfl | exact .inr rfl) (by first | exact .inl rfl | exact .inr rfl))) (fun s H C cl fp G => by exact sts_nil) (fun s H C cl fp G => by exact (PBX.se_told 3 G hx hy td hn tx5 tx8 tx6 rfl ht (hr.mono (by decide)) rfl (LamX.lamS_by (by kernel_rfl)) rfl (fun _ _ _ _ _ => rfl) (fun A outer s H E f c' hr G => by exact (se_callK G k_letwebs_many hr rfl (sa_cons (se_var 17 rfl (by first | exact .inl rfl | exact .inr (.inl rfl) | exact .inr (.inr rfl))) (sa_cons (se_var 13 rfl (by first | exact .inl rfl | exact .inr (.inl rfl) | exact .inr (.inr rfl))) sa_nil))))))) rfl (by first | exact .inl rfl | exact .inr rfl)))
    (ss_consT (sp_if (st_cmp (ob_in G.hu) (se_ix G (se_var 2 rfl (by first | exact .inl rfl | exact .inr (.inl rfl) | exact .inr (.inr rfl))) se_int (fun _ _ => rfl)) (se_tup (sa_cons (se_str 527765795242087 tx3.1 tx3.2) (sa_cons (se_str 4705521001015195061105820296020073 tx2.1 tx2.2) sa_nil))) rfl) (ss_one (sp_ret (se_cmp (ob_eq G.hu) (se_var 15 rfl (by first | exact .inl rfl | exact .inr (.inl rfl) | exact .inr (.inr rfl))) (se_bin ob_mul (se_lst (sa_cons (se_tup (sa_cons (se_str 8592133902367499114800538427987532447859 tx8.1 tx8.2) (sa_cons (se_str 8592133902367518457549088723767062954084 tx7.1 tx7.2) (sa_cons se_int sa_nil)))) sa_nil)) se_int) rfl))) ss_nil)
    (ss_oneT (sp_if (st_rne G rfl h.f_repr rfl (se_var 15 rfl (by first | exact .inl rfl | exact .inr (.inl rfl) | exact .inr (.inr rfl))) (se_lst (sa_cons (se_tup (sa_cons (se_str 931561055109636948085 tx5.1 tx5.2) (sa_cons (se_var 14 rfl (by first | exact .inl rfl | exact .inr (.inl rfl) | exact .inr (.inr rfl))) sa_nil))) (sa_cons (se_tup (sa_cons (se_str 931561055109636948085 tx5.1 tx5.2) (sa_cons se_int sa_nil))) (sa_cons (se_tup (sa_cons (se_str 931561055109636948085 tx5.1 tx5.2) (sa_cons (se_if (st_cmp (ob_eq G.hu) (se_bin ob_mod (se_var 13 rfl (by first | exact .inl rfl | exact .inr (.inl rfl) | exact .inr (.inr rfl))) se_int) se_int rfl) (se_var 14 rfl (by first | exact .inl rfl | exact .inr (.inl rfl) | exact .inr (.inr rfl))) se_int) sa_nil))) sa_nil))))) (ss_one (sp_ret se_bl)) ss_nil)
    (ss_consT (sp_if (st_cmp (ob_ne G.hu) (PBX.se_told 3 G hx hy td hn tx5 tx8 tx6 rfl ht (hr.mono (by decide)) rfl (LamX.lamS_by (by kernel_rfl)) rfl (fun _ _ _ _ _ => rfl) (fun A outer s H E f c' hr G => by exact (se_callK G k_letwebs_many hr rfl (sa_cons (se_var 10 rfl (by first | exact .inl rfl | exact .inr (.inl rfl) | exact .inr (.inr rfl))) (sa_cons se_int sa_nil))))) (se_tup (sa_cons (se_str 2263110038209494027803295848 tx6.1 tx6.2) (sa_cons se_int sa_nil))) rfl) (ss_one (sp_ret se_bl)) ss_nil)
    (ss_oneT (sp_if (st_cmp (ob_ne G.hu) (PBX.se_told 3 G hx hy td hn tx5 tx8 tx6 rfl ht (hr.mono (by decide)) rfl (LamX.lamS_by (by kernel_rfl)) rfl (fun _ _ _ _ _ => rfl) (fun A outer s H E f c' hr G => by exact (se_callK G k_letwebs_many hr rfl (sa_cons (se_var 11 rfl (by first | exact .inl rfl | exact .inr (.inl rfl) | exact .inr (.inr rfl))) (sa_cons se_int sa_nil))))) (se_tup (sa_cons (se_str 931561055109636948085 tx5.1 tx5.2) (sa_cons se_int sa_nil))) rfl) (ss_one (sp_ret se_bl)) ss_nil)
    (ss_cons (sp_set G 6 rfl (by first | exact .inl rfl | exact .inr rfl) (se_callK G k__law_of hr rfl (sa_cons (se_var 1 rfl (by first | exact .inl rfl | exact .inr (.inl rfl) | exact .inr (.inr rfl))) (sa_cons (se_lst (sa_cons se_int (sa_cons se_int (sa_cons se_int (sa_cons se_int (sa_cons se_int (sa_cons se_int sa_nil))))))) sa_nil))) rfl (by first | exact .inl rfl | exact .inr rfl))
    (ss_one (sp_ret (se_req G rfl h.f_repr rfl (PBX.se_told 3 G hx hy td hn tx5 tx8 tx6 rfl ht (hr.mono (by decide)) rfl (LamX.lamS_by (by kernel_rfl)) rfl (fun _ _ _ _ _ => rfl) (fun A outer s H E f c' hr G => by exact (se_callK G k_letwebs_many hr rfl (sa_cons (se_var 10 rfl (by first | exact .inl rfl | exact .inr (.inl rfl) | exact .inr (.inr rfl))) (sa_cons (se_var 6 rfl (by first | exact .inl rfl | exact .inr (.inl rfl) | exact .inr (.inr rfl))) sa_nil))))) (se_callK G k__law_due hr rfl (sa_cons (se_callK G k__law_power hr rfl (sa_cons (se_var 3 rfl (by first | exact .inl rfl | exact .inr (.inl rfl) | exact .inr (.inr rfl))) (sa_cons (se_bin ob_div (se_bin ob_mul (se_var 6 rfl (by first | exact .inl rfl | exact .inr (.inl rfl) | exact .inr (.inr rfl))) (se_bin ob_sub (se_var 6 rfl (by first | exact .inl rfl | exact .inr (.inl rfl) | exact .inr (.inr rfl))) se_int)) se_int) sa_nil))) sa_nil)))))))))))))))))))))))
end
end Law
set_option Elab.async false
set_option linter.all false
set_option maxRecDepth 1000000
set_option maxHeartbeats 0
namespace Law
open PySem PySem.Spec PyProof.Rows L2 PB
def L0 : List Sl := [.un :: .ref 1 :: List.replicate 16 .un]
def La : List Sl := [[.un, .ref 1, .p (.tup [(.str 536561907138658), (.int 0)]), .p (.int 2), .un, .un, .un, .un, .un, .un, .un, .un, .un, .un, .un, .un, .un, .un],
  [.un, .ref 1, .p (.tup [(.str 527765795242087), (.int 3)]), .p (.int 2), .un, .un, .un, .un, .un, .un, .un, .un, .un, .un, .un, .un, .un, .un],
  [.un, .ref 1, .p (.tup [(.str 527765795242087), (.int 4)]), .p (.int 2), .un, .un, .un, .un, .un, .un, .un, .un, .un, .un, .un, .un, .un, .un],
  [.un, .ref 1, .p (.tup [(.str 2243767400339711069035429987), (.int 0)]), .p (.int 2), .un, .un, .un, .un, .un, .un, .un, .un, .un, .un, .un, .un, .un, .un],
  [.un, .ref 1, .p (.tup [(.str 2243767252765776071545061481), (.int 0)]), .p (.int 4), .un, .un, .un, .un, .un, .un, .un, .un, .un, .un, .un, .un, .un, .un],
  [.un, .ref 1, .p (.tup [(.str 4705521001015195061105820296020073), (.int 0)]), .p (.int 2), .un, .un, .un, .un, .un, .un, .un, .un, .un, .un, .un, .un, .un, .un]]
def Lf : List Sl := [[.un, .ref 1, .p (.tup [(.str 536561907138658), (.int 0)]), .p (.int 2), .un, .un, .p (.int 31), .un, .un, .un, .un, .un, .un, .un, .un, .un, .un, .un],
  [.un, .ref 1, .p (.tup [(.str 536561907138658), (.int 0)]), .p (.int 2), .un, .un, .p (.int 32), .un, .un, .un, .un, .un, .un, .un, .un, .un, .un, .un],
  [.un, .ref 1, .p (.tup [(.str 536561907138658), (.int 0)]), .p (.int 2), .un, .un, .p (.int 33), .un, .un, .un, .un, .un, .un, .un, .un, .un, .un, .un],
  [.un, .ref 1, .p (.tup [(.str 536561907138658), (.int 0)]), .p (.int 2), .un, .un, .p (.int 44), .un, .un, .un, .un, .un, .un, .un, .un, .un, .un, .un],
  [.un, .ref 1, .p (.tup [(.str 536561907138658), (.int 0)]), .p (.int 2), .un, .un, .p (.int 45), .un, .un, .un, .un, .un, .un, .un, .un, .un, .un, .un],
  [.un, .ref 1, .p (.tup [(.str 536561907138658), (.int 0)]), .p (.int 2), .un, .un, .p (.int 46), .un, .un, .un, .un, .un, .un, .un, .un, .un, .un, .un],
  [.un, .ref 1, .p (.tup [(.str 536561907138658), (.int 0)]), .p (.int 2), .un, .un, .p (.int 5), .un, .un, .un, .un, .un, .un, .un, .un, .un, .un, .un],
  [.un, .ref 1, .p (.tup [(.str 536561907138658), (.int 0)]), .p (.int 2), .un, .un, .p (.int 6), .un, .un, .un, .un, .un, .un, .un, .un, .un, .un, .un],
  [.un, .ref 1, .p (.tup [(.str 536561907138658), (.int 0)]), .p (.int 2), .un, .un, .p (.int 60), .un, .un, .un, .un, .un, .un, .un, .un, .un, .un, .un],
  [.un, .ref 1, .p (.tup [(.str 2243767400339711069035429987), (.int 0)]), .p (.int 2), .un, .un, .p (.int 31), .un, .un, .un, .un, .un, .un, .un, .un, .un, .un, .un],
  [.un, .ref 1, .p (.tup [(.str 2243767400339711069035429987), (.int 0)]), .p (.int 2), .un, .un, .p (.int 32), .un, .un, .un, .un, .un, .un, .un, .un, .un, .un, .un],
  [.un, .ref 1, .p (.tup [(.str 2243767400339711069035429987), (.int 0)]), .p (.int 2), .un, .un, .p (.int 33), .un, .un, .un, .un, .un, .un, .un, .un, .un, .un, .un],
  [.un, .ref 1, .p (.tup [(.str 2243767400339711069035429987), (.int 0)]), .p (.int 2), .un, .un, .p (.int 44), .un, .un, .un, .un, .un, .un, .un, .un, .un, .un, .un],
  [.un, .ref 1, .p (.tup [(.str 2243767400339711069035429987), (.int 0)]), .p (.int 2), .un, .un, .p (.int 45), .un, .un, .un, .un, .un, .un, .un, .un, .un, .un, .un],
  [.un, .ref 1, .p (.tup [(.str 2243767400339711069035429987), (.int 0)]), .p (.int 2), .un, .un, .p (.int 46), .un, .un, .un, .un, .un, .un, .un, .un, .un, .un, .un],
  [.un, .ref 1, .p (.tup [(.str 2243767400339711069035429987), (.int 0)]), .p (.int 2), .un, .un, .p (.int 5), .un, .un, .un, .un, .un, .un, .un, .un, .un, .un, .un],
  [.un, .ref 1, .p (.tup [(.str 2243767400339711069035429987), (.int 0)]), .p (.int 2), .un, .un, .p (.int 6), .un, .un, .un, .un, .un, .un, .un, .un, .un, .un, .un],
  [.un, .ref 1, .p (.tup [(.str 2243767400339711069035429987), (.int 0)]), .p (.int 2), .un, .un, .p (.int 60), .un, .un, .un, .un, .un, .un, .un, .un, .un, .un, .un],
  [.un, .ref 1, .p (.tup [(.str 2243767252765776071545061481), (.int 0)]), .p (.int 4), .un, .un, .p (.int 31), .un, .un, .un, .un, .un, .un, .un, .un, .un, .un, .un],
  [.un, .ref 1, .p (.tup [(.str 2243767252765776071545061481), (.int 0)]), .p (.int 4), .un, .un, .p (.int 32), .un, .un, .un, .un, .un, .un, .un, .un, .un, .un, .un],
  [.un, .ref 1, .p (.tup [(.str 2243767252765776071545061481), (.int 0)]), .p (.int 4), .un, .un, .p (.int 33), .un, .un, .un, .un, .un, .un, .un, .un, .un, .un, .un],
  [.un, .ref 1, .p (.tup [(.str 2243767252765776071545061481), (.int 0)]), .p (.int 4), .un, .un, .p (.int 44), .un, .un, .un, .un, .un, .un, .un, .un, .un, .un, .un],
  [.un, .ref 1, .p (.tup [(.str 2243767252765776071545061481), (.int 0)]), .p (.int 4), .un, .un, .p (.int 45), .un, .un, .un, .un, .un, .un, .un, .un, .un, .un, .un],
  [.un, .ref 1, .p (.tup [(.str 2243767252765776071545061481), (.int 0)]), .p (.int 4), .un, .un, .p (.int 46), .un, .un, .un, .un, .un, .un, .un, .un, .un, .un, .un],
  [.un, .ref 1, .p (.tup [(.str 2243767252765776071545061481), (.int 0)]), .p (.int 4), .un, .un, .p (.int 5), .un, .un, .un, .un, .un, .un, .un, .un, .un, .un, .un],
  [.un, .ref 1, .p (.tup [(.str 2243767252765776071545061481), (.int 0)]), .p (.int 4), .un, .un, .p (.int 6), .un, .un, .un, .un, .un, .un, .un, .un, .un, .un, .un],
  [.un, .ref 1, .p (.tup [(.str 2243767252765776071545061481), (.int 0)]), .p (.int 4), .un, .un, .p (.int 60), .un, .un, .un, .un, .un, .un, .un, .un, .un, .un, .un],
  [.un, .ref 1, .p (.tup [(.str 527765795242087), (.int 3)]), .p (.int 2), .un, .un, .un, .un, .un, .un, .un, .un, .un, .un, .un, .un, .un, .un],
  [.un, .ref 1, .p (.tup [(.str 527765795242087), (.int 4)]), .p (.int 2), .un, .un, .un, .un, .un, .un, .un, .un, .un, .un, .un, .un, .un, .un],
  [.un, .ref 1, .p (.tup [(.str 4705521001015195061105820296020073), (.int 0)]), .p (.int 2), .un, .un, .un, .un, .un, .un, .un, .un, .un, .un, .un, .un, .un, .un]]
def Lfew : List Sl := [[.un, .ref 1, .p (.tup [(.str 527765795242087), (.int 3)]), .p (.int 2), .un, .un, .un, .un, .un, .un, .un, .un, .un, .un, .un, .un, .un, .un],
  [.un, .ref 1, .p (.tup [(.str 527765795242087), (.int 4)]), .p (.int 2), .un, .un, .un, .un, .un, .un, .un, .un, .un, .un, .un, .un, .un, .un]]
def Lnf : List Sl := [[.un, .ref 1, .p (.tup [(.str 536561907138658), (.int 0)]), .p (.int 2), .un, .un, .p (.int 31), .un, .un, .un, .un, .un, .un, .un, .un, .un, .un, .un],
  [.un, .ref 1, .p (.tup [(.str 536561907138658), (.int 0)]), .p (.int 2), .un, .un, .p (.int 32), .un, .un, .un, .un, .un, .un, .un, .un, .un, .un, .un],
  [.un, .ref 1, .p (.tup [(.str 536561907138658), (.int 0)]), .p (.int 2), .un, .un, .p (.int 33), .un, .un, .un, .un, .un, .un, .un, .un, .un, .un, .un],
  [.un, .ref 1, .p (.tup [(.str 536561907138658), (.int 0)]), .p (.int 2), .un, .un, .p (.int 44), .un, .un, .un, .un, .un, .un, .un, .un, .un, .un, .un],
  [.un, .ref 1, .p (.tup [(.str 536561907138658), (.int 0)]), .p (.int 2), .un, .un, .p (.int 45), .un, .un, .un, .un, .un, .un, .un, .un, .un, .un, .un],
  [.un, .ref 1, .p (.tup [(.str 536561907138658), (.int 0)]), .p (.int 2), .un, .un, .p (.int 46), .un, .un, .un, .un, .un, .un, .un, .un, .un, .un, .un],
  [.un, .ref 1, .p (.tup [(.str 536561907138658), (.int 0)]), .p (.int 2), .un, .un, .p (.int 5), .un, .un, .un, .un, .un, .un, .un, .un, .un, .un, .un],
  [.un, .ref 1, .p (.tup [(.str 536561907138658), (.int 0)]), .p (.int 2), .un, .un, .p (.int 6), .un, .un, .un, .un, .un, .un, .un, .un, .un, .un, .un],
  [.un, .ref 1, .p (.tup [(.str 536561907138658), (.int 0)]), .p (.int 2), .un, .un, .p (.int 60), .un, .un, .un, .un, .un, .un, .un, .un, .un, .un, .un],
  [.un, .ref 1, .p (.tup [(.str 2243767400339711069035429987), (.int 0)]), .p (.int 2), .un, .un, .p (.int 31), .un, .un, .un, .un, .un, .un, .un, .un, .un, .un, .un],
  [.un, .ref 1, .p (.tup [(.str 2243767400339711069035429987), (.int 0)]), .p (.int 2), .un, .un, .p (.int 32), .un, .un, .un, .un, .un, .un, .un, .un, .un, .un, .un],
  [.un, .ref 1, .p (.tup [(.str 2243767400339711069035429987), (.int 0)]), .p (.int 2), .un, .un, .p (.int 33), .un, .un, .un, .un, .un, .un, .un, .un, .un, .un, .un],
  [.un, .ref 1, .p (.tup [(.str 2243767400339711069035429987), (.int 0)]), .p (.int 2), .un, .un, .p (.int 44), .un, .un, .un, .un, .un, .un, .un, .un, .un, .un, .un],
  [.un, .ref 1, .p (.tup [(.str 2243767400339711069035429987), (.int 0)]), .p (.int 2), .un, .un, .p (.int 45), .un, .un, .un, .un, .un, .un, .un, .un, .un, .un, .un],
  [.un, .ref 1, .p (.tup [(.str 2243767400339711069035429987), (.int 0)]), .p (.int 2), .un, .un, .p (.int 46), .un, .un, .un, .un, .un, .un, .un, .un, .un, .un, .un],
  [.un, .ref 1, .p (.tup [(.str 2243767400339711069035429987), (.int 0)]), .p (.int 2), .un, .un, .p (.int 5), .un, .un, .un, .un, .un, .un, .un, .un, .un, .un, .un],
  [.un, .ref 1, .p (.tup [(.str 2243767400339711069035429987), (.int 0)]), .p (.int 2), .un, .un, .p (.int 6), .un, .un, .un, .un, .un, .un, .un, .un, .un, .un, .un],
  [.un, .ref 1, .p (.tup [(.str 2243767400339711069035429987), (.int 0)]), .p (.int 2), .un, .un, .p (.int 60), .un, .un, .un, .un, .un, .un, .un, .un, .un, .un, .un],
  [.un, .ref 1, .p (.tup [(.str 2243767252765776071545061481), (.int 0)]), .p (.int 4), .un, .un, .p (.int 31), .un, .un, .un, .un, .un, .un, .un, .un, .un, .un, .un],
  [.un, .ref 1, .p (.tup [(.str 2243767252765776071545061481), (.int 0)]), .p (.int 4), .un, .un, .p (.int 32), .un, .un, .un, .un, .un, .un, .un, .un, .un, .un, .un],
  [.un, .ref 1, .p (.tup [(.str 2243767252765776071545061481), (.int 0)]), .p (.int 4), .un, .un, .p (.int 33), .un, .un, .un, .un, .un, .un, .un, .un, .un, .un, .un],
  [.un, .ref 1, .p (.tup [(.str 2243767252765776071545061481), (.int 0)]), .p (.int 4), .un, .un, .p (.int 44), .un, .un, .un, .un, .un, .un, .un, .un, .un, .un, .un],
  [.un, .ref 1, .p (.tup [(.str 2243767252765776071545061481), (.int 0)]), .p (.int 4), .un, .un, .p (.int 45), .un, .un, .un, .un, .un, .un, .un, .un, .un, .un, .un],
  [.un, .ref 1, .p (.tup [(.str 2243767252765776071545061481), (.int 0)]), .p (.int 4), .un, .un, .p (.int 46), .un, .un, .un, .un, .un, .un, .un, .un, .un, .un, .un],
  [.un, .ref 1, .p (.tup [(.str 2243767252765776071545061481), (.int 0)]), .p (.int 4), .un, .un, .p (.int 5), .un, .un, .un, .un, .un, .un, .un, .un, .un, .un, .un],
  [.un, .ref 1, .p (.tup [(.str 2243767252765776071545061481), (.int 0)]), .p (.int 4), .un, .un, .p (.int 6), .un, .un, .un, .un, .un, .un, .un, .un, .un, .un, .un],
  [.un, .ref 1, .p (.tup [(.str 2243767252765776071545061481), (.int 0)]), .p (.int 4), .un, .un, .p (.int 60), .un, .un, .un, .un, .un, .un, .un, .un, .un, .un, .un],
  [.un, .ref 1, .p (.tup [(.str 4705521001015195061105820296020073), (.int 0)]), .p (.int 2), .un, .un, .un, .un, .un, .un, .un, .un, .un, .un, .un, .un, .un, .un]]
def Lhou : List Sl := [[.un, .ref 1, .p (.tup [(.str 4705521001015195061105820296020073), (.int 0)]), .p (.int 2), .un, .un, .un, .un, .un, .un, .un, .un, .un, .un, .un, .un, .un, .un]]
def Lhf : List Sl := [[.un, .ref 1, .p (.tup [(.str 4705521001015195061105820296020073), (.int 0)]), .p (.int 2), .un, .un, .p (.int 20), .un, .un, .un, .un, .un, .un, .un, .un, .un, .un, .un],
  [.un, .ref 1, .p (.tup [(.str 4705521001015195061105820296020073), (.int 0)]), .p (.int 2), .un, .un, .p (.int 40), .un, .un, .un, .un, .un, .un, .un, .un, .un, .un, .un],
  [.un, .ref 1, .p (.tup [(.str 4705521001015195061105820296020073), (.int 0)]), .p (.int 2), .un, .un, .p (.int 60), .un, .un, .un, .un, .un, .un, .un, .un, .un, .un, .un]]
def Loth : List Sl := [[.un, .ref 1, .p (.tup [(.str 536561907138658), (.int 0)]), .p (.int 2), .un, .un, .p (.int 31), .un, .un, .un, .un, .un, .un, .un, .un, .un, .un, .un],
  [.un, .ref 1, .p (.tup [(.str 536561907138658), (.int 0)]), .p (.int 2), .un, .un, .p (.int 32), .un, .un, .un, .un, .un, .un, .un, .un, .un, .un, .un],
  [.un, .ref 1, .p (.tup [(.str 536561907138658), (.int 0)]), .p (.int 2), .un, .un, .p (.int 33), .un, .un, .un, .un, .un, .un, .un, .un, .un, .un, .un],
  [.un, .ref 1, .p (.tup [(.str 536561907138658), (.int 0)]), .p (.int 2), .un, .un, .p (.int 44), .un, .un, .un, .un, .un, .un, .un, .un, .un, .un, .un],
  [.un, .ref 1, .p (.tup [(.str 536561907138658), (.int 0)]), .p (.int 2), .un, .un, .p (.int 45), .un, .un, .un, .un, .un, .un, .un, .un, .un, .un, .un],
  [.un, .ref 1, .p (.tup [(.str 536561907138658), (.int 0)]), .p (.int 2), .un, .un, .p (.int 46), .un, .un, .un, .un, .un, .un, .un, .un, .un, .un, .un],
  [.un, .ref 1, .p (.tup [(.str 536561907138658), (.int 0)]), .p (.int 2), .un, .un, .p (.int 5), .un, .un, .un, .un, .un, .un, .un, .un, .un, .un, .un],
  [.un, .ref 1, .p (.tup [(.str 536561907138658), (.int 0)]), .p (.int 2), .un, .un, .p (.int 6), .un, .un, .un, .un, .un, .un, .un, .un, .un, .un, .un],
  [.un, .ref 1, .p (.tup [(.str 536561907138658), (.int 0)]), .p (.int 2), .un, .un, .p (.int 60), .un, .un, .un, .un, .un, .un, .un, .un, .un, .un, .un],
  [.un, .ref 1, .p (.tup [(.str 2243767400339711069035429987), (.int 0)]), .p (.int 2), .un, .un, .p (.int 31), .un, .un, .un, .un, .un, .un, .un, .un, .un, .un, .un],
  [.un, .ref 1, .p (.tup [(.str 2243767400339711069035429987), (.int 0)]), .p (.int 2), .un, .un, .p (.int 32), .un, .un, .un, .un, .un, .un, .un, .un, .un, .un, .un],
  [.un, .ref 1, .p (.tup [(.str 2243767400339711069035429987), (.int 0)]), .p (.int 2), .un, .un, .p (.int 33), .un, .un, .un, .un, .un, .un, .un, .un, .un, .un, .un],
  [.un, .ref 1, .p (.tup [(.str 2243767400339711069035429987), (.int 0)]), .p (.int 2), .un, .un, .p (.int 44), .un, .un, .un, .un, .un, .un, .un, .un, .un, .un, .un],
  [.un, .ref 1, .p (.tup [(.str 2243767400339711069035429987), (.int 0)]), .p (.int 2), .un, .un, .p (.int 45), .un, .un, .un, .un, .un, .un, .un, .un, .un, .un, .un],
  [.un, .ref 1, .p (.tup [(.str 2243767400339711069035429987), (.int 0)]), .p (.int 2), .un, .un, .p (.int 46), .un, .un, .un, .un, .un, .un, .un, .un, .un, .un, .un],
  [.un, .ref 1, .p (.tup [(.str 2243767400339711069035429987), (.int 0)]), .p (.int 2), .un, .un, .p (.int 5), .un, .un, .un, .un, .un, .un, .un, .un, .un, .un, .un],
  [.un, .ref 1, .p (.tup [(.str 2243767400339711069035429987), (.int 0)]), .p (.int 2), .un, .un, .p (.int 6), .un, .un, .un, .un, .un, .un, .un, .un, .un, .un, .un],
  [.un, .ref 1, .p (.tup [(.str 2243767400339711069035429987), (.int 0)]), .p (.int 2), .un, .un, .p (.int 60), .un, .un, .un, .un, .un, .un, .un, .un, .un, .un, .un],
  [.un, .ref 1, .p (.tup [(.str 2243767252765776071545061481), (.int 0)]), .p (.int 4), .un, .un, .p (.int 31), .un, .un, .un, .un, .un, .un, .un, .un, .un, .un, .un],
  [.un, .ref 1, .p (.tup [(.str 2243767252765776071545061481), (.int 0)]), .p (.int 4), .un, .un, .p (.int 32), .un, .un, .un, .un, .un, .un, .un, .un, .un, .un, .un],
  [.un, .ref 1, .p (.tup [(.str 2243767252765776071545061481), (.int 0)]), .p (.int 4), .un, .un, .p (.int 33), .un, .un, .un, .un, .un, .un, .un, .un, .un, .un, .un],
  [.un, .ref 1, .p (.tup [(.str 2243767252765776071545061481), (.int 0)]), .p (.int 4), .un, .un, .p (.int 44), .un, .un, .un, .un, .un, .un, .un, .un, .un, .un, .un],
  [.un, .ref 1, .p (.tup [(.str 2243767252765776071545061481), (.int 0)]), .p (.int 4), .un, .un, .p (.int 45), .un, .un, .un, .un, .un, .un, .un, .un, .un, .un, .un],
  [.un, .ref 1, .p (.tup [(.str 2243767252765776071545061481), (.int 0)]), .p (.int 4), .un, .un, .p (.int 46), .un, .un, .un, .un, .un, .un, .un, .un, .un, .un, .un],
  [.un, .ref 1, .p (.tup [(.str 2243767252765776071545061481), (.int 0)]), .p (.int 4), .un, .un, .p (.int 5), .un, .un, .un, .un, .un, .un, .un, .un, .un, .un, .un],
  [.un, .ref 1, .p (.tup [(.str 2243767252765776071545061481), (.int 0)]), .p (.int 4), .un, .un, .p (.int 6), .un, .un, .un, .un, .un, .un, .un, .un, .un, .un, .un],
  [.un, .ref 1, .p (.tup [(.str 2243767252765776071545061481), (.int 0)]), .p (.int 4), .un, .un, .p (.int 60), .un, .un, .un, .un, .un, .un, .un, .un, .un, .un, .un]]
def Lb : List Sl := [[.un, .ref 1, .p (.tup [(.str 536561907138658), (.int 0)]), .p (.int 2), .un, .un, .un, .un, .un, .un, .p (.tup [(.tup [(.str 536561907138658), (.int 0)]), (.tup [(.tup [(.bl true), (.tup [(.tup []), (.tup [])]), (.tup [(.tup [])]), (.tup [(.tup [(.tup []), (.int 0), (.tup [])])])])])]), .p (.tup [(.tup [(.str 536561907138658), (.int 0)]), (.tup [(.tup [(.bl false), (.tup [(.tup []), (.tup [])]), (.tup [(.tup [])]), (.tup [(.tup [(.tup []), (.int 0), (.tup [])])])])])]), .p (.tup [(.tup [(.str 536561907138658), (.int 0)]), (.tup [(.tup [(.bl true), (.tup [(.tup []), (.tup [])]), (.tup [(.tup [])]), (.tup [(.tup [(.tup []), (.int 1), (.tup [])])])]), (.tup [(.bl false), (.tup [(.tup []), (.tup [])]), (.tup [(.tup [])]), (.tup [(.tup [(.tup []), (.int 0), (.tup [])])])])])]), .un, .un, .un, .un, .un],
  [.un, .ref 1, .p (.tup [(.str 527765795242087), (.int 3)]), .p (.int 2), .un, .un, .un, .un, .un, .un, .p (.tup [(.tup [(.str 527765795242087), (.int 3)]), (.tup [(.tup [(.bl true), (.tup [(.tup []), (.tup [])]), (.tup [(.tup [])]), (.tup [(.tup [(.tup []), (.int 0), (.tup [])])])])])]), .p (.tup [(.tup [(.str 527765795242087), (.int 3)]), (.tup [(.tup [(.bl false), (.tup [(.tup []), (.tup [])]), (.tup [(.tup [])]), (.tup [(.tup [(.tup []), (.int 0), (.tup [])])])])])]), .p (.tup [(.tup [(.str 527765795242087), (.int 3)]), (.tup [(.tup [(.bl true), (.tup [(.tup []), (.tup [])]), (.tup [(.tup [])]), (.tup [(.tup [(.tup []), (.int 1), (.tup [])])])]), (.tup [(.bl false), (.tup [(.tup []), (.tup [])]), (.tup [(.tup [])]), (.tup [(.tup [(.tup []), (.int 0), (.tup [])])])])])]), .un, .un, .un, .un, .un],
  [.un, .ref 1, .p (.tup [(.str 527765795242087), (.int 4)]), .p (.int 2), .un, .un, .un, .un, .un, .un, .p (.tup [(.tup [(.str 527765795242087), (.int 4)]), (.tup [(.tup [(.bl true), (.tup [(.tup []), (.tup [])]), (.tup [(.tup [])]), (.tup [(.tup [(.tup []), (.int 0), (.tup [])])])])])]), .p (.tup [(.tup [(.str 527765795242087), (.int 4)]), (.tup [(.tup [(.bl false), (.tup [(.tup []), (.tup [])]), (.tup [(.tup [])]), (.tup [(.tup [(.tup []), (.int 0), (.tup [])])])])])]), .p (.tup [(.tup [(.str 527765795242087), (.int 4)]), (.tup [(.tup [(.bl true), (.tup [(.tup []), (.tup [])]), (.tup [(.tup [])]), (.tup [(.tup [(.tup []), (.int 1), (.tup [])])])]), (.tup [(.bl false), (.tup [(.tup []), (.tup [])]), (.tup [(.tup [])]), (.tup [(.tup [(.tup []), (.int 0), (.tup [])])])])])]), .un, .un, .un, .un, .un],
  [.un, .ref 1, .p (.tup [(.str 2243767400339711069035429987), (.int 0)]), .p (.int 2), .un, .un, .un, .un, .un, .un, .p (.tup [(.tup [(.str 2243767400339711069035429987), (.int 0)]), (.tup [(.tup [(.bl true), (.tup [(.tup []), (.tup [])]), (.tup [(.tup [])]), (.tup [(.tup [(.tup []), (.int 0), (.tup [])])])])])]), .p (.tup [(.tup [(.str 2243767400339711069035429987), (.int 0)]), (.tup [(.tup [(.bl false), (.tup [(.tup []), (.tup [])]), (.tup [(.tup [])]), (.tup [(.tup [(.tup []), (.int 0), (.tup [])])])])])]), .p (.tup [(.tup [(.str 2243767400339711069035429987), (.int 0)]), (.tup [(.tup [(.bl true), (.tup [(.tup []), (.tup [])]), (.tup [(.tup [])]), (.tup [(.tup [(.tup []), (.int 1), (.tup [])])])]), (.tup [(.bl false), (.tup [(.tup []), (.tup [])]), (.tup [(.tup [])]), (.tup [(.tup [(.tup []), (.int 0), (.tup [])])])])])]), .un, .un, .un, .un, .un],
  [.un, .ref 1, .p (.tup [(.str 2243767252765776071545061481), (.int 0)]), .p (.int 4), .un, .un, .un, .un, .un, .un, .p (.tup [(.tup [(.str 2243767252765776071545061481), (.int 0)]), (.tup [(.tup [(.bl true), (.tup [(.tup []), (.tup [])]), (.tup [(.tup [])]), (.tup [(.tup [(.tup []), (.int 0), (.tup [])])])])])]), .p (.tup [(.tup [(.str 2243767252765776071545061481), (.int 0)]), (.tup [(.tup [(.bl false), (.tup [(.tup []), (.tup [])]), (.tup [(.tup [])]), (.tup [(.tup [(.tup []), (.int 0), (.tup [])])])])])]), .p (.tup [(.tup [(.str 2243767252765776071545061481), (.int 0)]), (.tup [(.tup [(.bl true), (.tup [(.tup []), (.tup [])]), (.tup [(.tup [])]), (.tup [(.tup [(.tup []), (.int 1), (.tup [])])])]), (.tup [(.bl false), (.tup [(.tup []), (.tup [])]), (.tup [(.tup [])]), (.tup [(.tup [(.tup []), (.int 0), (.tup [])])])])])]), .un, .un, .un, .un, .un],
  [.un, .ref 1, .p (.tup [(.str 4705521001015195061105820296020073), (.int 0)]), .p (.int 2), .un, .un, .un, .un, .un, .un, .p (.tup [(.tup [(.str 4705521001015195061105820296020073), (.int 0)]), (.tup [(.tup [(.bl true), (.tup [(.tup []), (.tup [])]), (.tup [(.tup [])]), (.tup [(.tup [(.tup []), (.int 0), (.tup [])])])])])]), .p (.tup [(.tup [(.str 4705521001015195061105820296020073), (.int 0)]), (.tup [(.tup [(.bl false), (.tup [(.tup []), (.tup [])]), (.tup [(.tup [])]), (.tup [(.tup [(.tup []), (.int 0), (.tup [])])])])])]), .p (.tup [(.tup [(.str 4705521001015195061105820296020073), (.int 0)]), (.tup [(.tup [(.bl true), (.tup [(.tup []), (.tup [])]), (.tup [(.tup [])]), (.tup [(.tup [(.tup []), (.int 1), (.tup [])])])]), (.tup [(.bl false), (.tup [(.tup []), (.tup [])]), (.tup [(.tup [])]), (.tup [(.tup [(.tup []), (.int 0), (.tup [])])])])])]), .un, .un, .un, .un, .un]]
def Lc : List Sl := [[.un, .ref 1, .p (.tup [(.str 536561907138658), (.int 0)]), .p (.int 2), .un, .un, .un, .un, .un, .un, .p (.tup [(.tup [(.str 536561907138658), (.int 0)]), (.tup [(.tup [(.bl true), (.tup [(.tup []), (.tup [])]), (.tup [(.tup [])]), (.tup [(.tup [(.tup []), (.int 0), (.tup [])])])])])]), .p (.tup [(.tup [(.str 536561907138658), (.int 0)]), (.tup [(.tup [(.bl false), (.tup [(.tup []), (.tup [])]), (.tup [(.tup [])]), (.tup [(.tup [(.tup []), (.int 0), (.tup [])])])])])]), .p (.tup [(.tup [(.str 536561907138658), (.int 0)]), (.tup [(.tup [(.bl true), (.tup [(.tup []), (.tup [])]), (.tup [(.tup [])]), (.tup [(.tup [(.tup []), (.int 1), (.tup [])])])]), (.tup [(.bl false), (.tup [(.tup []), (.tup [])]), (.tup [(.tup [])]), (.tup [(.tup [(.tup []), (.int 0), (.tup [])])])])])]), .un, .un, .un, .un, .un],
  [.un, .ref 1, .p (.tup [(.str 2243767400339711069035429987), (.int 0)]), .p (.int 2), .un, .un, .un, .un, .un, .un, .p (.tup [(.tup [(.str 2243767400339711069035429987), (.int 0)]), (.tup [(.tup [(.bl true), (.tup [(.tup []), (.tup [])]), (.tup [(.tup [])]), (.tup [(.tup [(.tup []), (.int 0), (.tup [])])])])])]), .p (.tup [(.tup [(.str 2243767400339711069035429987), (.int 0)]), (.tup [(.tup [(.bl false), (.tup [(.tup []), (.tup [])]), (.tup [(.tup [])]), (.tup [(.tup [(.tup []), (.int 0), (.tup [])])])])])]), .p (.tup [(.tup [(.str 2243767400339711069035429987), (.int 0)]), (.tup [(.tup [(.bl true), (.tup [(.tup []), (.tup [])]), (.tup [(.tup [])]), (.tup [(.tup [(.tup []), (.int 1), (.tup [])])])]), (.tup [(.bl false), (.tup [(.tup []), (.tup [])]), (.tup [(.tup [])]), (.tup [(.tup [(.tup []), (.int 0), (.tup [])])])])])]), .un, .un, .un, .un, .un],
  [.un, .ref 1, .p (.tup [(.str 2243767252765776071545061481), (.int 0)]), .p (.int 4), .un, .un, .un, .un, .un, .un, .p (.tup [(.tup [(.str 2243767252765776071545061481), (.int 0)]), (.tup [(.tup [(.bl true), (.tup [(.tup []), (.tup [])]), (.tup [(.tup [])]), (.tup [(.tup [(.tup []), (.int 0), (.tup [])])])])])]), .p (.tup [(.tup [(.str 2243767252765776071545061481), (.int 0)]), (.tup [(.tup [(.bl false), (.tup [(.tup []), (.tup [])]), (.tup [(.tup [])]), (.tup [(.tup [(.tup []), (.int 0), (.tup [])])])])])]), .p (.tup [(.tup [(.str 2243767252765776071545061481), (.int 0)]), (.tup [(.tup [(.bl true), (.tup [(.tup []), (.tup [])]), (.tup [(.tup [])]), (.tup [(.tup [(.tup []), (.int 1), (.tup [])])])]), (.tup [(.bl false), (.tup [(.tup []), (.tup [])]), (.tup [(.tup [])]), (.tup [(.tup [(.tup []), (.int 0), (.tup [])])])])])]), .un, .un, .un, .un, .un]]
def mm : Mem := m0T NT
theorem e_g1 : allS (fun σ => g1 σ mm k0 (cutK La mm)) L0 = true := by decide +kernel
theorem e_g2 : allS (fun σ => g2 σ mm k0 (cutK La mm)) La = true := by decide +kernel
theorem e_g3 : allS (fun σ => g3 σ mm k0 (cutK Lf mm)) La = true := by decide +kernel
theorem e_c4 : allS (fun σ => c4 σ mm xF (ifK Lfew Lnf mm σ)) Lf = true := by decide +kernel
theorem e_g5 : allS (fun σ => g5 σ mm k0 (cutK La mm)) Lfew = true := by decide +kernel
theorem e_c6 : allS (fun σ => c6 σ mm xF (ifK Lhou Loth mm σ)) Lnf = true := by decide +kernel
theorem e_g7 : allS (fun σ => g7 σ mm k0 (cutK Lhf mm)) Lhou = true := by decide +kernel
theorem e_g8 : allS (fun σ => g8 σ mm k0 (cutK Lhou mm)) Lhf = true := by decide +kernel
theorem e_g9 : allS (fun σ => g9 σ mm k0 (cutK La mm)) Lhou = true := by decide +kernel
theorem e_g10 : allS (fun σ => g10 σ mm k0 (cutK Loth mm)) Loth = true := by decide +kernel
theorem e_g11 : allS (fun σ => g11 σ mm k0 (cutK La mm)) Loth = true := by decide +kernel
theorem e_g12 : allS (fun σ => g12 σ mm k0 (cutK Lb mm)) La = true := by decide +kernel
theorem e_g13 : allS (fun σ => g13 σ mm k0 (cutK Lc mm)) Lb = true := by decide +kernel
theorem e_g14 : allS (fun σ => g14 σ mm k0 (cutK Lc mm)) Lc = true := by decide +kernel
theorem e_g15 : allS (fun σ => g15 σ mm k0 (fun _ _ => false)) Lc = true := by decide +kernel
abbrev Pr : Program := PySem.Challenge.pw_guestwebs_k46_webs_counted_by_listing
def clsM (i j : Nat) : Stmt := match top i with
  | .ClassDef _ _ _ body _ _ _ _ _ _ _ => body.getD j (.Pass ⟨0, 0, 0, 0⟩)
  | st => st
def dTG : PBH.IniD := ⟨"TooGreat", ["number"], "TooGreat.__init__", defArgs (clsM 2 0), defBody (clsM 2 0), defScope (clsM 2 0)⟩
def dRF : PBH.IniD := ⟨"Refused", ["word", "place"], "Refused.__init__", defArgs (clsM 3 0), defBody (clsM 3 0), defScope (clsM 3 0)⟩
def tabT (K : PySem.W.Frag) : Tab := ⟨fun i => match i with
  | 0 => some (He.ga K "TooGreat")
  | 1 => some (He.ga K "Refused")
  | _ => none, fun i => match i with
  | 0 => ["number"]
  | 1 => ["word", "place"]
  | _ => []⟩
def chkE (K : PySem.W.Frag) : Bool := PBH.xtB K Pr.main.file dTG && (PBH.xtB K Pr.main.file dRF && (PBH.noDigB K && (xfB K (He.ga K "TooGreat") && (xfB K (He.ga K "Refused") &&
  (PBH.eqB (PySem.W.exmOne K (.ref (He.ga K "Refused")) (.ref (He.ga K "Refused"))) (some true) && (PBH.eqB (PySem.W.exmOne K (.ref (He.ga K "TooGreat")) (.ref (He.ga K "Refused"))) (some false) && PBH.eqB (PySem.W.exmOne K (.ref (He.ga K "TooGreat")) (.ref (He.ga K "TooGreat"))) (some true)))))))
theorem xf_of {w : World} {K : PySem.W.Frag} {h : Heap} {mg : Str → Option Value} (X : K.In h) (G : h.Ns mainGlobals mg) (e1 : PBH.fnC K dTG.at_ = dTG.val) (e2 : PBH.fnC K dRF.at_ = dRF.val) (c : chkE K = true) : PBX.XFacts Pr K mg (tabT K) ∧ PBX.XFacts2 K (tabT K) := by
  obtain ⟨c1, c⟩ := PBH.ba c
  obtain ⟨c2, c⟩ := PBH.ba c
  obtain ⟨c3, c⟩ := PBH.ba c
  obtain ⟨c4, c⟩ := PBH.ba c
  obtain ⟨c5, c⟩ := PBH.ba c
  obtain ⟨c6, c⟩ := PBH.ba c
  obtain ⟨c7, c8⟩ := PBH.ba c
  have x1 := PBH.xt_of X G e1 c1 (by decide +kernel)
  have x2 := PBH.xt_of X G e2 c2 (by decide +kernel)
  refine ⟨⟨⟨_, _, _, _, _, _, _, _, _, _, _, _, _, _, _, x1, rfl, rfl, rfl⟩, ⟨_, _, _, _, _, _, _, _, _, _, _, _, _, _, _, _, _, _, _, _, _, x2, rfl, rfl, rfl⟩, PBH.noDigB_ok c3⟩, ⟨fun C e => ?_, fun C e => ?_, fun C e => ?_, fun C1 C2 e1 e2 => ?_, fun C e => ?_⟩⟩
  · obtain rfl := Option.some.inj e
    exact xfB_ok c5
  · obtain rfl := Option.some.inj e
    exact xfB_ok c4
  · obtain rfl := Option.some.inj e
    exact of_decide_eq_true c6
  · obtain rfl := Option.some.inj e1
    obtain rfl := Option.some.inj e2
    exact of_decide_eq_true c7
  · obtain rfl := Option.some.inj e
    exact of_decide_eq_true c8

def dd__law_source : He.DefD := ⟨("_law_source", none), "_law_source", "_law_source", defArgs s__law_source, defBody s__law_source, defScope s__law_source, [], []⟩
def dd__law_pick : He.DefD := ⟨("_law_pick", none), "_law_pick", "_law_pick", defArgs s__law_pick, defBody s__law_pick, defScope s__law_pick, [], []⟩
def dd__law_told : He.DefD := ⟨("_law_told", none), "_law_told", "_law_told", defArgs s__law_told, defBody s__law_told, defScope s__law_told, [], []⟩
def dd__law_turned : He.DefD := ⟨("_law_turned", none), "_law_turned", "_law_turned", defArgs s__law_turned, defBody s__law_turned, defScope s__law_turned, [], []⟩
def dd__law_power : He.DefD := ⟨("_law_power", none), "_law_power", "_law_power", defArgs s__law_power, defBody s__law_power, defScope s__law_power, [], []⟩
def dd__law_worlds : He.DefD := ⟨("_law_worlds", none), "_law_worlds", "_law_worlds", defArgs s__law_worlds, defBody s__law_worlds, defScope s__law_worlds, [], []⟩
def dd_web_with : He.DefD := ⟨("web_with", none), "web_with", "web_with", defArgs s_web_with, defBody s_web_with, defScope s_web_with, [], []⟩
def dd_tie_turned : He.DefD := ⟨("tie_turned", none), "tie_turned", "tie_turned", defArgs s_tie_turned, defBody s_tie_turned, defScope s_tie_turned, [], []⟩
def dd_pair_place : He.DefD := ⟨("pair_place", none), "pair_place", "pair_place", defArgs s_pair_place, defBody s_pair_place, defScope s_pair_place, [], []⟩
def dd_ties_many : He.DefD := ⟨("ties_many", none), "ties_many", "ties_many", defArgs s_ties_many, defBody s_ties_many, defScope s_ties_many, [], []⟩
def dd_not_long : He.DefD := ⟨("not_long", none), "not_long", "not_long", defArgs s_not_long, defBody s_not_long, defScope s_not_long, [], []⟩
def dd__law_due : He.DefD := ⟨("_law_due", none), "_law_due", "_law_due", defArgs s__law_due, defBody s__law_due, defScope s__law_due, [], []⟩
def dd_new_cases : He.DefD := ⟨("new_cases", none), "new_cases", "new_cases", defArgs s_new_cases, defBody s_new_cases, defScope s_new_cases, [], []⟩
def dd_power : He.DefD := ⟨("power", none), "power", "power", defArgs s_power, defBody s_power, defScope s_power, [], []⟩
def dd__law_houses_many : He.DefD := ⟨("_law_houses_many", none), "_law_houses_many", "_law_houses_many", defArgs s__law_houses_many, defBody s__law_houses_many, defScope s__law_houses_many, [], []⟩
def dd__law_of : He.DefD := ⟨("_law_of", none), "_law_of", "_law_of", defArgs s__law_of, defBody s__law_of, defScope s__law_of, [], []⟩
def dd__law_tie : He.DefD := ⟨("_law_tie", none), "_law_tie", "_law_tie", defArgs s__law_tie, defBody s__law_tie, defScope s__law_tie, [], []⟩
def dd_tie_seen : He.DefD := ⟨("tie_seen", none), "tie_seen", "tie_seen", defArgs s_tie_seen, defBody s_tie_seen, defScope s_tie_seen, [], []⟩
def dd_house_webs : He.DefD := ⟨("house_webs", none), "house_webs", "house_webs", defArgs s_house_webs, defBody s_house_webs, defScope s_house_webs, [], []⟩
def dd_free_webs : He.DefD := ⟨("free_webs", none), "free_webs", "free_webs", defArgs s_free_webs, defBody s_free_webs, defScope s_free_webs, [], []⟩
def dd_living_modes : He.DefD := ⟨("living_modes", none), "living_modes", "living_modes", defArgs s_living_modes, defBody s_living_modes, defScope s_living_modes, [], []⟩
def dd__law_is_of : He.DefD := ⟨("_law_is_of", none), "_law_is_of", "_law_is_of", defArgs s__law_is_of, defBody s__law_is_of, defScope s__law_is_of, [], []⟩
def dd_of_house : He.DefD := ⟨("of_house", none), "of_house", "of_house", defArgs s_of_house, defBody s_of_house, defScope s_of_house, [], []⟩
def dd_has_tied : He.DefD := ⟨("has_tied", none), "has_tied", "has_tied", defArgs s_has_tied, defBody s_has_tied, defScope s_has_tied, [], []⟩
def dd_letwebs_many : He.DefD := ⟨("letwebs_many", none), "letwebs_many", "letwebs_many", defArgs s_letwebs_many, defBody s_letwebs_many, defScope s_letwebs_many, [], []⟩
def dd__law_listed : He.DefD := ⟨("_law_listed", none), "_law_listed", "_law_listed", defArgs s__law_listed, defBody s__law_listed, defScope s__law_listed, [], []⟩
def dd_may_come : He.DefD := ⟨("may_come", none), "may_come", "may_come", defArgs s_may_come, defBody s_may_come, defScope s_may_come, [], []⟩
def dd_new_ties : He.DefD := ⟨("new_ties", none), "new_ties", "new_ties", defArgs s_new_ties, defBody s_new_ties, defScope s_new_ties, [], []⟩
def dd_few_webs : He.DefD := ⟨("few_webs", none), "few_webs", "few_webs", defArgs s_few_webs, defBody s_few_webs, defScope s_few_webs, [], []⟩
def dd_webs_many : He.DefD := ⟨("webs_many", none), "webs_many", "webs_many", defArgs s_webs_many, defBody s_webs_many, defScope s_webs_many, [], []⟩
def dd_law : He.DefD := ⟨("law", none), "law", "law", defArgs s_law, defBody s_law, defScope s_law, [], []⟩
def fnl : List He.DefD := [dd__law_source, dd__law_pick, dd__law_told, dd__law_turned, dd__law_power, dd__law_worlds, dd_web_with, dd_tie_turned, dd_pair_place, dd_ties_many, dd_not_long, dd__law_due, dd_new_cases, dd_power, dd__law_houses_many, dd__law_of, dd__law_tie, dd_tie_seen, dd_house_webs, dd_free_webs, dd_living_modes, dd__law_is_of, dd_of_house, dd_has_tied, dd_letwebs_many, dd__law_listed, dd_may_come, dd_new_ties, dd_few_webs, dd_webs_many, dd_law]
def fal0 : List He.Fa := [.glo "_law_source", .glo "_law_pick", .glo "_law_told", .glo "_law_turned", .glo "_law_power", .glo "_law_worlds", .glo "web_with", .glo "tie_turned", .glo "pair_place", .glo "ties_many", .glo "not_long", .glo "_law_due", .glo "new_cases", .glo "power", .glo "_law_houses_many", .glo "_law_of", .glo "_law_tie", .glo "tie_seen", .glo "house_webs", .glo "free_webs", .glo "living_modes", .glo "_law_is_of", .glo "of_house", .glo "has_tied", .glo "letwebs_many", .glo "_law_listed", .glo "may_come", .glo "new_ties", .glo "few_webs", .glo "webs_many"]
def fal1 : List He.Fa := [.glo "law", .free "abs", .free "all", .free "dict", .free "enumerate", .free "int", .free "len", .free "list", .free "max", .free "range", .free "repr", .free "str", .free "sum"]
def fal : List He.Fa := fal0 ++ fal1
def chkL (K : PySem.W.Frag) : Bool := PBH.litB K "BEATS" (.str 2243767400339711069035429987) && (PBH.litB K "HEEDS" (.str 2243767252765776071545061481) && (PBH.litB K "TURNED_HEEDS" (.tup [(.int 0), (.int 2), (.int 1), (.int 3)]) && (PBH.litB K "FEW" (.str 527765795242087) && (PBH.litB K "HOUSES" (.str 4705521001015195061105820296020073) && (PBH.litB K "HOUSE" (.int 1) && (PBH.litB K "GUEST" (.int 0) && (PBH.litB K "MOST_LISTED" (.int 5) && (PBH.litB K "WIDE_LIST" (.int 4) && (PBH.litB K "NO_WEB" (.tup [(.tup []), (.tup [])]) && (PBH.litB K "MOST_FIGURES" (.int 300) && (PBH.litB K "LONG_NUMBER" (.int 5) && (PBH.litB K "COUNTED" (.str 8592133902367518457549088723767062954084) && (PBH.litB K "MOST_COMINGS" (.int 100) && (PBH.litB K "LONG_ROW" (.int 3) && (true)))))))))))))))
def chk (K : PySem.W.Frag) : Bool := chkE K && chkL K
def ask : PBH.Ask := ⟨5, fal, fnl, [dTG, dRF], chk, [("law", none)]⟩
abbrev R : PySem.W.OpenRow := PySem.W.OpenLaw.row PySem.Challenge.rw_guestwebs_k46_webs_counted_by_listing
abbrev hk : PySem.W.Hook := PBH.hookX ask
def ob (s : PySem.W.SharedT) : PBH.AlX := PBH.obsX ask (HandSHeadRun.getT s)
theorem ob_eq (s : PySem.W.SharedT) : ob s = hk.obs s.abs := PBH.obsX_eq (HandSHeadRun.getT_eq s)
def lo0 : List Str := ["GuestError", "TooGreat", "Refused", "FEW", "BEATS", "HEEDS", "HOUSES", "TURNED_HEEDS", "ties_many", "tie_turned", "NO_WEB", "GUEST", "HOUSE", "pair_place", "tie_seen", "web_with", "has_tied", "of_house", "may_come", "new_ties", "MOST_FIGURES", "LONG_NUMBER", "MOST_LISTED", "WIDE_LIST", "MOST_COMINGS", "LONG_ROW", "COUNTED", "not_long", "power", "free_webs"]
def lo1 : List Str := ["house_webs", "few_webs", "webs_many", "living_modes", "new_cases", "letwebs_many", "_law_source", "_law_pick", "_law_of", "_law_worlds", "_law_turned", "_law_tie", "_law_is_of", "_law_listed", "_law_houses_many", "_law_power", "_law_told", "_law_due"]
def lo : List Str := lo0 ++ lo1
theorem run (w : World) : HandSHeadRun.RunEq R (PySem.W.view R.prog [54]) hk ob 4000 lo w := by
  intro os
  kernel_rfl
theorem facts {w : World} {K : PySem.W.Frag} {h : Heap} {mg : Str → Option Value} {fa : Addr} (X : K.In h) (G : h.Ns mainGlobals mg) (hfa : mg ("law" : Str) = some (.ref fa)) (c : PBH.Says ask K h) : PB.LawC PySem.Challenge.rw_guestwebs_k46_webs_counted_by_listing w K 63 "script" mg fa h := by
  obtain ⟨cA, A, tf⟩ := c.tabs ("law", none) (.head _)
  letI : PB.TBL := ⟨[(A, "law" ++ ".<locals>." ++ "<lambda>")]⟩
  obtain ⟨fd__law_source, F__law_source⟩ := c.def_ 0 (d := dd__law_source) rfl
  have g__law_source : mg ("_law_source" : Str) = some (.ref (He.ga K "_law_source")) := He.glo_ok X G (c.fact 0 (f := .glo "_law_source") rfl)
  obtain ⟨fd__law_pick, F__law_pick⟩ := c.def_ 1 (d := dd__law_pick) rfl
  have g__law_pick : mg ("_law_pick" : Str) = some (.ref (He.ga K "_law_pick")) := He.glo_ok X G (c.fact 1 (f := .glo "_law_pick") rfl)
  obtain ⟨fd__law_told, F__law_told⟩ := c.def_ 2 (d := dd__law_told) rfl
  have g__law_told : mg ("_law_told" : Str) = some (.ref (He.ga K "_law_told")) := He.glo_ok X G (c.fact 2 (f := .glo "_law_told") rfl)
  obtain ⟨fd__law_turned, F__law_turned⟩ := c.def_ 3 (d := dd__law_turned) rfl
  have g__law_turned : mg ("_law_turned" : Str) = some (.ref (He.ga K "_law_turned")) := He.glo_ok X G (c.fact 3 (f := .glo "_law_turned") rfl)
  obtain ⟨fd__law_power, F__law_power⟩ := c.def_ 4 (d := dd__law_power) rfl
  have g__law_power : mg ("_law_power" : Str) = some (.ref (He.ga K "_law_power")) := He.glo_ok X G (c.fact 4 (f := .glo "_law_power") rfl)
  obtain ⟨fd__law_worlds, F__law_worlds⟩ := c.def_ 5 (d := dd__law_worlds) rfl
  have g__law_worlds : mg ("_law_worlds" : Str) = some (.ref (He.ga K "_law_worlds")) := He.glo_ok X G (c.fact 5 (f := .glo "_law_worlds") rfl)
  obtain ⟨fd_web_with, F_web_with⟩ := c.def_ 6 (d := dd_web_with) rfl
  have g_web_with : mg ("web_with" : Str) = some (.ref (He.ga K "web_with")) := He.glo_ok X G (c.fact 6 (f := .glo "web_with") rfl)
  obtain ⟨fd_tie_turned, F_tie_turned⟩ := c.def_ 7 (d := dd_tie_turned) rfl
  have g_tie_turned : mg ("tie_turned" : Str) = some (.ref (He.ga K "tie_turned")) := He.glo_ok X G (c.fact 7 (f := .glo "tie_turned") rfl)
  obtain ⟨fd_pair_place, F_pair_place⟩ := c.def_ 8 (d := dd_pair_place) rfl
  have g_pair_place : mg ("pair_place" : Str) = some (.ref (He.ga K "pair_place")) := He.glo_ok X G (c.fact 8 (f := .glo "pair_place") rfl)
  obtain ⟨fd_ties_many, F_ties_many⟩ := c.def_ 9 (d := dd_ties_many) rfl
  have g_ties_many : mg ("ties_many" : Str) = some (.ref (He.ga K "ties_many")) := He.glo_ok X G (c.fact 9 (f := .glo "ties_many") rfl)
  obtain ⟨fd_not_long, F_not_long⟩ := c.def_ 10 (d := dd_not_long) rfl
  have g_not_long : mg ("not_long" : Str) = some (.ref (He.ga K "not_long")) := He.glo_ok X G (c.fact 10 (f := .glo "not_long") rfl)
  obtain ⟨fd__law_due, F__law_due⟩ := c.def_ 11 (d := dd__law_due) rfl
  have g__law_due : mg ("_law_due" : Str) = some (.ref (He.ga K "_law_due")) := He.glo_ok X G (c.fact 11 (f := .glo "_law_due") rfl)
  obtain ⟨fd_new_cases, F_new_cases⟩ := c.def_ 12 (d := dd_new_cases) rfl
  have g_new_cases : mg ("new_cases" : Str) = some (.ref (He.ga K "new_cases")) := He.glo_ok X G (c.fact 12 (f := .glo "new_cases") rfl)
  obtain ⟨fd_power, F_power⟩ := c.def_ 13 (d := dd_power) rfl
  have g_power : mg ("power" : Str) = some (.ref (He.ga K "power")) := He.glo_ok X G (c.fact 13 (f := .glo "power") rfl)
  obtain ⟨fd__law_houses_many, F__law_houses_many⟩ := c.def_ 14 (d := dd__law_houses_many) rfl
  have g__law_houses_many : mg ("_law_houses_many" : Str) = some (.ref (He.ga K "_law_houses_many")) := He.glo_ok X G (c.fact 14 (f := .glo "_law_houses_many") rfl)
  obtain ⟨fd__law_of, F__law_of⟩ := c.def_ 15 (d := dd__law_of) rfl
  have g__law_of : mg ("_law_of" : Str) = some (.ref (He.ga K "_law_of")) := He.glo_ok X G (c.fact 15 (f := .glo "_law_of") rfl)
  obtain ⟨fd__law_tie, F__law_tie⟩ := c.def_ 16 (d := dd__law_tie) rfl
  have g__law_tie : mg ("_law_tie" : Str) = some (.ref (He.ga K "_law_tie")) := He.glo_ok X G (c.fact 16 (f := .glo "_law_tie") rfl)
  obtain ⟨fd_tie_seen, F_tie_seen⟩ := c.def_ 17 (d := dd_tie_seen) rfl
  have g_tie_seen : mg ("tie_seen" : Str) = some (.ref (He.ga K "tie_seen")) := He.glo_ok X G (c.fact 17 (f := .glo "tie_seen") rfl)
  obtain ⟨fd_house_webs, F_house_webs⟩ := c.def_ 18 (d := dd_house_webs) rfl
  have g_house_webs : mg ("house_webs" : Str) = some (.ref (He.ga K "house_webs")) := He.glo_ok X G (c.fact 18 (f := .glo "house_webs") rfl)
  obtain ⟨fd_free_webs, F_free_webs⟩ := c.def_ 19 (d := dd_free_webs) rfl
  have g_free_webs : mg ("free_webs" : Str) = some (.ref (He.ga K "free_webs")) := He.glo_ok X G (c.fact 19 (f := .glo "free_webs") rfl)
  obtain ⟨fd_living_modes, F_living_modes⟩ := c.def_ 20 (d := dd_living_modes) rfl
  have g_living_modes : mg ("living_modes" : Str) = some (.ref (He.ga K "living_modes")) := He.glo_ok X G (c.fact 20 (f := .glo "living_modes") rfl)
  obtain ⟨fd__law_is_of, F__law_is_of⟩ := c.def_ 21 (d := dd__law_is_of) rfl
  have g__law_is_of : mg ("_law_is_of" : Str) = some (.ref (He.ga K "_law_is_of")) := He.glo_ok X G (c.fact 21 (f := .glo "_law_is_of") rfl)
  obtain ⟨fd_of_house, F_of_house⟩ := c.def_ 22 (d := dd_of_house) rfl
  have g_of_house : mg ("of_house" : Str) = some (.ref (He.ga K "of_house")) := He.glo_ok X G (c.fact 22 (f := .glo "of_house") rfl)
  obtain ⟨fd_has_tied, F_has_tied⟩ := c.def_ 23 (d := dd_has_tied) rfl
  have g_has_tied : mg ("has_tied" : Str) = some (.ref (He.ga K "has_tied")) := He.glo_ok X G (c.fact 23 (f := .glo "has_tied") rfl)
  obtain ⟨fd_letwebs_many, F_letwebs_many⟩ := c.def_ 24 (d := dd_letwebs_many) rfl
  have g_letwebs_many : mg ("letwebs_many" : Str) = some (.ref (He.ga K "letwebs_many")) := He.glo_ok X G (c.fact 24 (f := .glo "letwebs_many") rfl)
  obtain ⟨fd__law_listed, F__law_listed⟩ := c.def_ 25 (d := dd__law_listed) rfl
  have g__law_listed : mg ("_law_listed" : Str) = some (.ref (He.ga K "_law_listed")) := He.glo_ok X G (c.fact 25 (f := .glo "_law_listed") rfl)
  obtain ⟨fd_may_come, F_may_come⟩ := c.def_ 26 (d := dd_may_come) rfl
  have g_may_come : mg ("may_come" : Str) = some (.ref (He.ga K "may_come")) := He.glo_ok X G (c.fact 26 (f := .glo "may_come") rfl)
  obtain ⟨fd_new_ties, F_new_ties⟩ := c.def_ 27 (d := dd_new_ties) rfl
  have g_new_ties : mg ("new_ties" : Str) = some (.ref (He.ga K "new_ties")) := He.glo_ok X G (c.fact 27 (f := .glo "new_ties") rfl)
  obtain ⟨fd_few_webs, F_few_webs⟩ := c.def_ 28 (d := dd_few_webs) rfl
  have g_few_webs : mg ("few_webs" : Str) = some (.ref (He.ga K "few_webs")) := He.glo_ok X G (c.fact 28 (f := .glo "few_webs") rfl)
  obtain ⟨fd_webs_many, F_webs_many⟩ := c.def_ 29 (d := dd_webs_many) rfl
  have g_webs_many : mg ("webs_many" : Str) = some (.ref (He.ga K "webs_many")) := He.glo_ok X G (c.fact 29 (f := .glo "webs_many") rfl)
  obtain ⟨fd_law, F_law⟩ := c.def_ 30 (d := dd_law) rfl
  have g_law : mg ("law" : Str) = some (.ref (He.ga K "law")) := He.glo_ok X G (c.fact 30 (f := .glo "law") rfl)
  have efa := hfa.symm.trans g_law
  obtain rfl := Value.ref.inj (Option.some.inj efa)
  obtain ⟨hx, hy⟩ := xf_of (w := w) X G (c.ini 0 rfl) (c.ini 1 rfl) (PBH.ba c.chk).1
  have cl : chkL K = true := (PBH.ba c.chk).2
  obtain ⟨l_BEATS, cl⟩ := PBH.ba cl
  obtain ⟨l_HEEDS, cl⟩ := PBH.ba cl
  obtain ⟨l_TURNED_HEEDS, cl⟩ := PBH.ba cl
  obtain ⟨l_FEW, cl⟩ := PBH.ba cl
  obtain ⟨l_HOUSES, cl⟩ := PBH.ba cl
  obtain ⟨l_HOUSE, cl⟩ := PBH.ba cl
  obtain ⟨l_GUEST, cl⟩ := PBH.ba cl
  obtain ⟨l_MOST_LISTED, cl⟩ := PBH.ba cl
  obtain ⟨l_WIDE_LIST, cl⟩ := PBH.ba cl
  obtain ⟨l_NO_WEB, cl⟩ := PBH.ba cl
  obtain ⟨l_MOST_FIGURES, cl⟩ := PBH.ba cl
  obtain ⟨l_LONG_NUMBER, cl⟩ := PBH.ba cl
  obtain ⟨l_COUNTED, cl⟩ := PBH.ba cl
  obtain ⟨l_MOST_COMINGS, cl⟩ := PBH.ba cl
  obtain ⟨l_LONG_ROW, cl⟩ := PBH.ba cl
  have hF : Facts K mg := ⟨PBH.litB_ok X G l_BEATS, PBH.litB_ok X G l_HEEDS, PBH.litB_ok X G l_TURNED_HEEDS, PBH.litB_ok X G l_FEW, PBH.litB_ok X G l_HOUSES, PBH.litB_ok X G l_HOUSE, PBH.litB_ok X G l_GUEST, PBH.litB_ok X G l_MOST_LISTED, PBH.litB_ok X G l_WIDE_LIST, PBH.litB_ok X G l_NO_WEB, PBH.litB_ok X G l_MOST_FIGURES, PBH.litB_ok X G l_LONG_NUMBER, PBH.litB_ok X G l_COUNTED, PBH.litB_ok X G l_MOST_COMINGS, PBH.litB_ok X G l_LONG_ROW, He.free_ok X G (c.fact 31 (f := .free "abs") rfl), He.free_ok X G (c.fact 32 (f := .free "all") rfl), He.free_ok X G (c.fact 33 (f := .free "dict") rfl), He.free_ok X G (c.fact 34 (f := .free "enumerate") rfl), He.free_ok X G (c.fact 35 (f := .free "int") rfl), He.free_ok X G (c.fact 36 (f := .free "len") rfl), He.free_ok X G (c.fact 37 (f := .free "list") rfl), He.free_ok X G (c.fact 38 (f := .free "max") rfl), He.free_ok X G (c.fact 39 (f := .free "range") rfl), He.free_ok X G (c.fact 40 (f := .free "repr") rfl), He.free_ok X G (c.fact 41 (f := .free "str") rfl), He.free_ok X G (c.fact 42 (f := .free "sum") rfl)⟩
  have bnd := FunD.bindsA (ps := ["script"]) F_law fun _ _ _ _ _ _ us hl => match us, hl with | [_], _ => rfl
  refine ⟨fd_law, [(cA, A)], spLawT K, fun p hp => (by
      obtain rfl := List.mem_singleton.mp hp
      exact tf.tab), fun p hp => (by
      obtain rfl := List.mem_singleton.mp hp
      exact tf.non), fun p hp => (by
      obtain rfl := List.mem_singleton.mp hp
      exact tf.hd), fun s u => bnd s [u] rfl, fun H a ns hl _ ht hS => ⟨a, ns, rfl, hS, hl, ⟨fun p hp => (by
      obtain rfl := List.mem_singleton.mp hp
      exact ht (cA, A) (.head _)), show ([A] : List Addr).Nodup by simp⟩, fun _ => rfl⟩, fun base kb gb tb => ?_⟩
  have k__law_pick : Kn Pr w K mg base (tabT K) 1 "_law_pick" ["source", "many"] m__law_pick := ⟨_, fd__law_pick, ok__law_pick F__law_pick hF, g__law_pick, F__law_pick.kp, F__law_pick.bindsN (ps := ["source", "many"]) fun _ _ _ _ _ _ us hl => match us, hl with | [_, _], _ => rfl⟩
  have k__law_source : ∃ f fd, FnOk Pr w K mg base (L2.CX Pr w) 1 f fd ["script"] (spSource K) ∧ mg "_law_source" = some (.ref f) ∧ PySem.W.keepIn K (.ref f) = true ∧ Binds K fd ["script"] [] := ⟨_, fd__law_source, ok__law_source F__law_source hF, g__law_source, F__law_source.kp, F__law_source.bindsN (ps := ["script"]) fun _ _ _ _ _ _ us hl => match us, hl with | [_], _ => rfl⟩
  have td : PBX.TellsAt K mg s__law_told := ⟨_, fd__law_told, F__law_told, g__law_told, F__law_told.bindsN (ps := ["call"]) fun _ _ _ _ _ _ us hl => match us, hl with | [_], _ => rfl, sc__law_told, told_is⟩
  have ht : PBX.TabAt base mg cA ("law" ++ ".<locals>." ++ "<lambda>") := ⟨A, tb (cA, A) (.head _), .head _, fun p hp _ => by
    obtain rfl := List.mem_singleton.mp hp
    rfl⟩
  have k__law_turned : Kn Pr w K mg base (tabT K) 1 "_law_turned" ["world", "tie"] m__law_turned := ⟨_, fd__law_turned, ok__law_turned F__law_turned hF hx , g__law_turned, F__law_turned.kp, F__law_turned.bindsN (ps := ["world", "tie"]) fun _ _ _ _ _ _ us hl => match us, hl with | [_, _], _ => rfl⟩
  have k__law_power : Kn Pr w K mg base (tabT K) 1 "_law_power" ["number", "times"] m__law_power := ⟨_, fd__law_power, ok__law_power F__law_power hF hx , g__law_power, F__law_power.kp, F__law_power.bindsN (ps := ["number", "times"]) fun _ _ _ _ _ _ us hl => match us, hl with | [_, _], _ => rfl⟩
  have k__law_worlds : Kn Pr w K mg base (tabT K) 1 "_law_worlds" [] m__law_worlds := ⟨_, fd__law_worlds, ok__law_worlds F__law_worlds hF hx , g__law_worlds, F__law_worlds.kp, F__law_worlds.bindsN (ps := []) fun _ _ _ _ _ _ us hl => match us, hl with | [], _ => rfl⟩
  have k_web_with : Kn Pr w K mg base (tabT K) 1 "web_with" ["web", "sort", "ties"] m_web_with := ⟨_, fd_web_with, ok_web_with F_web_with hF hx , g_web_with, F_web_with.kp, F_web_with.bindsN (ps := ["web", "sort", "ties"]) fun _ _ _ _ _ _ us hl => match us, hl with | [_, _, _], _ => rfl⟩
  have k_tie_turned : Kn Pr w K mg base (tabT K) 1 "tie_turned" ["world", "tie"] m_tie_turned := ⟨_, fd_tie_turned, ok_tie_turned F_tie_turned hF hx , g_tie_turned, F_tie_turned.kp, F_tie_turned.bindsN (ps := ["world", "tie"]) fun _ _ _ _ _ _ us hl => match us, hl with | [_, _], _ => rfl⟩
  have k_pair_place : Kn Pr w K mg base (tabT K) 1 "pair_place" ["early", "late"] m_pair_place := ⟨_, fd_pair_place, ok_pair_place F_pair_place hF hx , g_pair_place, F_pair_place.kp, F_pair_place.bindsN (ps := ["early", "late"]) fun _ _ _ _ _ _ us hl => match us, hl with | [_, _], _ => rfl⟩
  have k_ties_many : Kn Pr w K mg base (tabT K) 1 "ties_many" ["world"] m_ties_many := ⟨_, fd_ties_many, ok_ties_many F_ties_many hF hx , g_ties_many, F_ties_many.kp, F_ties_many.bindsN (ps := ["world"]) fun _ _ _ _ _ _ us hl => match us, hl with | [_], _ => rfl⟩
  have k_not_long : Kn Pr w K mg base (tabT K) 1 "not_long" ["number"] m_not_long := ⟨_, fd_not_long, ok_not_long F_not_long hF hx , g_not_long, F_not_long.kp, F_not_long.bindsN (ps := ["number"]) fun _ _ _ _ _ _ us hl => match us, hl with | [_], _ => rfl⟩
  have k__law_due : Kn Pr w K mg base (tabT K) 1 "_law_due" ["number"] m__law_due := ⟨_, fd__law_due, ok__law_due F__law_due hF hx , g__law_due, F__law_due.kp, F__law_due.bindsN (ps := ["number"]) fun _ _ _ _ _ _ us hl => match us, hl with | [_], _ => rfl⟩
  have k_new_cases : Kn Pr w K mg base (tabT K) 1 "new_cases" ["machine", "number"] m_new_cases := ⟨_, fd_new_cases, ok_new_cases F_new_cases hF hx , g_new_cases, F_new_cases.kp, F_new_cases.bindsN (ps := ["machine", "number"]) fun _ _ _ _ _ _ us hl => match us, hl with | [_, _], _ => rfl⟩
  have k_power : Kn Pr w K mg base (tabT K) 1 "power" ["number", "many"] m_power := ⟨_, fd_power, ok_power F_power hF hx , g_power, F_power.kp, F_power.bindsN (ps := ["number", "many"]) fun _ _ _ _ _ _ us hl => match us, hl with | [_, _], _ => rfl⟩
  have k__law_houses_many : Kn Pr w K mg base (tabT K) 1 "_law_houses_many" ["guests"] m__law_houses_many := ⟨_, fd__law_houses_many, ok__law_houses_many F__law_houses_many hF hx , g__law_houses_many, F__law_houses_many.kp, F__law_houses_many.bindsN (ps := ["guests"]) fun _ _ _ _ _ _ us hl => match us, hl with | [_], _ => rfl⟩
  have k__law_of : Kn Pr w K mg base (tabT K) 2 "_law_of" ["source", "some"] m__law_of := ⟨_, fd__law_of, ok__law_of F__law_of hF hx k__law_pick, g__law_of, F__law_of.kp, F__law_of.bindsN (ps := ["source", "some"]) fun _ _ _ _ _ _ us hl => match us, hl with | [_, _], _ => rfl⟩
  have k__law_tie : Kn Pr w K mg base (tabT K) 2 "_law_tie" ["world", "web", "early", "late"] m__law_tie := ⟨_, fd__law_tie, ok__law_tie F__law_tie hF hx k__law_turned, g__law_tie, F__law_tie.kp, F__law_tie.bindsN (ps := ["world", "web", "early", "late"]) fun _ _ _ _ _ _ us hl => match us, hl with | [_, _, _, _], _ => rfl⟩
  have k_tie_seen : Kn Pr w K mg base (tabT K) 2 "tie_seen" ["world", "web", "one", "other"] m_tie_seen := ⟨_, fd_tie_seen, ok_tie_seen F_tie_seen hF hx k_pair_place k_tie_turned, g_tie_seen, F_tie_seen.kp, F_tie_seen.bindsN (ps := ["world", "web", "one", "other"]) fun _ _ _ _ _ _ us hl => match us, hl with | [_, _, _, _], _ => rfl⟩
  have k_house_webs : Kn Pr w K mg base (tabT K) 2 "house_webs" ["guests"] m_house_webs := ⟨_, fd_house_webs, ok_house_webs F_house_webs hF hx k_not_long, g_house_webs, F_house_webs.kp, F_house_webs.bindsN (ps := ["guests"]) fun _ _ _ _ _ _ us hl => match us, hl with | [_], _ => rfl⟩
  have k_free_webs : Kn Pr w K mg base (tabT K) 2 "free_webs" ["many_ties", "guests"] m_free_webs := ⟨_, fd_free_webs, ok_free_webs F_free_webs hF hx k_not_long, g_free_webs, F_free_webs.kp, F_free_webs.bindsN (ps := ["many_ties", "guests"]) fun _ _ _ _ _ _ us hl => match us, hl with | [_, _], _ => rfl⟩
  have k_living_modes : Kn Pr w K mg base (tabT K) 2 "living_modes" ["machine"] m_living_modes := ⟨_, fd_living_modes, ok_living_modes F_living_modes hF hx k_new_cases, g_living_modes, F_living_modes.kp, F_living_modes.bindsN (ps := ["machine"]) fun _ _ _ _ _ _ us hl => match us, hl with | [_], _ => rfl⟩
  have k__law_is_of : Kn Pr w K mg base (tabT K) 3 "_law_is_of" ["world", "web"] m__law_is_of := ⟨_, fd__law_is_of, ok__law_is_of F__law_is_of hF hx k__law_tie, g__law_is_of, F__law_is_of.kp, F__law_is_of.bindsN (ps := ["world", "web"]) fun _ _ _ _ _ _ us hl => match us, hl with | [_, _], _ => rfl⟩
  have k_of_house : Kn Pr w K mg base (tabT K) 3 "of_house" ["world", "web", "item"] m_of_house := ⟨_, fd_of_house, ok_of_house F_of_house hF hx k_tie_seen, g_of_house, F_of_house.kp, F_of_house.bindsN (ps := ["world", "web", "item"]) fun _ _ _ _ _ _ us hl => match us, hl with | [_, _, _], _ => rfl⟩
  have k_has_tied : Kn Pr w K mg base (tabT K) 3 "has_tied" ["world", "web", "guests", "many"] m_has_tied := ⟨_, fd_has_tied, ok_has_tied F_has_tied hF hx k_tie_seen, g_has_tied, F_has_tied.kp, F_has_tied.bindsN (ps := ["world", "web", "guests", "many"]) fun _ _ _ _ _ _ us hl => match us, hl with | [_, _, _, _], _ => rfl⟩
  have k_letwebs_many : Kn Pr w K mg base (tabT K) 3 "letwebs_many" ["machine", "guests"] m_letwebs_many := ⟨_, fd_letwebs_many, ok_letwebs_many F_letwebs_many hF hx k_living_modes k_power k_ties_many k_not_long k_new_cases, g_letwebs_many, F_letwebs_many.kp, F_letwebs_many.bindsN (ps := ["machine", "guests"]) fun _ _ _ _ _ _ us hl => match us, hl with | [_, _], _ => rfl⟩
  have k__law_listed : Kn Pr w K mg base (tabT K) 4 "_law_listed" ["world", "guests"] m__law_listed := ⟨_, fd__law_listed, ok__law_listed F__law_listed hF hx k__law_is_of, g__law_listed, F__law_listed.kp, F__law_listed.bindsN (ps := ["world", "guests"]) fun _ _ _ _ _ _ us hl => match us, hl with | [_, _], _ => rfl⟩
  have k_may_come : Kn Pr w K mg base (tabT K) 4 "may_come" ["world", "web", "sort", "ties"] m_may_come := ⟨_, fd_may_come, ok_may_come F_may_come hF hx k_has_tied k_of_house, g_may_come, F_may_come.kp, F_may_come.bindsN (ps := ["world", "web", "sort", "ties"]) fun _ _ _ _ _ _ us hl => match us, hl with | [_, _, _, _], _ => rfl⟩
  have k_new_ties : Kn Pr w K mg base (tabT K) 5 "new_ties" ["world", "web"] m_new_ties := ⟨_, fd_new_ties, ok_new_ties F_new_ties hF hx k_ties_many k_may_come, g_new_ties, F_new_ties.kp, F_new_ties.bindsN (ps := ["world", "web"]) fun _ _ _ _ _ _ us hl => match us, hl with | [_, _], _ => rfl⟩
  have k_few_webs : Kn Pr w K mg base (tabT K) 6 "few_webs" ["world", "guests"] m_few_webs := ⟨_, fd_few_webs, ok_few_webs F_few_webs hF hx k_new_ties k_web_with, g_few_webs, F_few_webs.kp, F_few_webs.bindsN (ps := ["world", "guests"]) fun _ _ _ _ _ _ us hl => match us, hl with | [_, _], _ => rfl⟩
  have k_webs_many : Kn Pr w K mg base (tabT K) 7 "webs_many" ["world", "guests"] m_webs_many := ⟨_, fd_webs_many, ok_webs_many F_webs_many hF hx k_few_webs k_house_webs k_free_webs k_ties_many, g_webs_many, F_webs_many.kp, F_webs_many.bindsN (ps := ["world", "guests"]) fun _ _ _ _ _ _ us hl => match us, hl with | [_, _], _ => rfl⟩
  refine PBX.law_runC (N := law_N) (k := 9) F_law tf.co sc_law ⟨rfl, by decide, by decide⟩ (fun vs H Q E q => (by
    obtain ⟨a, ns, rfl, _⟩ := q
    rfl)) fun s H E hr Gd => ⟨tLaw (tabT K) K E, body_law hr Gd hF hx hy td rfl ht k__law_source k__law_of k__law_worlds k__law_pick k__law_listed k_webs_many k__law_due k__law_houses_many k__law_power k_letwebs_many, fun vs Q q => ?_⟩
  have hq : ∀ H', Q (.bl true) H' := q.elim fun a z => z.elim fun ns z => z.2.2.2.2
  refine law_startsT 1 rfl rfl q fun ρ st H1 R1 S1 => ?_
  have hσ : (.un :: .ref 1 :: List.replicate 16 .un : Sl) ∈ L0 := .head _
  revert hσ
  generalize (.un :: .ref 1 :: List.replicate 16 .un : Sl) = σ at S1
  intro hσ
  refine seg_cut hq R1 S1 (allS_ok e_g1 σ hσ) fun ρ σ st H1 R1 S1 hσ => ?_
  refine seg_cut hq R1 S1 (allS_ok e_g2 σ hσ) fun ρ σ st H1 R1 S1 hσ => ?_
  refine seg_cut hq R1 S1 (allS_ok e_g3 σ hσ) fun ρ σ st H1 R1 S1 hσ => ?_
  refine seg_if (Lj := La) R1 S1 (allS_ok e_c4 σ hσ) (fun ρ σ st H1 R1 S1 hσ => ?_) (fun nx ρ σ st H1 R1 S1 hσ => ?_) (fun nx ρ σ st H1 R1 S1 hσ => ?_)
  · refine seg_cut hq R1 S1 (allS_ok e_g12 σ hσ) fun ρ σ st H1 R1 S1 hσ => ?_
    refine seg_cut hq R1 S1 (allS_ok e_g13 σ hσ) fun ρ σ st H1 R1 S1 hσ => ?_
    refine seg_cut hq R1 S1 (allS_ok e_g14 σ hσ) fun ρ σ st H1 R1 S1 hσ => ?_
    exact seg_end hq R1 S1 (allS_ok e_g15 σ hσ)
  · exact seg_fall hq R1 S1 (allS_ok e_g5 σ hσ) nx
  · refine seg_if (Lj := La) R1 S1 (allS_ok e_c6 σ hσ) nx (fun nx ρ σ st H1 R1 S1 hσ => ?_) (fun nx ρ σ st H1 R1 S1 hσ => ?_)
    · refine seg_cut hq R1 S1 (allS_ok e_g7 σ hσ) fun ρ σ st H1 R1 S1 hσ => ?_
      refine seg_cut hq R1 S1 (allS_ok e_g8 σ hσ) fun ρ σ st H1 R1 S1 hσ => ?_
      exact seg_fall hq R1 S1 (allS_ok e_g9 σ hσ) nx
    · refine seg_cut hq R1 S1 (allS_ok e_g10 σ hσ) fun ρ σ st H1 R1 S1 hσ => ?_
      exact seg_fall hq R1 S1 (allS_ok e_g11 σ hσ) nx
end Law
open PySem PySem.W PySem.Calls PyProof.Rows
set_option maxRecDepth 100000 in
set_option maxHeartbeats 0 in
theorem PySem.Challenge.cw_guestwebs_k46_webs_counted_by_listing_holds : PySem.Challenge.rw_guestwebs_k46_webs_counted_by_listing.Holds := by
  w_on; o_law
  refine HandSHeadRun.head_any (r := OpenLaw.row PySem.Challenge.rw_guestwebs_k46_webs_counted_by_listing) (q := view (OpenLaw.row PySem.Challenge.rw_guestwebs_k46_webs_counted_by_listing).prog [54]) (H := Law.hk) (ob := Law.ob) (M := 4000) (loose := Law.lo) (d := HandSHeadRun.topDef (OpenLaw.row PySem.Challenge.rw_guestwebs_k46_webs_counted_by_listing).prog 54) (kwd := []) Law.ob_eq
    (by kernel_rfl) (fun s => by kernel_rfl) Law.run (by kernel_rfl) (by kernel_rfl) (by kernel_rfl) (by rfl) (by first | assumption | decide +kernel) (by decide +kernel) ⟨rfl, rfl, rfl, rfl, rfl, by decide +kernel⟩ ?hw ?hc
  case hw => w_witness2
  case hc =>
    refine PB.end_walk (l := PySem.Challenge.rw_guestwebs_k46_webs_counted_by_listing) (n := 63) (x := "script") rfl (by decide) (by kernel_rfl) ?F
    intro w mg fa h Y G hmg0
    obtain ⟨K, KX, c⟩ := Y
    have hmg : mg ("law" : PySem.Str) = some (.ref fa) := by
      have e : (HandSHeadRun.topDef (OpenLaw.row PySem.Challenge.rw_guestwebs_k46_webs_counted_by_listing).prog 54).name = ("law" : PySem.Str) := by kernel_rfl
      rw [← e]
      exact hmg0
    exact ⟨K, KX, Law.facts KX G hmg c⟩
