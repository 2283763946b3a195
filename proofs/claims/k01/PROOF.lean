import PyProof.Rows.All
import Wide.All
import OpenK.AllK
import Wide.FinOn
import HandS.ForMost
import HandS.ForExc
import HandS.Lambda
import HandS.TupAny
import HandS.TupMul
import HandS.Deep
import HandS.More
import HandS.Text
import PyProof.SumWalkG
import HandS.Sort
import HandS.Conv
import HandS.Iter
import HandS.Small
import KE.GoesEnum
import HandS.Comp
import HandS.Defaults
import HandS.GenList
import HandS.AnyAll
import HandS.RevTup
import KE.KStateDown
import HandS.Head0
import HandS.Head1
import HandS.Head2
import HandS.HeadEnd
import HandS.HeadHook1
import HandS.HeadHook2
import HandS.HeadHook3
import HandS.HeadHook4
import HandS.HeadWalk
import PyProof.ExcBaseAll.ValueError
import PySem.Challenge.RW_teststack_k01_draws_by_a_seed
set_option Elab.async false
/-! PI0: the interpreter. Data trees, an abstract heap of mutable cells, a small language, its evaluator. Core Lean alone. -/
namespace PI
set_option linter.all false

/-- data: immutable trees; `ref i` a mutable cell of the heap; `lam` a function value (second class) -/
inductive D where
  | non
  | bl (b : Bool)
  | int (i : Int)
  | str (s : List Nat)
  | tup (l : List D)
  | lst (l : List D)
  | dic (l : List (D × D))
  | ref (i : Nat)
  | lam (k : Nat) (l : List D)
  deriving Inhabited

inductive Ob where
  | lst (l : List D)
  | dic (t : Bool) (l : List (D × D))
  | ins (c : Nat) (fs : List (Nat × D))
  | lck (o : Ob)
  | fix (l : List D)
  | dead
  deriving Inhabited

abbrev Hv := List Ob
abbrev Sl := List (Option D)

/-- an expression's outcome: a value, an exception of a class, no outcome (with a number that tells where) -/
inductive Res (α : Type) where
  | ok (a : α) (h : Hv)
  | ex (c : Nat) (h : Hv)
  | no (w : Nat)
  deriving Inhabited

def Res.bind {α β : Type} (r : Res α) (f : α → Hv → Res β) : Res β :=
  match r with
  | .ok a h => f a h
  | .ex c h => .ex c h
  | .no w => .no w

/-- a statement's outcome -/
inductive Out where
  | nx (σ : Sl) (h : Hv)
  | rt (d : D) (h : Hv)
  | bk (σ : Sl) (h : Hv)
  | ct (σ : Sl) (h : Hv)
  | ex (c : Nat) (σ : Sl) (h : Hv)
  | no (w : Nat)
  deriving Inhabited

/-! ### data -/
mutual
def D.beq : D → D → Bool
  | .non, .non => true
  | .bl a, .bl b => a == b
  | .int a, .int b => a == b
  | .str a, .str b => a == b
  | .tup a, .tup b => D.beqs a b
  | .lst a, .lst b => D.beqs a b
  | .dic a, .dic b => D.beqp a b
  | .ref a, .ref b => a == b
  | .lam k a, .lam j b => k == j && D.beqs a b
  | _, _ => false
def D.beqs : List D → List D → Bool
  | [], [] => true
  | a :: l, b :: r => D.beq a b && D.beqs l r
  | _, _ => false
def D.beqp : List (D × D) → List (D × D) → Bool
  | [], [] => true
  | (a, x) :: l, (b, y) :: r => D.beq a b && D.beq x y && D.beqp l r
  | _, _ => false
end

/- no ref at or above n, no function -/
mutual
def D.bel (n : Nat) : D → Bool
  | .tup l => D.bels n l
  | .lst l => D.bels n l
  | .dic l => D.belp n l
  | .ref i => Nat.blt i n
  | .lam _ _ => false
  | _ => true
def D.bels (n : Nat) : List D → Bool
  | [] => true
  | a :: l => D.bel n a && D.bels n l
def D.belp (n : Nat) : List (D × D) → Bool
  | [] => true
  | (a, x) :: l => D.bel n a && D.bel n x && D.belp n l
end

def sizeMax : Nat := 16777216

def obSeq : Ob → Option (List D)
  | .lst l => some l
  | .lck (.lst l) => some l
  | .fix l => some l
  | _ => none
def obDic : Ob → Option (List (D × D))
  | .dic _ l => some l
  | .lck (.dic _ l) => some l
  | _ => none
/-- the items of a list or tuple -/
def seqOf (h : Hv) : D → Option (List D)
  | .tup l => some l
  | .lst l => some l
  | .ref i => match h[i]? with
    | some o => obSeq o
    | none => none
  | _ => none
def lstOf (h : Hv) : D → Option (List D)
  | .lst l => some l
  | .ref i => match h[i]? with
    | some o => obSeq o
    | none => none
  | _ => none
def obSeqN : Ob → Option (List D)
  | .lst l => some l
  | .lck (.lst l) => some l
  | _ => none
/-- .. but a written one -/
def lstN (h : Hv) : D → Option (List D)
  | .lst l => some l
  | .ref i => match h[i]? with
    | some o => obSeqN o
    | none => none
  | _ => none
def dicOf (h : Hv) : D → Option (List (D × D))
  | .dic l => some l
  | .ref i => match h[i]? with
    | some o => obDic o
    | none => none
  | _ => none
def insOf (h : Hv) : D → Option (Nat × Nat × List (Nat × D))
  | .ref i => match h[i]? with
    | some (.ins c fs) => some (i, c, fs)
    | _ => none
  | _ => none

/-! ### dicts -/
def kget (k : D) : List (D × D) → Option D
  | [] => none
  | (a, x) :: l => if D.beq a k then some x else kget k l
def kput (k v : D) (l : List (D × D)) : List (D × D) :=
  if l.any (fun p => D.beq p.1 k) then l.map (fun p => if D.beq p.1 k then (p.1, v) else p) else l ++ [(k, v)]
def kdel (k : D) : List (D × D) → List (D × D)
  | [] => []
  | (a, x) :: l => if D.beq a k then l else (a, x) :: kdel k l
def kputs (l : List (D × D)) : List (D × D) → List (D × D)
  | [] => l
  | (a, x) :: r => kputs (kput a x l) r
/-- an atom: an int or a text -/
def D.atom : D → Bool
  | .int _ => true
  | .str _ => true
  | _ => false
def D.isKey (t : Bool) : D → Bool
  | .int _ => !t
  | .str _ => !t
  | .tup l => t && l.all D.atom
  | _ => false

def fget (f : Nat) : List (Nat × D) → Option D
  | [] => none
  | (a, x) :: l => if a = f then some x else fget f l
def fput (f : Nat) (v : D) : List (Nat × D) → List (Nat × D)
  | [] => [(f, v)]
  | (a, x) :: l => if a = f then (a, v) :: l else (a, x) :: fput f v l

/-! ### equality as Python has it, over data; a cell's items are looked at one deep -/
def deref (h : Hv) : D → D
  | .ref i => match h[i]? with
    | some o => match obSeq o, obDic o with
      | some l, _ => .lst l
      | _, some l => .dic l
      | _, _ => .ref i
    | none => .ref i
  | d => d
def b2i (b : Bool) : Int := if b then 1 else 0
/- data that equality serves: no refs, dicts, functions; not too deep -/
def txOk (s : List Nat) : Bool := s.all fun c => Nat.blt c 1114112
mutual
def D.flat (n : Nat) : D → Bool
  | .tup l => match n with
    | 0 => false
    | n + 1 => D.flats n l
  | .lst l => match n with
    | 0 => false
    | n + 1 => D.flats n l
  | .str s => txOk s
  | .ref _ => false
  | .dic _ => false
  | .lam _ _ => false
  | _ => true
def D.flats (n : Nat) : List D → Bool
  | [] => true
  | a :: l => D.flat n a && D.flats n l
end
mutual
def D.eqb : D → D → Bool
  | .non, .non => true
  | .bl a, .bl b => a == b
  | .bl a, .int j => b2i a == j
  | .int a, .bl b => a == b2i b
  | .int a, .int b => a == b
  | .str a, .str b => a == b
  | .tup a, .tup b => D.eqbs a b
  | .lst a, .lst b => D.eqbs a b
  | _, _ => false
def D.eqbs : List D → List D → Bool
  | [], [] => true
  | a :: l, b :: r => D.eqb a b && D.eqbs l r
  | _, _ => false
end
def deq (h : Hv) (x y : D) : Option Bool := if D.flat 60 (deref h x) && D.flat 60 (deref h y) then some (D.eqb (deref h x) (deref h y)) else none
def memb (x : D) : List D → Bool
  | [] => false
  | a :: l => D.eqb a x || memb x l

/-! ### order -/
def ltTx : List Nat → List Nat → Bool
  | [], [] => false
  | [], _ :: _ => true
  | _ :: _, [] => false
  | a :: l, b :: r => if a < b then true else if b < a then false else ltTx l r
/- a < b; ints, texts, tuples of such, place by place -/
mutual
def D.lt : D → D → Option Bool
  | .int a, .int b => some (decide (a < b))
  | .str a, .str b => some (ltTx a b)
  | .tup a, .tup b => D.lts a b
  | _, _ => none
def D.lts : List D → List D → Option Bool
  | [], [] => some false
  | [], _ :: _ => some true
  | _ :: _, [] => some false
  | a :: l, b :: r => if D.eqb a b then D.lts l r else D.lt a b
end
def insSort (lt : D → D → Option Bool) (x : D) : List D → Option (List D)
  | [] => some [x]
  | a :: l => match lt x a with
    | some true => some (x :: a :: l)
    | some false => match insSort lt x l with
      | some r => some (a :: r)
      | none => none
    | none => none
/-- stable: from the last on, each goes ahead of those that are not less -/
def isort (lt : D → D → Option Bool) : List D → Option (List D)
  | [] => some []
  | x :: l => match isort lt l with
    | some r => insB lt x r
    | none => none
where insB (lt : D → D → Option Bool) (x : D) : List D → Option (List D)
  | [] => some [x]
  | a :: l => match lt a x with
    | some false => some (x :: a :: l)
    | some true => match insB lt x l with
      | some r => some (a :: r)
      | none => none
    | none => none
def minD (lt : D → D → Option Bool) : D → List D → Option D
  | x, [] => some x
  | x, a :: l => match lt a x with
    | some true => minD lt a l
    | some false => minD lt x l
    | none => none
def maxD (lt : D → D → Option Bool) : D → List D → Option D
  | x, [] => some x
  | x, a :: l => match lt x a with
    | some true => maxD lt a l
    | some false => maxD lt x l
    | none => none
def sumD : Int → List D → Option Int
  | s, [] => some s
  | s, .int i :: l => sumD (s + i) l
  | s, .bl b :: l => sumD (s + b2i b) l
  | _, _ => none

/-! ### texts -/
def digits (n : Nat) : List Nat := (Nat.toDigits 10 n).map Char.toNat
def intTx (i : Int) : List Nat := if i < 0 then 45 :: digits i.natAbs else digits i.natAbs
def isPre : List Nat → List Nat → Bool
  | [], _ => true
  | _ :: _, [] => false
  | a :: l, b :: r => a == b && isPre l r
def findTx (p : List Nat) : List Nat → Nat → Option Nat
  | [], k => if p.isEmpty then some k else none
  | a :: l, k => if isPre p (a :: l) then some k else findTx p l (k + 1)
/-- pieces between separators; n: enough turns -/
def splitTx (p : List Nat) : Nat → List Nat → List Nat → List (List Nat)
  | 0, acc, _ => [acc]
  | _ + 1, acc, [] => [acc]
  | n + 1, acc, a :: l => if isPre p (a :: l) then acc :: splitTx p n [] ((a :: l).drop p.length) else splitTx p n (acc ++ [a]) l
def joinTx (p : List Nat) : List (List Nat) → List Nat
  | [] => []
  | [x] => x
  | x :: y :: l => x ++ p ++ joinTx p (y :: l)
def isWs (c : Nat) : Bool := c == 32 || (9 ≤ c && c ≤ 13)
def lstrip : List Nat → List Nat
  | [] => []
  | a :: l => if isWs a then lstrip l else a :: l
def stripTx (l : List Nat) : List Nat := (lstrip (lstrip l).reverse).reverse
def readNat : Nat → List Nat → Option Nat
  | n, [] => some n
  | n, c :: l => if 48 ≤ c ∧ c ≤ 57 then readNat (10 * n + (c - 48)) l else none
def readInt : List Nat → Option Int
  | [] => none
  | [c] => if 48 ≤ c ∧ c ≤ 57 then some ((c - 48 : Nat) : Int) else none
  | c :: l => if c = 45 then (readNat 0 l).map fun n => -(n : Int) else (readNat 0 (c :: l)).map fun n => (n : Int)
def countTx (p : List Nat) : Nat → List Nat → Nat
  | 0, _ => 0
  | _ + 1, [] => 0
  | n + 1, a :: l => if isPre p (a :: l) then 1 + countTx p n ((a :: l).drop p.length) else countTx p n l
def strs? : List D → Option (List (List Nat))
  | [] => some []
  | .str s :: l => (strs? l).map (s :: ·)
  | _ => none
/-- a text as a list of texts of one sign -/
def signs (s : List Nat) : List D := s.map fun c => .str [c]

/-! ### places -/
def ixAt (n : Nat) (i : Int) : Option Nat := if 0 ≤ i then (if i < n then some i.toNat else none) else if -(n : Int) ≤ i then some (i + n).toNat else none
/-- an end of a slice with step 1 -/
def clip (n d : Nat) : Option Int → Nat
  | none => d
  | some i => if i < 0 then (i + n).toNat else min i.toNat n
def cut {α : Type} (l : List α) (lo hi : Option Int) : List α := (l.drop (clip l.length 0 lo)).take (clip l.length l.length hi - clip l.length 0 lo)
/-- each k-th from the start -/
def everyth {α : Type} (k : Nat) : Nat → List α → List α
  | _, [] => []
  | 0, a :: l => a :: everyth k (k - 1) l
  | j + 1, _ :: l => everyth k j l
def rangeL (lo c : Int) : Nat → List D
  | 0 => []
  | n + 1 => .int lo :: rangeL (lo + c) c n
def rangeN (lo hi c : Int) : Nat := if 0 < c then ((hi - lo + c - 1).fdiv c).toNat else if c < 0 then ((lo - hi - c - 1).fdiv (-c)).toNat else 0
def zipD : List D → List D → List D
  | a :: l, b :: r => .tup [a, b] :: zipD l r
  | _, _ => []
def enumD : Nat → List D → List D
  | _, [] => []
  | n, a :: l => .tup [.int n, a] :: enumD (n + 1) l

/-! ### the language -/
inductive BO where
  | add | sub | mul | fdiv | mod | pow
  deriving Inhabited, DecidableEq
inductive CO where
  | eq | ne | lt | le | gt | ge | is | isnot | isin | notin
  deriving Inhabited, DecidableEq
/-- built-in functions -/
inductive BI where
  | len | abs | min | max | maxd | sum | sorted | list | tuple | dict | str | int | keys | vals | items | range
  | minkey | sortkey | minv | sumv
  deriving Inhabited, DecidableEq
/-- methods of built-in types -/
inductive BM where
  | append | pop | popat | remove | clear | count | index
  | get | dpop | update
  | join | split | strip | startswith | replace | find | partition | scount
  deriving Inhabited, DecidableEq
/-- what a comprehension makes: a list, a dict; or what takes a generator -/
inductive CK where
  | lst | dic | dicT | tup | any | all | sum | min | max | sorted
  deriving Inhabited, DecidableEq

mutual
inductive E where
  | var (i : Nat)
  | cst (d : D)
  | gcn (x : Nat) (d : D)
  | frz (e : E)
  | bin (o : BO) (m : Bool) (a b : E)
  | neg (a : E)
  | not (a : E)
  | cmp (o : CO) (a b : E)
  | chn (o p : CO) (a b c : E)
  | and (es : List E)
  | or (es : List E)
  | ife (c a b : E)
  | tup (es : List E)
  | lst (m : Bool) (es : List E)
  | dic (m t : Bool) (kvs : List E)
  | att (e : E) (f : Nat)
  | idx (e i : E)
  | slc (m : Bool) (e : E) (lo hi st : Option E)
  | call (f : Nat) (es : List E)
  | new (c f : Nat) (es : List E)
  | mth (c m f : Nat) (e : E) (es : List E)
  | bi (b : BI) (m : Bool) (es : List E)
  | bm (b : BM) (m : Bool) (e : E) (es : List E)
  | cmpr (k : CK) (m : Bool) (own : List Nat) (t : T) (it : I) (ifs : List E) (el : E) (v : Option E)
  | fst (ps : List E)
  | told (f : Nat) (e : E)
  | callv (i : Nat) (es : List E)
  | lof (tp m : Bool) (it : I)
  | lam (k : Nat) (caps : List Nat)
inductive T where
  | var (i : Nat)
  | tup (ts : List T)
  | att (e : E) (f : Nat)
  | idx (e i : E)
inductive I where
  | seq (e : E)
  | str (e : E)
  | key (e : E)
  | val (e : E)
  | itm (e : E)
  | rng (es : List E)
  | enu (i : I)
  | zip (a b : I)
  | rev (e : E)
  | any (e : E)
end
instance : Inhabited E := ⟨.var 0⟩
instance : Inhabited T := ⟨.var 0⟩

inductive S where
  | set (t : T) (e : E)
  | par (ts : List T) (es : List E)
  | aug (o : BO) (t : T) (e : E)
  | exp (e : E)
  | ret (e : E)
  | retn
  | ife (c : E) (a b : List S)
  | whl (c : E) (b : List S)
  | fr (t : T) (it : I) (b : List S)
  | rai (c : Nat)
  | try (b : List S) (cs : List Nat) (hb : List S)
  | del (e k : E)
  | pss
  | cont
  | badif (i j f : Nat) (own : List Nat) (es ts : List E) (b : List S)
  deriving Inhabited

structure Fn where
  np : Nat
  ns : Nat
  df : List D
  gc : Bool
  body : List S
  deriving Inhabited
structure Lm where
  np : Nat
  caps : List Nat
  ns : Nat
  body : E
  deriving Inhabited
/-- a program: its functions; what `told` functions catch and hand back instead; lambdas -/
structure Pr where
  fns : List Fn
  told : List (Nat × List Nat × D)
  lams : List Lm
  deriving Inhabited

/-! ### operators -/
def lenOk {α : Type} (l : List α) (k : Nat) : Bool := Nat.ble (l.length + k) sizeMax
/-- a new list: a frozen tree, or a cell -/
def mkL (m : Bool) (l : List D) (h : Hv) : Res D := if m then .ok (.ref h.length) (h ++ [.lst l]) else .ok (.lst l) h
def mkD (m t : Bool) (l : List (D × D)) (h : Hv) : Res D := if m then .ok (.ref h.length) (h ++ [.dic t l]) else .ok (.dic l) h
def repD (l : List D) : Nat → List D
  | 0 => []
  | n + 1 => l ++ repD l n
def repT (l : List Nat) : Nat → List Nat
  | 0 => []
  | n + 1 => l ++ repT l n
def big : Int := 18446744073709551616
def addD (m : Bool) (x y : D) (h : Hv) : Res D :=
  match x, y with
  | .int a, .int b => .ok (.int (a + b)) h
  | .str a, .str b => if lenOk a b.length then .ok (.str (a ++ b)) h else .no 14
  | .tup a, .tup b => if lenOk a b.length then .ok (.tup (a ++ b)) h else .no 16
  | x, y => match lstN h x, lstN h y with
    | some a, some b => if lenOk a b.length then mkL m (a ++ b) h else .no 18
    | _, _ => .no 19
def mulD (m : Bool) (x y : D) (h : Hv) : Res D :=
  match x, y with
  | .int a, .int b => if (-big < a ∧ a < big) ∨ (-big < b ∧ b < big) then .ok (.int (a * b)) h else .no 10
  | _, _ => .no 21
def opB (o : BO) (m : Bool) (x y : D) (h : Hv) : Res D :=
  match o with
  | .add => addD m x y h
  | .mul => mulD m x y h
  | .sub => match x, y with
    | .int a, .int b => .ok (.int (a - b)) h
    | _, _ => .no 22
  | .fdiv => match x, y with
    | .int a, .int b => if b ≠ 0 ∧ b.natAbs < 1073741824 then .ok (.int (a.fdiv b)) h else .no 11
    | _, _ => .no 22
  | .mod => match x, y with
    | .int a, .int b => if b ≠ 0 then .ok (.int (a.fmod b)) h else .no 12
    | _, _ => .no 22
  | .pow => match x, y with
    | .int a, .int b => if 0 ≤ b ∧ b ≤ 1000000 ∧ a.natAbs < 18446744073709551616 then .ok (.int (a ^ b.toNat)) h else .no 13
    | _, _ => .no 22
def okb (o : Option Bool) (h : Hv) (w : Nat) : Res D := match o with
  | some b => .ok (.bl b) h
  | none => .no w
def okn (o : Option Bool) (h : Hv) (w : Nat) : Res D := match o with
  | some b => .ok (.bl !b) h
  | none => .no w
def isin (h : Hv) (x y : D) : Option Bool :=
  match dicOf h y with
  | some l => match l with
    | [] => none
    | p :: r => if D.atom p.1 && D.atom x then some (kget x (p :: r)).isSome else none
  | none => match lstOf h y with
    | some l => if D.flat 60 (deref h x) && D.flats 60 l then some (memb (deref h x) l) else none
    | none => none
def intC (f : Int → Int → Bool) (x y : D) (h : Hv) : Res D :=
  match x, y with
  | .int a, .int b => .ok (.bl (f a b)) h
  | _, _ => .no 37
def opC (o : CO) (x y : D) (h : Hv) : Res D :=
  match o with
  | .eq => okb (deq h x y) h 30
  | .ne => okn (deq h x y) h 31
  | .is => match y with
    | .non => .ok (.bl (match x with | .non => true | _ => false)) h
    | _ => .no 32
  | .isnot => match y with
    | .non => .ok (.bl (match x with | .non => false | _ => true)) h
    | _ => .no 33
  | .isin => okb (isin h x y) h 34
  | .notin => okn (isin h x y) h 35
  | .lt => intC (fun a b => decide (a < b)) x y h
  | .le => intC (fun a b => decide (a ≤ b)) x y h
  | .gt => intC (fun a b => decide (b < a)) x y h
  | .ge => intC (fun a b => decide (b ≤ a)) x y h
def idxD (h : Hv) (x i : D) : Res D :=
  match dicOf h x with
  | some l => if D.atom i then match kget i l with
      | some v => .ok v h
      | none => .no 42
    else .no 43
  | none => match i with
    | .int k => match x with
      | .str s => if Nat.ble s.length sizeMax then match ixAt s.length k with
          | some j => match s[j]? with
            | some c => .ok (.str [c]) h
            | none => .no 40
          | none => .no 41
        else .no 47
      | x => match seqOf h x with
        | some l => match ixAt l.length k with
          | some j => match l[j]? with
            | some v => .ok v h
            | none => .no 44
          | none => .no 45
        | none => .no 46
    | _ => .no 48
def optI : Option D → Option (Option Int)
  | none => some none
  | some (.int i) => some (some i)
  | _ => none
def slcD (m : Bool) (h : Hv) (x : D) (lo hi st : Option D) : Res D :=
  match optI lo, optI hi, st with
  | some lo, some hi, none => match x with
    | .str s => if Nat.ble s.length sizeMax then .ok (.str (cut s lo hi)) h else .no 51
    | x => match lstOf h x with
      | some l => mkL m (cut l lo hi) h
      | none => .no 50
  | _, _, _ => .no 54

/-! ### built-ins -/
def ints? : List D → Option (List Int)
  | [] => some []
  | .int i :: l => (ints? l).map (i :: ·)
  | _ => none
def pairs? : List D → Option (List (D × D))
  | [] => some []
  | .tup [a, b] :: l => (pairs? l).map ((a, b) :: ·)
  | _ => none
def pairUp : List D → Option (List (D × D))
  | [] => some []
  | a :: b :: l => (pairUp l).map ((a, b) :: ·)
  | _ => none
def pairTup (l : List (D × D)) : List D := l.map fun p => .tup [p.1, p.2]
def opt {α : Type} (o : Option α) (w : Nat) (f : α → Res D) : Res D := match o with
  | some a => f a
  | none => .no w
def opt' {α β : Type} (o : Option α) (w : Nat) (f : α → Res β) : Res β := match o with
  | some a => f a
  | none => .no w
def lenD (h : Hv) (x : D) : Res D :=
  match x with
  | .str s => if Nat.ble s.length sizeMax then .ok (.int s.length) h else .no 59
  | .ref i => match h[i]? with
    | some o => match o with
      | .dic false l => .ok (.int l.length) h
      | o => match obSeq o with
        | some l => .ok (.int l.length) h
        | none => .no 58
    | none => .no 57
  | .lst l => .ok (.int l.length) h
  | .tup l => .ok (.int l.length) h
  | _ => .no 56
def absD (x : D) (h : Hv) : Res D := match x with
  | .int i => .ok (.int (if i < 0 then -i else i)) h
  | _ => .no 60
def intD (x : D) (h : Hv) : Res D := match x with
  | .int i => .ok (.int i) h
  | .bl b => .ok (.int (b2i b)) h
  | _ => .no 61
/-- the values of a changeable dict with plain keys, all of them ints -/
def dvals (h : Hv) (x : D) : Option (List Int) := match x with
  | .ref i => match h[i]? with
    | some (.dic false l) => ints? (l.map (·.2))
    | _ => none
  | _ => none
def minI : Int → List Int → Int
  | a, [] => a
  | a, b :: l => if b < a then minI b l else minI a l
def sumI : List Int → Int
  | [] => 0
  | a :: l => a + sumI l
def minvD (x : D) (h : Hv) : Res D := match dvals h x with
  | some (a :: l) => .ok (.int (minI a l)) h
  | _ => .no 62
def sumvD (x : D) (h : Hv) : Res D := match dvals h x with
  | some l => .ok (.int (sumI l)) h
  | none => .no 63
def insTx (x : List Nat) : List (List Nat) → List (List Nat)
  | [] => [x]
  | a :: l => if ltTx a x then a :: insTx x l else x :: a :: l
def sortTx : List (List Nat) → List (List Nat)
  | [] => []
  | x :: l => insTx x (sortTx l)
def sortedD (m : Bool) (x : D) (h : Hv) : Res D := match dicOf h x with
  | some l => match l with
    | [] => .no 64
    | p :: r => match strs? ((p :: r).map (·.1)) with
      | some ss => if Nat.blt ss.length 64 then mkL m ((sortTx ss).map D.str) h else .no 65
      | none => .no 66
  | none => .no 67
def listD (m : Bool) (x : D) (h : Hv) : Res D := match x with
  | .str s => if Nat.ble s.length sizeMax then mkL m (signs s) h else .no 68
  | x => match seqOf h x with
    | some l => mkL m l h
    | none => .no 69
def tupleD (x : D) (h : Hv) : Res D := match seqOf h x with
  | some l => .ok (.tup l) h
  | none => .no 70
def dictD (m : Bool) (x : D) (h : Hv) : Res D := match lstOf h x with
  | some l => match pairs? l with
    | some ps => if m && ps.all (fun p => D.atom p.1) then mkD true false (kputs [] ps) h else .no 71
    | none => .no 72
  | none => .no 73
def biD (b : BI) (m : Bool) (h : Hv) (xs : List D) : Res D :=
  match xs with
  | [x] => match b with
    | .len => lenD h x
    | .abs => absD x h
    | .int => intD x h
    | .minv => minvD x h
    | .sumv => sumvD x h
    | .sorted => sortedD m x h
    | .list => listD m x h
    | .tuple => tupleD x h
    | .dict => dictD m x h
    | _ => .no 83
  | _ => .no 84
def delAt {α : Type} : Nat → List α → List α
  | _, [] => []
  | 0, _ :: l => l
  | n + 1, a :: l => a :: delAt n l
def idxOf (x : D) : Nat → List D → Option Nat
  | _, [] => none
  | k, a :: l => if D.eqb a x then some k else idxOf x (k + 1) l
def cntD (x : D) : List D → Nat
  | [] => 0
  | a :: l => (if D.eqb a x then 1 else 0) + cntD x l
/-- may d be stored in the cell i -/
def stOk (base i : Nat) (d : D) : Bool := if Nat.ble base i then true else D.bel (i + 1) d
/-- the mutable list at a cell -/
def mutL (h : Hv) : D → Option (Nat × List D)
  | .ref i => match h[i]? with
    | some (.lst l) => some (i, l)
    | _ => none
  | _ => none
def mutD (h : Hv) : D → Option (Nat × Bool × List (D × D))
  | .ref i => match h[i]? with
    | some (.dic t l) => some (i, t, l)
    | _ => none
  | _ => none
def appendD (base : Nat) (h : Hv) (x y : D) : Res D := match mutL h x with
  | some (i, l) => if stOk base i y && Nat.blt l.length sizeMax then .ok .non (h.set i (.lst (l ++ [y]))) else .no 101
  | none => .no 100
def lenSum : List (List Nat) → Nat
  | [] => 0
  | x :: l => x.length + lenSum l
/-- what stands as the receiver, before the arguments -/
def bmOk (b : BM) (h : Hv) (x : D) : Bool := match b with
  | .append => (mutL h x).isSome
  | .join => match x with
    | .str _ => true
    | _ => false
  | _ => true
def joinD (h : Hv) (x y : D) : Res D := match x with
  | .str s => match lstOf h y with
    | some l => match strs? l with
      | some ss => if Nat.ble (lenSum ss + ss.length * s.length) sizeMax then .ok (.str (joinTx s ss)) h else .no 130
      | none => .no 129
    | none => .no 128
  | _ => .no 131
def bmD (base : Nat) (b : BM) (m : Bool) (h : Hv) (x : D) (ys : List D) : Res D :=
  match b, ys with
  | .append, [y] => appendD base h x y
  | .join, [y] => joinD h x y
  | _, _ => .no 143

/-! ### walks -/
/-- lock the cell that is walked -/
def lockC (h : Hv) : D → Hv
  | .ref i => match h[i]? with
    | some (.lst l) => h.set i (.lck (.lst l))
    | some (.dic t l) => h.set i (.lck (.dic t l))
    | _ => h
  | _ => h
def unlockC (h : Hv) : D → Hv
  | .ref i => match h[i]? with
    | some (.lck o) => h.set i o
    | _ => h
  | _ => h
/-- was it locked by us -/
def lockable (h : Hv) : D → Bool
  | .ref i => match h[i]? with
    | some (.lst _) => true
    | some (.dic _ _) => true
    | _ => false
  | _ => false
def unlockAll (h : Hv) : List D → Hv
  | [] => h
  | d :: r => unlockAll (unlockC h d) r
end PI

/-! PI1: the evaluator. -/
namespace PI
set_option linter.all false

/-- calls of functions of the program; the heap's length below which nothing of this frame is kept; the program -/
structure Cc where
  cl : Nat → Nat → List D → Hv → Res D
  base : Nat
  pr : Pr

def quiet {α : Type} (r : Res α) : Res α := match r with
  | .ex _ _ => .no 300
  | r => r
def asB (r : Res D) : Res Bool := r.bind fun d h => match d with
  | .bl b => .ok b h
  | _ => .no 301
def collect (st : D → Hv → Res (Option D)) : List D → Hv → Res (List D)
  | [], h => .ok [] h
  | x :: xs, h => (quiet (st x h)).bind fun o h1 => (collect st xs h1).bind fun ys h2 => .ok (match o with | some y => y :: ys | none => ys) h2
/-- .. into the cell i -/
def lcLoop (i : Nat) (st : D → Hv → Res (Option D)) : List D → Hv → Res Unit
  | [], h => .ok () h
  | x :: xs, h => (quiet (st x h)).bind fun o h1 => match o with
    | some y => match h1[i]? with
      | some (.lst acc) => if Nat.blt acc.length sizeMax then lcLoop i st xs (h1.set i (.lst (acc ++ [y]))) else .no 302
      | _ => .no 303
    | none => lcLoop i st xs h1
def lcEnd (m : Bool) (i : Nat) (h : Hv) : Res D := match h[i]? with
  | some (.lst ys) => if m then .ok (.ref i) h else .ok (.lst ys) (h.set i .dead)
  | _ => .no 304
def wipeS (σ : Sl) : List Nat → Sl
  | [] => σ
  | i :: l => (wipeS σ l).set i none
/-- the pairs of a display are put into the cell i that was laid ahead -/
def dispD (i : Nat) (t : Bool) (xs : List D) (h : Hv) : Res D :=
  if t then .no 417 else match pairUp xs with
  | some ps => if ps.all (fun p => D.atom p.1) && Nat.ble ps.length 15 then match h[i]? with
      | some (.dic false []) => .ok (.ref i) (h.set i (.dic false (kputs [] ps)))
      | _ => .no 418
    else .no 419
  | none => .no 420
/-- an item is given to the targets -/
def setSub (base : Nat) (x i v : D) (h : Hv) : Res Unit :=
  match x with
  | .ref a => match h[a]? with
    | some o => match o with
      | .dic false l => if D.atom i && stOk base a v && Nat.blt l.length sizeMax then .ok () (h.set a (.dic false (kput i v l))) else .no 330
      | .lst l => match i with
        | .int k => match ixAt l.length k with
          | some j => if stOk base a v then .ok () (h.set a (.lst (l.set j v))) else .no 331
          | none => .no 332
        | _ => .no 333
      | _ => .no 336
    | none => .no 337
  | _ => .no 338
def setFld (base : Nat) (x : D) (f : Nat) (v : D) (h : Hv) : Res Unit :=
  match insOf h x with
  | some (a, c, fs) => if stOk base a v && Nat.blt fs.length 1000 then .ok () (h.set a (.ins c (fput f v fs))) else .no 334
  | none => .no 335
/-- .. of the class k still -/
def setFldC (base : Nat) (k : Nat) (x : D) (f : Nat) (v : D) (h : Hv) : Res Unit :=
  match insOf h x with
  | some (a, c, fs) => if c = k then if stOk base a v && Nat.blt fs.length 1000 then .ok () (h.set a (.ins c (fput f v fs))) else .no 334 else .no 339
  | none => .no 335
def augD (o : BO) (x y : D) (h : Hv) : Res D :=
  match x, y with
  | .int a, .int b => match o with
    | .add => .ok (.int (a + b)) h
    | .sub => .ok (.int (a - b)) h
    | _ => .no 340
  | _, _ => .no 341
def fmtOf : List D → Option (List Nat)
  | _ => none
def rngD (k : Nat) (xs : List D) (h : Hv) : Res (List D) :=
  match k with
  | 1 => match xs with
    | [.int n] => if n ≤ 16777216 ∧ -16777216 ≤ n then .ok (rangeL 0 1 n.toNat) h else .no 425
    | _ => .no 428
  | 2 => match xs with
    | [.int a, .int b] => if b - a ≤ 16777216 ∧ -4611686018427387904 ≤ a ∧ a < 4611686018427387904 ∧ -4611686018427387904 ≤ b ∧ b < 4611686018427387904 then .ok (rangeL a 1 (b - a).toNat) h else .no 426
    | _ => .no 428
  | 3 => match xs with
    | [.int a, .int b, .int k] => if k = -1 ∧ -1073741824 ≤ a ∧ a ≤ 1073741824 ∧ -1073741824 ≤ b ∧ b ≤ 1073741824 ∧ a - b ≤ 16777216 then .ok (rangeL a (-1) (a - b).toNat) h else .no 427
    | _ => .no 428
  | _ => .no 429
def toldOf (P : Pr) (f : Nat) : Option (List Nat × D) := match P.told.lookup f with
  | some p => some p
  | none => none
def catchD (cs : List Nat) (d : D) (r : Res D) : Res D := match r with
  | .ex c h => if cs.contains c then .ok d h else .no 414
  | r => r
/-- what a telling def says of f is not d -/
def badStep (cs : List Nat) (d : D) (f : Hv → Res D) (h : Hv) : Res Bool := (catchD cs d (f h)).bind fun x h1 => asB (opC .ne x d h1)
/-- a 1 for each such, into the cell i -/
def badL (cs : List Nat) (d : D) (i : Nat) : List (Hv → Res D) → Hv → Res Unit
  | [], h => .ok () h
  | f :: r, h => (quiet (badStep cs d f h)).bind fun k h1 => if k then match h1[i]? with
      | some (.lst acc) => if Nat.blt acc.length sizeMax then badL cs d i r (h1.set i (.lst (acc ++ [.int 1]))) else .no 302
      | _ => .no 303
    else badL cs d i r h1
/-- are there such -/
def badQ (cs : List Nat) (d : D) (fs : List (Hv → Res D)) (h : Hv) : Res Bool :=
  asB ((((badL cs d h.length fs (h ++ [.lst []])).bind fun _ h1 => lcEnd false h.length h1)).bind fun y h2 => (mkL false [] h2).bind fun z h3 => opC .ne y z h3)

mutual
def ev (c : Cc) (σ : Sl) : E → Hv → Res D
  | .var i, h => match σ[i]? with
    | some (some d) => .ok d h
    | _ => .no 400
  | .cst d, h => .ok d h
  | .gcn _ d, h => .ok d h
  | .frz e, h => (ev c σ e h).bind fun d h1 => match d with
    | .ref i => match h1[i]? with
      | some (.lst l) => .ok (.lst l) (h1.set i .dead)
      | some (.dic _ l) => .ok (.dic l) (h1.set i .dead)
      | _ => .no 401
    | d => .ok d h1
  | .bin o m a b, h => (ev c σ a h).bind fun x h1 => (ev c σ b h1).bind fun y h2 => opB o m x y h2
  | .neg a, h => (ev c σ a h).bind fun x h1 => match x with
    | .int i => .ok (.int (-i)) h1
    | _ => .no 402
  | .not a, h => (asB (ev c σ a h)).bind fun b h1 => .ok (.bl !b) h1
  | .cmp o a b, h => (ev c σ a h).bind fun x h1 => (ev c σ b h1).bind fun y h2 => opC o x y h2
  | .chn o p a b d, h => (ev c σ a h).bind fun x h1 => (ev c σ b h1).bind fun y h2 => (asB (opC o x y h2)).bind fun k h3 =>
    if k then (ev c σ d h3).bind fun z h4 => opC p y z h4 else .ok (.bl false) h3
  | .and es, h => evAnd c σ es h
  | .or es, h => evOr c σ es h
  | .ife t a b, h => (asB (ev c σ t h)).bind fun k h1 => if k then ev c σ a h1 else ev c σ b h1
  | .tup es, h => (evs c σ es h).bind fun xs h1 => .ok (.tup xs) h1
  | .lst m es, h => (evs c σ es h).bind fun xs h1 => mkL m xs h1
  | .dic m t es, h => if m then (evs c σ es (h ++ [.dic t []])).bind fun xs h1 => dispD h.length t xs h1 else .no 403
  | .att e f, h => (ev c σ e h).bind fun x h1 => match insOf h1 x with
    | some (_, _, fs) => opt (fget f fs) 404 fun d => .ok d h1
    | none => .no 405
  | .idx e i, h => (ev c σ e h).bind fun x h1 => (ev c σ i h1).bind fun y h2 => idxD h2 x y
  | .slc m e lo hi st, h => (ev c σ e h).bind fun x h1 => (evo c σ lo h1).bind fun a h2 => (evo c σ hi h2).bind fun b h3 => (evo c σ st h3).bind fun s h4 => slcD m h4 x a b s
  | .call f es, h => (evs c σ es h).bind fun xs h1 => c.cl c.base f xs h1
  | .new k f es, h => (evs c σ es h).bind fun xs h1 => (c.cl c.base f (.ref h1.length :: xs) (h1 ++ [.ins k []])).bind fun d h2 => match d with
    | .non => .ok (.ref h1.length) h2
    | _ => .no 406
  | .mth k m f e es, h => (ev c σ e h).bind fun x h1 => match insOf h1 x with
    | some (_, k', fs) => if k = k' ∧ fget m fs = none then (evs c σ es h1).bind fun xs h2 => c.cl c.base f (x :: xs) h2 else .no 407
    | none => .no 408
  | .bi b m es, h => (evs c σ es h).bind fun xs h1 => biD b m h1 xs
  | .bm b m e es, h => (ev c σ e h).bind fun x h1 => if bmOk b h1 x then (evs c σ es h1).bind fun xs h2 => bmD c.base b m h2 x xs else .no 416
  | .cmpr k m own t it ifs el v, h => (evI c σ it h).bind fun xs h1 => match k with
    | .lst => (lcLoop h1.length (fun x hh => (asg c t x (wipeS σ own) hh).bind fun σ1 h2 => (asB (evAnd c σ1 ifs h2)).bind fun b h3 => if b then (ev c σ1 el h3).bind fun y h4 => .ok (some y) h4 else .ok none h3) xs (h1 ++ [.lst []])).bind fun _ h2 => lcEnd m h1.length h2
    | .tup => if Nat.ble xs.length sizeMax then (collect (fun x hh => (asg c t x (wipeS σ own) hh).bind fun σ1 h2 => (asB (evAnd c σ1 ifs h2)).bind fun b h3 => if b then (ev c σ1 el h3).bind fun y h4 => .ok (some y) h4 else .ok none h3) xs h1).bind fun ys h2 => .ok (.tup ys) h2 else .no 305
    | _ => .no 320
  | .fst ps, h => (evs c σ ps h).bind fun xs h1 => opt (fmtOf xs) 409 fun s => if Nat.ble s.length sizeMax then .ok (.str s) h1 else .no 410
  | .told f e, h => match toldOf c.pr f with
    | some (cs, d) => catchD cs d (ev c σ e h)
    | none => .no 411
  | .callv i es, h => match σ[i]? with
    | some (some (.lam k caps)) => (evs c σ es h).bind fun xs h1 => c.cl c.base k (xs ++ caps) h1
    | _ => .no 414
  | .lof tp m it, h => (evI c σ it h).bind fun xs h1 => if tp then .ok (.tup xs) h1 else mkL m xs h1
  | .lam k caps, h => match caps.mapM (fun i => match σ[i]? with | some o => o | none => none) with
    | some ds => .ok (.lam k ds) h
    | none => .no 415
def evs (c : Cc) (σ : Sl) : List E → Hv → Res (List D)
  | [], h => .ok [] h
  | e :: es, h => (ev c σ e h).bind fun x h1 => (evs c σ es h1).bind fun xs h2 => .ok (x :: xs) h2
def evf (c : Cc) (σ : Sl) : List E → List (Hv → Res D)
  | [] => []
  | e :: es => (fun h => ev c σ e h) :: evf c σ es
def evo (c : Cc) (σ : Sl) : Option E → Hv → Res (Option D)
  | none, h => .ok none h
  | some e, h => (ev c σ e h).bind fun x h1 => .ok (some x) h1
def evAnd (c : Cc) (σ : Sl) : List E → Hv → Res D
  | [], h => .ok (.bl true) h
  | e :: es, h => (asB (ev c σ e h)).bind fun b h1 => if b then evAnd c σ es h1 else .ok (.bl false) h1
def evOr (c : Cc) (σ : Sl) : List E → Hv → Res D
  | [], h => .ok (.bl false) h
  | e :: es, h => (asB (ev c σ e h)).bind fun b h1 => if b then .ok (.bl true) h1 else evOr c σ es h1
/-- the items walked -/
def evI (c : Cc) (σ : Sl) : I → Hv → Res (List D)
  | .seq e, h => (ev c σ e h).bind fun x h1 => match x with
    | .lst l => .ok l h1
    | _ => .no 420
  | .str e, h => (ev c σ e h).bind fun x h1 => match x with
    | .str s => .ok (signs s) h1
    | _ => .no 421
  | .rng es, h => (evs c σ es h).bind fun xs h1 => rngD es.length xs h1
  | .enu i, h => match i with
    | .any e => (ev c σ e h).bind fun x h1 => match x with
      | .str s => if Nat.ble s.length sizeMax then .ok (enumD 0 (signs s)) h1 else .no 435
      | .tup l => .ok (enumD 0 l) h1
      | .lst l => .ok (enumD 0 l) h1
      | _ => .no 434
    | _ => .no 436
  | _, _ => .no 437
def asg (c : Cc) : T → D → Sl → Hv → Res Sl
  | .var i, d, σ, h => if i < σ.length then .ok (σ.set i (some d)) h else .no 430
  | .tup ts, d, σ, h => match d with
    | .tup l => if l.length = ts.length then asgs c ts l σ h else .no 431
    | _ => .no 432
  | .att e f, d, σ, h => (quiet (ev c σ e h)).bind fun x h1 => (setFld c.base x f d h1).bind fun _ h2 => .ok σ h2
  | .idx e i, d, σ, h => (quiet (ev c σ e h)).bind fun x h1 => (quiet (ev c σ i h1)).bind fun y h2 => (setSub c.base x y d h2).bind fun _ h3 => .ok σ h3
def asgs (c : Cc) : List T → List D → Sl → Hv → Res Sl
  | [], [], σ, h => .ok σ h
  | t :: ts, d :: ds, σ, h => (asg c t d σ h).bind fun σ1 h1 => asgs c ts ds σ1 h1
  | _, _, _, _ => .no 433
end

/-! ### statements -/
def Out.mapH (f : Hv → Hv) : Out → Out
  | .nx σ h => .nx σ (f h)
  | .rt d h => .rt d (f h)
  | .bk σ h => .bk σ (f h)
  | .ct σ h => .ct σ (f h)
  | .ex c σ h => .ex c σ (f h)
  | .no w => .no w
/-- behind an expression in a statement; σ the slots meanwhile -/
def Res.out {α : Type} (r : Res α) (σ : Sl) (f : α → Hv → Out) : Out := match r with
  | .ok a h => f a h
  | .ex c h => .ex c σ h
  | .no w => .no w
def floop (t : D → Sl → Hv → Res Sl) (b : Sl → Hv → Out) : List D → Sl → Hv → Out
  | [], σ, h => .nx σ h
  | x :: xs, σ, h => (t x σ h).out σ fun σ1 h1 => match b σ1 h1 with
    | .nx σ2 h2 => floop t b xs σ2 h2
    | .ct σ2 h2 => floop t b xs σ2 h2
    | .bk σ2 h2 => .nx σ2 h2
    | o => o
def wloop (t : Sl → Hv → Res Bool) (b : Sl → Hv → Out) : Nat → Sl → Hv → Out
  | 0, _, _ => .no 500
  | n + 1, σ, h => (t σ h).out σ fun k h1 => if k then match b σ h1 with
      | .nx σ2 h2 => wloop t b n σ2 h2
      | .ct σ2 h2 => wloop t b n σ2 h2
      | .bk σ2 h2 => .nx σ2 h2
      | o => o
    else .nx σ h1
def turns : Nat := 100000
/-- a plain store of a name -/
def isVar : T → Option Nat
  | .var i => some i
  | _ => none
def setsV : List T → List D → Sl → Option Sl
  | [], [], σ => some σ
  | .var i :: ts, d :: ds, σ => if i < σ.length then setsV ts ds (σ.set i (some d)) else none
  | _, _, _ => none

mutual
def ex (c : Cc) : S → Sl → Hv → Out
  | .set t e, σ, h => (ev c σ e h).out σ fun d h1 => (asg c t d σ h1).out σ fun σ1 h2 => .nx σ1 h2
  | .par ts es, σ, h => (evs c σ es h).out σ fun ds h1 => (asgs c ts ds σ h1).out σ fun σ1 h2 => .nx σ1 h2
  | .aug o t e, σ, h => match t with
    | .var i => (ev c σ (.var i) h).out σ fun x h1 => (ev c σ e h1).out σ fun y h2 => (augD o x y h2).out σ fun z h3 => if i < σ.length then .nx (σ.set i (some z)) h3 else .no 501
    | .att a f => (ev c σ a h).out σ fun x h1 => match insOf h1 x with
      | some (_, k, fs) => match fget f fs with
        | some v => (ev c σ e h1).out σ fun y h2 => (augD o v y h2).out σ fun z h3 => (setFldC c.base k x f z h3).out σ fun _ h4 => .nx σ h4
        | none => .no 502
      | none => .no 503
    | .idx _ _ => .no 509
    | .tup _ => .no 504
  | .exp e, σ, h => (ev c σ e h).out σ fun _ h1 => .nx σ h1
  | .ret e, σ, h => (ev c σ e h).out σ fun d h1 => .rt d h1
  | .retn, _, h => .rt .non h
  | .ife t a b, σ, h => (asB (ev c σ t h)).out σ fun k h1 => if k then exs c a σ h1 else exs c b σ h1
  | .whl t b, σ, h => wloop (fun σ h => asB (ev c σ t h)) (fun σ h => exs c b σ h) turns σ h
  | .fr t it b, σ, h => (evI c σ it h).out σ fun xs h1 => floop (fun d σ h => asg c t d σ h) (fun σ h => exs c b σ h) xs σ h1
  | .rai k, σ, h => .ex k σ h
  | .try b cs hb, σ, h => match exs c b σ h with
    | .ex k σ1 h1 => if cs.contains k then exs c hb σ1 h1 else .ex k σ1 h1
    | o => o
  | .del _ _, _, _ => .no 507
  | .pss, σ, h => .nx σ h
  | .cont, σ, h => .ct σ h
  | .badif i j f own es ts b, σ, h => if i < σ.length ∧ j < σ.length ∧ own.contains j = true then match toldOf c.pr f with
    | some (cs, d) => (badQ cs d (evf c (σ.set i none) es) h).out (σ.set i none) fun k h1 => if k then exs c b (σ.set i none) h1 else (asB (evOr c (σ.set i none) ts h1)).out (σ.set i none) fun k2 h2 => if k2 then exs c b (σ.set i none) h2 else .nx (σ.set i none) h2
    | none => .no 510
    else .no 508
def exs (c : Cc) : List S → Sl → Hv → Out
  | [], σ, h => .nx σ h
  | s :: l, σ, h => match ex c s σ h with
    | .nx σ1 h1 => exs c l σ1 h1
    | o => o
end

/-- the arguments, with the defaults behind -/
def fill (f : Fn) (xs : List D) : List D := if xs.length < f.np then xs ++ f.df.drop (f.df.length - (f.np - xs.length)) else xs
def start (f : Fn) (xs : List D) : Sl := xs.map some ++ List.replicate (f.ns - xs.length) none
def leave (f : Fn) (n : Nat) (o : Out) : Res D :=
  if f.gc then match o with
    | .nx _ h => .ok .non (h.take n)
    | .rt d h => if D.bel n d then .ok d (h.take n) else .no 600
    | .ex c _ h => .ex c (h.take n)
    | .no w => .no w
    | _ => .no 601
  else match o with
    | .nx _ h => .ok .non h
    | .rt d h => .ok d h
    | .ex c _ h => .ex c h
    | .no w => .no w
    | _ => .no 602
/-- a call, n levels deep at most -/
def callF (P : Pr) : Nat → Nat → Nat → List D → Hv → Res D
  | 0, _, _, _, _ => .no 603
  | n + 1, base, f, xs, h => match P.fns[f]? with
    | some fn => if (fill fn xs).length = fn.np then
        leave fn h.length (exs ⟨callF P n, if fn.gc then h.length else base, P⟩ fn.body (start fn (fill fn xs)) h)
      else .no 604
    | none => .no 605
end PI

/-! SA: what a state of the interpreter says of the library's abstract heap. -/
set_option linter.all false
set_option maxRecDepth 100000
namespace PI
open PySem PySem.Spec L2
abbrev Fh := L2.Hp

/-- what stands fixed for the whole program -/
structure GT where
  K : PySem.W.Frag
  cls : Nat → Addr
  xcl : Nat → Addr
  nm : Nat → Str
  nmI : ∀ f g, nm f = nm g → f = g
  TL : List (Addr × Str)
  TG : List Addr

def keyD : Key → D
  | .inl i => .int i
  | .inr x => .str x.cps.toList
def keysD (l : List Key) : D := .tup (l.map keyD)

/- the value v is the datum d; F what is fixed for good, ρ where the cells lie -/
mutual
def DR (G : GT) (F : Fh) (ρ : List Addr) : D → V → Prop
  | .non, v => v = .non
  | .bl b, v => v = .bl b
  | .int i, v => v = .int i
  | .str s, v => v = .str ⟨s.toArray⟩
  | .tup l, v => ∃ a vs, v = .ref a ∧ SqT G.K F a vs ∧ DRs G F ρ l vs
  | .lst l, v => ∃ a vs, v = .ref a ∧ F a = some (.lst vs) ∧ DRs G F ρ l vs
  | .dic l, v => ∃ a o, v = .ref a ∧ ((∃ kvs : List (Key × V), F a = some (.frz o (.dK kvs)) ∧ kvs.map (fun p => keyD p.1) = l.map (·.1) ∧ DRp G F ρ l (kvs.map (·.2))) ∨
      (∃ kvs : List (List Key × V), F a = some (.frz o (.dT kvs)) ∧ kvs.map (fun p => keysD p.1) = l.map (·.1) ∧ DRp G F ρ l (kvs.map (·.2))))
  | .ref i, v => ∃ a, v = .ref a ∧ ρ[i]? = some a
  | .lam _ _, _ => False
def DRs (G : GT) (F : Fh) (ρ : List Addr) : List D → List V → Prop
  | [], vs => vs = []
  | d :: l, vs => ∃ v r, vs = v :: r ∧ DR G F ρ d v ∧ DRs G F ρ l r
def DRp (G : GT) (F : Fh) (ρ : List Addr) : List (D × D) → List V → Prop
  | [], vs => vs = []
  | (_, d) :: l, vs => ∃ v r, vs = v :: r ∧ DR G F ρ d v ∧ DRp G F ρ l r
end

/-- F may grow, cells may come beside -/
structure Ext (F : Fh) (ρ : List Addr) (F' : Fh) (ρ' : List Addr) : Prop where
  same : ∀ a o, F a = some o → F' a = some o
  pre : ∀ (i : Nat) (a : Addr), ρ[i]? = some a → ρ'[i]? = some a
theorem Ext.refl (F : Fh) (ρ : List Addr) : Ext F ρ F ρ := ⟨fun _ _ h => h, fun _ _ h => h⟩
theorem Ext.trans {F F1 F2 : Fh} {ρ ρ1 ρ2 : List Addr} (a : Ext F ρ F1 ρ1) (b : Ext F1 ρ1 F2 ρ2) : Ext F ρ F2 ρ2 :=
  ⟨fun x o h => b.same x o (a.same x o h), fun i x h => b.pre i x (a.pre i x h)⟩
theorem Ext.upd {F : Fh} {ρ : List Addr} {a : Addr} {o : HO} (h : F a = none) : Ext F ρ (L2.upd F a o) ρ :=
  ⟨fun b u e => by rw [upd_ne (ne_of_none e h)]; exact e, fun _ _ h => h⟩
theorem Ext.snoc {F : Fh} {ρ : List Addr} {a : Addr} : Ext F ρ F (ρ ++ [a]) :=
  ⟨fun _ _ h => h, fun i x h => by rw [List.getElem?_append_left (List.getElem?_eq_some_iff.mp h).1]; exact h⟩
theorem ext_rd {F F' : Fh} {a : Addr} {u : HO} (e : ∀ a o, F a = some o → F' a = some o) (h : Rd F a u) : Rd F' a u := by
  rcases h with h | ⟨o, h⟩
  · exact .inl (e _ _ h)
  · exact .inr ⟨o, e _ _ h⟩
theorem ext_sqL {K : PySem.W.Frag} {F F' : Fh} {a : Addr} {xs : List V} (e : ∀ a o, F a = some o → F' a = some o) (h : SqL K F a xs) : SqL K F' a xs := by
  rcases h with h | h
  · exact .inl (ext_rd e h)
  · exact .inr h
theorem ext_sqT {K : PySem.W.Frag} {F F' : Fh} {a : Addr} {xs : List V} (e : ∀ a o, F a = some o → F' a = some o) (h : SqT K F a xs) : SqT K F' a xs := by
  rcases h with h | h
  · exact .inl (ext_rd e h)
  · exact .inr h
mutual
theorem DR.mono {G : GT} {F F' : Fh} {ρ ρ' : List Addr} (e : Ext F ρ F' ρ') : ∀ {d : D} {v : V}, DR G F ρ d v → DR G F' ρ' d v
  | .non, _, h => h
  | .bl _, _, h => h
  | .int _, _, h => h
  | .str _, _, h => h
  | .tup l, _, h => by
    obtain ⟨a, vs, h1, h2, h3⟩ := (show ∃ a vs, _ ∧ SqT G.K F a vs ∧ DRs G F ρ l vs from by simpa only [DR] using h)
    simp only [DR]
    exact ⟨a, vs, h1, ext_sqT e.same h2, DRs.mono e h3⟩
  | .lst l, _, h => by
    simp only [DR] at h ⊢
    obtain ⟨a, vs, h1, h2, h3⟩ := h
    exact ⟨a, vs, h1, e.same _ _ h2, DRs.mono e h3⟩
  | .dic l, _, h => by
    simp only [DR] at h ⊢
    obtain ⟨a, o, h1, h⟩ := h
    refine ⟨a, o, h1, ?_⟩
    rcases h with ⟨kvs, h2, h3, h4⟩ | ⟨kvs, h2, h3, h4⟩
    · exact .inl ⟨kvs, e.same _ _ h2, h3, DRp.mono e h4⟩
    · exact .inr ⟨kvs, e.same _ _ h2, h3, DRp.mono e h4⟩
  | .ref i, _, h => by
    simp only [DR] at h ⊢
    obtain ⟨a, h1, h2⟩ := h
    exact ⟨a, h1, e.pre _ _ h2⟩
  | .lam _ _, _, h => by simp only [DR] at h
theorem DRs.mono {G : GT} {F F' : Fh} {ρ ρ' : List Addr} (e : Ext F ρ F' ρ') : ∀ {l : List D} {vs : List V}, DRs G F ρ l vs → DRs G F' ρ' l vs
  | [], _, h => h
  | d :: l, _, h => by
    simp only [DRs] at h ⊢
    obtain ⟨v, r, h1, h2, h3⟩ := h
    exact ⟨v, r, h1, DR.mono e h2, DRs.mono e h3⟩
theorem DRp.mono {G : GT} {F F' : Fh} {ρ ρ' : List Addr} (e : Ext F ρ F' ρ') : ∀ {l : List (D × D)} {vs : List V}, DRp G F ρ l vs → DRp G F' ρ' l vs
  | [], _, h => h
  | (_, d) :: l, _, h => by
    simp only [DRp] at h ⊢
    obtain ⟨v, r, h1, h2, h3⟩ := h
    exact ⟨v, r, h1, DR.mono e h2, DRp.mono e h3⟩
end
section
variable {G : GT} {F : Fh} {ρ : List Addr}
theorem drs_nil {vs : List V} : DRs G F ρ [] vs ↔ vs = [] := by simp only [DRs]
theorem drs_cons {d : D} {l : List D} {v : V} {r : List V} : DRs G F ρ (d :: l) (v :: r) ↔ DR G F ρ d v ∧ DRs G F ρ l r := by
  simp only [DRs]
  constructor
  · rintro ⟨v', r', e, h1, h2⟩
    cases e
    exact ⟨h1, h2⟩
  · rintro ⟨h1, h2⟩
    exact ⟨v, r, rfl, h1, h2⟩
theorem DRs.length : ∀ {l : List D} {vs : List V}, DRs G F ρ l vs → vs.length = l.length
  | [], vs, h => by rw [drs_nil] at h; subst h; rfl
  | d :: l, vs, h => by
    simp only [DRs] at h
    obtain ⟨v, r, e, _, h2⟩ := h
    subst e
    rw [List.length_cons, List.length_cons, DRs.length h2]
theorem DRs.get : ∀ {l : List D} {vs : List V} {i : Nat} {d : D}, DRs G F ρ l vs → l[i]? = some d → ∃ v, vs[i]? = some v ∧ DR G F ρ d v
  | [], _, _, _, _, hq => by simp at hq
  | x :: l, vs, 0, d, h, e => by
    simp only [DRs] at h
    obtain ⟨v, r, e1, h1, h2⟩ := h
    simp at e
    subst e e1
    exact ⟨v, rfl, h1⟩
  | x :: l, vs, i + 1, d, h, e => by
    simp only [DRs] at h
    obtain ⟨v, r, e1, h1, h2⟩ := h
    subst e1
    obtain ⟨w, h3, h4⟩ := DRs.get (i := i) (d := d) h2 (by simpa using e)
    exact ⟨w, by simpa using h3, h4⟩
theorem DRs.append : ∀ {l l' : List D} {vs vs' : List V}, DRs G F ρ l vs → DRs G F ρ l' vs' → DRs G F ρ (l ++ l') (vs ++ vs')
  | [], _, vs, _, h, h' => by rw [drs_nil] at h; subst h; exact h'
  | x :: l, l', vs, vs', h, h' => by
    simp only [DRs] at h
    obtain ⟨v, r, e1, h1, h2⟩ := h
    subst e1
    rw [List.cons_append, List.cons_append, drs_cons]
    exact ⟨h1, DRs.append h2 h'⟩
theorem DRs.take : ∀ {l : List D} {vs : List V} (n : Nat), DRs G F ρ l vs → DRs G F ρ (l.take n) (vs.take n)
  | _, _, 0, _ => by simp [DRs]
  | [], vs, n + 1, h => by rw [drs_nil] at h; subst h; simp [DRs]
  | x :: l, vs, n + 1, h => by
    simp only [DRs] at h
    obtain ⟨v, r, e1, h1, h2⟩ := h
    subst e1
    rw [List.take_succ_cons, List.take_succ_cons, drs_cons]
    exact ⟨h1, DRs.take n h2⟩
theorem DRs.drop : ∀ {l : List D} {vs : List V} (n : Nat), DRs G F ρ l vs → DRs G F ρ (l.drop n) (vs.drop n)
  | _, _, 0, h => h
  | [], vs, n + 1, h => by rw [drs_nil] at h; subst h; simp [DRs]
  | x :: l, vs, n + 1, h => by
    simp only [DRs] at h
    obtain ⟨v, r, e1, h1, h2⟩ := h
    subst e1
    rw [List.drop_succ_cons, List.drop_succ_cons]
    exact DRs.drop n h2
theorem DRs.set : ∀ {l : List D} {vs : List V} {d : D} {v : V} (n : Nat), DRs G F ρ l vs → DR G F ρ d v → DRs G F ρ (l.set n d) (vs.set n v)
  | [], vs, _, _, n, h, _ => by rw [drs_nil] at h; subst h; simp [DRs]
  | x :: l, vs, d, v, 0, h, hd => by
    simp only [DRs] at h
    obtain ⟨w, r, e1, h1, h2⟩ := h
    subst e1
    rw [List.set_cons_zero, List.set_cons_zero, drs_cons]
    exact ⟨hd, h2⟩
  | x :: l, vs, d, v, n + 1, h, hd => by
    simp only [DRs] at h
    obtain ⟨w, r, e1, h1, h2⟩ := h
    subst e1
    rw [List.set_cons_succ, List.set_cons_succ, drs_cons]
    exact ⟨h1, DRs.set n h2 hd⟩
theorem DRs.reverse {l : List D} {vs : List V} (h : DRs G F ρ l vs) : DRs G F ρ l.reverse vs.reverse := by
  induction l generalizing vs with
  | nil => rw [drs_nil] at h; subst h; simp [DRs]
  | cons x l ih =>
    simp only [DRs] at h
    obtain ⟨v, r, e1, h1, h2⟩ := h
    subst e1
    (rw [List.reverse_cons, List.reverse_cons])
    exact (ih h2).append (by rw [drs_cons]; exact ⟨h1, drs_nil.mpr rfl⟩)
end

/-! ### the slots -/
def SO (G : GT) (F : Fh) (ρ : List Addr) : Option D → Option V → Prop
  | some d, o => ∃ v, o = some v ∧ DR G F ρ d v
  | none, _ => True
/-- slots by slots -/
structure SlotR (G : GT) (F : Fh) (ρ : List Addr) (τ : Sl) (σ : L2.St) : Prop where
  len : σ.length = τ.length
  at_ : ∀ (i : Nat) (d : D), τ[i]? = some (some d) → ∃ v, σ[i]? = some (some v) ∧ DR G F ρ d v
theorem SlotR.mono {G : GT} {F F' : Fh} {ρ ρ' : List Addr} {τ : Sl} {σ : L2.St} (h : SlotR G F ρ τ σ) (e : Ext F ρ F' ρ') : SlotR G F' ρ' τ σ :=
  ⟨h.len, fun i d q => let ⟨v, a, b⟩ := h.at_ i d q; ⟨v, a, b.mono e⟩⟩

/-! ### the cells -/
def FRs (G : GT) (F : Fh) (ρ : List Addr) : List (Nat × D) → List (Str × V) → Prop
  | [], fs => fs = []
  | (f, d) :: l, fs => ∃ v r, fs = (G.nm f, v) :: r ∧ DR G F ρ d v ∧ FRs G F ρ l r
/-- the cell's content o at the address a -/
def ObR (G : GT) (F : Fh) (ρ : List Addr) (H : L2.Hp) (a : Addr) : Ob → Prop
  | .lst l => ∃ vs, H a = some (.lst vs) ∧ DRs G F ρ l vs
  | .dic false l => ∃ kvs : List (Key × V), H a = some (.dK kvs) ∧ kvs.map (fun p => keyD p.1) = l.map (·.1) ∧ DRp G F ρ l (kvs.map (·.2))
  | .dic true l => ∃ kvs : List (List Key × V), H a = some (.dT kvs) ∧ kvs.map (fun p => keysD p.1) = l.map (·.1) ∧ DRp G F ρ l (kvs.map (·.2))
  | .ins c fs => ∃ dx gs, H a = some (.ins (G.cls c) dx gs) ∧ FRs G F ρ fs gs
  | .lck (.lst l) => ∃ vs, H a = some (.lst vs) ∧ DRs G F ρ l vs
  | .lck (.dic false l) => ∃ o, ∃ kvs : List (Key × V), H a = some (.frz o (.dK kvs)) ∧ kvs.map (fun p => keyD p.1) = l.map (·.1) ∧ DRp G F ρ l (kvs.map (·.2))
  | .lck (.dic true l) => ∃ o, ∃ kvs : List (List Key × V), H a = some (.frz o (.dT kvs)) ∧ kvs.map (fun p => keysD p.1) = l.map (·.1) ∧ DRp G F ρ l (kvs.map (·.2))
  | .lck _ => False
  | .fix l => ∃ vs, SqL G.K F a vs ∧ DRs G F ρ l vs
  | .dead => True
def isDead : Ob → Bool
  | .dead => true
  | _ => false
/-- what is never changed: a dead cell, a written list -/
def fixed : Ob → Bool
  | .dead => true
  | .fix _ => true
  | _ => false
def obBel (n : Nat) : Ob → Bool
  | .lst l => D.bels n l
  | .dic _ l => D.belp n l
  | .ins _ fs => fs.all fun p => D.bel n p.2
  | .lck (.lst l) => D.bels n l
  | .lck (.dic _ l) => D.belp n l
  | .fix l => D.bels n l
  | _ => true
theorem FRs.mono {G : GT} {F F' : Fh} {ρ ρ' : List Addr} (e : Ext F ρ F' ρ') : ∀ {l : List (Nat × D)} {fs : List (Str × V)}, FRs G F ρ l fs → FRs G F' ρ' l fs
  | [], _, h => h
  | (f, d) :: l, _, h => by
    simp only [FRs] at h ⊢
    obtain ⟨v, r, h1, h2, h3⟩ := h
    exact ⟨v, r, h1, h2.mono e, FRs.mono e h3⟩
/-- a cell's content, carried: what is fixed has grown, at its own address nothing has changed -/
theorem ObR.mono {G : GT} {F F' : Fh} {ρ ρ' : List Addr} {H H' : L2.Hp} {a : Addr} (e : Ext F ρ F' ρ') (hH : H' a = H a) : ∀ {o : Ob}, ObR G F ρ H a o → ObR G F' ρ' H' a o := by
  intro o h
  cases o with
  | lst l => obtain ⟨vs, h1, h2⟩ := h; exact ⟨vs, by rw [hH]; exact h1, h2.mono e⟩
  | dic t l =>
    cases t with
    | false => obtain ⟨kvs, h1, h2, h3⟩ := h; exact ⟨kvs, by rw [hH]; exact h1, h2, h3.mono e⟩
    | true => obtain ⟨kvs, h1, h2, h3⟩ := h; exact ⟨kvs, by rw [hH]; exact h1, h2, h3.mono e⟩
  | ins c fs => obtain ⟨dx, gs, h1, h2⟩ := h; exact ⟨dx, gs, by rw [hH]; exact h1, h2.mono e⟩
  | lck o =>
    cases o with
    | lst l => obtain ⟨vs, h1, h2⟩ := h; exact ⟨vs, by rw [hH]; exact h1, h2.mono e⟩
    | dic t l =>
      cases t with
      | false => obtain ⟨o, kvs, h1, h2, h3⟩ := h; exact ⟨o, kvs, by rw [hH]; exact h1, h2, h3.mono e⟩
      | true => obtain ⟨o, kvs, h1, h2, h3⟩ := h; exact ⟨o, kvs, by rw [hH]; exact h1, h2, h3.mono e⟩
    | ins c fs => exact h.elim
    | lck o => exact h.elim
    | fix l => exact h.elim
    | dead => exact h.elim
  | fix l =>
    obtain ⟨vs, h1, h2⟩ := h
    exact ⟨vs, ext_sqL e.same h1, h2.mono e⟩
  | dead => exact True.intro

/-- the interpreter's heap h, by the library's H. Bs: the lengths below which frames that run keep things -/
structure Rel (G : GT) (Bs : List Nat) (F : Fh) (ρ : List Addr) (h : Hv) (H : L2.Hp) : Prop where
  same : ∀ a o, F a = some o → H a = some o
  len : ρ.length = h.length
  cell : ∀ (i : Nat) (o : Ob), h[i]? = some o → isDead o = false → ∃ a, ρ[i]? = some a ∧ (fixed o = false → F a = none) ∧ ObR G F ρ H a o
  inj : ∀ (i j : Nat) (a : Addr) (o u : Ob), ρ[i]? = some a → ρ[j]? = some a → h[i]? = some o → h[j]? = some u → fixed o = false → fixed u = false → i = j
  lows : ∀ B ∈ Bs, B ≤ h.length
  low : ∀ B ∈ Bs, ∀ (i : Nat) (o : Ob), i < B → h[i]? = some o → obBel B o = true
  ntab : ∀ a ps, F a ≠ some (.tbl ps)
  tabs : LamX.Tabs G.TL H
  gens : ∀ P ∈ G.TG, ∃ ps : Array Value, H P = some (.tbl ps) ∧ TriplesOk ps.toList
/-- what a cell that can be changed holds is tracked -/
theorem ObR.some {G : GT} {F : Fh} {ρ : List Addr} {H : L2.Hp} {a : Addr} {o : Ob} (h : ObR G F ρ H a o) (hd : fixed o = false) : ∃ u, H a = some u ∧ ∀ ps, u ≠ .tbl ps := by
  cases o with
  | lst l => obtain ⟨vs, h1, _⟩ := h; exact ⟨_, h1, fun _ z => nomatch z⟩
  | dic t l =>
    cases t with
    | false => obtain ⟨kvs, h1, _⟩ := h; exact ⟨_, h1, fun _ z => nomatch z⟩
    | true => obtain ⟨kvs, h1, _⟩ := h; exact ⟨_, h1, fun _ z => nomatch z⟩
  | ins c fs => obtain ⟨dx, gs, h1, _⟩ := h; exact ⟨_, h1, fun _ z => nomatch z⟩
  | lck o =>
    cases o with
    | lst l => obtain ⟨vs, h1, _⟩ := h; exact ⟨_, h1, fun _ z => nomatch z⟩
    | dic t l =>
      cases t with
      | false => obtain ⟨o, kvs, h1, _⟩ := h; exact ⟨_, h1, fun _ z => nomatch z⟩
      | true => obtain ⟨o, kvs, h1, _⟩ := h; exact ⟨_, h1, fun _ z => nomatch z⟩
    | ins c fs => exact h.elim
    | lck o => exact h.elim
    | fix l => exact h.elim
    | dead => exact h.elim
  | fix l => cases hd
  | dead => cases hd
theorem ObR.nocode {G : GT} {F : Fh} {ρ : List Addr} {H : L2.Hp} {a : Addr} {o : Ob} {c : Addr} {q : Str} (h : ObR G F ρ H a o) (hd : fixed o = false) : H a ≠ .some (LamX.CodeO c q) := by
  unfold LamX.CodeO
  intro z
  cases o with
  | lst l => obtain ⟨vs, h1, _⟩ := h; rw [h1] at z; cases z
  | dic t l =>
    cases t with
    | false => obtain ⟨kvs, h1, _⟩ := h; rw [h1] at z; cases z
    | true => obtain ⟨kvs, h1, _⟩ := h; rw [h1] at z; cases z
  | ins c fs => obtain ⟨dx, gs, h1, _⟩ := h; rw [h1] at z; cases z
  | lck o =>
    cases o with
    | lst l => obtain ⟨vs, h1, _⟩ := h; rw [h1] at z; cases z
    | dic t l =>
      cases t with
      | false => obtain ⟨o, kvs, h1, _⟩ := h; rw [h1] at z; cases z
      | true => obtain ⟨o, kvs, h1, _⟩ := h; rw [h1] at z; cases z
    | ins c fs => exact h.elim
    | lck o => exact h.elim
    | fix l => exact h.elim
    | dead => exact h.elim
  | fix l => cases hd
  | dead => cases hd
/-- .. carried where what was tracked stays as it was -/
theorem ObR.keep {G : GT} {F F' : Fh} {ρ ρ' : List Addr} {H H' : L2.Hp} {a : Addr} {o : Ob} (e : Ext F ρ F' ρ') (hH : ∀ u, H a = .some u → (∀ ps, u ≠ .tbl ps) → H' a = .some u) (h : ObR G F ρ H a o) : ObR G F' ρ' H' a o := by
  by_cases hd : fixed o = true
  · cases o with
    | dead => exact True.intro
    | fix l =>
      obtain ⟨vs, h1, h2⟩ := h
      exact ⟨vs, ext_sqL e.same h1, h2.mono e⟩
    | _ => cases hd
  · have hd : fixed o = false := by cases q : fixed o <;> simp_all
    obtain ⟨u, h1, h2⟩ := h.some hd
    exact h.mono e (by rw [h1, hH u h1 h2])

/-! ### steps of the heap -/
section
variable {G : GT} {Bs : List Nat} {F : Fh} {ρ : List Addr} {h : Hv} {H H' : L2.Hp} {p : Addr}
theorem Rel.free (R : Rel G Bs F ρ h H) (hp : H p = none) : F p = none := by
  cases q : F p with
  | none => rfl
  | some o =>
    rw [R.same p o q] at hp
    cases hp
/-- everything tracked but the tables stays: they may grow -/
theorem Rel.ext (R : Rel G Bs F ρ h H) (k : ∀ b o, H b = some o → (∀ ps, o ≠ .tbl ps) → H' b = some o) (t : LamX.Tabs G.TL H') (g : ∀ P ∈ G.TG, ∃ ps : Array Value, H' P = some (.tbl ps) ∧ TriplesOk ps.toList) : Rel G Bs F ρ h H' where
  same := fun a o e => k a o (R.same a o e) fun ps z => R.ntab a ps (by rw [e, z])
  len := R.len
  cell := fun i o e d => by
    obtain ⟨a, h1, h2, h3⟩ := R.cell i o e d
    exact ⟨a, h1, h2, h3.keep (Ext.refl F ρ) (k a)⟩
  inj := R.inj
  lows := R.lows
  low := R.low
  ntab := R.ntab
  tabs := t
  gens := g
theorem Rel.gens_ext (R : Rel G Bs F ρ h H) (k : ∀ b o, H b = some o → H' b = some o) : ∀ P ∈ G.TG, ∃ ps : Array Value, H' P = some (.tbl ps) ∧ TriplesOk ps.toList := fun P hP =>
  let ⟨ps, h1, h2⟩ := R.gens P hP
  ⟨ps, k _ _ h1, h2⟩
theorem Rel.ext' (R : Rel G Bs F ρ h H) (k : ∀ b o, H b = some o → H' b = some o) : Rel G Bs F ρ h H' := R.ext (fun b o e _ => k b o e) (R.tabs.ext k) (R.gens_ext k)
/-- something new that never changes -/
theorem Rel.new (R : Rel G Bs F ρ h H) {u : HO} (hp : H p = none) (hu : ∀ ps, u ≠ .tbl ps) : Rel G Bs (L2.upd F p u) ρ h (L2.upd H p u) := by
  have R' : Rel G Bs F ρ h (L2.upd H p u) := R.ext' fun b o e => by rw [upd_ne (ne_of_none e hp)]; exact e
  have e : Ext F ρ (L2.upd F p u) ρ := Ext.upd (R.free hp)
  refine ⟨fun a o q => ?_, R.len, fun i o q d => ?_, R.inj, R.lows, R.low, fun a ps q => ?_, R'.tabs, R'.gens⟩
  · by_cases ha : a = p
    · subst ha
      rw [upd_same] at q ⊢
      exact q
    · rw [upd_ne ha] at q
      exact R'.same a o q
  · obtain ⟨a, h1, h2, h3⟩ := R.cell i o q d
    obtain ⟨a', h1', _, h3'⟩ := R'.cell i o q d
    rw [h1] at h1'
    cases h1'
    refine ⟨a, h1, fun hf => ?_, h3'.mono e rfl⟩
    obtain ⟨v, h4, _⟩ := h3.some hf
    rw [upd_ne (ne_of_none h4 hp)]
    exact h2 hf
  · by_cases ha : a = p
    · subst ha
      rw [upd_same] at q
      exact hu ps (Option.some.inj q)
    · rw [upd_ne ha] at q
      exact R.ntab a ps q
/-- the address of a cell that can be changed -/
theorem Rel.at_ (R : Rel G Bs F ρ h H) {i : Nat} {o : Ob} (e : h[i]? = some o) (d : fixed o = false) : ∃ a, ρ[i]? = some a ∧ F a = none ∧ ObR G F ρ H a o := by
  obtain ⟨a, h1, h2, h3⟩ := R.cell i o e (by cases o <;> first | rfl | cases d)
  exact ⟨a, h1, h2 d, h3⟩
/-- a new cell at p -/
theorem Rel.cellNew (R : Rel G Bs F ρ h H) {o : Ob} (hp : H p = none) (k : ∀ b u, H b = some u → H' b = some u) (new : ObR G F (ρ ++ [p]) H' p o) : Rel G Bs F (ρ ++ [p]) (h ++ [o]) H' := by
  have R' : Rel G Bs F ρ h H' := R.ext' k
  have e : Ext F ρ F (ρ ++ [p]) := Ext.snoc
  have old : ∀ {i : Nat} {u : Ob}, (h ++ [o])[i]? = some u → (i < h.length ∧ h[i]? = some u) ∨ (i = h.length ∧ u = o) := fun {i u} q => by
    by_cases hi : i < h.length
    · rw [List.getElem?_append_left hi] at q
      exact .inl ⟨hi, q⟩
    · rw [List.getElem?_append_right (by omega)] at q
      cases hk : i - h.length with
      | zero =>
        rw [hk] at q
        exact .inr ⟨by omega, by simpa using q.symm⟩
      | succ n =>
        rw [hk] at q
        simp at q
  have rho : ∀ {i : Nat}, i < h.length → (ρ ++ [p])[i]? = ρ[i]? := fun {i} hi => List.getElem?_append_left (by rw [R.len]; exact hi)
  have last : (ρ ++ [p])[h.length]? = some p := by rw [← R.len]; simp
  refine ⟨R'.same, by rw [List.length_append, List.length_append, R.len] <;> rfl, fun i u q d => ?_, fun i j a u v h1 h2 h3 h4 d1 d2 => ?_, fun B hB => Nat.le_trans (R.lows B hB) (by rw [List.length_append]; exact Nat.le_add_right _ _), fun B hB i u hi q => ?_, R'.ntab, R'.tabs, R'.gens⟩
  · rcases old q with ⟨hi, q⟩ | ⟨hi, rfl⟩
    · obtain ⟨a, h1, h2, h3⟩ := R'.cell i u q d
      exact ⟨a, by rw [rho hi]; exact h1, h2, h3.mono e rfl⟩
    · exact ⟨p, by rw [hi]; exact last, fun _ => R.free hp, new⟩
  · have far : ∀ {i : Nat} {u : Ob}, i < h.length → h[i]? = some u → fixed u = false → ρ[i]? ≠ some p := fun {i u} hi q d z => by
      obtain ⟨a, h5, _, h6⟩ := R.at_ q d
      rw [z] at h5
      cases h5
      obtain ⟨v, h7, _⟩ := h6.some d
      rw [hp] at h7
      cases h7
    rcases old h3 with ⟨hi, q1⟩ | ⟨hi, rfl⟩ <;> rcases old h4 with ⟨hj, q2⟩ | ⟨hj, rfl⟩
    · rw [rho hi] at h1
      rw [rho hj] at h2
      exact R.inj i j a u v h1 h2 q1 q2 d1 d2
    · rw [hj, last] at h2
      cases h2
      rw [rho hi] at h1
      exact absurd h1 (far hi q1 d1)
    · rw [hi, last] at h1
      cases h1
      rw [rho hj] at h2
      exact absurd h2 (far hj q2 d2)
    · rw [hi, hj]
  · rcases old q with ⟨_, q⟩ | ⟨hk, _⟩
    · exact R.low B hB i u hi q
    · have := R.lows B hB
      omega
/-- a cell's content is changed -/
theorem Rel.put (R : Rel G Bs F ρ h H) {i : Nat} {o u : Ob} {a : Addr} (hi : h[i]? = some o) (d : fixed o = false) (ha : ρ[i]? = some a) (k : ∀ b v, b ≠ a → H b = some v → (∀ ps, v ≠ .tbl ps) → H' b = some v)
    (t : LamX.Tabs G.TL H') (g : ∀ P ∈ G.TG, ∃ ps : Array Value, H' P = some (.tbl ps) ∧ TriplesOk ps.toList) (new : ObR G F ρ H' a u) (low : ∀ B ∈ Bs, i < B → obBel B u = true) (nf : fixed u = false ∨ isDead u = true) : Rel G Bs F ρ (h.set i u) H' := by
  obtain ⟨a', h1, hF, h3⟩ := R.at_ hi d
  rw [ha] at h1
  cases h1
  have hil : i < h.length := (List.getElem?_eq_some_iff.mp hi).1
  have get : ∀ {j : Nat} {v : Ob}, (h.set i u)[j]? = some v → (j = i ∧ v = u) ∨ (j ≠ i ∧ h[j]? = some v) := fun {j v} q => by
    by_cases hj : j = i
    · subst hj
      rw [List.getElem?_set_self hil] at q
      exact .inl ⟨rfl, (Option.some.inj q).symm⟩
    · rw [List.getElem?_set_ne (Ne.symm hj)] at q
      exact .inr ⟨hj, q⟩
  refine ⟨fun b v q => k b v (ne_of_none q hF) (R.same b v q) fun ps z => R.ntab b ps (by rw [q, z]), by rw [List.length_set]; exact R.len, fun j v q dv => ?_, fun j l b v w h4 h5 h6 h7 d1 d2 => ?_, fun B hB => by rw [List.length_set]; exact R.lows B hB, fun B hB j v hj q => ?_, R.ntab, t, g⟩
  · rcases get q with ⟨rfl, rfl⟩ | ⟨hj, q⟩
    · exact ⟨a, ha, fun _ => hF, new⟩
    · obtain ⟨b, h4, h5, h6⟩ := R.cell j v q dv
      refine ⟨b, h4, h5, ?_⟩
      by_cases hf : fixed v = true
      · cases v with
        | dead => exact True.intro
        | fix l => exact h6
        | _ => cases hf
      · have hf : fixed v = false := by cases q : fixed v <;> simp_all
        have hne : b ≠ a := fun z => hj (R.inj j i a v o (by rw [← z]; exact h4) ha q hi hf d)
        exact h6.keep (Ext.refl F ρ) fun w => k b w hne
  · have live : ∀ {j : Nat} {v : Ob}, (h.set i u)[j]? = some v → fixed v = false → ∃ w, h[j]? = some w ∧ fixed w = false := fun {j v} q dv => by
      rcases get q with ⟨rfl, rfl⟩ | ⟨hj, q⟩
      · exact ⟨o, hi, d⟩
      · exact ⟨v, q, dv⟩
    obtain ⟨v', q1, e1⟩ := live h6 d1
    obtain ⟨w', q2, e2⟩ := live h7 d2
    exact R.inj j l b v' w' h4 h5 q1 q2 e1 e2
  · rcases get q with ⟨rfl, rfl⟩ | ⟨_, q⟩
    · exact low B hB hj
    · exact R.low B hB j v hj q
/-- .. where one address alone has changed -/
theorem Rel.putAt (R : Rel G Bs F ρ h H) {i : Nat} {o u : Ob} {a : Addr} {w : HO} (hi : h[i]? = some o) (d : fixed o = false) (ha : ρ[i]? = some a) (new : ObR G F ρ (L2.upd H a w) a u) (low : ∀ B ∈ Bs, i < B → obBel B u = true) (nf : fixed u = false ∨ isDead u = true) :
    Rel G Bs F ρ (h.set i u) (L2.upd H a w) := by
  obtain ⟨a', h1, hF, h3⟩ := R.at_ hi d
  rw [ha] at h1
  cases h1
  obtain ⟨v, hv, nv⟩ := h3.some d
  refine R.put hi d ha (fun b v hb q _ => by rw [upd_ne hb]; exact q) (fun q hq => ?_) (fun P hP => ?_) new low nf
  · obtain ⟨ps, h4, h5, h6⟩ := R.tabs q hq
    refine ⟨ps, by rw [upd_ne (fun z => nv ps (by rw [z, hv] at h4; exact Option.some.inj h4))]; exact h4, h5, fun pos cv hc => ?_⟩
    obtain ⟨c, e1, e2⟩ := h6 pos cv hc
    refine ⟨c, e1, ?_⟩
    by_cases hca : c = a
    · exfalso
      rw [hca] at e2
      exact ObR.nocode h3 d e2
    · rw [upd_ne hca]
      exact e2
  · obtain ⟨ps, h4, h5⟩ := R.gens P hP
    exact ⟨ps, by rw [upd_ne (fun z => nv ps (by rw [z, hv] at h4; exact Option.some.inj h4))]; exact h4, h5⟩
end
end PI

/-! SB: expressions, but calls and walks. -/
set_option linter.all false
set_option maxRecDepth 100000
namespace PI
open PySem PySem.Spec L2

/-- what follows an outcome r: a value handed on, an exception wished for -/
def Aft {α β : Type} (G : GT) (Bs : List Nat) (W : WX) (σ : L2.St) (T : Fh → List Addr → α → β → Prop) (F : Fh) (ρ : List Addr) (r : Res α) (Q : β → L2.Hp → Prop) : Prop :=
  match r with
  | .ok a h => ∀ F' ρ' H' b, Ext F ρ F' ρ' → Rel G Bs F' ρ' h H' → T F' ρ' a b → Q b H'
  | .ex c h => ∀ F' ρ' H', Ext F ρ F' ρ' → Rel G Bs F' ρ' h H' → W (.ref (G.xcl c)) none σ H'
  | .no _ => False
section
variable {G : GT} {Bs : List Nat} {W : WX} {σ : L2.St} {α β γ δ : Type} {T : Fh → List Addr → α → β → Prop} {F F1 : Fh} {ρ ρ1 : List Addr} {H : L2.Hp}
theorem Aft.mono {r : Res α} {Q : β → L2.Hp → Prop} (e : Ext F ρ F1 ρ1) (h : Aft G Bs W σ T F ρ r Q) : Aft G Bs W σ T F1 ρ1 r Q := by
  cases r with
  | ok a h1 => exact fun F' ρ' H' b e' R t => h F' ρ' H' b (e.trans e') R t
  | ex c h1 => exact fun F' ρ' H' e' R => h F' ρ' H' (e.trans e') R
  | no w => exact h
/-- a first part, then the rest -/
theorem Aft.bind {T1 : Fh → List Addr → γ → δ → Prop} {r : Res γ} {k : γ → Hv → Res α} {Q : β → L2.Hp → Prop} (h : Aft G Bs W σ T F ρ (r.bind k) Q) :
    Aft G Bs W σ T1 F ρ r fun b1 H1 => ∃ F1 ρ1 a1 h1, Ext F ρ F1 ρ1 ∧ Rel G Bs F1 ρ1 h1 H1 ∧ T1 F1 ρ1 a1 b1 ∧ Aft G Bs W σ T F1 ρ1 (k a1 h1) Q := by
  cases r with
  | ok a h1 => exact fun F' ρ' H' b e R t => ⟨F', ρ', a, h1, e, R, t, Aft.mono e h⟩
  | ex c h1 => exact h
  | no w => exact h
theorem Aft.imp {T' : Fh → List Addr → γ → δ → Prop} {r : Res α} {Q Q' : β → L2.Hp → Prop} (h : Aft G Bs W σ T F ρ r Q) (k : ∀ b H, Q b H → Q' b H) : Aft G Bs W σ T F ρ r Q' := by
  cases r with
  | ok a h1 => exact fun F' ρ' H' b e R t => k _ _ (h F' ρ' H' b e R t)
  | ex c h1 => exact h
  | no w => exact h
theorem Aft.ok_ {a : α} {h : Hv} {b : β} {Q : β → L2.Hp → Prop} (q : Aft G Bs W σ T F ρ (.ok a h) Q) (R : Rel G Bs F ρ h H) (t : T F ρ a b) : Q b H := q F ρ H b (Ext.refl F ρ) R t
end

/-- the reading that the interpreter tells: of values, argument lists, tests -/
def tEv (G : GT) (Bs : List Nat) (W : WX) (f : Sl → Hv → Res D) : TE := fun σ H Q => ∃ F ρ τ h, Rel G Bs F ρ h H ∧ SlotR G F ρ τ σ ∧ Aft G Bs W σ (DR G) F ρ (f τ h) Q
def tEvs (G : GT) (Bs : List Nat) (W : WX) (f : Sl → Hv → Res (List D)) : TA := fun σ H Q => ∃ F ρ τ h, Rel G Bs F ρ h H ∧ SlotR G F ρ τ σ ∧ Aft G Bs W σ (DRs G) F ρ (f τ h) Q
def tEvB (G : GT) (Bs : List Nat) (W : WX) (f : Sl → Hv → Res Bool) : TT := fun σ H Q => ∃ F ρ τ h, Rel G Bs F ρ h H ∧ SlotR G F ρ τ σ ∧ Aft G Bs W σ (fun _ _ b c => b = c) F ρ (f τ h) Q
theorem pe_imp {X : Cx} {e : Expr} {t t' : TE} (h : PE X e t) (k : ∀ σ H Q, t' σ H Q → t σ H Q) : PE X e t' := ⟨fun pins s σ H Q I q => h.run pins s σ H Q I (k σ H Q q)⟩
theorem pt_imp {X : Cx} {e : Expr} {t t' : TT} (h : PT X e t) (k : ∀ σ H Q, t' σ H Q → t σ H Q) : PT X e t' := ⟨fun pins s σ H Q I q => h.run pins s σ H Q I (k σ H Q q)⟩
theorem pw_imp {X : Cx} {e : Expr} {t t' : TT} (h : PW X e t) (k : ∀ σ H Q, t' σ H Q → t σ H Q) : PW X e t' := ⟨fun wh pins s σ H Q I q => h.run wh pins s σ H Q I (k σ H Q q)⟩
theorem pa_imp {X : Cx} {es : List Expr} {t t' : TA} (h : PA X es t) (k : ∀ σ H Q, t' σ H Q → t σ H Q) : PA X es t' := ⟨fun p pins s σ H Q I q => h.run p pins s σ H Q I (k σ H Q q)⟩

section
variable {G : GT} {Bs : List Nat} {W : WX} {X : Cx} {e a b : Expr} {pos : Pos} {f fa fb fc : Sl → Hv → Res D}
abbrev SE (G : GT) (Bs : List Nat) (W : WX) (X : Cx) (e : Expr) (f : Sl → Hv → Res D) : Prop := PE X e (tEv G Bs W f)
abbrev SA_ (G : GT) (Bs : List Nat) (W : WX) (X : Cx) (es : List Expr) (f : Sl → Hv → Res (List D)) : Prop := PA X es (tEvs G Bs W f)
abbrev ST (G : GT) (Bs : List Nat) (W : WX) (X : Cx) (e : Expr) (f : Sl → Hv → Res Bool) : Prop := PT X e (tEvB G Bs W f)

/-! ### names, constants -/
theorem se_var {i : Nat} {x : Str} (hN : X.N[i]? = some x) (hv : Vis X.env.scope x) (hd : (x == ("__debug__" : Str)) = false) (hcd : (x == ("__classdict__" : Str)) = false) :
    SE G Bs W X (.Name x pos) (fun τ h => match τ[i]? with | some (some d) => .ok d h | _ => .no 400) := by
  refine pe_imp (pe_var (i := i) hN hv hd hcd) fun σ H Q ⟨F, ρ, τ, h, R, S, q⟩ => ?_
  dsimp only at q
  cases e : τ[i]? with
  | none => rw [e] at q; exact q.elim
  | some o =>
    cases o with
    | none => rw [e] at q; exact q.elim
    | some d =>
      rw [e] at q
      obtain ⟨v, h1, h2⟩ := S.at_ i d e
      exact ⟨v, h1, q.ok_ R h2⟩
/-- a value of one form, always the same -/
theorem se_const {d : D} {v : V} (hp : PE X e (tC v)) (hv : ∀ F ρ, DR G F ρ d v) : SE G Bs W X e (fun _ h => .ok d h) :=
  pe_imp hp fun _ _ _ ⟨F, ρ, _, _, R, _, q⟩ => q.ok_ R (hv F ρ)
theorem se_int {i : Int} {j : Nat} : SE G Bs W X (.Constant (.int i) j pos) (fun _ h => .ok (.int i) h) := se_const pe_int fun _ _ => rfl
theorem se_bl {i : Bool} {j : Nat} : SE G Bs W X (.Constant (.bool i) j pos) (fun _ h => .ok (.bl i) h) := se_const pe_bl fun _ _ => rfl
theorem se_non {j : Nat} : SE G Bs W X (.Constant .none j pos) (fun _ h => .ok .non h) := se_const pe_non fun _ _ => rfl
theorem se_str {s : List Nat} {j : Nat} : SE G Bs W X (.Constant (.str ⟨s.toArray⟩) j pos) (fun _ h => .ok (.str s) h) := se_const pe_str fun _ _ => rfl
/-- a constant of the module -/
theorem se_glob {x : Str} {d : D} {v : V} {u : Value} (hg : Gl X x) (hm : X.mg x = some u) (r : RelV v u) (hv : ∀ F ρ, DR G F ρ d v) (hd : (x == ("__debug__" : Str)) = false) : SE G Bs W X (.Name x pos) (fun _ h => .ok d h) :=
  se_const (pe_glob hg hm r hd) hv

/-! ### operators -/
/-- g is what the rule r does, by data -/
def OpS (G : GT) (Bs : List Nat) (W : WX) (g : D → D → Hv → Res D) (r : R2) : Prop :=
  ∀ F ρ h H σ x y v w Q, Rel G Bs F ρ h H → DR G F ρ x v → DR G F ρ y w → Aft G Bs W σ (DR G) F ρ (g x y h) Q → r v w H Q
theorem sim2 {g : D → D → Hv → Res D} {r : R2} (hs : OpS G Bs W g r) {σ : L2.St} {H : L2.Hp} {Q : VK} (q : tEv G Bs W (fun τ h => (fa τ h).bind fun x h1 => (fb τ h1).bind fun y h2 => g x y h2) σ H Q) : tOp r (tEv G Bs W fa) (tEv G Bs W fb) σ H Q := by
  obtain ⟨F, ρ, τ, h, R, S, q⟩ := q
  refine ⟨F, ρ, τ, h, R, S, (q.bind (T1 := DR G)).imp (T' := DR G) fun v H1 ⟨F1, ρ1, x, h1, e1, R1, t1, q1⟩ => ?_⟩
  refine ⟨F1, ρ1, τ, h1, R1, S.mono e1, (q1.bind (T1 := DR G)).imp (T' := DR G) fun w H2 ⟨F2, ρ2, y, h2, e2, R2, t2, q2⟩ => ?_⟩
  exact hs F2 ρ2 h2 H2 σ x y v w Q R2 (t1.mono e2) t2 q2
theorem se_op {op : Operator} {g : D → D → Hv → Res D} {r : R2} (ho : OpR X (binaryOp op) r) (hs : OpS G Bs W g r) (ha : SE G Bs W X a fa) (hb : SE G Bs W X b fb) : SE G Bs W X (.BinOp a op b pos) (fun τ h => (fa τ h).bind fun x h1 => (fb τ h1).bind fun y h2 => g x y h2) :=
  pe_imp (pe_op ho ha hb) fun _ _ _ q => sim2 hs q
theorem se_cmp {op : CmpOp} {g : D → D → Hv → Res D} {r : R2} (ho : OpR X (compareOp op) r) (hs : OpS G Bs W g r) (ha : SE G Bs W X a fa) (hb : SE G Bs W X b fb) (hm : behindInMarks op b = false) : SE G Bs W X (.Compare a [op] [b] pos) (fun τ h => (fa τ h).bind fun x h1 => (fb τ h1).bind fun y h2 => g x y h2) :=
  pe_imp (pe_cmpR ho ha hb hm) fun _ _ _ q => sim2 hs q
theorem Aft.asB {r : Res D} {F : Fh} {ρ : List Addr} {σ : L2.St} {Q : Bool → L2.Hp → Prop} (h : Aft G Bs W σ (fun _ _ b c => b = c) F ρ (PI.asB r) Q) : Aft G Bs W σ (DR G) F ρ r fun v H => ∃ k, v = .bl k ∧ Q k H := by
  cases r with
  | ok d h1 =>
    cases d with
    | bl k => exact fun F' ρ' H' b e R t => ⟨k, t, h F' ρ' H' k e R rfl⟩
    | _ => exact h.elim
  | ex c h1 => exact h
  | no w => exact h.elim
theorem st_val {e : Expr} (he : SE G Bs W X e f) (ht : ∀ whole, isTrue e X.env whole = (do let v ← whole; standAt e.pos; holding [v] (truthy v))) : ST G Bs W X e (fun τ h => asB (f τ h)) :=
  pt_imp (pt_val he ht) fun σ H Q ⟨F, ρ, τ, h, R, S, q⟩ => ⟨F, ρ, τ, h, R, S, q.asB⟩
theorem st_cmp {op : CmpOp} {g : D → D → Hv → Res D} {r : R2} (ho : OpR X (compareOp op) r) (hs : OpS G Bs W g r) (ha : SE G Bs W X a fa) (hb : SE G Bs W X b fb) (hm : behindInMarks op b = false) : ST G Bs W X (.Compare a [op] [b] pos) (fun τ h => asB ((fa τ h).bind fun x h1 => (fb τ h1).bind fun y h2 => g x y h2)) :=
  pt_imp (pt_cmpR ho ha hb hm) fun _ _ _ ⟨F, ρ, τ, h, R, S, q⟩ => sim2 hs ⟨F, ρ, τ, h, R, S, q.asB⟩
/-- a number's sign -/
theorem se_neg (ha : SE G Bs W X a fa) : SE G Bs W X (.UnaryOp .USub a pos) (fun τ h => (fa τ h).bind fun x h1 => match x with | .int i => .ok (.int (-i)) h1 | _ => .no 402) := by
  refine pe_imp (pe_un un_neg ha) fun σ H Q ⟨F, ρ, τ, h, R, S, q⟩ => ⟨F, ρ, τ, h, R, S, (q.bind (T1 := DR G)).imp (T' := DR G) fun v H1 ⟨F1, ρ1, x, h1, e1, R1, t1, q1⟩ => ?_⟩
  cases x with
  | int i =>
    obtain rfl : v = .int i := t1
    exact ⟨i, rfl, q1.ok_ R1 rfl⟩
  | _ => exact q1.elim
theorem Aft.B {r : Res D} {F : Fh} {ρ : List Addr} {σ : L2.St} {Q : VK} {k : Bool → Hv → Res D} (h : Aft G Bs W σ (DR G) F ρ ((PI.asB r).bind k) Q) :
    Aft G Bs W σ (DR G) F ρ r fun v H => ∃ c, v = .bl c ∧ ∃ F1 ρ1 h1, Ext F ρ F1 ρ1 ∧ Rel G Bs F1 ρ1 h1 H ∧ Aft G Bs W σ (DR G) F1 ρ1 (k c h1) Q := by
  have q := ((Aft.bind (T1 := fun _ _ (b : Bool) (c : Bool) => b = c) h).asB)
  refine q.imp (T' := DR G) fun v H1 ⟨c, e, F1, ρ1, a1, h1, e1, R1, t1, q1⟩ => ?_
  subst t1
  exact ⟨_, e, F1, ρ1, h1, e1, R1, q1⟩
theorem Aft.TB {r : Res Bool} {F : Fh} {ρ : List Addr} {σ : L2.St} {α β : Type} {T : Fh → List Addr → α → β → Prop} {Q : β → L2.Hp → Prop} {k : Bool → Hv → Res α} (h : Aft G Bs W σ T F ρ (r.bind k) Q) :
    Aft G Bs W σ (fun _ _ b c => b = c) F ρ r fun c H => ∃ F1 ρ1 h1, Ext F ρ F1 ρ1 ∧ Rel G Bs F1 ρ1 h1 H ∧ Aft G Bs W σ T F1 ρ1 (k c h1) Q := by
  refine (Aft.bind (T1 := fun _ _ (b : Bool) (c : Bool) => b = c) h).imp (T' := DR G) fun v H1 ⟨F1, ρ1, a1, h1, e1, R1, t1, q1⟩ => ?_
  subst t1
  exact ⟨F1, ρ1, h1, e1, R1, q1⟩
theorem se_not (ha : SE G Bs W X a fa) : SE G Bs W X (.UnaryOp .Not a pos) (fun τ h => (asB (fa τ h)).bind fun b h1 => .ok (.bl !b) h1) := by
  refine pe_imp (pe_not ha) fun σ H Q ⟨F, ρ, τ, h, R, S, q⟩ => ⟨F, ρ, τ, h, R, S, q.B.imp (T' := DR G) fun v H1 ⟨c, e, F1, ρ1, h1, e1, R1, q1⟩ => ⟨c, e, q1.ok_ R1 rfl⟩⟩
theorem st_not {g : Sl → Hv → Res Bool} (ha : ST G Bs W X a g) : ST G Bs W X (.UnaryOp .Not a pos) (fun τ h => (g τ h).bind fun b h1 => .ok (!b) h1) := by
  refine pt_imp (pt_not ha) fun σ H Q ⟨F, ρ, τ, h, R, S, q⟩ => ⟨F, ρ, τ, h, R, S, q.TB.imp (T' := DR G) fun c H1 ⟨F1, ρ1, h1, e1, R1, q1⟩ => q1.ok_ R1 rfl⟩
theorem se_ife {c : Expr} {g : Sl → Hv → Res Bool} (hc : ST G Bs W X c g) (ha : SE G Bs W X a fa) (hb : SE G Bs W X b fb) : SE G Bs W X (.IfExp c a b pos) (fun τ h => (g τ h).bind fun k h1 => if k then fa τ h1 else fb τ h1) := by
  refine pe_imp (pe_ifExp hc ha hb) fun σ H Q ⟨F, ρ, τ, h, R, S, q⟩ => ⟨F, ρ, τ, h, R, S, q.TB.imp (T' := DR G) fun k H1 ⟨F1, ρ1, h1, e1, R1, q1⟩ => ?_⟩
  cases k with
  | true => exact ⟨F1, ρ1, τ, h1, R1, S.mono e1, q1⟩
  | false => exact ⟨F1, ρ1, τ, h1, R1, S.mono e1, q1⟩
/-- and, or: values and tests -/
theorem se_one {op : BoolOp} (ha : SE G Bs W X a fa) : SE G Bs W X (.BoolOp op [a] pos) (fun τ h => (asB (fa τ h)).bind fun b h1 => .ok (.bl b) h1) := by
  refine pe_imp (pe_one ha) fun σ H Q ⟨F, ρ, τ, h, R, S, q⟩ => ⟨F, ρ, τ, h, R, S, q.B.imp (T' := DR G) fun v H1 ⟨c, e, F1, ρ1, h1, e1, R1, q1⟩ => ?_⟩
  subst e
  exact q1.ok_ R1 rfl
theorem se_and {rest : List Expr} (ha : SE G Bs W X a fa) (hb : SE G Bs W X (.BoolOp .And (b :: rest) pos) fb) : SE G Bs W X (.BoolOp .And (a :: b :: rest) pos) (fun τ h => (asB (fa τ h)).bind fun k h1 => if k then fb τ h1 else .ok (.bl false) h1) := by
  refine pe_imp (pe_and ha hb) fun σ H Q ⟨F, ρ, τ, h, R, S, q⟩ => ⟨F, ρ, τ, h, R, S, q.B.imp (T' := DR G) fun v H1 ⟨c, e, F1, ρ1, h1, e1, R1, q1⟩ => ⟨c, e, ?_⟩⟩
  cases c with
  | true => exact ⟨F1, ρ1, τ, h1, R1, S.mono e1, q1⟩
  | false => exact q1.ok_ R1 rfl
theorem se_or {rest : List Expr} (ha : SE G Bs W X a fa) (hb : SE G Bs W X (.BoolOp .Or (b :: rest) pos) fb) : SE G Bs W X (.BoolOp .Or (a :: b :: rest) pos) (fun τ h => (asB (fa τ h)).bind fun k h1 => if k then .ok (.bl true) h1 else fb τ h1) := by
  refine pe_imp (pe_or ha hb) fun σ H Q ⟨F, ρ, τ, h, R, S, q⟩ => ⟨F, ρ, τ, h, R, S, q.B.imp (T' := DR G) fun v H1 ⟨c, e, F1, ρ1, h1, e1, R1, q1⟩ => ⟨c, e, ?_⟩⟩
  cases c with
  | true => exact q1.ok_ R1 rfl
  | false => exact ⟨F1, ρ1, τ, h1, R1, S.mono e1, q1⟩
theorem sw_one {op : BoolOp} {g : Sl → Hv → Res Bool} (ha : ST G Bs W X a g) : PW X (.BoolOp op [a] pos) (tEvB G Bs W fun τ h => (g τ h).bind fun b h1 => .ok b h1) := by
  have key : ∀ σ H Q, tEvB G Bs W (fun τ h => (g τ h).bind fun b h1 => .ok b h1) σ H Q → tEvB G Bs W g σ H Q := fun σ H Q ⟨F, ρ, τ, h, R, S, q⟩ => ⟨F, ρ, τ, h, R, S, q.TB.imp (T' := DR G) fun c H1 ⟨F1, ρ1, h1, e1, R1, q1⟩ => q1.ok_ R1 rfl⟩
  cases op with
  | And => exact pw_imp (pw_and1 ha) key
  | Or => exact pw_imp (pw_or1 ha) key
theorem sw_and {rest : List Expr} {g k : Sl → Hv → Res Bool} (ha : ST G Bs W X a g) (hb : PW X (.BoolOp .And (b :: rest) pos) (tEvB G Bs W k)) : PW X (.BoolOp .And (a :: b :: rest) pos) (tEvB G Bs W fun τ h => (g τ h).bind fun c h1 => if c then k τ h1 else .ok false h1) := by
  refine pw_imp (pw_and ha hb) fun σ H Q ⟨F, ρ, τ, h, R, S, q⟩ => ⟨F, ρ, τ, h, R, S, q.TB.imp (T' := DR G) fun c H1 ⟨F1, ρ1, h1, e1, R1, q1⟩ => ?_⟩
  cases c with
  | true => exact ⟨F1, ρ1, τ, h1, R1, S.mono e1, q1⟩
  | false => exact q1.ok_ R1 rfl
theorem sw_or {rest : List Expr} {g k : Sl → Hv → Res Bool} (ha : ST G Bs W X a g) (hb : PW X (.BoolOp .Or (b :: rest) pos) (tEvB G Bs W k)) : PW X (.BoolOp .Or (a :: b :: rest) pos) (tEvB G Bs W fun τ h => (g τ h).bind fun c h1 => if c then .ok true h1 else k τ h1) := by
  refine pw_imp (pw_or ha hb) fun σ H Q ⟨F, ρ, τ, h, R, S, q⟩ => ⟨F, ρ, τ, h, R, S, q.TB.imp (T' := DR G) fun c H1 ⟨F1, ρ1, h1, e1, R1, q1⟩ => ?_⟩
  cases c with
  | true => exact q1.ok_ R1 rfl
  | false => exact ⟨F1, ρ1, τ, h1, R1, S.mono e1, q1⟩
/-- a < b < c -/
theorem sim3 {g k : D → D → Hv → Res D} {r r' : R2} (hs : OpS G Bs W g r) (hs' : OpS G Bs W k r') {σ : L2.St} {H : L2.Hp} {Q : VK}
    (q : tEv G Bs W (fun τ h => (fa τ h).bind fun x h1 => (fb τ h1).bind fun y h2 => (asB (g x y h2)).bind fun m h3 => if m then (fc τ h3).bind fun z h4 => k y z h4 else .ok (.bl false) h3) σ H Q) : tChain r r' (tEv G Bs W fa) (tEv G Bs W fb) (tEv G Bs W fc) σ H Q := by
  obtain ⟨F, ρ, τ, h, R, S, q⟩ := q
  refine ⟨F, ρ, τ, h, R, S, (q.bind (T1 := DR G)).imp (T' := DR G) fun v H1 ⟨F1, ρ1, x, h1, e1, R1, t1, q1⟩ => ?_⟩
  refine ⟨F1, ρ1, τ, h1, R1, S.mono e1, (q1.bind (T1 := DR G)).imp (T' := DR G) fun w H2 ⟨F2, ρ2, y, h2, e2, R2, t2, q2⟩ => ?_⟩
  refine hs F2 ρ2 h2 H2 σ x y v w _ R2 (t1.mono e2) t2 (q2.B.imp (T' := DR G) fun z H3 ⟨c, e, F3, ρ3, h3, e3, R3, q3⟩ => ⟨c, e, ?_⟩)
  cases c with
  | true =>
    refine ⟨F3, ρ3, τ, h3, R3, (S.mono (e1.trans e2)).mono e3, (q3.bind (T1 := DR G)).imp (T' := DR G) fun z' H4 ⟨F4, ρ4, d, h4, e4, R4, t4, q4⟩ => ?_⟩
    exact hs' F4 ρ4 h4 H4 σ y d w z' Q R4 (t2.mono (e3.trans e4)) t4 q4
  | false => exact q3.ok_ R3 rfl
theorem se_chain {o p : CmpOp} {c : Expr} {g k : D → D → Hv → Res D} {r r' : R2} (ho : OpR X (compareOp o) r) (ho' : OpR X (compareOp p) r') (hs : OpS G Bs W g r) (hs' : OpS G Bs W k r') (ha : SE G Bs W X a fa) (hb : SE G Bs W X b fb) (hc : SE G Bs W X c fc) (hm : lastMarks [o, p] [b, c] = false) :
    SE G Bs W X (.Compare a [o, p] [b, c] pos) (fun τ h => (fa τ h).bind fun x h1 => (fb τ h1).bind fun y h2 => (asB (g x y h2)).bind fun m h3 => if m then (fc τ h3).bind fun z h4 => k y z h4 else .ok (.bl false) h3) :=
  pe_imp (pe_chain ho ho' ha hb hc hm) fun _ _ _ q => sim3 hs hs' q
theorem st_chain {o p : CmpOp} {c : Expr} {g k : D → D → Hv → Res D} {r r' : R2} (ho : OpR X (compareOp o) r) (ho' : OpR X (compareOp p) r') (hs : OpS G Bs W g r) (hs' : OpS G Bs W k r') (ha : SE G Bs W X a fa) (hb : SE G Bs W X b fb) (hc : SE G Bs W X c fc) (hm : lastMarks [o, p] [b, c] = false) :
    ST G Bs W X (.Compare a [o, p] [b, c] pos) (fun τ h => asB ((fa τ h).bind fun x h1 => (fb τ h1).bind fun y h2 => (asB (g x y h2)).bind fun m h3 => if m then (fc τ h3).bind fun z h4 => k y z h4 else .ok (.bl false) h3)) :=
  pt_imp (pt_chain ho ho' ha hb hc hm) fun _ _ _ ⟨F, ρ, τ, h, R, S, q⟩ => sim3 hs hs' ⟨F, ρ, τ, h, R, S, q.asB⟩

/-! ### argument lists, displays -/
theorem sa_nil : SA_ G Bs W X [] (fun _ h => .ok [] h) := pa_imp pa_nil fun _ _ _ ⟨F, ρ, _, _, R, _, q⟩ => q.ok_ R (drs_nil.mpr rfl)
theorem sa_cons {es : List Expr} {g : Sl → Hv → Res (List D)} (he : SE G Bs W X e f) (hr : SA_ G Bs W X es g) (hs : starEach (e :: es) X.env = (false, eval e X.env) :: starEach es X.env) :
    SA_ G Bs W X (e :: es) (fun τ h => (f τ h).bind fun x h1 => (g τ h1).bind fun xs h2 => .ok (x :: xs) h2) := by
  refine pa_imp (pa_cons he hr hs) fun σ H Q ⟨F, ρ, τ, h, R, S, q⟩ => ⟨F, ρ, τ, h, R, S, (q.bind (T1 := DR G)).imp (T' := DR G) fun v H1 ⟨F1, ρ1, x, h1, e1, R1, t1, q1⟩ => ?_⟩
  refine ⟨F1, ρ1, τ, h1, R1, S.mono e1, (q1.bind (T1 := DRs G)).imp (T' := DR G) fun vs H2 ⟨F2, ρ2, xs, h2, e2, R2, t2, q2⟩ => ?_⟩
  exact q2.ok_ R2 (drs_cons.mpr ⟨t1.mono e2, t2⟩)
theorem Aft.args {T : Fh → List Addr → List D → List V → Prop} {α : Type} {T' : Fh → List Addr → α → V → Prop} {r : Res (List D)} {F : Fh} {ρ : List Addr} {σ : L2.St} {Q : VK} {k : List D → Hv → Res α} (q : Aft G Bs W σ T' F ρ (r.bind k) Q) :
    Aft G Bs W σ (DRs G) F ρ r fun vs H1 => ∃ F1 ρ1 ds h1, Ext F ρ F1 ρ1 ∧ Rel G Bs F1 ρ1 h1 H1 ∧ DRs G F1 ρ1 ds vs ∧ Aft G Bs W σ T' F1 ρ1 (k ds h1) Q := q.bind
/-- a new tuple that never changes -/
theorem Rel.tup {F : Fh} {ρ : List Addr} {h : Hv} {H : L2.Hp} {p : Addr} {ds : List D} {vs : List V} (R : Rel G Bs F ρ h H) (hp : H p = none) (t : DRs G F ρ ds vs) :
    Rel G Bs (L2.upd F p (.tup vs)) ρ h (L2.upd H p (.tup vs)) ∧ DR G (L2.upd F p (.tup vs)) ρ (.tup ds) (.ref p) ∧ Ext F ρ (L2.upd F p (.tup vs)) ρ := by
  have e : Ext F ρ (L2.upd F p (.tup vs)) ρ := Ext.upd (R.free hp)
  refine ⟨R.new hp fun _ z => (nomatch z), ?_, e⟩
  simp only [DR]
  exact ⟨p, vs, rfl, .inl (.inl upd_same), t.mono e⟩
theorem Rel.lst {F : Fh} {ρ : List Addr} {h : Hv} {H : L2.Hp} {p : Addr} {ds : List D} {vs : List V} (R : Rel G Bs F ρ h H) (hp : H p = none) (t : DRs G F ρ ds vs) :
    Rel G Bs (L2.upd F p (.lst vs)) ρ h (L2.upd H p (.lst vs)) ∧ DR G (L2.upd F p (.lst vs)) ρ (.lst ds) (.ref p) ∧ Ext F ρ (L2.upd F p (.lst vs)) ρ := by
  have e : Ext F ρ (L2.upd F p (.lst vs)) ρ := Ext.upd (R.free hp)
  refine ⟨R.new hp fun _ z => (nomatch z), ?_, e⟩
  simp only [DR]
  exact ⟨p, vs, rfl, upd_same, t.mono e⟩
theorem Rel.lstC {F : Fh} {ρ : List Addr} {h : Hv} {H : L2.Hp} {p : Addr} {ds : List D} {vs : List V} (R : Rel G Bs F ρ h H) (hp : H p = none) (t : DRs G F ρ ds vs) :
    Rel G Bs F (ρ ++ [p]) (h ++ [.lst ds]) (L2.upd H p (.lst vs)) ∧ DR G F (ρ ++ [p]) (.ref h.length) (.ref p) ∧ Ext F ρ F (ρ ++ [p]) := by
  refine ⟨R.cellNew hp (fun b u z => by rw [upd_ne (ne_of_none z hp)]; exact z) ⟨vs, upd_same, t.mono Ext.snoc⟩, ?_, Ext.snoc⟩
  simp only [DR]
  exact ⟨p, rfl, by rw [← R.len]; simp⟩
theorem aft_mkL {F : Fh} {ρ : List Addr} {h : Hv} {H : L2.Hp} {σ : L2.St} {m : Bool} {ds : List D} {vs : List V} {Q : VK} (R : Rel G Bs F ρ h H) (t : DRs G F ρ ds vs) (q : Aft G Bs W σ (DR G) F ρ (mkL m ds h) Q) : ∀ p, H p = none → Q (.ref p) (L2.upd H p (.lst vs)) := fun p hp => by
  cases m with
  | true =>
    obtain ⟨R', t', e⟩ := R.lstC hp t
    exact q _ _ _ _ e R' t'
  | false =>
    obtain ⟨R', t', e⟩ := R.lst hp t
    exact q _ _ _ _ e R' t'
theorem aft_tup {F : Fh} {ρ : List Addr} {h : Hv} {H : L2.Hp} {σ : L2.St} {ds : List D} {vs : List V} {Q : VK} (R : Rel G Bs F ρ h H) (t : DRs G F ρ ds vs) (q : Aft G Bs W σ (DR G) F ρ (.ok (.tup ds) h) Q) : ∀ p, H p = none → Q (.ref p) (L2.upd H p (.tup vs)) := fun p hp => by
  obtain ⟨R', t', e⟩ := R.tup hp t
  exact q _ _ _ _ e R' t'
theorem se_tup {es : List Expr} {j : Nat} {g : Sl → Hv → Res (List D)} (he : SA_ G Bs W X es g) (hl : es.length ≤ 100000) (hlen : ∀ τ h xs h', g τ h = .ok xs h' → xs.length = es.length) : SE G Bs W X (.Tuple es j pos) (fun τ h => (g τ h).bind fun xs h1 => .ok (.tup xs) h1) := by
  refine pe_imp (pe_tup he) fun σ H Q ⟨F, ρ, τ, h, R, S, q⟩ => ⟨F, ρ, τ, h, R, S, ?_⟩
  cases e : g τ h with
  | ok xs h1 =>
    have q : Aft G Bs W σ (DR G) F ρ ((g τ h).bind fun xs h1 => .ok (.tup xs) h1) Q := q
    rw [e] at q
    intro F' ρ' H' vs e' R' t
    exact ⟨by rw [t.length, hlen _ _ _ _ e]; exact Nat.le_trans hl (by decide), aft_tup R' t (q.mono e')⟩
  | ex c h1 =>
    have q : Aft G Bs W σ (DR G) F ρ ((g τ h).bind fun xs h1 => .ok (.tup xs) h1) Q := q
    rw [e] at q
    exact q
  | no w =>
    have q : Aft G Bs W σ (DR G) F ρ ((g τ h).bind fun xs h1 => .ok (.tup xs) h1) Q := q
    rw [e] at q
    exact q.elim
end
end PI

/-! SC: operators, places, slices, built-ins: what the interpreter tells is what the library's rules say. -/
set_option linter.all false
set_option maxRecDepth 100000
namespace PI
open PySem PySem.Spec L2 PyProof.Rows

/-! ### all rules at once -/
def rAny (X : Cx) (f : Value → Value → Sem Value) : R2 := fun x y H Q => ∃ r, OpR X f r ∧ r x y H Q
theorem op_any {X : Cx} {f : Value → Value → Sem Value} : OpR X f (rAny X f) := fun pins s σ H x y v u Q I rx ry ⟨r, hr, q⟩ => hr pins s σ H x y v u Q I rx ry q
def cAny (X : Cx) (f : Value) : List V → L2.Hp → VK → Prop := fun xs H Q => ∃ r, CallR X f r ∧ r xs H Q
theorem call_any {X : Cx} {f : Value} : CallR X f (cAny X f) := fun pins s σ H xs us Q I rx ⟨r, hr, q⟩ => hr pins s σ H xs us Q I rx q
def mAny (X : Cx) (id : String) : V → List V → L2.Hp → VK → Prop := fun x xs H Q => ∃ r, MtR X id r ∧ r x xs H Q
theorem mt_any {X : Cx} {id : String} : MtR X id (mAny X id) := fun pins s σ H x xs v us Q I rx rs ⟨r, hr, q⟩ => hr pins s σ H x xs v us Q I rx rs q
def iAny (X : Cx) : R2 := fun x y H Q => ∃ r, IxR X r ∧ r x y H Q
theorem ix_any {X : Cx} : IxR X (iAny X) := fun value slice pins s σ H x y v u Q I rx ry ⟨r, hr, q⟩ hs => hr value slice pins s σ H x y v u Q I rx ry q hs
def sAny (X : Cx) : V → Option Int → Option Int → L2.Hp → VK → Prop := fun x lo hi H Q => ∃ r, SlR X r ∧ r x lo hi H Q
theorem sl_any {X : Cx} : SlR X (sAny X) := fun pins s σ H x v vl vu lo hi sl Q I rx hs pl pu ⟨r, hr, q⟩ => hr pins s σ H x v vl vu lo hi sl Q I rx hs pl pu q

/-- what a call's surroundings must have -/
structure XO (G : GT) (X : Cx) : Prop where
  calm : X.calm = true
  room : X.A.units + 70 < cLine
  K : X.K = G.K

/-! ### what data say of the heap -/
section
variable {G : GT} {Bs : List Nat} {F : Fh} {ρ : List Addr} {h : Hv} {H : L2.Hp}
theorem Rel.rd (R : Rel G Bs F ρ h H) {a : Addr} {u : HO} (e : Rd F a u) : Rd H a u := ext_rd R.same e
theorem Rel.sqL (R : Rel G Bs F ρ h H) {a : Addr} {vs : List V} (e : SqL G.K F a vs) : SqL G.K H a vs := ext_sqL R.same e
theorem Rel.sqT (R : Rel G Bs F ρ h H) {a : Addr} {vs : List V} (e : SqT G.K F a vs) : SqT G.K H a vs := ext_sqT R.same e
theorem dr_int {i : Int} {v : V} : DR G F ρ (.int i) v ↔ v = .int i := by simp only [DR]
theorem dr_str {s : List Nat} {v : V} : DR G F ρ (.str s) v ↔ v = .str ⟨s.toArray⟩ := by simp only [DR]
theorem dr_bl {b : Bool} {v : V} : DR G F ρ (.bl b) v ↔ v = .bl b := by simp only [DR]
theorem dr_non {v : V} : DR G F ρ .non v ↔ v = .non := by simp only [DR]
theorem Rel.tupOf (R : Rel G Bs F ρ h H) {l : List D} {v : V} (t : DR G F ρ (.tup l) v) : ∃ a vs, v = .ref a ∧ SqT G.K H a vs ∧ DRs G F ρ l vs := by
  simp only [DR] at t
  obtain ⟨a, vs, h1, h2, h3⟩ := t
  exact ⟨a, vs, h1, R.sqT h2, h3⟩
theorem Rel.refOf (R : Rel G Bs F ρ h H) {i : Nat} {o : Ob} {v : V} (t : DR G F ρ (.ref i) v) (e : h[i]? = some o) (d : isDead o = false) : ∃ a, v = .ref a ∧ ρ[i]? = some a ∧ ObR G F ρ H a o := by
  simp only [DR] at t
  obtain ⟨a, h1, h2⟩ := t
  obtain ⟨b, h3, _, h5⟩ := R.cell i o e d
  rw [h2] at h3
  cases h3
  exact ⟨a, h1, h2, h5⟩
theorem Rel.lstNOf (R : Rel G Bs F ρ h H) {x : D} {l : List D} {v : V} (t : DR G F ρ x v) (e : lstN h x = some l) : ∃ a vs, v = .ref a ∧ H a = some (.lst vs) ∧ DRs G F ρ l vs := by
  cases x with
  | lst l' =>
    simp only [lstN] at e
    cases e
    simp only [DR] at t
    obtain ⟨a, vs, h1, h2, h3⟩ := t
    exact ⟨a, vs, h1, R.same _ _ h2, h3⟩
  | ref i =>
    simp only [lstN] at e
    cases q : h[i]? with
    | none => (rw [q] at e; cases e)
    | some o =>
      rw [q] at e
      cases o with
      | lst l' =>
        cases e
        obtain ⟨a, h1, _, vs, h2, h3⟩ := R.refOf t q rfl
        exact ⟨a, vs, h1, h2, h3⟩
      | lck u =>
        cases u with
        | lst l' =>
          cases e
          obtain ⟨a, h1, _, vs, h2, h3⟩ := R.refOf t q rfl
          exact ⟨a, vs, h1, h2, h3⟩
        | _ => cases e
      | _ => cases e
  | _ => cases e
theorem Rel.obSeq (R : Rel G Bs F ρ h H) {a : Addr} {o : Ob} {l : List D} (t : ObR G F ρ H a o) (e : obSeq o = some l) : ∃ vs, SqL G.K H a vs ∧ DRs G F ρ l vs := by
  cases o with
  | lst l' =>
    cases e
    obtain ⟨vs, h2, h3⟩ := t
    exact ⟨vs, .inl (.inl h2), h3⟩
  | lck u =>
    cases u with
    | lst l' =>
      cases e
      obtain ⟨vs, h2, h3⟩ := t
      exact ⟨vs, .inl (.inl h2), h3⟩
    | _ => cases e
  | fix l' =>
    cases e
    obtain ⟨vs, h2, h3⟩ := t
    exact ⟨vs, R.sqL h2, h3⟩
  | _ => cases e
theorem obSeq_dead {o : Ob} {l : List D} (e : obSeq o = some l) : isDead o = false := by cases o <;> first | rfl | cases e
theorem Rel.lstOf (R : Rel G Bs F ρ h H) {x : D} {l : List D} {v : V} (t : DR G F ρ x v) (e : PI.lstOf h x = some l) : ∃ a vs, v = .ref a ∧ SqL G.K H a vs ∧ DRs G F ρ l vs := by
  cases x with
  | lst l' =>
    simp only [PI.lstOf] at e
    cases e
    simp only [DR] at t
    obtain ⟨a, vs, h1, h2, h3⟩ := t
    exact ⟨a, vs, h1, .inl (.inl (R.same _ _ h2)), h3⟩
  | ref i =>
    simp only [PI.lstOf] at e
    cases q : h[i]? with
    | none => (rw [q] at e; cases e)
    | some o =>
      rw [q] at e
      obtain ⟨a, h1, _, h3⟩ := R.refOf t q (obSeq_dead e)
      obtain ⟨vs, h4, h5⟩ := R.obSeq h3 e
      exact ⟨a, vs, h1, h4, h5⟩
  | _ => cases e
theorem Rel.seqOf (R : Rel G Bs F ρ h H) {x : D} {l : List D} {v : V} (t : DR G F ρ x v) (e : PI.seqOf h x = some l) : ∃ a vs, v = .ref a ∧ (SqL G.K H a vs ∨ SqT G.K H a vs ∧ x = .tup l) ∧ DRs G F ρ l vs := by
  cases x with
  | tup l' =>
    simp only [PI.seqOf] at e
    cases e
    obtain ⟨a, vs, h1, h2, h3⟩ := R.tupOf t
    exact ⟨a, vs, h1, .inr ⟨h2, rfl⟩, h3⟩
  | lst l' =>
    obtain ⟨a, vs, h1, h2, h3⟩ := R.lstOf (x := .lst l') t (by simpa only [PI.lstOf, PI.seqOf] using e)
    exact ⟨a, vs, h1, .inl h2, h3⟩
  | ref i =>
    obtain ⟨a, vs, h1, h2, h3⟩ := R.lstOf (x := .ref i) t (by simpa only [PI.lstOf, PI.seqOf] using e)
    exact ⟨a, vs, h1, .inl h2, h3⟩
  | _ => cases e
/-- a dict with an atom as its first key is one of plain keys -/
theorem Rel.dicOf (R : Rel G Bs F ρ h H) {x : D} {p : D × D} {r : List (D × D)} {v : V} (t : DR G F ρ x v) (e : PI.dicOf h x = some (p :: r)) (ha : D.atom p.1 = true) :
    ∃ a, ∃ kvs : List (Key × V), v = .ref a ∧ Rd H a (.dK kvs) ∧ kvs.map (fun q => keyD q.1) = (p :: r).map (·.1) ∧ DRp G F ρ (p :: r) (kvs.map (·.2)) := by
  have noT : ∀ {kvs : List (List Key × V)}, kvs.map (fun q => keysD q.1) ≠ (p :: r).map (·.1) := fun {kvs} z => by
    cases kvs with
    | nil => cases z
    | cons k kvs =>
      rw [List.map_cons, List.map_cons] at z
      have z1 := (List.cons.inj z).1
      rw [← z1] at ha
      simp only [keysD, D.atom] at ha
      cases ha
  cases x with
  | dic l' =>
    simp only [PI.dicOf] at e
    cases e
    simp only [DR] at t
    obtain ⟨a, o, h1, h⟩ := t
    rcases h with ⟨kvs, h2, h3, h4⟩ | ⟨kvs, h2, h3, h4⟩
    · exact ⟨a, kvs, h1, .inr ⟨o, R.same _ _ h2⟩, h3, h4⟩
    · exact absurd h3 noT
  | ref i =>
    simp only [PI.dicOf] at e
    cases q : h[i]? with
    | none => (rw [q] at e; cases e)
    | some o =>
      rw [q] at e
      cases o with
      | dic b l' =>
        cases e
        obtain ⟨a, h1, _, h2⟩ := R.refOf t q rfl
        cases b with
        | false =>
          obtain ⟨kvs, h2, h3, h4⟩ := h2
          exact ⟨a, kvs, h1, .inl h2, h3, h4⟩
        | true =>
          obtain ⟨kvs, h2, h3, h4⟩ := h2
          exact absurd h3 noT
      | lck u =>
        cases u with
        | dic b l' =>
          cases e
          obtain ⟨a, h1, _, h2⟩ := R.refOf t q rfl
          cases b with
          | false =>
            obtain ⟨o, kvs, h2, h3, h4⟩ := h2
            exact ⟨a, kvs, h1, .inr ⟨o, h2⟩, h3, h4⟩
          | true =>
            obtain ⟨o, kvs, h2, h3, h4⟩ := h2
            exact absurd h3 noT
        | _ => cases e
      | _ => cases e
  | _ => cases e

/-! ### keys -/
def keyOf : D → Key
  | .int i => .inl i
  | .str s => .inr ⟨s.toArray⟩
  | _ => .inl 0
theorem keyOf_keyD {k : Key} : keyOf (keyD k) = k := by cases k with
  | inl i => rfl
  | inr x => cases x; simp [keyD, keyOf]
theorem keyD_keyOf {x : D} (h : D.atom x = true) : keyD (keyOf x) = x := by cases x <;> first | rfl | cases h
theorem kV_keyOf {x : D} {v : V} (h : D.atom x = true) (t : DR G F ρ x v) : v = kV (keyOf x) := by
  cases x with
  | int i => exact dr_int.mp t
  | str s => exact dr_str.mp t
  | _ => cases h
mutual
theorem D.beq_eq : ∀ (a b : D), D.beq a b = true ↔ a = b
  | .non, b => by cases b <;> simp [D.beq]
  | .bl x, b => by cases b <;> simp [D.beq]
  | .int x, b => by cases b <;> simp [D.beq]
  | .str x, b => by cases b <;> simp [D.beq]
  | .tup x, b => by
    cases b with
    | tup y => simp [D.beq, D.beqs_eq x y]
    | _ => simp [D.beq]
  | .lst x, b => by
    cases b with
    | lst y => simp [D.beq, D.beqs_eq x y]
    | _ => simp [D.beq]
  | .dic x, b => by
    cases b with
    | dic y => simp [D.beq, D.beqp_eq x y]
    | _ => simp [D.beq]
  | .ref x, b => by cases b <;> simp [D.beq]
  | .lam k x, b => by
    cases b with
    | lam j y => simp [D.beq, D.beqs_eq x y]
    | _ => simp [D.beq]
theorem D.beqs_eq : ∀ (a b : List D), D.beqs a b = true ↔ a = b
  | [], b => by cases b <;> simp [D.beqs]
  | x :: a, b => by
    cases b with
    | nil => simp [D.beqs]
    | cons y b => simp [D.beqs, D.beq_eq x y, D.beqs_eq a b]
theorem D.beqp_eq : ∀ (a b : List (D × D)), D.beqp a b = true ↔ a = b
  | [], b => by cases b <;> simp [D.beqp]
  | (x, u) :: a, b => by
    cases b with
    | nil => simp [D.beqp]
    | cons y b =>
      obtain ⟨y, v⟩ := y
      simp [D.beqp, D.beq_eq x y, D.beq_eq u v, D.beqp_eq a b, and_assoc]
end
theorem kget_val {k : D} (hk : D.atom k = true) : ∀ {l : List (D × D)} {kvs : List (Key × V)}, kvs.map (fun q => keyD q.1) = l.map (·.1) → DRp G F ρ l (kvs.map (·.2)) →
    (∀ x, kget k l = some x → ∃ v, valV kvs (keyOf k) = some v ∧ DR G F ρ x v) ∧ (kget k l = none → valV kvs (keyOf k) = none)
  | [], kvs, h1, _ => by
    cases kvs with
    | nil => exact ⟨fun x e => by simp [kget] at e, fun _ => valV_nil⟩
    | cons _ _ => cases h1
  | (a, x) :: l, kvs, h1, h2 => by
    cases kvs with
    | nil => cases h1
    | cons q kvs =>
      obtain ⟨k', v⟩ := q
      rw [List.map_cons, List.map_cons] at h1
      obtain ⟨e1, e2⟩ := List.cons.inj h1
      simp only [DRp, List.map_cons] at h2
      obtain ⟨v', r, e3, h3, h4⟩ := h2
      obtain ⟨e4, e5⟩ := List.cons.inj e3
      subst e4 e5
      dsimp only at e1
      obtain ⟨i1, i2⟩ := kget_val hk e2 h4
      by_cases hb : D.beq a k = true
      · have := (D.beq_eq a k).mp hb
        subst this
        have e : k' = keyOf a := by rw [← e1, keyOf_keyD]
        refine ⟨fun y hy => ?_, fun hy => ?_⟩
        · simp only [kget, hb, if_true] at hy
          cases hy
          exact ⟨v, valV_pos e, h3⟩
        · simp only [kget, hb, if_true] at hy
          cases hy
      · have e : ¬ k' = keyOf k := fun z => by
          apply hb
          rw [D.beq_eq, ← e1, z, keyD_keyOf hk]
        simp only [kget, hb, Bool.false_eq_true, if_false]
        refine ⟨fun y hy => ?_, fun hy => ?_⟩
        · obtain ⟨w, w1, w2⟩ := i1 y hy
          exact ⟨w, by rw [valV_neg e]; exact w1, w2⟩
        · rw [valV_neg e]
          exact i2 hy
end
end PI

/-! SD: operators, places, slices. -/
set_option linter.all false
set_option maxRecDepth 100000
namespace PI
open PySem PySem.Spec L2 PyProof.Rows
section
variable {G : GT} {Bs : List Nat} {W : WX} {X : Cx}
theorem size_line : sizeMax = sizeLine := by rw [sizeLine_eq] <;> rfl
theorem lenOk_le {α : Type} {l : List α} {k : Nat} (h : lenOk l k = true) : l.length + k ≤ sizeLine := by
  rw [← size_line]; exact Nat.le_of_ble_eq_true h
theorem str_len {s : List Nat} : (⟨s.toArray⟩ : Str).length = s.length := by simp [Str.length]
theorem str_app {a b : List Nat} : (⟨a.toArray⟩ ++ ⟨b.toArray⟩ : Str) = ⟨(a ++ b).toArray⟩ := by
  show (⟨a.toArray ++ b.toArray⟩ : Str) = _
  simp
theorem aft_lst {F : Fh} {ρ : List Addr} {h : Hv} {H : L2.Hp} {σ : L2.St} {m : Bool} {ds : List D} {vs : List V} {Q : VK} (R : Rel G Bs F ρ h H) (t : DRs G F ρ ds vs) (q : Aft G Bs W σ (DR G) F ρ (mkL m ds h) Q) : ∀ p, H p = none → Q (.ref p) (L2.upd H p (.lst vs)) := aft_mkL R t q
/-- a tuple that is there already -/
theorem aft_same {F : Fh} {ρ : List Addr} {h : Hv} {H : L2.Hp} {σ : L2.St} {ds : List D} {vs : List V} {a : Addr} {Q : VK} (xo : G.K = X.K) (R : Rel G Bs F ρ h H) (ht : DR G F ρ (.tup ds) (.ref a)) (q : Aft G Bs W σ (DR G) F ρ (.ok (.tup ds) h) Q) : Q (.ref a) H := q.ok_ R ht
theorem s_add (xo : XO G X) (m : Bool) : OpS G Bs W (addD m) (rAny X (binaryOp .Add)) := by
  intro F ρ h H σ x y v w Q R tx ty q
  unfold addD at q
  split at q
  · rename_i a b
    rw [dr_int] at tx ty
    exact ⟨_, op_add, a, b, tx, ty, q.ok_ R (dr_int.mpr rfl)⟩
  · rename_i a b
    rw [dr_str] at tx ty
    split at q
    · rename_i hl
      exact ⟨_, op_add_str, _, _, tx, ty, by rw [str_len, str_len]; exact lenOk_le hl, q.ok_ R (dr_str.mpr (congrArg V.str str_app))⟩
    · exact q.elim
  · rename_i a b
    split at q
    · rename_i hl
      obtain ⟨a1, vs1, e1, s1, t1⟩ := R.tupOf tx
      obtain ⟨a2, vs2, e2, s2, t2⟩ := R.tupOf ty
      subst e1 e2
      rw [← xo.K] at s1 s2
      refine ⟨_, op_catA, a1, a2, vs1, vs2, rfl, rfl, s1, s2, by rw [t1.length, t2.length]; exact lenOk_le hl, fun z => ?_, fun _ z => ?_, fun _ _ => aft_tup R (t1.append t2) q⟩
      · have : a = [] := List.length_eq_zero_iff.mp (by rw [← t1.length, z]; rfl)
        subst this
        exact q.ok_ R ty
      · have : b = [] := List.length_eq_zero_iff.mp (by rw [← t2.length, z]; rfl)
        subst this
        rw [List.append_nil] at q
        exact q.ok_ R tx
    · exact q.elim
  · split at q
    · rename_i a b e1 e2
      split at q
      · rename_i hl
        obtain ⟨a1, vs1, e1, s1, t1⟩ := R.lstNOf tx e1
        obtain ⟨a2, vs2, e2, s2, t2⟩ := R.lstNOf ty e2
        subst e1 e2
        exact ⟨_, op_cat, a1, a2, vs1, vs2, rfl, rfl, s1, s2, by rw [t1.length, t2.length]; exact lenOk_le hl, aft_mkL R (t1.append t2) q⟩
      · exact q.elim
    · exact q.elim
theorem s_sub (m : Bool) : OpS G Bs W (opB .sub m) (rAny X (binaryOp .Sub)) := by
  intro F ρ h H σ x y v w Q R tx ty q
  unfold opB at q
  dsimp only at q
  split at q
  · rename_i a b
    rw [dr_int] at tx ty
    exact ⟨_, op_sub, a, b, tx, ty, q.ok_ R (dr_int.mpr rfl)⟩
  · exact q.elim
theorem s_mul (m : Bool) : OpS G Bs W (mulD m) (rAny X (binaryOp .Mult)) := by
  intro F ρ h H σ x y v w Q R tx ty q
  unfold mulD at q
  split at q
  · rename_i a b
    rw [dr_int] at tx ty
    split at q
    · rename_i hc
      refine ⟨_, op_mul, a, b, tx, ty, ?_, q.ok_ R (dr_int.mpr rfl)⟩
      have : big = 2 ^ 64 := by decide
      rw [this] at hc
      exact hc
    · exact q.elim
  · exact q.elim
theorem s_fdiv (m : Bool) : OpS G Bs W (opB .fdiv m) (rAny X (binaryOp .FloorDiv)) := by
  intro F ρ h H σ x y v w Q R tx ty q
  unfold opB at q
  dsimp only at q
  split at q
  · rename_i a b
    rw [dr_int] at tx ty
    split at q
    · rename_i hc
      exact ⟨_, op_fdivN, a, b, tx, ty, hc, q.ok_ R (dr_int.mpr rfl)⟩
    · exact q.elim
  · exact q.elim
theorem s_mod (m : Bool) : OpS G Bs W (opB .mod m) (rAny X (binaryOp .Mod)) := by
  intro F ρ h H σ x y v w Q R tx ty q
  unfold opB at q
  dsimp only at q
  split at q
  · rename_i a b
    rw [dr_int] at tx ty
    split at q
    · rename_i hc
      exact ⟨_, op_modN, a, b, tx, ty, hc, q.ok_ R (dr_int.mpr rfl)⟩
    · exact q.elim
  · exact q.elim
theorem s_pow (m : Bool) : OpS G Bs W (opB .pow m) (rAny X (binaryOp .Pow)) := by
  intro F ρ h H σ x y v w Q R tx ty q
  unfold opB at q
  dsimp only at q
  split at q
  · rename_i a b
    rw [dr_int] at tx ty
    split at q
    · rename_i hc
      refine ⟨_, op_pow, a, b, tx, ty, ?_, q.ok_ R (dr_int.mpr rfl)⟩
      have : (18446744073709551616 : Nat) = 2 ^ 64 := by decide
      rw [this] at hc
      exact hc
    · exact q.elim
  · exact q.elim

/-! ### comparisons of ints -/
theorem s_lt : OpS G Bs W (fun x y h => opC .lt x y h) (rAny X (compareOp .Lt)) := by
  intro F ρ h H σ x y v w Q R tx ty q
  unfold opC intC at q
  dsimp only at q
  split at q
  · rename_i a b
    rw [dr_int] at tx ty
    exact ⟨_, op_lt, a, b, tx, ty, q.ok_ R (dr_bl.mpr rfl)⟩
  · exact q.elim
theorem s_le : OpS G Bs W (fun x y h => opC .le x y h) (rAny X (compareOp .LtE)) := by
  intro F ρ h H σ x y v w Q R tx ty q
  unfold opC intC at q
  dsimp only at q
  split at q
  · rename_i a b
    rw [dr_int] at tx ty
    exact ⟨_, op_le, a, b, tx, ty, q.ok_ R (dr_bl.mpr rfl)⟩
  · exact q.elim
theorem s_gt : OpS G Bs W (fun x y h => opC .gt x y h) (rAny X (compareOp .Gt)) := by
  intro F ρ h H σ x y v w Q R tx ty q
  unfold opC intC at q
  dsimp only at q
  split at q
  · rename_i a b
    rw [dr_int] at tx ty
    exact ⟨_, op_gt, a, b, tx, ty, q.ok_ R (dr_bl.mpr rfl)⟩
  · exact q.elim
theorem s_ge : OpS G Bs W (fun x y h => opC .ge x y h) (rAny X (compareOp .GtE)) := by
  intro F ρ h H σ x y v w Q R tx ty q
  unfold opC intC at q
  dsimp only at q
  split at q
  · rename_i a b
    rw [dr_int] at tx ty
    exact ⟨_, op_ge, a, b, tx, ty, q.ok_ R (dr_bl.mpr rfl)⟩
  · exact q.elim
theorem s_is : OpS G Bs W (fun x y h => opC .is x y h) (rAny X (compareOp .Is)) := by
  intro F ρ h H σ x y v w Q R tx ty q
  unfold opC at q
  dsimp only at q
  split at q
  · rw [dr_non] at ty
    refine ⟨_, op_isN, ty, ?_⟩
    refine q.ok_ R (dr_bl.mpr ?_)
    cases x with
    | non => rw [dr_non] at tx; subst tx; rfl
    | bl b => rw [dr_bl] at tx; subst tx; rfl
    | int i => rw [dr_int] at tx; subst tx; rfl
    | str s => rw [dr_str] at tx; subst tx; rfl
    | tup l => simp only [DR] at tx; obtain ⟨a, vs, rfl, _⟩ := tx; rfl
    | lst l => simp only [DR] at tx; obtain ⟨a, vs, rfl, _⟩ := tx; rfl
    | dic l => simp only [DR] at tx; obtain ⟨a, o, rfl, _⟩ := tx; rfl
    | ref i => simp only [DR] at tx; obtain ⟨a, rfl, _⟩ := tx; rfl
    | lam k l => simp only [DR] at tx
  · exact q.elim
theorem s_isnot : OpS G Bs W (fun x y h => opC .isnot x y h) (rAny X (compareOp .IsNot)) := by
  intro F ρ h H σ x y v w Q R tx ty q
  unfold opC at q
  dsimp only at q
  split at q
  · rw [dr_non] at ty
    refine ⟨_, op_notN, ty, ?_⟩
    refine q.ok_ R (dr_bl.mpr ?_)
    cases x with
    | non => rw [dr_non] at tx; subst tx; rfl
    | bl b => rw [dr_bl] at tx; subst tx; rfl
    | int i => rw [dr_int] at tx; subst tx; rfl
    | str s => rw [dr_str] at tx; subst tx; rfl
    | tup l => simp only [DR] at tx; obtain ⟨a, vs, rfl, _⟩ := tx; rfl
    | lst l => simp only [DR] at tx; obtain ⟨a, vs, rfl, _⟩ := tx; rfl
    | dic l => simp only [DR] at tx; obtain ⟨a, o, rfl, _⟩ := tx; rfl
    | ref i => simp only [DR] at tx; obtain ⟨a, rfl, _⟩ := tx; rfl
    | lam k l => simp only [DR] at tx
  · exact q.elim

/-! ### equality -/
mutual
def toPy : D → PyData
  | .non => .none
  | .bl b => .bool b
  | .int i => .int i
  | .str s => .str ⟨s.toArray⟩
  | .tup l => .tuple (toPys l)
  | .lst l => .list (toPys l)
  | _ => .none
def toPys : List D → List PyData
  | [] => []
  | a :: l => toPy a :: toPys l
end
theorem txOk_str {s : List Nat} (h : txOk s = true) : PyData.canLay0 (.str ⟨s.toArray⟩) = true := by
  simp only [PyData.canLay0, PyData.strOk]
  simp only [txOk, List.all_eq_true] at h
  rw [List.all_toArray']
  · rw [List.all_eq_true]
    intro c hc
    have := h c hc
    exact decide_eq_true (Nat.lt_of_succ_le (Nat.le_of_ble_eq_true this))
  · rfl
mutual
theorem flat_py : ∀ (x : D) (n : Nat), D.flat n x = true → PyData.canLay0 (toPy x) = true ∧ PyData.depth (toPy x) ≤ n
  | .non, n, _ => by simp [toPy, PyData.canLay0, PyData.depth]
  | .bl _, n, _ => by simp [toPy, PyData.canLay0, PyData.depth]
  | .int _, n, _ => by simp [toPy, PyData.canLay0, PyData.depth]
  | .str s, n, h => by
    simp only [D.flat] at h
    refine ⟨txOk_str h, ?_⟩
    simp [toPy, PyData.depth]
  | .tup l, 0, h => by simp [D.flat] at h
  | .lst l, 0, h => by simp [D.flat] at h
  | .tup l, n + 1, h => by
    simp only [D.flat] at h
    obtain ⟨h1, h2⟩ := flats_py l n h
    simp only [toPy, PyData.canLay0, PyData.depth]
    exact ⟨h1, by omega⟩
  | .lst l, n + 1, h => by
    simp only [D.flat] at h
    obtain ⟨h1, h2⟩ := flats_py l n h
    simp only [toPy, PyData.canLay0, PyData.depth]
    exact ⟨h1, by omega⟩
  | .dic _, n, h => by simp [D.flat] at h
  | .ref _, n, h => by simp [D.flat] at h
  | .lam _ _, n, h => by simp [D.flat] at h
theorem flats_py : ∀ (l : List D) (n : Nat), D.flats n l = true → PyData.canLayAll0 (toPys l) = true ∧ PyData.depthAll (toPys l) ≤ n
  | [], n, _ => by simp [toPys, PyData.canLayAll0, PyData.depthAll]
  | a :: l, n, h => by
    simp only [D.flats, Bool.and_eq_true] at h
    obtain ⟨h1, h2⟩ := flat_py a n h.1
    obtain ⟨h3, h4⟩ := flats_py l n h.2
    simp only [toPys, PyData.canLayAll0, PyData.depthAll, h1, h3, Bool.and_self, true_and]
    omega
end
theorem shaped_py {x : D} {n : Nat} (hn : n ≤ 64) (h : D.flat n x = true) : SeqAt.shaped (toPy x) = true := by
  obtain ⟨h1, h2⟩ := flat_py x n h
  simp only [SeqAt.shaped, h1, Bool.true_and, decide_eq_true_eq]
  omega
mutual
theorem eqb_py : ∀ (x y : D) (n : Nat), D.flat n x = true → D.flat n y = true → D.eqb x y = PyData.eqv (toPy x) (toPy y)
  | .non, y, n, _, hy => by cases y <;> first | (simp [D.eqb, toPy, PyData.eqv]; done) | (simp [D.flat] at hy; done)
  | .bl a, y, n, _, hy => by
    cases y with
    | int j => cases a <;> rfl
    | _ => first | (simp [D.eqb, toPy, PyData.eqv]; done) | (simp [D.flat] at hy; done)
  | .int a, y, n, _, hy => by
    cases y with
    | bl j => cases j <;> rfl
    | _ => first | (simp [D.eqb, toPy, PyData.eqv]; done) | (simp [D.flat] at hy; done)
  | .str a, y, n, _, hy => by
    cases y with
    | str b =>
      simp only [D.eqb, toPy, PyData.eqv]
      rw [Bool.eq_iff_iff]
      simp
    | _ => first | (simp [D.eqb, toPy, PyData.eqv]; done) | (simp [D.flat] at hy; done)
  | .tup a, y, 0, h, _ => by simp [D.flat] at h
  | .lst a, y, 0, h, _ => by simp [D.flat] at h
  | .tup a, y, n + 1, h, hy => by
    cases y with
    | tup b =>
      simp only [D.flat] at h hy
      simp only [D.eqb, toPy, PyData.eqv]
      exact eqbs_py a b n h hy
    | _ => first | (simp [D.eqb, toPy, PyData.eqv]; done) | (simp [D.flat] at hy; done)
  | .lst a, y, n + 1, h, hy => by
    cases y with
    | lst b =>
      simp only [D.flat] at h hy
      simp only [D.eqb, toPy, PyData.eqv]
      exact eqbs_py a b n h hy
    | _ => first | (simp [D.eqb, toPy, PyData.eqv]; done) | (simp [D.flat] at hy; done)
  | .dic _, _, n, h, _ => by simp [D.flat] at h
  | .ref _, _, n, h, _ => by simp [D.flat] at h
  | .lam _ _, _, n, h, _ => by simp [D.flat] at h
theorem eqbs_py : ∀ (x y : List D) (n : Nat), D.flats n x = true → D.flats n y = true → D.eqbs x y = PyData.eqvAll (toPys x) (toPys y)
  | [], y, n, _, _ => by cases y <;> simp [D.eqbs, toPys, PyData.eqvAll]
  | a :: l, y, n, h, hy => by
    cases y with
    | nil => simp [D.eqbs, toPys, PyData.eqvAll]
    | cons b r =>
      simp only [D.flats, Bool.and_eq_true] at h hy
      simp only [D.eqbs, toPys, PyData.eqvAll]
      rw [eqb_py a b n h.1 hy.1, eqbs_py l r n h.2 hy.2]
end
mutual
theorem dp_of {F : Fh} {ρ : List Addr} {h : Hv} {H : L2.Hp} (R : Rel G Bs F ρ h H) : ∀ (x : D) (n : Nat) (v : V), D.flat n x = true → DR G F ρ x v → Dp G.K H v (toPy x)
  | .non, n, v, _, t => by rw [dr_non] at t; subst t; exact .non
  | .bl b, n, v, _, t => by rw [dr_bl] at t; subst t; exact .bl b
  | .int i, n, v, _, t => by rw [dr_int] at t; subst t; exact .int i
  | .str s, n, v, _, t => by rw [dr_str] at t; subst t; exact .str _
  | .tup l, 0, v, h, t => by simp [D.flat] at h
  | .lst l, 0, v, h, t => by simp [D.flat] at h
  | .tup l, n + 1, v, h, t => by
    simp only [D.flat] at h
    obtain ⟨a, vs, rfl, s, t⟩ := R.tupOf t
    exact .tup s (dps_of R l n vs h t)
  | .lst l, n + 1, v, h, t => by
    simp only [D.flat] at h
    obtain ⟨a, vs, rfl, s, t⟩ := R.lstOf t (by simp only [PI.lstOf] <;> rfl)
    exact .lst s (dps_of R l n vs h t)
  | .dic _, n, _, h, _ => by simp [D.flat] at h
  | .ref _, n, _, h, _ => by simp [D.flat] at h
  | .lam _ _, n, _, h, _ => by simp [D.flat] at h
theorem dps_of {F : Fh} {ρ : List Addr} {h : Hv} {H : L2.Hp} (R : Rel G Bs F ρ h H) : ∀ (l : List D) (n : Nat) (vs : List V), D.flats n l = true → DRs G F ρ l vs → DpAll G.K H vs (toPys l)
  | [], n, vs, _, t => by rw [drs_nil] at t; subst t; exact .nil
  | a :: l, n, vs, h, t => by
    simp only [DRs] at t
    obtain ⟨v, r, rfl, t1, t2⟩ := t
    simp only [D.flats, Bool.and_eq_true] at h
    exact .cons (dp_of R a n v h.1 t1) (dps_of R l n r h.2 t2)
end
/-- a cell of a list is looked at one deep -/
theorem dp_deref {F : Fh} {ρ : List Addr} {h : Hv} {H : L2.Hp} (R : Rel G Bs F ρ h H) {x : D} {n : Nat} {v : V} (hf : D.flat n (deref h x) = true) (t : DR G F ρ x v) : Dp G.K H v (toPy (deref h x)) := by
  cases x with
  | ref i =>
    simp only [deref] at hf ⊢
    cases e : h[i]? with
    | none => rw [e] at hf; simp [D.flat] at hf
    | some o =>
      rw [e] at hf
      cases e1 : obSeq o with
      | some l =>
        simp only [e1] at hf ⊢
        cases n with
        | zero => simp [D.flat] at hf
        | succ n =>
          simp only [D.flat] at hf
          obtain ⟨a, rfl, _, h3⟩ := R.refOf t e (obSeq_dead e1)
          obtain ⟨vs, h4, h5⟩ := R.obSeq h3 e1
          exact .lst h4 (dps_of R l n vs hf h5)
      | none =>
        cases e2 : obDic o with
        | some l => simp only [e1, e2] at hf; simp [D.flat] at hf
        | none => simp only [e1, e2] at hf; simp [D.flat] at hf
  | _ => exact dp_of R _ n v hf t
theorem s_eq (xo : XO G X) : OpS G Bs W (fun x y h => opC .eq x y h) (rAny X (compareOp .Eq)) := by
  intro F ρ h H σ x y v w Q R tx ty q
  unfold opC deq okb at q
  dsimp only at q
  by_cases hf : (D.flat 60 (deref h x) && D.flat 60 (deref h y)) = true
  · rw [if_pos hf] at q
    rw [Bool.and_eq_true] at hf
    refine ⟨_, op_eqD (by have := xo.room; omega), toPy (deref h x), toPy (deref h y), ?_, ?_, shaped_py (by decide) hf.1, shaped_py (by decide) hf.2, ?_⟩
    · rw [xo.K]; exact dp_deref R hf.1 tx
    · rw [xo.K]; exact dp_deref R hf.2 ty
    · rw [← eqb_py _ _ 60 hf.1 hf.2]
      exact q.ok_ R (dr_bl.mpr rfl)
  · rw [if_neg hf] at q
    exact q.elim
theorem s_ne (xo : XO G X) : OpS G Bs W (fun x y h => opC .ne x y h) (rAny X (compareOp .NotEq)) := by
  intro F ρ h H σ x y v w Q R tx ty q
  unfold opC deq okn at q
  dsimp only at q
  by_cases hf : (D.flat 60 (deref h x) && D.flat 60 (deref h y)) = true
  · rw [if_pos hf] at q
    rw [Bool.and_eq_true] at hf
    refine ⟨_, op_neD (by have := xo.room; omega), toPy (deref h x), toPy (deref h y), ?_, ?_, shaped_py (by decide) hf.1, shaped_py (by decide) hf.2, ?_⟩
    · rw [xo.K]; exact dp_deref R hf.1 tx
    · rw [xo.K]; exact dp_deref R hf.2 ty
    · rw [← eqb_py _ _ 60 hf.1 hf.2]
      exact q.ok_ R (dr_bl.mpr rfl)
  · rw [if_neg hf] at q
    exact q.elim

/-! ### in -/
theorem op_dIn (xo : XO G X) : OpR X (compareOp .In) (fun y x H Q => ∃ a o, x = .ref a ∧ DGet H a y o ∧ Q (.bl o.isSome) H) := by
  intro pins s σ H y x u v Q I ry rx ⟨a, o, e, g, q⟩
  subst e
  obtain rfl : v = .ref a := rx
  exact d_in (by have := xo.room; omega) I g ry fun s3 I3 => ⟨.bl o.isSome, H, I3, rfl, q⟩
theorem op_dNotIn (xo : XO G X) : OpR X (compareOp .NotIn) (fun y x H Q => ∃ a o, x = .ref a ∧ DGet H a y o ∧ Q (.bl (!o.isSome)) H) := by
  intro pins s σ H y x u v Q I ry rx ⟨a, o, e, g, q⟩
  subst e
  obtain rfl : v = .ref a := rx
  exact d_notIn (by have := xo.room; omega) I g ry fun s3 I3 => ⟨.bl (!o.isSome), H, I3, rfl, q⟩
theorem memb_py {x : D} (hx : D.flat 60 x = true) : ∀ {l : List D}, D.flats 60 l = true → memb x l = (toPys l).any fun z => PyData.eqv z (toPy x)
  | [], _ => by simp [memb, toPys]
  | a :: l, h => by
    simp only [D.flats, Bool.and_eq_true] at h
    simp only [memb, toPys, List.any_cons]
    rw [eqb_py a x 60 h.1 hx, memb_py hx h.2]
theorem isin_cases {F : Fh} {ρ : List Addr} {h : Hv} {H : L2.Hp} (xo : XO G X) (R : Rel G Bs F ρ h H) {x y : D} {v w : V} {b : Bool} (tx : DR G F ρ x v) (ty : DR G F ρ y w) (e : isin h x y = some b) :
    (∃ a o, w = .ref a ∧ DGet H a v o ∧ b = o.isSome) ∨ (∃ d ds, Dp G.K H v d ∧ Dp G.K H w (.list ds) ∧ SeqAt.shaped d = true ∧ SeqAt.shaped (.list ds) = true ∧ b = ds.any fun z => PyData.eqv z d) := by
  unfold isin at e
  cases e1 : PI.dicOf h y with
  | some l =>
    simp only [e1] at e
    cases l with
    | nil => cases e
    | cons p r =>
      dsimp only at e
      split at e
      · rename_i hk
        rw [Bool.and_eq_true] at hk
        cases e
        obtain ⟨a, kvs, rfl, h2, h3, h4⟩ := R.dicOf ty e1 hk.1
        obtain ⟨g1, g2⟩ := kget_val hk.2 h3 h4
        refine .inl ⟨a, valV kvs (keyOf x), rfl, .inl ⟨kvs, keyOf x, h2, kV_keyOf hk.2 tx, rfl⟩, ?_⟩
        cases e2 : kget x (p :: r) with
        | some z =>
          obtain ⟨v', q1, _⟩ := g1 z e2
          rw [q1] <;> rfl
        | none => rw [g2 e2] <;> rfl
      · cases e
  | none =>
    simp only [e1] at e
    cases e2 : PI.lstOf h y with
    | none => rw [e2] at e; cases e
    | some l =>
      rw [e2] at e
      dsimp only at e
      split at e
      · rename_i hf
        rw [Bool.and_eq_true] at hf
        cases e
        obtain ⟨a, vs, rfl, h2, h3⟩ := R.lstOf ty e2
        refine .inr ⟨toPy (deref h x), toPys l, dp_deref R hf.1 tx, .lst h2 (dps_of R l 60 vs hf.2 h3), shaped_py (by decide) hf.1, ?_, memb_py hf.1 hf.2⟩
        exact shaped_py (x := .lst l) (n := 61) (by decide) (by simp only [D.flat]; exact hf.2)
      · cases e
theorem s_in (xo : XO G X) : OpS G Bs W (fun x y h => opC .isin x y h) (rAny X (compareOp .In)) := by
  intro F ρ h H σ x y v w Q R tx ty q
  unfold opC okb at q
  dsimp only at q
  cases e : isin h x y with
  | none => rw [e] at q; exact q.elim
  | some b =>
    rw [e] at q
    have q' : Q (.bl b) H := q.ok_ R (dr_bl.mpr rfl)
    rcases isin_cases xo R tx ty e with ⟨a, o, h1, h2, h3⟩ | ⟨d, ds, h1, h2, h3, h4, h5⟩
    · exact ⟨_, op_dIn xo, a, o, h1, h2, by rw [← h3]; exact q'⟩
    · exact ⟨_, op_inD (by have := xo.room; omega), d, ds, by rw [xo.K]; exact h1, by rw [xo.K]; exact h2, h3, h4, by rw [← h5]; exact q'⟩
theorem s_notin (xo : XO G X) : OpS G Bs W (fun x y h => opC .notin x y h) (rAny X (compareOp .NotIn)) := by
  intro F ρ h H σ x y v w Q R tx ty q
  unfold opC okn at q
  dsimp only at q
  cases e : isin h x y with
  | none => rw [e] at q; exact q.elim
  | some b =>
    rw [e] at q
    have q' : Q (.bl (!b)) H := q.ok_ R (dr_bl.mpr rfl)
    rcases isin_cases xo R tx ty e with ⟨a, o, h1, h2, h3⟩ | ⟨d, ds, h1, h2, h3, h4, h5⟩
    · exact ⟨_, op_dNotIn xo, a, o, h1, h2, by rw [← h3]; exact q'⟩
    · exact ⟨_, op_notInD (by have := xo.room; omega), d, ds, by rw [xo.K]; exact h1, by rw [xo.K]; exact h2, h3, h4, by rw [← h5]; exact q'⟩

/-! ### places -/
theorem ix_dict (xo : XO G X) : IxR X (fun x y H Q => ∃ a v, x = .ref a ∧ DGet H a y (some v) ∧ Q v H) := by
  intro value slice pins s σ H x y v u Q I rx ry ⟨a, r, e, g, q⟩ hs
  subst e
  obtain rfl : v = .ref a := rx
  exact tail_any (dict_typeIs I g) PySem.F.slot_dict_getitem.lookup (d_getItem (by have := xo.room; omega) I g ry fun w' s3 I3 rw' => ⟨r, H, I3, rw', q⟩) hs
theorem ixAt_ixN {n : Nat} {i : Int} : ixAt n i = ixN n i := rfl
theorem DRs.atI {F : Fh} {ρ : List Addr} {l : List D} {vs : List V} {k : Int} {j : Nat} {d : D} (t : DRs G F ρ l vs) (e : ixAt l.length k = some j) (e2 : l[j]? = some d) : ∃ v, L2.atI vs k = some v ∧ DR G F ρ d v := by
  obtain ⟨v, h1, h2⟩ := t.get e2
  refine ⟨v, ?_, h2⟩
  unfold L2.atI
  rw [t.length, ← ixAt_ixN, e]
  exact h1
theorem s_idx (xo : XO G X) : OpS G Bs W (fun x y h => idxD h x y) (iAny X) := by
  intro F ρ h H σ x y v w Q R tx ty q
  unfold idxD at q
  dsimp only at q
  cases e1 : PI.dicOf h x with
  | some l =>
    simp only [e1] at q
    split at q
    · rename_i hk
      cases e2 : kget y l with
      | none => rw [e2] at q; exact q.elim
      | some z =>
        rw [e2] at q
        cases l with
        | nil => cases e2
        | cons p r =>
          have hp : D.atom p.1 = true ∨ ∃ p' ∈ r, p'.1 = y := by
            by_cases hb : D.beq p.1 y = true
            · rw [(D.beq_eq _ _).mp hb]; exact .inl hk
            · right
              obtain ⟨pk, px⟩ := p
              simp only [kget, hb, Bool.false_eq_true, if_false] at e2
              clear q tx e1
              induction r with
              | nil => cases e2
              | cons a r ih =>
                obtain ⟨ak, ax⟩ := a
                simp only [kget] at e2
                by_cases hb2 : D.beq ak y = true
                · exact ⟨_, List.mem_cons_self, (D.beq_eq _ _).mp hb2⟩
                · simp only [hb2, Bool.false_eq_true, if_false] at e2
                  obtain ⟨p', h1, h2⟩ := ih e2
                  exact ⟨p', List.mem_cons_of_mem _ h1, h2⟩
          have fin : ∀ (a : Addr) (kvs : List (Key × V)), v = .ref a → Rd H a (.dK kvs) → kvs.map (fun q => keyD q.1) = (p :: r).map (·.1) → DRp G F ρ (p :: r) (kvs.map (·.2)) → iAny X v w H Q := fun a kvs h1 h2 h3 h4 => by
            obtain ⟨g1, _⟩ := kget_val hk h3 h4
            obtain ⟨v', h5, h6⟩ := g1 z e2
            exact ⟨_, ix_dict xo, a, v', h1, .inl ⟨kvs, keyOf y, h2, kV_keyOf hk ty, h5.symm⟩, q.ok_ R h6⟩
          have hp1 : D.atom p.1 = true := by
            rcases hp with hp | ⟨p', h1, h2⟩
            · exact hp
            · have noT : ∀ {kvs : List (List Key × V)}, kvs.map (fun q => keysD q.1) ≠ (p :: r).map (·.1) := fun {kvs} zz => by
                have hm : y ∈ (p :: r).map (·.1) := List.mem_map.mpr ⟨p', List.mem_cons_of_mem _ h1, h2⟩
                rw [← zz] at hm
                obtain ⟨q', _, h5⟩ := List.mem_map.mp hm
                rw [← h5] at hk
                cases hk
              have yesK : ∀ {kvs : List (Key × V)}, kvs.map (fun q => keyD q.1) = (p :: r).map (·.1) → D.atom p.1 = true := fun {kvs} zz => by
                cases kvs with
                | nil => cases zz
                | cons k kvs =>
                  rw [List.map_cons, List.map_cons] at zz
                  rw [← (List.cons.inj zz).1]
                  cases k.1 <;> rfl
              cases x with
              | dic l' =>
                simp only [PI.dicOf] at e1
                cases e1
                simp only [DR] at tx
                obtain ⟨a, o, _, ⟨kvs, _, h3, _⟩ | ⟨kvs, _, h3, _⟩⟩ := tx
                · exact yesK h3
                · exact absurd h3 noT
              | ref i =>
                simp only [PI.dicOf] at e1
                cases qo : h[i]? with
                | none => rw [qo] at e1; cases e1
                | some o =>
                  rw [qo] at e1
                  cases o with
                  | dic b l' =>
                    cases e1
                    obtain ⟨a, _, _, h2⟩ := R.refOf tx qo rfl
                    cases b with
                    | false => obtain ⟨kvs, _, h3, _⟩ := h2; exact yesK h3
                    | true => obtain ⟨kvs, _, h3, _⟩ := h2; exact absurd h3 noT
                  | lck u =>
                    cases u with
                    | dic b l' =>
                      cases e1
                      obtain ⟨a, _, _, h2⟩ := R.refOf tx qo rfl
                      cases b with
                      | false => obtain ⟨o, kvs, _, h3, _⟩ := h2; exact yesK h3
                      | true => obtain ⟨o, kvs, _, h3, _⟩ := h2; exact absurd h3 noT
                    | _ => cases e1
                  | _ => cases e1
              | _ => cases e1
          obtain ⟨a, kvs, h1, h2, h3, h4⟩ := R.dicOf tx e1 hp1
          exact fin a kvs h1 h2 h3 h4
    · exact q.elim
  | none =>
    simp only [e1] at q
    cases y with
    | int k =>
      rw [dr_int] at ty
      subst ty
      dsimp only at q
      split at q
      · rename_i s
        rw [dr_str] at tx
        split at q
        · rename_i hb
          cases e2 : ixAt s.length k with
          | none => rw [e2] at q; exact q.elim
          | some j =>
            simp only [e2] at q
            cases e3 : s[j]? with
            | none => rw [e3] at q; exact q.elim
            | some c =>
              simp only [e3] at q
              refine ⟨_, ix_str, ⟨s.toArray⟩, k, c, tx, rfl, by rw [str_len, ← size_line]; exact Nat.le_of_ble_eq_true hb, ?_, q.ok_ R (dr_str.mpr rfl)⟩
              unfold L2.atI
              rw [← ixAt_ixN]
              show (ixAt s.length k).bind _ = _
              rw [e2]
              exact e3
        · exact q.elim
      · cases e : PI.seqOf h x with
        | none => simp only [e] at q; exact q.elim
        | some l =>
          simp only [e] at q
          cases e2 : ixAt l.length k with
          | none => rw [e2] at q; exact q.elim
          | some j =>
            simp only [e2] at q
            cases e3 : l[j]? with
            | none => rw [e3] at q; exact q.elim
            | some d =>
              simp only [e3] at q
              obtain ⟨a, vs, h1, h2, h3⟩ := R.seqOf tx e
              obtain ⟨z, h4, h5⟩ := h3.atI e2 e3
              subst h1
              rcases h2 with h2 | ⟨h2, _⟩
              · exact ⟨_, ix_list, a, vs, k, z, rfl, rfl, by rw [xo.K]; exact h2, h4, q.ok_ R h5⟩
              · exact ⟨_, ix_tup, a, vs, k, z, rfl, rfl, by rw [xo.K]; exact h2, h4, q.ok_ R h5⟩
    | _ => exact q.elim
theorem clip_sIx {n d : Nat} {i : Option Int} : clip n d i = HT.sIx n d i := by
  cases i with
  | none => rfl
  | some i =>
    simp only [clip, HT.sIx]
    all_goals (split <;> omega)
theorem DRs.cut {F : Fh} {ρ : List Addr} {l : List D} {vs : List V} {lo hi : Option Int} (t : DRs G F ρ l vs) : DRs G F ρ (cut l lo hi) (cutV vs lo hi) := by
  unfold PI.cut cutV
  rw [t.length, ← clip_sIx, ← clip_sIx]
  exact (t.drop _).take _
def SlS (G : GT) (Bs : List Nat) (W : WX) (g : D → Option Int → Option Int → Hv → Res D) (r : V → Option Int → Option Int → L2.Hp → VK → Prop) : Prop :=
  ∀ F ρ h H σ x v lo hi Q, Rel G Bs F ρ h H → DR G F ρ x v → Aft G Bs W σ (DR G) F ρ (g x lo hi h) Q → r v lo hi H Q
end
end PI

/-! SE: built-in functions, methods of built-in types. -/
set_option linter.all false
set_option maxRecDepth 100000
namespace PI
open PySem PySem.Spec L2 PyProof.Rows
section
variable {G : GT} {Bs : List Nat} {W : WX} {X : Cx}
/-- g is what the rule r does -/
def BuS (G : GT) (Bs : List Nat) (W : WX) (g : D → Hv → Res D) (r : List V → L2.Hp → VK → Prop) : Prop :=
  ∀ F ρ h H σ x v Q, Rel G Bs F ρ h H → DR G F ρ x v → Aft G Bs W σ (DR G) F ρ (g x h) Q → r [v] H Q
theorem call_lenDK : CallR X (.builtin "len") (fun xs H Q => ∃ a kvs, xs = [V.ref a] ∧ H a = some (.dK kvs) ∧ Q (.int kvs.length) H) := by
  intro pins s σ H xs us; intro Q I r h
  obtain ⟨a, kvs, rfl, ha, q⟩ := (h)
  obtain ⟨u, rfl, ru⟩ := (vals1 r)
  cases ru
  exact (d_len I (.inl ha) fun t s' I' => ⟨.int kvs.length, H, I', ⟨t, rfl⟩, q⟩)
theorem b_len (xo : XO G X) : BuS G Bs W (fun x h => lenD h x) (cAny X (.builtin "len")) := by
  intro F ρ h H σ x v Q R tx q
  cases x with
  | str s =>
    rw [dr_str] at tx
    subst tx
    simp only [lenD] at q
    split at q
    · rename_i hb
      refine ⟨_, call_len, _, s.length, rfl, ⟨?_, str_len.symm⟩, q.ok_ R (dr_int.mpr rfl)⟩
      rw [str_len, ← size_line]; exact Nat.le_of_ble_eq_true hb
    · exact q.elim
  | lst l =>
    simp only [lenD] at q
    obtain ⟨a, vs, rfl, h2, h3⟩ := R.lstOf tx (show PI.lstOf h (.lst l) = some l from rfl)
    rw [← xo.K] at h2
    exact ⟨_, call_len, _, l.length, rfl, .inl ⟨vs, h2, h3.length.symm⟩, q.ok_ R (dr_int.mpr rfl)⟩
  | tup l =>
    simp only [lenD] at q
    obtain ⟨a, vs, rfl, h2, h3⟩ := R.tupOf tx
    rw [← xo.K] at h2
    exact ⟨_, call_len, _, l.length, rfl, .inr ⟨vs, h2, h3.length.symm⟩, q.ok_ R (dr_int.mpr rfl)⟩
  | ref i =>
    simp only [lenD] at q
    cases e : h[i]? with
    | none => rw [e] at q; exact q.elim
    | some o =>
      simp only [e] at q
      have sq : ∀ l, PI.obSeq o = some l → Aft G Bs W σ (DR G) F ρ (.ok (.int l.length) h) Q → cAny X (.builtin "len") [v] H Q := fun l e1 q => by
        obtain ⟨a, rfl, _, h3⟩ := R.refOf tx e (obSeq_dead e1)
        obtain ⟨vs, h4, h5⟩ := R.obSeq h3 e1
        rw [← xo.K] at h4
        exact ⟨_, call_len, _, l.length, rfl, .inl ⟨vs, h4, h5.length.symm⟩, q.ok_ R (dr_int.mpr rfl)⟩
      split at q
      · rename_i l
        obtain ⟨a, rfl, _, kvs, h2, h3, h4⟩ := R.refOf tx e rfl
        have hl : kvs.length = l.length := by
          have := congrArg List.length h3
          simpa using this
        exact ⟨_, call_lenDK, a, kvs, rfl, h2, by rw [hl]; exact q.ok_ R (dr_int.mpr rfl)⟩
      · cases e1 : PI.obSeq o with
        | none => rw [e1] at q; exact q.elim
        | some l => simp only [e1] at q; exact sq l e1 q
  | _ => exact q.elim
theorem b_abs : BuS G Bs W absD (cAny X (.builtin "abs")) := by
  intro F ρ h H σ x v Q R tx q
  unfold absD at q
  split at q
  · rename_i i
    rw [dr_int] at tx
    subst tx
    exact ⟨_, call_abs, i, rfl, q.ok_ R (dr_int.mpr rfl)⟩
  · exact q.elim
theorem b_int : BuS G Bs W intD (cAny X (.type "int")) := by
  intro F ρ h H σ x v Q R tx q
  unfold intD at q
  split at q
  · rename_i i
    rw [dr_int] at tx
    subst tx
    exact ⟨_, call_int1, .inl ⟨i, rfl, q.ok_ R (dr_int.mpr rfl)⟩⟩
  · rename_i b
    rw [dr_bl] at tx
    subst tx
    exact ⟨_, call_int1, .inr ⟨b, rfl, q.ok_ R (dr_int.mpr (by cases b <;> rfl))⟩⟩
  · exact q.elim
/-- list(text) -/
theorem call_listS (hc : X.calm = true) : CallR X (.type "list") (fun xs H Q => ∃ z : Str, xs = [.str z] ∧ z.length ≤ sizeLine ∧ ∀ p, H p = none → Q (.ref p) (L2.upd H p (.lst (z.cps.toList.map fun c => V.str ⟨#[c]⟩)))) := by
  intro pins s σ H xs us; intro Q I r h
  obtain ⟨z, rfl, hz, q⟩ := h
  obtain ⟨u, rfl, t, rfl⟩ := (vals1 r)
  refine call_list_str (I.ok.hd hc) z t (hn := hz) fun h' tk acc' c' hk hS hacc => ?_
  refine ⟨.ref s.heap.objs.size, _, I.laid (t' := tk) (o := .lst (z.cps.toList.map fun c => V.str ⟨#[c]⟩)) hk (Nat.le_refl _) (show ObjOk X.prog X.w _ _ _ (.lst _) from ⟨?_, acc'.toList, c', ?_, ?_⟩), rfl, q _ (I.hok.fresh (Nat.le_refl _))⟩
  · rw [List.length_map, Array.length_toList]; exact hz
  · have el : (acc'.toList.length = acc'.size) := by simp
    refine vals_of_at (by rw [List.length_map, el, hacc.1, Array.length_toList]) fun j x w h1 h2 => ?_
    obtain ⟨c, u, hc1, rfl⟩ := hacc.2 j w (by rw [← Array.getElem?_toList]; exact h2)
    rw [List.getElem?_map, Array.getElem?_toList, hc1] at h1
    cases h1
    exact ⟨u, rfl⟩
  · (rw [Array.toArray_toList]; exact hS)
theorem drs_signs {F : Fh} {ρ : List Addr} : ∀ s : List Nat, DRs G F ρ (signs s) (s.map fun c => V.str ⟨#[c]⟩)
  | [] => drs_nil.mpr rfl
  | c :: s => drs_cons.mpr ⟨dr_str.mpr rfl, drs_signs s⟩
theorem b_list (xo : XO G X) (m : Bool) : BuS G Bs W (listD m) (cAny X (.type "list")) := by
  intro F ρ h H σ x v Q R tx q
  unfold listD at q
  split at q
  · rename_i s
    rw [dr_str] at tx
    subst tx
    split at q
    · rename_i hb
      refine ⟨_, call_listS xo.calm, _, rfl, ?_, aft_mkL R (drs_signs s) q⟩
      rw [str_len, ← size_line]; exact Nat.le_of_ble_eq_true hb
    · exact q.elim
  · cases e : PI.seqOf h x with
    | none => rw [e] at q; exact q.elim
    | some l =>
      simp only [e] at q
      obtain ⟨a, vs, rfl, h2, h3⟩ := R.seqOf tx e
      refine ⟨_, call_list_of, a, vs, rfl, ?_, aft_mkL R h3 q⟩
      rw [xo.K]
      rcases h2 with h2 | ⟨h2, _⟩
      · exact .inl h2
      · exact .inr h2
theorem b_tuple (xo : XO G X) : BuS G Bs W tupleD (cAny X (.type "tuple")) := by
  intro F ρ h H σ x v Q R tx q
  unfold tupleD at q
  cases e : PI.seqOf h x with
  | none => rw [e] at q; exact q.elim
  | some l =>
    simp only [e] at q
    obtain ⟨a, vs, rfl, h2, h3⟩ := R.seqOf tx e
    refine ⟨_, call_tuple_of, a, vs, rfl, ?_⟩
    rw [xo.K]
    rcases h2 with h2 | ⟨h2, e2⟩
    · exact .inl ⟨h2, aft_tup R h3 q⟩
    · subst e2
      exact .inr ⟨h2, q.ok_ R tx⟩

/-! ### dict(pairs) -/
theorem any_keys {k : D} (hk : D.atom k = true) : ∀ {l : List (D × D)} {kvs : List (Key × V)}, kvs.map (fun q => keyD q.1) = l.map (·.1) → (kvs.any fun kv => decide (kv.1 = keyOf k)) = l.any fun p => D.beq p.1 k
  | [], kvs, h1 => by
    cases kvs with
    | cons _ _ => cases h1
    | nil => rfl
  | (a, x) :: l, kvs, h1 => by
    cases kvs with
    | nil => cases h1
    | cons q kvs =>
      rw [List.map_cons, List.map_cons] at h1
      obtain ⟨e1, e2⟩ := List.cons.inj h1
      rw [List.any_cons, List.any_cons, any_keys hk e2]
      congr 1
      rw [Bool.eq_iff_iff, decide_eq_true_eq, D.beq_eq]
      dsimp only at e1 ⊢
      rw [← e1]
      exact ⟨fun z => by rw [z, keyD_keyOf hk], fun z => by rw [← z, keyOf_keyD]⟩
theorem DRp.append {F : Fh} {ρ : List Addr} : ∀ {l r : List (D × D)} {vs ws : List V}, DRp G F ρ l vs → DRp G F ρ r ws → DRp G F ρ (l ++ r) (vs ++ ws)
  | [], r, vs, ws, h, h' => by simp only [DRp] at h; subst h; exact h'
  | (a, x) :: l, r, vs, ws, h, h' => by
    simp only [DRp] at h
    obtain ⟨v, u, rfl, h1, h2⟩ := h
    simp only [List.cons_append, DRp]
    exact ⟨v, _, rfl, h1, h2.append h'⟩
theorem map_keys {k v : D} (hk : D.atom k = true) {F : Fh} {ρ : List Addr} {w : V} (tv : DR G F ρ v w) : ∀ {l : List (D × D)} {kvs : List (Key × V)}, kvs.map (fun q => keyD q.1) = l.map (·.1) → DRp G F ρ l (kvs.map (·.2)) →
    (kvs.map fun kv => if kv.1 = keyOf k then (kv.1, w) else kv).map (fun q => keyD q.1) = (l.map fun p => if D.beq p.1 k then (p.1, v) else p).map (·.1) ∧
    DRp G F ρ (l.map fun p => if D.beq p.1 k then (p.1, v) else p) ((kvs.map fun kv => if kv.1 = keyOf k then (kv.1, w) else kv).map (·.2))
  | [], kvs, h1, _ => by
    cases kvs with
    | cons _ _ => cases h1
    | nil => exact ⟨rfl, by simp only [List.map_nil, DRp]⟩
  | (a, x) :: l, kvs, h1, h2 => by
    cases kvs with
    | nil => cases h1
    | cons q kvs =>
      obtain ⟨k', y⟩ := q
      rw [List.map_cons, List.map_cons] at h1
      obtain ⟨e1, e2⟩ := List.cons.inj h1
      simp only [DRp, List.map_cons] at h2
      obtain ⟨v', r, e3, h3, h4⟩ := h2
      obtain ⟨e4, e5⟩ := List.cons.inj e3
      subst e4 e5
      dsimp only at e1
      obtain ⟨g1, g2⟩ := map_keys hk tv e2 h4
      have hiff : D.beq a k = true ↔ k' = keyOf k := by
        rw [D.beq_eq, ← e1]
        exact ⟨fun z => by rw [← z, keyOf_keyD], fun z => by rw [z, keyD_keyOf hk]⟩
      simp only [List.map_cons]
      by_cases hb : D.beq a k = true
      · rw [if_pos hb, if_pos (hiff.mp hb)]
        simp only [DRp]
        exact ⟨by rw [g1, e1], w, _, rfl, tv, g2⟩
      · rw [if_neg hb, if_neg (fun z => hb (hiff.mpr z))]
        simp only [DRp]
        exact ⟨by rw [g1, e1], y, _, rfl, h3, g2⟩
theorem kput_keys {k v : D} (hk : D.atom k = true) {F : Fh} {ρ : List Addr} {w : V} (tv : DR G F ρ v w) {l : List (D × D)} {kvs : List (Key × V)} (h1 : kvs.map (fun q => keyD q.1) = l.map (·.1)) (h2 : DRp G F ρ l (kvs.map (·.2))) :
    (putK kvs (keyOf k) w).map (fun q => keyD q.1) = (kput k v l).map (·.1) ∧ DRp G F ρ (kput k v l) ((putK kvs (keyOf k) w).map (·.2)) := by
  unfold putK kput
  rw [any_keys hk h1]
  split
  · exact map_keys hk tv h1 h2
  · refine ⟨?_, ?_⟩
    · rw [List.map_append, List.map_append, h1]
      simp [keyD_keyOf hk]
    · rw [List.map_append]
      exact h2.append (by simp only [List.map_cons, List.map_nil, DRp]; exact ⟨w, [], rfl, tv, rfl⟩)
theorem kputs_keys {F : Fh} {ρ : List Addr} : ∀ {r : List (D × D)} {kr : List (Key × V)} {l : List (D × D)} {kvs : List (Key × V)}, (∀ p ∈ r, D.atom p.1 = true) → kr.map (fun q => keyD q.1) = r.map (·.1) → DRp G F ρ r (kr.map (·.2)) →
    kvs.map (fun q => keyD q.1) = l.map (·.1) → DRp G F ρ l (kvs.map (·.2)) → (mergeK kvs kr).map (fun q => keyD q.1) = (kputs l r).map (·.1) ∧ DRp G F ρ (kputs l r) ((mergeK kvs kr).map (·.2))
  | [], kr, l, kvs, _, h1, _, h3, h4 => by
    cases kr with
    | nil => exact ⟨h3, h4⟩
    | cons _ _ => cases h1
  | (a, x) :: r, kr, l, kvs, ha, h1, h2, h3, h4 => by
    cases kr with
    | nil => cases h1
    | cons q kr =>
      obtain ⟨k', y⟩ := q
      rw [List.map_cons, List.map_cons] at h1
      obtain ⟨e1, e2⟩ := List.cons.inj h1
      simp only [DRp, List.map_cons] at h2
      obtain ⟨v', s, e3, g1, g2⟩ := h2
      obtain ⟨e4, e5⟩ := List.cons.inj e3
      subst e4 e5
      dsimp only at e1
      have hk : D.atom a = true := ha _ List.mem_cons_self
      have ek : k' = keyOf a := by rw [← e1, keyOf_keyD]
      obtain ⟨p1, p2⟩ := kput_keys hk g1 h3 h4
      have := kputs_keys (l := kput a x l) (kvs := putK kvs (keyOf a) y) (fun p hp => ha p (List.mem_cons_of_mem _ hp)) e2 g2 p1 p2
      show (mergeK (putK kvs k' y) kr).map _ = _ ∧ _
      rw [ek]
      exact this
theorem pairs_of (xo : XO G X) {F : Fh} {ρ : List Addr} {h : Hv} {H : L2.Hp} (R : Rel G Bs F ρ h H) : ∀ {l : List D} {ps : List (D × D)} {vs : List V}, pairs? l = some ps → DRs G F ρ l vs → (∀ p ∈ ps, D.atom p.1 = true) →
    ∃ (as : List Addr) (kvs : List (Key × V)), vs = as.map V.ref ∧ Paired (fun p kv => SqT X.K H p [kV kv.1, kv.2]) as kvs ∧ kvs.map (fun q => keyD q.1) = ps.map (·.1) ∧ DRp G F ρ ps (kvs.map (·.2))
  | [], ps, vs, e, t, _ => by
    cases e
    rw [drs_nil] at t
    subst t
    exact ⟨[], [], rfl, .nil, rfl, by simp only [List.map_nil, DRp]⟩
  | d :: l, ps, vs, e, t, ha => by
    simp only [DRs] at t
    obtain ⟨v, r, rfl, t1, t2⟩ := t
    unfold pairs? at e
    split at e
    · cases ‹d :: l = []›
    · rename_i a b l' e1
      obtain ⟨rfl, rfl⟩ := List.cons.inj e1
      obtain ⟨ps', e2, rfl⟩ := Option.map_eq_some_iff.mp e
      obtain ⟨p, vs', rfl, s, t3⟩ := R.tupOf t1
      simp only [DRs] at t3
      obtain ⟨x, _, rfl, t4, y, _, rfl, t5, rfl⟩ := t3
      have hk : D.atom a = true := ha _ List.mem_cons_self
      obtain ⟨as, kvs, g1, g2, g3, g4⟩ := pairs_of xo R e2 t2 (fun p hp => ha p (List.mem_cons_of_mem _ hp))
      refine ⟨p :: as, (keyOf a, y) :: kvs, by rw [g1] <;> rfl, .cons ?_ g2, ?_, ?_⟩
      · rw [xo.K, ← kV_keyOf hk t4]; exact s
      · rw [List.map_cons, List.map_cons, g3, keyD_keyOf hk]
      · simp only [List.map_cons, DRp]
        exact ⟨y, _, rfl, t5, g4⟩
    · cases e
/-- a new cell -/
theorem aft_cell {F : Fh} {ρ : List Addr} {h : Hv} {H : L2.Hp} {σ : L2.St} {o : Ob} {u : HO} {Q : VK} (R : Rel G Bs F ρ h H) (q : Aft G Bs W σ (DR G) F ρ (.ok (.ref h.length) (h ++ [o])) Q)
    (new : ∀ p, H p = none → ObR G F (ρ ++ [p]) (L2.upd H p u) p o) : ∀ p, H p = none → Q (.ref p) (L2.upd H p u) := fun p hp => by
  refine q F (ρ ++ [p]) _ _ Ext.snoc (R.cellNew hp (fun b v z => by rw [upd_ne (ne_of_none z hp)]; exact z) (new p hp)) ?_
  simp only [DR]
  exact ⟨p, rfl, by rw [← R.len]; simp⟩
theorem b_dict (xo : XO G X) (m : Bool) : BuS G Bs W (dictD m) (cAny X (.type "dict")) := by
  intro F ρ h H σ x v Q R tx q
  unfold dictD at q
  cases e : PI.lstOf h x with
  | none => rw [e] at q; exact q.elim
  | some l =>
    simp only [e] at q
    cases e1 : pairs? l with
    | none => rw [e1] at q; exact q.elim
    | some ps =>
      simp only [e1] at q
      split at q
      · rename_i hm
        rw [Bool.and_eq_true, List.all_eq_true] at hm
        obtain ⟨a, vs, rfl, h2, h3⟩ := R.lstOf tx e
        obtain ⟨as, kvs, g1, g2, g3, g4⟩ := pairs_of xo R e1 h3 hm.2
        subst g1
        refine ⟨_, call_dictP xo.calm, a, as, kvs, rfl, by rw [xo.K]; exact h2, g2, ?_⟩
        obtain ⟨p1, p2⟩ := kputs_keys (l := []) (kvs := []) hm.2 g3 g4 rfl (by simp only [List.map_nil, DRp])
        simp only [mkD, if_true] at q
        exact aft_cell R q fun p hp => ⟨_, upd_same, p1, p2.mono Ext.snoc⟩
      · exact q.elim

/-! ### sorted(dict) -/
theorem strs_of {F : Fh} {ρ : List Addr} : ∀ {l : List D} {ss : List (List Nat)}, strs? l = some ss → l = ss.map D.str
  | [], ss, e => by cases e; rfl
  | d :: l, ss, e => by
    unfold strs? at e
    split at e
    · cases ‹d :: l = []›
    · rename_i s l' e1
      obtain ⟨rfl, rfl⟩ := List.cons.inj e1
      obtain ⟨ss', e2, rfl⟩ := Option.map_eq_some_iff.mp e
      rw [strs_of (F := F) (ρ := ρ) e2] <;> rfl
    · cases e
theorem drs_strs {F : Fh} {ρ : List Addr} : ∀ {ss : List (List Nat)} {vs : List V}, DRs G F ρ (ss.map D.str) vs ↔ vs = (ss.map fun s => (⟨s.toArray⟩ : Str)).map V.str
  | [], vs => by simp [DRs]
  | s :: ss, vs => by
    cases vs with
    | nil => simp [DRs]
    | cons v vs =>
      rw [List.map_cons, drs_cons, drs_strs, dr_str]
      simp
theorem ltTx_cps : ∀ a b : List Nat, ltTx a b = ltCps a b
  | [], [] => rfl
  | [], _ :: _ => rfl
  | _ :: _, [] => rfl
  | a :: l, b :: r => by
    simp only [ltTx, ltCps]
    rw [ltTx_cps l r]
    by_cases h1 : a < b
    · simp [h1]
    · by_cases h2 : b < a
      · simp [h1, h2, Nat.ne_of_gt h2]
      · have : a = b := by omega
        simp [this]
def leTx (a b : List Nat) : Prop := ltTx b a = false
theorem leTx_total : ∀ (a b : List Nat), ltTx a b = true → leTx a b
  | [], [], h => by cases h
  | [], _ :: _, _ => rfl
  | _ :: _, [], h => by cases h
  | a :: l, b :: r, h => by
    unfold leTx
    simp only [ltTx] at h ⊢
    by_cases h1 : a < b
    · simp [h1, Nat.not_lt.mpr (Nat.le_of_lt h1)]
    · simp only [h1, if_false] at h ⊢
      by_cases h2 : b < a
      · simp [h2] at h
      · simp only [h2, if_false] at h ⊢
        exact leTx_total l r h
theorem leTx_trans : ∀ (a b c : List Nat), leTx a b → leTx b c → leTx a c
  | a, b, [], h1, h2 => by
    cases b with
    | nil => cases a <;> simp_all [leTx, ltTx]
    | cons _ _ => simp [leTx, ltTx] at h2
  | [], b, _ :: _, h1, h2 => by simp [leTx, ltTx]
  | x :: a, [], z :: c, h1, h2 => by simp [leTx, ltTx] at h1
  | x :: a, y :: b, z :: c, h1, h2 => by
    unfold leTx at *
    simp only [ltTx] at *
    by_cases e1 : y < x
    · simp [e1] at h1
    · by_cases e2 : z < y
      · simp [e2] at h2
      · simp only [e1, e2, if_false] at h1 h2
        have e3 : ¬ z < x := by omega
        simp only [e3, if_false]
        by_cases e4 : x < z
        · simp [e4]
        · have e5 : x = y := by omega
          have e6 : y = z := by omega
          subst e5 e6
          simp only [Nat.lt_irrefl, if_false] at h1 h2 ⊢
          exact leTx_trans a b c h1 h2
theorem leTx_anti : ∀ (a b : List Nat), leTx a b → leTx b a → a = b
  | [], [], _, _ => rfl
  | [], _ :: _, _, h => by simp [leTx, ltTx] at h
  | _ :: _, [], h, _ => by simp [leTx, ltTx] at h
  | x :: a, y :: b, h1, h2 => by
    unfold leTx at *
    simp only [ltTx] at *
    by_cases e1 : y < x
    · simp [e1] at h1
    · by_cases e2 : x < y
      · simp [e2] at h2
      · simp only [e1, e2, if_false] at h1 h2
        have : x = y := by omega
        subst this
        rw [leTx_anti a b h1 h2]
theorem insTx_perm (x : List Nat) : ∀ l, (insTx x l).Perm (x :: l)
  | [] => .refl _
  | a :: l => by
    unfold insTx
    split
    · exact ((insTx_perm x l).cons a).trans (.swap x a l)
    · exact .refl _
theorem sortTx_perm : ∀ l, (sortTx l).Perm l
  | [] => .refl _
  | x :: l => (insTx_perm x _).trans ((sortTx_perm l).cons x)
theorem insTx_sorted (x : List Nat) : ∀ l, l.Pairwise leTx → (insTx x l).Pairwise leTx
  | [], _ => by simp [insTx]
  | a :: l, h => by
    rw [List.pairwise_cons] at h
    unfold insTx
    split
    · rename_i hl
      rw [List.pairwise_cons]
      refine ⟨fun b hb => ?_, insTx_sorted x l h.2⟩
      rcases List.mem_cons.mp ((insTx_perm x l).mem_iff.mp hb) with rfl | hb
      · exact leTx_total _ _ hl
      · exact h.1 b hb
    · rename_i hl
      have hxa : leTx x a := by simpa [leTx] using hl
      rw [List.pairwise_cons]
      refine ⟨fun b hb => ?_, List.pairwise_cons.mpr h⟩
      rcases (List.mem_cons.mp hb) with rfl | hb
      · exact hxa
      · exact leTx_trans _ _ _ hxa (h.1 b hb)
theorem sortTx_sorted : ∀ l, (sortTx l).Pairwise leTx
  | [] => .nil
  | x :: l => insTx_sorted x _ (sortTx_sorted l)
theorem risingS_pairwise : ∀ (p : List Nat) (l : List (List Nat)), risingS ⟨p.toArray⟩ (l.map fun s => ⟨s.toArray⟩) = true → (p :: l).Pairwise leTx
  | p, [], _ => by simp
  | p, x :: l, h => by
    simp only [List.map_cons, risingS, Bool.and_eq_true, Bool.not_eq_true'] at h
    have h1 : leTx p x := by unfold leTx; rw [ltTx_cps]; exact h.1
    have h2 := risingS_pairwise x l h.2
    rw [List.pairwise_cons]
    refine ⟨fun b hb => ?_, h2⟩
    rcases (List.mem_cons.mp hb) with rfl | hb
    · exact h1
    · exact leTx_trans _ _ _ h1 ((List.pairwise_cons.mp h2).1 b hb)
theorem sortedS_unique {ss : List (List Nat)} {ys : List Str} (hp : ys.Perm (ss.map fun s => ⟨s.toArray⟩)) (hs : sortedS ys = true) : ys = (sortTx ss).map fun s => ⟨s.toArray⟩ := by
  have e : ys = (ys.map fun y => y.cps.toList).map fun s => (⟨s.toArray⟩ : Str) := by
    rw [List.map_map]
    exact (List.map_id ys).symm.trans (List.map_congr_left fun y _ => by cases y; simp)
  have hp2 : (ys.map fun y => y.cps.toList).Perm ss := by
    have := hp.map fun y : Str => y.cps.toList
    rw [List.map_map] at this
    have e2 : ss.map ((fun y : Str => y.cps.toList) ∘ fun s => (⟨s.toArray⟩ : Str)) = ss := (List.map_congr_left fun s _ => by simp).trans (List.map_id ss)
    rw [e2] at this
    exact this
  have hs2 : (ys.map fun y => y.cps.toList).Pairwise leTx := by
    rw [e] at hs
    cases q : ys.map fun y => y.cps.toList with
    | nil => exact .nil
    | cons x r =>
      rw [q] at hs
      exact risingS_pairwise x r hs
  have := List.Perm.eq_of_pairwise (le := leTx) (fun a b _ _ h1 h2 => leTx_anti a b h1 h2) hs2 (sortTx_sorted ss) (hp2.trans (sortTx_perm ss).symm)
  rw [e, this]
theorem b_sorted (xo : XO G X) (m : Bool) : BuS G Bs W (sortedD m) (cAny X (.builtin "sorted")) := by
  intro F ρ h H σ x v Q R tx q
  unfold sortedD at q
  cases e : PI.dicOf h x with
  | none => rw [e] at q; exact q.elim
  | some l =>
    simp only [e] at q
    cases l with
    | nil => exact q.elim
    | cons p r =>
      simp only at q
      cases e1 : strs? ((p :: r).map (·.1)) with
      | none => rw [e1] at q; exact q.elim
      | some ss =>
        simp only [e1] at q
        split at q
        · rename_i hb
          have es := strs_of (F := F) (ρ := ρ) e1
          have ha : D.atom p.1 = true := by
            cases ss with
            | nil => cases es
            | cons s ss =>
              rw [List.map_cons, List.map_cons] at es
              rw [(List.cons.inj es).1] <;> rfl
          obtain ⟨a, kvs, rfl, h2, h3, h4⟩ := R.dicOf tx e ha
          have hks : kvs.map (·.1) = (ss.map fun s => (⟨s.toArray⟩ : Str)).map Sum.inr := by
            rw [es] at h3
            have := congrArg (List.map keyOf) h3
            rw [List.map_map, List.map_map] at this
            rw [List.map_map]
            refine Eq.trans ?_ (this.trans ?_)
            · exact List.map_congr_left fun q _ => (keyOf_keyD).symm
            · exact List.map_congr_left fun s _ => rfl
          refine ⟨_, call_sortedD xo.calm, a, kvs, ss.map fun s => (⟨s.toArray⟩ : Str), rfl, h2, hks, by rw [List.length_map]; exact Nat.lt_of_succ_le (Nat.le_of_ble_eq_true hb), fun ys p' hp hs hn => ?_⟩
          rw [sortedS_unique hp hs]
          exact aft_mkL R (drs_strs.mpr rfl) q p' hn
        · exact q.elim

/-! ### min, sum of a dict's values -/
theorem ints_of : ∀ {l : List D} {is : List Int}, ints? l = some is → l = is.map D.int
  | [], is, e => by cases e; rfl
  | d :: l, is, e => by
    unfold ints? at e
    split at e
    · cases ‹d :: l = []›
    · rename_i s l' e1
      obtain ⟨rfl, rfl⟩ := List.cons.inj e1
      obtain ⟨ss', e2, rfl⟩ := Option.map_eq_some_iff.mp e
      rw [ints_of e2] <;> rfl
    · cases e
theorem drp_ints {F : Fh} {ρ : List Addr} : ∀ {l : List (D × D)} {is : List Int} {vs : List V}, l.map (·.2) = is.map D.int → DRp G F ρ l vs → vs = is.map V.int
  | [], is, vs, e, t => by
    cases is with
    | nil => simp only [DRp] at t; exact t
    | cons _ _ => cases e
  | (k, d) :: l, is, vs, e, t => by
    cases is with
    | nil => cases e
    | cons i is =>
      (rw [List.map_cons, List.map_cons] at e)
      obtain ⟨e1, e2⟩ := List.cons.inj e
      simp only [DRp] at t
      obtain ⟨v, r, rfl, t1, t2⟩ := t
      dsimp only at e1
      subst e1
      rw [drp_ints e2 t2, dr_int.mp t1] <;> rfl
theorem dvals_of {F : Fh} {ρ : List Addr} {h : Hv} {H : L2.Hp} (R : Rel G Bs F ρ h H) {x : D} {v : V} {is : List Int} (tx : DR G F ρ x v) (e : dvals h x = some is) : ∃ a, ∃ kvs : List (Key × V), v = .ref a ∧ H a = some (.dK kvs) ∧ kvs.map (·.2) = is.map V.int := by
  unfold dvals at e
  split at e
  · rename_i i
    split at e
    · rename_i l eo
      obtain ⟨a, rfl, _, kvs, h2, h3, h4⟩ := R.refOf tx eo rfl
      exact ⟨a, kvs, rfl, h2, drp_ints (ints_of e) h4⟩
    · cases e
  · cases e
theorem minI_le : ∀ (a : Int) (l : List Int), (minI a l = a ∨ minI a l ∈ l) ∧ (minI a l ≤ a ∧ ∀ b ∈ l, minI a l ≤ b)
  | a, [] => by simp [minI]
  | a, b :: l => by
    unfold minI
    split
    · rename_i hb
      obtain ⟨h1, h2, h3⟩ := minI_le b l
      refine ⟨.inr ?_, by omega, fun c hc => ?_⟩
      · rcases h1 with h1 | h1
        · rw [h1]; exact List.mem_cons_self
        · exact List.mem_cons_of_mem _ h1
      · rcases (List.mem_cons.mp hc) with rfl | hc
        · exact h2
        · exact h3 c hc
    · rename_i hb
      obtain ⟨h1, h2, h3⟩ := minI_le a l
      refine ⟨?_, h2, fun c hc => ?_⟩
      · rcases h1 with h1 | h1
        · exact .inl h1
        · exact .inr (List.mem_cons_of_mem _ h1)
      · rcases (List.mem_cons.mp hc) with rfl | hc
        · omega
        · exact h3 c hc
end
end PI

/-! SF: the interpreter's expressions, node by node: names, operators, displays, places, built-ins. -/
set_option linter.all false
set_option maxRecDepth 100000
namespace PI
open PySem PySem.Spec L2 PyProof.Rows

theorem evs_length (c : Cc) (σ : Sl) : ∀ {es : List E} {h : Hv} {xs : List D} {h' : Hv}, evs c σ es h = .ok xs h' → xs.length = es.length
  | [], h, xs, h', e => by simp only [evs] at e; cases e; rfl
  | a :: es, h, xs, h', e => by
    simp only [evs] at e
    cases q : ev c σ a h with
    | ok d h1 =>
      rw [q] at e
      simp only [Res.bind] at e
      cases q2 : evs c σ es h1 with
      | ok ys h2 =>
        rw [q2] at e
        simp only [Res.bind] at e
        cases e
        rw [List.length_cons, List.length_cons, evs_length c σ q2]
      | ex _ _ => rw [q2] at e; simp only [Res.bind] at e; cases e
      | no _ => rw [q2] at e; simp only [Res.bind] at e; cases e
    | ex _ _ => rw [q] at e; simp only [Res.bind] at e; cases e
    | no _ => rw [q] at e; simp only [Res.bind] at e; cases e

section
variable (G : GT) (Bs : List Nat) (W : WX) (X : Cx) (c : Cc)
/-- the text's expression is what the interpreter's e tells; argument lists; tests; and, or -/
abbrev NE (a : Expr) (e : E) : Prop := PE X a (tEv G Bs W fun τ h => ev c τ e h)
abbrev NA (as : List Expr) (es : List E) : Prop := PA X as (tEvs G Bs W fun τ h => evs c τ es h)
abbrev NT (a : Expr) (e : E) : Prop := PT X a (tEvB G Bs W fun τ h => asB (ev c τ e h))
abbrev NAnd (as : List Expr) (pos : Pos) (es : List E) : Prop := PE X (.BoolOp .And as pos) (tEv G Bs W fun τ h => evAnd c τ es h)
abbrev NOr (as : List Expr) (pos : Pos) (es : List E) : Prop := PE X (.BoolOp .Or as pos) (tEv G Bs W fun τ h => evOr c τ es h)
abbrev TAnd (as : List Expr) (pos : Pos) (es : List E) : Prop := PW X (.BoolOp .And as pos) (tEvB G Bs W fun τ h => asB (evAnd c τ es h))
abbrev TOr (as : List Expr) (pos : Pos) (es : List E) : Prop := PW X (.BoolOp .Or as pos) (tEvB G Bs W fun τ h => asB (evOr c τ es h))
end
section
variable {G : GT} {Bs : List Nat} {W : WX} {X : Cx} {c : Cc} {a b d : Expr} {e ea eb ed : E} {pos : Pos} {as : List Expr} {es : List E}
theorem n_var {i : Nat} {x : Str} (hN : X.N[i]? = some x) (hv : Vis X.env.scope x) (hd : (x == ("__debug__" : Str)) = false := by decide) (hcd : (x == ("__classdict__" : Str)) = false := by decide) : NE G Bs W X c (.Name x pos) (.var i) := by
  have := se_var (G := G) (Bs := Bs) (W := W) (pos := pos) hN hv hd hcd
  unfold NE
  simp only [ev]
  exact this
theorem n_cst {dd : D} {x : Expr} (h : SE G Bs W X x (fun _ h => .ok dd h)) : NE G Bs W X c x (.cst dd) := by
  unfold NE
  simp only [ev]
  exact h
theorem n_int {i : Int} {j : Nat} : NE G Bs W X c (.Constant (.int i) j pos) (.cst (.int i)) := n_cst se_int
theorem n_bl {i : Bool} {j : Nat} : NE G Bs W X c (.Constant (.bool i) j pos) (.cst (.bl i)) := n_cst se_bl
theorem n_non {j : Nat} : NE G Bs W X c (.Constant .none j pos) (.cst .non) := n_cst se_non
theorem n_str {s : List Nat} {z : Str} {j : Nat} (hz : z = ⟨s.toArray⟩) : NE G Bs W X c (.Constant (.str z) j pos) (.cst (.str s)) := by subst hz; exact n_cst se_str
theorem n_gint {x : Str} {i : Int} {k : Nat} (hg : Gl X x) (hm : ∃ t : Tok, X.mg x = some (.int i t)) (hd : (x == ("__debug__" : Str)) = false := by decide) : NE G Bs W X c (.Name x pos) (.gcn k (.int i)) := by
  unfold NE
  simp only [ev]
  obtain ⟨t, hm⟩ := hm
  exact se_glob (v := .int i) hg hm ⟨t, rfl⟩ (fun _ _ => dr_int.mpr rfl) hd
theorem n_op {o : BO} {m : Bool} {op : Operator} (hs : OpS G Bs W (opB o m) (rAny X (binaryOp op))) (ha : NE G Bs W X c a ea) (hb : NE G Bs W X c b eb) : NE G Bs W X c (.BinOp a op b pos) (.bin o m ea eb) := by
  have := se_op (pos := pos) op_any hs ha hb
  unfold NE
  simp only [ev]
  exact this
theorem n_add (xo : XO G X) {m : Bool} (ha : NE G Bs W X c a ea) (hb : NE G Bs W X c b eb) : NE G Bs W X c (.BinOp a .Add b pos) (.bin .add m ea eb) := n_op (s_add xo m) ha hb
theorem n_sub {m : Bool} (ha : NE G Bs W X c a ea) (hb : NE G Bs W X c b eb) : NE G Bs W X c (.BinOp a .Sub b pos) (.bin .sub m ea eb) := n_op (s_sub m) ha hb
theorem n_mul {m : Bool} (ha : NE G Bs W X c a ea) (hb : NE G Bs W X c b eb) : NE G Bs W X c (.BinOp a .Mult b pos) (.bin .mul m ea eb) := n_op (s_mul m) ha hb
theorem n_fdiv {m : Bool} (ha : NE G Bs W X c a ea) (hb : NE G Bs W X c b eb) : NE G Bs W X c (.BinOp a .FloorDiv b pos) (.bin .fdiv m ea eb) := n_op (s_fdiv m) ha hb
theorem n_mod {m : Bool} (ha : NE G Bs W X c a ea) (hb : NE G Bs W X c b eb) : NE G Bs W X c (.BinOp a .Mod b pos) (.bin .mod m ea eb) := n_op (s_mod m) ha hb
theorem n_pow {m : Bool} (ha : NE G Bs W X c a ea) (hb : NE G Bs W X c b eb) : NE G Bs W X c (.BinOp a .Pow b pos) (.bin .pow m ea eb) := n_op (s_pow m) ha hb
theorem n_neg (ha : NE G Bs W X c a ea) : NE G Bs W X c (.UnaryOp .USub a pos) (.neg ea) := by
  have := se_neg (pos := pos) ha
  unfold NE
  simp only [ev]
  exact this
theorem n_not (ha : NE G Bs W X c a ea) : NE G Bs W X c (.UnaryOp .Not a pos) (.not ea) := by
  have := se_not (pos := pos) ha
  unfold NE
  simp only [ev]
  exact this
/-- which comparison -/
inductive CmpOf : CO → CmpOp → Prop
  | eq : CmpOf .eq .Eq
  | ne : CmpOf .ne .NotEq
  | lt : CmpOf .lt .Lt
  | le : CmpOf .le .LtE
  | gt : CmpOf .gt .Gt
  | ge : CmpOf .ge .GtE
  | is : CmpOf .is .Is
  | isnot : CmpOf .isnot .IsNot
  | isin : CmpOf .isin .In
  | notin : CmpOf .notin .NotIn
theorem CmpOf.s {o : CO} {op : CmpOp} (xo : XO G X) (k : CmpOf o op) : OpS G Bs W (fun x y h => opC o x y h) (rAny X (compareOp op)) := by
  cases k
  · exact s_eq xo
  · exact s_ne xo
  · exact s_lt
  · exact s_le
  · exact s_gt
  · exact s_ge
  · exact s_is
  · exact s_isnot
  · exact s_in xo
  · exact s_notin xo
theorem n_cmp {o : CO} {op : CmpOp} (xo : XO G X) (k : CmpOf o op) (ha : NE G Bs W X c a ea) (hb : NE G Bs W X c b eb) (hm : behindInMarks op b = false := by rfl) : NE G Bs W X c (.Compare a [op] [b] pos) (.cmp o ea eb) := by
  have := se_cmp (pos := pos) op_any (k.s xo) ha hb hm
  unfold NE
  simp only [ev]
  exact this
theorem t_cmp {o : CO} {op : CmpOp} (xo : XO G X) (k : CmpOf o op) (ha : NE G Bs W X c a ea) (hb : NE G Bs W X c b eb) (hm : behindInMarks op b = false := by rfl) : NT G Bs W X c (.Compare a [op] [b] pos) (.cmp o ea eb) := by
  have := st_cmp (pos := pos) op_any (k.s xo) ha hb hm
  unfold NT
  simp only [ev]
  exact this
theorem n_chn {o o' : CO} {op op' : CmpOp} (xo : XO G X) (k : CmpOf o op) (k' : CmpOf o' op') (ha : NE G Bs W X c a ea) (hb : NE G Bs W X c b eb) (hd : NE G Bs W X c d ed) (hm : lastMarks [op, op'] [b, d] = false := by with_unfolding_all rfl) :
    NE G Bs W X c (.Compare a [op, op'] [b, d] pos) (.chn o o' ea eb ed) := by
  have := se_chain (pos := pos) op_any op_any (k.s xo) (k'.s xo) ha hb hd hm
  unfold NE
  simp only [ev]
  exact this
theorem t_chn {o o' : CO} {op op' : CmpOp} (xo : XO G X) (k : CmpOf o op) (k' : CmpOf o' op') (ha : NE G Bs W X c a ea) (hb : NE G Bs W X c b eb) (hd : NE G Bs W X c d ed) (hm : lastMarks [op, op'] [b, d] = false := by with_unfolding_all rfl) :
    NT G Bs W X c (.Compare a [op, op'] [b, d] pos) (.chn o o' ea eb ed) := by
  have := st_chain (pos := pos) op_any op_any (k.s xo) (k'.s xo) ha hb hd hm
  unfold NT
  simp only [ev]
  exact this
/-- a value as a test -/
theorem t_val (he : NE G Bs W X c a e) (ht : ∀ whole, isTrue a X.env whole = (do let v ← whole; standAt a.pos; holding [v] (truthy v)) := by intro _; rfl) : NT G Bs W X c a e := st_val he ht
theorem asB_not {r : Res D} : asB ((asB r).bind fun b h1 => .ok (.bl !b) h1) = (asB r).bind fun b h1 => .ok (!b) h1 := by
  cases r with
  | ok d h => cases d <;> rfl
  | ex _ _ => rfl
  | no _ => rfl
theorem t_not (ha : NT G Bs W X c a ea) : NT G Bs W X c (.UnaryOp .Not a pos) (.not ea) := by
  have := st_not (pos := pos) ha
  unfold NT
  simp only [ev, asB_not]
  exact this
theorem n_ife (hc : NT G Bs W X c d ed) (ha : NE G Bs W X c a ea) (hb : NE G Bs W X c b eb) : NE G Bs W X c (.IfExp d a b pos) (.ife ed ea eb) := by
  have := se_ife (pos := pos) hc ha hb
  unfold NE
  simp only [ev]
  exact this
/-! and, or -/
theorem bl_if {r : Res Bool} : (r.bind fun b h1 => if b then Res.ok (D.bl true) h1 else .ok (.bl false) h1) = r.bind fun b h1 => .ok (.bl b) h1 := by
  cases r with
  | ok b h => cases b <;> rfl
  | ex _ _ => rfl
  | no _ => rfl
theorem n_and1 (ha : NE G Bs W X c a ea) : NAnd G Bs W X c [a] pos [ea] := by
  have := se_one (pos := pos) (op := .And) ha
  unfold NAnd
  simp only [evAnd, bl_if]
  exact this
theorem n_or1 (ha : NE G Bs W X c a ea) : NOr G Bs W X c [a] pos [ea] := by
  have := se_one (pos := pos) (op := .Or) ha
  unfold NOr
  simp only [evOr, bl_if]
  exact this
theorem n_andC (ha : NE G Bs W X c a ea) (hr : NAnd G Bs W X c (b :: as) pos (eb :: es)) : NAnd G Bs W X c (a :: b :: as) pos (ea :: eb :: es) := by
  have := se_and (pos := pos) ha hr
  unfold NAnd at *
  rw [show (fun τ h => evAnd c τ (ea :: eb :: es) h) = fun τ h => (asB (ev c τ ea h)).bind fun k h1 => if k then evAnd c τ (eb :: es) h1 else .ok (.bl false) h1 from by funext τ h; rw [evAnd]]
  exact this
theorem n_orC (ha : NE G Bs W X c a ea) (hr : NOr G Bs W X c (b :: as) pos (eb :: es)) : NOr G Bs W X c (a :: b :: as) pos (ea :: eb :: es) := by
  have := se_or (pos := pos) ha hr
  unfold NOr at *
  rw [show (fun τ h => evOr c τ (ea :: eb :: es) h) = fun τ h => (asB (ev c τ ea h)).bind fun k h1 => if k then .ok (.bl true) h1 else evOr c τ (eb :: es) h1 from by funext τ h; rw [evOr]]
  exact this
theorem n_and (h : NAnd G Bs W X c as pos es) : NE G Bs W X c (.BoolOp .And as pos) (.and es) := by
  unfold NE
  simp only [ev]
  exact h
theorem n_or (h : NOr G Bs W X c as pos es) : NE G Bs W X c (.BoolOp .Or as pos) (.or es) := by
  unfold NE
  simp only [ev]
  exact h
theorem asB_if1 {r : Res Bool} : asB (r.bind fun b h1 => if b then Res.ok (D.bl true) h1 else .ok (.bl false) h1) = r.bind fun b h1 => .ok b h1 := by
  cases r with
  | ok b h => cases b <;> rfl
  | ex _ _ => rfl
  | no _ => rfl
theorem asB_if {r : Res Bool} {k : Hv → Res D} : asB (r.bind fun b h1 => if b then k h1 else .ok (.bl false) h1) = r.bind fun b h1 => if b then asB (k h1) else .ok false h1 := by
  cases r with
  | ok b h => cases b <;> rfl
  | ex _ _ => rfl
  | no _ => rfl
theorem asB_ifo {r : Res Bool} {k : Hv → Res D} : asB (r.bind fun b h1 => if b then .ok (.bl true) h1 else k h1) = r.bind fun b h1 => if b then .ok true h1 else asB (k h1) := by
  cases r with
  | ok b h => cases b <;> rfl
  | ex _ _ => rfl
  | no _ => rfl
theorem t_and1 (ha : NT G Bs W X c a ea) : TAnd G Bs W X c [a] pos [ea] := by
  have := sw_one (pos := pos) (op := .And) ha
  unfold TAnd
  simp only [evAnd, asB_if1]
  exact this
theorem t_or1 (ha : NT G Bs W X c a ea) : TOr G Bs W X c [a] pos [ea] := by
  have := sw_one (pos := pos) (op := .Or) ha
  unfold TOr
  simp only [evOr, asB_if1]
  exact this
theorem t_andC (ha : NT G Bs W X c a ea) (hr : TAnd G Bs W X c (b :: as) pos (eb :: es)) : TAnd G Bs W X c (a :: b :: as) pos (ea :: eb :: es) := by
  have := sw_and (pos := pos) ha hr
  unfold TAnd at *
  rw [show (fun τ h => asB (evAnd c τ (ea :: eb :: es) h)) = fun τ h => (asB (ev c τ ea h)).bind fun k h1 => if k then asB (evAnd c τ (eb :: es) h1) else .ok false h1 from by funext τ h; rw [evAnd, asB_if]]
  exact this
theorem t_orC (ha : NT G Bs W X c a ea) (hr : TOr G Bs W X c (b :: as) pos (eb :: es)) : TOr G Bs W X c (a :: b :: as) pos (ea :: eb :: es) := by
  have := sw_or (pos := pos) ha hr
  unfold TOr at *
  rw [show (fun τ h => asB (evOr c τ (ea :: eb :: es) h)) = fun τ h => (asB (ev c τ ea h)).bind fun k h1 => if k then .ok true h1 else asB (evOr c τ (eb :: es) h1) from by funext τ h; rw [evOr, asB_ifo]]
  exact this
theorem t_and (h : TAnd G Bs W X c as pos es) : NT G Bs W X c (.BoolOp .And as pos) (.and es) := by
  unfold NT
  simp only [ev]
  exact h.pt
theorem t_or (h : TOr G Bs W X c as pos es) : NT G Bs W X c (.BoolOp .Or as pos) (.or es) := by
  unfold NT
  simp only [ev]
  exact h.pt

/-! argument lists, displays -/
theorem na_nil : NA G Bs W X c [] [] := by
  have := sa_nil (G := G) (Bs := Bs) (W := W) (X := X)
  unfold NA
  simp only [evs]
  exact this
theorem na_cons (he : NE G Bs W X c a ea) (hr : NA G Bs W X c as es) (hs : starEach (a :: as) X.env = (false, eval a X.env) :: starEach as X.env := by rfl) : NA G Bs W X c (a :: as) (ea :: es) := by
  have := sa_cons he hr hs
  unfold NA at *
  simp only [evs]
  exact this
theorem n_tup {j : Nat} (he : NA G Bs W X c as es) (hn : es.length = as.length := by rfl) (hl : as.length ≤ 100000 := by decide) : NE G Bs W X c (.Tuple as j pos) (.tup es) := by
  have := se_tup (pos := pos) (j := j) he hl (fun τ h xs h' e => by rw [evs_length c τ e, hn])
  unfold NE
  simp only [ev]
  exact this
theorem n_lst {m : Bool} (he : NA G Bs W X c as es) (hn : es.length = as.length := by rfl) (hl : as.length ≤ 100000 := by decide) : NE G Bs W X c (.List as pos) (.lst m es) := by
  unfold NE
  simp only [ev]
  refine pe_imp (pe_lst he) fun σ H Q ⟨F, ρ, τ, h, R, S, q⟩ => ⟨F, ρ, τ, h, R, S, ?_⟩
  dsimp only at q ⊢
  cases e : evs c τ es h with
  | ok xs h1 =>
    rw [e] at q
    intro F' ρ' H' vs e' R' t
    exact ⟨by rw [t.length, evs_length c τ e, hn]; exact Nat.le_trans hl (by decide), aft_mkL R' t (q.mono e')⟩
  | ex c h1 =>
    rw [e] at q
    exact q
  | no w =>
    rw [e] at q
    exact q.elim

/-! places, slices -/
theorem n_idx (xo : XO G X) (ha : NE G Bs W X c a ea) (hb : NE G Bs W X c b eb) (hs : PlainIx b := by intro _ _; rfl) : NE G Bs W X c (.Subscript a b pos) (.idx ea eb) := by
  unfold NE
  simp only [ev]
  exact pe_imp (pe_ix ix_any ha hb hs) fun _ _ _ q => sim2 (s_idx xo) q
/-- a field -/
theorem fr_lookup {F : Fh} {ρ : List Addr} {f : Nat} : ∀ {fs : List (Nat × D)} {gs : List (Str × V)} {dd : D}, FRs G F ρ fs gs → fget f fs = some dd → ∃ v, gs.lookup (G.nm f) = some v ∧ DR G F ρ dd v
  | [], _, _, _, e => by cases e
  | (g, x) :: fs, gs, dd, t, e => by
    simp only [FRs] at t
    obtain ⟨v, r, rfl, t1, t2⟩ := t
    simp only [fget] at e
    split at e
    · rename_i hg
      subst hg
      cases e
      exact ⟨v, by simp [List.lookup], t1⟩
    · rename_i hg
      obtain ⟨w, h1, h2⟩ := fr_lookup t2 e
      refine ⟨w, ?_, h2⟩
      have hne : (G.nm f == G.nm g) = false := by
        rw [beq_eq_false_iff_ne]
        exact fun z => hg (G.nmI f g z).symm
      simp only [List.lookup, hne]
      exact h1
/-- the classes' fields -/
structure AttOk (G : GT) (f : Nat) : Prop where
  cls : ∀ k, Cls G.K (G.cls k)
  no : ∀ k, NoAttr G.K (G.cls k) (G.nm f)
theorem insOf_ref {h : Hv} {x : D} {i k : Nat} {fs : List (Nat × D)} (e : insOf h x = some (i, k, fs)) : x = .ref i ∧ h[i]? = some (.ins k fs) := by
  unfold insOf at e
  split at e
  · split at e
    · rename_i eo
      cases e
      exact ⟨rfl, eo⟩
    · cases e
  · cases e
theorem Rel.ins {F : Fh} {ρ : List Addr} {h : Hv} {H : L2.Hp} (R : Rel G Bs F ρ h H) {x : D} {v : V} {i k : Nat} {fs : List (Nat × D)} (tx : DR G F ρ x v) (e : insOf h x = some (i, k, fs)) : ∃ a dx gs, v = .ref a ∧ ρ[i]? = some a ∧ h[i]? = some (.ins k fs) ∧ H a = some (.ins (G.cls k) dx gs) ∧ FRs G F ρ fs gs := by
  obtain ⟨rfl, eo⟩ := insOf_ref e
  obtain ⟨a, rfl, h2, dx, gs, h3, h4⟩ := R.refOf tx eo rfl
  exact ⟨a, dx, gs, rfl, h2, eo, h3, h4⟩
theorem n_att {f : Nat} {x : Str} (xo : XO G X) (A : AttOk G f) (hx : G.nm f = x) (ha : NE G Bs W X c a ea) (hb : attributeBase a x X.env (eval a X.env) = eval a X.env := by rfl) : NE G Bs W X c (.Attribute a x pos) (.att ea f) := by
  unfold NE
  simp only [ev]
  refine pe_imp (pe_fld ha hb) fun σ H Q ⟨F, ρ, τ, h, R, S, q⟩ => ⟨F, ρ, τ, h, R, S, (q.bind (T1 := DR G)).imp (T' := DR G) fun v H1 ⟨F1, ρ1, dd, h1, e1, R1, t1, q1⟩ => ?_⟩
  cases e : insOf h1 dd with
  | none => rw [e] at q1; exact q1.elim
  | some p =>
    obtain ⟨i, k, fs⟩ := p
    simp only [e] at q1
    cases e2 : fget f fs with
    | none => rw [e2] at q1; exact q1.elim
    | some z =>
      rw [e2] at q1
      obtain ⟨a', dx, gs, rfl, h2, h3, h4, h5⟩ := R1.ins t1 e
      obtain ⟨w, h6, h7⟩ := fr_lookup h5 e2
      rw [← hx]
      exact ⟨a', G.cls k, dx, gs, w, rfl, h4, by rw [xo.K]; exact A.cls k, by rw [xo.K]; exact A.no k, h6, q1.ok_ R1 h7⟩

/-! built-ins -/
theorem n_bi1 {g : D → Hv → Res D} {r : List V → L2.Hp → VK → Prop} {bi : BI} {m : Bool} {f : Expr} (hs : BuS G Bs W g r) (hg : ∀ h x, biD bi m h [x] = g x h) (hp : PE X f (tCB r (tEvs G Bs W fun τ h => evs c τ [ea] h))) : NE G Bs W X c f (.bi bi m [ea]) := by
  unfold NE
  simp only [ev]
  refine pe_imp hp fun σ H Q ⟨F, ρ, τ, h, R, S, q⟩ => ⟨F, ρ, τ, h, R, S, ?_⟩
  dsimp only at q ⊢
  have k : ∀ {xs h1}, evs c τ [ea] h = .ok xs h1 → ∃ x, xs = [x] := fun {xs h1} e => by
    have := evs_length c τ e
    match xs, this with
    | [x], _ => exact ⟨x, rfl⟩
  cases e : evs c τ [ea] h with
  | ok xs h1 =>
    obtain ⟨x, rfl⟩ := k e
    rw [e] at q
    intro F' ρ' H' vs e' R' t
    simp only [DRs] at t
    obtain ⟨v, _, rfl, t, rfl⟩ := t
    refine hs F' ρ' h1 H' σ x v Q R' t ?_
    have q : Aft G Bs W σ (DR G) F ρ (biD bi m h1 [x]) Q := q
    rw [hg] at q
    exact q.mono e'
  | ex _ _ => rw [e] at q; exact q
  | no _ => rw [e] at q; exact q.elim
end
end PI

/-! SG: calls of built-ins, displays of dicts, slices, methods of built-in types. -/
set_option linter.all false
set_option maxRecDepth 100000
namespace PI
open PySem PySem.Spec L2 PyProof.Rows
section
variable {G : GT} {Bs : List Nat} {W : WX} {X : Cx} {c : Cc} {a b d : Expr} {e ea eb ed : E} {pos p apos mpos : Pos} {as : List Expr} {es : List E} {m : Bool}
theorem n_len (xo : XO G X) (hg : Gl X "len") (hm : X.mg "len" = none) (ha : NE G Bs W X c a ea) (hs : starEach [a] X.env = [(false, eval a X.env)] := by rfl) : NE G Bs W X c (.Call (.Name "len" p) [a] [] pos) (.bi .len m [ea]) :=
  n_bi1 (b_len xo) (fun _ _ => rfl) (pe_callB call_any hg hm (by first | rfl | decide +kernel) (na_cons ha na_nil hs) (he := hs))
theorem n_abs (hg : Gl X "abs") (hm : X.mg "abs" = none) (ha : NE G Bs W X c a ea) (hs : starEach [a] X.env = [(false, eval a X.env)] := by rfl) : NE G Bs W X c (.Call (.Name "abs" p) [a] [] pos) (.bi .abs m [ea]) :=
  n_bi1 b_abs (fun _ _ => rfl) (pe_callB call_any hg hm (by first | rfl | decide +kernel) (na_cons ha na_nil hs) (he := hs))
theorem n_sorted (xo : XO G X) (hg : Gl X "sorted") (hm : X.mg "sorted" = none) (ha : NE G Bs W X c a ea) (hs : starEach [a] X.env = [(false, eval a X.env)] := by rfl) : NE G Bs W X c (.Call (.Name "sorted" p) [a] [] pos) (.bi .sorted m [ea]) :=
  n_bi1 (b_sorted xo m) (fun _ _ => rfl) (pe_callB call_any hg hm (by first | rfl | decide +kernel) (na_cons ha na_nil hs) (he := hs))
theorem n_intc (hg : Gl X "int") (hm : X.mg "int" = none) (ha : NE G Bs W X c a ea) (hs : starEach [a] X.env = [(false, eval a X.env)] := by rfl) : NE G Bs W X c (.Call (.Name "int" p) [a] [] pos) (.bi .int m [ea]) :=
  n_bi1 b_int (fun _ _ => rfl) (pe_callTy call_any hg hm (by first | rfl | decide +kernel) (na_cons ha na_nil hs) (he := hs))
theorem n_list (xo : XO G X) (hg : Gl X "list") (hm : X.mg "list" = none) (ha : NE G Bs W X c a ea) (hs : starEach [a] X.env = [(false, eval a X.env)] := by rfl) : NE G Bs W X c (.Call (.Name "list" p) [a] [] pos) (.bi .list m [ea]) :=
  n_bi1 (b_list xo m) (fun _ _ => rfl) (pe_callTy call_any hg hm (by first | rfl | decide +kernel) (na_cons ha na_nil hs) (he := hs))
theorem n_tuple (xo : XO G X) (hg : Gl X "tuple") (hm : X.mg "tuple" = none) (ha : NE G Bs W X c a ea) (hs : starEach [a] X.env = [(false, eval a X.env)] := by rfl) : NE G Bs W X c (.Call (.Name "tuple" p) [a] [] pos) (.bi .tuple m [ea]) :=
  n_bi1 (b_tuple xo) (fun _ _ => rfl) (pe_callTy call_any hg hm (by first | rfl | decide +kernel) (na_cons ha na_nil hs) (he := hs))
theorem n_dictc (xo : XO G X) (hg : Gl X "dict") (hm : X.mg "dict" = none) (ha : NE G Bs W X c a ea) (hs : starEach [a] X.env = [(false, eval a X.env)] := by rfl) : NE G Bs W X c (.Call (.Name "dict" p) [a] [] pos) (.bi .dict m [ea]) :=
  n_bi1 (b_dict xo m) (fun _ _ => rfl) (pe_callTy call_any hg hm (by first | rfl | decide +kernel) (na_cons ha na_nil hs) (he := hs))

/-! ### min(o.values()), sum(o.values()) -/
theorem evs_one {τ : Sl} {h : Hv} : evs c τ [ea] h = (ev c τ ea h).bind fun x h1 => .ok [x] h1 := by
  simp only [evs]
  cases ev c τ ea h <;> rfl
theorem Res.bind_bind {α β γ : Type} {r : Res α} {f : α → Hv → Res β} {g : β → Hv → Res γ} : (r.bind f).bind g = r.bind fun x h => (f x h).bind g := by cases r <;> rfl
theorem n_vals {bi : BI} {g : D → Hv → Res D} {f : Expr} {t : TE → TE} (hg : ∀ h x, biD bi m h [x] = g x h) (hp : ∀ td, PE X a td → PE X f (t td)) (ha : NE G Bs W X c a ea)
    (ht : ∀ F ρ h H σ x v Q, Rel G Bs F ρ h H → DR G F ρ x v → Aft G Bs W σ (DR G) F ρ (g x h) Q → t (fun _ H Q => Q v H) σ H Q)
    (hm : ∀ td σ H Q, td σ H (fun v H1 => t (fun _ H Q => Q v H) σ H1 Q) → t td σ H Q) : NE G Bs W X c f (.bi bi m [ea]) := by
  unfold NE
  simp only [ev, evs_one, Res.bind_bind]
  refine pe_imp (hp _ ha) fun σ H Q ⟨F, ρ, τ, h, R, S, q⟩ => hm _ _ _ _ ⟨F, ρ, τ, h, R, S, (q.bind (T1 := DR G)).imp (T' := DR G) fun v H1 ⟨F1, ρ1, dd, h1, e1, R1, t1, q1⟩ => ?_⟩
  refine ht F1 ρ1 h1 H1 σ dd v Q R1 t1 ?_
  simp only [Res.bind, hg] at q1
  exact q1
theorem n_minv (xo : XO G X) (hg : Gl X "min") (hm : X.mg "min" = none) (ha : NE G Bs W X c a ea) (hbase : attributeBase a "values" X.env (eval a X.env) = eval a X.env := by rfl) (hline : (apos.endLine == mpos.line) = true := by rfl)
    (hse : starEach [Expr.Call (.Attribute a "values" apos) [] [] mpos] X.env = [(false, eval (Expr.Call (.Attribute a "values" apos) [] [] mpos) X.env)] := by rfl) :
    NE G Bs W X c (.Call (.Name "min" p) [.Call (.Attribute a "values" apos) [] [] mpos] [] pos) (.bi .minv m [ea]) := by
  refine n_vals (g := minvD) (t := tMinVals) (fun _ _ => rfl) (fun td h => pe_minVals xo.calm hg hm h hbase hline hse) ha (fun F ρ h H σ x v Q R tx q => ?_) (fun td σ H Q q => q)
  unfold minvD at q
  cases e : dvals h x with
  | none => rw [e] at q; exact q.elim
  | some is =>
    rw [e] at q
    cases is with
    | nil => exact q.elim
    | cons i is =>
      obtain ⟨a', kvs, rfl, h2, h3⟩ := dvals_of R tx e
      refine ⟨a', kvs, i :: is, rfl, h2, h3, List.cons_ne_nil _ _, fun mm hmem hle => ?_⟩
      obtain ⟨g1, g2, g3⟩ := minI_le i is
      have em : mm = minI i is := by
        apply Int.le_antisymm
        · refine hle _ ?_
          rcases g1 with g1 | g1
          · rw [g1]; exact List.mem_cons_self
          · exact List.mem_cons_of_mem _ g1
        · rcases List.mem_cons.mp hmem with h | h
          · rw [h]; exact g2
          · exact g3 _ h
      subst em
      exact q.ok_ R (dr_int.mpr rfl)
def tSumVals (td : TE) : TE := fun σ H Q => td σ H fun x H1 => ∃ a kvs is, x = V.ref a ∧ H1 a = some (.dK kvs) ∧ kvs.map (·.2) = is.map V.int ∧ Q (.int (sumI is)) H1
theorem preSum_getD : ∀ (is : List Int) (n : Nat), n ≤ is.length → preSum (fun i => is.getD i 0) n = sumI (is.take n)
  | is, 0, _ => by simp [preSum, sumI]
  | is, n + 1, h => by
    rw [preSum, preSum_getD is n (by omega)]
    have hs : ∀ (l : List Int) (x : Int), sumI (l ++ [x]) = sumI l + x := fun l x => by
      induction l with
      | nil => simp [sumI]
      | cons y l ih => simp only [List.cons_append, sumI, ih]; omega
    rw [List.take_succ, List.getD_eq_getElem?_getD]
    have e : is[n]? = some is[n] := List.getElem?_eq_getElem h
    rw [e]
    simp only [Option.getD_some, Option.toList_some, hs]
theorem pe_sumVals {td : TE} (hc : X.calm = true) (hg : Gl X "sum") (hm : X.mg "sum" = none) (hd : PE X a td) (hbase : attributeBase a "values" X.env (eval a X.env) = eval a X.env) (hline : (apos.endLine == mpos.line) = true)
    (hse : starEach [Expr.Call (.Attribute a "values" apos) [] [] mpos] X.env = [(false, eval (Expr.Call (.Attribute a "values" apos) [] [] mpos) X.env)]) :
    PE X (.Call (.Name "sum" p) [.Call (.Attribute a "values" apos) [] [] mpos] [] pos) (tSumVals td) := by
  refine (⟨fun pins s σ H Q I h => ?_⟩)
  refine wpAny_Call_Name_kw (ld_blt I hg hm (u := .builtin "sum") (by first | rfl | decide +kernel) ?_ (by first | decide +kernel | decide) (by first | decide +kernel | decide))
  rw [hse]
  refine PySem.callWith_builtin1 (wpAny_Call_method0_late hbase hline (thn (hd.run pins s σ H _ I h) fun v s1 ⟨x, H1, I1, r1, da, kvs, is, ex, ha, hv, q⟩ => ?_))
  subst ex
  obtain rfl : v = Value.ref da := r1
  obtain ⟨_, hsys, vs, rel, dof⟩ := (dk_of I1.hok ha)
  obtain ⟨ep, dat⟩ := (dof.dictAt)
  obtain ⟨ob, es, ho, ex, hdat, hko, hpr, hnd⟩ := id dat
  refine (⟨"dict", "dict.values", F.plainAttrs_dict, F.slot_dict_values, F.type_dict_values, ⟨ob, ho, ex.1⟩, fun b e => ?_, Calls.callWith_builtin rfl (PySem.evalArgs_none ?_)⟩)
  · cases e
    exact ⟨ob, ho, ex.2.1⟩
  refine call_meetsIn F.slot_dict_values ⟨ob, ho, ex.1⟩ F.entry_dict_values (F.args_dict_values_1 _) (meets_dict_values (mixKind X.prog X.w) da hsys) ⟨⟨vs, dof⟩, ?_⟩
  have k1 : ∀ b u, s1.heap.get? b = some u → (s1.heap.push { cls := .type "dict_values", data := .fields #[.ref da] }).get? b = some u := fun b u e => Heap.get?_push_of_some _ e
  have dat1 : (s1.heap.push { cls := .type "dict_values", data := .fields #[.ref da] }).DictAt (mixKind X.prog X.w) da vs ep := dat.keep k1
  have hlv : (vs.length = is.length) := by
    have e1 := congrArg (List.length) hv
    (rw [List.length_map, List.length_map] at e1)
    rw [← e1]
    exact (KV.length rel).symm
  have hval : (∀ (i : Nat) (v : Value), (∃ k, vs[i]? = some (k, v)) → ∃ t, v = Value.int (is.getD i 0) t) := fun i v ⟨k, hk⟩ => by
    obtain ⟨x, h1, h2⟩ := (KV.at' rel hk)
    have e1 : ((kvs.map (·.2))[i]? = some x) := by rw [List.getElem?_map, h1] <;> rfl
    (rw [hv, List.getElem?_map] at e1)
    obtain ⟨j, hj, e2⟩ := (Option.map_eq_some_iff.mp e1)
    subst e2
    obtain ⟨t, e3⟩ := h2
    refine ⟨t, ?_⟩
    (rw [e3, List.getD_eq_getElem?_getD, hj] <;> rfl)
  refine call_sum_walkG (wpAny_pyIter_values (v := s1.heap.objs.size) (d := da) ⟨_, Heap.get?_push_size _ rfl, rfl, rfl⟩ dat1 ?_)
  have hlt : da < s1.heap.objs.size := Heap.lt_size ho
  have hsz : (s1.heap.push { cls := .type "dict_values", data := .fields #[.ref da] }).objs.size = s1.heap.objs.size + 1 := Heap.size_push _ _
  refine ⟨_, _, _, _, _, _, fun i => is.getD i 0, rfl, Walks.dictValues (knd := mixKind X.prog X.w) (A := X.A.in1) (I.ok.hd hc) (s1.heap.push { cls := .type "dict_values", data := .fields #[.ref da] }).objs.size da (by rw [hsz]; exact Nat.ne_of_lt (Nat.lt_succ_of_lt hlt)) vs ep,
    ⟨⟨_, Heap.get?_push_size _ rfl, rfl, rfl⟩, dat1.keep fun b u e => Heap.get?_push_of_some _ e⟩, fun b hb => ?_, hval, fun h' tk t' hk => ?_⟩
  · show (b < ((s1.heap.push _).push _).objs.size)
    (rw [Heap.size_push, Heap.size_push])
    rw [hsz] at hb
    rcases (List.mem_cons.mp hb) with e | hb
    · rw [e]
      exact Nat.lt_succ_self _
    · have e : b = da := List.mem_singleton.mp hb
      rw [e]
      exact (Nat.lt_succ_of_lt (Nat.lt_succ_of_lt hlt))
  · refine ⟨.int (sumI is), H1, I1.kept (t' := tk) fun b u e => hk b u (fun hmem => ?_) (Heap.get?_push_of_some _ (k1 b u e)), ⟨t', ?_⟩, q⟩
    · have e1 : b = (s1.heap.push { cls := .type "dict_values", data := .fields #[.ref da] }).objs.size := List.mem_singleton.mp hmem
      have e2 := Heap.lt_size e
      rw [hsz] at e1
      rw [e1] at e2
      exact (absurd e2 (Nat.not_lt.mpr (Nat.le_succ _)))
    · rw [hlv, preSum_getD is _ (Nat.le_refl _), List.take_length]
theorem n_sumv (xo : XO G X) (hg : Gl X "sum") (hm : X.mg "sum" = none) (ha : NE G Bs W X c a ea) (hbase : attributeBase a "values" X.env (eval a X.env) = eval a X.env := by rfl) (hline : (apos.endLine == mpos.line) = true := by rfl)
    (hse : starEach [Expr.Call (.Attribute a "values" apos) [] [] mpos] X.env = [(false, eval (Expr.Call (.Attribute a "values" apos) [] [] mpos) X.env)] := by rfl) :
    NE G Bs W X c (.Call (.Name "sum" p) [.Call (.Attribute a "values" apos) [] [] mpos] [] pos) (.bi .sumv m [ea]) := by
  refine n_vals (g := sumvD) (t := tSumVals) (fun _ _ => rfl) (fun td h => pe_sumVals xo.calm hg hm h hbase hline hse) ha (fun F ρ h H σ x v Q R tx q => ?_) (fun td σ H Q q => q)
  unfold sumvD at q
  cases e : dvals h x with
  | none => rw [e] at q; exact q.elim
  | some is =>
    rw [e] at q
    obtain ⟨a', kvs, rfl, h2, h3⟩ := dvals_of R tx e
    exact ⟨a', kvs, is, rfl, h2, h3, q.ok_ R (dr_int.mpr rfl)⟩

/-! ### methods -/
theorem lenSum_eq {ss : List (List Nat)} : ((ss.map fun s => (⟨s.toArray⟩ : Str)).map (·.length)).sum = lenSum ss := by
  induction ss with
  | nil => rfl
  | cons s ss ih => simp only [List.map_cons, List.sum_cons, lenSum, ih, str_len]
theorem joinTx_go {s : List Nat} : ∀ (ss : List (List Nat)), Str.join ⟨s.toArray⟩ (ss.map fun s => (⟨s.toArray⟩ : Str)) = ⟨(joinTx s ss).toArray⟩
  | [] => rfl
  | [x] => rfl
  | x :: y :: l => by
    have ih := joinTx_go (s := s) (y :: l)
    simp only [List.map_cons, Str.join, joinTx] at ih ⊢
    rw [ih, str_app, str_app]
theorem joinTx_eq {s : List Nat} {ss : List (List Nat)} : Txt.join ⟨s.toArray⟩ (ss.map fun s => (⟨s.toArray⟩ : Str)) = ⟨(joinTx s ss).toArray⟩ := by
  unfold Txt.join
  rw [PySem.StrLaws.glued_eq_join]
  exact joinTx_go ss
theorem n_join (xo : XO G X) (ha : NE G Bs W X c a ea) (hb : NE G Bs W X c b eb) (hs : starEach [b] X.env = [(false, eval b X.env)] := by rfl) (hbase : attributeBase a "join" X.env (eval a X.env) = eval a X.env := by rfl) (hline : (apos.endLine == pos.line) = true := by rfl) :
    NE G Bs W X c (.Call (.Attribute a "join" apos) [b] [] pos) (.bm .join m ea [eb]) := by
  unfold NE
  simp only [ev, evs_one, Res.bind_bind]
  refine pe_imp (pe_join ha hb hs hbase hline) fun σ H Q ⟨F, ρ, τ, h, R, S, q⟩ => ⟨F, ρ, τ, h, R, S, (q.bind (T1 := DR G)).imp (T' := DR G) fun v H1 ⟨F1, ρ1, x, h1, e1, R1, t1, q1⟩ => ?_⟩
  cases x with
  | str s =>
    rw [dr_str] at t1
    subst t1
    simp only [bmOk, if_true] at q1
    refine ⟨⟨_, rfl⟩, F1, ρ1, τ, h1, R1, S.mono e1, (q1.bind (T1 := DR G)).imp (T' := DR G) fun w H2 ⟨F2, ρ2, y, h2, e2, R2, t2, q2⟩ => ?_⟩
    simp only [Res.bind, bmD, joinD] at q2
    cases el : PI.lstOf h2 y with
    | none => rw [el] at q2; exact q2.elim
    | some l =>
      simp only [el] at q2
      cases es : strs? l with
      | none => rw [es] at q2; exact q2.elim
      | some ss =>
        simp only [es] at q2
        split at q2
        · rename_i hz
          obtain ⟨p', vs, rfl, g2, g3⟩ := R2.lstOf t2 el
          rw [strs_of (F := F) (ρ := ρ) es, drs_strs] at g3
          subst g3
          refine ⟨_, p', _, rfl, rfl, .inl (by rw [xo.K]; exact g2), ?_, ?_⟩
          · rw [lenSum_eq, List.length_map, str_len]
            exact Nat.le_of_ble_eq_true hz
          · rw [joinTx_eq]
            exact q2.ok_ R2 (dr_str.mpr rfl)
        · exact q2.elim
  | _ => exact q1.elim
theorem mutL_ref {h : Hv} {x : D} {i : Nat} {l : List D} (e : mutL h x = some (i, l)) : x = .ref i ∧ h[i]? = some (.lst l) := by
  unfold mutL at e
  split at e
  · split at e
    · rename_i eo
      cases e
      exact ⟨rfl, eo⟩
    · cases e
  · cases e
theorem bels_app {n : Nat} : ∀ {l r : List D}, D.bels n (l ++ r) = (D.bels n l && D.bels n r)
  | [], r => by simp [D.bels]
  | a :: l, r => by simp [D.bels, bels_app (l := l), Bool.and_assoc]
mutual
theorem bel_le {n k : Nat} (hk : n ≤ k) : ∀ {d : D}, D.bel n d = true → D.bel k d = true
  | .non, _ => rfl
  | .bl _, _ => rfl
  | .int _, _ => rfl
  | .str _, _ => rfl
  | .tup l, h => by simp only [D.bel] at h ⊢; exact bels_le hk h
  | .lst l, h => by simp only [D.bel] at h ⊢; exact bels_le hk h
  | .dic l, h => by simp only [D.bel] at h ⊢; exact belp_le hk h
  | .ref i, h => by
    simp only [D.bel] at h ⊢
    exact Nat.ble_eq_true_of_le (Nat.le_trans (Nat.le_of_ble_eq_true h) hk)
  | .lam _ _, h => by simp [D.bel] at h
theorem bels_le {n k : Nat} (hk : n ≤ k) : ∀ {l : List D}, D.bels n l = true → D.bels k l = true
  | [], _ => rfl
  | a :: l, h => by
    simp only [D.bels, Bool.and_eq_true] at h ⊢
    exact ⟨bel_le hk h.1, bels_le hk h.2⟩
theorem belp_le {n k : Nat} (hk : n ≤ k) : ∀ {l : List (D × D)}, D.belp n l = true → D.belp k l = true
  | [], _ => rfl
  | (a, x) :: l, h => by
    simp only [D.belp, Bool.and_eq_true] at h ⊢
    exact ⟨⟨bel_le hk h.1.1, bel_le hk h.1.2⟩, belp_le hk h.2⟩
end
/-- base is no less than each length that a frame keeps -/
def BaseOk (Bs : List Nat) (base : Nat) : Prop := ∀ B ∈ Bs, B ≤ base
theorem stOk_low (hb : BaseOk Bs base) {i : Nat} {dd : D} (h : stOk base i dd = true) : ∀ B ∈ Bs, i < B → D.bel B dd = true := fun B hB hi => by
  unfold stOk at h
  split at h
  · rename_i hle
    have := Nat.le_of_ble_eq_true hle
    have := hb B hB
    omega
  · exact bel_le (by omega) h
theorem bm_append {F : Fh} {ρ : List Addr} {h : Hv} {H : L2.Hp} {σ : L2.St} {x y : D} {v w : V} {Q : VK} (hbs : BaseOk Bs base) (R : Rel G Bs F ρ h H) (tx : DR G F ρ x v) (ty : DR G F ρ y w) (q : Aft G Bs W σ (DR G) F ρ (appendD base h x y) Q) : rAppend v [w] H Q := by
  unfold appendD at q
  cases e : mutL h x with
  | none => rw [e] at q; exact q.elim
  | some il =>
    obtain ⟨i, l⟩ := il
    simp only [e] at q
    split at q
    · rename_i hc
      rw [Bool.and_eq_true] at hc
      obtain ⟨rfl, eo⟩ := mutL_ref e
      obtain ⟨a, rfl, h2, vs, h3, h4⟩ := R.refOf tx eo rfl
      have hl : vs.length < sizeLine := by rw [h4.length, ← size_line]; exact Nat.lt_of_succ_le (Nat.le_of_ble_eq_true hc.2)
      refine ⟨a, vs, w, rfl, rfl, h3, hl, ?_⟩
      have new : DRs G F ρ (l ++ [y]) (vs ++ [w]) := h4.append (drs_cons.mpr ⟨ty, drs_nil.mpr rfl⟩)
      refine q F ρ _ _ (Ext.refl _ _) (R.putAt eo rfl h2 ⟨_, upd_same, new⟩ (fun B hB hi => ?_) (.inl rfl)) (dr_non.mpr rfl)
      have := R.low B hB i _ hi eo
      simp only [obBel] at this ⊢
      rw [bels_app, this, Bool.true_and]
      simp only [D.bels, Bool.and_true]
      exact stOk_low hbs hc.1 B hB hi
    · exact q.elim
theorem n_append (hbs : BaseOk Bs c.base) (ha : NE G Bs W X c a ea) (hb : NE G Bs W X c b eb) (xo : XO G X)
    (hbase : attributeBase a "append" X.env (eval a X.env) = eval a X.env := by rfl)
    (hfew : ((backTo pos (starEach [b] X.env)).all (fun x => !x.1) && (backToKw pos (keywordEach [] X.env)).all (fun x => x.1.isSome)
      && decide (([b] : List Expr).length + ([] : List Keyword).length + (if ([] : List Keyword).isEmpty then 0 else 1) < 30)) = true := by rfl)
    (hline : (apos.endLine == pos.line) = true := by rfl) (hs : starEach [b] X.env = [(false, eval b X.env)] := by rfl) :
    NE G Bs W X c (.Call (.Attribute a "append" apos) [b] [] pos) (.bm .append m ea [eb]) := by
  have hb1 : NA G Bs W X c [b] [eb] := na_cons hb na_nil hs
  unfold NE
  simp only [ev]
  refine pe_imp (pe_bm F.plainAttrs_list F.slot_list_append F.type_list_append (r := rAppend) mt_append ha hb1 hbase hfew hline hs) fun σ H Q ⟨F, ρ, τ, h, R, S, q⟩ => ⟨F, ρ, τ, h, R, S, (q.bind (T1 := DR G)).imp (T' := DR G) fun v H1 ⟨F1, ρ1, x, h1, e1, R1, t1, q1⟩ => ?_⟩
  cases em : mutL h1 x with
  | none =>
    simp only [bmOk, em, Option.isSome_none, Bool.false_eq_true, if_false] at q1
    exact q1.elim
  | some il =>
    obtain ⟨i, l⟩ := il
    simp only [bmOk, em, Option.isSome_some, if_true] at q1
    obtain ⟨rfl, eo⟩ := mutL_ref em
    obtain ⟨a', rfl, g2, vs, g3, g4⟩ := R1.refOf t1 eo rfl
    refine ⟨.inl ⟨rfl, vs, .inl (.inl g3)⟩, F1, ρ1, τ, h1, R1, S.mono e1, (q1.bind (T1 := DRs G)).imp (T' := DR G) fun ws H2 ⟨F2, ρ2, ys, h2, e2, R2, t2, q2⟩ => ?_⟩
    match ys, ws, t2, q2 with
    | [y], [w], t2, q2 =>
      rw [drs_cons] at t2
      exact bm_append hbs R2 (t1.mono e2) t2.1 q2
    | [y], [], t2, q2 => exact absurd t2.length (by simp)
    | [y], _ :: _ :: _, t2, q2 => exact absurd t2.length (by simp)
    | [], _, _, q2 => exact q2.elim
    | _ :: _ :: _, _, _, q2 => exact q2.elim

/-! ### slices -/
theorem s_slc (xo : XO G X) {F : Fh} {ρ : List Addr} {h : Hv} {H : L2.Hp} {σ : L2.St} {x y : D} {v : V} {lo hi : Option Int} {lo' hi' : Option D} {Q : VK} (R : Rel G Bs F ρ h H) (tx : DR G F ρ x v) (e1 : optI lo' = some lo) (e2 : optI hi' = some hi)
    (q : Aft G Bs W σ (DR G) F ρ (slcD m h x lo' hi' none) Q) : sAny X v lo hi H Q := by
  unfold slcD at q
  simp only [e1, e2] at q
  have fin : ∀ l, PI.lstOf h x = some l → Aft G Bs W σ (DR G) F ρ (mkL m (PI.cut l lo hi) h) Q → sAny X v lo hi H Q := fun l e q => by
    obtain ⟨a', vs, rfl, h2, h3⟩ := R.lstOf tx e
    exact ⟨_, sl_list, a', vs, rfl, by rw [xo.K]; exact h2, aft_mkL R h3.cut q⟩
  cases x with
  | str s =>
    rw [dr_str] at tx
    subst tx
    dsimp only at q
    split at q
    · rename_i hz
      refine ⟨_, sl_str, _, rfl, by rw [str_len, ← size_line]; exact Nat.le_of_ble_eq_true hz, ?_⟩
      refine q.ok_ R (dr_str.mpr ?_)
      unfold cutS PI.cut
      rw [clip_sIx, clip_sIx]
      simp [Str.length]
    · exact q.elim
  | lst l => exact fin l rfl q
  | ref i =>
    dsimp only at q
    cases e : PI.lstOf h (.ref i) with
    | none => rw [e] at q; exact q.elim
    | some l =>
      simp only [e] at q
      exact fin l e q
  | _ => exact q.elim
theorem n_slcHi (xo : XO G X) {p2 : Pos} (ha : NE G Bs W X c a ea) (hb : NE G Bs W X c b eb) : NE G Bs W X c (.Subscript a (.Slice none (some b) none p2) pos) (.slc m ea none (some eb) none) := by
  unfold NE
  have eq : (fun τ h => ev c τ (.slc m ea none (some eb) none) h) = fun τ h => (ev c τ ea h).bind fun x h1 => (ev c τ eb h1).bind fun y h2 => slcD m h2 x none (some y) none := by
    funext τ h
    simp only [ev, evo]
    cases ev c τ ea h with
    | ok x h1 => simp only [Res.bind]; cases ev c τ eb h1 <;> rfl
    | ex _ _ => rfl
    | no _ => rfl
  rw [eq]
  refine pe_imp (pe_slice sl_any ha po_none (po_some hb)) fun σ H Q ⟨F, ρ, τ, h, R, S, q⟩ => ⟨F, ρ, τ, h, R, S, (q.bind (T1 := DR G)).imp (T' := DR G) fun v H1 ⟨F1, ρ1, x, h1, e1, R1, t1, q1⟩ => ?_⟩
  unfold tNoPart tPart
  refine ⟨F1, ρ1, τ, h1, R1, S.mono e1, (q1.bind (T1 := DR G)).imp (T' := DR G) fun w H2 ⟨F2, ρ2, y, h2, e2, R2, t2, q2⟩ => ?_⟩
  cases y with
  | int i =>
    rw [dr_int] at t2
    exact ⟨i, t2, s_slc (y := .non) xo R2 (t1.mono e2) rfl rfl q2⟩
  | _ => exact q2.elim

/-! ### a dict's display -/
/-- pairs of keys and values, one by one -/
inductive NPs (G : GT) (Bs : List Nat) (W : WX) (X : Cx) (c : Cc) : List (Option Expr) → List Expr → List E → Prop
  | nil : NPs G Bs W X c [] [] []
  | cons {k v : Expr} {ks : List (Option Expr)} {vs : List Expr} {ek ev : E} {es : List E} : NE G Bs W X c k ek → NE G Bs W X c v ev → NPs G Bs W X c ks vs es → NPs G Bs W X c (some k :: ks) (v :: vs) (ek :: ev :: es)
def trsOf (G : GT) (Bs : List Nat) (W : WX) (c : Cc) : List E → List (TE × TE)
  | ek :: ev' :: es => (tEv G Bs W fun τ h => ev c τ ek h, tEv G Bs W fun τ h => ev c τ ev' h) :: trsOf G Bs W c es
  | _ => []
theorem NPs.pps {ks : List (Option Expr)} {vs : List Expr} {es : List E} (h : NPs G Bs W X c ks vs es) : PPs X pos ks vs (trsOf G Bs W c es) := by
  induction h with
  | nil => exact pps_nil
  | cons hk hv _ ih => exact pps_cons hk hv ih
theorem NPs.lens {ks : List (Option Expr)} {vs : List Expr} {es : List E} (h : NPs G Bs W X c ks vs es) : ks.all (·.isSome) = true ∧ ks.length = vs.length := by
  induction h with
  | nil => exact ⟨rfl, rfl⟩
  | cons _ _ _ ih => exact ⟨by simp [ih.1], by simp [ih.2]⟩
theorem pairUp_two {x y : D} {l : List D} : pairUp (x :: y :: l) = (pairUp l).map ((x, y) :: ·) := by rw [pairUp]
/-- pairs of data, pairs of values -/
def PRs (G : GT) (F : Fh) (ρ : List Addr) : List D → List (V × V) → Prop
  | x :: y :: l, ps => ∃ v w r, ps = (v, w) :: r ∧ DR G F ρ x v ∧ DR G F ρ y w ∧ PRs G F ρ l r
  | [], ps => ps = []
  | _, _ => False
theorem NPs.run {ks : List (Option Expr)} {vs : List Expr} {es : List E} (hh : NPs G Bs W X c ks vs es) : ∀ {F : Fh} {ρ : List Addr} {τ : Sl} {h : Hv} {H : L2.Hp} {σ : L2.St} {Q : List (V × V) → L2.Hp → Prop}, Rel G Bs F ρ h H → SlotR G F ρ τ σ →
    Aft G Bs W σ (PRs G) F ρ (evs c τ es h) Q → tPairs (trsOf G Bs W c es) σ H Q := by
  induction hh with
  | nil =>
    intro F ρ τ h H σ Q R S q
    simp only [evs] at q
    exact q.ok_ R (by simp only [PRs])
  | @cons k v ks vs ek ev' es hk hv _ ih =>
    intro F ρ τ h H σ Q R S q
    simp only [evs, Res.bind_bind] at q
    refine ⟨F, ρ, τ, h, R, S, (q.bind (T1 := DR G)).imp (T' := DR G) fun v H1 ⟨F1, ρ1, x, h1, e1, R1, t1, q1⟩ => ?_⟩
    refine ⟨F1, ρ1, τ, h1, R1, S.mono e1, (q1.bind (T1 := DR G)).imp (T' := DR G) fun w H2 ⟨F2, ρ2, y, h2, e2, R2, t2, q2⟩ => ?_⟩
    refine ih R2 (S.mono (e1.trans e2)) ((q2.bind (T1 := PRs G)).imp (T' := DR G) fun ps H3 ⟨F3, ρ3, l, h3, e3, R3, t3, q3⟩ => ?_)
    simp only [Res.bind] at q3
    exact q3.ok_ R3 (by simp only [PRs]; exact ⟨v, w, ps, rfl, t1.mono (e2.trans e3), t2.mono e3, t3⟩)
theorem prs_kvs {F : Fh} {ρ : List Addr} : ∀ {l : List D} {ps : List (V × V)} {ds : List (D × D)}, PRs G F ρ l ps → pairUp l = some ds → (∀ q ∈ ds, D.atom q.1 = true) →
    ∃ kvs : List (Key × V), ps = kvs.map (fun kv => (kV kv.1, kv.2)) ∧ kvs.length = ds.length ∧ kvs.map (fun q => keyD q.1) = ds.map (·.1) ∧ DRp G F ρ ds (kvs.map (·.2))
  | [], ps, ds, h, e, _ => by
    simp only [PRs] at h
    subst h
    simp only [pairUp] at e
    cases e
    exact ⟨[], rfl, rfl, rfl, by simp only [List.map_nil, DRp]⟩
  | [_], ps, ds, h, _, _ => by simp only [PRs] at h
  | x :: y :: l, ps, ds, h, e, ha => by
    simp only [PRs] at h
    obtain ⟨v, w, r, rfl, t1, t2, t3⟩ := h
    rw [pairUp_two] at e
    obtain ⟨ds', e2, rfl⟩ := Option.map_eq_some_iff.mp e
    obtain ⟨kvs, g1, g2, g3, g4⟩ := prs_kvs t3 e2 fun q hq => ha q (List.mem_cons_of_mem _ hq)
    have hk : D.atom x = true := ha _ List.mem_cons_self
    refine ⟨(keyOf x, w) :: kvs, ?_, by simp [g2], ?_, ?_⟩
    · rw [List.map_cons, ← g1, ← kV_keyOf hk t1]
    · rw [List.map_cons, List.map_cons, g3, keyD_keyOf hk]
    · simp only [List.map_cons, DRp]
      exact ⟨w, _, rfl, t2, g4⟩
theorem n_disp {ks : List (Option Expr)} {vs : List Expr} (hp : NPs G Bs W X c ks vs es) (h0 : ks ≠ []) (h15 : ks.length ≤ 15) : NE G Bs W X c (.Dict ks vs pos) (.dic true false es) := by
  unfold NE
  simp only [ev, if_true]
  refine pe_imp (pe_disp (NPs.pps hp) hp.lens.1 hp.lens.2 h0 h15) fun σ H Q ⟨F, ρ, τ, h, R, S, q⟩ p hpn => ?_
  have R0 : Rel G Bs F (ρ ++ [p]) (h ++ [.dic false []]) (L2.upd H p (.dK [])) := R.cellNew hpn (fun b u z => by rw [upd_ne (ne_of_none z hpn)]; exact z) ⟨[], upd_same, rfl, by simp only [List.map_nil, DRp]⟩
  have hri : (ρ ++ [p])[h.length]? = some p := by rw [← R.len]; simp
  refine hp.run R0 (S.mono Ext.snoc) (((q.mono Ext.snoc).bind (T1 := PRs G)).imp (T' := DR G) fun ps H2 ⟨F2, ρ2, l, h2, e2, R2, t2, q2⟩ => ?_)
  unfold dispD at q2
  simp only [Bool.false_eq_true, if_false] at q2
  cases e : pairUp l with
  | none => rw [e] at q2; exact q2.elim
  | some ds =>
    simp only [e] at q2
    split at q2
    · rename_i hc
      rw [Bool.and_eq_true, List.all_eq_true] at hc
      split at q2
      · rename_i eo
        obtain ⟨kvs, g1, g2, g3, g4⟩ := prs_kvs t2 e hc.1
        obtain ⟨a', h3, hF, h4⟩ := R2.at_ eo rfl
        have ha' : a' = p := by
          have := e2.pre _ _ hri
          rw [h3] at this
          exact Option.some.inj this
        subst ha'
        obtain ⟨kv0, g5, g6, g7⟩ := h4
        have : kv0 = [] := by cases kv0 with
          | nil => rfl
          | cons _ _ => cases g6
        subst this
        refine ⟨g5, kvs, g1, by rw [g2]; exact Nat.le_of_ble_eq_true hc.2, ?_⟩
        obtain ⟨p1, p2⟩ := kputs_keys (l := []) (kvs := []) hc.1 g3 g4 rfl (by simp only [List.map_nil, DRp])
        refine q2 F2 ρ2 _ _ (Ext.refl _ _) (R2.putAt eo rfl h3 ⟨_, upd_same, p1, p2⟩ (fun B hB hi => ?_) (.inl rfl)) (by simp only [DR]; exact ⟨_, rfl, h3⟩)
        have := R.lows B hB
        omega
      · exact q2.elim
    · exact q2.elim
theorem n_disp0 : NE G Bs W X c (.Dict [] [] pos) (.dic true false []) := by
  unfold NE
  simp only [ev, if_true, evs, Res.bind]
  refine pe_imp pe_dnewK fun σ H Q ⟨F, ρ, τ, h, R, S, q⟩ p hpn => ?_
  unfold dispD at q
  have e1 : (h ++ [Ob.dic false []])[h.length]? = some (.dic false []) := by simp
  have e2 : (h ++ [Ob.dic false []]).set h.length (.dic false (kputs [] [])) = h ++ [.dic false []] := by
    simp [kputs]
  simp only [Bool.false_eq_true, if_false, pairUp, List.all_nil, List.length_nil, Bool.true_and, e1, e2] at q
  have hb : Nat.ble 0 15 = true := rfl
  rw [if_pos hb] at q
  exact aft_cell (u := .dK []) R q (fun p hp => ⟨[], upd_same, rfl, by simp only [List.map_nil, DRp]⟩) p hpn
end
end PI

/-! SH: statements, targets, walks. -/
set_option linter.all false
set_option maxRecDepth 100000
namespace PI
open PySem PySem.Spec L2 PyProof.Rows

/-- what follows a statement's outcome -/
def AftS (G : GT) (Bs : List Nat) (W : WX) (F : Fh) (ρ : List Addr) (r : Out) (D : Ends) : Prop :=
  match r with
  | .nx τ h => ∀ F' ρ' H' σ', Ext F ρ F' ρ' → Rel G Bs F' ρ' h H' → SlotR G F' ρ' τ σ' → D.nx σ' H'
  | .rt d h => ∀ F' ρ' H' v, Ext F ρ F' ρ' → Rel G Bs F' ρ' h H' → DR G F' ρ' d v → D.rt v H'
  | .bk τ h => ∀ F' ρ' H' σ', Ext F ρ F' ρ' → Rel G Bs F' ρ' h H' → SlotR G F' ρ' τ σ' → D.bk σ' H'
  | .ct τ h => ∀ F' ρ' H' σ', Ext F ρ F' ρ' → Rel G Bs F' ρ' h H' → SlotR G F' ρ' τ σ' → D.ct σ' H'
  | .ex c τ h => ∀ F' ρ' H' σ', Ext F ρ F' ρ' → Rel G Bs F' ρ' h H' → SlotR G F' ρ' τ σ' → W (.ref (G.xcl c)) none σ' H'
  | .no _ => False
def sEx (G : GT) (Bs : List Nat) (W : WX) (f : Sl → Hv → Out) : TS := fun D σ H => ∃ F ρ τ h, Rel G Bs F ρ h H ∧ SlotR G F ρ τ σ ∧ AftS G Bs W F ρ (f τ h) D
def gEx (G : GT) (Bs : List Nat) (W : WX) (f : D → Sl → Hv → Res Sl) : TG := fun v σ H Q => ∃ F ρ τ h d, Rel G Bs F ρ h H ∧ SlotR G F ρ τ σ ∧ DR G F ρ d v ∧ Aft G Bs W σ (SlotR G) F ρ (f d τ h) Q
def gsEx (G : GT) (Bs : List Nat) (W : WX) (f : List D → Sl → Hv → Res Sl) : TGs := fun vs σ H Q => ∃ F ρ τ h ds, Rel G Bs F ρ h H ∧ SlotR G F ρ τ σ ∧ DRs G F ρ ds vs ∧ Aft G Bs W σ (SlotR G) F ρ (f ds τ h) Q
theorem ps_imp {X : Cx} {st : Stmt} {t t' : TS} (h : PS X st t) (k : ∀ D σ H, t' D σ H → t D σ H) : PS X st t' := ⟨fun pins s σ H D I q => h.run pins s σ H D I (k D σ H q)⟩
theorem pss_imp {X : Cx} {st : List Stmt} {t t' : TS} (h : PSs X st t) (k : ∀ D σ H, t' D σ H → t D σ H) : PSs X st t' := ⟨fun pins s σ H D I q => h.run pins s σ H D I (k D σ H q)⟩
theorem pg_imp {X : Cx} {tg : Expr} {t t' : TG} (h : PG X tg t) (k : ∀ v σ H Q, t' v σ H Q → t v σ H Q) : PG X tg t' := ⟨fun pins s σ H v u Q I r q => h.run pins s σ H v u Q I r (k v σ H Q q)⟩
theorem pgs_imp {X : Cx} {tg : List Expr} {t t' : TGs} (h : PGs X tg t) (k : ∀ v σ H Q, t' v σ H Q → t v σ H Q) : PGs X tg t' := ⟨fun pins s σ H v u Q I r q => h.run pins s σ H v u Q I r (k v σ H Q q)⟩
theorem pi_imp {X : Cx} {tg it : Expr} {t t' : TI} (h : L2.PI X tg it t) (k : ∀ σ H R, t' σ H R → t σ H R) : L2.PI X tg it t' := ⟨fun pins s σ H R I q => h.run pins s σ H R I (k σ H R q)⟩
section
variable {G : GT} {Bs : List Nat} {W : WX} {F F1 : Fh} {ρ ρ1 : List Addr}
theorem AftS.mono {r : Out} {D : Ends} (e : Ext F ρ F1 ρ1) (h : AftS G Bs W F ρ r D) : AftS G Bs W F1 ρ1 r D := by
  cases r with
  | nx τ h1 => exact fun F' ρ' H' b e' R t => h F' ρ' H' b (e.trans e') R t
  | rt τ h1 => exact fun F' ρ' H' b e' R t => h F' ρ' H' b (e.trans e') R t
  | bk τ h1 => exact fun F' ρ' H' b e' R t => h F' ρ' H' b (e.trans e') R t
  | ct τ h1 => exact fun F' ρ' H' b e' R t => h F' ρ' H' b (e.trans e') R t
  | ex c τ h1 => exact fun F' ρ' H' b e' R t => h F' ρ' H' b (e.trans e') R t
  | no w => exact h
/-- an expression, then the rest of a statement -/
theorem AftS.out {α β : Type} {T : Fh → List Addr → α → β → Prop} {r : Res α} {k : α → Hv → Out} {τ : Sl} {σ : L2.St} {D : Ends} (S : SlotR G F ρ τ σ) (q : AftS G Bs W F ρ (r.out τ k) D) :
    Aft G Bs W σ T F ρ r fun b H => ∃ F1 ρ1 a h1, Ext F ρ F1 ρ1 ∧ Rel G Bs F1 ρ1 h1 H ∧ T F1 ρ1 a b ∧ AftS G Bs W F1 ρ1 (k a h1) D := by
  cases r with
  | ok a h1 => exact fun F' ρ' H' b e R t => ⟨F', ρ', a, h1, e, R, t, AftS.mono e q⟩
  | ex c h1 => exact fun F' ρ' H' e R => q F' ρ' H' σ e R (S.mono e)
  | no w => exact q
theorem AftS.nx_ {τ : Sl} {σ : L2.St} {h : Hv} {H : L2.Hp} {D : Ends} (q : AftS G Bs W F ρ (.nx τ h) D) (R : Rel G Bs F ρ h H) (S : SlotR G F ρ τ σ) : D.nx σ H := q F ρ H σ (Ext.refl _ _) R S
end
section
variable (G : GT) (Bs : List Nat) (W : WX) (X : Cx) (c : Cc)
abbrev NS (st : Stmt) (s : S) : Prop := PS X st (sEx G Bs W fun τ h => ex c s τ h)
abbrev NSs (st : List Stmt) (s : List S) : Prop := PSs X st (sEx G Bs W fun τ h => exs c s τ h)
abbrev NG (tg : Expr) (t : T) : Prop := PG X tg (gEx G Bs W fun d τ h => asg c t d τ h)
abbrev NGs (tg : List Expr) (t : List T) : Prop := PGs X tg (gsEx G Bs W fun d τ h => asgs c t d τ h)
end
section
variable {G : GT} {Bs : List Nat} {W : WX} {X : Cx} {c : Cc} {a b : Expr} {e ea eb : E} {pos : Pos} {st : Stmt} {sts : List Stmt} {s : S} {ss : List S}
theorem ns_nil : NSs G Bs W X c [] [] := by
  unfold NSs
  simp only [exs]
  exact pss_imp pss_nil fun D σ H ⟨F, ρ, τ, h, R, S, q⟩ => q.nx_ R S
theorem ns_cons (h1 : NS G Bs W X c st s) (h2 : NSs G Bs W X c sts ss) : NSs G Bs W X c (st :: sts) (s :: ss) := by
  unfold NSs at *
  refine pss_imp (pss_cons h1 h2) fun D σ H ⟨F, ρ, τ, h, R, S, q⟩ => ⟨F, ρ, τ, h, R, S, ?_⟩
  dsimp only at q ⊢
  rw [exs] at q
  cases e1 : ex c s τ h with
  | nx τ1 h1 =>
    rw [e1] at q
    exact fun F' ρ' H' σ' e' R' S' => ⟨F', ρ', τ1, h1, R', S', q.mono e'⟩
  | rt d h1 => rw [e1] at q; exact q
  | bk d h1 => rw [e1] at q; exact q
  | ct d h1 => rw [e1] at q; exact q
  | ex c d h1 => rw [e1] at q; exact q
  | no w => rw [e1] at q; exact q
theorem ns_exp (he : NE G Bs W X c a ea) (hs : swapsWith a none pos.line X.env = pure false := by rfl) : NS G Bs W X c (.Expr a pos) (.exp ea) := by
  unfold NS
  simp only [ex]
  exact ps_imp (ps_expr he hs) fun D σ H ⟨F, ρ, τ, h, R, S, q⟩ => ⟨F, ρ, τ, h, R, S, (AftS.out (T := DR G) S q).imp (T' := DR G) fun v H1 ⟨F1, ρ1, d, h1, e1, R1, t1, q1⟩ => q1.nx_ R1 (S.mono e1)⟩
theorem ns_ret (he : NE G Bs W X c a ea) : NS G Bs W X c (.Return (some a) pos) (.ret ea) := by
  unfold NS
  simp only [ex]
  exact ps_imp (ps_ret he) fun D σ H ⟨F, ρ, τ, h, R, S, q⟩ => ⟨F, ρ, τ, h, R, S, (AftS.out (T := DR G) S q).imp (T' := DR G) fun v H1 ⟨F1, ρ1, d, h1, e1, R1, t1, q1⟩ => q1 _ _ _ _ (Ext.refl _ _) R1 t1⟩
theorem ns_if {p q : List Stmt} {sa sb : List S} (hc : NT G Bs W X c a ea) (ha : NSs G Bs W X c p sa) (hb : NSs G Bs W X c q sb) : NS G Bs W X c (.If a p q pos) (.ife ea sa sb) := by
  unfold NS
  simp only [ex]
  refine ps_imp (ps_if hc ha hb) fun D σ H ⟨F, ρ, τ, h, R, S, q⟩ => ⟨F, ρ, τ, h, R, S, (AftS.out (T := fun _ _ b c => b = c) S q).imp (T' := DR G) fun k H1 ⟨F1, ρ1, d, h1, e1, R1, t1, q1⟩ => ?_⟩
  subst t1
  cases d with
  | true => exact ⟨F1, ρ1, τ, h1, R1, S.mono e1, q1⟩
  | false => exact ⟨F1, ρ1, τ, h1, R1, S.mono e1, q1⟩
theorem ns_pass : NS G Bs W X c (.Pass pos) .pss := by
  unfold NS
  simp only [ex]
  exact ps_imp ps_pass fun D σ H ⟨F, ρ, τ, h, R, S, q⟩ => q.nx_ R S
theorem ns_cont : NS G Bs W X c (.Continue pos) .cont := by
  unfold NS
  simp only [ex]
  exact ps_imp ps_continue fun D σ H ⟨F, ρ, τ, h, R, S, q⟩ => q F ρ H σ (Ext.refl _ _) R S
/-- a doc text at the head -/
theorem ns_doc {x : Str} {j : Nat} {pos' : Pos} (h2 : NSs G Bs W X c sts ss) : NSs G Bs W X c (.Expr (.Constant (.str x) j pos) pos' :: sts) ss :=
  pss_imp (pss_cons ps_doc h2) fun D σ H q => q
theorem ns_raise {k : Nat} (hc : X.calm = true) (tk : Takes X W) (he : PMk X a (fun _ H Q => Q (.ref (G.xcl k)) none H)) : NS G Bs W X c (.Raise (some a) none pos) (.rai k) := by
  unfold NS
  simp only [ex]
  exact ps_imp (ps_raise hc tk he) fun D σ H ⟨F, ρ, τ, h, R, S, q⟩ => q F ρ H σ (Ext.refl _ _) R S

/-! ### targets -/
theorem SlotR.set {F : Fh} {ρ : List Addr} {τ : Sl} {σ : L2.St} {i : Nat} {d : D} {v : V} (S : SlotR G F ρ τ σ) (hi : i < τ.length) (t : DR G F ρ d v) : SlotR G F ρ (τ.set i (some d)) (σ.set i (some v)) := by
  refine ⟨by rw [List.length_set, List.length_set, S.len], fun j d' q => ?_⟩
  by_cases hj : i = j
  · subst hj
    rw [List.getElem?_set_self hi] at q
    obtain rfl := Option.some.inj (Option.some.inj q)
    exact ⟨v, by rw [List.getElem?_set_self (by rw [S.len]; exact hi)], t⟩
  · rw [List.getElem?_set_ne hj] at q
    obtain ⟨w, h1, h2⟩ := S.at_ j d' q
    exact ⟨w, by rw [List.getElem?_set_ne hj]; exact h1, h2⟩
theorem ng_name {i : Nat} {x : Str} (hN : X.N.Nodup) (hi : X.N[i]? = some x) (hx : Loc X.env.scope x) (hf : X.fn x = true ∨ X.env.scope.names.lookup x = some .local := by first | exact .inl rfl | exact .inr rfl | assumption) : NG G Bs W X c (.Name x pos) (.var i) := by
  unfold NG
  simp only [asg]
  refine pg_imp (pg_name hN hi hx hf) fun v σ H Q ⟨F, ρ, τ, h, d, R, S, t, q⟩ => ?_
  dsimp only at q
  split at q
  · rename_i hl
    exact q.ok_ R (S.set hl t)
  · exact q.elim
theorem ngs_nil : NGs G Bs W X c [] [] := by
  unfold NGs
  refine pgs_imp pgs_nil fun vs σ H Q ⟨F, ρ, τ, h, ds, R, S, t, q⟩ => ?_
  cases ds with
  | nil =>
    rw [drs_nil] at t
    simp only [asgs] at q
    exact ⟨t, q.ok_ R S⟩
  | cons d ds => simp only [asgs] at q; exact q.elim
theorem ngs_cons {tg : Expr} {tgs : List Expr} {t : PI.T} {ts : List PI.T} (h1 : NG G Bs W X c tg t) (h2 : NGs G Bs W X c tgs ts) (hs : (assignEach (tg :: tgs) X.env).map (·.2) = assign tg X.env :: (assignEach tgs X.env).map (·.2) := by rfl) : NGs G Bs W X c (tg :: tgs) (t :: ts) := by
  unfold NGs
  refine pgs_imp (pgs_cons h1 h2 hs) fun vs σ H Q ⟨F, ρ, τ, h, ds, R, S, td, q⟩ => ?_
  cases ds with
  | nil => simp only [asgs] at q; exact q.elim
  | cons d ds =>
    simp only [asgs] at q
    simp only [DRs] at td
    obtain ⟨v, r, rfl, t1, t2⟩ := td
    refine ⟨v, r, rfl, F, ρ, τ, h, d, R, S, t1, ?_⟩
    -- an exception can't come: the targets' own parts are quiet
    refine (q.bind (T1 := SlotR G)).imp (T' := DR G) fun σ1 H1 ⟨F1, ρ1, τ1, h1, e1, R1, S1, q1⟩ => ⟨F1, ρ1, τ1, h1, ds, R1, S1, t2.mono e1, ?_⟩
    dsimp only
    cases e2 : asgs c ts ds τ1 h1 with
    | ok τ2 h2 => rw [e2] at q1; exact q1
    | ex cc h2 => exact absurd e2 (asgs_quiet ts ds τ1 h1 cc h2)
    | no w => rw [e2] at q1; exact q1
where
  quiet_ne {α : Type} {r : Res α} {cc : Nat} {h : Hv} : quiet r ≠ .ex cc h := by cases r <;> (intro z; cases z)
  bind_ne {α β : Type} {r : Res α} {k : α → Hv → Res β} {cc : Nat} {h : Hv} (h1 : ∀ h', r ≠ .ex cc h') (h2 : ∀ a h', k a h' ≠ .ex cc h) : r.bind k ≠ .ex cc h := by
    cases r with
    | ok a h' => exact h2 a h'
    | ex c' h' => intro z; cases z; exact h1 _ rfl
    | no w => intro z; cases z
  setFld_ne {base : Nat} {x : D} {f : Nat} {v : D} {h : Hv} {cc : Nat} {h' : Hv} : setFld base x f v h ≠ .ex cc h' := by
    unfold setFld
    split
    · split <;> (intro z; cases z)
    · intro z; cases z
  setSub_ne {base : Nat} {x i v : D} {h : Hv} {cc : Nat} {h' : Hv} : setSub base x i v h ≠ .ex cc h' := by
    unfold setSub
    intro z
    split at z
    · split at z
      · split at z
        · split at z <;> cases z
        · split at z
          · split at z
            · split at z <;> cases z
            · cases z
          · cases z
        · cases z
      · cases z
    · cases z
  asg_quiet : ∀ (t : PI.T) (d : D) (τ : Sl) (h : Hv) (cc : Nat) (h' : Hv), asg c t d τ h ≠ .ex cc h'
    | .var i, d, τ, h, cc, h' => by
      simp only [asg]
      split <;> (intro z; cases z)
    | .tup ts, d, τ, h, cc, h' => by
      simp only [asg]
      intro z
      split at z
      · split at z
        · exact asgs_quiet ts _ τ h cc h' z
        · cases z
      · cases z
    | .att e f, d, τ, h, cc, h' => by
      simp only [asg]
      exact bind_ne (fun _ => quiet_ne) fun _ _ => bind_ne (fun _ => setFld_ne) fun _ _ z => by cases z
    | .idx e i, d, τ, h, cc, h' => by
      simp only [asg]
      exact bind_ne (fun _ => quiet_ne) fun _ _ => bind_ne (fun _ => quiet_ne) fun _ _ => bind_ne (fun _ => setSub_ne) fun _ _ z => by cases z
  asgs_quiet : ∀ (ts : List PI.T) (ds : List D) (τ : Sl) (h : Hv) (cc : Nat) (h' : Hv), asgs c ts ds τ h ≠ .ex cc h'
    | [], [], τ, h, cc, h' => by simp only [asgs]; intro z; cases z
    | [], _ :: _, τ, h, cc, h' => by simp only [asgs]; intro z; cases z
    | _ :: _, [], τ, h, cc, h' => by simp only [asgs]; intro z; cases z
    | t :: ts, d :: ds, τ, h, cc, h' => by
      simp only [asgs]
      exact bind_ne (fun _ => asg_quiet t d τ h cc _) fun τ1 h1 => asgs_quiet ts ds τ1 h1 cc h'
theorem ng_tup {tgs : List Expr} {ts : List PI.T} {k : Nat} (xo : XO G X) (h : NGs G Bs W X c tgs ts) (hl : tgs.length = ts.length := by rfl) (hn : (assignEach tgs X.env).length = tgs.length := by rfl) (hst : (assignEach tgs X.env).findIdx? (·.1) = none := by rfl) : NG G Bs W X c (.Tuple tgs k pos) (.tup ts) := by
  unfold NG
  simp only [asg]
  refine pg_imp (pg_tup xo.calm h hn hst) fun v σ H Q ⟨F, ρ, τ, hh, d, R, S, t, q⟩ => ?_
  dsimp only at q
  split at q
  · rename_i l
    split at q
    · rename_i he
      obtain ⟨a', vs, rfl, s1, t1⟩ := R.tupOf t
      exact ⟨a', vs, rfl, by rw [xo.K]; exact s1, by rw [t1.length, he, hl], F, ρ, τ, hh, l, R, S, t1, q⟩
    · exact q.elim
  · exact q.elim
theorem Aft.quiet_ {α β : Type} {T : Fh → List Addr → α → β → Prop} {F : Fh} {ρ : List Addr} {r : Res α} {σ : L2.St} {Q : β → L2.Hp → Prop} (q : Aft G Bs W σ T F ρ (quiet r) Q) : Aft G Bs W σ T F ρ r Q := by
  cases r with
  | ok _ _ => exact q
  | ex _ _ => exact q.elim
  | no _ => exact q.elim
/-- o[i] = .. -/
def rSetAny (X : Cx) : TSet := fun o i v H Q => ∃ t, PSet X t ∧ t o i v H Q
theorem set_any : PSet X (rSetAny X) := fun pins s σ H o i v ov iv u Q I ro ri rv ⟨t, ht, q⟩ => ht pins s σ H o i v ov iv u Q I ro ri rv q
theorem belp_app {n : Nat} : ∀ {l r : List (D × D)}, D.belp n (l ++ r) = (D.belp n l && D.belp n r)
  | [], r => by simp [D.belp]
  | (a, x) :: l, r => by simp [D.belp, belp_app (l := l), Bool.and_assoc]
theorem belp_map {n : Nat} {k v : D} (hv : D.bel n v = true) : ∀ {l : List (D × D)}, D.belp n l = true → D.belp n (l.map fun p => if D.beq p.1 k then (p.1, v) else p) = true
  | [], _ => by simp [D.belp]
  | (a, x) :: l, h => by
    simp only [D.belp, Bool.and_eq_true] at h
    simp only [List.map_cons]
    split
    · simp only [D.belp, Bool.and_eq_true]
      exact ⟨⟨h.1.1, hv⟩, belp_map hv h.2⟩
    · simp only [D.belp, Bool.and_eq_true]
      exact ⟨h.1, belp_map hv h.2⟩
theorem kput_bel {n : Nat} {k v : D} (hk : D.bel n k = true) (hv : D.bel n v = true) {l : List (D × D)} (h : D.belp n l = true) : D.belp n (kput k v l) = true := by
  unfold kput
  split
  · exact belp_map hv h
  · rw [belp_app, h]
    simp [D.belp, hk, hv]
theorem atom_bel {n : Nat} {k : D} (h : D.atom k = true) : D.bel n k = true := by cases k <;> first | rfl | cases h
theorem bels_set {n : Nat} {v : D} (hv : D.bel n v = true) : ∀ {l : List D} {j : Nat}, D.bels n l = true → D.bels n (l.set j v) = true
  | [], _, h => by simp [D.bels]
  | a :: l, 0, h => by
    simp only [D.bels, Bool.and_eq_true] at h
    simp only [List.set_cons_zero, D.bels, Bool.and_eq_true]
    exact ⟨hv, h.2⟩
  | a :: l, j + 1, h => by
    simp only [D.bels, Bool.and_eq_true] at h
    simp only [List.set_cons_succ, D.bels, Bool.and_eq_true]
    exact ⟨h.1, bels_set hv h.2⟩
theorem s_set (xo : XO G X) {base : Nat} (hbs : BaseOk Bs base) {F : Fh} {ρ : List Addr} {h : Hv} {H : L2.Hp} {σ : L2.St} {x i d : D} {o v w : V} {Q : L2.Hp → Prop} (R : Rel G Bs F ρ h H) (tx : DR G F ρ x o) (ti : DR G F ρ i v) (td : DR G F ρ d w)
    (q : Aft G Bs W σ (fun _ _ (_ : Unit) (_ : Unit) => True) F ρ (setSub base x i d h) fun _ H' => Q H') : rSetAny X o v w H Q := by
  unfold setSub at q
  split at q
  · rename_i a
    cases eo : h[a]? with
    | none => rw [eo] at q; exact q.elim
    | some ob =>
      simp only [eo] at q
      split at q
      · rename_i l
        split at q
        · rename_i hc
          rw [Bool.and_eq_true, Bool.and_eq_true] at hc
          obtain ⟨ad, rfl, h2, kvs, h3, h4, h5⟩ := R.refOf tx eo rfl
          obtain ⟨p1, p2⟩ := kput_keys hc.1.1 td h4 h5
          have hl : kvs.length = l.length := by
            have := congrArg List.length h4
            simpa using this
          refine ⟨_, set_dict (by have := xo.room; omega), ad, _, rfl, .inl ⟨kvs, keyOf i, h3, kV_keyOf hc.1.1 ti, by rw [hl, ← size_line]; exact Nat.lt_of_succ_le (Nat.le_of_ble_eq_true hc.2), rfl⟩, ?_⟩
          refine q F ρ _ () (Ext.refl _ _) (R.putAt eo rfl h2 ⟨_, upd_same, p1, p2⟩ (fun B hB hi => ?_) (.inl rfl)) trivial
          have := R.low B hB a _ hi eo
          simp only [obBel] at this ⊢
          exact kput_bel (atom_bel hc.1.1) (stOk_low hbs hc.1.2 B hB hi) this
        · exact q.elim
      · rename_i l
        split at q
        · rename_i k
          rw [dr_int] at ti
          cases ej : ixAt l.length k with
          | none => rw [ej] at q; exact q.elim
          | some j =>
            simp only [ej] at q
            split at q
            · rename_i hc
              obtain ⟨ad, rfl, h2, vs, h3, h4⟩ := R.refOf tx eo rfl
              refine ⟨_, set_list, ad, vs, k, j, rfl, ti, h3, by rw [h4.length, ← ixAt_ixN]; exact ej, ?_⟩
              refine q F ρ _ () (Ext.refl _ _) (R.putAt eo rfl h2 ⟨_, upd_same, h4.set j td⟩ (fun B hB hi => ?_) (.inl rfl)) trivial
              have := R.low B hB a _ hi eo
              simp only [obBel] at this ⊢
              exact bels_set (stOk_low hbs hc B hB hi) this
            · exact q.elim
        · exact q.elim
      · exact q.elim
  · exact q.elim
theorem ng_sub (xo : XO G X) (hbs : BaseOk Bs c.base) (ha : NE G Bs W X c a ea) (hb : NE G Bs W X c b eb)
    (hs : ∀ v, assign (.Subscript a b pos) X.env v = (do
      let ov ← holding [v] (eval a X.env)
      let iv ← holding [v, ov] (eval b X.env)
      standAt pos
      (holding [v, ov, iv] (setItem ov iv v))
      release [v, ov, iv] []) := by intro _; rfl) : NG G Bs W X c (.Subscript a b pos) (.idx ea eb) := by
  unfold NG
  simp only [asg]
  refine pg_imp (pg_sub ha hb set_any hs) fun v σ H Q ⟨F, ρ, τ, h, d, R, S, t, q⟩ => ?_
  refine ⟨F, ρ, τ, h, R, S, (q.bind (T1 := DR G)).quiet_.imp (T' := DR G) fun o H1 ⟨F1, ρ1, x, h1, e1, R1, t1, q1⟩ => ?_⟩
  refine ⟨F1, ρ1, τ, h1, R1, S.mono e1, (q1.bind (T1 := DR G)).quiet_.imp (T' := DR G) fun i H2 ⟨F2, ρ2, y, h2, e2, R2, t2, q2⟩ => ?_⟩
  refine s_set xo hbs R2 (t1.mono e2) t2 ((t.mono e1).mono e2) ((q2.bind (T1 := fun _ _ (_ : Unit) (_ : Unit) => True)).imp (T' := DR G) fun _ H3 ⟨F3, ρ3, _, h3, e3, R3, _, q3⟩ => ?_)
  exact q3.ok_ R3 ((S.mono (e1.trans e2)).mono e3)
theorem Aft.asgO {F : Fh} {ρ : List Addr} {t : PI.T} {d : D} {τ : Sl} {h : Hv} {σ : L2.St} {D' : Ends} {k : Sl → Hv → Out} (S : SlotR G F ρ τ σ) (q : AftS G Bs W F ρ ((asg c t d τ h).out τ k) D') :
    Aft G Bs W σ (SlotR G) F ρ (asg c t d τ h) fun σ1 H1 => ∃ F1 ρ1 τ1 h1, Ext F ρ F1 ρ1 ∧ Rel G Bs F1 ρ1 h1 H1 ∧ SlotR G F1 ρ1 τ1 σ1 ∧ AftS G Bs W F1 ρ1 (k τ1 h1) D' := AftS.out (T := SlotR G) S q
theorem ns_set {tg : Expr} {t : PI.T} (he : NE G Bs W X c a ea) (hg : NG G Bs W X c tg t) (hs : swapsWithSole [tg] a pos.line X.env = pure false := by rfl) (hw : swappedStores [tg] a X.env = pure none := by rfl)
    (h1 : (assignEach [tg] X.env).map (·.2) = [assign tg X.env] := by rfl) : NS G Bs W X c (.Assign [tg] a pos) (.set t ea) := by
  unfold NS
  simp only [ex]
  refine ps_imp (ps_asg he hg hs hw h1) fun D σ H ⟨F, ρ, τ, h, R, S, q⟩ => ⟨F, ρ, τ, h, R, S, (AftS.out (T := DR G) S q).imp (T' := DR G) fun v H1 ⟨F1, ρ1, d, h1, e1, R1, t1, q1⟩ => ?_⟩
  refine ⟨F1, ρ1, τ, h1, d, R1, S.mono e1, t1, (AftS.out (T := SlotR G) (S.mono e1) q1).imp (T' := DR G) fun σ2 H2 ⟨F2, ρ2, τ2, h2, e2, R2, S2, q2⟩ => q2.nx_ R2 S2⟩
/-- a name's store, where the line's own rule for swaps is asked otherwise -/
theorem ns_setN {i : Nat} {x : Str} {pos' : Pos} (hN : X.N.Nodup) (hi : X.N[i]? = some x) (hx : Loc X.env.scope x) (he : NE G Bs W X c a ea) (hs : swapsWith a (some (.Name x pos')) pos.line X.env = pure false := by rfl) (hf : X.fn x = true ∨ X.env.scope.names.lookup x = some .local := by first | exact .inl rfl | exact .inr rfl | assumption) :
    NS G Bs W X c (.Assign [.Name x pos'] a pos) (.set (.var i) ea) := by
  unfold NS
  simp only [ex, asg]
  refine ps_imp (ps_set hN hi hx he hs hf) fun D σ H ⟨F, ρ, τ, h, R, S, q⟩ => ⟨F, ρ, τ, h, R, S, (AftS.out (T := DR G) S q).imp (T' := DR G) fun v H1 ⟨F1, ρ1, d, h1, e1, R1, t1, q1⟩ => ?_⟩
  by_cases hl : i < τ.length
  · rw [if_pos hl] at q1
    exact q1.nx_ R1 ((S.mono e1).set hl t1)
  · rw [if_neg hl] at q1
    exact q1.elim
/-- self.f = value -/
theorem fput_fr {F : Fh} {ρ : List Addr} {f : Nat} {d : D} {v : V} (td : DR G F ρ d v) : ∀ {fs : List (Nat × D)} {gs : List (Str × V)}, FRs G F ρ fs gs → FRs G F ρ (fput f d fs) (putF (G.nm f) v gs)
  | [], gs, h => by
    simp only [FRs] at h
    subst h
    simp only [fput, putF, FRs]
    exact ⟨v, [], rfl, td, rfl⟩
  | (g, x) :: fs, gs, h => by
    simp only [FRs] at h
    obtain ⟨w, r, rfl, h1, h2⟩ := h
    simp only [fput]
    split
    · rename_i hg
      subst hg
      simp only [putF, if_true, FRs]
      exact ⟨v, r, rfl, td, h2⟩
    · rename_i hg
      have hne : ¬ G.nm g = G.nm f := fun z => hg (G.nmI _ _ z)
      simp only [putF, if_neg hne, FRs]
      exact ⟨w, _, rfl, h1, fput_fr td h2⟩
theorem fput_bel {n f : Nat} {d : D} (hd : D.bel n d = true) : ∀ {fs : List (Nat × D)}, (fs.all fun p => D.bel n p.2) = true → ((fput f d fs).all fun p => D.bel n p.2) = true
  | [], _ => by simp [fput, hd]
  | (g, x) :: fs, h => by
    (simp only [List.all_cons, Bool.and_eq_true] at h)
    simp only [fput]
    split
    · simp only [List.all_cons, Bool.and_eq_true]; exact ⟨hd, h.2⟩
    · simp only [List.all_cons, Bool.and_eq_true]; exact ⟨h.1, fput_bel hd h.2⟩
theorem fr_len {F : Fh} {ρ : List Addr} : ∀ {fs : List (Nat × D)} {gs : List (Str × V)}, FRs G F ρ fs gs → gs.length = fs.length
  | [], gs, h => by simp only [FRs] at h; subst h; rfl
  | (g, x) :: fs, gs, h => by
    simp only [FRs] at h
    obtain ⟨w, r, rfl, h1, h2⟩ := h
    rw [List.length_cons, List.length_cons, fr_len h2]
theorem ins_put {base : Nat} (hbs : BaseOk Bs base) {F : Fh} {ρ : List Addr} {h : Hv} {H : L2.Hp} {i k f : Nat} {a dx : Addr} {fs : List (Nat × D)} {gs : List (Str × V)} {d : D} {w : V} (R : Rel G Bs F ρ h H) (eo : h[i]? = some (.ins k fs)) (ha : ρ[i]? = some a)
    (t : FRs G F ρ fs gs) (td : DR G F ρ d w) (hs : stOk base i d = true) : Rel G Bs F ρ (h.set i (.ins k (fput f d fs))) (L2.upd H a (.ins (G.cls k) dx (putF (G.nm f) w gs))) := by
  refine R.putAt eo rfl ha ⟨dx, _, upd_same, fput_fr td t⟩ (fun B hB hi => ?_) (.inl rfl)
  have := R.low B hB i _ hi eo
  simp only [obBel] at this ⊢
  exact fput_bel (stOk_low hbs hs B hB hi) this
theorem ns_fld {f : Nat} {x : Str} {pos' : Pos} (xo : XO G X) (hbs : BaseOk Bs c.base) (A : AttOk G f) (hx : G.nm f = x) (ha : NE G Bs W X c a ea) (hb : NE G Bs W X c b eb) (hs : swapsWith b (some (.Attribute a x pos')) pos.line X.env = pure false := by rfl) :
    NS G Bs W X c (.Assign [.Attribute a x pos'] b pos) (.set (.att ea f) eb) := by
  unfold NS
  simp only [ex, asg]
  refine ps_imp (ps_fld ha hb hs) fun D σ H ⟨F, ρ, τ, h, R, S, q⟩ => ⟨F, ρ, τ, h, R, S, (AftS.out (T := DR G) S q).imp (T' := DR G) fun w H1 ⟨F1, ρ1, d, h1, e1, R1, t1, q1⟩ => ?_⟩
  have q1 := (AftS.out (T := SlotR G) (S.mono e1) q1)
  refine ⟨F1, ρ1, τ, h1, R1, S.mono e1, (q1.bind (T1 := DR G)).quiet_.imp (T' := DR G) fun v H2 ⟨F2, ρ2, y, h2, e2, R2, t2, q2⟩ => ?_⟩
  have q2 := q2.bind (T1 := fun _ _ (_ : Unit) (_ : Unit) => True)
  unfold setFld at q2
  cases e : insOf h2 y with
  | none => rw [e] at q2; exact q2.elim
  | some p =>
    obtain ⟨i, k, fs⟩ := p
    simp only [e] at q2
    split at q2
    · rename_i hc
      rw [Bool.and_eq_true] at hc
      obtain ⟨ad, dx, gs, rfl, g1, g2, g3, g4⟩ := R2.ins t2 e
      refine ⟨ad, G.cls k, dx, gs, rfl, g3, by rw [xo.K]; exact A.cls k, by rw [xo.K, ← hx]; exact A.no k, by rw [fr_len g4]; exact Nat.lt_of_succ_le (Nat.le_of_ble_eq_true hc.2), ?_⟩
      rw [← hx]
      obtain ⟨F3, ρ3, _, h3, e3, R3, _, q3⟩ := q2 F2 ρ2 _ () (Ext.refl _ _) (ins_put hbs R2 g2 g1 g4 (t1.mono e2) hc.1) trivial
      obtain ⟨F4, ρ4, τ4, h4, e4, R4, S4, q4⟩ := q3.ok_ R3 ((S.mono (e1.trans e2)).mono e3)
      exact q4.nx_ R4 S4
    · exact q2.elim
/-! ### a op= b, ints -/
theorem aug_cases {o : BO} {x y : D} {h : Hv} {F : Fh} {ρ : List Addr} {H : L2.Hp} {σ : L2.St} {v w : V} {Q : VK} (R : Rel G Bs F ρ h H) (tx : DR G F ρ x v) (ty : DR G F ρ y w) (q : Aft G Bs W σ (DR G) F ρ (augD o x y h) Q) :
    ∃ i j, v = .int i ∧ w = .int j ∧ ((o = .add ∧ Q (.int (i + j)) H) ∨ (o = .sub ∧ Q (.int (i - j)) H)) := by
  unfold augD at q
  split at q
  · rename_i i j
    rw [dr_int] at tx ty
    refine ⟨i, j, tx, ty, ?_⟩
    split at q
    · exact .inl ⟨rfl, q.ok_ R (dr_int.mpr rfl)⟩
    · exact .inr ⟨rfl, q.ok_ R (dr_int.mpr rfl)⟩
    · exact q.elim
  · exact q.elim
/-- which augmented operator -/
inductive AugOf : BO → Operator → (Int → Int → Int) → Prop
  | add : AugOf .add .Add fun i j => i + j
  | sub : AugOf .sub .Sub fun i j => i - j
theorem ns_aug {i : Nat} {x : Str} {o : BO} {op : Operator} {f : Int → Int → Int} {pos' : Pos} (k : AugOf o op f) (hN : X.N.Nodup) (hi : X.N[i]? = some x) (hx : Loc X.env.scope x) (he : NE G Bs W X c a ea) (hf : X.fn x = true ∨ X.env.scope.names.lookup x = some .local := by first | exact .inl rfl | exact .inr rfl | assumption) :
    NS G Bs W X c (.AugAssign (.Name x pos') op a pos) (.aug o (.var i) ea) := by
  have ip : PIp X op (ipI f) := by cases k; exact ip_add; exact ip_sub
  unfold NS
  simp only [ex]
  refine ps_imp (ps_aug hN hi hx he ip hf) fun D σ H ⟨F, ρ, τ, h, R, S, q⟩ => ?_
  simp only [ev] at q
  cases et : τ[i]? with
  | none => simp only [et] at q; exact q.elim
  | some od =>
    cases od with
    | none => simp only [et] at q; exact q.elim
    | some d =>
      simp only [et] at q
      obtain ⟨v, g1, g2⟩ := S.at_ i d et
      refine ⟨v, g1, F, ρ, τ, h, R, S, (AftS.out (T := DR G) S (show AftS G Bs W F ρ ((ev c τ ea h).out τ _) D from q)).imp (T' := DR G) fun w H1 ⟨F1, ρ1, y, h1, e1, R1, t1, q1⟩ => ?_⟩
      obtain ⟨m, n, rfl, rfl, h2⟩ := aug_cases R1 (g2.mono e1) t1 (AftS.out (T := DR G) (S.mono e1) q1)
      refine ⟨m, n, rfl, rfl, ?_⟩
      have hl : i < τ.length := (List.getElem?_eq_some_iff.mp et).1
      have fin : ∀ (z : V), (∃ F2 ρ2 a h3, Ext F1 ρ1 F2 ρ2 ∧ Rel G Bs F2 ρ2 h3 H1 ∧ DR G F2 ρ2 a z ∧ AftS G Bs W F2 ρ2 (if i < τ.length then Out.nx (τ.set i (some a)) h3 else Out.no 501) D) → D.nx (σ.set i (some z)) H1 := fun z ⟨F2, ρ2, a, h3, e2, R2, t2, q2⟩ => by
        rw [if_pos hl] at q2
        exact q2.nx_ R2 ((S.mono (e1.trans e2)).set hl t2)
      cases k with
      | add =>
        rcases h2 with ⟨_, h2⟩ | ⟨z, _⟩
        · exact fin _ h2
        · cases z
      | sub =>
        rcases h2 with ⟨z, _⟩ | ⟨_, h2⟩
        · cases z
        · exact fin _ h2
theorem ns_fldaug {f : Nat} {x : Str} {o : BO} {op : Operator} {g : Int → Int → Int} {tpos : Pos} (k : AugOf o op g) (xo : XO G X) (hbs : BaseOk Bs c.base) (A : AttOk G f) (hx : G.nm f = x) (ha : NE G Bs W X c a ea) (hb : NE G Bs W X c b eb) :
    NS G Bs W X c (.AugAssign (.Attribute a x tpos) op b pos) (.aug o (.att ea f) eb) := by
  have ip : InOp X op (rI0 fun i j => .int (g i j)) := by cases k; exact iop_add; exact iop_sub
  unfold NS
  simp only [ex]
  refine ps_imp (ps_fldaug ha hb ip) fun D σ H ⟨F, ρ, τ, h, R, S, q⟩ => ⟨F, ρ, τ, h, R, S, (AftS.out (T := DR G) S q).imp (T' := DR G) fun v H1 ⟨F1, ρ1, d, h1, e1, R1, t1, q1⟩ => ?_⟩
  cases e : insOf h1 d with
  | none => rw [e] at q1; exact q1.elim
  | some p =>
    obtain ⟨i, kk, fs⟩ := p
    simp only [e] at q1
    cases ef : fget f fs with
    | none => rw [ef] at q1; exact q1.elim
    | some z =>
      simp only [ef] at q1
      obtain ⟨ad, dx, gs, rfl, g1, g2, g3, g4⟩ := R1.ins t1 e
      obtain ⟨w, g5, g6⟩ := fr_lookup g4 ef
      rw [← hx]
      refine ⟨ad, G.cls kk, dx, gs, w, rfl, g3, by rw [xo.K]; exact A.cls kk, by rw [xo.K]; exact A.no kk, g5, F1, ρ1, τ, h1, R1, S.mono e1, (AftS.out (T := DR G) (S.mono e1) q1).imp (T' := DR G) fun y H2 ⟨F2, ρ2, dy, h2, e2, R2, t2, q2⟩ => ?_⟩
      obtain ⟨m, n, rfl, rfl, h3⟩ := aug_cases R2 (g6.mono e2) t2 (AftS.out (T := DR G) (S.mono (e1.trans e2)) q2)
      refine ⟨m, n, rfl, rfl, ?_⟩
      have fin : ∀ (zv : V), (∃ F3 ρ3 a h4, Ext F2 ρ2 F3 ρ3 ∧ Rel G Bs F3 ρ3 h4 H2 ∧ DR G F3 ρ3 a zv ∧ AftS G Bs W F3 ρ3 ((setFldC c.base kk d f a h4).out τ fun _ h5 => .nx τ h5) D) →
          ∃ dx' fs', H2 ad = some (.ins (G.cls kk) dx' fs') ∧ fs'.length < 1000 ∧ D.nx σ (L2.upd H2 ad (.ins (G.cls kk) dx' (putF (G.nm f) zv fs'))) := fun zv ⟨F3, ρ3, az, h4, e3, R3, t3, q3⟩ => by
        have q4 := AftS.out (T := fun _ _ (_ : Unit) (_ : Unit) => True) (S.mono (e1.trans (e2.trans e3))) q3
        clear q3
        unfold setFldC at q4
        cases e' : insOf h4 d with
        | none => rw [e'] at q4; exact q4.elim
        | some p' =>
          obtain ⟨i', kk', fs'⟩ := p'
          simp only [e'] at q4
          split at q4
          · rename_i hk
            subst hk
            split at q4
            · rename_i hc
              rw [Bool.and_eq_true] at hc
              obtain ⟨ad', dx', gs', ev', g1', g2', g3', g4'⟩ := R3.ins (t1.mono (e2.trans e3)) e'
              obtain rfl : ad = ad' := by injection ev'
              refine ⟨dx', gs', g3', by rw [fr_len g4']; exact Nat.lt_of_succ_le (Nat.le_of_ble_eq_true hc.2), ?_⟩
              obtain ⟨F4, ρ4, _, h5, e5, R5, _, q5⟩ := q4 F3 ρ3 _ () (Ext.refl _ _) (ins_put hbs R3 g2' g1' g4' t3 hc.1) trivial
              exact q5.nx_ R5 ((S.mono (e1.trans (e2.trans e3))).mono e5)
            · exact q4.elim
          · exact q4.elim
      cases k with
      | add =>
        rcases h3 with ⟨_, h3⟩ | ⟨z, _⟩
        · exact fin _ h3
        · cases z
      | sub =>
        rcases h3 with ⟨z, _⟩ | ⟨_, h3⟩
        · cases z
        · exact fin _ h3

/-! ### a, b = x, y -/
/-- two plain names -/
theorem ns_par2 {i j : Nat} {x y : Str} {px py pt pt2 : Pos} {kt k2 : Nat} (hc : X.calm = true) (hN : X.N.Nodup) (hi : X.N[i]? = some x) (hj : X.N[j]? = some y) (hij : i ≠ j)
    (hx : X.env.scope.names.lookup x = some .local) (hy : X.env.scope.names.lookup y = some .local) (ha : NA G Bs W X c [a, b] [ea, eb])
    (hw : (swappedStores [.Tuple [.Name x px, .Name y py] kt pt] (.Tuple [a, b] k2 pt2) X.env = pure (some [x, y])))
    (hs : (swapsWithSole [.Tuple [.Name x px, .Name y py] kt pt] (.Tuple [a, b] k2 pt2) pos.line X.env = pure false) := by rfl) :
    NS G Bs W X c (.Assign [.Tuple [.Name x px, .Name y py] kt pt] (.Tuple [a, b] k2 pt2) pos) (.par [.var i, .var j] [ea, eb]) := by
  unfold NS
  simp only [ex]
  refine ps_imp (ps_par hc hN hi hj hij hx hy ha hw hs) fun D σ H ⟨F, ρ, τ, h, R, S, q⟩ => ⟨F, ρ, τ, h, R, S, (AftS.out (T := DRs G) S q).imp (T' := DR G) fun vs H1 ⟨F1, ρ1, ds, h1, e1, R1, t1, q1⟩ => ?_⟩
  have q1 := AftS.out (T := SlotR G) (S.mono e1) q1
  match ds, vs, t1, q1 with
  | [d1, d2], vs, t1, q1 =>
    simp only [DRs] at t1
    obtain ⟨v, _, rfl, t1, w, _, rfl, t2, rfl⟩ := t1
    refine ⟨v, w, rfl, ?_⟩
    simp only [asgs, asg, List.length_set] at q1
    by_cases h1 : i < τ.length
    · simp only [if_pos h1, Res.bind, List.length_set] at q1
      by_cases h2 : j < τ.length
      · simp only [if_pos h2] at q1
        obtain ⟨F2, ρ2, τ2, hh2, e2, R2, S2, q2⟩ := q1.ok_ R1 (((S.mono e1).set h1 t1).set (by rw [List.length_set]; exact h2) t2)
        exact q2.nx_ R2 S2
      · simp only [if_neg h2] at q1
        exact q1.elim
    · simp only [if_neg h1, Res.bind] at q1
      exact q1.elim
  | [], vs, t1, q1 => simp only [asgs] at q1; exact q1.elim
  | [d], vs, t1, q1 =>
    simp only [asgs, asg] at q1
    by_cases h1 : i < τ.length
    · simp only [if_pos h1, Res.bind] at q1
      exact q1.elim
    · simp only [if_neg h1, Res.bind] at q1
      exact q1.elim
  | d1 :: d2 :: d3 :: ds, vs, t1, q1 =>
    simp only [asgs, asg, List.length_set] at q1
    by_cases h1 : i < τ.length
    · simp only [if_pos h1, Res.bind, List.length_set] at q1
      by_cases h2 : j < τ.length
      · simp only [if_pos h2] at q1
        exact q1.elim
      · simp only [if_neg h2] at q1
        exact q1.elim
    · simp only [if_neg h1, Res.bind] at q1
      exact q1.elim
/-- any targets: the tuple is made -/
theorem ns_par {tgs as : List Expr} {ts : List PI.T} {es : List E} {kt k2 : Nat} {pt pt2 : Pos} (xo : XO G X) (ha : NA G Bs W X c as es) (hg : NGs G Bs W X c tgs ts) (hl : es.length = as.length := by rfl) (hl2 : tgs.length = as.length := by rfl) (h5 : as.length ≤ 100000 := by decide)
    (hn : (assignEach tgs X.env).length = tgs.length := by rfl) (hst : (assignEach tgs X.env).findIdx? (·.1) = none := by rfl)
    (hs : swapsWithSole [.Tuple tgs kt pt] (.Tuple as k2 pt2) pos.line X.env = pure false := by rfl) (hw : swappedStores [.Tuple tgs kt pt] (.Tuple as k2 pt2) X.env = pure none := by rfl)
    (h1 : (assignEach [.Tuple tgs kt pt] X.env).map (·.2) = [assign (.Tuple tgs kt pt) X.env] := by rfl) : NS G Bs W X c (.Assign [.Tuple tgs kt pt] (.Tuple as k2 pt2) pos) (.par ts es) := by
  unfold NS
  simp only [ex]
  refine ps_imp (ps_asg (pe_tup ha) (pg_tup xo.calm hg hn hst) hs hw h1) fun D σ H ⟨F, ρ, τ, h, R, S, q⟩ => ⟨F, ρ, τ, h, R, S, ?_⟩
  have q0 := AftS.out (T := DRs G) S q
  have key : ∀ {xs h1}, evs c τ es h = .ok xs h1 → xs.length = as.length := fun {xs h1} e => by rw [evs_length c τ e, hl]
  cases e : evs c τ es h with
  | ok xs h1 =>
    rw [e] at q0
    dsimp only
    rw [e]
    intro F' ρ' H' vs e' R' t
    have hlen : vs.length = as.length := by rw [t.length, key e]
    refine ⟨by rw [hlen]; exact Nat.le_trans h5 (by decide), fun p hp => ?_⟩
    obtain ⟨F1, ρ1, ds, h2, e1, R1, t1, q1⟩ := q0 F' ρ' H' vs e' R' t
    obtain ⟨R2, t2, e2⟩ := R1.tup hp t1
    have S2 := S.mono (e1.trans e2)
    refine ⟨p, vs, rfl, .inl (.inl upd_same), by rw [hlen, hl2], _, ρ1, τ, h2, ds, R2, S2, t1.mono e2, (AftS.out (T := SlotR G) S2 (q1.mono e2)).imp (T' := DR G) fun σ3 H3 ⟨F3, ρ3, τ3, h3, e3, R3, S3, q3⟩ => q3.nx_ R3 S3⟩
  | ex cc h1 => rw [e] at q0; dsimp only; rw [e]; exact q0
  | no w => rw [e] at q0; exact q0.elim
end
end PI

/-! SI: loops, what they walk. -/
set_option linter.all false
set_option maxRecDepth 100000
namespace PI
open PySem PySem.Spec L2 PyProof.Rows

/-- the iterator J walks the items xs, wherever the heap has gone on to -/
def WalkR (G : GT) (F : Fh) (ρ : List Addr) (xs : List D) (J : It) : Prop :=
  ∀ Bs F1 ρ1 h H, Ext F ρ F1 ρ1 → Rel G Bs F1 ρ1 h H → (∀ (i : Nat) (x : D), xs[i]? = some x → J.go i H ∧ ∀ v H', J.yld i H v H' → ∃ F2 ρ2, Ext F1 ρ1 F2 ρ2 ∧ Rel G Bs F2 ρ2 h H' ∧ DR G F2 ρ2 x v) ∧ J.stop xs.length H
def iEv (G : GT) (Bs : List Nat) (W : WX) (f : Sl → Hv → Res (List D)) : TI := fun σ H R => ∃ F ρ τ h, Rel G Bs F ρ h H ∧ SlotR G F ρ τ σ ∧ Aft G Bs W σ (WalkR G) F ρ (f τ h) R
section
variable (G : GT) (Bs : List Nat) (W : WX) (X : Cx) (c : Cc)
abbrev NI (tg a : Expr) (i : I) : Prop := L2.PI X tg a (iEv G Bs W fun τ h => evI c τ i h)
end
section
variable {G : GT} {Bs : List Nat} {W : WX} {X : Cx} {c : Cc} {a b d tg : Expr} {e ea eb ed : E} {pos p : Pos} {F : Fh} {ρ : List Addr}
/-- a walk whose items do not hang on the heap -/
theorem walk_pure {xs : List D} {J : It} (h1 : ∀ Bs F1 ρ1 h H, Ext F ρ F1 ρ1 → Rel G Bs F1 ρ1 h H → (∀ (i : Nat) (x : D), xs[i]? = some x → J.go i H ∧ ∀ v H', J.yld i H v H' → H' = H ∧ DR G F1 ρ1 x v) ∧ J.stop xs.length H) : WalkR G F ρ xs J := fun Bs F1 ρ1 h H e R =>
  let ⟨g1, g2⟩ := h1 Bs F1 ρ1 h H e R
  ⟨fun i x hx => ⟨(g1 i x hx).1, fun v H' y => ⟨F1, ρ1, Ext.refl _ _, by rw [((g1 i x hx).2 v H' y).1]; exact R, ((g1 i x hx).2 v H' y).2⟩⟩, g2⟩
theorem ni_list (xo : XO G X) (ha : NE G Bs W X c a ea) : NI G Bs W X c tg a (.seq ea) := by
  unfold NI
  simp only [evI]
  refine pi_imp (pi_list ha) fun σ H R ⟨F, ρ, τ, h, R0, S, q⟩ => ⟨F, ρ, τ, h, R0, S, (q.bind (T1 := DR G)).imp (T' := DR G) fun v H1 ⟨F1, ρ1, x, h1, e1, R1, t1, q1⟩ => ?_⟩
  split at q1
  · rename_i l
    simp only [DR] at t1
    obtain ⟨ad, vs, rfl, h2, h3⟩ := t1
    have hq : SqL G.K H1 ad vs := .inl (.inl (R1.same _ _ h2))
    refine ⟨ad, rfl, ⟨vs, by rw [xo.K]; exact hq⟩, ?_⟩
    rw [xo.K]
    refine q1.ok_ R1 (walk_pure fun Bs F2 ρ2 h2' H2 e R2 => ?_)
    have hq2 : SqL G.K H2 ad vs := .inl (.inl (R2.same _ _ (e.same _ _ h2)))
    refine ⟨fun i x hx => ?_, vs, hq2, by rw [h3.length]; exact Nat.le_refl _⟩
    obtain ⟨v, g1, g2⟩ := h3.get hx
    refine ⟨⟨vs, v, hq2, g1⟩, fun w H' ⟨y1, y2⟩ => ⟨y1, ?_⟩⟩
    have := y2 vs hq2
    rw [g1] at this
    cases this
    exact g2.mono e
  · exact q1.elim
theorem signs_get {s : List Nat} {i : Nat} {x : D} (h : (signs s)[i]? = some x) : ∃ k, s[i]? = some k ∧ x = .str [k] := by
  unfold signs at h
  rw [List.getElem?_map] at h
  obtain ⟨k, h1, h2⟩ := Option.map_eq_some_iff.mp h
  exact ⟨k, h1, h2.symm⟩
theorem ni_str (ha : NE G Bs W X c a ea) : NI G Bs W X c tg a (.str ea) := by
  unfold NI
  simp only [evI]
  refine pi_imp (pi_str ha) fun σ H R ⟨F, ρ, τ, h, R0, S, q⟩ => ⟨F, ρ, τ, h, R0, S, (q.bind (T1 := DR G)).imp (T' := DR G) fun v H1 ⟨F1, ρ1, x, h1, e1, R1, t1, q1⟩ => ?_⟩
  split at q1
  · rename_i s
    rw [dr_str] at t1
    refine ⟨_, t1, q1.ok_ R1 (walk_pure fun Bs F2 ρ2 h2 H2 e R2 => ⟨fun i x hx => ?_, ?_⟩)⟩
    · obtain ⟨k, g1, rfl⟩ := signs_get hx
      refine ⟨?_, fun w H' ⟨y1, k', g2, g3⟩ => ⟨y1, ?_⟩⟩
      · show i < s.toArray.size
        rw [List.size_toArray]
        exact (List.getElem?_eq_some_iff.mp g1).1
      · have : s[i]? = some k' := by simpa using g2
        rw [g1] at this
        cases this
        rw [g3]
        exact dr_str.mpr rfl
    · show s.toArray.size ≤ _
      simp [signs]
  · exact q1.elim
theorem rangeL_get : ∀ {n : Nat} {lo c : Int} {i : Nat} {x : D}, (rangeL lo c n)[i]? = some x → i < n ∧ x = .int (lo + (i : Nat) * c)
  | 0, lo, c, i, x, h => by simp [rangeL] at h
  | n + 1, lo, c, 0, x, h => by
    simp [rangeL] at h
    exact ⟨Nat.succ_pos _, by rw [← h]; simp⟩
  | n + 1, lo, c, i + 1, x, h => by
    simp only [rangeL, List.getElem?_cons_succ] at h
    obtain ⟨h1, h2⟩ := rangeL_get h
    refine ⟨Nat.succ_lt_succ h1, ?_⟩
    rw [h2]
    congr 1
    rw [Int.natCast_succ, Int.add_mul]
    omega
theorem rangeL_length : ∀ (n : Nat) (lo c : Int), (rangeL lo c n).length = n
  | 0, _, _ => rfl
  | n + 1, lo, c => by rw [rangeL, List.length_cons, rangeL_length n]
theorem ni_range1 (hg : Gl X "range") (hm : X.mg "range" = none) (ha : NE G Bs W X c a ea) (hs : starEach [a] X.env = [(false, eval a X.env)] := by rfl) : NI G Bs W X c tg (.Call (.Name "range" p) [a] [] pos) (.rng [ea]) := by
  unfold NI
  simp only [evI]
  refine pi_imp (pi_range1 hg hm (na_cons ha na_nil hs) hs) fun σ H R ⟨F, ρ, τ, h, R0, S, q⟩ => ⟨F, ρ, τ, h, R0, S, (q.bind (T1 := DRs G)).imp (T' := DR G) fun v H1 ⟨F1, ρ1, x, h1, e1, R1, t1, q1⟩ => ?_⟩
  simp only [rngD, List.length_cons, List.length_nil, Nat.zero_add] at q1
  split at q1
  · rename_i n
    split at q1
    · rename_i hc
      simp only [DRs] at t1
      obtain ⟨v, _, rfl, t1, rfl⟩ := t1
      rw [dr_int] at t1
      subst t1
      refine ⟨n, rfl, by omega, by omega, q1.ok_ R1 (walk_pure fun Bs F2 ρ2 h2 H2 e R2 => ⟨fun i x hx => ?_, ?_⟩)⟩
      · obtain ⟨g1, rfl⟩ := rangeL_get hx
        refine ⟨g1, fun w H' ⟨y1, y2⟩ => ⟨y1, ?_⟩⟩
        rw [y2]
        refine dr_int.mpr ?_
        rw [Int.mul_one]
      · show n.toNat ≤ _
        rw [rangeL_length]
        exact Nat.le_refl _
    · exact q1.elim
  · exact q1.elim
theorem ni_range2 (hg : Gl X "range") (hm : X.mg "range" = none) (ha : NE G Bs W X c a ea) (hb : NE G Bs W X c b eb) (hs : starEach [a, b] X.env = [(false, eval a X.env), (false, eval b X.env)] := by rfl) (hs2 : starEach [b] X.env = [(false, eval b X.env)] := by rfl) :
    NI G Bs W X c tg (.Call (.Name "range" p) [a, b] [] pos) (.rng [ea, eb]) := by
  unfold NI
  simp only [evI]
  refine pi_imp (pi_range2 hg hm (na_cons ha (na_cons hb na_nil hs2) (by rw [hs, hs2])) hs hs2) fun σ H R ⟨F, ρ, τ, h, R0, S, q⟩ => ⟨F, ρ, τ, h, R0, S, (q.bind (T1 := DRs G)).imp (T' := DR G) fun v H1 ⟨F1, ρ1, x, h1, e1, R1, t1, q1⟩ => ?_⟩
  simp only [rngD, List.length_cons, List.length_nil, Nat.zero_add] at q1
  split at q1
  · rename_i n m
    split at q1
    · rename_i hc
      simp only [DRs] at t1
      obtain ⟨v, _, rfl, t1, v2, _, rfl, t2, rfl⟩ := t1
      rw [dr_int] at t1 t2
      subst t1 t2
      refine ⟨n, m, rfl, ⟨by omega, by omega, by omega, by omega⟩, q1.ok_ R1 (walk_pure fun Bs F2 ρ2 h2 H2 e R2 => ⟨fun i x hx => ?_, ?_⟩)⟩
      · obtain ⟨g1, rfl⟩ := rangeL_get hx
        refine ⟨g1, fun w H' ⟨y1, y2⟩ => ⟨y1, ?_⟩⟩
        rw [y2]
        refine dr_int.mpr ?_
        rw [Int.mul_one]
      · show (m - n).toNat ≤ _
        rw [rangeL_length]
        exact Nat.le_refl _
    · exact q1.elim
  · exact q1.elim
theorem ni_range3 (hg : Gl X "range") (hm : X.mg "range" = none) (ha : NE G Bs W X c a ea) (hb : NE G Bs W X c b eb) (hd : NE G Bs W X c d ed) (hs : starEach [a, b, d] X.env = (false, eval a X.env) :: starEach [b, d] X.env := by rfl) (hs2 : starEach [b, d] X.env = (false, eval b X.env) :: starEach [d] X.env := by rfl)
    (hs3 : starEach [d] X.env = [(false, eval d X.env)] := by rfl) (hpl : (backTo pos (starEach [b, d] X.env)).any (·.1) = false := by rfl) :
    NI G Bs W X c tg (.Call (.Name "range" p) [a, b, d] [] pos) (.rng [ea, eb, ed]) := by
  unfold NI
  simp only [evI]
  refine pi_imp (pi_range3 hg hm (na_cons ha (na_cons hb (na_cons hd na_nil hs3) hs2) hs) hs hpl) fun σ H R ⟨F, ρ, τ, h, R0, S, q⟩ => ⟨F, ρ, τ, h, R0, S, (q.bind (T1 := DRs G)).imp (T' := DR G) fun v H1 ⟨F1, ρ1, x, h1, e1, R1, t1, q1⟩ => ?_⟩
  simp only [rngD, List.length_cons, List.length_nil, Nat.zero_add] at q1
  split at q1
  · rename_i n m k
    split at q1
    · rename_i hc
      obtain ⟨rfl, hc1, hc2, hc3, hc4, hc5⟩ := hc
      simp only [DRs] at t1
      obtain ⟨v, _, rfl, t1, v2, _, rfl, t2, v3, _, rfl, t3, rfl⟩ := t1
      rw [dr_int] at t1 t2 t3
      subst t1 t2 t3
      refine ⟨n, m, -1, (n - m).toNat, rfl, RgC.neg (by omega) (by omega) (by omega) (by omega), q1.ok_ R1 (walk_pure fun Bs F2 ρ2 h2 H2 e R2 => ⟨fun i x hx => ?_, ?_⟩)⟩
      · obtain ⟨g1, rfl⟩ := rangeL_get hx
        refine ⟨g1, fun w H' ⟨y1, y2⟩ => ⟨y1, ?_⟩⟩
        rw [y2]
        exact dr_int.mpr rfl
      · show (n - m).toNat ≤ _
        rw [rangeL_length]
        exact Nat.le_refl _
    · exact q1.elim
  · exact q1.elim

/-! ### for -/
theorem ns_for {body : List Stmt} {t : PI.T} {i : I} {ss : List S} (hp : PassesOwn (model X.prog X.w) X.A X.env X.xe) (hc : X.calm = true) (hi : NI G Bs W X c tg a i) (hg : NG G Bs W X c tg t) (hb : NSs G Bs W X c body ss)
    (hs : ∀ x, foldedSetIterable a X.env x = pure x := by intro _; rfl) : NS G Bs W X c (.For tg a body [] pos) (.fr t i ss) := by
  unfold NS
  simp only [ex]
  refine ps_imp (ps_for hp hc hi hg hb hs) fun D σ H ⟨F, ρ, τ, h, R, S, q⟩ => ⟨F, ρ, τ, h, R, S, (AftS.out (T := WalkR G) S q).imp (T' := DR G) fun J H1 ⟨F1, ρ1, xs, h1, e1, R1, w1, q1⟩ => ?_⟩
  refine ⟨fun i m σ H => m + i = xs.length ∧ ∃ F2 ρ2 τ2 h2, Ext F1 ρ1 F2 ρ2 ∧ Rel G Bs F2 ρ2 h2 H ∧ SlotR G F2 ρ2 τ2 σ ∧ AftS G Bs W F2 ρ2 (floop (fun d σ h => asg c t d σ h) (fun σ h => exs c ss σ h) (xs.drop i) τ2 h2) D,
    ⟨xs.length, by omega, F1, ρ1, τ, h1, Ext.refl _ _, R1, S.mono e1, by simpa using q1⟩, fun i m σ2 H2 ⟨hm, F2, ρ2, τ2, h2, e2, R2, S2, q2⟩ => ?_⟩
  obtain ⟨g1, g2⟩ := w1 Bs F2 ρ2 h2 H2 e2 R2
  by_cases hlt : i < xs.length
  · right
    have hx : xs[i]? = some xs[i] := List.getElem?_eq_getElem hlt
    obtain ⟨k1, k2⟩ := g1 i _ hx
    rw [List.drop_eq_getElem_cons hlt, floop] at q2
    refine ⟨k1, fun σ' H' => (m - 1) + (i + 1) = xs.length ∧ ∃ F2 ρ2 τ2 h2, Ext F1 ρ1 F2 ρ2 ∧ Rel G Bs F2 ρ2 h2 H' ∧ SlotR G F2 ρ2 τ2 σ' ∧ AftS G Bs W F2 ρ2 (floop (fun d σ h => asg c t d σ h) (fun σ h => exs c ss σ h) (xs.drop (i + 1)) τ2 h2) D,
      fun σ' H' z => ⟨m - 1, by omega, z⟩, fun x H' y => ?_⟩
    obtain ⟨F3, ρ3, e3, R3, t3⟩ := k2 x H' y
    refine ⟨F3, ρ3, τ2, h2, xs[i], R3, S2.mono e3, t3, (AftS.out (T := SlotR G) (S2.mono e3) (q2.mono e3)).imp (T' := DR G) fun σ4 H4 ⟨F4, ρ4, τ4, h4, e4, R4, S4, q4⟩ => ?_⟩
    refine ⟨F4, ρ4, τ4, h4, R4, S4, ?_⟩
    have hm' : m - 1 + (i + 1) = xs.length := by omega
    dsimp only
    cases eb : exs c ss τ4 h4 with
    | nx τ5 h5 =>
      rw [eb] at q4
      exact fun F5 ρ5 H5 σ5 e5 R5 S5 => ⟨hm', F5, ρ5, τ5, h5, (e2.trans e3).trans (e4.trans e5), R5, S5, q4.mono e5⟩
    | ct τ5 h5 =>
      rw [eb] at q4
      exact fun F5 ρ5 H5 σ5 e5 R5 S5 => ⟨hm', F5, ρ5, τ5, h5, (e2.trans e3).trans (e4.trans e5), R5, S5, q4.mono e5⟩
    | bk τ5 h5 => rw [eb] at q4; exact q4
    | rt d h5 => rw [eb] at q4; exact q4
    | ex k τ5 h5 => rw [eb] at q4; exact q4
    | no w => rw [eb] at q4; exact q4
  · left
    have he : i = xs.length := by omega
    subst he
    rw [List.drop_length, floop] at q2
    exact ⟨g2, q2.nx_ R2 S2⟩
end
end PI

/-! SJ: enumerate over a list, a tuple, a text. -/
set_option linter.all false
set_option maxRecDepth 100000
namespace PI
open PySem PySem.Spec L2 PyProof.Rows

/-- what an enumerate draws from: the inner iterator it, its state, what must stand in the abstract heap -/
structure Src (P : Program) (w : World) (K : PySem.W.Frag) (xs : List V) (it : Addr) (ist : Nat → Heap → Prop) (ok : L2.Hp → Prop) : Prop where
  obj : ∀ i h, ist i h → ∃ o, h.get? it = some o ∧ ∀ v, o.data ≠ .cell v
  keep : ∀ i h h', ist i h → (∀ o, h.get? it = some o → h'.get? it = some o) → ist i h'
  draws : ∀ (X : Cx), X.prog = P → X.w = w → X.K = K → ∀ (pins : List (Addr × Obj)) (s : Shared) (σ : L2.St) (H : L2.Hp) (i : Nat) (e : Addr) (c : Int) (old : Value), X.A.handled = none → Inv X pins σ H s → ok H → ist i s.heap → IsEnum s.heap e it c old → e ≠ it →
    ∃ (fp : List Addr) (Pv : Nat → Value → Prop) (St : Nat → Heap → Prop), Draws P w X.A.in1 it fp xs.length Pv St ∧ St i s.heap ∧ (∀ j h', St j h' → ist j h') ∧ (∀ j v, Pv j v → ∃ x, xs[j]? = some x ∧ RelV x v) ∧ e ∉ fp
def JE (xs : List V) (ok : L2.Hp → Prop) : It :=
  ⟨fun i H => i < xs.length ∧ ok H, fun i H v H' => ∃ T x, v = .ref T ∧ H T = none ∧ H' = L2.upd H T (.tup [.int (i : Nat), x]) ∧ xs[i]? = some x, fun i H => xs.length = i ∧ ok H⟩
theorem turn_enumS {P : Program} {w : World} {K : PySem.W.Frag} {elts : List Expr} {kk : Nat} {tpos : Pos} {xs : List V} {ist : Nat → Heap → Prop} {ok : L2.Hp → Prop} (e it : Addr) (S : Src P w K xs it ist ok) :
    Turn P w K (.Tuple elts kk tpos) (JE xs ok) [e, it] e (fun i h => (∃ old, IsEnum h e it ((i : Nat) : Int) old) ∧ ist i h ∧ e ≠ it) where
  mem := by simp
  obj := fun i h st b hb => by
    obtain ⟨⟨old, he⟩, hi, _⟩ := st
    have e' : (b = e ∨ b = it) := by simpa using hb
    rcases e' with z | z
    · (rw [z]; exact ⟨_, he, fun v q => nomatch q⟩)
    · rw [z]; exact S.obj i h hi
  keep := fun i h h' st k => let ⟨⟨old, he⟩, hi, hne⟩ := st; ⟨⟨old, k e (by simp) _ he⟩, S.keep i h h' hi fun o q => k it (by simp) o q, hne⟩
  item := by
    intro X hP hw hK hc i; intro pins s σ H E I hf st hg
    obtain ⟨⟨old, he⟩, hit, hne⟩ := (st)
    obtain ⟨hlt, hok⟩ := hg
    obtain ⟨fp, Pv, St, D, h1, h2, h3, h4⟩ := S.draws X hP hw hK pins s σ H i e _ old (I.ok.hd hc) I hok hit he hne
    have hel : (e < s.heap.objs.size) := Heap.lt_size he
    have hil : it < s.heap.objs.size := by obtain ⟨o, q, _⟩ := S.obj i _ hit; exact Heap.lt_size q
    refine wpAny_pyNext_enum_itemD D he h1 hlt hne h4 fun x h' tk hP ho hit' hT hsz hk => ?_
    obtain ⟨xv, g1, g2⟩ := h3 i x hP
    refine ⟨_, rfl, wpAny_letOwnedTupleGo_enum (s := { s with heap := h', toks := tk + 1 }) ho fun h'' he' sb => ?_⟩
    have hT2 : h''.get? s.heap.objs.size = some { cls := .type "tuple", data := .seq #[.int i tk, x] } := (sb.2 _ (Nat.ne_of_gt hel)).trans hT
    have new : ObjOk X.prog X.w (L2.upd H s.heap.objs.size (.tup [.int (i : Nat), xv])) h'' s.heap.objs.size (.tup [.int (i : Nat), xv]) :=
      ⟨by show 2 ≤ sizeLine; decide, [.int i tk, x], .cons ⟨_, rfl⟩ (.cons g2 .nil), ⟨_, hT2, rfl, _, rfl⟩⟩
    have I1 : Inv X pins σ (L2.upd H s.heap.objs.size (.tup [.int (i : Nat), xv])) { s with heap := h'', toks := tk + 1 } :=
      (I.turnedNew (ch := [e, it]) (fun b ob hb q => (sb.2 b (fun z => hb (by simp [z]))).trans (hk b ob (fun z => hb (by simp [z])) (fun z => hb (by simp [z])) q)) hf (Nat.le_refl _) new)
    refine ⟨.ref s.heap.objs.size, _, I1, rfl, ⟨_, xv, rfl, I.hok.fresh (Nat.le_refl _), rfl, g1⟩, ⟨⟨x, ?_⟩, S.keep _ _ _ (h2 _ _ hit') fun o q => (sb.2 it (Ne.symm hne)).trans q, hne⟩, fun b hb => ?_⟩
    · have e1 : (((i + 1 : Nat) : Int) = (i : Int) + 1) := by omega
      rw [e1]; exact he'
    · have hb' : (b < s.heap.objs.size) := by
        have e' : (b = e ∨ b = it) := by simpa using hb
        rcases e' with z | z
        · rw [z]; exact hel
        · rw [z]; exact hil
      (rw [upd_ne (Nat.ne_of_lt hb')])
      exact (hf b hb).1
  done := by
    intro X hP hw hK hc i; intro pins s σ H E I hf st hg
    obtain ⟨⟨old, he⟩, hit, hne⟩ := (st)
    obtain ⟨hx, hok⟩ := hg
    obtain ⟨fp, Pv, St, D, h1, h2, h3, h4⟩ := S.draws X hP hw hK pins s σ H i e _ old (I.ok.hd hc) I hok hit he hne
    obtain ⟨f0, f1, f2, f3, f4, f5⟩ := (hf it (by simp))
    rw [← hx] at h1
    exact wpAny_pyNext_enum_endD D he h1 fun h' eb => ⟨rfl, I.turned (t' := s.toks) (fun b o hb q => eb b o hb q) f0 f1 f3 f4 f5⟩
  self := fun A i s Q E st h => (let ⟨⟨_, he⟩, _⟩ := st; wpAny_pyIter_enum he h)
section
variable {P : Program} {w : World} {K : PySem.W.Frag}
theorem src_list (xs : List V) (it ad : Addr) : Src P w K xs it (fun i h => h.IsListIter it ad i) (fun H => SqL K H ad xs) where
  obj := fun i h st => by obtain ⟨o, ho, hc, hd⟩ := st; exact ⟨o, ho, fun v q => by rw [hd] at q; cases q⟩
  keep := fun i h h' st k => st.at fun o q => k o q
  draws := by
    intro X hP hw hK pins s σ H i e c old hh I hok hit he hne
    subst hP hw hK
    obtain ⟨its, rv, p, hz⟩ := I.list hok
    have hl := p.isList
    have hai : ad ≠ it := by
      rintro rfl
      obtain ⟨o, ho, hc, _⟩ := hit
      obtain ⟨o2, ho2, hc2, _⟩ := hl
      rw [ho] at ho2
      cases ho2
      rw [hc] at hc2
      exact absurd hc2 (by decide)
    have hae : e ≠ ad := by
      rintro rfl
      obtain ⟨o2, ho2, hc2, _⟩ := hl
      rw [he] at ho2
      cases ho2
      exact absurd (show Value.type "enumerate" = Value.type "list" from hc2) (by decide)
    have hlen : its.toArray.size = xs.length := by rw [List.size_toArray]; exact rv.length.symm
    refine ⟨[it, ad], _, _, hlen ▸ Draws.list (prog := X.prog) (w := X.w) (A := X.A.in1) hh it ad hai its.toArray, ⟨hit, hl⟩, fun j h' st => st.1, fun j v hv => ?_, by simp [hne, hae]⟩
    have hv' : its[j]? = some v := by simpa using hv
    have hj : j < xs.length := by rw [rv.length]; exact (List.getElem?_eq_some_iff.mp hv').1
    obtain ⟨u, hu, ru⟩ := rv.get (List.getElem?_eq_getElem hj)
    rw [hv'] at hu
    cases hu
    exact ⟨_, List.getElem?_eq_getElem hj, ru⟩
theorem src_tup (xs : List V) (it ad : Addr) : Src P w K xs it (fun i h => h.IsTupleIter it ad i) (fun H => SqT K H ad xs) where
  obj := fun i h st => by obtain ⟨o, ho, hc, hd⟩ := st; exact ⟨o, ho, fun v q => by rw [hd] at q; cases q⟩
  keep := fun i h h' st k => st.at fun o q => k o q
  draws := by
    intro X hP hw hK pins s σ H i e c old hh I hok hit he hne
    subst hP hw hK
    obtain ⟨its, rv, p, hz⟩ := I.tuple hok
    have hl : s.heap.IsTuple ad its.toArray := p
    have hai : ad ≠ it := by
      rintro rfl
      obtain ⟨o, ho, hc, _⟩ := hit
      obtain ⟨o2, ho2, hc2, _⟩ := hl
      rw [ho] at ho2
      cases ho2
      rw [hc] at hc2
      exact absurd hc2 (by decide)
    have hae : e ≠ ad := by
      rintro rfl
      obtain ⟨o2, ho2, hc2, _⟩ := hl
      rw [he] at ho2
      cases ho2
      exact absurd (show Value.type "enumerate" = Value.type "tuple" from hc2) (by decide)
    have hlen : its.toArray.size = xs.length := by rw [List.size_toArray]; exact rv.length.symm
    refine ⟨[it, ad], _, _, hlen ▸ Draws.tuple (prog := X.prog) (w := X.w) (A := X.A.in1) hh it ad hai its.toArray, ⟨hit, hl⟩, fun j h' st => st.1, fun j v hv => ?_, by simp [hne, hae]⟩
    have hv' : its[j]? = some v := by simpa using hv
    have hj : j < xs.length := by rw [rv.length]; exact (List.getElem?_eq_some_iff.mp hv').1
    obtain ⟨u, hu, ru⟩ := rv.get (List.getElem?_eq_getElem hj)
    rw [hv'] at hu
    cases hu
    exact ⟨_, List.getElem?_eq_getElem hj, ru⟩
theorem src_str (z : Str) (t : Tok) (it : Addr) : Src P w K (z.cps.toList.map fun c => V.str ⟨#[c]⟩) it (fun i h => h.IsStrIter it (strIterType z) z t i) (fun _ => True) where
  obj := fun i h st => by obtain ⟨o, ho, hc, hd⟩ := st; exact ⟨o, ho, fun v q => by rw [hd] at q; cases q⟩
  keep := fun i h h' st k => let ⟨o, ho, r⟩ := st; ⟨o, k o ho, r⟩
  draws := by
    intro X hP hw hK pins s σ H i e c old hh I hok hit he hne
    subst hP hw hK
    have hlen : z.cps.size = (z.cps.toList.map fun c => V.str ⟨#[c]⟩).length := by simp
    refine ⟨[it], _, _, hlen ▸ Draws.text (prog := X.prog) (w := X.w) (A := X.A.in1) hh it z t, hit, fun j h' st => st, fun j v hv => ?_, by simp [hne]⟩
    obtain ⟨c', u, h1, rfl⟩ := hv
    exact ⟨.str ⟨#[c']⟩, by rw [List.getElem?_map, Array.getElem?_toList, h1] <;> rfl, ⟨u, rfl⟩⟩
end
set_option maxHeartbeats 1000001 in
theorem meets_enumT (l : Addr) (items : Array Value) (n : Nat) (dct : Option Addr) (sl : Array (Option Value)) :
    Meets (Builtin.«enumerate.__new__» ⟨[.type "enumerate", .ref l], []⟩) (fun _ R s => s.heap.get? l = some { cls := .type "tuple", dict := dct, data := .seq items n, slots := sl } ∧
      R (.ok (.ret (.ref (s.heap.push { cls := .type "tuple_iterator", data := .fields #[.ref l, .int 0 0] }).objs.size)))
        { s with heap := (s.heap.push { cls := .type "tuple_iterator", data := .fields #[.ref l, .int 0 0] }).push { cls := .type "enumerate", data := .fields #[.none, .bool false, .ref s.heap.objs.size, rawInt 0, .none, .none] } }) :=
  .of_wp fun pg w A R s h => by
    (obtain ⟨hp, g, d, tk, os⟩ := s); obtain ⟨hl, h⟩ := h
    have hsub := sub_enumerate
    have hL : Heap.IsTuple (Shared.heap ⟨hp, g, d, tk, os⟩) l items := ⟨_, hl, rfl, n, rfl⟩
    wp_walk using AutoSeq1.wpAny_loadPart' hl
    refine (wpAny_stack_any fun st => wpAny_pure ?_)
    split
    · rename_i c _ _ _ _ _
      cases (c == .type "enumerate")
      · wp_walk using AutoSeq1.wpAny_loadPart' hl, wpAny_pyIter_tuple hL
        exact ⟨_, rfl, h⟩
      · wp_walk using AutoSeq1.wpAny_loadPart' hl, wpAny_pyIter_tuple hL
        exact ⟨_, rfl, h⟩
    · wp_walk using AutoSeq1.wpAny_loadPart' hl, wpAny_pyIter_tuple hL
      exact ⟨_, rfl, h⟩
theorem call_enumT {prog : Program} {w : World} {A : Around} {E : Value → Shared → Prop} {s : Shared} {l : Addr} {items : Array Value} {Q : Value → Shared → Prop} (hL : s.heap.IsTuple l items)
    (h : ∀ h', IsEnum h' (s.heap.objs.size + 1) s.heap.objs.size 0 .none → h'.IsTupleIter s.heap.objs.size l 0 → h'.objs.size = s.heap.objs.size + 2 →
      (∀ b o, (s.heap.get? b = some o) → h'.get? b = some o) → Q (.ref (s.heap.objs.size + 1)) { s with heap := h' }) :
    (wpAny (model prog w) A (call (.type "enumerate") [.ref l]) Q E s) := by
  obtain ⟨⟨c, dct, dt, sl⟩, hl, hc, n, hd⟩ := (hL)
  replace hc : c = .type "tuple" := hc
  replace hd : (dt = .seq items n) := hd
  subst hc hd
  refine (callType_new F.called_enumerate (by decide) (F.typeCall_enumerate_1 _) (F.newCall_enumerate_1 _) (fun obj => F.args_object_init_2 obj _) F.entry_enumerate_new)
    (meets_enumT l items n dct sl) ⟨hl, ?_⟩
  have hz : (s.heap.push { cls := .type "tuple_iterator", data := .fields #[.ref l, .int 0 0] }).objs.size = s.heap.objs.size + 1 := Heap.size_push ..
  show _ ∧ _
  rw [hz]
  have he : IsEnum ((s.heap.push { cls := .type "tuple_iterator", data := .fields #[.ref l, .int 0 0] }).push
      ({ cls := .type "enumerate", data := .fields #[.none, .bool false, .ref s.heap.objs.size, rawInt 0, .none, .none] } : Obj)) (s.heap.objs.size + 1) s.heap.objs.size 0 .none := by
    have := Heap.get?_push_size (s.heap.push { cls := .type "tuple_iterator", data := .fields #[.ref l, .int 0 0] })
      (o := ({ cls := .type "enumerate", data := .fields #[.none, .bool false, .ref s.heap.objs.size, rawInt 0, .none, .none] } : Obj)) rfl
    rw [hz] at this; exact this
  refine (⟨⟨_, he, rfl⟩, h _ he ⟨_, Heap.get?_push_of_some _ (Heap.get?_push_size _ rfl), rfl, rfl⟩ (by rw [Heap.size_push, hz]) fun b o x => Heap.get?_push_of_some _ (Heap.get?_push_of_some _ x)⟩)
/-- enumerate(..) of what may be a list, a tuple, a text -/
def iEnumA (K : PySem.W.Frag) (ta : TA) : TI := fun σ H R => ta σ H fun vs H1 => ∃ v, vs = [v] ∧
  ((∃ a xs, v = .ref a ∧ SqL K H1 a xs ∧ R (JE xs fun H => SqL K H a xs) H1) ∨ (∃ a xs, v = .ref a ∧ SqT K H1 a xs ∧ R (JE xs fun H => SqT K H a xs) H1) ∨ ∃ z : Str, v = .str z ∧ R (JE (z.cps.toList.map fun c => V.str ⟨#[c]⟩) fun _ => True) H1)
theorem pi_enumA {X : Cx} {e : Expr} {ta : TA} {p pos tpos : Pos} {elts : List Expr} {kk : Nat} (hg : Gl X "enumerate") (hm : X.mg "enumerate" = none) (ha : PA X [e] ta) (hs : starEach [e] X.env = [(false, eval e X.env)]) :
    L2.PI X (.Tuple elts kk tpos) (.Call (.Name "enumerate" p) [e] [] pos) (iEnumA X.K ta) := by
  refine (⟨fun pins s σ H R I h => ?_⟩)
  refine (Call_ (ld_blt I hg hm boot_enumerate (PyProof.Rows.callWith_type1 (thn (ha.run pos pins s σ H _ I h) fun us s1 ⟨vs, H1, I1, r1, q1⟩ => ?_) hs rfl)))
  obtain ⟨v, ex, q⟩ := q1
  subst ex
  have fpo : ∀ b ∈ [s1.heap.objs.size + 1, s1.heap.objs.size], FpOk X pins H1 b := fun b hb => by
    have e' : (b = s1.heap.objs.size + 1 ∨ b = s1.heap.objs.size) := by simpa using hb
    have hle : (s1.heap.objs.size ≤ b) := by
      rcases e' with z | z
      · (rw [z]; exact Nat.le_add_right _ _)
      · rw [z]; exact Nat.le_refl _
    exact (I1.fpOk hle (I1.hok.fresh hle))
  cases r1 with
  | cons r rr =>
    cases rr
    rcases q with ⟨a, xs, rfl, hq, q⟩ | ⟨a, xs, rfl, hq, q⟩ | ⟨z, rfl, q⟩
    · cases r
      obtain ⟨its, rv, p', hz⟩ := (I1.list hq)
      refine (call_enumerate_list p'.isList fun h' he hit hsz hk => wpAny_pyIter_enum he ?_)
      exact ⟨s1.heap.objs.size + 1, [s1.heap.objs.size + 1, s1.heap.objs.size], _, _, H1, rfl, I1.kept (t' := s1.toks) hk, turn_enumS (s1.heap.objs.size + 1) s1.heap.objs.size (src_list xs s1.heap.objs.size a), ⟨⟨.none, he⟩, hit, Nat.succ_ne_self _⟩, fpo, q⟩
    · cases r
      obtain ⟨its, rv, p', hz⟩ := I1.tuple hq
      refine call_enumT p' fun h' he hit hsz hk => wpAny_pyIter_enum he ?_
      exact ⟨s1.heap.objs.size + 1, [s1.heap.objs.size + 1, s1.heap.objs.size], _, _, H1, rfl, I1.kept (t' := s1.toks) hk, turn_enumS (s1.heap.objs.size + 1) s1.heap.objs.size (src_tup xs s1.heap.objs.size a), ⟨⟨.none, he⟩, hit, Nat.succ_ne_self _⟩, fpo, q⟩
    · obtain ⟨t, rfl⟩ := r
      refine call_enumerate_str fun h' he hit hsz hk => wpAny_pyIter_enum he ?_
      exact ⟨s1.heap.objs.size + 1, [s1.heap.objs.size + 1, s1.heap.objs.size], _, _, H1, rfl, I1.kept (t' := s1.toks) hk, turn_enumS (s1.heap.objs.size + 1) s1.heap.objs.size (src_str z t s1.heap.objs.size), ⟨⟨.none, he⟩, hit, Nat.succ_ne_self _⟩, fpo, q⟩
section
variable {G : GT} {Bs : List Nat} {W : WX} {X : Cx} {c : Cc} {a : Expr} {ea : E} {pos p tpos : Pos} {F : Fh} {ρ : List Addr} {elts : List Expr} {kk : Nat}
theorem enumD_get : ∀ {l : List D} {k i : Nat} {x : D}, (enumD k l)[i]? = some x → ∃ y, l[i]? = some y ∧ x = .tup [.int ((k + i : Nat) : Int), y]
  | [], k, i, x, h => by simp [enumD] at h
  | a :: l, k, 0, x, h => by
    simp [enumD] at h
    exact ⟨a, rfl, by rw [← h]; simp⟩
  | a :: l, k, i + 1, x, h => by
    simp only [enumD, List.getElem?_cons_succ] at h
    obtain ⟨y, h1, h2⟩ := enumD_get h
    refine ⟨y, by simpa using h1, ?_⟩
    rw [h2]
    congr 3
    omega
theorem enumD_length : ∀ (l : List D) (k : Nat), (enumD k l).length = l.length
  | [], _ => rfl
  | a :: l, k => by rw [enumD, List.length_cons, List.length_cons, enumD_length l]
theorem walk_JE {l : List D} {vs : List V} {ok : L2.Hp → Prop} (t : DRs G F ρ l vs) (hok : ∀ Bs F1 ρ1 h H, Ext F ρ F1 ρ1 → Rel G Bs F1 ρ1 h H → ok H) : WalkR G F ρ (enumD 0 l) (JE vs ok) := by
  intro Bs F1 ρ1 h H e R
  refine ⟨fun i x hx => ?_, by rw [enumD_length]; exact t.length, hok Bs F1 ρ1 h H e R⟩
  obtain ⟨y, h1, rfl⟩ := enumD_get hx
  obtain ⟨v, h2, h3⟩ := t.get h1
  refine ⟨⟨(List.getElem?_eq_some_iff.mp h2).1, hok Bs F1 ρ1 h H e R⟩, fun w H' ⟨T, xv, e1, e2, e3, e4⟩ => ?_⟩
  rw [h2] at e4
  cases e4
  subst e1 e3
  have tt : DRs G F1 ρ1 [.int ((0 + i : Nat) : Int), y] [.int (i : Nat), v] := by
    rw [drs_cons, drs_cons, drs_nil, dr_int]
    exact ⟨by rw [Nat.zero_add], h3.mono e, rfl⟩
  obtain ⟨R2, t2, e2'⟩ := R.tup e2 tt
  exact ⟨_, ρ1, e2', R2, t2⟩
theorem ni_enum (xo : XO G X) (hg : Gl X "enumerate") (hm : X.mg "enumerate" = none) (ha : NE G Bs W X c a ea) (hs : starEach [a] X.env = [(false, eval a X.env)] := by rfl) : NI G Bs W X c (.Tuple elts kk tpos) (.Call (.Name "enumerate" p) [a] [] pos) (.enu (.any ea)) := by
  unfold NI
  simp only [evI]
  refine pi_imp (pi_enumA hg hm (na_cons ha na_nil hs) hs) fun σ H R ⟨F, ρ, τ, h, R0, S, q⟩ => ⟨F, ρ, τ, h, R0, S, ?_⟩
  have q0 := q.bind (T1 := DR G)
  show Aft G Bs W σ (DRs G) F ρ (evs c τ [ea] h) _
  rw [evs_one]
  have key : Aft G Bs W σ (DR G) F ρ (ev c τ ea h) fun v H1 => ((∃ a xs, v = .ref a ∧ SqL X.K H1 a xs ∧ R (JE xs fun H => SqL X.K H a xs) H1) ∨ (∃ a xs, v = .ref a ∧ SqT X.K H1 a xs ∧ R (JE xs fun H => SqT X.K H a xs) H1) ∨ ∃ z : Str, v = .str z ∧ R (JE (z.cps.toList.map fun c => V.str ⟨#[c]⟩) fun _ => True) H1) :=
    q0.imp (T' := DR G) fun v H1 ⟨F1, ρ1, x, h1, e1, R1, t1, q1⟩ => by
      split at q1
      · rename_i s
        rw [dr_str] at t1
        split at q1
        · refine .inr (.inr ⟨_, t1, ?_⟩)
          refine q1.ok_ R1 (walk_JE ?_ fun _ _ _ _ _ _ _ => trivial)
          exact drs_signs s
        · exact q1.elim
      · rename_i l
        simp only [DR] at t1
        obtain ⟨ad, vs, rfl, g1, g2⟩ := t1
        refine .inr (.inl ⟨ad, vs, rfl, by rw [xo.K]; exact R1.sqT g1, q1.ok_ R1 (walk_JE g2 fun Bs F2 ρ2 h2 H2 e R2 => ?_)⟩)
        rw [xo.K]
        exact R2.sqT (ext_sqT e.same g1)
      · rename_i l
        simp only [DR] at t1
        obtain ⟨ad, vs, rfl, g1, g2⟩ := t1
        refine .inl ⟨ad, vs, rfl, by rw [xo.K]; exact .inl (.inl (R1.same _ _ g1)), q1.ok_ R1 (walk_JE g2 fun Bs F2 ρ2 h2 H2 e R2 => ?_)⟩
        rw [xo.K]
        exact .inl (.inl (R2.same _ _ (e.same _ _ g1)))
      · exact q1.elim
  clear q q0
  cases e : ev c τ ea h with
  | ok x h1 =>
    rw [e] at key
    intro F' ρ' H' vs e' R' t
    simp only [DRs] at t
    obtain ⟨v, _, rfl, t1, rfl⟩ := t
    exact ⟨v, rfl, key F' ρ' H' v e' R' t1⟩
  | ex cc h1 => rw [e] at key; exact key
  | no w => rw [e] at key; exact key
end
end PI

/-! SK: list comprehensions. -/
set_option linter.all false
set_option maxRecDepth 100000
namespace PI
open PySem PySem.Spec L2 PyProof.Rows
section
variable {G : GT} {Bs : List Nat} {F : Fh} {ρ : List Addr} {h : Hv} {H : L2.Hp}
/-- a list that is never changed again -/
theorem Rel.freeze (R : Rel G Bs F ρ h H) {i : Nat} {l : List D} {a : Addr} {vs : List V} (eo : h[i]? = some (.lst l)) (ha : ρ[i]? = some a) (hH : H a = some (.lst vs)) (t : DRs G F ρ l vs) :
    Ext F ρ (L2.upd F a (.lst vs)) ρ ∧ Rel G Bs (L2.upd F a (.lst vs)) ρ (h.set i .dead) H ∧ DR G (L2.upd F a (.lst vs)) ρ (.lst l) (.ref a) := by
  obtain ⟨a', h1, hF, _⟩ := R.at_ eo rfl
  rw [ha] at h1
  cases h1
  have e : Ext F ρ (L2.upd F a (.lst vs)) ρ := Ext.upd hF
  have hil : i < h.length := (List.getElem?_eq_some_iff.mp eo).1
  have get : ∀ {j : Nat} {v : Ob}, (h.set i .dead)[j]? = some v → (j = i ∧ v = .dead) ∨ (j ≠ i ∧ h[j]? = some v) := fun {j v} q => by
    by_cases hj : j = i
    · subst hj
      rw [List.getElem?_set_self hil] at q
      exact .inl ⟨rfl, (Option.some.inj q).symm⟩
    · rw [List.getElem?_set_ne (Ne.symm hj)] at q
      exact .inr ⟨hj, q⟩
  refine ⟨e, ⟨fun b u q => ?_, by rw [List.length_set]; exact R.len, fun j o q d => ?_, fun j k b o u h1 h2 h3 h4 d1 d2 => ?_, fun B hB => by rw [List.length_set]; exact R.lows B hB, fun B hB j o hj q => ?_, fun b ps q => ?_, R.tabs, R.gens⟩, ?_⟩
  · by_cases hb : b = a
    · subst hb
      rw [upd_same] at q
      cases q
      exact hH
    · rw [upd_ne hb] at q
      exact R.same b u q
  · rcases get q with ⟨_, rfl⟩ | ⟨hj, q⟩
    · cases d
    · obtain ⟨b, h1, h2, h3⟩ := R.cell j o q d
      refine ⟨b, h1, fun hf => ?_, h3.mono e rfl⟩
      have hne : b ≠ a := fun z => hj (R.inj j i a o _ (by rw [← z]; exact h1) ha q eo hf rfl)
      rw [upd_ne hne]
      exact h2 hf
  · rcases get h3 with ⟨_, rfl⟩ | ⟨_, q1⟩
    · cases d1
    · rcases get h4 with ⟨_, rfl⟩ | ⟨_, q2⟩
      · cases d2
      · exact R.inj j k b o u h1 h2 q1 q2 d1 d2
  · rcases get q with ⟨_, rfl⟩ | ⟨_, q⟩
    · rfl
    · exact R.low B hB j o hj q
  · by_cases hb : b = a
    · subst hb
      rw [upd_same] at q
      cases q
    · rw [upd_ne hb] at q
      exact R.ntab b ps q
  · simp only [DR]
    exact ⟨a, vs, rfl, upd_same, t.mono e⟩
end
/-- no exception is wished for -/
def WN : WX := fun _ _ _ _ => False
section
variable {G : GT} {Bs : List Nat} {W : WX} {X : Cx} {c : Cc} {a elt iter : Expr} {e el : E} {it : I} {pos : Pos} {ifs : List Expr} {es : List E} {F : Fh} {ρ : List Addr}
theorem XO.blk (xo : XO G X) {s : Shared} {H : L2.Hp} {scope : Scope} {ce : Env} {fp : List Addr} : XO G (X.blk s H scope ce fp) := ⟨xo.calm, xo.room, xo.K⟩
/-- the tests of a clause -/
abbrev NTs (G : GT) (Bs : List Nat) (W : WX) (X : Cx) (c : Cc) (ifs : List Expr) (es : List E) : Prop := PTs X ifs (tEvB G Bs W fun τ h => asB (evAnd c τ es h))
theorem nts_nil : NTs G Bs W X c [] [] :=
  ⟨fun pins s σ H Q I ⟨F, ρ, τ, h, R, S, q⟩ => pts_nil.run pins s σ H Q I (by
    simp only [evAnd, PI.asB, Res.bind] at q
    exact q.ok_ R rfl)⟩
theorem nts_one (ha : NT G Bs W X c a e) : NTs G Bs W X c [a] [e] :=
  ⟨fun pins s σ H Q I q => (pts_one ha).run pins s σ H Q I (by
    obtain ⟨F, ρ, τ, h, R, S, q⟩ := q
    refine ⟨F, ρ, τ, h, R, S, ?_⟩
    simp only [evAnd, asB_if1] at q
    have q : Aft G Bs W σ (fun _ _ b c => b = c) F ρ ((asB (ev c τ e h)).bind fun b h1 => .ok b h1) Q := q
    cases r : asB (ev c τ e h) with
    | ok b h1 => dsimp only; rw [r] at q ⊢; exact q
    | ex _ _ => dsimp only; rw [r] at q ⊢; exact q
    | no _ => dsimp only; rw [r] at q ⊢; exact q)⟩
theorem wipeS_length : ∀ (vs : List Nat) (τ : Sl), (wipeS τ vs).length = τ.length
  | [], _ => rfl
  | v :: vs, τ => by rw [wipeS, List.length_set, wipeS_length vs]
theorem SlotR.wipe {τ : Sl} {σ : L2.St} (S : SlotR G F ρ τ σ) : ∀ vs : List Nat, SlotR G F ρ (wipeS τ vs) (L2.wipe σ vs)
  | [] => S
  | v :: vs => by
    have ih := SlotR.wipe S vs
    unfold wipeS L2.wipe
    refine ⟨by rw [List.length_set, List.length_set, ih.len], fun j d q => ?_⟩
    by_cases hj : v = j
    · subst hj
      by_cases hl : v < (wipeS τ vs).length
      · rw [List.getElem?_set_self hl] at q
        cases q
      · rw [List.getElem?_eq_none (by simpa using hl)] at q
        cases q
    · rw [List.getElem?_set_ne hj] at q
      obtain ⟨w, h1, h2⟩ := ih.at_ j d q
      exact ⟨w, by rw [List.getElem?_set_ne hj]; exact h1, h2⟩
theorem wipe_set {σ : L2.St} {i : Nat} {v : V} : ∀ {vs : List Nat}, i ∈ vs → L2.wipe (σ.set i (some v)) vs = L2.wipe σ vs
  | [], h => by cases h
  | w :: vs, h => by
    unfold L2.wipe
    by_cases hi : i ∈ vs
    · rw [wipe_set hi]
    · have e : w = i := by
        rcases List.mem_cons.mp h with h | h
        · exact h.symm
        · exact absurd h hi
      subst e
      have key : ∀ (us : List Nat), w ∉ us → L2.wipe (σ.set w (some v)) us = (L2.wipe σ us).set w (some v) := fun us => by
        induction us with
        | nil => intro _; rfl
        | cons u us ih =>
          intro hu
          unfold L2.wipe
          rw [ih (fun z => hu (List.mem_cons_of_mem _ z)), List.set_comm _ _ (fun z => hu (by rw [z]; exact List.mem_cons_self))]
      rw [key vs hi, List.set_set]
theorem wipe_wipe {σ : L2.St} : ∀ (vs us : List Nat), (∀ v ∈ vs, v ∈ us) → L2.wipe (L2.wipe σ vs) us = L2.wipe σ us
  | [], us, _ => rfl
  | v :: vs, us, h => by
    have ih := wipe_wipe (σ := σ) vs us fun x hx => h x (List.mem_cons_of_mem _ hx)
    have key : ∀ (τ : L2.St) (i : Nat) (ws : List Nat), i ∈ ws → L2.wipe (τ.set i none) ws = L2.wipe τ ws := fun τ i ws => by
      induction ws with
      | nil => intro h; cases h
      | cons w ws ihw =>
        intro hm
        unfold L2.wipe
        by_cases hi : i ∈ ws
        · rw [ihw hi]
        · have e : w = i := by
            rcases List.mem_cons.mp hm with h | h
            · exact h.symm
            · exact absurd h hi
          subst e
          have k2 : ∀ (us : List Nat), w ∉ us → L2.wipe (τ.set w none) us = (L2.wipe τ us).set w none := fun us => by
            induction us with
            | nil => intro _; rfl
            | cons u us ih =>
              intro hu
              unfold L2.wipe
              rw [ih (fun z => hu (List.mem_cons_of_mem _ z)), List.set_comm _ _ (fun z => hu (by rw [z]; exact List.mem_cons_self))]
          rw [k2 ws hi, List.set_set]
    show L2.wipe ((L2.wipe σ vs).set v none) us = _
    rw [key _ v us (h v List.mem_cons_self), ih]
def OptR (G : GT) (F : Fh) (ρ : List Addr) : Option D → Option V → Prop
  | none, none => True
  | some d, some v => DR G F ρ d v
  | _, _ => False
theorem Aft.quietN {α β : Type} {T : Fh → List Addr → α → β → Prop} {F : Fh} {ρ : List Addr} {r : Res α} {σ σ' : L2.St} {Q : β → L2.Hp → Prop} (q : Aft G Bs W σ T F ρ (quiet r) Q) : Aft G Bs WN σ' T F ρ r Q := by
  cases r with
  | ok _ _ => exact q
  | ex _ _ => exact q.elim
  | no _ => exact q.elim
/-- a turn of a comprehension -/
def stepL (c : Cc) (τ : Sl) (i : Nat) (own : List Nat) (es : List E) (el : E) (x : D) (hh : Hv) : Res (Option D) :=
  (asg c (.var i) x (wipeS τ own) hh).bind fun σ1 h2 => (asB (evAnd c σ1 es h2)).bind fun b h3 => if b then (ev c σ1 el h3).bind fun y h4 => .ok (some y) h4 else .ok none h3
theorem n_lc {scope : Scope} {own : List (Str × Nat)} {i : Nat} {x : Str} {p : Pos} {m : Bool} (xo : XO G X) (hN : X.N.Nodup) (hi : NI G Bs W X c (.Name x p) iter it) (ok : BlkOk X.N X.env.scope scope own) (hx : X.N[i]? = some x) (hm : i ∈ own.map (·.2))
    (hloc : ∀ C cl, Loc (compEnvC scope cl C X.env).scope x) (hf : ∀ C cl, (scope.names.lookup x == some .cell) = true ∨ (compEnvC scope cl C X.env).scope.names.lookup x = some .local)
    (ht : ∀ (s : Shared) (H : L2.Hp) (C : Addr) (cl : List (Str × Addr)) (fp : List Addr), NTs G Bs WN (X.blk s H scope (compEnvC scope cl C X.env) fp) c ifs es)
    (he : ∀ (s : Shared) (H : L2.Hp) (C : Addr) (cl : List (Str × Addr)) (fp : List Addr), NE G Bs WN (X.blk s H scope (compEnvC scope cl C X.env) fp) c elt el)
    (hs : ∀ x, foldedSetIterable iter X.env x = pure x := by intro _; rfl) :
    NE G Bs W X c (.ListComp elt [⟨.Name x p, iter, ifs, 0⟩] scope pos) (.cmpr .lst m (own.map (·.2)) (.var i) it es el none) := by
  unfold NE
  have eq : (fun τ h => ev c τ (.cmpr .lst m (own.map (·.2)) (.var i) it es el none) h) = fun τ h => (evI c τ it h).bind fun xs h1 => (lcLoop h1.length (stepL c τ i (own.map (·.2)) es el) xs (h1 ++ [.lst []])).bind fun _ h2 => lcEnd m h1.length h2 := by
    funext τ h
    simp only [ev]
    rfl
  rw [eq]
  refine pe_imp (pe_lc xo.calm hN hi ok (g := gName i) (fun s H C cl fp => pg_name (X := X.blk s H scope (compEnvC scope cl C X.env) fp) hN hx (hloc C cl) (hf C cl)) ht he hs) fun σ H Q ⟨F, ρ, τ, h, R, S, q⟩ => ?_
  refine ⟨F, ρ, τ, h, R, S, (q.bind (T1 := WalkR G)).imp (T' := DR G) fun J H1 ⟨F1, ρ1, xs, h1, e1, R1, w1, q1⟩ => ?_⟩
  intro D hD
  have R0 : Rel G Bs F1 (ρ1 ++ [D]) (h1 ++ [.lst []]) (L2.upd H1 D (.lst [])) := R1.cellNew hD (fun b u z => by rw [upd_ne (ne_of_none z hD)]; exact z) ⟨[], upd_same, drs_nil.mpr rfl⟩
  have hri : (ρ1 ++ [D])[h1.length]? = some D := by rw [← R1.len]; simp
  have S1 := (S.mono e1).wipe (own.map (·.2))
  have lowi : ∀ B ∈ Bs, ¬ h1.length < B := fun B hB => Nat.not_lt.mpr (R1.lows B hB)
  refine ⟨fun k m H => m + k = xs.length ∧ ∃ F2 ρ2 h2, Ext F1 (ρ1 ++ [D]) F2 ρ2 ∧ Rel G Bs F2 ρ2 h2 H ∧ Aft G Bs W σ (DR G) F2 ρ2 ((lcLoop h1.length (stepL c τ i (own.map (·.2)) es el) (xs.drop k) h2).bind fun _ h2 => lcEnd ‹Bool› h1.length h2) Q,
    ⟨xs.length, by omega, F1, ρ1 ++ [D], h1 ++ [.lst []], Ext.refl _ _, R0, by simpa using q1.mono Ext.snoc⟩, fun k m' H2 ⟨hk, F2, ρ2, h2, e2, R2, q2⟩ => ?_⟩
  obtain ⟨g1, g2⟩ := w1 Bs F2 ρ2 h2 H2 (Ext.snoc.trans e2) R2
  have hρ : ρ2[h1.length]? = some D := e2.pre _ _ hri
  by_cases hlt : k < xs.length
  · right
    obtain ⟨k1, k2⟩ := g1 k _ (List.getElem?_eq_getElem hlt)
    rw [List.drop_eq_getElem_cons hlt, lcLoop, Res.bind_bind] at q2
    refine ⟨k1, fun H' => (m' - 1) + (k + 1) = xs.length ∧ ∃ F2 ρ2 h2, Ext F1 (ρ1 ++ [D]) F2 ρ2 ∧ Rel G Bs F2 ρ2 h2 H' ∧ Aft G Bs W σ (DR G) F2 ρ2 ((lcLoop h1.length (stepL c τ i (own.map (·.2)) es el) (xs.drop (k + 1)) h2).bind fun _ h2 => lcEnd ‹Bool› h1.length h2) Q,
      fun H' z => ⟨m' - 1, by omega, z⟩, fun xv H3 y => ?_⟩
    obtain ⟨F3, ρ3, e3, R3, t3⟩ := k2 xv H3 y
    have hm' : m' - 1 + (k + 1) = xs.length := by omega
    have S3 := S1.mono ((Ext.snoc.trans e2).trans e3)
    refine ⟨by rw [wipe_set hm, wipe_wipe _ _ fun _ h => h], ?_⟩
    -- the turn, by its outcome
    have q3 := ((q2.mono e3).bind (T1 := OptR G)).quietN (σ' := (L2.wipe σ (own.map (·.2))).set i (some xv))
    by_cases hl : i < (wipeS τ (own.map (·.2))).length
    · have es1 : stepL c τ i (own.map (·.2)) es el xs[k] h2 = (asB (evAnd c ((wipeS τ (own.map (·.2))).set i (some xs[k])) es h2)).bind fun b h3 => if b then (ev c ((wipeS τ (own.map (·.2))).set i (some xs[k])) el h3).bind fun y h4 => .ok (some y) h4 else .ok none h3 := by
        unfold stepL
        simp only [asg, if_pos hl]
        rfl
      rw [es1] at q3
      have S4 := S3.set hl t3
      refine ⟨F3, ρ3, _, h2, R3, S4, (Aft.bind (T1 := fun _ _ (b : Bool) (c : Bool) => b = c) q3).imp (T' := DR G) fun b H4 ⟨F4, ρ4, b', h4, e4, R4, hb, q4⟩ => ?_⟩
      subst hb
      cases b' with
      | false =>
        simp only [Bool.false_eq_true, if_false] at q4 ⊢
        obtain ⟨F5, ρ5, a5, h5, e5, R5, t5, q5⟩ := q4 F4 ρ4 H4 none (Ext.refl _ _) R4 trivial
        cases a5 with
        | none => exact ⟨hm', F5, ρ5, h5, ((e2.trans e3).trans e5), R5, q5⟩
        | some d => exact t5.elim
      | true =>
        simp only [if_true] at q4 ⊢
        refine ⟨F4, ρ4, _, h4, R4, S4.mono e4, (Aft.bind (T1 := DR G) q4).imp (T' := DR G) fun yv H5 ⟨F5, ρ5, y, h5, e5, R5, t5, q5⟩ => ?_⟩
        obtain ⟨F6, ρ6, a6, h6, e6, R6, t6, q6⟩ := q5 F5 ρ5 H5 (some yv) (Ext.refl _ _) R5 t5
        cases a6 with
        | none => exact t6.elim
        | some d =>
          dsimp only at q6
          cases eo : h6[h1.length]? with
          | none => simp only [eo] at q6; exact q6.elim
          | some o =>
            simp only [eo] at q6
            cases o with
            | lst acc =>
              dsimp only at q6
              split at q6
              · rename_i hz
                obtain ⟨a', h7, hF, vs, h8, h9⟩ := R6.at_ eo rfl
                have hρ6 := (e3.trans e6).pre _ _ hρ
                rw [hρ6] at h7
                cases h7
                exact ⟨vs, h8, by rw [h9.length, ← size_line]; exact Nat.lt_of_succ_le (Nat.le_of_ble_eq_true hz), hm', F6, ρ6, _, (e2.trans e3).trans e6, R6.putAt (u := .lst (acc ++ [d])) eo rfl hρ6 ⟨_, upd_same, h9.append (drs_cons.mpr ⟨t6, drs_nil.mpr rfl⟩)⟩ (fun B hB hi => absurd hi (lowi B hB)) (.inl rfl), q6⟩
              · exact q6.elim
            | _ => exact q6.elim
    · have es1 : stepL c τ i (own.map (·.2)) es el xs[k] h2 = .no 430 := by
        unfold stepL
        simp only [asg, if_neg hl]
        rfl
      rw [es1] at q3
      exact q3.elim
  · left
    have hke : k = xs.length := by omega
    subst hke
    refine ⟨g2, ?_⟩
    rw [List.drop_length, lcLoop] at q2
    simp only [Res.bind, lcEnd] at q2
    cases eo : h2[h1.length]? with
    | none => simp only [eo] at q2; exact q2.elim
    | some o =>
      simp only [eo] at q2
      split at q2
      · rename_i ys heq
        cases heq
        obtain ⟨a', h6, hF, vs, h7, h8⟩ := R2.at_ eo rfl
        rw [hρ] at h6
        cases h6
        split at q2
        · exact q2.ok_ R2 (by simp only [DR]; exact ⟨D, rfl, hρ⟩)
        · obtain ⟨f1, f2, f3⟩ := R2.freeze eo hρ h7 h8
          exact q2 _ _ _ _ f1 f2 f3
      · exact q2.elim
end
end PI

/-! SL: calls; a def's promise by its body. -/
set_option linter.all false
set_option maxRecDepth 100000
namespace PI
open PySem PySem.Spec L2 PyProof.Rows

/-- an exception leaves the def -/
def WU (E : XK) : WX := fun cls d _ H => E cls d H
/-- what a call of the f-th def promises, n levels deep -/
def spF (G : GT) (P : Pr) (n f : Nat) : Sp := fun vs H Q E => ∃ Bs b F ρ h ds, BaseOk Bs b ∧ Rel G Bs F ρ h H ∧ DRs G F ρ ds vs ∧ Aft G Bs (WU E) [] (DR G) F ρ (callF P n b f ds h) Q
section
variable {G : GT} {Bs : List Nat} {F : Fh} {ρ : List Addr} {h : Hv} {H : L2.Hp}
/-! ### what stood before the entry -/
mutual
theorem DR.low {n : Nat} : ∀ {d : D} {v : V}, D.bel n d = true → DR G F ρ d v → DR G F (ρ.take n) d v
  | .non, _, _, h => h
  | .bl _, _, _, h => h
  | .int _, _, _, h => h
  | .str _, _, _, h => h
  | .tup l, _, b, h => by
    simp only [D.bel] at b
    simp only [DR] at h ⊢
    obtain ⟨a, vs, h1, h2, h3⟩ := h
    exact ⟨a, vs, h1, h2, DRs.low b h3⟩
  | .lst l, _, b, h => by
    simp only [D.bel] at b
    simp only [DR] at h ⊢
    obtain ⟨a, vs, h1, h2, h3⟩ := h
    exact ⟨a, vs, h1, h2, DRs.low b h3⟩
  | .dic l, _, b, h => by
    simp only [D.bel] at b
    simp only [DR] at h ⊢
    obtain ⟨a, o, h1, h⟩ := h
    refine ⟨a, o, h1, ?_⟩
    rcases h with ⟨kvs, h2, h3, h4⟩ | ⟨kvs, h2, h3, h4⟩
    · exact .inl ⟨kvs, h2, h3, DRp.low b h4⟩
    · exact .inr ⟨kvs, h2, h3, DRp.low b h4⟩
  | .ref i, _, b, h => by
    simp only [D.bel] at b
    simp only [DR] at h ⊢
    obtain ⟨a, h1, h2⟩ := h
    exact ⟨a, h1, by rw [List.getElem?_take_of_lt (Nat.lt_of_succ_le (Nat.le_of_ble_eq_true b))]; exact h2⟩
  | .lam _ _, _, _, h => h
theorem DRs.low {n : Nat} : ∀ {l : List D} {vs : List V}, D.bels n l = true → DRs G F ρ l vs → DRs G F (ρ.take n) l vs
  | [], _, _, h => h
  | d :: l, _, b, h => by
    simp only [D.bels, Bool.and_eq_true] at b
    simp only [DRs] at h ⊢
    obtain ⟨v, r, h1, h2, h3⟩ := h
    exact ⟨v, r, h1, DR.low b.1 h2, DRs.low b.2 h3⟩
theorem DRp.low {n : Nat} : ∀ {l : List (D × D)} {vs : List V}, D.belp n l = true → DRp G F ρ l vs → DRp G F (ρ.take n) l vs
  | [], _, _, h => h
  | (_, d) :: l, _, b, h => by
    simp only [D.belp, Bool.and_eq_true] at b
    simp only [DRp] at h ⊢
    obtain ⟨v, r, h1, h2, h3⟩ := h
    exact ⟨v, r, h1, DR.low b.1.2 h2, DRp.low b.2 h3⟩
end
theorem FRs.low {n : Nat} : ∀ {l : List (Nat × D)} {fs : List (Str × V)}, (l.all fun p => D.bel n p.2) = true → FRs G F ρ l fs → FRs G F (ρ.take n) l fs
  | [], _, _, h => h
  | (f, d) :: l, _, b, h => by
    simp only [List.all_cons, Bool.and_eq_true] at b
    simp only [FRs] at h ⊢
    obtain ⟨v, r, h1, h2, h3⟩ := h
    exact ⟨v, r, h1, h2.low b.1, FRs.low b.2 h3⟩
theorem ObR.low {n : Nat} {a : Addr} {o : Ob} (b : obBel n o = true) (h : ObR G F ρ H a o) : ObR G F (ρ.take n) H a o := by
  cases o with
  | lst l => obtain ⟨vs, h1, h2⟩ := h; exact ⟨vs, h1, h2.low b⟩
  | dic t l =>
    cases t with
    | false => obtain ⟨kvs, h1, h2, h3⟩ := h; exact ⟨kvs, h1, h2, h3.low b⟩
    | true => obtain ⟨kvs, h1, h2, h3⟩ := h; exact ⟨kvs, h1, h2, h3.low b⟩
  | ins c fs => obtain ⟨dx, gs, h1, h2⟩ := h; exact ⟨dx, gs, h1, h2.low b⟩
  | lck o =>
    cases o with
    | lst l => obtain ⟨vs, h1, h2⟩ := h; exact ⟨vs, h1, h2.low b⟩
    | dic t l =>
      cases t with
      | false => obtain ⟨o, kvs, h1, h2, h3⟩ := h; exact ⟨o, kvs, h1, h2, h3.low b⟩
      | true => obtain ⟨o, kvs, h1, h2, h3⟩ := h; exact ⟨o, kvs, h1, h2, h3.low b⟩
    | ins c fs => exact h.elim
    | lck o => exact h.elim
    | fix l => exact h.elim
    | dead => exact h.elim
  | fix l => obtain ⟨vs, h1, h2⟩ := h; exact ⟨vs, h1, h2.low b⟩
  | dead => exact True.intro
mutual
theorem DR.bel {n : Nat} (hn : ρ.length ≤ n) : ∀ {d : D} {v : V}, DR G F ρ d v → D.bel n d = true
  | .non, _, _ => rfl
  | .bl _, _, _ => rfl
  | .int _, _, _ => rfl
  | .str _, _, _ => rfl
  | .tup l, _, h => by
    simp only [DR] at h
    obtain ⟨a, vs, h1, h2, h3⟩ := h
    simp only [D.bel]
    exact DRs.bel hn h3
  | .lst l, _, h => by
    simp only [DR] at h
    obtain ⟨a, vs, h1, h2, h3⟩ := h
    simp only [D.bel]
    exact DRs.bel hn h3
  | .dic l, _, h => by
    simp only [DR] at h
    obtain ⟨a, o, h1, h⟩ := h
    simp only [D.bel]
    rcases h with ⟨kvs, h2, h3, h4⟩ | ⟨kvs, h2, h3, h4⟩
    · refine DRp.bel hn (fun p hp => ?_) h4
      have hm : p.1 ∈ l.map (·.1) := List.mem_map.mpr ⟨p, hp, rfl⟩
      rw [← h3] at hm
      obtain ⟨q, _, e⟩ := List.mem_map.mp hm
      rw [← e]
      cases q.1 <;> rfl
    · refine DRp.bel hn (fun p hp => ?_) h4
      have hm : p.1 ∈ l.map (·.1) := List.mem_map.mpr ⟨p, hp, rfl⟩
      rw [← h3] at hm
      obtain ⟨q, _, e⟩ := List.mem_map.mp hm
      rw [← e]
      simp only [keysD, D.bel]
      exact keys_bel q.1
  | .ref i, _, h => by
    simp only [DR] at h
    obtain ⟨a, h1, h2⟩ := h
    simp only [D.bel]
    exact Nat.ble_eq_true_of_le (Nat.le_trans (List.getElem?_eq_some_iff.mp h2).1 hn)
  | .lam _ _, _, h => by simp only [DR] at h
theorem DRs.bel {n : Nat} (hn : ρ.length ≤ n) : ∀ {l : List D} {vs : List V}, DRs G F ρ l vs → D.bels n l = true
  | [], _, _ => rfl
  | d :: l, _, h => by
    simp only [DRs] at h
    obtain ⟨v, r, h1, h2, h3⟩ := h
    simp only [D.bels, Bool.and_eq_true]
    exact ⟨DR.bel hn h2, DRs.bel hn h3⟩
theorem DRp.bel {n : Nat} (hn : ρ.length ≤ n) : ∀ {l : List (D × D)} {vs : List V}, (∀ p ∈ l, D.bel n p.1 = true) → DRp G F ρ l vs → D.belp n l = true
  | [], _, _, _ => rfl
  | (k, d) :: l, _, hk, h => by
    simp only [DRp] at h
    obtain ⟨v, r, h1, h2, h3⟩ := h
    simp only [D.belp, Bool.and_eq_true]
    exact ⟨⟨hk _ List.mem_cons_self, DR.bel hn h2⟩, DRp.bel hn (fun p hp => hk p (List.mem_cons_of_mem _ hp)) h3⟩
theorem keys_bel {n : Nat} : ∀ k : List Key, D.bels n (k.map keyD) = true
  | [] => rfl
  | k :: r => by
    simp only [List.map_cons, D.bels, Bool.and_eq_true]
    exact ⟨by cases k <;> rfl, keys_bel r⟩
end
theorem FRs.bel {n : Nat} (hn : ρ.length ≤ n) : ∀ {l : List (Nat × D)} {fs : List (Str × V)}, FRs G F ρ l fs → (l.all fun p => D.bel n p.2) = true
  | [], _, _ => rfl
  | (f, d) :: l, _, h => by
    simp only [FRs] at h
    obtain ⟨v, r, h1, h2, h3⟩ := h
    simp only [List.all_cons, Bool.and_eq_true]
    exact ⟨h2.bel hn, FRs.bel hn h3⟩
theorem keyK_bel {n : Nat} {kvs : List (Key × V)} {l : List (D × D)} (h3 : kvs.map (fun p => keyD p.1) = l.map (·.1)) : ∀ p ∈ l, D.bel n p.1 = true := fun p hp => by
  have hm : p.1 ∈ l.map (·.1) := List.mem_map.mpr ⟨p, hp, rfl⟩
  rw [← h3] at hm
  obtain ⟨q, _, e⟩ := List.mem_map.mp hm
  rw [← e]
  cases q.1 <;> rfl
theorem keyT_bel (G : GT) (F : Fh) (ρ : List Addr) {n : Nat} {kvs : List (List Key × V)} {l : List (D × D)} (h3 : kvs.map (fun p => keysD p.1) = l.map (·.1)) : ∀ p ∈ l, D.bel n p.1 = true := fun p hp => by
  have hm : p.1 ∈ l.map (·.1) := List.mem_map.mpr ⟨p, hp, rfl⟩
  rw [← h3] at hm
  obtain ⟨q, _, e⟩ := List.mem_map.mp hm
  rw [← e]
  simp only [keysD, D.bel]
  exact keys_bel (G := G) (F := F) (ρ := ρ) q.1
theorem ObR.bel {n : Nat} (hn : ρ.length ≤ n) {a : Addr} {o : Ob} (h : ObR G F ρ H a o) : obBel n o = true := by
  cases o with
  | lst l => obtain ⟨vs, h1, h2⟩ := h; exact h2.bel hn
  | dic t l =>
    cases t with
    | false => obtain ⟨kvs, h1, h2, h3⟩ := h; exact h3.bel hn (keyK_bel h2)
    | true => obtain ⟨kvs, h1, h2, h3⟩ := h; exact h3.bel hn (keyT_bel G F ρ h2)
  | ins c fs => obtain ⟨dx, gs, h1, h2⟩ := h; exact h2.bel hn
  | lck o =>
    cases o with
    | lst l => obtain ⟨vs, h1, h2⟩ := h; exact h2.bel hn
    | dic t l =>
      cases t with
      | false => obtain ⟨o, kvs, h1, h2, h3⟩ := h; exact h3.bel hn (keyK_bel h2)
      | true => obtain ⟨o, kvs, h1, h2, h3⟩ := h; exact h3.bel hn (keyT_bel G F ρ h2)
    | _ => exact h.elim
  | fix l => obtain ⟨vs, h1, h2⟩ := h; exact h2.bel hn
  | dead => rfl
theorem Rel.bel (R : Rel G Bs F ρ h H) (i : Nat) (o : Ob) (e : h[i]? = some o) : obBel h.length o = true := by
  by_cases d : isDead o = true
  · cases o <;> first | rfl | cases d
  · obtain ⟨a, _, _, h3⟩ := R.cell i o e (by simpa using d)
    exact h3.bel (by rw [R.len]; exact Nat.le_refl _)
theorem Rel.enter (R : Rel G Bs F ρ h H) : Rel G (h.length :: Bs) F ρ h H :=
  ⟨R.same, R.len, R.cell, R.inj, fun B hB => by
    rcases List.mem_cons.mp hB with rfl | hB
    · exact Nat.le_refl _
    · exact R.lows B hB, fun B hB i o hi q => by
    rcases List.mem_cons.mp hB with rfl | hB
    · exact R.bel i o q
    · exact R.low B hB i o hi q, R.ntab, R.tabs, R.gens⟩
/-- .. what was made since is forgotten -/
theorem Rel.leave {n : Nat} (R : Rel G (n :: Bs) F ρ h H) (hle : ∀ B ∈ Bs, B ≤ n) : Rel G Bs F (ρ.take n) (h.take n) H := by
  have hn : n ≤ h.length := R.lows n List.mem_cons_self
  have get : ∀ {i : Nat} {o : Ob}, (h.take n)[i]? = some o → i < n ∧ h[i]? = some o := fun {i o} q => by
    rw [List.getElem?_take] at q
    split at q
    · rename_i hi
      exact ⟨hi, q⟩
    · cases q
  have rget : ∀ {i : Nat} {a : Addr}, (ρ.take n)[i]? = some a → ρ[i]? = some a := fun {i a} q => by
    rw [List.getElem?_take] at q
    split at q
    · exact q
    · cases q
  refine ⟨R.same, by rw [List.length_take, List.length_take, R.len], fun i o q d => ?_, fun i j a o u h1 h2 h3 h4 => R.inj i j a o u (rget h1) (rget h2) (get h3).2 (get h4).2, fun B hB => by rw [List.length_take, Nat.min_eq_left hn]; exact hle B hB, fun B hB i o hi q => R.low B (List.mem_cons_of_mem _ hB) i o hi (get q).2, R.ntab, R.tabs, R.gens⟩
  obtain ⟨hi, q⟩ := get q
  obtain ⟨a, h1, h2, h3⟩ := R.cell i o q d
  exact ⟨a, by rw [List.getElem?_take_of_lt hi]; exact h1, h2, h3.low (R.low n List.mem_cons_self i o hi q)⟩
theorem Ext.leave {F' : Fh} {ρ' : List Addr} {n : Nat} (e : Ext F ρ F' ρ') (hn : ρ.length = n) : Ext F ρ F' (ρ'.take n) := ⟨e.same, fun i a q => by
  rw [List.getElem?_take_of_lt (by rw [← hn]; exact (List.getElem?_eq_some_iff.mp q).1)]
  exact e.pre i a q⟩
end
section
variable {G : GT} {Bs : List Nat} {EX : XK} {X : Cx} {c : Cc} {a : Expr} {ea : E} {pos p apos : Pos} {as : List Expr} {es : List PI.E}
/-- a call as a rule of the interpreter's -/
theorem sp_call {P : Pr} {n f b : Nat} {F : Fh} {ρ : List Addr} {h : Hv} {H : L2.Hp} {σ : L2.St} {ds : List D} {vs : List V} {Q : VK} (hb : BaseOk Bs b) (R : Rel G Bs F ρ h H) (t : DRs G F ρ ds vs) (q : Aft G Bs (WU EX) σ (DR G) F ρ (callF P n b f ds h) Q) : spF G P n f vs H Q EX :=
  ⟨Bs, b, F, ρ, h, ds, hb, R, t, by
    cases r : callF P n b f ds h with
    | ok d h1 => rw [r] at q; exact q
    | ex cc h1 => rw [r] at q; exact q
    | no w => rw [r] at q; exact q⟩
theorem n_call {k n fid : Nat} {fa : Addr} {fd : FuncData} {ps : List Str} {x : Str} (hbs : BaseOk Bs c.base) (hc : c.cl = callF c.pr n) (Fn : FnOk X.prog X.w X.K X.mg X.base (L2.CX X.prog X.w) k fa fd ps (spF G c.pr n fid)) (hr : Room k X.A) (hg : Gl X x) (hm : X.mg x = some (.ref fa)) (hk : PySem.W.keepIn X.K (.ref fa) = true) (hb : Binds X.K fd ps [])
    (hx : Passes (L2.CX X.prog X.w) X EX) (ha : NA G Bs (WU EX) X c (a :: as) es) (hdb : (x == ("__debug__" : Str)) = false := by decide) (he : starEach (a :: as) X.env = (false, eval a X.env) :: starEach as X.env := by rfl) (hpl : (backTo pos (starEach as X.env)).any (·.1) = false := by rfl) :
    NE G Bs (WU EX) X c (.Call (.Name x p) (a :: as) [] pos) (.call fid es) := by
  unfold NE
  simp only [ev, hc]
  refine pe_imp (pe_call (dvs := []) Fn hr hg hm hk hb .nil hx ha hdb he hpl) fun σ H Q ⟨F, ρ, τ, h, R, S, q⟩ => ⟨F, ρ, τ, h, R, S, (q.bind (T1 := DRs G)).imp (T' := DR G) fun vs H1 ⟨F1, ρ1, ds, h1, e1, R1, t1, q1⟩ => ?_⟩
  rw [List.append_nil]
  exact sp_call hbs R1 t1 q1
theorem n_call0 {k n fid : Nat} {fa : Addr} {fd : FuncData} {ps : List Str} {x : Str} (hbs : BaseOk Bs c.base) (hc : c.cl = callF c.pr n) (Fn : FnOk X.prog X.w X.K X.mg X.base (L2.CX X.prog X.w) k fa fd ps (spF G c.pr n fid)) (hr : Room k X.A) (hg : Gl X x) (hm : X.mg x = some (.ref fa)) (hk : PySem.W.keepIn X.K (.ref fa) = true) (hb : Binds X.K fd ps [])
    (hx : Passes (L2.CX X.prog X.w) X EX) (hdb : (x == ("__debug__" : Str)) = false := by decide) : NE G Bs (WU EX) X c (.Call (.Name x p) [] [] pos) (.call fid []) := by
  unfold NE
  simp only [ev, hc]
  refine pe_imp (pe_call0 (dvs := []) Fn hr hg hm hk hb .nil hx hdb) fun σ H Q ⟨F, ρ, τ, h, R, S, q⟩ => ?_
  simp only [evs, Res.bind] at q
  exact sp_call (vs := []) hbs R (drs_nil.mpr rfl) q
theorem fget_none {F : Fh} {ρ : List Addr} {f : Nat} : ∀ {fs : List (Nat × D)} {gs : List (Str × V)}, FRs G F ρ fs gs → fget f fs = none → gs.lookup (G.nm f) = none
  | [], _, t, _ => by
    simp only [FRs] at t
    subst t
    rfl
  | (g, x) :: fs, gs, t, e => by
    simp only [FRs] at t
    obtain ⟨v, r, rfl, t1, t2⟩ := t
    simp only [fget] at e
    split at e
    · cases e
    · rename_i hg
      have hne : (G.nm f == G.nm g) = false := by
        rw [beq_eq_false_iff_ne]
        exact fun z => hg (G.nmI f g z).symm
      simp only [List.lookup, hne]
      exact fget_none t2 e
theorem n_mth {k n fid cl m : Nat} {fa : Addr} {fd : FuncData} {ps : List Str} {x : Str} {pl : Sem Bool} {o : Expr} {eo : PI.E} (xo : XO G X) (hbs : BaseOk Bs c.base) (hc : c.cl = callF c.pr n) (C : Cls G.K (G.cls cl)) (hxm : G.nm m = x) (M : Meth G.K (G.cls cl) x fa) (Fn : FnOk X.prog X.w X.K X.mg X.base (L2.CX X.prog X.w) k fa fd ps (spF G c.pr n fid)) (hr : Room k X.A) (hb : Binds X.K fd ps [])
    (hx : Passes (L2.CX X.prog X.w) X EX) (ho : NE G Bs (WU EX) X c o eo) (ha : NA G Bs (WU EX) X c (a :: as) es) (hst : starEach (a :: as) X.env = (false, eval a X.env) :: starEach as X.env := by rfl) (hpl : (backTo pos (starEach as X.env)).any (·.1) = false := by rfl)
    (ht : eval (.Call (.Attribute o x apos) (a :: as) [] pos) X.env = (do
      let ov ← eval o X.env
      standAt apos.atName
      let (f, first) ← holding [ov] (getMethod ov x pl)
      callWith pos f first (backTo pos (starEach (a :: as) X.env)) (backToKw pos (keywordEach [] X.env))) := by rfl) :
    NE G Bs (WU EX) X c (.Call (.Attribute o x apos) (a :: as) [] pos) (.mth cl m fid eo es) := by
  unfold NE
  simp only [ev, hc]
  refine pe_imp (pe_meth (dvs := []) ho (by rw [xo.K]; exact C) (by rw [xo.K]; exact M) Fn hr hb .nil hx ha hst hpl ht) fun σ H Q ⟨F, ρ, τ, h, R, S, q⟩ => ⟨F, ρ, τ, h, R, S, (q.bind (T1 := DR G)).imp (T' := DR G) fun v H1 ⟨F1, ρ1, d, h1, e1, R1, t1, q1⟩ => ?_⟩
  cases e : insOf h1 d with
  | none => rw [e] at q1; exact q1.elim
  | some pp =>
    obtain ⟨i, k', fs⟩ := pp
    simp only [e] at q1
    split at q1
    · rename_i hk
      obtain ⟨rfl, hk2⟩ := hk
      obtain ⟨ad, dx, gs, rfl, g1, g2, g3, g4⟩ := R1.ins t1 e
      refine ⟨ad, dx, gs, rfl, g3, by rw [← hxm]; exact fget_none g4 hk2, F1, ρ1, τ, h1, R1, S.mono e1, (q1.bind (T1 := DRs G)).imp (T' := DR G) fun vs H2 ⟨F2, ρ2, ds, h2, e2, R2, t2, q2⟩ => ?_⟩
      rw [List.append_nil]
      exact sp_call hbs R2 (drs_cons.mpr ⟨t1.mono e2, t2⟩) q2
    · exact q1.elim
theorem n_new {k n fid cl : Nat} {fa : Addr} {fd : FuncData} {ps : List Str} {x : Str} (xo : XO G X) (hbs : BaseOk Bs c.base) (hc : c.cl = callF c.pr n) (M : Mk G.K (G.cls cl) fa) (Fn : FnOk X.prog X.w X.K X.mg X.base (L2.CX X.prog X.w) k fa fd ps (spF G c.pr n fid)) (hr : Room (k + 1) X.A) (hg : Gl X x) (hm : X.mg x = some (.ref (G.cls cl))) (hb : Binds X.K fd ps [])
    (hx : Passes (L2.CX X.prog X.w) X EX) (ha : NA G Bs (WU EX) X c (a :: as) es) (hdb : (x == ("__debug__" : Str)) = false := by decide) (he : starEach (a :: as) X.env = (false, eval a X.env) :: starEach as X.env := by rfl) (hpl : (backTo pos (starEach as X.env)).any (·.1) = false := by rfl) :
    NE G Bs (WU EX) X c (.Call (.Name x p) (a :: as) [] pos) (.new cl fid es) := by
  unfold NE
  simp only [ev, hc]
  refine pe_imp (pe_make (dvs := []) (by rw [xo.K]; exact M) Fn hr hg hm hb .nil hx ha hdb he hpl) fun σ H Q ⟨F, ρ, τ, h, R, S, q⟩ => ⟨F, ρ, τ, h, R, S, (q.bind (T1 := DRs G)).imp (T' := DR G) fun vs H1 ⟨F1, ρ1, ds, h1, e1, R1, t1, q1⟩ => ?_⟩
  intro ad dx hx hdx hne
  rw [List.append_nil]
  have k1 : ∀ b u, H1 b = some u → (L2.upd (L2.upd H1 dx (.own ad)) ad (.ins (G.cls cl) dx [])) b = some u := fun b u z => by
    rw [upd_ne (ne_of_none z hx), upd_ne (ne_of_none z hdx)]
    exact z
  have R2 : Rel G Bs F1 (ρ1 ++ [ad]) (h1 ++ [.ins cl []]) (L2.upd (L2.upd H1 dx (.own ad)) ad (.ins (G.cls cl) dx [])) := R1.cellNew hx k1 ⟨dx, [], upd_same, by simp only [FRs]⟩
  have hri : (ρ1 ++ [ad])[h1.length]? = some ad := by rw [← R1.len]; simp
  have tn : DR G F1 (ρ1 ++ [ad]) (.ref h1.length) (.ref ad) := by simp only [DR]; exact ⟨ad, rfl, hri⟩
  refine sp_call hbs R2 (drs_cons.mpr ⟨tn, t1.mono Ext.snoc⟩) (((q1.mono (Ext.snoc (a := ad))).bind (T1 := DR G)).imp (T' := DR G) fun v H3 ⟨F3, ρ3, d, h3, e3, R3, t3, q3⟩ => ?_)
  split at q3
  · exact ⟨dr_non.mp t3, q3.ok_ R3 (tn.mono e3)⟩
  · exact q3.elim

/-! ### a def by its body -/
theorem fill_nil {f : Fn} (hd : f.df = []) (xs : List D) : fill f xs = xs := by
  unfold fill
  rw [hd]
  split <;> simp
theorem start_rel {F : Fh} {ρ : List Addr} {f : Fn} {ds : List D} {vs : List V} {N : List Str} (t : DRs G F ρ ds vs) (hN : N.length = f.ns) : SlotR G F ρ (PI.start f ds) (L2.start N vs) := by
  have hl := t.length
  refine ⟨?_, fun i d q => ?_⟩
  · simp only [L2.start, PI.start, List.length_append, List.length_map, List.length_replicate, hl, hN]
  · unfold PI.start at q
    by_cases hi : i < ds.length
    · rw [List.getElem?_append_left (by simpa using hi), List.getElem?_map] at q
      obtain ⟨d', h1, h2⟩ := Option.map_eq_some_iff.mp q
      cases h2
      obtain ⟨v, h3, h4⟩ := t.get h1
      refine ⟨v, ?_, h4⟩
      unfold L2.start
      rw [List.getElem?_append_left (by simpa [hl] using hi), List.getElem?_map, h3] <;> rfl
    · rw [List.getElem?_append_right (by simpa using hi), List.getElem?_replicate] at q
      split at q <;> cases q
/-- a def's own surroundings -/
abbrev XF (P : Program) (w : World) (G : GT) (mg : Str → Option Value) (base : Heap) (N : List Str) (qual : Str) (scope : Scope) (fa : Addr) (cdv : Value) (A : Around) (outer : List Env) (s : Shared) (H : L2.Hp) (EX : XK) : Cx := L2.cxOf (L2.CX P w) P w G.K mg base N qual scope fa cdv A outer s H EX
theorem XF.xo {P : Program} {w : World} {mg : Str → Option Value} {base : Heap} {N : List Str} {qual : Str} {scope : Scope} {fa : Addr} {cdv : Value} {A : Around} {outer : List Env} {s : Shared} {H : L2.Hp} {k : Nat} (hr : Room k (XF P w G mg base N qual scope fa cdv A outer s H EX).A) : XO G (XF P w G mg base N qual scope fa cdv A outer s H EX) :=
  ⟨rfl, by have := hr.un; omega, rfl⟩
theorem XF.takes {P : Program} {w : World} {mg : Str → Option Value} {base : Heap} {N : List Str} {qual : Str} {scope : Scope} {fa : Addr} {cdv : Value} {A : Around} {outer : List Env} {s : Shared} {H : L2.Hp} : Takes (XF P w G mg base N qual scope fa cdv A outer s H EX) (WU EX) := takes_of rfl rfl rfl rfl
theorem XF.passes {P : Program} {w : World} {mg : Str → Option Value} {base : Heap} {N : List Str} {qual : Str} {scope : Scope} {fa : Addr} {cdv : Value} {A : Around} {outer : List Env} {s : Shared} {H : L2.Hp} : Passes (L2.CX P w) (XF P w G mg base N qual scope fa cdv A outer s H EX) EX := fun pins σ H s e s' I hc => passes_call (W := WU EX) XF.takes (fun _ _ _ _ h => h) pins σ H s e s' I hc
theorem XF.owns {P : Program} {w : World} {mg : Str → Option Value} {base : Heap} {N : List Str} {qual : Str} {scope : Scope} {fa : Addr} {cdv : Value} {A : Around} {outer : List Env} {s : Shared} {H : L2.Hp} : PassesOwn (model P w) (XF P w G mg base N qual scope fa cdv A outer s H EX).A (XF P w G mg base N qual scope fa cdv A outer s H EX).env (XF P w G mg base N qual scope fa cdv A outer s H EX).xe := passes_of (X := XF P w G mg base N qual scope fa cdv A outer s H EX) rfl
/-- in a comprehension's block no exception is let through -/
theorem blk_passes {P : Program} {w : World} {X : Cx} {s : Shared} {H : L2.Hp} {scope : Scope} {ce : Env} {fp : List Addr} : Passes (L2.CX P w) (X.blk s H scope ce fp) (fun _ _ _ => False) := fun _ _ _ _ _ _ _ hc => by
  obtain ⟨_, _, _, _, _, _, _, _, _, _, _, _, h⟩ := hc
  exact h
/-- the def's promise, where its body is what the interpreter's list of statements tells -/
theorem fn_core {P : Program} {w : World} {mg : Str → Option Value} {base : Heap} {Pg : Pr} {n fid k : Nat} {f : Fn} {fa : Addr} {fd : FuncData} {N ps : List Str} {qual : Str} {bd : List Stmt} {scope : Scope} {cdv : Value}
    (ok : ∀ (sp : Sp), (∀ vs H Q E, sp vs H Q E → vs.length = ps.length) → (∀ (A : Around) (outer : List Env) (s : Shared) (H : L2.Hp) (vs : List V) (Q : VK) (E : XK), Room k (A.deeper (envOfC qual scope s.heap.objs.size fa cdv)) → sp vs H Q E →
      ∃ t, PSs (cxOf (L2.CX P w) P w G.K mg base N qual scope fa cdv A outer s H E) bd t ∧ t { nx := fun _ H' => Q .non H', rt := Q } (L2.start N vs) H) → FnOk P w G.K mg base (L2.CX P w) (k + 1) fa fd ps sp)
    (hf : Pg.fns[fid]? = some f) (hd : f.df = []) (hnp : f.np = ps.length) (hns : N.length = f.ns)
    (body : ∀ (Bs : List Nat) (b' : Nat) (A : Around) (outer : List Env) (s : Shared) (H : L2.Hp) (EX : XK), BaseOk Bs b' → Room k (XF P w G mg base N qual scope fa cdv A outer s H EX).A → NSs G Bs (WU EX) (XF P w G mg base N qual scope fa cdv A outer s H EX) ⟨callF Pg n, b', Pg⟩ bd f.body) :
    FnOk P w G.K mg base (L2.CX P w) (k + 1) fa fd ps (spF G Pg (n + 1) fid) := by
  refine ok _ (fun vs H Q EX ⟨Bs, b, F, ρ, h, ds, hb, R, t, q⟩ => ?_) (fun A outer s H vs Q EX hr ⟨Bs, b, F, ρ, h, ds, hb, R, t, q⟩ => ?_)
  · rw [t.length]
    simp only [callF, hf, fill_nil hd] at q
    by_cases hl : ds.length = f.np
    · rw [hl, hnp]
    · rw [if_neg hl] at q
      exact q.elim
  · have xo : XO G (XF P w G mg base N qual scope fa cdv A outer s H EX) := XF.xo hr
    simp only [callF, hf, fill_nil hd] at q
    by_cases hl : ds.length = f.np
    · rw [if_pos hl] at q
      have St := start_rel (f := f) t hns
      by_cases hg : f.gc = true
      · refine ⟨_, body (h.length :: Bs) h.length A outer s H EX (fun B hB => ?_) hr, F, ρ, _, h, R.enter, St, ?_⟩
        · rcases List.mem_cons.mp hB with rfl | hB
          · exact Nat.le_refl _
          · exact R.lows B hB
        · have q2 : Aft G Bs (WU EX) [] (DR G) F ρ (PI.leave f h.length (exs ⟨callF Pg n, h.length, Pg⟩ f.body (PI.start f ds) h)) Q := by
            simpa only [hg, if_true] using q
          unfold PI.leave at q2
          rw [if_pos hg] at q2
          have hn : ρ.length = h.length := R.len
          dsimp only
          cases e : exs ⟨callF Pg n, h.length, Pg⟩ f.body (PI.start f ds) h with
          | nx τ h1 =>
            rw [e] at q2
            exact fun F' ρ' H' σ' e' R' S' => q2 _ _ _ _ (e'.leave hn) (R'.leave R.lows) (dr_non.mpr rfl)
          | rt d h1 =>
            rw [e] at q2
            intro F' ρ' H' v e' R' t'
            dsimp only at q2
            split at q2
            · rename_i hbel
              exact q2 _ _ _ _ (e'.leave hn) (R'.leave R.lows) (t'.low hbel)
            · exact q2.elim
          | ex cc τ h1 =>
            rw [e] at q2
            exact fun F' ρ' H' σ' e' R' S' => q2 _ _ _ (e'.leave hn) (R'.leave R.lows)
          | bk τ h1 => rw [e] at q2; exact q2.elim
          | ct τ h1 => rw [e] at q2; exact q2.elim
          | no w => rw [e] at q2; exact q2.elim
      · refine ⟨_, body Bs b A outer s H EX hb hr, F, ρ, _, h, R, St, ?_⟩
        have q2 : Aft G Bs (WU EX) [] (DR G) F ρ (PI.leave f h.length (exs ⟨callF Pg n, b, Pg⟩ f.body (PI.start f ds) h)) Q := by
          simpa only [hg, if_false, Bool.false_eq_true] using q
        unfold PI.leave at q2
        rw [if_neg hg] at q2
        dsimp only
        cases e : exs ⟨callF Pg n, b, Pg⟩ f.body (PI.start f ds) h with
        | nx τ h1 =>
          rw [e] at q2
          exact fun F' ρ' H' σ' e' R' S' => q2 _ _ _ _ e' R' (dr_non.mpr rfl)
        | rt d h1 =>
          rw [e] at q2
          exact fun F' ρ' H' v e' R' t' => q2 _ _ _ _ e' R' t'
        | ex cc τ h1 =>
          rw [e] at q2
          exact fun F' ρ' H' σ' e' R' S' => q2 _ _ _ e' R'
        | bk τ h1 => rw [e] at q2; exact q2.elim
        | ct τ h1 => rw [e] at q2; exact q2.elim
        | no w => rw [e] at q2; exact q2.elim
    · rw [if_neg hl] at q
      exact q.elim
theorem fn_by {P : Program} {w : World} {mg : Str → Option Value} {base : Heap} {Pg : Pr} {n fid k : Nat} {f : Fn} {fa : Addr} {fd : FuncData} {N ps : List Str} {qual x : Str} {params : Arguments} {bd : List Stmt} {scope : Scope} {kws : List (Str × V)} (Fu : L2.FunD G.K x qual params bd scope [] kws fa fd) (S : FnScope N ps scope) (hf : Pg.fns[fid]? = some f) (hd : f.df = []) (hnp : f.np = ps.length) (hns : N.length = f.ns)
    (body : ∀ (Bs : List Nat) (b' : Nat) (cdv : Value) (A : Around) (outer : List Env) (s : Shared) (H : L2.Hp) (EX : XK), BaseOk Bs b' → Room k (XF P w G mg base N qual scope fa cdv A outer s H EX).A → NSs G Bs (WU EX) (XF P w G mg base N qual scope fa cdv A outer s H EX) ⟨callF Pg n, b', Pg⟩ bd f.body) :
    FnOk P w G.K mg base (L2.CX P w) (k + 1) fa fd ps (spF G Pg (n + 1) fid) := by
  obtain ⟨oc, od, dV, kV, doc, pm, an, cdv, ct, osl, rfl, lk, hcd, _, _⟩ := Fu.ex
  exact fn_core (cdv := cdv) (fun sp len run => L2.fn_of lk hcd S len run) hf hd hnp hns fun Bs b' A outer s H EX => body Bs b' cdv A outer s H EX
/-- no call is left: nothing is promised -/
theorem fn_zero {P : Program} {w : World} {mg : Str → Option Value} {base : Heap} {Pg : Pr} {fid k : Nat} {fa : Addr} {fd : FuncData} {ps : List Str} : FnOk P w G.K mg base (L2.CX P w) k fa fd ps (spF G Pg 0 fid) :=
  ⟨fun _ _ _ _ ⟨_, _, _, _, _, _, _, _, _, q⟩ => q.elim, fun _ _ _ _ _ _ _ _ _ _ _ _ _ ⟨_, _, _, _, _, _, _, _, _, q⟩ => q.elim⟩
end
end PI

/-! SM: what the top has written, by names. -/
set_option linter.all false
set_option maxRecDepth 100000
namespace PI
open PySem PySem.Spec L2 PyProof.Rows
/-- an own exception's class, called with one text -/
structure ExF (K : PySem.W.Frag) (mg : Str → Option Value) (x : Str) (C : Addr) : Prop where
  ex : ∃ B newId initId bmB, ExcBaseFacts B newId initId bmB ∧ PySem.W.excIn K C bmB newId = true
  at_ : mg x = some (.ref C)
  kp : (PySem.W.keepIn K (.ref C) = true)
  sub : PySem.W.subIn K (.ref C) (.type "BaseException") = some true
  ty : PySem.W.typeIn K (.ref C) = some (.type "type")
theorem ExF.mk_ {X : Cx} {x m : Str} {C : Addr} {j : Nat} {p p2 pos : Pos} (f : ExF X.K X.mg x C) (hg : Gl X x) (hdb : (x == ("__debug__" : Str)) = false := by decide) : PMk X (.Call (.Name x p) [.Constant (.str m) j p2] [] pos) (fun _ H Q => Q (.ref C) none H) := by
  obtain ⟨B, n, i, bm, F, q⟩ := f.ex
  exact pmk_own F q f.at_ f.kp (raises_own f.sub f.ty) hg hdb
/-- the statements of a class's body -/
def clsSt (i : Nat) : Stmt → Stmt
  | .ClassDef (body := b) .. => b.getD i (.Pass ⟨0, 0, 0, 0⟩)
  | s => s
end PI

/-! SN: tuples made of a generator expression. -/
set_option linter.all false
set_option maxRecDepth 100000
set_option maxHeartbeats 1000001
namespace PI
open PySem PySem.Spec L2 PyProof.Rows GenW
/-- no exception at all -/
def NX : XK := fun _ _ _ => False
theorem nx_cx {P : Program} {w : World} {outer : List Env} {H : L2.Hp} {s s' : Shared} {e : Value} (h : L2.CX P w outer H s NX e s') : False := by
  obtain ⟨_, _, _, _, _, _, _, _, _, _, _, _, z⟩ := (h)
  exact z
section
variable {P : Program} {w : World} {outer : List Env} {H : L2.Hp} {sc s : Shared} {ex : List Addr} {Q : List V → L2.Hp → Prop} {A : Around} {k : Nat} {u : Value} {E : Value → Shared → Prop}
/-- all that a fresh generator hands out, as one list -/
theorem collect_made {Q' : List Value → Shared → Prop} (hr : Room (k + 2) A) (hfr : A.frames = some outer) (h : GMade P w k outer H sc ex Q NX u s)
    (hQ : ∀ (s' : Shared) (acc : Array Value) (H' : L2.Hp) (ys : List V), Vals ys acc.toList → ys.length ≤ sizeLine → s'.os = sc.os → AllBare s'.gens → Un (frs outer) ex H H' sc.heap s'.heap → HOk P w H' s'.heap → Q ys H' → Q' acc.toList s') :
    wpAny (model P w) A (PySem.collect u) Q' E s := by
  obtain ⟨a, g, c, rfl, ha1, ha2, hg, hgs, hos, hb, hl, hkp, wake⟩ := (h)
  have far : s.heap.objs.size ≠ a := Nat.ne_of_gt ha2
  have hcl : cStatics < s.heap.objs.size := by
    obtain ⟨_, hn, _⟩ := hl
    exact hn.lt
  unfold PySem.collect
  refine (wpAny_bind (wpAny_runValue (codeAny_builtin F.entry_proto_collect ?_)))
  (rw [Around.under_plainId F.plain_proto_collect _])
  show wpAny _ A.in1 (newList [] >>= fun l' => again (.builtin "list.__iadd__" ⟨[l', .ref a], []⟩)) _ _ s
  refine (wpAny_bind (wpAny_newObj_type ?_))
  refine (wpAny_pure ⟨plainId_quiet F.plain_list_iadd _, codeAny_builtin F.entry_list_iadd ?_⟩)
  (rw [Around.under_plainId F.plain_list_iadd _])
  generalize hh0 : s.heap.push { cls := .type "list", data := .seq ([] : List Value).toArray } = h0
  have new0 : h0.get? s.heap.objs.size = some { cls := .type "list", data := .seq ([] : List Value).toArray } := by
    rw [← hh0]
    exact (Heap.get?_push_size _ rfl)
  have old0 : ∀ b o, s.heap.get? b = some o → h0.get? b = some o := fun b o e => by
    rw [← hh0]
    exact (Heap.get?_push_of_some _ e)
  have gen0 : h0.IsGen a g := hg.keeps old0
  have other : Builtin.List.listSameRef (.ref s.heap.objs.size) (.ref a) = false := by simp [Builtin.List.listSameRef, far]
  show (wpAny _ A.in1 (Builtin.List.listExtendWith (.ref s.heap.objs.size) (.ref a) (.ref s.heap.objs.size)) _ _ _)
  unfold Builtin.List.listExtendWith; skip
  refine wpAny_bind (wpAny_typeOf (Heap.IsGen.typeIs (s := { s with heap := h0 }) gen0) ?_)
  rw [if_neg (by rw [other]; decide)]
  refine wpAny_bind (wpAny_pyIter_gen (s := { s with heap := h0 }) gen0 ?_)
  refine (wpAny_bind (wpAny_holding ?_))
  unfold Builtin.List.listLengthHint; skip
  refine wpAny_bind (wpAny_specialOf (Heap.IsGen.typeIs (s := { s with heap := h0 }) gen0) F.gen_no_len ?_)
  show wpAny _ A.in1 (specialOf (Value.ref a) (Str.ofString "__length_hint__") >>= _) _ _ _
  refine wpAny_bind (wpAny_specialOf (Heap.IsGen.typeIs (s := { s with heap := h0 }) gen0) F.gen_no_hint ?_)
  refine wpAny_pure ?_
  show wpAny (model P w) A.in1 (rule "list.extend.makes-room" >>= fun _ => Builtin.List.listTouch (.ref s.heap.objs.size) >>= fun _ =>
    again (.builtin "list.extend.loop" ⟨[.ref s.heap.objs.size, .ref a, .ref s.heap.objs.size], []⟩)) _ _ _
  refine (wpAny_bind (wpAny_rule ?_))
  refine wpAny_bind ?_
  show (wpAny _ A.in1 (updateSeq s.heap.objs.size (·.push .none) >>= fun _ => updateSeq s.heap.objs.size (·.pop)) _ _ _)
  refine wpAny_bind (wpAny_updateSeq new0 rfl ?_)
  have new1 := Heap.get?_update_self (Obj.mapSeq (·.push Value.none)) new0 rfl
  refine wpAny_updateSeq (hz := by seq_fits) new1 rfl ?_
  have new2 := Heap.get?_update_self (Obj.mapSeq (·.pop)) new1 rfl
  have step : ∀ (h : Heap) (f : Obj → Obj), (∀ b o, s.heap.get? b = some o → h.get? b = some o) → ∀ b o, s.heap.get? b = some o → (h.update s.heap.objs.size f).get? b = some o := fun h f q b o e =>
    (Heap.get?_update_other _ _ (Nat.ne_of_gt (Heap.lt_size e))).trans (q b o e)
  have old2 := step _ (Obj.mapSeq (·.pop)) (step _ (Obj.mapSeq (·.push Value.none)) old0)
  refine (wpAny_pure ⟨plainId_quiet F.plain_extend_loop _, ?_⟩)
  refine drain (P := P) (w := w) (outer := outer) (H := H) (sc := sc) (ex := ex) (Q := Q) (EX := NX) (A := A) (g := g) hr.hd (by have := hr.dp; omega) far (Nat.ne_of_gt hcl)
    (fun s' acc c H' ys q1 q2 q3 q4 q5 q6 q7 q8 q9 => ?_) (fun e s' hc => (nx_cx hc).elim)
    sizeLine _ (hg.keeps old2) (hl.keeps old2) ⟨_, hgs, rfl, ?_⟩
  · show wpAny _ A (load s.heap.objs.size >>= _) _ _ s'
    refine wpAny_bind (wpAny_load q1 ?_)
    exact wpAny_pure (hQ s' acc H' ys q2 q3 q4 q5 q6 q7 q9)
  · refine wake _ _ _ ⟨hr.hd, ?_, ?_⟩ hfr (Nat.le_refl _) old2 ⟨_, new2⟩ hos (allBare_setGen (s := { s with heap := _ }) hb rfl)
    · have := hr.dp
      show A.depth + 3 * k + 5 < _
      omega
    · have := hr.un
      show A.units + 1 + 1 + 16 * k + 200 < _
      omega
/-- tuple(g) -/
theorem tuple_made {Q' : Value → Shared → Prop} (hr : Room (k + 3) A) (hfr : A.frames = some outer) (h : GMade P w k outer H sc ex Q NX u s)
    (hQ : ∀ (s' : Shared) (acc : Array Value) (H' : L2.Hp) (ys : List V), Vals ys acc.toList → ys.length ≤ sizeLine → s'.os = sc.os → AllBare s'.gens → Un (frs outer) ex H H' sc.heap s'.heap → HOk P w H' s'.heap → Q ys H' →
      Q' (.ref s'.heap.objs.size) { s' with heap := s'.heap.push { cls := .type "tuple", data := .seq acc } }) :
    wpAny (model P w) A (call (.type "tuple") [u]) Q' E s := by
  have mk : codeAny (model P w) A.in1 (.call (.builtin "tuple.__new__") ⟨[.type "tuple", u], []⟩) (wants (fun obj s₁ => s₁.TypeIs obj "tuple" ∧ Q' obj s₁) E) s := by
    obtain ⟨a, g, c, rfl, hg⟩ := id h
    refine codeAny_of_tree ?_
    show wpAny _ A.in1.in1 (do checkBuiltinCall "tuple.__new__" ⟨[.type "tuple", .ref a], []⟩; again (.builtin "tuple.__new__" ⟨[.type "tuple", .ref a], []⟩)) _ _ s
    refine (wpAny_bind (wpAny_of_eq (F.newCall_tuple_1 _) (wpAny_pure ⟨plainId_quiet F.plain_tuple_new _, codeAny_builtin F.entry_tuple_new ?_⟩)))
    (rw [Around.under_plainId F.plain_tuple_new _])
    have hsub := sub_tuple_self
    have hinit := (init_tuple_lookup)
    have hmh := madeHere_tuple
    have hTI : s.TypeIs (.ref a) "generator" := Heap.IsGen.typeIs hg.2.2.1
    have hr2 : Room (k + 2) A.in1.in1 := ⟨hr.hd, by have := hr.dp; show A.depth + 3 * (k + 2) + 5 < _; omega, by have := hr.un; show A.units + 1 + 1 + 16 * (k + 2) + 200 < _; omega⟩
    wp_walk using wpAny_typeOf hTI, collect_made (A := A.in1.in1) hr2 hfr h
    intro s' acc H' ys r hle os bare un hok q
    show (wpAny _ _ (Builtin.Tuple.tupleExact acc.toList.toArray >>= fun v => ret v) _ _ _)
    unfold Builtin.Tuple.tupleExact; skip
    have hlen : acc.size = ys.length := by
      have e1 := r.length
      have e2 : (acc.toList.length = acc.size) := by simp
      omega
    refine wpAny_bind (wpAny_newObj_type ?_ (by show acc.toList.toArray.size ≤ sizeLine; simp only [Array.toArray_toList]; rw [hlen]; exact hle))
    refine wpAny_pure ?_
    have e : (acc.toList.toArray = acc) := by simp
    rw [e]
    exact ⟨⟨_, Heap.get?_push_size _ rfl, rfl⟩, hQ s' acc H' ys r hle os bare un hok q⟩
  refine callType_codes (Q₁ := fun obj s₁ => s₁.TypeIs obj "tuple" ∧ Q' obj s₁) F.called_tuple (F.typeCall_tuple_1 _) F.entry_object_init mk fun obj s₁ h₁ => ?_
  exact ⟨h₁.1, F.args_object_init_2 obj _, object_init_meets F.called_tuple.init.lookup F.called_tuple.made (by decide) P w A.in1 _ s₁ ⟨h₁.1, rfl, h₁.2⟩⟩
end
def tTupG (tg : TGen) : TE := fun σ H Q => tg σ H fun out H2 => ∀ p, H2 p = none → Q (.ref p) (L2.upd H2 p (.tup out))
theorem pe_tupG {X : Cx} {k : Nat} {e : Expr} {tg : TGen} {nm : Str} {p pos : Pos} (h : PGen X k e tg NX) (hr : Room (k + 3) X.A) (hg : Gl X nm) (hmg : X.mg nm = none) (hv : bootBuiltins nm = some (.type "tuple")) (hnm : nm ≠ "__name__" := by decide) (hdb : (nm == ("__debug__" : Str)) = false := by decide)
    (he : starEach [e] X.env = (false, eval e X.env) :: starEach [] X.env := by rfl) : PE X (.Call (.Name nm p) [e] [] pos) (tTupG tg) := by
  refine (⟨fun pins s σ H Q I hq => ?_⟩)
  refine (wpAny_Call_Name_kw (ld_blt I hg hmg hv ?_ hnm hdb))
  refine (PyProof.Rows.callWith_type1 ?_ he rfl)
  rw [he]
  show (wpAny _ _ (spliced ((false, eval e X.env) :: backTo pos (starEach [] X.env))) _ _ s)
  refine (Calls.spliced_cons (thn (h.run pins s σ H _ I hq) fun u s1 ⟨H1, sc, ex, I1, hex, hG⟩ => ?_))
  refine Calls.spliced_nil ?_
  refine tuple_made hr I1.ok.frames hG fun s' acc H' ys r hle os bare un hok q => ?_
  have I2 : Inv X pins σ H' s' := I1.call' (ch := ex) os un hok bare hex
  have hf : H' s'.heap.objs.size = none := I2.hok.fresh (Nat.le_refl _)
  refine ⟨.ref s'.heap.objs.size, L2.upd H' s'.heap.objs.size (.tup ys), I2.laid (t' := s'.toks) (fun b u e => Heap.get?_push_of_some _ e) (Nat.le_refl _) ?_, rfl, q _ hf⟩
  cases acc with
  | mk l => exact ⟨hle, l, r, ⟨_, Heap.get?_push_size _ rfl, rfl, _, rfl⟩⟩
end PI

/-! SO: a generator expression, made and run. -/
set_option linter.all false
set_option maxRecDepth 100000
set_option maxHeartbeats 1000001
namespace PI
open PySem PySem.Spec L2 PyProof.Rows GenW
/-- the surroundings of a generator expression's own code; pn: its object -/
abbrev gcx (X : Cx) (A : Around) (sc : Shared) (H1 : L2.Hp) (scope : Scope) (ce : Env) (fp : List Addr) (pn : List (Addr × Obj)) : Cx :=
  { X with A := A.deeper ce, s_0 := sc, H_0 := H1, env := ce, outer := X.stack, stack := ce :: X.stack, ex := fp, fn := fun x => scope.names.lookup x == some .cell, calm := true, pn := pn, xe := fun _ _ => False }
abbrev geEnv (X : Cx) (scope : Scope) (C : Addr) (code : Value) : Env := genEnv scope (cloFrom X.env.cells scope.names []) C code builtinsNs X.env
section
variable {X : Cx} {pins : List (Addr × Obj)} {σ : L2.St} {H : L2.Hp} {s : Shared}
theorem gen_begin {scope : Scope} {own : List (Str × Nat)} {fp : List Addr} {A : Around} {code : Value} {s2 : Shared} {pn P0 : List (Addr × Obj)} {m : Str → Option Value} (I : Inv X pins σ H s) (ok : BlkOk X.N X.env.scope scope own) (hN : X.N.Nodup) (nocell : ∀ y ∈ scope.names, y.2 ≠ .cell)
    (hfp : ∀ b ∈ fp, FpOk X pins H b ∧ b < s.heap.objs.size) (hh : A.handled = none) (hf : A.frames = some X.stack) (kp : ∀ b o, s.heap.get? b = some o → s2.heap.get? b = some o) (hn : s2.heap.Ns s.heap.objs.size m) (os : s2.os = s.os) (bare : AllBare s2.gens)
    (hp : ∀ p ∈ pn ++ P0, s2.heap.get? p.1 = some p.2 ∧ s.heap.objs.size < p.1 ∧ ∀ v, p.2.data ≠ .cell v) :
    Inv (gcx X A s H scope (geEnv X scope s.heap.objs.size code) fp pn) P0 (wipe σ (own.map (·.2))) H s2 := by
  have hfree : ∀ y ∈ scope.names, y.2 = .free → ∃ c, X.env.cells.lookup y.1 = some c := fun y hy e => (ok.free y hy e).elim (fun k => I.ok.has _ (.inl k)) fun k => I.ok.has _ (.inr k)
  generalize hce : geEnv X scope s.heap.objs.size code = ce
  have hL : ce.locals = s.heap.objs.size := by rw [← hce] <;> rfl
  have hcl : ce.cells = cloFrom X.env.cells scope.names [] := by rw [← hce] <;> rfl
  have hsc : ce.scope = scope := by rw [← hce] <;> rfl
  have cm : (∀ {y c}, (y, c) ∈ cloFrom X.env.cells scope.names [] → X.env.cells.lookup y = some c ∧ c < s.heap.objs.size) := fun {y c} hm => by
    rcases (cloFrom_mem hm) with hm | ⟨h1, rfl⟩
    · cases hm
    · obtain ⟨c, hc⟩ := (hfree _ h1 rfl)
      obtain ⟨w, z⟩ := (I.cell _ _ hc)
      rw [hc]
      exact ⟨rfl, z.lt⟩
  have mem : ∀ {y c}, ce.cells.lookup y = some c → X.env.cells.lookup y = some c ∧ c < s.heap.objs.size := fun {y c} e => by
    rw [hcl] at e
    exact cm (PySem.mem_of_lookup e)
  have look : ∀ {y}, scope.names.lookup y = some .free → ∃ c, ce.cells.lookup y = some c ∧ X.env.cells.lookup y = some c := fun {y} hl => by
    obtain ⟨c', e'⟩ := mem_lookup (cloFrom_has (cells := X.env.cells) (acc := []) (PySem.mem_of_lookup hl))
    rw [← hcl] at e'
    exact ⟨c', e', (mem e').1⟩
  have sky : ∀ y, scope.names.lookup y ≠ some .cell := fun y e => nocell _ (PySem.mem_of_lookup e) rfl
  have okB : (gcx X A s H scope ce fp pn).Ok := by
    refine ⟨I.ok.mod, by show ce.scope.kind = _; rw [hsc]; exact ok.kind, by show ce.globals = _; rw [← hce]; exact I.ok.glob, by show ce.builtins = _; rw [← hce] <;> rfl, by show s.heap.objs.size ≤ ce.locals; rw [hL]; exact Nat.le_refl _,
      fun y z c e1 e2 => I.ok.inj y z c (mem e1).1 (mem e2).1, fun y hy => ?_, fun y c z e => ?_, fun _ => hh, Around.frames_deeper hf, .inr ⟨rfl, by show ce.frame = some ce.locals; rw [← hce] <;> rfl⟩, fun b hb => ⟨?_, fun y c e z => ?_⟩, I.bs, Nat.le_trans I.ok.bsz I.sz, fun b o e hb => ?_, fun b hb z => ?_, I.stack, I.stkFree⟩
    · have hy : ce.scope.names.lookup y = some .cell ∨ ce.scope.names.lookup y = some .free := hy
      rw [hsc] at hy
      rcases hy with hy | hy
      · exact absurd hy (sky y)
      · obtain ⟨c, h1, _⟩ := look hy
        exact ⟨c, h1⟩
    · have z : ((scope.names.lookup y == some NameKind.cell) = true) := z
      exact absurd (by simpa using z) (sky y)
    · show b ≠ ce.locals
      rw [hL]
      exact Nat.ne_of_lt (hfp b hb).2
    · exact (hfp b hb).1.2.2.2.2.1 y c (mem e).1 z
    · rcases ((hfp b hb).1.2.2.2.1) with z | z
      · exact I.ok.noex b o e z
      · exact (absurd (Nat.lt_of_lt_of_le (Heap.lt_size e) (Nat.le_trans I.ok.bsz z)) (Nat.lt_irrefl _))
    · rcases (List.mem_cons.mp (I.stkSub b z)) with z | z
      · exact (hfp b hb).1.2.1 z
      · exact (hfp b hb).1.2.2.1 z
  refine ⟨okB, os, bare, Un.kept kp, ⟨m, ?_, fun i y av e1 e2 e3 => ?_⟩, fun y c e => ?_, ?_, fun y c e => I.freeC y c (mem e).1, fun p hpp => ?_, I.hok.kept kp, by rw [wipe_length]; exact I.len⟩
  · show Heap.Ns _ ce.locals _
    rw [hL]
    exact hn
  · obtain ⟨e2, hne⟩ := (wipe_some e2)
    have e3 : ce.scope.names.lookup y = some .local ∨ ce.scope.names.lookup y = some .cell ∨ ce.scope.names.lookup y = some .free := e3
    have hfr : scope.names.lookup y = some .free := by
      rw [hsc] at e3
      rcases e3 with e3 | e3 | e3
      · exfalso
        rcases ok.own _ (PySem.mem_of_lookup e3) (.inl rfl) with e' | e'
        · obtain ⟨p, hp1, hpy⟩ := List.mem_map.mp e'
          have e4 := ok.ix p hp1
          rw [show p.1 = y from hpy] at e4
          exact hne (List.mem_map.mpr ⟨p, hp1, nodup_ix hN e4 e1⟩)
        · exact (e' (List.mem_of_getElem? e1))
      · exact absurd e3 (sky y)
      · exact e3
    obtain ⟨m0, _, hl⟩ := I.loc
    have hvis : Vis X.env.scope y := (ok.free _ (PySem.mem_of_lookup hfr) rfl).elim (fun k => .inr (.inl k)) (fun k => .inr (.inr k))
    obtain ⟨w, r, q⟩ := (hl i y av e1 e2 hvis)
    refine ⟨w, r, .inr ⟨.inr (by show ce.scope.names.lookup y = _; rw [hsc]; exact hfr), ?_⟩⟩
    obtain ⟨c, h1, h2⟩ := look hfr
    rcases (q) with ⟨k, _⟩ | ⟨_, c', e', z⟩
    · have k : (X.env.scope.names.lookup y = some .local) := k
      rcases ok.free _ (PySem.mem_of_lookup hfr) rfl with k' | k' <;> rw [show X.env.scope.names.lookup y = _ from k'] at k <;> cases k
    · rw [h2] at e'
      cases e'
      exact ⟨c, h1, z.keeps kp⟩
  · obtain ⟨w, z⟩ := I.cell y c (mem e).1
    exact ⟨w, z.keeps kp⟩
  · show H ce.locals = none
    rw [hL]
    exact I.hok.fresh (Nat.le_refl _)
  · obtain ⟨h1, h2, h3⟩ := hp p hpp
    refine ⟨h1, I.hok.fresh (Nat.le_of_lt h2), ?_, fun z => ?_, h3⟩
    · show p.1 ≠ ce.locals
      rw [hL]
      exact Nat.ne_of_gt h2
    · rcases List.mem_cons.mp (I.stkSub p.1 z) with z | z
      · have := I.lt
        rw [← z] at this
        exact absurd (Nat.lt_trans this h2) (Nat.lt_irrefl _)
      · exact I.nofs (Nat.le_of_lt h2) z
/-- a generator expression's reading: what it will hand out -/
def tGe (wi : TI) (P : Addr) (g : TG) (tt : TT) (te : TE) (vs : List Nat) : TGen := fun σ H cont => wi σ H fun J H1 => GxR.TabG H1 P ∧ ∀ H2, GxR.Tabbed P H1 H2 → ∃ W : Nat → Nat → List V → L2.Hp → Prop, (∃ m, W 0 m [] H2) ∧ ∀ i m ys H, W i m ys H →
  (J.stop i H ∧ cont ys H) ∨ (J.go i H ∧ ∃ Nx : List V → L2.Hp → Prop, (∀ ys' H', Nx ys' H' → ∃ m', m' < m ∧ W (i + 1) m' ys' H') ∧ ∀ x H', J.yld i H x H' → g x (wipe σ vs) H' fun σ2 H2 => wipe σ2 vs = wipe σ vs ∧ tt σ2 H2 fun b H3 =>
    if b = true then te σ2 H3 fun y H4 => ys.length < sizeLine ∧ Nx (ys ++ [y]) H4 else Nx ys H3)
theorem over_ge {A : Around} {elt target iter : Expr} {ifs : List Expr} {scope : Scope} {pos : Pos} {it acc : Value} {ce : Env} : A.over (.compLoop (.GeneratorExp elt [⟨target, iter, ifs, 0⟩] scope pos) 0 it acc ce) [] = A.deeper ce := by
  rfl
theorem over_gs {A : Around} {elt target iter : Expr} {ifs : List Expr} {scope : Scope} {pos : Pos} {it acc : Value} {ce : Env} : A.over (.compStart (.GeneratorExp elt [⟨target, iter, ifs, 0⟩] scope pos) 0 it acc ce) [] = A.deeper ce := by
  rfl
end
section
variable {Y : Cx} {A : Around} {elt tg iter : Expr} {ifs : List Expr} {scope : Scope} {pos : Pos} {it S a : Addr} {gn : Nat} {go : Obj} {fp : List Addr} {tn : Nat → Heap → Prop} {J : It} {σ : L2.St} {vs : List Nat} {cont : List V → L2.Hp → Prop} {g : TG} {tt : TT} {te : TE} {W : Nat → Nat → List V → L2.Hp → Prop}
/-- the turns of the generator's code; Y: its surroundings -/
theorem seg_ge (hA : Y.A = A.deeper Y.env) (hcalm : Y.calm = true) (hex : Y.ex = fp) (hpn : Y.pn = [(a, go)]) (hxe : Y.xe = fun _ _ => False) (hgo : ∀ h : Heap, h.get? a = some go → h.IsGen a gn) (haS : a ≠ S) (hap : Apart Y S) (hafp : ∀ b ∈ fp, b ≠ a ∧ b ≠ S) (hco : Y.env.scope.isCoroutine = false)
    (T : Turn Y.prog Y.w Y.K tg J fp it tn) (hg : PG Y tg g) (ht : PTs Y ifs tt) (he : PE Y elt te)
    (turn : ∀ i m ys H, W i m ys H → (J.stop i H ∧ cont ys H) ∨ (J.go i H ∧ ∃ Nx : List V → L2.Hp → Prop, (∀ ys' H', Nx ys' H' → ∃ m', m' < m ∧ W (i + 1) m' ys' H') ∧ ∀ x H', J.yld i H x H' → g x (wipe σ vs) H' fun σ2 H2 => wipe σ2 vs = wipe σ vs ∧ tt σ2 H2 fun b H3 =>
      if b = true then te σ2 H3 fun y H4 => ys.length < sizeLine ∧ Nx (ys ++ [y]) H4 else Nx ys H3)) :
    ∀ (m i n : Nat) (ys : List V) (s₀ s : Shared) (H : L2.Hp), n + ys.length = sizeLine → W i m ys H → GI Y S [] ys (wipe σ vs) H s → tn i s.heap → (∀ b ∈ fp, H b = none) →
      Seg (model Y.prog Y.w) A (REnd Y.prog Y.w Y.outer Y.H_0 Y.s_0 fp S a gn cont NX) (YItem Y.s_0 S a gn) n s₀ (.compLoop (.GeneratorExp elt [⟨tg, iter, ifs, 0⟩] scope pos) 0 (.ref it) .none Y.env)
        ((model Y.prog Y.w).den (.compLoop (.GeneratorExp elt [⟨tg, iter, ifs, 0⟩] scope pos) 0 (.ref it) .none Y.env)) [] s := by
  intro m
  induction m using Nat.strongRecOn with -- by the measure
  | ind m ih =>
    intro i n ys s₀ s H hn w hI st nf
    obtain ⟨acc, cc, ra, I⟩ := hI
    have fpok : ∀ {σ' : L2.St} {H' : L2.Hp} {s' : Shared} {acc : Array Value} {cc : Nat}, Inv Y [(S, lstObj acc cc)] σ' H' s' → (∀ b ∈ fp, H' b = none) → ∀ b ∈ fp, FpOk Y [(S, lstObj acc cc)] H' b := fun {σ' H' s' acc cc} I' hn' b hb => by
      refine ⟨hn' b hb, (I'.ok.exf b (by rw [hex]; exact hb)).1, I'.ok.exfs b (by rw [hex]; exact hb), .inl (by rw [hex]; exact hb), (I'.ok.exf b (by rw [hex]; exact hb)).2, fun p hp z => ?_⟩
      rw [hpn] at hp
      rcases List.mem_cons.mp hp with hp | hp
      · rw [hp] at z
        exact (hafp b hb).1 z.symm
      · rw [List.mem_singleton.mp hp] at z
        exact (hafp b hb).2 z.symm
    have hov : A.over (.compLoop (.GeneratorExp elt [⟨tg, iter, ifs, 0⟩] scope pos) 0 (.ref it) .none Y.env) [] = Y.A := over_ge.trans hA.symm
    have no : ∀ {e : Value} {s' : Shared} {p : Prop}, Y.xe e s' → p := fun {e s' p} z => by
      rw [hxe] at z
      exact z.elim
    show Seg _ A _ _ n s₀ _ ((compTurn (.GeneratorExp elt [⟨tg, iter, ifs, 0⟩] scope pos) 0 (.ref it) .none Y.env).onRaise (leaving Y.env)) [] s
    (rw [compTurn_gen, Sem.onRaise_eq_wrap])
    refine (seg_bind_wrap (wpAny_standAt ?_))
    rcases turn i m ys H w with ⟨stop, qq⟩ | ⟨go', Nx, hNx, step⟩
    · refine seg_bind_wrap ?_
      rw [hov]
      refine thnF (T.done Y rfl rfl rfl hcalm i _ s _ H (fun _ _ => False) I (fpok I nf) st stop) fun r s6 ⟨hr, I6⟩ => ?_
      subst hr
      have G6 : GI Y S [] ys (wipe σ vs) H s6 := ⟨acc, cc, ra, I6⟩
      obtain ⟨y1, _, _, acc', cc', ra', ea'⟩ := G6.at
      exact seg_end (.ok .next) (.inl ⟨.inr rfl, H, ys, acc', cc', I6.os, I6.bare, by rw [← hex]; exact I6.base, I6.hok, y1, ea', ra', by omega, qq⟩)
    · refine seg_bind_wrap ?_
      rw [hov]
      refine thnF (T.item Y rfl rfl rfl hcalm i _ s _ H (fun _ _ => False) I (fpok I nf) st go') fun r s6 ⟨u, hr, h6⟩ => ?_
      subst hr
      refine seg_bind_wrap ?_
      rw [hov]
      refine (thnF h6 fun _ s7 ⟨x, H7, I7, r7, y7, st7, n7⟩ => ?_)
      have I7' := I7.pinned (fpok I7 n7) (T.obj _ _ st7)
      refine seg_bind_wrap ?_
      rw [hov]
      refine wpAny_mono (hg.run _ s7 _ H7 x u _ I7' r7 (step x H7 y7)) (fun _ s8 ⟨σ8, H8, I8, hw8, q8⟩ => ?_) fun _ _ z => no z
      refine seg_bind_wrap ?_
      rw [hov]
      refine wpAny_mono (ht.run _ s8 σ8 H8 _ I8 q8) (fun b s9 ⟨H9, I9, q9⟩ => ?_) fun _ _ z => no z
      -- what the turn leaves
      have fin : ∀ {s' : Shared} {H' : L2.Hp} {σ' : L2.St}, Inv Y ([(S, lstObj acc cc)] ++ pinsAt fp s7.heap) σ' H' s' → Inv Y [(S, lstObj acc cc)] σ' H' s' ∧ tn (i + 1) s'.heap ∧ (∀ b ∈ fp, H' b = none) := fun {s' H' σ'} I' => by
        have pin' : (∀ b ∈ fp, ∀ o, s7.heap.get? b = some o → s'.heap.get? b = some o ∧ H' b = none) := fun b hb o e =>
          let z := (I'.pin (b, o) (List.mem_append_right _ (List.mem_append_right _ (mem_pinsAt hb e))))
          ⟨z.1, z.2.1⟩
        refine ⟨I'.unpinned, T.keep _ _ _ st7 fun b hb o e => (pin' b hb o e).1, fun b hb => ?_⟩
        obtain ⟨o, e, _⟩ := (T.obj _ _ st7 b hb)
        exact (pin' b hb o e).2
      have hl8 : (wipe σ vs).length = σ8.length := by rw [← hw8, wipe_length]
      have hk8 : ∀ (j : Nat) v, (wipe σ vs)[j]? = some (some v) → σ8[j]? = some (some v) := fun j v e => by
        rw [← hw8] at e
        exact (wipe_some e).1
      cases b with
      | false =>
        (simp only [Bool.false_eq_true, if_false] at q9 ⊢)
        obtain ⟨m', hm', w'⟩ := hNx ys H9 q9
        obtain ⟨I10, st10, n10⟩ := fin I9
        exact seg_again rfl (ih m' hm' (i + 1) n ys s₀ s9 H9 hn w' ⟨acc, cc, ra, I10.weak hl8 hk8⟩ st10 n10)
      | true =>
        simp only [if_true] at q9 ⊢
        have hy : ∀ v, yieldOut Y.env v = yieldValue v := fun v => by simp only [yieldOut, hco, Bool.false_eq_true, if_false]
        simp only [hy]
        (rw [Sem.bind_eq_wrap', Sem.bind_eq_wrap', Sem.wrap_wrap, Sem.wrap_wrap])
        refine seg_wrap ?_
        rw [hov]
        refine wpAny_mono (he.run _ s9 σ8 H9 _ I9 q9) (fun y s10 ⟨yv, H10, I10, r10, hlt, nx⟩ => ?_) fun _ _ z => no z
        obtain ⟨m', hm', w'⟩ := hNx _ H10 nx
        obtain ⟨I11, st11, n11⟩ := fin I10
        have G11 : GI Y S [] ys σ8 H10 s10 := ⟨acc, cc, ra, I11⟩
        obtain ⟨n, rfl⟩ : ∃ k, n = k + 1 := ⟨n - 1, by omega⟩
        have hgen : s10.heap.IsGen a gn := hgo _ (I11.pin (a, go) (by rw [hpn]; exact List.mem_cons_self)).1
        obtain ⟨y1, _, _, acc', cc', ra', ea'⟩ := G11.at
        have hsz : acc'.size = ys.length := by
          have e1 := ra'.length
          have e2 : acc'.toList.length = acc'.size := by simp
          omega
        refine seg_at (seg_yield rfl rfl rfl ⟨I11.os, I11.bare, I11.nolimit, hgen, ⟨acc', cc', ea', by rw [hsz]; exact hn⟩, fun s'' z => ?_⟩)
        have G12 : GI Y S [] (ys ++ [yv]) σ8 H10 s'' := G11.woken (fun p hp => by rw [hpn] at hp; rw [List.mem_singleton.mp hp]; exact haS) (fun p hp => by cases hp) hap r10 z
        obtain ⟨acc2, cc2, ra2, I12⟩ := G12
        refine seg_again rfl (ih m' hm' (i + 1) n _ s'' s'' H10 (by rw [List.length_append, List.length_singleton]; omega) w' ⟨acc2, cc2, ra2, I12.weak hl8 hk8⟩ (T.keep _ _ _ st11 fun b hb o e => z.keep b o (hafp b hb).2 e) n11)
end
section
variable {X : Cx} {k : Nat} {elt tg iter : Expr} {ifs : List Expr} {scope : Scope} {own : List (Str × Nat)} {gpos : Pos} {c P : Addr} {wi : TI} {g : TG} {tt : TT} {te : TE}
/-- THE RULE: a generator expression that is not begun -/
theorem pgen_ge (TB : GxR.TabB X.base X.mg c P) (hcode : X.env.code = .ref c) (hr : Room 0 X.A) (hN : X.N.Nodup) (hi : PI X tg iter wi) (ok : BlkOk X.N X.env.scope scope own) (hco : scope.isCoroutine = false) (nocell : ∀ y ∈ scope.names, y.2 ≠ .cell) (dot : scope.names.lookup (".0" : Str) = some NameKind.local)
    (hg : ∀ (A : Around) (s : Shared) (H : L2.Hp) (C : Addr) (code : Value) (fp : List Addr) (pn : List (Addr × Obj)), PG (gcx X A s H scope (geEnv X scope C code) fp pn) tg g)
    (ht : ∀ (A : Around) (s : Shared) (H : L2.Hp) (C : Addr) (code : Value) (fp : List Addr) (pn : List (Addr × Obj)), Room (k + 1) A → PTs (gcx X A s H scope (geEnv X scope C code) fp pn) ifs tt)
    (he : ∀ (A : Around) (s : Shared) (H : L2.Hp) (C : Addr) (code : Value) (fp : List Addr) (pn : List (Addr × Obj)), Room (k + 1) A → PE (gcx X A s H scope (geEnv X scope C code) fp pn) elt te)
    (hs : ∀ v, genFold iter X.env v = pure v) : PGen X (k + 1) (.GeneratorExp elt [⟨tg, iter, ifs, 0⟩] scope gpos) (tGe wi P g tt te (own.map (·.2))) NX := by
  refine (⟨fun pins s σ H cont I h => ?_⟩)
  have hfree : ∀ y ∈ scope.names, y.2 = .free → ∃ c, X.env.cells.lookup y.1 = some c := fun y hy e => (ok.free y hy e).elim (fun k => I.ok.has _ (.inl k)) fun k => I.ok.has _ (.inr k)
  refine wpAny_GeneratorExp_make hco (closure_ok hfree) nocell dot ok.kind (by have := hr.dp; omega) (thn (hi.run pins s σ H _ I h) fun xv s1 hx => thn hx fun itv s2 h2 => ?_) hs
  obtain ⟨it, fp, tn, J, H2, rfl, I2, T, st2, f2, ⟨ps, hP, htr⟩, turn⟩ := h2
  refine ⟨I2.nolimit, ?_⟩
  have hP2 : s2.heap.get? P = some { cls := .none, data := .fields ps } := I2.hok P _ hP
  have cd : PySem.W.CodeHd s2.heap c P := TB.code.keeps I2.bk
  have fpP : ∀ b ∈ fp, b ≠ P := fun b hb z => by
    have e := (f2 b hb).1
    rw [z, hP] at e
    cases e
  have rest : ∀ (code : Value) (h3 : Heap) (tk : Nat) (more : Array Value), Heap.ExtBut P s2.heap h3 → s2.heap.objs.size ≤ h3.objs.size → h3.get? P = some { cls := .none, data := .fields (ps ++ more) } → TriplesOk (ps ++ more).toList →
      wpAny (model X.prog X.w) X.A (builtinsFor X.env.globals X.env.builtins) (fun bi s₄ => ∀ h', h'.Ns s₄.heap.objs.size (fun y => if y = ".0" then some (.ref it) else none) → Heap.SameBut s₄.heap.objs.size (s₄.heap.push { cls := .type "frame", data := .dict #[] }) h' →
        (fun u s' => ∃ H1 sc ex, Inv X pins σ H1 sc ∧ ExOk X pins ex ∧ GMade X.prog X.w (k + 1) X.stack H1 sc ex cont NX u s') (.ref h'.objs.size) { s₄ with
            gens := s₄.gens.push (.fresh (.compStart (.GeneratorExp elt [⟨tg, iter, ifs, 0⟩] scope gpos) 0 (.ref it) .none (genEnv scope (cloFrom X.env.cells scope.names []) s₄.heap.objs.size code bi X.env))),
            toks := s₄.toks + 1 + 1 + 1,
            heap := h'.push { cls := .type "generator", data := .fields #[.int s₄.gens.size 0, .str "<genexpr>" (s₄.toks + 1), .str (X.env.qual ++ "<genexpr>") (s₄.toks + 1 + 1)] } }) X.xe { s2 with heap := h3, toks := tk } := by
    intro code h3 tk more hx hsz hP3 htr3
    have J3 := GxR.inv_tab (more := more) (h' := h3) (g' := s2.gens) (d' := s2.drawn) (t' := tk) I2 hP (fun b o hb e => hx b o hb e) hP3 I2.bare
    obtain ⟨bm, ob, e1, e2, e3, e4, e5, e6, e7, e8⟩ := (TB.bm)
    have keep3 : ∀ b u, b ≠ P → s2.heap.get? b = some u → h3.get? b = some u := fun b u hb e => hx b u hb e
    refine wpAny_builtinsFor (m := X.mg) (by rw [I2.ok.glob]; exact (I2.mod.glob.keeps I2.bk).extBut hx TB.gP) e1 e2 (keep3 _ _ e4 (I2.bk _ _ e5)) e6 e7 e8 ?_
    intro h' hn' hs'
    generalize hH3 : L2.upd H2 P (.tbl (ps ++ more)) = H3 at J3
    have tabd : GxR.Tabbed P H2 H3 := by
      rw [← hH3]
      exact ⟨⟨_, upd_same, htr3⟩, fun b hb => upd_ne hb⟩
    have f3 : ∀ b ∈ fp, FpOk X pins H3 b := fun b hb => ⟨by rw [tabd.2 b (fpP b hb)]; exact (f2 b hb).1, (f2 b hb).2⟩
    obtain ⟨W, ⟨m0, w0⟩, turn'⟩ := turn H3 tabd
    generalize hsc : ({ s2 with heap := h3, toks := tk } : Shared) = sc at J3 hn' hs' ⊢
    have hsch : sc.heap = h3 := by rw [← hsc]
    have st3 : tn 0 sc.heap := T.keep _ _ _ st2 fun b hb o e => by rw [hsch]; exact keep3 b o (fpP b hb) e
    have lt3 : ∀ b ∈ fp, b < sc.heap.objs.size := fun b hb => by
      obtain ⟨o, e, _⟩ := T.obj _ _ st3 b hb
      exact Heap.lt_size e
    have sz' : h'.objs.size = sc.heap.objs.size + 1 := by rw [hs'.1, Heap.size_push]
    have keep' : ∀ b o, sc.heap.get? b = some o → h'.get? b = some o := fun b o e => hs'.extBut b o (Nat.ne_of_lt (Heap.lt_size e)) (Heap.get?_push_of_some _ e)
    generalize hgo : ({ cls := .type "generator", data := .fields #[.int sc.gens.size 0, .str "<genexpr>" (sc.toks + 1), .str (X.env.qual ++ "<genexpr>") (sc.toks + 1 + 1)] } : Obj) = go
    have isgen : ∀ h : Heap, h.get? h'.objs.size = some go → h.IsGen h'.objs.size sc.gens.size := fun h e => ⟨go, _, _, e, by rw [← hgo], by rw [← hgo], by rw [← hgo]⟩
    have gop : (h'.push go).get? h'.objs.size = some go := by
      rw [← hgo]
      exact (Heap.get?_push_size _ rfl)
    have god : ∀ v, go.data ≠ .cell v := fun v q => by
      rw [← hgo] at q
      cases q
    refine ⟨H3, sc, fp, J3, fun b hb => ⟨(f3 b hb).2.2.2.1, (f3 b hb).2.1, (f3 b hb).2.2.2.2.1, (f3 b hb).2.2.2.2.2⟩, h'.objs.size, sc.gens.size, _, rfl, by omega, by show _ < (h'.push go).objs.size; rw [Heap.size_push]; exact Nat.lt_succ_self _, isgen _ gop, Array.getElem?_push_size .., rfl, AllBare.push J3.bare rfl, J3.nolimit.keeps fun b o e => Heap.get?_push_of_some _ (keep' b o e), fun b o e => Heap.get?_push_of_some _ (keep' b o e), ?_⟩
    intro A S s5 hrA hfA hS hk5 hSo os5 bare5
    obtain ⟨cS, eS⟩ := hSo
    have hS' : h'.objs.size < S := by
      have hS1 : (h'.push go).objs.size ≤ S := hS
      rw [Heap.size_push] at hS1
      exact hS1
    have k5 : ∀ b o, sc.heap.get? b = some o → s5.heap.get? b = some o := fun b o e => hk5 b o (Heap.get?_push_of_some _ (keep' b o e))
    have ea : s5.heap.get? h'.objs.size = some go := hk5 _ _ gop
    have hn5 : s5.heap.Ns sc.heap.objs.size (fun y => if y = ".0" then some (.ref it) else none) := hn'.keeps fun b o e => hk5 b o (Heap.get?_push_of_some _ e)
    have I5 : Inv (gcx X A sc H3 scope (geEnv X scope sc.heap.objs.size code) fp [(h'.objs.size, go)]) [(S, lstObj #[] cS)] (wipe σ (own.map (·.2))) H3 s5 := by
      refine gen_begin J3 ok hN nocell (fun b hb => ⟨f3 b hb, lt3 b hb⟩) hrA.hd hfA k5 hn5 os5 bare5 fun p hp => ?_
      rcases List.mem_cons.mp hp with z | z
      · rw [z]
        exact ⟨ea, by show sc.heap.objs.size < h'.objs.size; omega, god⟩
      · (rw [List.mem_singleton.mp z])
        exact ⟨eS, by show sc.heap.objs.size < S; omega, fun v q => by cases q⟩
    have hap : Apart (gcx X A sc H3 scope (geEnv X scope sc.heap.objs.size code) fp [(h'.objs.size, go)]) S := by
      obtain ⟨_, p2, p3, _, _⟩ := I5.pin (S, lstObj #[] cS) (List.mem_append_right _ (List.mem_singleton.mpr rfl))
      refine ⟨by show sc.heap.objs.size ≤ S; omega, p3, fun x cc e z => ?_⟩
      have e1 : (cloFrom X.env.cells scope.names []).lookup x = some cc := e
      rcases cloFrom_mem (PySem.mem_of_lookup e1) with hm | ⟨h1, h2⟩
      · cases hm
      · obtain ⟨c', hc'⟩ := hfree _ h1 rfl
        rw [hc'] at h2
        have h2 : cc = c' := h2
        obtain ⟨v, zz⟩ := J3.cell _ _ hc'
        have zl : c' < sc.heap.objs.size := zz.lt
        rw [← h2, z] at zl
        exact absurd (Nat.lt_trans zl (show sc.heap.objs.size < S by omega)) (Nat.lt_irrefl _)
    have loop := seg_ge (Y := gcx X A sc H3 scope (geEnv X scope sc.heap.objs.size code) fp [(h'.objs.size, go)]) (A := A) (S := S) (a := h'.objs.size) (gn := sc.gens.size) (go := go) (fp := fp) (σ := σ) (vs := own.map (·.2)) (cont := cont) (iter := iter) (scope := scope) (pos := gpos) (W := W) rfl rfl rfl rfl rfl isgen (Nat.ne_of_lt hS') hap
      (fun b hb => by have z3 := lt3 b hb; exact ⟨Nat.ne_of_lt (Nat.lt_trans z3 (show sc.heap.objs.size < h'.objs.size by omega)), Nat.ne_of_lt (Nat.lt_trans z3 (show sc.heap.objs.size < S by omega))⟩) hco T (hg A sc H3 _ code fp _) (ht A sc H3 _ code fp _ hrA) (he A sc H3 _ code fp _ hrA) turn' m0 0 sizeLine [] s5 s5 H3 (Nat.add_zero _) w0 ⟨#[], cS, .nil, I5⟩ (T.keep _ _ _ st3 fun b _ o e => k5 b o e) (fun b hb => (f3 b hb).1)
    show Seg _ A _ _ _ s5 _ ((compStart (.GeneratorExp elt [⟨tg, iter, ifs, 0⟩] scope gpos) 0 (.ref it) .none (geEnv X scope sc.heap.objs.size code)).onRaise (leaving (geEnv X scope sc.heap.objs.size code))) [] s5
    unfold compStart
    rw [Sem.onRaise_eq_wrap]
    show Seg _ A _ _ _ s5 _ ((ask >>= _).wrap _ _ _ _) [] s5
    have st5 : tn 0 s5.heap := T.keep _ _ _ st3 fun b _ o e => k5 b o e
    refine (seg_bind_wrap (wpAny_askSetting ?_))
    split
    · exact seg_again rfl loop
    · first
        | exact seg_bind_wrap (wpAny_rule (seg_bind_wrap (wpAny_standAt (seg_bind_wrap (T.self _ 0 s5 _ _ st5 (seg_again rfl loop))))))
        | (refine seg_bind_wrap (wpAny_rule ?_); show Seg _ A _ _ _ s5 _ ((standAt iter.pos >>= _).wrap _ _ _ _) [] s5; exact seg_bind_wrap (wpAny_standAt (seg_bind_wrap (T.self _ 0 s5 _ _ st5 (seg_again rfl loop)))))
  cases hf : codeAmong gpos (ps.toList) with
  | none =>
    refine wpAny_genexprCodeX hcode (cd.code hP2 htr) (cd.tab hP2) hf fun c' h' tk hx hge hlt hco' _ htab' _ => ?_
    obtain ⟨o1, vs, f1, tf, fl, tg', inF, tx, tt', op, _, _, _, _, _, _, _, _, _, htr', _⟩ := hco'
    exact rest _ h' tk _ hx (Nat.le_trans hge (Nat.le_of_lt hlt)) htab'.2 htr'
  | some cv =>
    refine wpAny_genexprCode_hit hcode (cd.code hP2 htr) hf ?_
    exact rest cv s2.heap s2.toks #[] (Heap.ExtBut.refl _ _) (Nat.le_refl _) (by simpa using hP2) (by simpa using htr)
end
end PI

/-! SP: tuple(e for x in ..), by what the interpreter tells; a def whose code object is known. -/
set_option linter.all false
set_option maxRecDepth 100000
set_option maxHeartbeats 1000001
namespace PI
open PySem PySem.Spec L2 PyProof.Rows GenW
section
variable {G : GT} {Bs : List Nat} {W : WX} {F : Fh} {ρ : List Addr} {h : Hv} {H H' : L2.Hp} {P : Addr}
/-- a table of generator expressions has grown -/
theorem Rel.tabbed (R : Rel G Bs F ρ h H) (hP : P ∈ G.TG) (hsep : ∀ p ∈ G.TL, p.1 ≠ P) (t : GxR.Tabbed P H H') : Rel G Bs F ρ h H' := by
  obtain ⟨ps, h1, h2⟩ := R.gens P hP
  have other : ∀ b o, H b = some o → (∀ qs, o ≠ .tbl qs) → H' b = some o := fun b o e n => by
    have hb : b ≠ P := fun z => by
      rw [z, h1] at e
      exact n ps (Option.some.inj e).symm
    rw [t.2 b hb]
    exact e
  refine R.ext other (fun p hp => ?_) fun P' hP' => ?_
  · obtain ⟨qs, a1, a2, a3⟩ := R.tabs p hp
    refine ⟨qs, by rw [t.2 _ (hsep p hp)]; exact a1, a2, fun pos cv hc => ?_⟩
    obtain ⟨c, b1, b2⟩ := a3 pos cv hc
    exact ⟨c, b1, other _ _ b2 LamX.codeO_ne⟩
  · by_cases hb : P' = P
    · rw [hb]
      exact t.1
    · obtain ⟨qs, a1, a2⟩ := R.gens P' hP'
      exact ⟨qs, by rw [t.2 _ hb]; exact a1, a2⟩
end
/-- the code object at c, its table at P -/
structure CodeB (G : GT) (mg : Str → Option Value) (base : Heap) (c P : Addr) : Prop where
  tab : GxR.TabB base mg c P
  mem : P ∈ G.TG
  sep : ∀ p ∈ G.TL, p.1 ≠ P
theorem gcx_xo {G : GT} {X : Cx} {A : Around} {s : Shared} {H : L2.Hp} {scope : Scope} {ce : Env} {fp : List Addr} {pn : List (Addr × Obj)} {k : Nat} (xo : XO G X) (hr : Room (k + 1) A) : XO G (gcx X A s H scope ce fp pn) := by
  refine ⟨rfl, ?_, xo.K⟩
  have z := (hr.deeper ce).un
  show (A.deeper ce).units + 70 < cLine
  omega
theorem gcx_passes {P : Program} {w : World} {X : Cx} {A : Around} {s : Shared} {H : L2.Hp} {scope : Scope} {ce : Env} {fp : List Addr} {pn : List (Addr × Obj)} : Passes (L2.CX P w) (gcx X A s H scope ce fp pn) (fun _ _ _ => False) := fun _ _ _ _ _ _ _ hc => by
  obtain ⟨_, _, _, _, _, _, _, _, _, _, _, _, z⟩ := hc
  exact z
section
variable {G : GT} {Bs : List Nat} {W : WX} {X : Cx} {c : Cc} {elt iter : Expr} {el : E} {it : I} {pos : Pos} {ifs : List Expr} {es : List E}
theorem n_tge {k : Nat} {nm : Str} {scope : Scope} {own : List (Str × Nat)} {i : Nat} {x : Str} {p px gpos : Pos} {m : Bool} {C0 P : Addr} (xo : XO G X) (cb : CodeB G X.mg X.base C0 P) (hcode : X.env.code = .ref C0) (hr : Room (k + 4) X.A) (hN : X.N.Nodup) (hi : NI G Bs W X c (.Name x px) iter it) (ok : BlkOk X.N X.env.scope scope own) (hx : X.N[i]? = some x) (hm : i ∈ own.map (·.2))
    (hco : scope.isCoroutine = false) (nocell : (scope.names.all fun y => !decide (y.2 = .cell)) = true) (dot : scope.names.lookup (".0" : Str) = some NameKind.local) (hl : scope.names.lookup x = some .local)
    (hg : Gl X nm) (hmg : X.mg nm = none) (hv : bootBuiltins nm = some (.type "tuple"))
    (ht : ∀ (A : Around) (s : Shared) (H : L2.Hp) (C : Addr) (code : Value) (fp : List Addr) (pn : List (Addr × Obj)), Room (k + 1) A → NTs G Bs WN (gcx X A s H scope (geEnv X scope C code) fp pn) c ifs es)
    (he : ∀ (A : Around) (s : Shared) (H : L2.Hp) (C : Addr) (code : Value) (fp : List Addr) (pn : List (Addr × Obj)), Room (k + 1) A → NE G Bs WN (gcx X A s H scope (geEnv X scope C code) fp pn) c elt el)
    (hs : ∀ v, genFold iter X.env v = pure v := by intro _; rfl) (hnm : nm ≠ "__name__" := by decide) (hdb : (nm == ("__debug__" : Str)) = false := by decide)
    (hst : starEach [.GeneratorExp elt [⟨.Name x px, iter, ifs, 0⟩] scope gpos] X.env = (false, eval (.GeneratorExp elt [⟨.Name x px, iter, ifs, 0⟩] scope gpos) X.env) :: starEach [] X.env := by rfl) :
    NE G Bs W X c (.Call (.Name nm p) [.GeneratorExp elt [⟨.Name x px, iter, ifs, 0⟩] scope gpos] [] pos) (.cmpr .tup m (own.map (·.2)) (.var i) it es el none) := by
  unfold NE
  have eq : (fun τ h => ev c τ (.cmpr .tup m (own.map (·.2)) (.var i) it es el none) h) = fun τ h => (evI c τ it h).bind fun xs h1 => if Nat.ble xs.length sizeMax then (collect (stepL c τ i (own.map (·.2)) es el) xs h1).bind fun ys h2 => .ok (.tup ys) h2 else .no 305 := by
    funext τ h
    simp only [ev]
    rfl
  rw [eq]
  have nocell' : ∀ y ∈ scope.names, y.2 ≠ .cell := fun y hy => by
    have := List.all_eq_true.mp nocell y hy
    simpa using this
  have pg := pgen_ge (k := k) (gpos := gpos) cb.tab hcode ⟨hr.hd, by have := hr.dp; omega, by have := hr.un; omega⟩ hN hi ok hco nocell' dot (g := gName i) (fun A s H C code fp pn => pg_name (X := gcx X A s H scope (geEnv X scope C code) fp pn) hN hx (.inl hl) (.inr hl)) ht he hs
  refine pe_imp (pe_tupG (p := p) (pos := pos) pg (hr.mono (by omega)) hg hmg hv hnm hdb hst) fun σ H Q ⟨F, ρ, τ, h, R, S, q⟩ => ?_
  refine ⟨F, ρ, τ, h, R, S, (q.bind (T1 := WalkR G)).imp (T' := DR G) fun J H1 ⟨F1, ρ1, xs, h1, e1, R1, w1, q1⟩ => ?_⟩
  refine ⟨R1.gens P cb.mem, fun H2 tb => ?_⟩
  have R2 := R1.tabbed cb.mem cb.sep tb
  split at q1
  · rename_i hz
    have hlen : xs.length ≤ sizeLine := by
      rw [← size_line]
      exact Nat.le_of_ble_eq_true hz
    have S1 := (S.mono e1).wipe (own.map (·.2))
    refine ⟨fun j mm ys H => mm + j = xs.length ∧ ys.length ≤ j ∧ ∃ F2 ρ2 h2 ds, Ext F1 ρ1 F2 ρ2 ∧ Rel G Bs F2 ρ2 h2 H ∧ DRs G F2 ρ2 ds ys ∧ Aft G Bs W σ (DR G) F2 ρ2 ((collect (stepL c τ i (own.map (·.2)) es el) (xs.drop j) h2).bind fun zs h3 => .ok (.tup (ds ++ zs)) h3) Q,
      ⟨xs.length, by omega, Nat.le_refl _, F1, ρ1, h1, [], Ext.refl _ _, R2, drs_nil.mpr rfl, by simpa using q1⟩, fun j mm ys H3 ⟨hk, hyl, F2, ρ2, h2, ds, e2, R3, td, q2⟩ => ?_⟩
    obtain ⟨g1, g2⟩ := w1 Bs F2 ρ2 h2 H3 e2 R3
    by_cases hlt : j < xs.length
    · right
      obtain ⟨k1, k2⟩ := g1 j _ (List.getElem?_eq_getElem hlt)
      rw [List.drop_eq_getElem_cons hlt, collect, Res.bind_bind] at q2
      refine ⟨k1, fun ys' H' => ys'.length ≤ j + 1 ∧ ∃ F2 ρ2 h2 ds, Ext F1 ρ1 F2 ρ2 ∧ Rel G Bs F2 ρ2 h2 H' ∧ DRs G F2 ρ2 ds ys' ∧ Aft G Bs W σ (DR G) F2 ρ2 ((collect (stepL c τ i (own.map (·.2)) es el) (xs.drop (j + 1)) h2).bind fun zs h3 => .ok (.tup (ds ++ zs)) h3) Q,
        fun ys' H' ⟨z1, z2⟩ => ⟨mm - 1, by omega, by omega, z1, z2⟩, fun xv H4 y => ?_⟩
      obtain ⟨F3, ρ3, e3, R4, t3⟩ := k2 xv H4 y
      have S3 := S1.mono (e2.trans e3)
      refine ⟨by rw [wipe_set hm, wipe_wipe _ _ fun _ h => h], ?_⟩
      have q3 := ((q2.mono e3).bind (T1 := OptR G)).quietN (σ' := (L2.wipe σ (own.map (·.2))).set i (some xv))
      by_cases hlw : i < (wipeS τ (own.map (·.2))).length
      · have es1 : stepL c τ i (own.map (·.2)) es el xs[j] h2 = (asB (evAnd c ((wipeS τ (own.map (·.2))).set i (some xs[j])) es h2)).bind fun b h3 => if b then (ev c ((wipeS τ (own.map (·.2))).set i (some xs[j])) el h3).bind fun y h4 => .ok (some y) h4 else .ok none h3 := by
          unfold stepL
          simp only [asg, if_pos hlw]
          rfl
        rw [es1] at q3
        have S4 := S3.set hlw t3
        refine ⟨F3, ρ3, _, h2, R4, S4, (Aft.bind (T1 := fun _ _ (b : Bool) (c : Bool) => b = c) q3).imp (T' := DR G) fun b H5 ⟨F4, ρ4, b', h4, e4, R5, hb, q4⟩ => ?_⟩
        subst hb
        cases b' with
        | false =>
          simp only [Bool.false_eq_true, if_false] at q4 ⊢
          obtain ⟨F5, ρ5, a5, h5, e5, R6, t5, q5⟩ := q4 F4 ρ4 H5 none (Ext.refl _ _) R5 trivial
          cases a5 with
          | none =>
            rw [Res.bind_bind] at q5
            exact ⟨by omega, F5, ρ5, h5, ds, (e2.trans e3).trans e5, R6, td.mono (e3.trans e5), q5⟩
          | some d => exact t5.elim
        | true =>
          simp only [if_true] at q4 ⊢
          refine ⟨F4, ρ4, _, h4, R5, S4.mono e4, (Aft.bind (T1 := DR G) q4).imp (T' := DR G) fun yv H6 ⟨F5, ρ5, y, h5, e5, R6, t5, q5⟩ => ?_⟩
          obtain ⟨F6, ρ6, a6, h6, e6, R7, t6, q6⟩ := q5 F5 ρ5 H6 (some yv) (Ext.refl _ _) R6 t5
          cases a6 with
          | none => exact t6.elim
          | some d =>
            rw [Res.bind_bind] at q6
            refine ⟨by omega, by rw [List.length_append, List.length_singleton]; omega, F6, ρ6, h6, ds ++ [d], (e2.trans e3).trans e6, R7, (td.mono (e3.trans e6)).append (drs_cons.mpr ⟨t6, drs_nil.mpr rfl⟩), ?_⟩
            have e9 : (fun (zs : List D) (h3 : Hv) => (Res.ok (.tup ((ds ++ [d]) ++ zs)) h3 : Res D)) = fun zs h3 => (Res.ok (d :: zs) h3).bind fun zs h3 => .ok (.tup (ds ++ zs)) h3 := by
              funext zs h3
              simp [Res.bind]
            rw [e9]
            exact q6
      · have es1 : stepL c τ i (own.map (·.2)) es el xs[j] h2 = .no 430 := by
          unfold stepL
          simp only [asg, if_neg hlw]
          rfl
        rw [es1] at q3
        exact q3.elim
    · left
      have hke : j = xs.length := by omega
      subst hke
      refine ⟨g2, ?_⟩
      rw [List.drop_length, collect] at q2
      simp only [Res.bind, List.append_nil] at q2
      exact aft_tup R3 td q2
  · exact q1.elim
end
/-! ### a def whose code object is known -/
structure FunC (K : PySem.W.Frag) (x qual : Str) (params : Arguments) (body : List Stmt) (scope : Scope) (f : Addr) (fd : FuncData) (c : Addr) : Prop where
  ex : ∃ (oc : Value) (od : Option Addr) (dV kV doc pm : Value) (an : Option Addr) (ct : Value) (osl : Array (Option Value)),
    fd = PySem.W.fnOf x qual params body scope dV kV doc pm an (.ref c) ct ∧ K.lookup f = some ⟨oc, od, .func fd, osl⟩ ∧ PySem.W.codeIn K (.ref c) qual = true ∧ L2.DflV K dV [] ∧ L2.KwdV K kV []
  kp : (PySem.W.keepIn K (.ref f) = true)
theorem FunC.toD {K : PySem.W.Frag} {x qual : Str} {params : Arguments} {body : List Stmt} {scope : Scope} {f : Addr} {fd : FuncData} {c : Addr} (u : FunC K x qual params body scope f fd c) : L2.FunD K x qual params body scope [] [] f fd := by
  obtain ⟨oc, od, dV, kV, doc, pm, an, ct, osl, r⟩ := u.ex
  exact ⟨⟨oc, od, dV, kV, doc, pm, an, .ref c, ct, osl, r⟩, u.kp⟩
section
variable {G : GT}
theorem fn_byC {P : Program} {w : World} {mg : Str → Option Value} {base : Heap} {Pg : Pr} {n fid k : Nat} {f : Fn} {fa c0 : Addr} {fd : FuncData} {N ps : List Str} {qual x : Str} {params : Arguments} {bd : List Stmt} {scope : Scope} (Fu : FunC G.K x qual params bd scope fa fd c0) (S : FnScope N ps scope) (hf : Pg.fns[fid]? = some f) (hd : f.df = []) (hnp : f.np = ps.length) (hns : N.length = f.ns)
    (body : ∀ (Bs : List Nat) (b' : Nat) (A : Around) (outer : List Env) (s : Shared) (H : L2.Hp) (EX : XK), BaseOk Bs b' → Room k (XF P w G mg base N qual scope fa (.ref c0) A outer s H EX).A → NSs G Bs (WU EX) (XF P w G mg base N qual scope fa (.ref c0) A outer s H EX) ⟨callF Pg n, b', Pg⟩ bd f.body) :
    FnOk P w G.K mg base (L2.CX P w) (k + 1) fa fd ps (spF G Pg (n + 1) fid) := by
  obtain ⟨oc, od, dV, kV, doc, pm, an, ct, osl, rfl, lk, hcd, _, _⟩ := Fu.ex
  exact fn_core (cdv := .ref c0) (fun sp len run => L2.fn_of lk hcd S len run) hf hd hnp hns body
end
end PI

/-! SQ: lambdas in a written list, and what a telling def says of each. -/
set_option linter.all false
set_option maxRecDepth 100000
set_option maxHeartbeats 1000001
namespace PI
open PySem PySem.Spec L2 PyProof.Rows
/-- the very object that stands at f -/
def FunO (f : Addr) (ob : Obj) : HO := .ext fun h => h.get? f = some ob
section
variable {G : GT} {Bs : List Nat} {W : WX} {F : Fh} {ρ : List Addr} {h : Hv} {H H' : L2.Hp} {P : Addr}
/-- what is held and never changes is known from now on -/
theorem Rel.know (R : Rel G Bs F ρ h H) {a : Addr} {u : HO} (hu : H a = some u) (nt : ∀ ps, u ≠ .tbl ps) (nc : ∀ (i : Nat) (o : Ob), h[i]? = some o → ρ[i]? = some a → isDead o = false → fixed o = true) : Rel G Bs (L2.upd F a u) ρ h H ∧ Ext F ρ (L2.upd F a u) ρ := by
  have e : Ext F ρ (L2.upd F a u) ρ := ⟨fun b o q => by
    by_cases hb : b = a
    · rw [hb] at q ⊢
      have z := R.same a o q
      rw [hu] at z
      rw [upd_same]
      exact z
    · rw [upd_ne hb]
      exact q, fun _ _ q => q⟩
  refine ⟨⟨fun b o q => ?_, R.len, fun i o q d => ?_, R.inj, R.lows, R.low, fun b ps q => ?_, R.tabs, R.gens⟩, e⟩
  · by_cases hb : b = a
    · rw [hb, upd_same] at q
      rw [hb, ← q]
      exact hu
    · rw [upd_ne hb] at q
      exact R.same b o q
  · obtain ⟨b, h1, h2, h3⟩ := R.cell i o q d
    refine ⟨b, h1, fun hf => ?_, h3.mono e rfl⟩
    have hb : (b ≠ a) := fun z => by
      rw [z] at h1
      rw [nc i o q h1 d] at hf
      cases hf
    rw [upd_ne hb]
    exact h2 hf
  · by_cases hb : b = a
    · rw [hb, upd_same] at q
      exact nt ps (Option.some.inj q)
    · rw [upd_ne hb] at q
      exact R.ntab b ps q
theorem Rel.knowCode (R : Rel G Bs F ρ h H) {a : Addr} {q : Str} (hu : H a = some (LamX.CodeO a q)) : Rel G Bs (L2.upd F a (LamX.CodeO a q)) ρ h H ∧ Ext F ρ (L2.upd F a (LamX.CodeO a q)) ρ := by
  refine R.know hu LamX.codeO_ne fun i o e1 e2 d => ?_
  cases hf : fixed o with
  | true => rfl
  | false =>
    obtain ⟨b, h1, _, h3⟩ := R.cell i o e1 d
    rw [e2] at h1
    cases h1
    exact absurd hu (h3.nocode hf)
end
/-- the table of the def's code object: lambdas of the name q -/
structure LamB (G : GT) (mg : Str → Option Value) (base : Heap) (c P : Addr) (q : Str) : Prop where
  tab : LamX.TabB base mg c P
  mem : (P, q) ∈ G.TL
  uniq : ∀ p ∈ G.TL, p.1 = P → p.2 = q
  sep : ∀ p ∈ G.TG, p ≠ P
abbrev lamQ (X : Cx) : Str := X.env.qual ++ "<lambda>"
abbrev lamOb (X : Cx) (params : Arguments) (body : Expr) (scope : Scope) (pm : Value) (c' : Addr) (ctv : Value) : Obj := PySem.W.kla_obj "<lambda>" (lamQ X) params body scope (cloFrom X.env.cells scope.names []) pm c' ctv
/-- the value is the lambda l of the frame X, made -/
def LamIn (X : Cx) (F : Fh) (l : Expr) (v : V) : Prop := ∃ params body scope pos f c' pm ctv, l = .Lambda params body scope pos ∧ v = .ref f ∧ F f = some (FunO f (lamOb X params body scope pm c' ctv)) ∧ F c' = some (LamX.CodeO c' (lamQ X))
theorem LamIn.mono {X : Cx} {F F' : Fh} {l : Expr} {v : V} (e : ∀ a o, F a = some o → F' a = some o) (h : LamIn X F l v) : LamIn X F' l v :=
  let ⟨params, body, scope, pos, f, c', pm, ctv, h1, h2, h3, h4⟩ := h
  ⟨params, body, scope, pos, f, c', pm, ctv, h1, h2, e _ _ h3, e _ _ h4⟩
def LamsIn (X : Cx) (F : Fh) : List Expr → List V → Prop
  | [], vs => vs = []
  | l :: ls, vs => ∃ v r, vs = v :: r ∧ LamIn X F l v ∧ LamsIn X F ls r
theorem LamsIn.mono {X : Cx} {F F' : Fh} (e : ∀ a o, F a = some o → F' a = some o) : ∀ {ls : List Expr} {vs : List V}, LamsIn X F ls vs → LamsIn X F' ls vs
  | [], _, h => h
  | l :: ls, _, h => by
    obtain ⟨v, r, h1, h2, h3⟩ := h
    exact ⟨v, r, h1, h2.mono e, LamsIn.mono e h3⟩
theorem LamsIn.length {X : Cx} {F : Fh} : ∀ {ls : List Expr} {vs : List V}, LamsIn X F ls vs → vs.length = ls.length
  | [], _, h => by
    have h : _ = [] := h
    subst h
    rfl
  | l :: ls, _, h => by
    obtain ⟨v, r, h1, h2, h3⟩ := h
    subst h1
    rw [List.length_cons, List.length_cons, LamsIn.length h3]
theorem LamsIn.get {X : Cx} {F : Fh} : ∀ {ls : List Expr} {vs : List V} {i : Nat} {v : V}, LamsIn X F ls vs → vs[i]? = some v → ∃ l, ls[i]? = some l ∧ LamIn X F l v
  | [], _, i, v, h, e => by
    have h : _ = [] := h
    subst h
    cases e
  | l :: ls, _, 0, v, h, e => by
    obtain ⟨w, r, h1, h2, h3⟩ := h
    subst h1
    cases e
    exact ⟨l, rfl, h2⟩
  | l :: ls, _, i + 1, v, h, e => by
    obtain ⟨w, r, h1, h2, h3⟩ := h
    subst h1
    obtain ⟨l', g1, g2⟩ := LamsIn.get (i := i) h3 (by simpa using e)
    exact ⟨l', by simpa using g1, g2⟩
section
variable {G : GT} {Bs : List Nat} {X : Cx}
/-- a lambda is made -/
theorem pe_lamK {C0 P : Addr} {params : Arguments} {body : Expr} {scope : Scope} {pos : Pos} (LB : LamB G X.mg X.base C0 P (lamQ X)) (hcode : X.env.code = .ref C0) (L : LamX.LamS X.env.scope scope) (hdef : defaultsOf params X.env = ([], [])) :
    PE X (.Lambda params body scope pos) (fun σ H Q => ∃ F ρ h, Rel G Bs F ρ h H ∧ ∀ F' v H', Ext F ρ F' ρ → Rel G Bs F' ρ h H' → LamIn X F' (.Lambda params body scope pos) v → Q v H') := by
  refine ⟨fun pins s σ H Q I ⟨F, ρ, h, R, q⟩ => ?_⟩
  obtain ⟨ps, hP, ht, ha⟩ := R.tabs _ LB.mem
  have hP' : (s.heap.get? P = some { cls := .none, data := .fields ps }) := I.hok P _ hP
  have bP : s.heap.BuiltinsAt X.mg P := LB.tab.bm.keeps I.bk
  have code0 : PySem.W.CodeHd s.heap C0 P := LB.tab.code.keeps I.bk
  refine (PySem.W.kla_eval hdef ?_)
  cases hc : codeAmong pos (ps.toList) with
  | none =>
    refine PySem.W.kla_makeFunction (mg := X.mg) (c := C0) (P := P) (ps := ps) (closure_ok (L.has I.ok)) I.ok.glob (I.mod.glob.keeps I.bk) hcode code0 hP' ht hc LB.tab.gP bP fun c' ctv h' tk hx hge hlt hrec htb => ?_
    obtain ⟨c2, oc, vs, t, e2, hoc, hd, hv⟩ := (hrec)
    cases e2
    have hsz : (s.heap.objs.size ≤ h'.objs.size) := Nat.le_trans hge (Nat.le_of_lt hlt)
    have nC : (H c' = none) := I.hok.fresh hge
    have I1 := LamX.inv_table (t' := tk) (more := #[rawInt pos.line, rawInt pos.col, .ref c']) (h' := h') (q := lamQ X) I hP (fun b o hb e => hx b o hb e) htb hge ⟨oc, vs, t, hoc, hd, hv⟩
    generalize hH1 : L2.upd (L2.upd H P (.tbl (ps ++ #[rawInt pos.line, rawInt pos.col, .ref c']))) c' (LamX.CodeO c' (lamQ X)) = H1 at I1
    have at1 : H1 c' = some (LamX.CodeO c' (lamQ X)) := by
      rw [← hH1]
      exact upd_same
    have keep1 : ∀ b o, H b = some o → (∀ qs, o ≠ .tbl qs) → H1 b = some o := fun b o e n => by
      rw [← hH1, upd_ne (ne_of_none e nC), upd_ne (fun z => n ps (Option.some.inj (e.symm.trans (by rw [z]; exact hP))))]
      exact e
    have els : ∀ b, b ≠ P → b ≠ c' → H1 b = H b := fun b n1 n2 => by rw [← hH1, upd_ne n2, upd_ne n1]
    have eL : ((ps ++ #[rawInt pos.line, rawInt pos.col, .ref c']).toList = ps.toList ++ [rawInt pos.line, rawInt pos.col, .ref c']) := by simp
    have R1 : Rel G Bs F ρ h H1 := by
      refine R.ext keep1 (fun p hp => ?_) fun P' hP2 => ?_
      · by_cases hb : p.1 = P
        · rw [LB.uniq p hp hb, hb]
          refine ⟨ps ++ #[rawInt pos.line, rawInt pos.col, .ref c'], by rw [← hH1, upd_ne (ne_of_none hP nC)]; exact upd_same, by rw [eL]; exact PySem.TriplesOk_snoc _ _ _ _ ht, fun p' cv hcv => ?_⟩
          rw [eL] at hcv
          rcases LamX.among_app _ ht hcv with z | z
          · obtain ⟨c0, e1, e2⟩ := (ha p' cv z)
            exact ⟨c0, e1, keep1 _ _ e2 LamX.codeO_ne⟩
          · exact ⟨c', z, at1⟩
        · obtain ⟨ps', a1, a2, a3⟩ := R.tabs p hp
          refine ⟨ps', by rw [els _ hb (ne_of_none a1 nC)]; exact a1, a2, fun p' cv hcv => ?_⟩
          obtain ⟨c0, e1, e2⟩ := (a3 p' cv hcv)
          exact ⟨c0, e1, keep1 _ _ e2 LamX.codeO_ne⟩
      · obtain ⟨qs, a1, a2⟩ := R.gens P' hP2
        exact ⟨qs, by rw [els _ (LB.sep P' hP2) (ne_of_none a1 nC)]; exact a1, a2⟩
    obtain ⟨R2, E2⟩ := R1.knowCode at1
    have nF : H1 h'.objs.size = none := I1.hok.fresh (Nat.le_refl _)
    generalize hob : lamOb X params body scope ((X.mg "__name__").getD .none) c' ctv = ob
    have gob : (h'.push ob).get? h'.objs.size = some ob := by
      rw [← hob]
      exact (Heap.get?_push_size _ rfl)
    have I2 := I1.laid (t' := tk) (h' := h'.push ob) (o := FunO h'.objs.size ob) (fun b u e => Heap.get?_push_of_some _ e) (Nat.le_refl _) ⟨gob, ⟨_, gob⟩, fun h1 h2 e k => k _ e⟩
    have R3 := R2.new (p := h'.objs.size) (u := FunO h'.objs.size ob) nF (fun qs z => by unfold FunO at z; cases z)
    have E3 : Ext (L2.upd F c' (LamX.CodeO c' (lamQ X))) ρ (L2.upd (L2.upd F c' (LamX.CodeO c' (lamQ X))) h'.objs.size (FunO h'.objs.size ob)) ρ := Ext.upd (R2.free nF)
    refine ⟨.ref h'.objs.size, _, ?_, rfl, q _ _ _ (E2.trans E3) R3 ⟨params, body, scope, pos, h'.objs.size, c', _, ctv, rfl, rfl, by rw [upd_same, ← hob], E3.same _ _ upd_same⟩⟩
    rw [← hob] at I2 ⊢
    exact I2
  | some cv =>
    obtain ⟨c', e, hco⟩ := (ha pos cv hc)
    subst e
    refine PySem.W.kla_makeFunctionHit (mg := X.mg) (c := C0) (P := P) (ps := ps) (closure_ok (L.has I.ok)) I.ok.glob (I.mod.glob.keeps I.bk) hcode code0 hP' ht hc bP fun ctv h' tk hx hsz => ?_
    have I1 : Inv X pins σ H { s with heap := h', toks := tk } := I.kept fun b o e => hx b o e
    obtain ⟨R2, E2⟩ := R.knowCode hco
    have nF : (H h'.objs.size = none) := I1.hok.fresh (Nat.le_refl _)
    generalize hob : lamOb X params body scope ((X.mg "__name__").getD .none) c' ctv = ob
    have gob : (h'.push ob).get? h'.objs.size = some ob := by
      rw [← hob]
      exact (Heap.get?_push_size _ rfl)
    have I2 := I1.laid (t' := tk) (h' := h'.push ob) (o := FunO h'.objs.size ob) (fun b u e => Heap.get?_push_of_some _ e) (Nat.le_refl _) ⟨gob, ⟨_, gob⟩, fun h1 h2 e k => k _ e⟩
    have R3 := R2.new (p := h'.objs.size) (u := FunO h'.objs.size ob) nF (fun qs z => by unfold FunO at z; cases z)
    have E3 : Ext (L2.upd F c' (LamX.CodeO c' (lamQ X))) ρ (L2.upd (L2.upd F c' (LamX.CodeO c' (lamQ X))) h'.objs.size (FunO h'.objs.size ob)) ρ := Ext.upd (R2.free nF)
    refine ⟨.ref h'.objs.size, _, ?_, rfl, q _ _ _ (E2.trans E3) R3 ⟨params, body, scope, pos, h'.objs.size, c', _, ctv, rfl, rfl, by rw [upd_same, ← hob], E3.same _ _ upd_same⟩⟩
    rw [← hob] at I2 ⊢
    exact I2
/-- what is asked of a lambda of the list, ahead of its run -/
def LamW (X : Cx) (l : Expr) : Prop := ∃ params body scope pos, l = .Lambda params body scope pos ∧ LamX.LamS X.env.scope scope ∧ defaultsOf params X.env = ([], []) ∧ ∀ (q : Str) (cl : List (Str × Addr)) (pm cv ctv : Value), bindArgs (PySem.W.kla_fn "<lambda>" q params body scope cl pm cv ctv) ⟨[], []⟩ = pure []
theorem pa_lams {C0 P : Addr} (LB : LamB G X.mg X.base C0 P (lamQ X)) (hcode : X.env.code = .ref C0) : ∀ {ls : List Expr}, (∀ l ∈ ls, LamW X l) →
    PA X ls (fun σ H Q => ∃ F ρ h, Rel G Bs F ρ h H ∧ ∀ F' vs H', Ext F ρ F' ρ → Rel G Bs F' ρ h H' → LamsIn X F' ls vs → Q vs H')
  | [], _ => pa_imp pa_nil fun σ H Q ⟨F, ρ, h, R, q⟩ => q F [] H (Ext.refl _ _) R rfl
  | l :: ls, hl => by
    obtain ⟨params, body, scope, pos, rfl, L, hd, _⟩ := hl l List.mem_cons_self
    refine pa_imp (pa_cons (pe_lamK (Bs := Bs) (pos := pos) LB hcode L hd) (pa_lams LB hcode fun l' h' => hl l' (List.mem_cons_of_mem _ h')) rfl) fun σ H Q ⟨F, ρ, h, R, q⟩ => ?_
    refine ⟨F, ρ, h, R, fun F1 v H1 e1 R1 t1 => ⟨F1, ρ, h, R1, fun F2 vs H2 e2 R2 t2 => q F2 (v :: vs) H2 (e1.trans e2) R2 ⟨v, vs, rfl, t1.mono e2.same, t2⟩⟩⟩
end
end PI

/-! SR: a list comprehension whose tests look at the frame around; a lambda run by a telling def. -/
set_option linter.all false
set_option maxRecDepth 100000
set_option maxHeartbeats 1000001
namespace PI
open PySem PySem.Spec L2 PyProof.Rows
section
variable {X : Cx}
/-- [elt for x in iter if ..]: the tests know what the frame around holds -/
theorem pe_lcI {elt tg iter : Expr} {ifs : List Expr} {scope : Scope} {own : List (Str × Nat)} {pos : Pos} {wi : TI} {g : TG} {tt : L2.St → TT} {te : TE} (hcalm : X.calm = true) (hN : X.N.Nodup) (hi : PI X tg iter wi) (ok : BlkOk X.N X.env.scope scope own)
    (hg : ∀ (s : Shared) (H : L2.Hp) (C : Addr) (cl : List (Str × Addr)) (fp : List Addr), PG (X.blk s H scope (compEnvC scope cl C X.env) fp) tg g)
    (ht : ∀ (pins : List (Addr × Obj)) (σ : L2.St) (s : Shared) (H : L2.Hp) (C : Addr) (cl : List (Str × Addr)) (fp : List Addr), Inv X pins σ H s → (∀ b ∈ fp, FpOk X pins H b) → PTs (X.blk s H scope (compEnvC scope cl C X.env) fp) ifs (tt σ))
    (he : ∀ (s : Shared) (H : L2.Hp) (C : Addr) (cl : List (Str × Addr)) (fp : List Addr), PE (X.blk s H scope (compEnvC scope cl C X.env) fp) elt te)
    (hs : ∀ x, foldedSetIterable iter X.env x = pure x) : PE X (.ListComp elt [⟨tg, iter, ifs, 0⟩] scope pos) (fun σ H Q => tLc wi g (tt σ) te (own.map (·.2)) σ H Q) := by
  refine (⟨fun pins s σ H Q I hq => ?_⟩)
  have hq : tLc wi g (tt σ) te (own.map (·.2)) σ H Q := hq
  rw [eval_ListComp]
  have capt : ∀ y ∈ scope.names, y.2 = .free → ∃ c, X.env.cells.lookup y.1 = some c := fun y hy e => (ok.free y hy e).elim (fun k => I.ok.has _ (.inl k)) fun k => I.ok.has _ (.inr k)
  refine wpAny_comprehension_free (use := none) rfl hs (closure_ok capt) ok.kind (fun y hy e => by rw [ok.uniq y hy, e]) (thn (hi.run pins s σ H _ I hq) fun xv sa ha => thn ha fun itv sb hb => ?_)
  obtain ⟨it, fp, tn, J, Hb, rfl, Ib, T, stb, fb, turns⟩ := hb
  refine wpAny_newObj_type (newEnv_comp ?_) (show 0 ≤ sizeLine by decide)
  generalize hL : sb.heap.objs.size = L
  have freshL : Hb L = none := Ib.hok.fresh (Nat.le_of_eq hL)
  obtain ⟨W, ⟨m0, w0⟩, turn⟩ := turns L freshL
  generalize hsc : ({ sb with heap := sb.heap.push { cls := .type "list", data := .seq ([] : List Value).toArray } } : Shared) = sc
  have Ic : Inv X pins σ (L2.upd Hb L (.lst [])) sc := by
    rw [← hsc]
    refine Ib.laid (t' := sb.toks) (fun b o e => Heap.get?_push_of_some _ e) (Nat.le_of_eq hL) ⟨Nat.zero_le _, [], 0, .nil, ?_⟩
    rw [← hL]
    exact (Heap.get?_push_size _ rfl)
  have heapc : sc.heap = sb.heap.push { cls := .type "list", data := .seq ([] : List Value).toArray } := by rw [← hsc]
  have old : ∀ b ∈ fp, b < sb.heap.objs.size := fun b hb => by
    obtain ⟨o, e, _⟩ := T.obj _ _ stb b hb
    exact Heap.lt_size e
  have fc : ∀ b ∈ fp, FpOk X pins (L2.upd Hb L (.lst [])) b ∧ b < sc.heap.objs.size := fun b hb => by
    have hlt := old b hb
    refine ⟨⟨?_, (fb b hb).2⟩, by rw [heapc, Heap.size_push]; exact Nat.lt_succ_of_lt hlt⟩
    rw [upd_ne (by rw [← hL]; exact Nat.ne_of_lt hlt)]
    exact (fb b hb).1
  have stc : tn 0 sc.heap := T.keep _ _ _ stb fun b _ o e => by rw [heapc]; exact Heap.get?_push_of_some _ e
  have Id := block_start Ic ok hN fc
  generalize hHc : L2.upd Hb L (.lst []) = Hc at Ic Id w0 fc
  generalize hcells : cellsFrom (sc.heap.objs.size + 1) scope.names (cloFrom X.env.cells scope.names []) = cl at Id
  have pg := hg sc Hc sc.heap.objs.size cl fp
  have pt := ht pins σ sc Hc sc.heap.objs.size cl fp Ic fun b hb => (fc b hb).1
  have pe := he sc Hc sc.heap.objs.size cl fp
  show codeAny _ _ (.compStart (.ListComp elt [⟨tg, iter, ifs, 0⟩] scope pos) 0 (.ref it) (.ref L) (compEnvC scope cl sc.heap.objs.size X.env)) (compPost (model X.prog X.w) X.A X.xe none _ (.ref L) sc.heap.objs.size) { sc with heap := pushCells (sc.heap.push { cls := .type "dict", data := .dict #[] }) scope.names }
  have nfp : ∀ b ∈ fp, Hc b = none := fun b hb => (fc b hb).1.1
  generalize hce : compEnvC scope cl sc.heap.objs.size X.env = ce at Id pg pt pe ⊢
  have locce : ce.locals = sc.heap.objs.size := by subst hce; rfl
  generalize hsd : ({ sc with heap := pushCells (sc.heap.push { cls := .type "dict", data := .dict #[] }) scope.names } : Shared) = sd at Id ⊢
  have std : tn 0 sd.heap := T.keep _ _ _ stc fun b _ o e => by rw [← hsd]; exact pushCells_keeps _ _ _ _ (Heap.get?_push_of_some _ e)
  have fpB : ∀ {σ' : L2.St} {H' : L2.Hp} {s' : Shared}, Inv (X.blk sc Hc scope ce fp) [] σ' H' s' → (∀ b ∈ fp, H' b = none) → ∀ b ∈ fp, FpOk (X.blk sc Hc scope ce fp) [] H' b := fun {σ' H' s'} I' hn b hb =>
    (⟨hn b hb, (I'.ok.exf b hb).1, I'.ok.exfs b hb, .inl hb, fun x c e => (I'.ok.exf b hb).2 x c e, fun p hp => absurd (show p ∈ ([] : List (Addr × Obj)) ++ [] from hp) (by simp)⟩)
  have loop : codeAny (model X.prog X.w) X.A (.compLoop (.ListComp elt [⟨tg, iter, ifs, 0⟩] scope pos) 0 (.ref it) (.ref L) ce) (compPost (model X.prog X.w) X.A X.xe none (fun v s1 => ∃ x H1, Inv X pins σ H1 s1 ∧ RelV x v ∧ Q x H1) (.ref L) sc.heap.objs.size) sd := by
    refine compLoop_any (fun n s' => ∃ i H', Inv (X.blk sc Hc scope ce fp) [] (wipe σ (own.map (·.2))) H' s' ∧ tn i s'.heap ∧ (∀ b ∈ fp, H' b = none) ∧ W i n H') ?_ m0 ⟨0, Hc, Id, std, nfp, w0⟩
    rintro n se ⟨i, He, Ie, ste, ne, we⟩
    rcases turn i n He we with ⟨stop, done⟩ | ⟨go, Nx, hNx, step⟩
    · refine thnF (T.done (X.blk sc Hc scope ce fp) rfl rfl rfl hcalm i [] se _ He (fun _ _ => False) Ie (fpB Ie ne) ste stop) fun r sf ⟨hr, If⟩ => ?_
      subst hr
      have Ig : Inv X pins σ He sf := Ic.call' (ch := fp) If.os If.base If.hok If.bare fun b hb => ⟨(fc b hb).1.2.2.2.1, (fc b hb).1.2.1, (fc b hb).1.2.2.2.2.1, (fc b hb).1.2.2.2.2.2⟩
      have nC : He sc.heap.objs.size = none := by
        have z : He ce.locals = none := If.free
        rw [locce] at z
        exact z
      obtain ⟨m, hn, _⟩ := If.loc
      have hn : sf.heap.Ns ce.locals m := hn
      rw [locce] at hn
      refine ⟨m, hn, fun h'' keep => ?_⟩
      obtain ⟨k0, k1, k2, k3, k4, k5⟩ := Ic.fpOk (H' := He) (Nat.le_refl _) nC
      exact ⟨.ref L, He, Ig.turned (t' := sf.toks) (fun b o hb e => (keep.2 b hb).trans e) k0 k1 k3 k4 k5, rfl, done⟩
    · refine thnF (T.item (X.blk sc Hc scope ce fp) rfl rfl rfl hcalm i [] se _ He (fun _ _ => False) Ie (fpB Ie ne) ste go) fun r sf ⟨u, hr, hf⟩ => ?_
      subst hr
      refine thnF hf fun _ sg ⟨x, Hg, Ig, rg, yg, stg, ng⟩ => ?_
      refine thnF (pg.run _ sg _ Hg x u _ (Ig.pinned (fpB Ig ng) (T.obj _ _ stg)) rg (step x Hg yg)) fun _ sh ⟨σh, Hh, Ih, wh, qh⟩ => ?_
      refine thnF (pt.run _ sh σh Hh _ Ih qh) fun b si ⟨Hi, Ii, qi⟩ => ?_
      have close : ∀ {s' : Shared} {H' : L2.Hp}, Inv (X.blk sc Hc scope ce fp) ([] ++ pinsAt fp sg.heap) σh H' s' → Nx H' → ∃ m, m < n ∧ ∃ i H', Inv (X.blk sc Hc scope ce fp) [] (wipe σ (own.map (·.2))) H' s' ∧ tn i s'.heap ∧ (∀ b ∈ fp, H' b = none) ∧ W i m H' := fun {s' H'} I' nx => by
        obtain ⟨m', hm, w'⟩ := (hNx H' nx)
        have same : ∀ b ∈ fp, ∀ o, sg.heap.get? b = some o → s'.heap.get? b = some o ∧ H' b = none := fun b hb o e => ⟨(I'.pin (b, o) (List.mem_append_right _ (List.mem_append_right _ (mem_pinsAt hb e)))).1, (I'.pin (b, o) (List.mem_append_right _ (List.mem_append_right _ (mem_pinsAt hb e)))).2.1⟩
        refine ⟨m', hm, i + 1, H', (I'.unpinned (pins := [])).weak (by rw [← wh, wipe_length]) (fun j v e => ?_), T.keep _ _ _ stg fun b hb o e => (same b hb o e).1, fun b hb => ?_, w'⟩
        · rw [← wh] at e
          exact (wipe_some e).1
        · obtain ⟨o, e, _⟩ := T.obj _ _ stg b hb
          exact (same b hb o e).2
      cases b with
      | false =>
        simp only [Bool.false_eq_true, if_false] at qi ⊢
        exact close Ii qi
      | true =>
        simp only [if_true] at qi ⊢
        refine thnF (pe.run _ si σh Hi _ Ii qi) fun z sj ⟨yv, Hj, Ij, rj, acc, hDj, hzj, nx⟩ => ?_
        exact app_ok (X := X.blk sc Hc scope ce fp) Ij hDj hzj rj fun sk Ik => close Ik nx
  exact codeAny_compStart_list loop (T.self X.A 0 _ _ _ std loop)
/-- the lambda called, in the def that got it (the opening and the end as the library's pe_act has them; here the lambda is held) -/
theorem pe_actK {pins : List (Addr × Obj)} {σ : L2.St} {H : L2.Hp} {s : Shared} {CXg : CXT} {Eg : XK} {Ng : List Str} {qg : Str} {sg : Scope} {g f c' : Addr} {cdg pm ctv : Value} {params : Arguments} {body : Expr} {scope : Scope} {k i : Nat} {a : Str} {pn : List (Addr × Obj)} {xe : Value → Shared → Prop} {W : WX} {E : XK} {tb : TE} {p1 p2 : Pos}
    (I : Inv X pins σ H s) (L : LamX.LamS X.env.scope scope) (hbind : ∀ (q : Str) (cl : List (Str × Addr)) (pm cv ctv : Value), bindArgs (PySem.W.kla_fn "<lambda>" q params body scope cl pm cv ctv) ⟨[], []⟩ = pure [])
    (tk : Takes (((cxOf CXg X.prog X.w X.K X.mg X.base Ng qg sg g cdg X.A X.stack s H Eg).tr pn xe)) W) (hW : ∀ cls d σ' H', E cls d H' → W cls d σ' H') (hr : Room (k + 1) (X.A.deeper (envOfC qg sg s.heap.objs.size g cdg)))
    (hbody : ∀ (A : Around) (outer : List Env) (s : Shared) (H : L2.Hp), Room k (A.deeper (LamX.lamEnv X scope s.heap.objs.size f c')) → PE (LamX.lamCx X A outer s H E scope f c') body tb)
    (hN : Ng[i]? = some a) (hv : Vis sg a) (hd : (a == ("__debug__" : Str)) = false) (hcd : (a == ("__classdict__" : Str)) = false) :
    PE (((cxOf CXg X.prog X.w X.K X.mg X.base Ng qg sg g cdg X.A X.stack s H Eg).tr pn xe)) (.Call (.Name a p1) [] [] p2)
      (fun σZ HZ Q => σZ[i]? = some (some (.ref f)) ∧ HZ c' = some (LamX.CodeO c' (lamQ X)) ∧ HZ f = some (FunO f (lamOb X params body scope pm c' ctv)) ∧ tb σ HZ Q) := by
  refine ⟨fun pz sz σz Hz Q Iz ⟨hs, hc, hf, ht⟩ => ?_⟩
  refine wpAny_Call_Name_kw (thn ((pe_var (pos := p1) (i := i) hN hv hd hcd).run pz sz σz Hz (fun v H1 => v = .ref f ∧ H1 = Hz) Iz ⟨.ref f, hs, rfl, rfl⟩) fun u s1 ⟨v, H1, I1, r1, ev, eH⟩ => ?_)
  subst ev
  subst eH
  obtain rfl : u = .ref f := r1
  have of1 : s1.heap.get? f = some (lamOb X params body scope pm c' ctv) := (I1.hok f _ hf).1
  refine (PySem.W.callWith_F0 ⟨_, _, _, _, of1⟩ ?_)
  have un : Un (frs X.stack) [] H H1 s.heap s1.heap := I1.base
  obtain ⟨⟨oc, vs, t, hoc, hdc, hvc⟩, _, _⟩ := (I1.hok c' _ hc)
  have run : codeAny (model X.prog X.w) (X.A.deeper (envOfC qg sg s.heap.objs.size g cdg)) (.call (.ref f) ⟨[], []⟩) (CR (L2.CX X.prog X.w) (envOfC qg sg s.heap.objs.size g cdg :: X.stack) X.prog X.w H1 s1 Q E) s1 := by
    refine (PySem.W.kla_callFunE hr.depth of1 rfl L.co L.gen rfl ⟨c', oc, vs, t, rfl, hoc, hdc, hvc⟩ ?_)
    rw [hbind]
    refine (wpAny_pure (wpAny_newFunctionEnv (fun y hy => (L.own y hy).2) (fun y hy => absurd hy (by simp)) (fun h₁ hns hsb => ⟨I1.nolimit.fresh _ hsb, ?_⟩) L.kind))
    show codeAny _ _ (.expr body (LamX.lamEnv X scope s1.heap.objs.size f c')) _ _
    have kept : ∀ b o, s1.heap.get? b = some o → h₁.get? b = some o := fun b o e => hsb.extBut b o (Nat.ne_of_lt (Heap.lt_size e)) (Heap.get?_push_of_some _ e)
    have J : Inv (LamX.lamCx X (X.A.deeper (envOfC qg sg s.heap.objs.size g cdg)) (envOfC qg sg s.heap.objs.size g cdg :: X.stack) s1 H1 E scope f c') [] σ H1 { s1 with heap := h₁, toks := s1.toks + ([] : List (Str × Value)).length } := LamX.lam_start2 I L I1.env0 hr.hd un hns kept
    refine PySem.W.kla_codeExpr (wpAny_mono ((hbody _ _ s1 H1 (hr.deeper _)).run [] _ _ H1 Q J ht) (fun v s' ⟨w', H', J', rv, q⟩ => ⟨w', H', J'.os, J'.bare, J'.base, J'.hok, rv, q⟩) fun e s' hq => hq)
  have out : Passes (L2.CX X.prog X.w) ((cxOf CXg X.prog X.w X.K X.mg X.base Ng qg sg g cdg X.A X.stack s H Eg).tr pn xe) E := passes_call tk hW
  refine wpAny_call (codeAny_mono run fun r s' hq => ?_)
  cases r with
  | error e => exact out pz σz H1 s1 e s' I1 hq
  | ok fl =>
    cases fl with
    | ret u => exact I1.after hq
    | next => exact False.elim hq
    | brk => exact False.elim hq
    | cont => exact False.elim hq
end
end PI

/-! SS: bad = [lambda: .., ..]; if [1 for f in bad if told(f) != word] != [] or ..: .. -/
set_option linter.all false
set_option maxRecDepth 100000
set_option maxHeartbeats 1000001
namespace PI
open PySem PySem.Spec L2 PyProof.Rows
section
variable (G : GT) (Bs : List Nat) (X : Cx) (c : Cc) (k : Nat)
/-- the lambda l, run, is what the interpreter's e tells -/
def LamP (l : Expr) (e : PI.E) : Prop := ∃ params body scope pos, l = .Lambda params body scope pos ∧ LamX.LamS X.env.scope scope ∧ defaultsOf params X.env = ([], []) ∧ (∀ (q : Str) (cl : List (Str × Addr)) (pm cv ctv : Value), bindArgs (PySem.W.kla_fn "<lambda>" q params body scope cl pm cv ctv) ⟨[], []⟩ = pure []) ∧
  ∀ (E : XK) (A : Around) (outer : List Env) (s : Shared) (H : L2.Hp) (C f c' : Addr), Room k (A.deeper (LamX.lamEnv X scope C f c')) → NE G Bs (WU E) (LamX.lamCx X A outer s H E scope f c') c body e
inductive LamPs : List Expr → List PI.E → Prop
  | nil : LamPs [] []
  | cons {l : Expr} {ls : List Expr} {e : PI.E} {es : List PI.E} : LamP G Bs X c k l e → LamPs ls es → LamPs (l :: ls) (e :: es)
end
section
variable {G : GT} {Bs : List Nat} {W : WX} {X : Cx} {c : Cc} {k : Nat}
theorem LamP.of {params : Arguments} {body : Expr} {scope : Scope} {pos : Pos} {e : PI.E} (h1 : LamX.lamSB X.env.scope scope = true) (h2 : defaultsOf params X.env = ([], [])) (h3 : ∀ (q : Str) (cl : List (Str × Addr)) (pm cv ctv : Value), bindArgs (PySem.W.kla_fn "<lambda>" q params body scope cl pm cv ctv) ⟨[], []⟩ = pure [])
    (h4 : ∀ (E : XK) (A : Around) (outer : List Env) (s : Shared) (H : L2.Hp) (C f c' : Addr), Room k (A.deeper (LamX.lamEnv X scope C f c')) → NE G Bs (WU E) (LamX.lamCx X A outer s H E scope f c') c body e) : LamP G Bs X c k (.Lambda params body scope pos) e :=
  ⟨params, body, scope, pos, rfl, LamX.lamS_by h1, h2, h3, h4⟩
theorem LamPs.made {ls : List Expr} {es : List PI.E} (h : LamPs G Bs X c k ls es) : ∀ l ∈ ls, LamW X l := by
  induction h with
  | nil => intro l hl; cases hl
  | cons h1 _ ih =>
    intro l hl
    rcases List.mem_cons.mp hl with z | z
    · rw [z]
      obtain ⟨params, body, scope, pos, g1, g2, g3, g4, _⟩ := h1
      exact ⟨params, body, scope, pos, g1, g2, g3, g4⟩
    · exact ih l z
theorem LamPs.length {ls : List Expr} {es : List PI.E} (h : LamPs G Bs X c k ls es) : ls.length = es.length := by
  induction h with
  | nil => rfl
  | cons _ _ ih => (rw [List.length_cons, List.length_cons, ih])
theorem LamPs.get {ls : List Expr} {es : List PI.E} (h : LamPs G Bs X c k ls es) : ∀ {i : Nat} {l : Expr} {e : PI.E}, ls[i]? = some l → es[i]? = some e → LamP G Bs X c k l e := by
  induction h with
  | nil => intro i l e h1 _; cases h1
  | cons h0 _ ih =>
    intro i l e h1 h2
    cases i with
    | zero =>
      cases h1
      cases h2
      exact h0
    | succ i => exact ih (i := i) (by simpa using h1) (by simpa using h2)
theorem evf_get {τ : Sl} : ∀ {es : List PI.E} {i : Nat} {e : PI.E}, es[i]? = some e → (evf c τ es)[i]? = some (fun h => ev c τ e h)
  | [], _, _, h => by cases h
  | _ :: _, 0, _, h => by
    cases h
    rw [evf] <;> rfl
  | _ :: es, i + 1, e, h => by
    rw [evf]
    exact evf_get (i := i) (by simpa using h)
theorem evf_len {τ : Sl} : ∀ {es : List PI.E}, (evf c τ es).length = es.length
  | [] => by rw [evf] <;> rfl
  | _ :: es => by rw [evf, List.length_cons, List.length_cons, evf_len]
theorem SlotR.unset {F : Fh} {ρ : List Addr} {τ : Sl} {σ : L2.St} (S : SlotR G F ρ τ σ) (i : Nat) (o : Option V) : SlotR G F ρ (τ.set i none) (σ.set i o) := by
  refine ⟨by rw [List.length_set, List.length_set, S.len], fun j d q => ?_⟩
  by_cases hj : i = j
  · subst hj
    by_cases hl : i < τ.length
    · rw [List.getElem?_set_self hl] at q
      cases q
    · rw [List.getElem?_eq_none (by simpa using hl)] at q
      cases q
  · rw [List.getElem?_set_ne hj] at q
    obtain ⟨v, h1, h2⟩ := S.at_ j d q
    exact ⟨v, by rw [List.getElem?_set_ne hj]; exact h1, h2⟩
theorem slots_none {F : Fh} {ρ : List Addr} (σ : L2.St) : SlotR G F ρ (List.replicate σ.length none) σ := by
  refine ⟨by rw [List.length_replicate], fun i d q => ?_⟩
  rw [List.getElem?_replicate] at q
  split at q <;> cases q
/-- told(f) in the comprehension's block -/
def tTold (G : GT) (Bs : List Nat) (X : Cx) (c : Cc) (k fi : Nat) (cs : List Nat) (d : D) (σ : L2.St) : TE := fun σ' H Q => ∃ (f : Addr) (l : Expr) (e : PI.E), σ'[fi]? = some (some (.ref f)) ∧ LamP G Bs X c k l e ∧ LamIn X H l (.ref f) ∧
  ∃ F ρ τ h, Rel G Bs F ρ h H ∧ SlotR G F ρ τ σ ∧ Aft G Bs WN σ (DR G) F ρ (catchD cs d (ev c τ e h)) Q
theorem aft_told {K : PySem.W.Frag} {CS : Addr} {cs : List Nat} {d : D} {ret : Str} {r : Res D} {σ : L2.St} {F : Fh} {ρ : List Addr} {Q : VK} (hcs : ∀ j, cs.contains j = true → PySem.W.exmOne K (.ref (G.xcl j)) (.ref CS) = some true) (hd : ∀ F ρ, DR G F ρ d (.str ret)) (q : Aft G Bs WN σ (DR G) F ρ (catchD cs d r) Q) :
    Aft G Bs (WU fun cls _ H' => ∃ b, PySem.W.exmOne K cls (.ref CS) = some b ∧ (b = true → Q (.str ret) H') ∧ (b = false → False)) σ (DR G) F ρ r Q := by
  cases r with
  | ok v h' => exact q
  | ex j h' =>
    simp only [catchD] at q
    split at q
    · rename_i hj
      exact fun F' ρ' H' e' R' => ⟨true, hcs j hj, fun _ => q F' ρ' H' (.str ret) e' R' (hd _ _), fun z => by cases z⟩
    · exact q.elim
  | no w => exact q.elim
theorem pe_told {pins : List (Addr × Obj)} {σ : L2.St} {s3 : Shared} {H3 : L2.Hp} {sc : Scope} {ce : Env} {fp : List Addr} {x a fv ret : Str} {g CS : Addr} {fd : FuncData} {params : Arguments} {bg : List Stmt} {sg : Scope} {fi : Nat} {cs : List Nat} {d : D} {p q pos : Pos}
    (J : Inv X pins σ H3 s3) (hf : ∀ b ∈ fp, FpOk X pins H3 b) (hg : Gl (X.blk s3 H3 sc ce fp) x) (hm : X.mg x = some (.ref g)) (Fu : L2.FunD X.K x x params bg sg [] [] g fd) (hB : Binds X.K fd [a] []) (Sg : FnScope [a] [a] sg) (hva : Vis sg a)
    (hG : ∀ cdg, LamX.GivesTo X [a] x sg g cdg bg a (lamQ X) (LamX.TTold X.K CS ret)) (hr : Room (k + 2) X.A) (hcs : ∀ j, cs.contains j = true → PySem.W.exmOne X.K (.ref (G.xcl j)) (.ref CS) = some true) (hd : ∀ F ρ, DR G F ρ d (.str ret))
    (hN : X.N[fi]? = some fv) (hv : Vis ce.scope fv) (hdb : (x == ("__debug__" : Str)) = false := by decide) (h1 : (fv == ("__debug__" : Str)) = false := by decide) (h2 : (fv == ("__classdict__" : Str)) = false := by decide) (h3 : (a == ("__debug__" : Str)) = false := by decide) (h4 : (a == ("__classdict__" : Str)) = false := by decide) :
    PE (X.blk s3 H3 sc ce fp) (.Call (.Name x p) [.Name fv q] [] pos) (tTold G Bs X c k fi cs d σ) := by
  refine ⟨fun pins' s σ' H Q I ⟨f, l, e, hs, hp, hl, F, ρ, τ, h, R, S, qq⟩ => ?_⟩
  obtain ⟨oc, od, dV, kV, doc, pm0, an, cdv, ct, osl, rfl, lk, hcg, _, _⟩ := Fu.ex
  refine (wpAny_Call_Name_kw (ld_glob I hg hm ?_ hdb))
  refine PySem.W.callWith_K (h₀ := X.base) I.ok.mod.kin Fu.kp (thn ((pa_cons (X := X.blk s3 H3 sc ce fp) (pe_var (X := X.blk s3 H3 sc ce fp) (i := fi) (pos := q) hN hv h1 h2) pa_nil rfl).run pos pins' s σ' H (fun vs H1 => vs = [.ref f] ∧ H1 = H) I ⟨.ref f, hs, rfl, rfl⟩) fun us s1 ⟨vs, H1, I1, r, e1, e2⟩ => ⟨I1.kIn, ?_⟩) (by rfl) (by rfl)
  subst e1
  subst e2
  have hus : us = [Value.ref f] := by
    cases r with
    | cons ra rb =>
      cases rb
      exact congrArg (fun z => [z]) (show _ = Value.ref f from ra)
  subst hus
  obtain ⟨params', body, scope, pos', rfl, L, _, hbind, hrun⟩ := hp
  obtain ⟨params2, body2, scope2, pos2, f2, c', pm, ctv, e3, e4, e5, e6⟩ := hl
  cases e3
  cases e4
  have IX : Inv X pins σ H1 s1 := J.call' (ch := fp) I1.os I1.base I1.hok I1.bare fun b hb => ⟨(hf b hb).2.2.2.1, (hf b hb).2.1, (hf b hb).2.2.2.2.1, (hf b hb).2.2.2.2.2⟩
  have run : codeAny (model X.prog X.w) X.A (.call (.ref g) ⟨[.ref f], []⟩) (CR C8.CX0 X.stack X.prog X.w H1 s1 Q C8.E0) s1 := by
    refine LamX.run_ofS (N := [a]) (ps := [a]) (us := [.ref f]) (vs := [.ref f]) lk hcg Sg hr I1.env0 (hB s1 [.ref f] I1.kIn rfl) (.cons rfl .nil) rfl fun hr2 => ?_
    have tells : LamX.TTold X.K CS ret (fun E H' Q' => H' f = some (FunO f (lamOb X params' body scope pm c' ctv)) ∧ tEv G Bs (WU E) (fun τ h => ev c τ e h) σ H' Q') H1 Q := by
      exact ⟨e5, F, ρ, τ, h, R, S, aft_told hcs hd qq⟩
    obtain ⟨t', ht', hq'⟩ := hG cdv f c' s1 H1 Q _ (fun W pn xe E p1 p2 tk hW => pe_actK (i := 0) IX L hbind tk hW hr2 (fun A outer s H hr3 => hrun E A outer s H _ f c' hr3) rfl hva h3 h4) e6 tells
    exact ⟨t', ht'.nox, hq'⟩
  refine wpAny_call (codeAny_mono run fun r s2 hq => ?_)
  cases r with
  | error e => exact False.elim (show False from hq)
  | ok fl =>
    cases fl with
    | ret u => exact I1.after hq
    | next => exact False.elim hq
    | brk => exact False.elim hq
    | cont => exact False.elim hq
/-- told(f) != d -/
def tUnlike (G : GT) (Bs : List Nat) (X : Cx) (c : Cc) (k fi : Nat) (cs : List Nat) (d : D) (σ : L2.St) : TT := fun σ' H Q => tTold G Bs X c k fi cs d σ σ' H fun v H1 => ∃ F ρ h y, Rel G Bs F ρ h H1 ∧ DR G F ρ y v ∧ Aft G Bs WN σ (fun _ _ b c => b = c) F ρ (asB (opC .ne y d h)) Q
theorem unlike_cmp {Y : Cx} {fi : Nat} {cs : List Nat} {d : D} {σ σ' : L2.St} {H : L2.Hp} {Q : Bool → L2.Hp → Prop} (yo : XO G Y) (q : tUnlike G Bs X c k fi cs d σ σ' H Q) :
    tOp (rAny Y (compareOp .NotEq)) (tTold G Bs X c k fi cs d σ) (tEv G Bs WN fun τ h => ev c τ (.cst d) h) σ' H fun v H1 => ∃ b, v = .bl b ∧ Q b H1 := by
  obtain ⟨f, l, e, h1, h2, h3, F, ρ, τ, h, R, S, qq⟩ := q
  refine ⟨f, l, e, h1, h2, h3, F, ρ, τ, h, R, S, qq.imp (T' := DR G) fun v H1 ⟨F1, ρ1, h1, y, R1, t1, q1⟩ => ?_⟩
  refine ⟨F1, ρ1, _, h1, R1, slots_none _, ?_⟩
  simp only [ev]
  exact fun F2 ρ2 H2 w e2 R2 t2 => s_ne yo F2 ρ2 h1 H2 σ y d v w _ R2 (t1.mono e2) t2 ((q1.mono e2).asB)
/-- the bad ones' list -/
def tBadE (G : GT) (Bs : List Nat) (W : WX) (X : Cx) (c : Cc) (ib fi : Nat) (ls : List Expr) (es : List PI.E) (cs : List Nat) (d : D) : TE := fun σ H Q => ∃ (L : Addr) (fs : List V), σ[ib]? = some (some (.ref L)) ∧ ∃ F ρ τ h, Rel G Bs F ρ h H ∧ SlotR G F ρ τ σ ∧ fi < τ.length ∧ F L = some (.lst fs) ∧ LamsIn X F ls fs ∧
  Aft G Bs W σ (DR G) F ρ ((badL cs d h.length (evf c τ es) (h ++ [.lst []])).bind fun _ h1 => lcEnd false h.length h1) Q
theorem pe_bad {x a fv bn ret : Str} {g CS : Addr} {fd : FuncData} {params : Arguments} {bg : List Stmt} {sg scope : Scope} {own : List (Str × Nat)} {ib fi j1 : Nat} {cs : List Nat} {d : D} {p q pos px pb pc p1 lp : Pos} {ls : List Expr} {es : List PI.E} {cst : Expr}
    (xo : XO G X) (hNd : X.N.Nodup) (ok : BlkOk X.N X.env.scope scope own) (hib : X.N[ib]? = some bn) (hvb : Vis X.env.scope bn) (hN : X.N[fi]? = some fv) (hown : fi ∈ own.map (·.2)) (hLs : LamPs G Bs X c k ls es)
    (hloc : ∀ C cl, Loc (compEnvC scope cl C X.env).scope fv) (hfn : ∀ C cl, (scope.names.lookup fv == some .cell) = true ∨ (compEnvC scope cl C X.env).scope.names.lookup fv = some .local) (hgl : ∀ s H C cl fp, Gl (X.blk s H scope (compEnvC scope cl C X.env) fp) x)
    (hm : X.mg x = some (.ref g)) (Fu : L2.FunD X.K x x params bg sg [] [] g fd) (hB : Binds X.K fd [a] []) (Sg : FnScope [a] [a] sg) (hva : Vis sg a) (hG : ∀ cdg, LamX.GivesTo X [a] x sg g cdg bg a (lamQ X) (LamX.TTold X.K CS ret)) (hr : Room (k + 2) X.A)
    (hcs : ∀ j, cs.contains j = true → PySem.W.exmOne X.K (.ref (G.xcl j)) (.ref CS) = some true) (hd : ∀ F ρ, DR G F ρ d (.str ret)) (hcst : ∀ (s : Shared) (H : L2.Hp) (C : Addr) (cl : List (Str × Addr)) (fp : List Addr), NE G Bs WN (X.blk s H scope (compEnvC scope cl C X.env) fp) c cst (.cst d)) (hmk : behindInMarks .NotEq cst = false)
    (hdb : (x == ("__debug__" : Str)) = false := by decide) (h1 : (fv == ("__debug__" : Str)) = false := by decide) (h2 : (fv == ("__classdict__" : Str)) = false := by decide) (h3 : (a == ("__debug__" : Str)) = false := by decide) (h4 : (a == ("__classdict__" : Str)) = false := by decide)
    (h5 : (bn == ("__debug__" : Str)) = false := by decide) (h6 : (bn == ("__classdict__" : Str)) = false := by decide) (hs : ∀ v, foldedSetIterable (.Name bn pb) X.env v = pure v := by intro _; rfl) :
    PE X (.ListComp (.Constant (.int 1) j1 p1) [⟨.Name fv px, .Name bn pb, [.Compare (.Call (.Name x p) [.Name fv q] [] pos) [.NotEq] [cst] pc], 0⟩] scope lp) (tBadE G Bs W X c ib fi ls es cs d) := by
  refine pe_imp (pe_lcI (tt := fun σ => tUnlike G Bs X c k fi cs d σ) xo.calm hNd (pi_list (pe_var (i := ib) (pos := pb) hib hvb h5 h6)) ok (g := gName fi)
    (fun s H C cl fp => pg_name (X := X.blk s H scope (compEnvC scope cl C X.env) fp) hNd hN (hloc C cl) (hfn C cl))
    (fun pins σ s H C cl fp J hf => pts_one (pt_imp (pt_cmpR (X := X.blk s H scope (compEnvC scope cl C X.env) fp) op_any (pe_told J hf (hgl s H C cl fp) hm Fu hB Sg hva hG hr hcs hd hN ((hloc C cl).elim .inl fun z => .inr (.inl z)) hdb h1 h2 h3 h4) (hcst s H C cl fp) hmk) fun σ' H' Q q => unlike_cmp (XO.blk xo) q))
    (fun s H C cl fp => pe_int) hs) fun σ H Q ⟨L, fs, hσ, F, ρ, τ, h, R, S, hfi, hL, hls, qq⟩ => ?_
  have hsq : ∀ {F' : Fh} {ρ' : List Addr} {h' : Hv} {H' : L2.Hp}, Ext F ρ F' ρ' → Rel G Bs F' ρ' h' H' → SqL X.K H' L fs := fun e R' => .inl (.inl (R'.same _ _ (e.same _ _ hL)))
  refine ⟨.ref L, hσ, L, rfl, ⟨fs, hsq (Ext.refl _ _) R⟩, fun D hD => ?_⟩
  have R0 : Rel G Bs F (ρ ++ [D]) (h ++ [.lst []]) (L2.upd H D (.lst [])) := R.cellNew hD (fun b u z => by rw [upd_ne (ne_of_none z hD)]; exact z) ⟨[], upd_same, drs_nil.mpr rfl⟩
  have hri : (ρ ++ [D])[h.length]? = some D := by rw [← R.len]; simp
  have lowi : ∀ B ∈ Bs, ¬ h.length < B := fun B hB => Nat.not_lt.mpr (R.lows B hB)
  have lenf : fs.length = es.length := hls.length.trans hLs.length
  refine ⟨fun n m H => m + n = fs.length ∧ ∃ F2 ρ2 h2, Ext F (ρ ++ [D]) F2 ρ2 ∧ Rel G Bs F2 ρ2 h2 H ∧ Aft G Bs W σ (DR G) F2 ρ2 ((badL cs d h.length ((evf c τ es).drop n) h2).bind fun _ h1 => lcEnd false h.length h1) Q,
    ⟨fs.length, by omega, F, ρ ++ [D], h ++ [.lst []], Ext.refl _ _, R0, by simpa using qq.mono Ext.snoc⟩, fun n m' H2 ⟨hk, F2, ρ2, h2, e2, R2, q2⟩ => ?_⟩
  have hρ : ρ2[h.length]? = some D := e2.pre _ _ hri
  have sq2 := hsq (Ext.snoc.trans e2) R2
  by_cases hlt : n < fs.length
  · right
    obtain ⟨f0, hf0⟩ : ∃ v, fs[n]? = some v := ⟨fs[n], List.getElem?_eq_getElem hlt⟩
    obtain ⟨l, hl1, hl2⟩ := hls.get hf0
    obtain ⟨e, he⟩ : ∃ e, es[n]? = some e := ⟨es[n]'(by omega), List.getElem?_eq_getElem _⟩
    have hp := hLs.get hl1 he
    have hlt2 : n < (evf c τ es).length := by rw [evf_len]; omega
    have eat : (evf c τ es)[n] = fun h => ev c τ e h := Option.some.inj ((List.getElem?_eq_getElem hlt2).symm.trans (evf_get he))
    rw [List.drop_eq_getElem_cons hlt2, badL, Res.bind_bind, eat] at q2
    refine ⟨⟨fs, f0, sq2, hf0⟩, fun H' => (m' - 1) + (n + 1) = fs.length ∧ ∃ F2 ρ2 h2, Ext F (ρ ++ [D]) F2 ρ2 ∧ Rel G Bs F2 ρ2 h2 H' ∧ Aft G Bs W σ (DR G) F2 ρ2 ((badL cs d h.length ((evf c τ es).drop (n + 1)) h2).bind fun _ h1 => lcEnd false h.length h1) Q,
      fun H' z => ⟨m' - 1, by omega, z⟩, fun xv H3 ⟨y1, y2⟩ => ?_⟩
    subst y1
    have hxv : xv = f0 := by
      have z := y2 fs sq2
      rw [hf0] at z
      exact (Option.some.inj z).symm
    subst hxv
    refine ⟨by rw [wipe_set hown, wipe_wipe _ _ fun _ h => h], ?_⟩
    have hm' : m' - 1 + (n + 1) = fs.length := by omega
    have q3 := (q2.bind (T1 := fun _ _ (b : Bool) (c : Bool) => b = c)).quietN (σ' := σ)
    unfold badStep at q3
    have hl3 := hl2.mono (X := X) (fun a o z => R2.same a o ((Ext.snoc.trans e2).same a o z))
    obtain ⟨p2, b2, s2, o2, f, c', pm, ctv, g1, g2, g3⟩ := id hl3
    subst g2
    have hfl : fi < (L2.wipe σ (own.map (·.2))).length := by
      rw [wipe_length, S.len]
      exact hfi
    refine ⟨f, l, e, List.getElem?_set_self hfl, hp, hl3, F2, ρ2, τ, h2, R2, S.mono (Ext.snoc.trans e2), (q3.bind (T1 := DR G)).imp (T' := DR G) fun v H4 ⟨F3, ρ3, y, h3, e3, R3, t3, q4⟩ => ?_⟩
    refine ⟨F3, ρ3, h3, y, R3, t3, q4.imp (T' := DR G) fun b H6 ⟨F5, ρ5, b', h5, e5, R5, hbb, q5⟩ => ?_⟩
    subst hbb
    cases b' with
    | false =>
      simp only [Bool.false_eq_true, if_false] at q5 ⊢
      exact ⟨hm', F5, ρ5, h5, e2.trans e5, R5, q5⟩
    | true =>
      simp only [if_true] at q5 ⊢
      cases eo : h5[h.length]? with
      | none => simp only [eo] at q5; exact q5.elim
      | some o =>
        simp only [eo] at q5
        cases o with
        | lst acc =>
          dsimp only at q5
          split at q5
          · rename_i hz
            obtain ⟨a', h7, hF, vs, h8, h9⟩ := R5.at_ eo rfl
            have hρ5 := e5.pre _ _ hρ
            rw [hρ5] at h7
            cases h7
            exact ⟨vs, h8, by rw [h9.length, ← size_line]; exact Nat.lt_of_succ_le (Nat.le_of_ble_eq_true hz), hm', F5, ρ5, _, e2.trans e5, R5.putAt (u := .lst (acc ++ [.int 1])) eo rfl hρ5 ⟨_, upd_same, h9.append (drs_cons.mpr ⟨dr_int.mpr rfl, drs_nil.mpr rfl⟩)⟩ (fun B hB hi => absurd hi (lowi B hB)) (.inl rfl), q5⟩
          · exact q5.elim
        | _ => exact q5.elim
  · left
    have hke : n = fs.length := by omega
    subst hke
    refine ⟨⟨fs, sq2, Nat.le_refl _⟩, ?_⟩
    rw [List.drop_eq_nil_of_le (by rw [evf_len, lenf]; exact Nat.le_refl _), badL] at q2
    simp only [Res.bind, lcEnd] at q2
    cases eo : h2[h.length]? with
    | none => simp only [eo] at q2; exact q2.elim
    | some o =>
      simp only [eo] at q2
      split at q2
      · rename_i ys heq
        cases heq
        obtain ⟨a', h6, hF, vs, h7, h8⟩ := R2.at_ eo rfl
        rw [hρ] at h6
        cases h6
        split at q2
        · rename_i z
          cases z
        · obtain ⟨f1, f2, f3⟩ := R2.freeze eo hρ h7 h8
          exact q2 _ _ _ _ f1 f2 f3
      · exact q2.elim
end
end PI

/-! SV: the two statements about the bad ones, as the interpreter has them. -/
set_option linter.all false
set_option maxRecDepth 100000
set_option maxHeartbeats 1000001
namespace PI
open PySem PySem.Spec L2 PyProof.Rows
section
variable {G : GT} {Bs : List Nat} {W : WX} {X : Cx} {c : Cc} {k : Nat}
/-- [..] != [] -/
def tBadT (G : GT) (Bs : List Nat) (W : WX) (X : Cx) (c : Cc) (ib fi : Nat) (ls : List Expr) (es : List PI.E) (cs : List Nat) (d : D) : TT := fun σ H Q => ∃ (L : Addr) (fs : List V), σ[ib]? = some (some (.ref L)) ∧ ∃ F ρ τ h, Rel G Bs F ρ h H ∧ SlotR G F ρ τ σ ∧ fi < τ.length ∧ F L = some (.lst fs) ∧ LamsIn X F ls fs ∧
  Aft G Bs W σ (fun _ _ b c => b = c) F ρ (badQ cs d (evf c τ es) h) Q
theorem pt_bad {ib fi : Nat} {ls : List Expr} {es : List PI.E} {cs : List Nat} {d : D} {lc : Expr} {pe pos : Pos} (xo : XO G X) (h : PE X lc (tBadE G Bs W X c ib fi ls es cs d)) : PT X (.Compare lc [.NotEq] [.List [] pe] pos) (tBadT G Bs W X c ib fi ls es cs d) := by
  have hb : NE G Bs W X c (.List [] pe) (.lst false []) := n_lst na_nil
  refine pt_imp (pt_cmpR op_any h hb (by rfl)) fun σ H Q ⟨L, fs, hσ, F, ρ, τ, h0, R, S, hfi, hL, hl, q⟩ => ?_
  unfold badQ at q
  refine ⟨L, fs, hσ, F, ρ, τ, h0, R, S, hfi, hL, hl, (q.asB.bind (T1 := DR G)).imp (T' := DR G) fun v H1 ⟨F1, ρ1, y, h1, e1, R1, t1, q1⟩ => ?_⟩
  refine ⟨F1, ρ1, τ, h1, R1, S.mono e1, ?_⟩
  simp only [ev, evs, Res.bind]
  refine (Aft.bind (T1 := DR G) q1).imp (T' := DR G) fun w H2 ⟨F2, ρ2, z, h2, e2, R2, t2, q2⟩ => ?_
  exact s_ne xo F2 ρ2 h2 H2 σ y z v w _ R2 (t1.mono e2) t2 q2
/-- the test: that alone, or that or more -/
inductive BadTest (G : GT) (Bs : List Nat) (W : WX) (X : Cx) (c : Cc) (cmp : Expr) : Expr → List PI.E → Prop
  | one : BadTest G Bs W X c cmp cmp []
  | more {m : Expr} {ms : List Expr} {t : PI.E} {ts : List PI.E} {pos : Pos} : TOr G Bs W X c (m :: ms) pos (t :: ts) → BadTest G Bs W X c cmp (.BoolOp .Or (cmp :: m :: ms) pos) (t :: ts)
def badMore (c : Cc) (τ : Sl) (cs : List Nat) (d : D) (es ts : List PI.E) (h : Hv) : Res Bool := (badQ cs d (evf c τ es) h).bind fun k h1 => if k then .ok true h1 else asB (evOr c τ ts h1)
def tBadM (G : GT) (Bs : List Nat) (W : WX) (X : Cx) (c : Cc) (ib fi : Nat) (ls : List Expr) (es ts : List PI.E) (cs : List Nat) (d : D) : TT := fun σ H Q => ∃ (L : Addr) (fs : List V), σ[ib]? = some (some (.ref L)) ∧ ∃ F ρ τ h, Rel G Bs F ρ h H ∧ SlotR G F ρ τ σ ∧ fi < τ.length ∧ F L = some (.lst fs) ∧ LamsIn X F ls fs ∧
  Aft G Bs W σ (fun _ _ b c => b = c) F ρ (badMore c τ cs d es ts h) Q
theorem BadTest.pt {cmp test : Expr} {ib fi : Nat} {ls : List Expr} {es ts : List PI.E} {cs : List Nat} {d : D} (h : PT X cmp (tBadT G Bs W X c ib fi ls es cs d)) (b : BadTest G Bs W X c cmp test ts) : PT X test (tBadM G Bs W X c ib fi ls es ts cs d) := by
  cases b with
  | one =>
    refine pt_imp h fun σ H Q ⟨L, fs, hσ, F, ρ, τ, h0, R, S, hfi, hL, hl, q⟩ => ⟨L, fs, hσ, F, ρ, τ, h0, R, S, hfi, hL, hl, ?_⟩
    unfold badMore at q
    refine (q.bind (T1 := fun _ _ (b : Bool) (c : Bool) => b = c)).imp (T' := fun _ _ (b : Bool) (c : Bool) => b = c) fun b H1 ⟨F1, ρ1, b', h1, e1, R1, t1, q1⟩ => ?_
    subst t1
    cases b' with
    | true => exact q1.ok_ R1 rfl
    | false =>
      simp only [evOr, PI.asB, Res.bind, Bool.false_eq_true, if_false] at q1
      exact q1.ok_ R1 rfl
  | more hm =>
    refine pt_imp (PW.pt (pw_or h hm)) fun σ H Q ⟨L, fs, hσ, F, ρ, τ, h0, R, S, hfi, hL, hl, q⟩ => ⟨L, fs, hσ, F, ρ, τ, h0, R, S, hfi, hL, hl, ?_⟩
    unfold badMore at q
    refine (q.bind (T1 := fun _ _ (b : Bool) (c : Bool) => b = c)).imp (T' := fun _ _ (b : Bool) (c : Bool) => b = c) fun b H1 ⟨F1, ρ1, b', h1, e1, R1, t1, q1⟩ => ?_
    subst t1
    cases b' with
    | true =>
      simp only [if_true] at q1 ⊢
      exact q1.ok_ R1 rfl
    | false =>
      simp only [Bool.false_eq_true, if_false] at q1 ⊢
      exact ⟨F1, ρ1, τ, h1, R1, S.mono e1, q1⟩
theorem aft_next {F : Fh} {ρ : List Addr} {r : Out} {rs : List S} {D : Ends} (q : AftS G Bs W F ρ (match r with | .nx σ1 h1 => exs c rs σ1 h1 | o => o) D) : AftS G Bs W F ρ r { D with nx := sEx G Bs W (fun τ h => exs c rs τ h) D } := by
  cases r with
  | nx τ1 h1 => exact fun F' ρ' H' σ' e' R' S' => ⟨F', ρ', τ1, h1, R', S', q.mono e'⟩
  | rt d h1 => exact q
  | bk τ h1 => exact q
  | ct τ h1 => exact q
  | ex cc τ h1 => exact q
  | no w => exact q
theorem ns_badif {C0 P : Addr} {bn : Str} {ib fi f : Nat} {own : List Nat} {ls : List Expr} {es ts : List PI.E} {cs : List Nat} {d : D} {pb pl pa pif pe pos : Pos} {lc test : Expr} {body : List Stmt} {b : List S} {rest : List Stmt} {rs : List S}
    (LB : LamB G X.mg X.base C0 P (lamQ X)) (hcode : X.env.code = .ref C0) (hNd : X.N.Nodup) (hib : X.N[ib]? = some bn) (hloc : Loc X.env.scope bn) (hLs : LamPs G Bs X c k ls es) (htold : toldOf c.pr f = some (cs, d)) (xo : XO G X) (hfew : ls.length ≤ 100000)
    (hlc' : LamPs G Bs X c k ls es → PE X lc (tBadE G Bs W X c ib fi ls es cs d)) (htest : BadTest G Bs W X c (.Compare lc [.NotEq] [.List [] pe] pos) test ts) (hb : NSs G Bs W X c body b) (hrest : NSs G Bs W X c rest rs)
    (hsw : swapsWith (.List ls pl) (some (.Name bn pb)) pa.line X.env = pure false := by rfl) (hfn : X.fn bn = true ∨ X.env.scope.names.lookup bn = some .local := by first | exact .inl rfl | exact .inr rfl) :
    NSs G Bs W X c (.Assign [.Name bn pb] (.List ls pl) pa :: .If test body [] pif :: rest) (.badif ib fi f own es ts b :: rs) := by
  have hlc := hlc' hLs
  have s1 := ps_set (pos := pa) (pos' := pb) hNd hib hloc (pe_lst (pos := pl) (pa_lams (Bs := Bs) LB hcode hLs.made)) hsw hfn
  have s2 := ps_if (pos := pif) (htest.pt (pt_bad (pe := pe) (pos := pos) xo hlc)) hb (ns_nil (G := G) (Bs := Bs) (W := W) (X := X) (c := c))
  unfold NSs at *
  refine pss_imp (pss_cons s1 (pss_cons s2 hrest)) fun D σ H ⟨F, ρ, τ, h, R, S, q⟩ => ?_
  dsimp only at q
  simp only [exs, ex, htold] at q
  by_cases hc : ib < τ.length ∧ fi < τ.length ∧ own.contains fi = true
  · rw [if_pos hc] at q
    refine ⟨F, ρ, h, R, fun F1 vs H1 e1 R1 hl => ⟨?_, fun p hp => ?_⟩⟩
    · rw [hl.length]
      exact Nat.le_trans hfew (by decide)
    have R2 : Rel G Bs (L2.upd F1 p (.lst vs)) ρ h (L2.upd H1 p (.lst vs)) := R1.new hp fun _ z => (nomatch z)
    have E2 : Ext F ρ (L2.upd F1 p (.lst vs)) ρ := e1.trans (Ext.upd (R1.free hp))
    have S2 : SlotR G (L2.upd F1 p (.lst vs)) ρ (τ.set ib none) (σ.set ib (some (.ref p))) := (S.mono E2).unset ib _
    have hiσ : ib < σ.length := by
      rw [S.len]
      exact hc.1
    refine ⟨p, vs, List.getElem?_set_self hiσ, L2.upd F1 p (.lst vs), ρ, τ.set ib none, h, R2, S2, by rw [List.length_set]; exact hc.2.1, upd_same, hl.mono (Ext.upd (ρ := ρ) (R1.free hp)).same, ?_⟩
    unfold badMore
    cases eq : badQ cs d (evf c (τ.set ib none) es) h with
    | no w =>
      rw [eq] at q
      exact q.elim
    | ex cc h1 =>
      rw [eq] at q
      exact fun F' ρ' H' e' R' => q F' ρ' H' _ (E2.trans e') R' (S2.mono e')
    | ok kb h1 =>
      rw [eq] at q
      simp only [Res.out] at q
      simp only [Res.bind]
      cases kb with
      | true =>
        simp only [if_true] at q ⊢
        intro F' ρ' H' bb e' R' t'
        subst t'
        simp only [if_true]
        refine ⟨F', ρ', _, h1, R', S2.mono e', ?_⟩
        exact aft_next (AftS.mono (E2.trans e') q)
      | false =>
        simp only [Bool.false_eq_true, if_false] at q ⊢
        cases eo : PI.asB (evOr c (τ.set ib none) ts h1) with
        | no w =>
          rw [eo] at q
          exact q.elim
        | ex cc h2 =>
          rw [eo] at q
          exact fun F' ρ' H' e' R' => q F' ρ' H' _ (E2.trans e') R' (S2.mono e')
        | ok kc h2 =>
          rw [eo] at q
          simp only [Res.out] at q
          intro F' ρ' H' bb e' R' t'
          subst t'
          cases kc with
          | true =>
            simp only [if_true] at q ⊢
            refine ⟨F', ρ', _, h2, R', S2.mono e', ?_⟩
            exact aft_next (AftS.mono (E2.trans e') q)
          | false =>
            simp only [Bool.false_eq_true, if_false] at q ⊢
            refine ⟨F', ρ', τ.set ib none, h2, R', S2.mono e', ?_⟩
            intro F3 ρ3 H3 σ3 e3 R3 S3
            exact ⟨F3, ρ3, _, h2, R3, S3, AftS.mono ((E2.trans e').trans e3) q⟩
  · rw [if_neg hc] at q
    exact q.elim
end
/-! ### in a lambda -/
theorem lam_room {X : Cx} {A : Around} {k : Nat} {scope : Scope} {C f c' : Addr} {e : Env} (h : Room k (A.deeper (LamX.lamEnv X scope C f c'))) : Room k (A.deeper e) := ⟨h.hd, h.dp, h.un⟩
theorem lam_xo {G : GT} {X : Cx} {A : Around} {outer : List Env} {s : Shared} {H : L2.Hp} {E : XK} {k : Nat} {scope : Scope} {C f c' f2 c2 : Addr} (xo : XO G X) (h : Room k (A.deeper (LamX.lamEnv X scope C f c'))) : XO G (LamX.lamCx X A outer s H E scope f2 c2) := by
  refine ⟨rfl, ?_, xo.K⟩
  have z := h.un
  show (A.deeper (LamX.lamEnv X scope C f c')).units + 70 < cLine
  omega
theorem lam_takes {X : Cx} {A : Around} {outer : List Env} {s : Shared} {H : L2.Hp} {E : XK} {scope : Scope} {f c' : Addr} : Takes (LamX.lamCx X A outer s H E scope f c') (WU E) := takes_of rfl rfl rfl rfl
theorem lam_passes {P : Program} {w : World} {X : Cx} {A : Around} {outer : List Env} {s : Shared} {H : L2.Hp} {E : XK} {scope : Scope} {f c' : Addr} (hP : P = X.prog) (hw : w = X.w) : Passes (L2.CX P w) (LamX.lamCx X A outer s H E scope f c') E := by
  subst hP hw
  exact fun pins σ H s e s' I hc => passes_call (W := WU E) lam_takes (fun _ _ _ _ h => h) pins σ H s e s' I hc
end PI

/-! SW: from the head's facts to what the bodies ask; the law's entry. -/
set_option linter.all false
set_option maxRecDepth 100000
set_option maxHeartbeats 1000001
namespace PI
open PySem PySem.Spec L2 PyProof.Rows
/-! ### names of fields, numbered -/
def nmF (l : List Str) (i : Nat) : Str := match l[i]? with
  | some x => x
  | none => ⟨#[1000000 + i]⟩
def nmOk (l : List Str) : Bool := decide l.Nodup && l.all fun x => match x.cps.toList with
  | [c] => Nat.blt c 1000000
  | _ => true
theorem nmF_far {l : List Str} (h : nmOk l = true) {i n : Nat} (e : l[i]? = some (⟨#[1000000 + n]⟩ : Str)) : False := by
  have z := List.all_eq_true.mp (Bool.and_eq_true_iff.mp h).2 _ (List.mem_of_getElem? e)
  have z2 : Nat.blt (1000000 + n) 1000000 = true := z
  have z3 := Nat.le_of_ble_eq_true z2
  omega
theorem nmF_inj {l : List Str} (h : nmOk l = true) (f g : Nat) (e : nmF l f = nmF l g) : f = g := by
  have nd : l.Nodup := of_decide_eq_true (Bool.and_eq_true_iff.mp h).1
  unfold nmF at e
  cases hf : l[f]? with
  | some x =>
    rw [hf] at e
    cases hg : l[g]? with
    | some y =>
      rw [hg] at e
      have e : x = y := e
      rw [e] at hf
      exact nodup_ix nd hf hg
    | none =>
      rw [hg] at e
      have e : x = ⟨#[1000000 + g]⟩ := e
      rw [e] at hf
      exact (nmF_far h hf).elim
  | none =>
    rw [hf] at e
    cases hg : l[g]? with
    | some y =>
      rw [hg] at e
      have e : (⟨#[1000000 + f]⟩ : Str) = y := e
      rw [← e] at hg
      exact (nmF_far h hg).elim
    | none =>
      rw [hg] at e
      have e1 : (⟨#[1000000 + f]⟩ : Str) = ⟨#[1000000 + g]⟩ := e
      have e2 := congrArg (fun s : Str => s.cps.toList) e1
      have e3 : [1000000 + f] = [1000000 + g] := e2
      injection e3 with e4 _
      omega
/-! ### functions by where they stand -/
def fdOf (K : PySem.W.Frag) (a : Addr) : FuncData := match K.lookup a with
  | some ⟨_, _, .func fd, _⟩ => fd
  | _ => PySem.W.fnOf Str.empty Str.empty ⟨[], [], none, [], [], none, []⟩ [] ⟨.function, [], false, false, []⟩ .none .none .none .none none .none .none
theorem fdOf_eq {K : PySem.W.Frag} {x qual : Str} {params : Arguments} {body : List Stmt} {scope : Scope} {dvs : List V} {kws : List (Str × V)} {a : Addr} {fd : FuncData} (F : L2.FunD K x qual params body scope dvs kws a fd) : fdOf K a = fd := by
  obtain ⟨oc, od, dV, kV, doc, pm, an, cdv, ct, osl, e, lk, _⟩ := F.ex
  unfold fdOf
  rw [lk]
section
variable {fa : List He.Fa} {fn : List He.DefD} {K : PySem.W.Frag}
theorem hd_fn (c : He.SaysD fa fn K) (i : Nat) {d : He.DefD} (h : fn[i]? = some d := by rfl) (h1 : d.dfl = [] := by rfl) (h2 : d.kwd = [] := by rfl) : L2.FunD K d.name d.qual d.params d.body d.scope [] [] (He.fAd K d.at_) (fdOf K (He.fAd K d.at_)) := by
  obtain ⟨fd, F⟩ := c.def_ i h
  rw [fdOf_eq F]
  have e1 : d.dvs K = [] := by unfold He.DefD.dvs; rw [h1] <;> rfl
  have e2 : d.kws K = [] := by unfold He.DefD.kws; rw [h2] <;> rfl
  rw [e1, e2] at F
  exact F
theorem hd_fc (c : He.SaysD fa fn K) (i : Nat) {d : He.DefD} (h : fn[i]? = some d := by rfl) (h1 : d.dfl = [] := by rfl) (h2 : d.kwd = [] := by rfl) : FunC K d.name d.qual d.params d.body d.scope (He.fAd K d.at_) (fdOf K (He.fAd K d.at_)) (He.codeOf K d.at_) := by
  have F := hd_fn c i h h1 h2
  obtain ⟨oc, od, dV, kV, doc, pm, an, cdv, ct, osl, e, lk, hc, r1, r2⟩ := F.ex
  obtain ⟨c0, hc0⟩ := He.codeIn_ref hc
  subst hc0
  have e0 : He.codeOf K d.at_ = c0 := He.codeOf_eq lk (by rw [e] <;> rfl)
  rw [e0]
  exact ⟨⟨oc, od, dV, kV, doc, pm, an, ct, osl, e, lk, hc, r1, r2⟩, F.kp⟩
theorem hd_exc {mg : Str → Option Value} {h : Heap} (X : K.In h) (N : h.Ns mainGlobals mg) {x : Str} (c1 : (He.Fa.glo x).ok K = true) (c2 : (He.Fa.exc x).ok K = true) : ExF K mg x (He.ga K x) := by
  obtain ⟨q1, q2, q3, q4⟩ := He.exc_ok c2
  exact ⟨⟨"ValueError", "ValueError.__new__", "ValueError.__init__", He.veBase, F.excBase_ValueError, q1⟩, He.glo_ok X N c1, q2, q3, q4⟩
end
theorem tab_conv {base : Heap} {mg : Str → Option Value} {c P : Addr} (t : LamX.TabB base mg c P) : GxR.TabB base mg c P := ⟨t.code, t.bm, t.gP⟩
/-! ### the entry -/
theorem drs_ints {G : GT} {F : Fh} {ρ : List Addr} : ∀ ns : List Int, DRs G F ρ (ns.map D.int) (ns.map V.int)
  | [] => drs_nil.mpr rfl
  | n :: ns => drs_cons.mpr ⟨dr_int.mpr rfl, drs_ints ns⟩
/-- a heap that knows nothing but the script -/
theorem rel_start {G : GT} {H : L2.Hp} {a : Addr} {ns : List Int} (hS : SqL G.K H a (ns.map V.int)) (tl : LamX.Tabs G.TL H) (tg : ∀ P ∈ G.TG, ∃ ps : Array Value, H P = some (.tbl ps) ∧ TriplesOk ps.toList) : ∃ F, Rel G [] F [a] [.fix (ns.map D.int)] H := by
  have mk : ∀ F : Fh, (∀ x o, F x = some o → H x = some o) → SqL G.K F a (ns.map V.int) → (∀ x ps, F x ≠ some (.tbl ps)) → Rel G [] F [a] [.fix (ns.map D.int)] H := fun F h1 h2 h3 =>
    { same := h1
      len := rfl
      cell := fun i o e _ => by
        cases i with
        | zero =>
          cases e
          exact ⟨a, rfl, fun z => (by cases z), _, h2, drs_ints ns⟩
        | succ i => cases e
      inj := fun i j b o u _ _ h5 _ z _ => by
        cases i with
        | zero =>
          cases h5
          cases z
        | succ i => cases h5
      lows := fun B hB => by cases hB
      low := fun B hB => by cases hB
      ntab := h3
      tabs := tl
      gens := tg }
  rcases hS with (hS | ⟨ob, hS⟩) | hS
  · refine ⟨fun x => if x = a then some (.lst (ns.map V.int)) else none, mk _ (fun x o e => ?_) (.inl (.inl (if_pos rfl))) fun x ps e => ?_⟩
    · by_cases hx : x = a
      · have e := (if_pos hx).symm.trans e
        rw [hx, ← e]
        exact hS
      · have e := (if_neg hx).symm.trans e
        cases e
    · by_cases hx : x = a
      · have e := (if_pos hx).symm.trans e
        cases e
      · have e := (if_neg hx).symm.trans e
        cases e
  · refine ⟨fun x => if x = a then some (.frz ob (.lst (ns.map V.int))) else none, mk _ (fun x o e => ?_) (.inl (.inr ⟨ob, if_pos rfl⟩)) fun x ps e => ?_⟩
    · by_cases hx : x = a
      · have e := (if_pos hx).symm.trans e
        rw [hx, ← e]
        exact hS
      · have e := (if_neg hx).symm.trans e
        cases e
    · by_cases hx : x = a
      · have e := (if_pos hx).symm.trans e
        cases e
      · have e := (if_neg hx).symm.trans e
        cases e
  · exact ⟨fun _ => none, mk _ (fun x o e => by cases e) (.inr hS) fun x ps e => by cases e⟩
theorem sp_entry {G : GT} {P : Pr} {n f : Nat} {H : L2.Hp} {a : Addr} {ns : List Int} {E : XK} (hS : SqL G.K H a (ns.map V.int)) (tl : LamX.Tabs G.TL H) (tg : ∀ P ∈ G.TG, ∃ ps : Array Value, H P = some (.tbl ps) ∧ TriplesOk ps.toList)
    (ev : ∃ h', callF P n 0 f [.ref 0] [.fix (ns.map D.int)] = .ok (.bl true) h') : spF G P n f [.ref a] H (fun v _ => v = .bl true) E := by
  obtain ⟨F, R⟩ := rel_start hS tl tg
  obtain ⟨h', ev⟩ := ev
  refine ⟨[], 0, F, [a], _, [.ref 0], fun B hB => (by cases hB), R, drs_cons.mpr ⟨?_, drs_nil.mpr rfl⟩, ?_⟩
  · simp only [DR]
    exact ⟨a, rfl, rfl⟩
  · rw [ev]
    exact fun F' ρ' H' v _ _ t => t
end PI

namespace K01
open PI
/-- Dice.__init__: 0=self 1=seed -/
def i_Dice___init__ : Fn := { np := 2, ns := 2, df := [], gc := false, body := [
  .ife (.not (.chn .le .lt (.cst (.int 0)) (.var 1) (.gcn 0 (.int 65536)))) [.rai 1] [],
  .set (.att (.var 0) 1) (.var 1),
  .set (.att (.var 0) 2) (.cst (.int 0))] }
/-- Dice.roll: 0=self 1=many -/
def i_Dice_roll : Fn := { np := 2, ns := 2, df := [], gc := true, body := [
  .ife (.not (.chn .le .le (.cst (.int 1)) (.var 1) (.gcn 0 (.int 65536)))) [.rai 1] [],
  .set (.att (.var 0) 1) (.bin .mod false (.bin .mod false (.bin .add false (.bin .mul false (.att (.var 0) 1) (.gcn 3 (.int 75))) (.gcn 4 (.int 74))) (.cst (.int 65537))) (.gcn 0 (.int 65536))),
  .aug .add (.att (.var 0) 2) (.cst (.int 1)),
  .ret (.bin .fdiv false (.bin .mul false (.att (.var 0) 1) (.var 1)) (.gcn 0 (.int 65536)))] }
/-- Dice.number: 0=self 1=low 2=high -/
def i_Dice_number : Fn := { np := 3, ns := 3, df := [], gc := true, body := [
  .ife (.not (.chn .le .lt (.var 1) (.var 2) (.bin .add false (.var 1) (.gcn 0 (.int 65536))))) [.rai 1] [],
  .ret (.bin .add false (.var 1) (.mth 2 5 1 (.var 0) [(.bin .add false (.bin .sub false (.var 2) (.var 1)) (.cst (.int 1)))]))] }
/-- Dice.is_so: 0=self 1=top 2=bottom -/
def i_Dice_is_so : Fn := { np := 3, ns := 3, df := [], gc := true, body := [
  .ife (.not (.chn .le .le (.cst (.int 0)) (.var 1) (.var 2))) [.rai 1] [],
  .ret (.cmp .lt (.mth 2 5 1 (.var 0) [(.var 2)]) (.var 1))] }
/-- Dice.one_of: 0=self 1=things -/
def i_Dice_one_of : Fn := { np := 2, ns := 2, df := [], gc := true, body := [
  .ife (.cmp .eq (.bi .len false [(.var 1)]) (.cst (.int 0))) [.rai 1] [],
  .ret (.idx (.var 1) (.mth 2 5 1 (.var 0) [(.bi .len false [(.var 1)])]))] }
/-- Dice.row: 0=self 1=most 2=low 3=high 4=turn -/
def i_Dice_row : Fn := { np := 4, ns := 5, df := [], gc := true, body := [
  .ife (.cmp .lt (.var 1) (.cst (.int 0))) [.rai 1] [],
  .ife (.not (.chn .le .lt (.var 2) (.var 3) (.bin .add false (.var 2) (.gcn 0 (.int 65536))))) [.rai 1] [],
  .ret (.cmpr .tup false [4] (.var 4) (.rng [(.mth 2 5 1 (.var 0) [(.bin .add false (.var 1) (.cst (.int 1)))])]) [] (.mth 2 6 2 (.var 0) [(.var 2), (.var 3)]) none)] }
/-- Dice.text: 0=self 1=most 2=signs 3=turn -/
def i_Dice_text : Fn := { np := 3, ns := 4, df := [], gc := true, body := [
  .ife (.or [(.cmp .lt (.var 1) (.cst (.int 0))), (.cmp .eq (.var 2) (.cst (.str [])))]) [.rai 1] [],
  .ret (.bm .join false (.cst (.str [])) [(.cmpr .lst false [3] (.var 3) (.rng [(.mth 2 5 1 (.var 0) [(.bin .add false (.var 1) (.cst (.int 1)))])]) [] (.idx (.var 2) (.mth 2 5 1 (.var 0) [(.bi .len false [(.var 2)])])) none)])] }
/-- Dice.shuffled: 0=self 1=things 2=found 3=place 4=other -/
def i_Dice_shuffled : Fn := { np := 2, ns := 5, df := [], gc := true, body := [
  .set (.var 2) (.bi .list true [(.var 1)]),
  .fr (.var 3) (.rng [(.bin .sub false (.bi .len false [(.var 2)]) (.cst (.int 1))), (.cst (.int 0)), (.bin .sub false (.cst (.int 0)) (.cst (.int 1)))]) [.set (.var 4) (.mth 2 5 1 (.var 0) [(.bin .add false (.var 3) (.cst (.int 1)))]), .par [(.idx (.var 2) (.var 3)), (.idx (.var 2) (.var 4))] [(.idx (.var 2) (.var 4)), (.idx (.var 2) (.var 3))]],
  .ret (.bi .tuple false [(.var 2)])] }
/-- Dice.picked: 0=self 1=things 2=many 3=found 4=want 5=place 6=thing -/
def i_Dice_picked : Fn := { np := 3, ns := 7, df := [], gc := true, body := [
  .ife (.not (.chn .le .le (.cst (.int 0)) (.var 2) (.bi .len false [(.var 1)]))) [.rai 1] [],
  .par [(.var 3), (.var 4)] [(.lst true []), (.var 2)],
  .fr (.tup [(.var 5), (.var 6)]) (.enu (.any (.var 1))) [.ife (.and [(.cmp .gt (.var 4) (.cst (.int 0))), (.cmp .lt (.mth 2 5 1 (.var 0) [(.bin .sub false (.bi .len false [(.var 1)]) (.var 5))]) (.var 4))]) [.exp (.bm .append false (.var 3) [(.var 6)]), .aug .sub (.var 4) (.cst (.int 1))] []],
  .ret (.bi .tuple false [(.var 3)])] }
/-- Dice.weighted: 0=self 1=table 2=left 3=name -/
def i_Dice_weighted : Fn := { np := 2, ns := 4, df := [], gc := true, body := [
  .ife (.or [(.cmp .eq (.bi .len false [(.var 1)]) (.cst (.int 0))), (.cmp .lt (.bi .minv false [(.var 1)]) (.cst (.int 0))), (.cmp .eq (.bi .sumv false [(.var 1)]) (.cst (.int 0)))]) [.rai 1] [],
  .set (.var 2) (.mth 2 5 1 (.var 0) [(.bi .sumv false [(.var 1)])]),
  .fr (.var 3) (.seq (.bi .sorted false [(.var 1)])) [.ife (.cmp .lt (.var 2) (.idx (.var 1) (.var 3))) [.ret (.var 3)] [], .aug .sub (.var 2) (.idx (.var 1) (.var 3))],
  .rai 1] }
/-- drawn: 0=seed 1=shape 2=dice -/
def i_drawn : Fn := { np := 2, ns := 3, df := [], gc := true, body := [
  .set (.var 2) (.new 2 0 [(.var 0)]),
  .exp (.call 11 [(.var 1), (.cst (.int 0))]),
  .ret (.call 12 [(.var 2), (.var 1)])] }
/-- check_shape: 0=shape 1=deep 2=sizes -/
def i_check_shape : Fn := { np := 2, ns := 3, df := [], gc := true, body := [
  .set (.var 2) (.dic true false [(.cst (.str [110, 117, 109, 98, 101, 114])), (.cst (.int 3)), (.cst (.str [114, 111, 119])), (.cst (.int 4)), (.cst (.str [116, 101, 120, 116])), (.cst (.int 3)), (.cst (.str [111, 110, 101])), (.cst (.int 2)), (.cst (.str [112, 97, 105, 114])), (.cst (.int 3)), (.cst (.str [109, 97, 110, 121])), (.cst (.int 3))]),
  .ife (.or [(.cmp .gt (.var 1) (.cst (.int 6))), (.cmp .eq (.bi .len false [(.var 0)]) (.cst (.int 0))), (.cmp .notin (.idx (.var 0) (.cst (.int 0))) (.var 2)), (.cmp .ne (.bi .len false [(.var 0)]) (.idx (.var 2) (.idx (.var 0) (.cst (.int 0)))))]) [.rai 1] [],
  .ife (.cmp .eq (.idx (.var 0) (.cst (.int 0))) (.cst (.str [112, 97, 105, 114]))) [.exp (.call 11 [(.idx (.var 0) (.cst (.int 1))), (.bin .add false (.var 1) (.cst (.int 1)))]), .exp (.call 11 [(.idx (.var 0) (.cst (.int 2))), (.bin .add false (.var 1) (.cst (.int 1)))])] [.ife (.cmp .eq (.idx (.var 0) (.cst (.int 0))) (.cst (.str [109, 97, 110, 121]))) [.exp (.call 11 [(.idx (.var 0) (.cst (.int 2))), (.bin .add false (.var 1) (.cst (.int 1)))])] []]] }
/-- draw_from: 0=dice 1=shape 2=kind 3=first 4=turn -/
def i_draw_from : Fn := { np := 2, ns := 5, df := [], gc := true, body := [
  .set (.var 2) (.idx (.var 1) (.cst (.int 0))),
  .ife (.cmp .eq (.var 2) (.cst (.str [110, 117, 109, 98, 101, 114]))) [.ret (.mth 2 6 2 (.var 0) [(.idx (.var 1) (.cst (.int 1))), (.idx (.var 1) (.cst (.int 2)))])] [],
  .ife (.cmp .eq (.var 2) (.cst (.str [114, 111, 119]))) [.ret (.mth 2 7 5 (.var 0) [(.idx (.var 1) (.cst (.int 1))), (.idx (.var 1) (.cst (.int 2))), (.idx (.var 1) (.cst (.int 3)))])] [],
  .ife (.cmp .eq (.var 2) (.cst (.str [116, 101, 120, 116]))) [.ret (.mth 2 8 6 (.var 0) [(.idx (.var 1) (.cst (.int 1))), (.idx (.var 1) (.cst (.int 2)))])] [],
  .ife (.cmp .eq (.var 2) (.cst (.str [111, 110, 101]))) [.ret (.mth 2 9 4 (.var 0) [(.idx (.var 1) (.cst (.int 1)))])] [],
  .ife (.cmp .eq (.var 2) (.cst (.str [112, 97, 105, 114]))) [.set (.var 3) (.call 12 [(.var 0), (.idx (.var 1) (.cst (.int 1)))]), .ret (.tup [(.var 3), (.call 12 [(.var 0), (.idx (.var 1) (.cst (.int 2)))])])] [],
  .ife (.cmp .lt (.idx (.var 1) (.cst (.int 1))) (.cst (.int 0))) [.rai 1] [],
  .ret (.cmpr .tup false [4] (.var 4) (.rng [(.mth 2 5 1 (.var 0) [(.bin .add false (.idx (.var 1) (.cst (.int 1))) (.cst (.int 1)))])]) [] (.call 12 [(.var 0), (.idx (.var 1) (.cst (.int 2)))]) none)] }
/-- _law_dice: 0=cell -/
def i__law_dice : Fn := { np := 1, ns := 1, df := [], gc := false, body := [
  .ife (.chn .lt .lt (.bin .sub false (.cst (.int 0)) (.cst (.int 10))) (.var 0) (.cst (.int 10))) [.ret (.lst true [(.bi .abs false [(.var 0)]), (.cst (.int 0)), (.cst (.int 2))])] [],
  .ret (.lst true [(.var 0), (.bin .add false (.cst (.int 1)) (.bin .mod false (.bi .int false [(.var 0)]) (.cst (.int 1009)))), (.bi .int false [(.cmp .ge (.var 0) (.bin .pow false (.cst (.int 10)) (.cst (.int 18))))])])] }
/-- _law_roll: 0=dice 1=many 2=found -/
def i__law_roll : Fn := { np := 2, ns := 3, df := [], gc := true, body := [
  .ife (.or [(.cmp .eq (.idx (.var 0) (.cst (.int 2))) (.cst (.int 2))), (.and [(.cmp .eq (.idx (.var 0) (.cst (.int 2))) (.cst (.int 1))), (.cmp .gt (.idx (.var 0) (.cst (.int 0))) (.cst (.int 0)))])]) [.set (.var 2) (.bin .mod false (.bi .int false [(.idx (.var 0) (.cst (.int 0)))]) (.var 1)), .set (.idx (.var 0) (.cst (.int 0))) (.bin .fdiv false (.idx (.var 0) (.cst (.int 0))) (.var 1)), .ret (.var 2)] [],
  .set (.idx (.var 0) (.cst (.int 2))) (.cst (.int 0)),
  .ife (.cmp .gt (.var 1) (.cst (.int 100000000))) [.ret (.bin .mod false (.bi .int false [(.bin .add false (.bin .mul false (.call 14 [(.var 0), (.bin .add false (.bin .fdiv false (.var 1) (.cst (.int 100000000))) (.cst (.int 1)))]) (.cst (.int 100000000))) (.call 14 [(.var 0), (.cst (.int 100000000))]))]) (.var 1))] [],
  .set (.idx (.var 0) (.cst (.int 0))) (.bin .mod false (.bi .int false [(.bin .add false (.bin .add false (.bin .mul false (.idx (.var 0) (.cst (.int 0))) (.cst (.int 48271))) (.bin .mul false (.idx (.var 0) (.cst (.int 1))) (.cst (.int 69621)))) (.cst (.int 11)))]) (.cst (.int 2147483647))),
  .set (.idx (.var 0) (.cst (.int 1))) (.bin .add false (.idx (.var 0) (.cst (.int 1))) (.cst (.int 1))),
  .ret (.bin .mod false (.bi .int false [(.bin .fdiv false (.idx (.var 0) (.cst (.int 0))) (.cst (.int 7)))]) (.var 1))] }
/-- _law_rounds: 0=script 1=most 2=cells 3=cell -/
def i__law_rounds : Fn := { np := 2, ns := 4, df := [], gc := false, body := [
  .set (.var 2) (.slc false (.var 0) none (some (.var 1)) none),
  .ife (.cmp .eq (.var 2) (.lst false [])) [.set (.var 2) (.lst false [(.cst (.int 0))])] [],
  .ret (.cmpr .lst false [3] (.var 3) (.seq (.var 2)) [] (.call 13 [(.var 3)]) none)] }
/-- _law_told: 0=what -/
def i__law_told : Fn := { np := 1, ns := 1, df := [], gc := true, body := [
  .pss] }
/-- _law_next: 0=own 1=many -/
def i__law_next : Fn := { np := 2, ns := 2, df := [], gc := true, body := [
  .set (.idx (.var 0) (.cst (.str [115, 101, 101, 100]))) (.bin .mod false (.bin .mod false (.bin .add false (.bin .mul false (.idx (.var 0) (.cst (.str [115, 101, 101, 100]))) (.cst (.int 75))) (.cst (.int 74))) (.cst (.int 65537))) (.cst (.int 65536))),
  .set (.idx (.var 0) (.cst (.str [114, 111, 108, 108, 115]))) (.bin .add false (.idx (.var 0) (.cst (.str [114, 111, 108, 108, 115]))) (.cst (.int 1))),
  .ret (.bin .fdiv false (.bin .mul false (.idx (.var 0) (.cst (.str [115, 101, 101, 100]))) (.var 1)) (.cst (.int 65536)))] }
/-- _law_shape: 0=dice 1=deep 2=sort 3=low 4=first -/
def i__law_shape : Fn := { np := 2, ns := 5, df := [], gc := true, body := [
  .set (.var 2) (.ife (.cmp .gt (.var 1) (.cst (.int 0))) (.call 14 [(.var 0), (.cst (.int 6))]) (.call 14 [(.var 0), (.cst (.int 4))])),
  .set (.var 3) (.bin .sub false (.call 14 [(.var 0), (.cst (.int 20))]) (.cst (.int 10))),
  .ife (.cmp .eq (.var 2) (.cst (.int 0))) [.ret (.tup [(.cst (.str [110, 117, 109, 98, 101, 114])), (.var 3), (.bin .add false (.var 3) (.call 14 [(.var 0), (.cst (.int 30))]))])] [],
  .ife (.cmp .eq (.var 2) (.cst (.int 1))) [.ret (.tup [(.cst (.str [114, 111, 119])), (.call 14 [(.var 0), (.cst (.int 4))]), (.var 3), (.bin .add false (.var 3) (.call 14 [(.var 0), (.cst (.int 9))]))])] [],
  .ife (.cmp .eq (.var 2) (.cst (.int 2))) [.ret (.tup [(.cst (.str [116, 101, 120, 116])), (.call 14 [(.var 0), (.cst (.int 5))]), (.idx (.lst false [(.cst (.str [97])), (.cst (.str [120, 121, 122])), (.cst (.str [48, 49]))]) (.call 14 [(.var 0), (.cst (.int 3))]))])] [],
  .ife (.cmp .eq (.var 2) (.cst (.int 3))) [.ret (.tup [(.cst (.str [111, 110, 101])), (.idx (.lst false [(.tup [(.cst (.str [112])), (.cst (.str [113])), (.cst (.str [114]))]), (.tup [(.cst (.int 5))]), (.cst (.str [117, 118]))]) (.call 14 [(.var 0), (.cst (.int 3))]))])] [],
  .ife (.cmp .eq (.var 2) (.cst (.int 4))) [.set (.var 4) (.call 18 [(.var 0), (.bin .sub false (.var 1) (.cst (.int 1)))]), .ret (.tup [(.cst (.str [112, 97, 105, 114])), (.var 4), (.call 18 [(.var 0), (.bin .sub false (.var 1) (.cst (.int 1)))])])] [],
  .ret (.tup [(.cst (.str [109, 97, 110, 121])), (.call 14 [(.var 0), (.cst (.int 4))]), (.call 18 [(.var 0), (.bin .sub false (.var 1) (.cst (.int 1)))])])] }
/-- _law_drawn: 0=own 1=shape 2=kind 3=turn 4=first 5=many 6=found 7=one -/
def i__law_drawn : Fn := { np := 2, ns := 8, df := [], gc := true, body := [
  .set (.var 2) (.idx (.var 1) (.cst (.int 0))),
  .ife (.cmp .eq (.var 2) (.cst (.str [110, 117, 109, 98, 101, 114]))) [.ret (.bin .add false (.idx (.var 1) (.cst (.int 1))) (.call 17 [(.var 0), (.bin .add false (.bin .sub false (.idx (.var 1) (.cst (.int 2))) (.idx (.var 1) (.cst (.int 1)))) (.cst (.int 1)))]))] [],
  .ife (.cmp .eq (.var 2) (.cst (.str [111, 110, 101]))) [.ret (.idx (.idx (.var 1) (.cst (.int 1))) (.call 17 [(.var 0), (.bi .len false [(.idx (.var 1) (.cst (.int 1)))])]))] [],
  .ife (.cmp .eq (.var 2) (.cst (.str [112, 97, 105, 114]))) [.set (.var 4) (.call 19 [(.var 0), (.idx (.var 1) (.cst (.int 1)))]), .ret (.tup [(.var 4), (.call 19 [(.var 0), (.idx (.var 1) (.cst (.int 2)))])])] [],
  .par [(.var 5), (.var 6)] [(.call 17 [(.var 0), (.bin .add false (.idx (.var 1) (.cst (.int 1))) (.cst (.int 1)))]), (.lst false [])],
  .fr (.var 3) (.rng [(.var 5)]) [.set (.var 7) (.ife (.cmp .eq (.var 2) (.cst (.str [114, 111, 119]))) (.bin .add false (.idx (.var 1) (.cst (.int 2))) (.call 17 [(.var 0), (.bin .add false (.bin .sub false (.idx (.var 1) (.cst (.int 3))) (.idx (.var 1) (.cst (.int 2)))) (.cst (.int 1)))])) (.ife (.cmp .eq (.var 2) (.cst (.str [116, 101, 120, 116]))) (.idx (.idx (.var 1) (.cst (.int 2))) (.call 17 [(.var 0), (.bi .len false [(.idx (.var 1) (.cst (.int 2)))])])) (.call 19 [(.var 0), (.idx (.var 1) (.cst (.int 2)))]))), .set (.var 6) (.bin .add false (.var 6) (.lst false [(.var 7)]))],
  .ret (.ife (.cmp .eq (.var 2) (.cst (.str [116, 101, 120, 116]))) (.bm .join false (.cst (.str [])) [(.var 6)]) (.bi .tuple false [(.var 6)]))] }
/-- _law_shuffled: 0=own 1=things 2=found 3=place 4=other 5=one -/
def i__law_shuffled : Fn := { np := 2, ns := 6, df := [], gc := true, body := [
  .set (.var 2) (.bi .list true [(.var 1)]),
  .fr (.var 3) (.rng [(.bin .sub false (.bi .len false [(.var 2)]) (.cst (.int 1))), (.cst (.int 0)), (.neg (.cst (.int 1)))]) [.set (.var 4) (.call 17 [(.var 0), (.bin .add false (.var 3) (.cst (.int 1)))]), .set (.var 5) (.idx (.var 2) (.var 3)), .set (.idx (.var 2) (.var 3)) (.idx (.var 2) (.var 4)), .set (.idx (.var 2) (.var 4)) (.var 5)],
  .ret (.bi .tuple false [(.var 2)])] }
/-- _law_picked: 0=own 1=things 2=many 3=found 4=k 5=thing -/
def i__law_picked : Fn := { np := 3, ns := 6, df := [], gc := true, body := [
  .set (.var 3) (.lst false []),
  .fr (.tup [(.var 4), (.var 5)]) (.enu (.any (.var 1))) [.ife (.and [(.cmp .lt (.bi .len false [(.var 3)]) (.var 2)), (.cmp .lt (.call 17 [(.var 0), (.bin .sub false (.bi .len false [(.var 1)]) (.var 4))]) (.bin .sub false (.var 2) (.bi .len false [(.var 3)])))]) [.set (.var 3) (.bin .add false (.var 3) (.lst false [(.var 5)]))] []],
  .ret (.bi .tuple false [(.var 3)])] }
/-- _law_step: 0=dice 1=trial 2=own 3=high 4=things 5=table 6=left 7=sort 8=low 9=many 10=bottom 11=top 12=name -/
def i__law_step : Fn := { np := 3, ns := 13, df := [], gc := true, body := [
  .par [(.var 7), (.var 8)] [(.call 14 [(.var 0), (.cst (.int 8))]), (.bin .sub false (.call 14 [(.var 0), (.cst (.int 40))]) (.cst (.int 20)))],
  .set (.var 3) (.bin .add false (.var 8) (.call 14 [(.var 0), (.cst (.int 60))])),
  .set (.var 4) (.slc false (.cst (.str [97, 98, 99, 100, 101, 102, 103, 104])) none (some (.bin .add false (.cst (.int 1)) (.call 14 [(.var 0), (.cst (.int 8))]))) none),
  .ife (.cmp .eq (.var 7) (.cst (.int 0))) [.set (.var 9) (.idx (.lst false [(.bin .add false (.cst (.int 1)) (.call 14 [(.var 0), (.cst (.int 100))])), (.cst (.int 65536))]) (.bin .fdiv false (.call 14 [(.var 0), (.cst (.int 7))]) (.cst (.int 6)))), .ret (.cmp .eq (.mth 2 5 1 (.var 1) [(.var 9)]) (.call 17 [(.var 2), (.var 9)]))] [],
  .ife (.cmp .eq (.var 7) (.cst (.int 1))) [.ret (.cmp .eq (.mth 2 6 2 (.var 1) [(.var 8), (.var 3)]) (.bin .add false (.var 8) (.call 17 [(.var 2), (.bin .add false (.bin .sub false (.var 3) (.var 8)) (.cst (.int 1)))])))] [],
  .ife (.cmp .eq (.var 7) (.cst (.int 2))) [.set (.var 10) (.bin .add false (.cst (.int 1)) (.call 14 [(.var 0), (.cst (.int 9))])), .set (.var 11) (.call 14 [(.var 0), (.bin .add false (.var 10) (.cst (.int 1)))]), .ret (.cmp .eq (.mth 2 10 3 (.var 1) [(.var 11), (.var 10)]) (.cmp .lt (.call 17 [(.var 2), (.var 10)]) (.var 11)))] [],
  .ife (.cmp .eq (.var 7) (.cst (.int 3))) [.ret (.cmp .eq (.mth 2 7 5 (.var 1) [(.bi .len false [(.var 4)]), (.var 8), (.var 3)]) (.call 19 [(.var 2), (.tup [(.cst (.str [114, 111, 119])), (.bi .len false [(.var 4)]), (.var 8), (.var 3)])]))] [],
  .ife (.cmp .eq (.var 7) (.cst (.int 4))) [.ret (.cmp .eq (.mth 2 8 6 (.var 1) [(.bi .len false [(.var 4)]), (.var 4)]) (.call 19 [(.var 2), (.tup [(.cst (.str [116, 101, 120, 116])), (.bi .len false [(.var 4)]), (.var 4)])]))] [],
  .ife (.cmp .eq (.var 7) (.cst (.int 5))) [.ret (.ife (.cmp .eq (.call 14 [(.var 0), (.cst (.int 2))]) (.cst (.int 0))) (.cmp .eq (.mth 2 11 7 (.var 1) [(.var 4)]) (.call 20 [(.var 2), (.var 4)])) (.cmp .eq (.mth 2 9 4 (.var 1) [(.var 4)]) (.idx (.var 4) (.call 17 [(.var 2), (.bi .len false [(.var 4)])]))))] [],
  .ife (.cmp .eq (.var 7) (.cst (.int 6))) [.set (.var 9) (.call 14 [(.var 0), (.bin .add false (.bi .len false [(.var 4)]) (.cst (.int 1)))]), .ret (.cmp .eq (.mth 2 12 8 (.var 1) [(.var 4), (.var 9)]) (.call 21 [(.var 2), (.var 4), (.var 9)]))] [],
  .set (.var 5) (.bi .dict true [(.bin .add false (.cmpr .lst false [12] (.var 12) (.str (.cst (.str [98, 97]))) [] (.tup [(.var 12), (.call 14 [(.var 0), (.cst (.int 5))])]) none) (.lst false [(.tup [(.cst (.str [99])), (.bin .add false (.cst (.int 1)) (.call 14 [(.var 0), (.cst (.int 4))]))])]))]),
  .set (.var 6) (.call 17 [(.var 2), (.bi .sumv false [(.var 5)])]),
  .ret (.cmp .eq (.mth 2 13 9 (.var 1) [(.var 5)]) (.ife (.cmp .lt (.var 6) (.idx (.var 5) (.cst (.str [97])))) (.cst (.str [97])) (.ife (.cmp .lt (.var 6) (.bin .add false (.idx (.var 5) (.cst (.str [97]))) (.idx (.var 5) (.cst (.str [98]))))) (.cst (.str [98])) (.cst (.str [99])))))] }
/-- _law_plain: 0=k 1=bad 2=trial 3=deep 4=f -/
def i__law_plain : Fn := { np := 0, ns := 5, df := [], gc := true, body := [
  .par [(.var 2), (.var 3)] [(.new 2 0 [(.cst (.int 5))]), (.tup [(.cst (.str [110, 117, 109, 98, 101, 114])), (.cst (.int 0)), (.cst (.int 1))])],
  .fr (.var 0) (.rng [(.cst (.int 7))]) [.set (.var 3) (.tup [(.cst (.str [109, 97, 110, 121])), (.cst (.int 1)), (.var 3)])],
  .badif 1 4 16 [4] [(.new 2 0 [(.neg (.cst (.int 1)))]), (.new 2 0 [(.cst (.int 65536))]), (.mth 2 5 1 (.var 2) [(.cst (.int 0))]), (.mth 2 5 1 (.var 2) [(.cst (.int 65537))]), (.mth 2 6 2 (.var 2) [(.cst (.int 2)), (.cst (.int 1))]), (.mth 2 6 2 (.var 2) [(.cst (.int 0)), (.cst (.int 65536))]), (.mth 2 10 3 (.var 2) [(.cst (.int 3)), (.cst (.int 2))]), (.mth 2 10 3 (.var 2) [(.neg (.cst (.int 1))), (.cst (.int 2))]), (.mth 2 10 3 (.var 2) [(.cst (.int 0)), (.cst (.int 0))]), (.mth 2 9 4 (.var 2) [(.tup [])]), (.mth 2 7 5 (.var 2) [(.neg (.cst (.int 1))), (.cst (.int 0)), (.cst (.int 1))]), (.mth 2 7 5 (.var 2) [(.cst (.int 0)), (.cst (.int 1)), (.cst (.int 0))]), (.mth 2 8 6 (.var 2) [(.neg (.cst (.int 1))), (.cst (.str [97]))]), (.mth 2 8 6 (.var 2) [(.cst (.int 0)), (.cst (.str []))]), (.mth 2 12 8 (.var 2) [(.cst (.str [97, 98])), (.cst (.int 3))]), (.mth 2 12 8 (.var 2) [(.cst (.str [97, 98])), (.neg (.cst (.int 1)))]), (.mth 2 13 9 (.var 2) [(.dic true false [])]), (.mth 2 13 9 (.var 2) [(.dic true false [(.cst (.str [97])), (.cst (.int 0))])]), (.mth 2 13 9 (.var 2) [(.dic true false [(.cst (.str [97])), (.cst (.int 2)), (.cst (.str [98])), (.neg (.cst (.int 1)))])]), (.call 10 [(.neg (.cst (.int 1))), (.tup [(.cst (.str [110, 117, 109, 98, 101, 114])), (.cst (.int 0)), (.cst (.int 1))])]), (.call 10 [(.cst (.int 1)), (.tup [])]), (.call 10 [(.cst (.int 1)), (.tup [(.cst (.str [111, 100, 100])), (.cst (.int 1))])]), (.call 10 [(.cst (.int 1)), (.tup [(.cst (.str [110, 117, 109, 98, 101, 114])), (.cst (.int 0))])]), (.call 10 [(.cst (.int 1)), (.tup [(.cst (.str [110, 117, 109, 98, 101, 114])), (.cst (.int 1)), (.cst (.int 0))])]), (.call 10 [(.cst (.int 1)), (.tup [(.cst (.str [109, 97, 110, 121])), (.neg (.cst (.int 1))), (.tup [(.cst (.str [110, 117, 109, 98, 101, 114])), (.cst (.int 0)), (.cst (.int 1))])])]), (.call 11 [(.var 3), (.cst (.int 0))]), (.call 10 [(.cst (.int 1)), (.tup [(.cst (.str [112, 97, 105, 114])), (.tup [(.cst (.str [110, 117, 109, 98, 101, 114])), (.cst (.int 0)), (.cst (.int 1))]), (.tup [(.cst (.str [111, 100, 100]))])])])] [(.cmp .ne (.tup [(.att (.var 2) 1), (.att (.var 2) 2)]) (.tup [(.cst (.int 5)), (.cst (.int 0))]))] [.ret (.cst (.bl false))],
  .ife (.or [(.cmp .ne (.tup [(.gcn 0 (.int 65536)), (.gcn 3 (.int 75)), (.gcn 4 (.int 74))]) (.tup [(.cst (.int 65536)), (.cst (.int 75)), (.cst (.int 74))])), (.cmp .ne (.cmpr .lst false [0] (.var 0) (.rng [(.cst (.int 6))]) [] (.mth 2 5 1 (.var 2) [(.cst (.int 6))]) none) (.lst false [(.cst (.int 0)), (.cst (.int 3)), (.cst (.int 3)), (.cst (.int 4)), (.cst (.int 3)), (.cst (.int 0))]))]) [.ret (.cst (.bl false))] [],
  .ife (.not (.and [(.cmp .eq (.att (.var 2) 1) (.cst (.int 8922))), (.cmp .eq (.mth 2 6 2 (.var 2) [(.neg (.cst (.int 3))), (.cst (.int 3))]) (.neg (.cst (.int 2)))), (.not (.mth 2 10 3 (.var 2) [(.cst (.int 1)), (.cst (.int 2))]))])) [.ret (.cst (.bl false))] [],
  .ife (.not (.and [(.cmp .eq (.mth 2 9 4 (.var 2) [(.cst (.str [97, 98, 99]))]) (.cst (.str [97]))), (.cmp .eq (.mth 2 7 5 (.var 2) [(.cst (.int 4)), (.cst (.int 0)), (.cst (.int 9))]) (.tup [(.cst (.int 9)), (.cst (.int 6))])), (.cmp .eq (.mth 2 8 6 (.var 2) [(.cst (.int 5)), (.cst (.str [97, 98]))]) (.cst (.str [97, 98, 97])))])) [.ret (.cst (.bl false))] [],
  .ife (.not (.and [(.cmp .eq (.mth 2 11 7 (.var 2) [(.tup [(.cst (.int 1)), (.cst (.int 2)), (.cst (.int 3)), (.cst (.int 4))])]) (.tup [(.cst (.int 2)), (.cst (.int 1)), (.cst (.int 4)), (.cst (.int 3))])), (.cmp .eq (.mth 2 12 8 (.var 2) [(.cst (.str [97, 98, 99, 100, 101, 102])), (.cst (.int 3))]) (.tup [(.cst (.str [97])), (.cst (.str [100])), (.cst (.str [101]))]))])) [.ret (.cst (.bl false))] [],
  .ife (.cmp .ne (.mth 2 13 9 (.var 2) [(.dic true false [(.cst (.str [97])), (.cst (.int 1)), (.cst (.str [98])), (.cst (.int 3))])]) (.cst (.str [98]))) [.ret (.cst (.bl false))] [],
  .ife (.cmp .ne (.call 10 [(.cst (.int 7)), (.tup [(.cst (.str [112, 97, 105, 114])), (.tup [(.cst (.str [110, 117, 109, 98, 101, 114])), (.cst (.int 0)), (.cst (.int 9))]), (.tup [(.cst (.str [109, 97, 110, 121])), (.cst (.int 3)), (.tup [(.cst (.str [116, 101, 120, 116])), (.cst (.int 2)), (.cst (.str [120, 121]))])])])]) (.tup [(.cst (.int 0)), (.tup [(.cst (.str [120])), (.cst (.str []))])])) [.ret (.cst (.bl false))] [],
  .ret (.and [(.cmp .eq (.mth 2 11 7 (.new 2 0 [(.cst (.int 0))]) [(.tup [])]) (.tup [])), (.cmp .eq (.mth 2 12 8 (.new 2 0 [(.cst (.int 0))]) [(.tup []), (.cst (.int 0))]) (.tup []))])] }
/-- law: 0=script 1=dice 2=seed 3=step 4=shape 5=due 6=trial 7=own -/
def i_law : Fn := { np := 1, ns := 8, df := [], gc := true, body := [
  .fr (.var 1) (.seq (.call 15 [(.var 0), (.cst (.int 1))])) [.set (.var 2) (.call 14 [(.var 1), (.cst (.int 65536))]), .par [(.var 6), (.var 7)] [(.new 2 0 [(.var 2)]), (.dic true false [(.cst (.str [115, 101, 101, 100])), (.var 2), (.cst (.str [114, 111, 108, 108, 115])), (.cst (.int 0))])], .fr (.var 3) (.rng [(.call 14 [(.var 1), (.cst (.int 21))])]) [.ife (.not (.call 22 [(.var 1), (.var 6), (.var 7)])) [.ret (.cst (.bl false))] [], .ife (.cmp .ne (.tup [(.att (.var 6) 1), (.att (.var 6) 2)]) (.tup [(.idx (.var 7) (.cst (.str [115, 101, 101, 100]))), (.idx (.var 7) (.cst (.str [114, 111, 108, 108, 115])))])) [.ret (.cst (.bl false))] []], .set (.var 4) (.call 18 [(.var 1), (.cst (.int 3))]), .set (.var 5) (.call 19 [(.dic true false [(.cst (.str [115, 101, 101, 100])), (.var 2), (.cst (.str [114, 111, 108, 108, 115])), (.cst (.int 0))]), (.var 4)]), .ife (.or [(.cmp .ne (.call 10 [(.var 2), (.var 4)]) (.var 5)), (.cmp .isnot (.call 11 [(.var 4), (.cst (.int 0))]) (.cst .non)), (.cmp .ne (.call 12 [(.new 2 0 [(.var 2)]), (.var 4)]) (.var 5))]) [.ret (.cst (.bl false))] []],
  .ret (.call 23 [])] }
def prog : Pr := { fns := [i_Dice___init__, i_Dice_roll, i_Dice_number, i_Dice_is_so, i_Dice_one_of, i_Dice_row, i_Dice_text, i_Dice_shuffled, i_Dice_picked, i_Dice_weighted, i_drawn, i_check_shape, i_draw_from, i__law_dice, i__law_roll, i__law_rounds, i__law_told, i__law_next, i__law_shape, i__law_drawn, i__law_shuffled, i__law_picked, i__law_step, i__law_plain, i_law], told := [(16, [1], (.str [68, 114, 97, 119, 69, 114, 114, 111, 114]))], lams := [] }
/- names: 0=MOST_SEED 1=seed 2=rolls 3=TIMES 4=MORE 5=roll 6=number 7=row 8=text 9=one_of 10=is_so 11=shuffled 12=picked 13=weighted -/
/- classes: 0=TrialError 1=DrawError 2=Dice -/
end K01

set_option linter.all false
set_option maxRecDepth 100000
set_option maxHeartbeats 4000001
namespace K01
open PySem PySem.Spec L2 PyProof.Rows PI
def top (i : Nat) : Stmt := PySem.Challenge.pw_teststack_k01_draws_by_a_seed.main.body.getD i (.Pass ⟨0, 0, 0, 0⟩)
abbrev st_0 : Stmt := clsSt 0 (top 7)
abbrev st_1 : Stmt := clsSt 1 (top 7)
abbrev st_2 : Stmt := clsSt 2 (top 7)
abbrev st_3 : Stmt := clsSt 3 (top 7)
abbrev st_4 : Stmt := clsSt 4 (top 7)
abbrev st_5 : Stmt := clsSt 5 (top 7)
abbrev st_6 : Stmt := clsSt 6 (top 7)
abbrev st_7 : Stmt := clsSt 7 (top 7)
abbrev st_8 : Stmt := clsSt 8 (top 7)
abbrev st_9 : Stmt := clsSt 9 (top 7)
abbrev st_10 : Stmt := top 8
abbrev st_11 : Stmt := top 9
abbrev st_12 : Stmt := top 10
abbrev st_13 : Stmt := top 12
abbrev st_14 : Stmt := top 13
abbrev st_15 : Stmt := top 14
abbrev st_16 : Stmt := top 15
abbrev st_17 : Stmt := top 16
abbrev st_18 : Stmt := top 17
abbrev st_19 : Stmt := top 18
abbrev st_20 : Stmt := top 19
abbrev st_21 : Stmt := top 20
abbrev st_22 : Stmt := top 21
abbrev st_23 : Stmt := top 22
abbrev st_24 : Stmt := top 23
/-- what the top has written -/
structure Fs (G : GT) (mg : Str → Option Value) (base : Heap) (fa : Nat → Addr) (fd : Nat → FuncData) (co tb : Nat → Addr) : Prop where
  c_0 : ∃ t : Tok, mg "MOST_SEED" = some (.int 65536 t)
  c_3 : ∃ t : Tok, mg "TIMES" = some (.int 75 t)
  c_4 : ∃ t : Tok, mg "MORE" = some (.int 74 t)
  a_1 : AttOk G 1
  a_2 : AttOk G 2
  n_1 : G.nm 1 = "seed"
  n_2 : G.nm 2 = "rolls"
  n_5 : G.nm 5 = "roll"
  n_6 : G.nm 6 = "number"
  n_7 : G.nm 7 = "row"
  n_8 : G.nm 8 = "text"
  n_9 : G.nm 9 = "one_of"
  n_10 : G.nm 10 = "is_so"
  n_11 : G.nm 11 = "shuffled"
  n_12 : G.nm 12 = "picked"
  n_13 : G.nm 13 = "weighted"
  F_0 : FunD G.K "__init__" "Dice.__init__" (L2.defArgs st_0) (L2.defBody st_0) (L2.defScope st_0) [] [] (fa 0) (fd 0)
  m_0 : Mk G.K (G.cls 2) (fa 0)
  F_1 : FunD G.K "roll" "Dice.roll" (L2.defArgs st_1) (L2.defBody st_1) (L2.defScope st_1) [] [] (fa 1) (fd 1)
  m_1 : Meth G.K (G.cls 2) "roll" (fa 1)
  F_2 : FunD G.K "number" "Dice.number" (L2.defArgs st_2) (L2.defBody st_2) (L2.defScope st_2) [] [] (fa 2) (fd 2)
  m_2 : Meth G.K (G.cls 2) "number" (fa 2)
  F_3 : FunD G.K "is_so" "Dice.is_so" (L2.defArgs st_3) (L2.defBody st_3) (L2.defScope st_3) [] [] (fa 3) (fd 3)
  m_3 : Meth G.K (G.cls 2) "is_so" (fa 3)
  F_4 : FunD G.K "one_of" "Dice.one_of" (L2.defArgs st_4) (L2.defBody st_4) (L2.defScope st_4) [] [] (fa 4) (fd 4)
  m_4 : Meth G.K (G.cls 2) "one_of" (fa 4)
  F_5 : FunC G.K "row" "Dice.row" (L2.defArgs st_5) (L2.defBody st_5) (L2.defScope st_5) (fa 5) (fd 5) (co 5)
  C_5 : CodeB G mg base (co 5) (tb 5)
  m_5 : Meth G.K (G.cls 2) "row" (fa 5)
  F_6 : FunD G.K "text" "Dice.text" (L2.defArgs st_6) (L2.defBody st_6) (L2.defScope st_6) [] [] (fa 6) (fd 6)
  m_6 : Meth G.K (G.cls 2) "text" (fa 6)
  F_7 : FunD G.K "shuffled" "Dice.shuffled" (L2.defArgs st_7) (L2.defBody st_7) (L2.defScope st_7) [] [] (fa 7) (fd 7)
  m_7 : Meth G.K (G.cls 2) "shuffled" (fa 7)
  F_8 : FunD G.K "picked" "Dice.picked" (L2.defArgs st_8) (L2.defBody st_8) (L2.defScope st_8) [] [] (fa 8) (fd 8)
  m_8 : Meth G.K (G.cls 2) "picked" (fa 8)
  F_9 : FunD G.K "weighted" "Dice.weighted" (L2.defArgs st_9) (L2.defBody st_9) (L2.defScope st_9) [] [] (fa 9) (fd 9)
  m_9 : Meth G.K (G.cls 2) "weighted" (fa 9)
  F_10 : FunD G.K "drawn" "drawn" (L2.defArgs st_10) (L2.defBody st_10) (L2.defScope st_10) [] [] (fa 10) (fd 10)
  g_10 : mg "drawn" = some (.ref (fa 10))
  F_11 : FunD G.K "check_shape" "check_shape" (L2.defArgs st_11) (L2.defBody st_11) (L2.defScope st_11) [] [] (fa 11) (fd 11)
  g_11 : mg "check_shape" = some (.ref (fa 11))
  F_12 : FunC G.K "draw_from" "draw_from" (L2.defArgs st_12) (L2.defBody st_12) (L2.defScope st_12) (fa 12) (fd 12) (co 12)
  C_12 : CodeB G mg base (co 12) (tb 12)
  g_12 : mg "draw_from" = some (.ref (fa 12))
  F_13 : FunD G.K "_law_dice" "_law_dice" (L2.defArgs st_13) (L2.defBody st_13) (L2.defScope st_13) [] [] (fa 13) (fd 13)
  g_13 : mg "_law_dice" = some (.ref (fa 13))
  F_14 : FunD G.K "_law_roll" "_law_roll" (L2.defArgs st_14) (L2.defBody st_14) (L2.defScope st_14) [] [] (fa 14) (fd 14)
  g_14 : mg "_law_roll" = some (.ref (fa 14))
  F_15 : FunD G.K "_law_rounds" "_law_rounds" (L2.defArgs st_15) (L2.defBody st_15) (L2.defScope st_15) [] [] (fa 15) (fd 15)
  g_15 : mg "_law_rounds" = some (.ref (fa 15))
  F_16 : FunD G.K "_law_told" "_law_told" (L2.defArgs st_16) (L2.defBody st_16) (L2.defScope st_16) [] [] (fa 16) (fd 16)
  E_16 : ∀ j, ([1] : List Nat).contains j = true → PySem.W.exmOne G.K (.ref (G.xcl j)) (.ref (G.xcl 1)) = some true
  g_16 : mg "_law_told" = some (.ref (fa 16))
  F_17 : FunD G.K "_law_next" "_law_next" (L2.defArgs st_17) (L2.defBody st_17) (L2.defScope st_17) [] [] (fa 17) (fd 17)
  g_17 : mg "_law_next" = some (.ref (fa 17))
  F_18 : FunD G.K "_law_shape" "_law_shape" (L2.defArgs st_18) (L2.defBody st_18) (L2.defScope st_18) [] [] (fa 18) (fd 18)
  g_18 : mg "_law_shape" = some (.ref (fa 18))
  F_19 : FunD G.K "_law_drawn" "_law_drawn" (L2.defArgs st_19) (L2.defBody st_19) (L2.defScope st_19) [] [] (fa 19) (fd 19)
  g_19 : mg "_law_drawn" = some (.ref (fa 19))
  F_20 : FunD G.K "_law_shuffled" "_law_shuffled" (L2.defArgs st_20) (L2.defBody st_20) (L2.defScope st_20) [] [] (fa 20) (fd 20)
  g_20 : mg "_law_shuffled" = some (.ref (fa 20))
  F_21 : FunD G.K "_law_picked" "_law_picked" (L2.defArgs st_21) (L2.defBody st_21) (L2.defScope st_21) [] [] (fa 21) (fd 21)
  g_21 : mg "_law_picked" = some (.ref (fa 21))
  F_22 : FunD G.K "_law_step" "_law_step" (L2.defArgs st_22) (L2.defBody st_22) (L2.defScope st_22) [] [] (fa 22) (fd 22)
  g_22 : mg "_law_step" = some (.ref (fa 22))
  F_23 : FunC G.K "_law_plain" "_law_plain" (L2.defArgs st_23) (L2.defBody st_23) (L2.defScope st_23) (fa 23) (fd 23) (co 23)
  L_23 : LamB G mg base (co 23) (tb 23) (("_law_plain" : Str) ++ ".<locals>." ++ "<lambda>")
  g_23 : mg "_law_plain" = some (.ref (fa 23))
  F_24 : FunD G.K "law" "law" (L2.defArgs st_24) (L2.defBody st_24) (L2.defScope st_24) [] [] (fa 24) (fd 24)
  g_24 : mg "law" = some (.ref (fa 24))
  cl_2 : Cls G.K (G.cls 2)
  k_2 : mg "Dice" = some (.ref (G.cls 2))
  x_1 : ExF G.K mg "DrawError" (G.xcl 1)
  b_abs : mg "abs" = none
  b_dict : mg "dict" = none
  b_enumerate : mg "enumerate" = none
  b_int : mg "int" = none
  b_len : mg "len" = none
  b_list : mg "list" = none
  b_min : mg "min" = none
  b_range : mg "range" = none
  b_sorted : mg "sorted" = none
  b_sum : mg "sum" = none
  b_tuple : mg "tuple" = none
/-- each def keeps its promise, n levels deep -/
structure Al (P : Program) (w : World) (G : GT) (mg : Str → Option Value) (base : Heap) (fa : Nat → Addr) (fd : Nat → FuncData) (n : Nat) : Prop where
  f_0 : FnOk P w G.K mg base (L2.CX P w) (8 * n) (fa 0) (fd 0) ["self", "seed"] (spF G prog n 0)
  f_1 : FnOk P w G.K mg base (L2.CX P w) (8 * n) (fa 1) (fd 1) ["self", "many"] (spF G prog n 1)
  f_2 : FnOk P w G.K mg base (L2.CX P w) (8 * n) (fa 2) (fd 2) ["self", "low", "high"] (spF G prog n 2)
  f_3 : FnOk P w G.K mg base (L2.CX P w) (8 * n) (fa 3) (fd 3) ["self", "top", "bottom"] (spF G prog n 3)
  f_4 : FnOk P w G.K mg base (L2.CX P w) (8 * n) (fa 4) (fd 4) ["self", "things"] (spF G prog n 4)
  f_5 : FnOk P w G.K mg base (L2.CX P w) (8 * n) (fa 5) (fd 5) ["self", "most", "low", "high"] (spF G prog n 5)
  f_6 : FnOk P w G.K mg base (L2.CX P w) (8 * n) (fa 6) (fd 6) ["self", "most", "signs"] (spF G prog n 6)
  f_7 : FnOk P w G.K mg base (L2.CX P w) (8 * n) (fa 7) (fd 7) ["self", "things"] (spF G prog n 7)
  f_8 : FnOk P w G.K mg base (L2.CX P w) (8 * n) (fa 8) (fd 8) ["self", "things", "many"] (spF G prog n 8)
  f_9 : FnOk P w G.K mg base (L2.CX P w) (8 * n) (fa 9) (fd 9) ["self", "table"] (spF G prog n 9)
  f_10 : FnOk P w G.K mg base (L2.CX P w) (8 * n) (fa 10) (fd 10) ["seed", "shape"] (spF G prog n 10)
  f_11 : FnOk P w G.K mg base (L2.CX P w) (8 * n) (fa 11) (fd 11) ["shape", "deep"] (spF G prog n 11)
  f_12 : FnOk P w G.K mg base (L2.CX P w) (8 * n) (fa 12) (fd 12) ["dice", "shape"] (spF G prog n 12)
  f_13 : FnOk P w G.K mg base (L2.CX P w) (8 * n) (fa 13) (fd 13) ["cell"] (spF G prog n 13)
  f_14 : FnOk P w G.K mg base (L2.CX P w) (8 * n) (fa 14) (fd 14) ["dice", "many"] (spF G prog n 14)
  f_15 : FnOk P w G.K mg base (L2.CX P w) (8 * n) (fa 15) (fd 15) ["script", "most"] (spF G prog n 15)
  f_17 : FnOk P w G.K mg base (L2.CX P w) (8 * n) (fa 17) (fd 17) ["own", "many"] (spF G prog n 17)
  f_18 : FnOk P w G.K mg base (L2.CX P w) (8 * n) (fa 18) (fd 18) ["dice", "deep"] (spF G prog n 18)
  f_19 : FnOk P w G.K mg base (L2.CX P w) (8 * n) (fa 19) (fd 19) ["own", "shape"] (spF G prog n 19)
  f_20 : FnOk P w G.K mg base (L2.CX P w) (8 * n) (fa 20) (fd 20) ["own", "things"] (spF G prog n 20)
  f_21 : FnOk P w G.K mg base (L2.CX P w) (8 * n) (fa 21) (fd 21) ["own", "things", "many"] (spF G prog n 21)
  f_22 : FnOk P w G.K mg base (L2.CX P w) (8 * n) (fa 22) (fd 22) ["dice", "trial", "own"] (spF G prog n 22)
  f_23 : FnOk P w G.K mg base (L2.CX P w) (8 * n) (fa 23) (fd 23) [] (spF G prog n 23)
  f_24 : FnOk P w G.K mg base (L2.CX P w) (8 * n) (fa 24) (fd 24) ["script"] (spF G prog n 24)
section
variable {P : Program} {w : World} {G : GT} {mg : Str → Option Value} {base : Heap} {fa : Nat → Addr} {fd : Nat → FuncData} {co tb : Nat → Addr} {n : Nat}
theorem B_0 (T : Fs G mg base fa fd co tb) : Binds G.K (fd 0) ["self", "seed"] [] := T.F_0.bindsN fun _ _ _ _ _ _ us hl => match us, hl with | [_, _], _ => rfl
theorem B_1 (T : Fs G mg base fa fd co tb) : Binds G.K (fd 1) ["self", "many"] [] := T.F_1.bindsN fun _ _ _ _ _ _ us hl => match us, hl with | [_, _], _ => rfl
theorem B_2 (T : Fs G mg base fa fd co tb) : Binds G.K (fd 2) ["self", "low", "high"] [] := T.F_2.bindsN fun _ _ _ _ _ _ us hl => match us, hl with | [_, _, _], _ => rfl
theorem B_3 (T : Fs G mg base fa fd co tb) : Binds G.K (fd 3) ["self", "top", "bottom"] [] := T.F_3.bindsN fun _ _ _ _ _ _ us hl => match us, hl with | [_, _, _], _ => rfl
theorem B_4 (T : Fs G mg base fa fd co tb) : Binds G.K (fd 4) ["self", "things"] [] := T.F_4.bindsN fun _ _ _ _ _ _ us hl => match us, hl with | [_, _], _ => rfl
theorem B_5 (T : Fs G mg base fa fd co tb) : Binds G.K (fd 5) ["self", "most", "low", "high"] [] := T.F_5.toD.bindsN fun _ _ _ _ _ _ us hl => match us, hl with | [_, _, _, _], _ => rfl
theorem B_6 (T : Fs G mg base fa fd co tb) : Binds G.K (fd 6) ["self", "most", "signs"] [] := T.F_6.bindsN fun _ _ _ _ _ _ us hl => match us, hl with | [_, _, _], _ => rfl
theorem B_7 (T : Fs G mg base fa fd co tb) : Binds G.K (fd 7) ["self", "things"] [] := T.F_7.bindsN fun _ _ _ _ _ _ us hl => match us, hl with | [_, _], _ => rfl
theorem B_8 (T : Fs G mg base fa fd co tb) : Binds G.K (fd 8) ["self", "things", "many"] [] := T.F_8.bindsN fun _ _ _ _ _ _ us hl => match us, hl with | [_, _, _], _ => rfl
theorem B_9 (T : Fs G mg base fa fd co tb) : Binds G.K (fd 9) ["self", "table"] [] := T.F_9.bindsN fun _ _ _ _ _ _ us hl => match us, hl with | [_, _], _ => rfl
theorem B_10 (T : Fs G mg base fa fd co tb) : Binds G.K (fd 10) ["seed", "shape"] [] := T.F_10.bindsN fun _ _ _ _ _ _ us hl => match us, hl with | [_, _], _ => rfl
theorem B_11 (T : Fs G mg base fa fd co tb) : Binds G.K (fd 11) ["shape", "deep"] [] := T.F_11.bindsN fun _ _ _ _ _ _ us hl => match us, hl with | [_, _], _ => rfl
theorem B_12 (T : Fs G mg base fa fd co tb) : Binds G.K (fd 12) ["dice", "shape"] [] := T.F_12.toD.bindsN fun _ _ _ _ _ _ us hl => match us, hl with | [_, _], _ => rfl
theorem B_13 (T : Fs G mg base fa fd co tb) : Binds G.K (fd 13) ["cell"] [] := T.F_13.bindsN fun _ _ _ _ _ _ us hl => match us, hl with | [_], _ => rfl
theorem B_14 (T : Fs G mg base fa fd co tb) : Binds G.K (fd 14) ["dice", "many"] [] := T.F_14.bindsN fun _ _ _ _ _ _ us hl => match us, hl with | [_, _], _ => rfl
theorem B_15 (T : Fs G mg base fa fd co tb) : Binds G.K (fd 15) ["script", "most"] [] := T.F_15.bindsN fun _ _ _ _ _ _ us hl => match us, hl with | [_, _], _ => rfl
theorem B_16 (T : Fs G mg base fa fd co tb) : Binds G.K (fd 16) ["what"] [] := T.F_16.bindsN fun _ _ _ _ _ _ us hl => match us, hl with | [_], _ => rfl
theorem B_17 (T : Fs G mg base fa fd co tb) : Binds G.K (fd 17) ["own", "many"] [] := T.F_17.bindsN fun _ _ _ _ _ _ us hl => match us, hl with | [_, _], _ => rfl
theorem B_18 (T : Fs G mg base fa fd co tb) : Binds G.K (fd 18) ["dice", "deep"] [] := T.F_18.bindsN fun _ _ _ _ _ _ us hl => match us, hl with | [_, _], _ => rfl
theorem B_19 (T : Fs G mg base fa fd co tb) : Binds G.K (fd 19) ["own", "shape"] [] := T.F_19.bindsN fun _ _ _ _ _ _ us hl => match us, hl with | [_, _], _ => rfl
theorem B_20 (T : Fs G mg base fa fd co tb) : Binds G.K (fd 20) ["own", "things"] [] := T.F_20.bindsN fun _ _ _ _ _ _ us hl => match us, hl with | [_, _], _ => rfl
theorem B_21 (T : Fs G mg base fa fd co tb) : Binds G.K (fd 21) ["own", "things", "many"] [] := T.F_21.bindsN fun _ _ _ _ _ _ us hl => match us, hl with | [_, _, _], _ => rfl
theorem B_22 (T : Fs G mg base fa fd co tb) : Binds G.K (fd 22) ["dice", "trial", "own"] [] := T.F_22.bindsN fun _ _ _ _ _ _ us hl => match us, hl with | [_, _, _], _ => rfl
theorem B_23 (T : Fs G mg base fa fd co tb) : Binds G.K (fd 23) [] [] := T.F_23.toD.bindsN fun _ _ _ _ _ _ us hl => match us, hl with | [], _ => rfl
theorem B_24 (T : Fs G mg base fa fd co tb) : Binds G.K (fd 24) ["script"] [] := T.F_24.bindsN fun _ _ _ _ _ _ us hl => match us, hl with | [_], _ => rfl
/- Dice.__init__ -/
theorem sc_0 : FnScope ["self", "seed"] ["self", "seed"] (L2.defScope st_0) := ⟨rfl, rfl, rfl, by decide +kernel, rfl, by decide +kernel, by decide +kernel⟩
theorem ok_0 (T : Fs G mg base fa fd co tb) (D : Al P w G mg base fa fd n) : FnOk P w G.K mg base (L2.CX P w) (8 * n + 8) (fa 0) (fd 0) ["self", "seed"] (spF G prog (n + 1) 0) :=
  fn_by T.F_0 sc_0 rfl rfl rfl rfl fun Bs b' cdv A outer s H EX hb hr => by
    have xo := XF.xo hr
    exact (ns_cons (ns_if (t_not (t_chn xo .le .lt n_int (n_var (by rfl) (by first | exact .inl rfl | exact .inr (.inl rfl) | exact .inr (.inr rfl))) (n_gint (by rfl) T.c_0))) (ns_cons (ns_raise (by rfl) XF.takes (T.x_1.mk_ (by rfl))) ns_nil) ns_nil) (ns_cons (ns_fld xo hb T.a_1 T.n_1 (n_var (by rfl) (by first | exact .inl rfl | exact .inr (.inl rfl) | exact .inr (.inr rfl))) (n_var (by rfl) (by first | exact .inl rfl | exact .inr (.inl rfl) | exact .inr (.inr rfl)))) (ns_cons (ns_fld xo hb T.a_2 T.n_2 (n_var (by rfl) (by first | exact .inl rfl | exact .inr (.inl rfl) | exact .inr (.inr rfl))) n_int) ns_nil)))
/- Dice.roll -/
theorem sc_1 : FnScope ["self", "many"] ["self", "many"] (L2.defScope st_1) := ⟨rfl, rfl, rfl, by decide +kernel, rfl, by decide +kernel, by decide +kernel⟩
theorem ok_1 (T : Fs G mg base fa fd co tb) (D : Al P w G mg base fa fd n) : FnOk P w G.K mg base (L2.CX P w) (8 * n + 8) (fa 1) (fd 1) ["self", "many"] (spF G prog (n + 1) 1) :=
  fn_by T.F_1 sc_1 rfl rfl rfl rfl fun Bs b' cdv A outer s H EX hb hr => by
    have xo := XF.xo hr
    exact (ns_cons (ns_if (t_not (t_chn xo .le .le n_int (n_var (by rfl) (by first | exact .inl rfl | exact .inr (.inl rfl) | exact .inr (.inr rfl))) (n_gint (by rfl) T.c_0))) (ns_cons (ns_raise (by rfl) XF.takes (T.x_1.mk_ (by rfl))) ns_nil) ns_nil) (ns_cons (ns_fld xo hb T.a_1 T.n_1 (n_var (by rfl) (by first | exact .inl rfl | exact .inr (.inl rfl) | exact .inr (.inr rfl))) (n_mod (n_mod (n_add xo (n_mul (n_att xo T.a_1 T.n_1 (n_var (by rfl) (by first | exact .inl rfl | exact .inr (.inl rfl) | exact .inr (.inr rfl)))) (n_gint (by rfl) T.c_3)) (n_gint (by rfl) T.c_4)) n_int) (n_gint (by rfl) T.c_0))) (ns_cons (ns_fldaug .add xo hb T.a_2 T.n_2 (n_var (by rfl) (by first | exact .inl rfl | exact .inr (.inl rfl) | exact .inr (.inr rfl))) n_int) (ns_cons (ns_ret (n_fdiv (n_mul (n_att xo T.a_1 T.n_1 (n_var (by rfl) (by first | exact .inl rfl | exact .inr (.inl rfl) | exact .inr (.inr rfl)))) (n_var (by rfl) (by first | exact .inl rfl | exact .inr (.inl rfl) | exact .inr (.inr rfl)))) (n_gint (by rfl) T.c_0))) ns_nil))))
/- Dice.number -/
theorem sc_2 : FnScope ["self", "low", "high"] ["self", "low", "high"] (L2.defScope st_2) := ⟨rfl, rfl, rfl, by decide +kernel, rfl, by decide +kernel, by decide +kernel⟩
theorem ok_2 (T : Fs G mg base fa fd co tb) (D : Al P w G mg base fa fd n) : FnOk P w G.K mg base (L2.CX P w) (8 * n + 8) (fa 2) (fd 2) ["self", "low", "high"] (spF G prog (n + 1) 2) :=
  fn_by T.F_2 sc_2 rfl rfl rfl rfl fun Bs b' cdv A outer s H EX hb hr => by
    have xo := XF.xo hr
    exact (ns_cons (ns_if (t_not (t_chn xo .le .lt (n_var (by rfl) (by first | exact .inl rfl | exact .inr (.inl rfl) | exact .inr (.inr rfl))) (n_var (by rfl) (by first | exact .inl rfl | exact .inr (.inl rfl) | exact .inr (.inr rfl))) (n_add xo (n_var (by rfl) (by first | exact .inl rfl | exact .inr (.inl rfl) | exact .inr (.inr rfl))) (n_gint (by rfl) T.c_0)))) (ns_cons (ns_raise (by rfl) XF.takes (T.x_1.mk_ (by rfl))) ns_nil) ns_nil) (ns_cons (ns_ret (n_add xo (n_var (by rfl) (by first | exact .inl rfl | exact .inr (.inl rfl) | exact .inr (.inr rfl))) (n_mth xo hb (by rfl) T.cl_2 T.n_5 T.m_1 D.f_1 (hr.mono (by omega)) (B_1 T) XF.passes (n_var (by rfl) (by first | exact .inl rfl | exact .inr (.inl rfl) | exact .inr (.inr rfl))) (na_cons (n_add xo (n_sub (n_var (by rfl) (by first | exact .inl rfl | exact .inr (.inl rfl) | exact .inr (.inr rfl))) (n_var (by rfl) (by first | exact .inl rfl | exact .inr (.inl rfl) | exact .inr (.inr rfl)))) n_int) na_nil)))) ns_nil))
/- Dice.is_so -/
theorem sc_3 : FnScope ["self", "top", "bottom"] ["self", "top", "bottom"] (L2.defScope st_3) := ⟨rfl, rfl, rfl, by decide +kernel, rfl, by decide +kernel, by decide +kernel⟩
theorem ok_3 (T : Fs G mg base fa fd co tb) (D : Al P w G mg base fa fd n) : FnOk P w G.K mg base (L2.CX P w) (8 * n + 8) (fa 3) (fd 3) ["self", "top", "bottom"] (spF G prog (n + 1) 3) :=
  fn_by T.F_3 sc_3 rfl rfl rfl rfl fun Bs b' cdv A outer s H EX hb hr => by
    have xo := XF.xo hr
    exact (ns_cons (ns_if (t_not (t_chn xo .le .le n_int (n_var (by rfl) (by first | exact .inl rfl | exact .inr (.inl rfl) | exact .inr (.inr rfl))) (n_var (by rfl) (by first | exact .inl rfl | exact .inr (.inl rfl) | exact .inr (.inr rfl))))) (ns_cons (ns_raise (by rfl) XF.takes (T.x_1.mk_ (by rfl))) ns_nil) ns_nil) (ns_cons (ns_ret (n_cmp xo .lt (n_mth xo hb (by rfl) T.cl_2 T.n_5 T.m_1 D.f_1 (hr.mono (by omega)) (B_1 T) XF.passes (n_var (by rfl) (by first | exact .inl rfl | exact .inr (.inl rfl) | exact .inr (.inr rfl))) (na_cons (n_var (by rfl) (by first | exact .inl rfl | exact .inr (.inl rfl) | exact .inr (.inr rfl))) na_nil)) (n_var (by rfl) (by first | exact .inl rfl | exact .inr (.inl rfl) | exact .inr (.inr rfl))))) ns_nil))
/- Dice.one_of -/
theorem sc_4 : FnScope ["self", "things"] ["self", "things"] (L2.defScope st_4) := ⟨rfl, rfl, rfl, by decide +kernel, rfl, by decide +kernel, by decide +kernel⟩
theorem ok_4 (T : Fs G mg base fa fd co tb) (D : Al P w G mg base fa fd n) : FnOk P w G.K mg base (L2.CX P w) (8 * n + 8) (fa 4) (fd 4) ["self", "things"] (spF G prog (n + 1) 4) :=
  fn_by T.F_4 sc_4 rfl rfl rfl rfl fun Bs b' cdv A outer s H EX hb hr => by
    have xo := XF.xo hr
    exact (ns_cons (ns_if (t_cmp xo .eq (n_len xo (by rfl) T.b_len (n_var (by rfl) (by first | exact .inl rfl | exact .inr (.inl rfl) | exact .inr (.inr rfl)))) n_int) (ns_cons (ns_raise (by rfl) XF.takes (T.x_1.mk_ (by rfl))) ns_nil) ns_nil) (ns_cons (ns_ret (n_idx xo (n_var (by rfl) (by first | exact .inl rfl | exact .inr (.inl rfl) | exact .inr (.inr rfl))) (n_mth xo hb (by rfl) T.cl_2 T.n_5 T.m_1 D.f_1 (hr.mono (by omega)) (B_1 T) XF.passes (n_var (by rfl) (by first | exact .inl rfl | exact .inr (.inl rfl) | exact .inr (.inr rfl))) (na_cons (n_len xo (by rfl) T.b_len (n_var (by rfl) (by first | exact .inl rfl | exact .inr (.inl rfl) | exact .inr (.inr rfl)))) na_nil)))) ns_nil))
/- Dice.row -/
theorem sc_5 : FnScope ["self", "most", "low", "high", "turn"] ["self", "most", "low", "high"] (L2.defScope st_5) := ⟨rfl, rfl, rfl, by decide +kernel, rfl, by decide +kernel, by decide +kernel⟩
theorem ok_5 (T : Fs G mg base fa fd co tb) (D : Al P w G mg base fa fd n) : FnOk P w G.K mg base (L2.CX P w) (8 * n + 8) (fa 5) (fd 5) ["self", "most", "low", "high"] (spF G prog (n + 1) 5) :=
  fn_byC T.F_5 sc_5 rfl rfl rfl rfl fun Bs b' A outer s H EX hb hr => by
    have xo := XF.xo hr
    exact (ns_cons (ns_if (t_cmp xo .lt (n_var (by rfl) (by first | exact .inl rfl | exact .inr (.inl rfl) | exact .inr (.inr rfl))) n_int) (ns_cons (ns_raise (by rfl) XF.takes (T.x_1.mk_ (by rfl))) ns_nil) ns_nil) (ns_cons (ns_if (t_not (t_chn xo .le .lt (n_var (by rfl) (by first | exact .inl rfl | exact .inr (.inl rfl) | exact .inr (.inr rfl))) (n_var (by rfl) (by first | exact .inl rfl | exact .inr (.inl rfl) | exact .inr (.inr rfl))) (n_add xo (n_var (by rfl) (by first | exact .inl rfl | exact .inr (.inl rfl) | exact .inr (.inr rfl))) (n_gint (by rfl) T.c_0)))) (ns_cons (ns_raise (by rfl) XF.takes (T.x_1.mk_ (by rfl))) ns_nil) ns_nil) (ns_cons (ns_ret (n_tge (k := 8 * n + 3) (own := [("turn", 4)]) xo T.C_5 (by rfl) (hr.mono (by omega)) sc_5.nd (ni_range1 (by rfl) T.b_range (n_mth xo hb (by rfl) T.cl_2 T.n_5 T.m_1 D.f_1 (hr.mono (by omega)) (B_1 T) XF.passes (n_var (by rfl) (by first | exact .inl rfl | exact .inr (.inl rfl) | exact .inr (.inr rfl))) (na_cons (n_add xo (n_var (by rfl) (by first | exact .inl rfl | exact .inr (.inl rfl) | exact .inr (.inr rfl))) n_int) na_nil))) (blkOk_by (by rfl)) (by rfl) (by decide) (by rfl) (by rfl) (by rfl) (by rfl) (by rfl) T.b_tuple (by rfl) (fun A s H C code fp pn hA => nts_nil) (fun A s H C code fp pn hA => (n_mth (gcx_xo xo hA) hb (by rfl) T.cl_2 T.n_6 T.m_2 D.f_2 ((hA.deeper _).mono (by omega)) (B_2 T) gcx_passes (n_var (by rfl) (by first | exact .inl rfl | exact .inr (.inl rfl) | exact .inr (.inr rfl))) (na_cons (n_var (by rfl) (by first | exact .inl rfl | exact .inr (.inl rfl) | exact .inr (.inr rfl))) (na_cons (n_var (by rfl) (by first | exact .inl rfl | exact .inr (.inl rfl) | exact .inr (.inr rfl))) na_nil)))))) ns_nil)))
/- Dice.text -/
theorem sc_6 : FnScope ["self", "most", "signs", "turn"] ["self", "most", "signs"] (L2.defScope st_6) := ⟨rfl, rfl, rfl, by decide +kernel, rfl, by decide +kernel, by decide +kernel⟩
theorem ok_6 (T : Fs G mg base fa fd co tb) (D : Al P w G mg base fa fd n) : FnOk P w G.K mg base (L2.CX P w) (8 * n + 8) (fa 6) (fd 6) ["self", "most", "signs"] (spF G prog (n + 1) 6) :=
  fn_by T.F_6 sc_6 rfl rfl rfl rfl fun Bs b' cdv A outer s H EX hb hr => by
    have xo := XF.xo hr
    exact (ns_cons (ns_if (t_or (t_orC (t_cmp xo .lt (n_var (by rfl) (by first | exact .inl rfl | exact .inr (.inl rfl) | exact .inr (.inr rfl))) n_int) (t_or1 (t_cmp xo .eq (n_var (by rfl) (by first | exact .inl rfl | exact .inr (.inl rfl) | exact .inr (.inr rfl))) (n_str (by rfl)))))) (ns_cons (ns_raise (by rfl) XF.takes (T.x_1.mk_ (by rfl))) ns_nil) ns_nil) (ns_cons (ns_ret (n_join xo (n_str (by rfl)) (n_lc (own := [("turn", 3)]) xo sc_6.nd (ni_range1 (by rfl) T.b_range (n_mth xo hb (by rfl) T.cl_2 T.n_5 T.m_1 D.f_1 (hr.mono (by omega)) (B_1 T) XF.passes (n_var (by rfl) (by first | exact .inl rfl | exact .inr (.inl rfl) | exact .inr (.inr rfl))) (na_cons (n_add xo (n_var (by rfl) (by first | exact .inl rfl | exact .inr (.inl rfl) | exact .inr (.inr rfl))) n_int) na_nil))) (blkOk_by (by rfl)) (by rfl) (by decide) (fun C cl => (by first | exact .inl rfl | exact .inr rfl)) (fun C cl => by first | exact .inr rfl | exact .inl rfl) (fun s H C cl fp => nts_nil) (fun s H C cl fp => (n_idx (XO.blk xo) (n_var (by rfl) (by first | exact .inl rfl | exact .inr (.inl rfl) | exact .inr (.inr rfl))) (n_mth (XO.blk xo) hb (by rfl) T.cl_2 T.n_5 T.m_1 D.f_1 (hr.mono (by omega)) (B_1 T) blk_passes (n_var (by rfl) (by first | exact .inl rfl | exact .inr (.inl rfl) | exact .inr (.inr rfl))) (na_cons (n_len (XO.blk xo) (by rfl) T.b_len (n_var (by rfl) (by first | exact .inl rfl | exact .inr (.inl rfl) | exact .inr (.inr rfl)))) na_nil))))))) ns_nil))
/- Dice.shuffled -/
theorem sc_7 : FnScope ["self", "things", "found", "place", "other"] ["self", "things"] (L2.defScope st_7) := ⟨rfl, rfl, rfl, by decide +kernel, rfl, by decide +kernel, by decide +kernel⟩
theorem ok_7 (T : Fs G mg base fa fd co tb) (D : Al P w G mg base fa fd n) : FnOk P w G.K mg base (L2.CX P w) (8 * n + 8) (fa 7) (fd 7) ["self", "things"] (spF G prog (n + 1) 7) :=
  fn_by T.F_7 sc_7 rfl rfl rfl rfl fun Bs b' cdv A outer s H EX hb hr => by
    have xo := XF.xo hr
    exact (ns_cons (ns_setN sc_7.nd (by rfl) (by first | exact .inl rfl | exact .inr rfl) (n_list xo (by rfl) T.b_list (n_var (by rfl) (by first | exact .inl rfl | exact .inr (.inl rfl) | exact .inr (.inr rfl))))) (ns_cons (ns_for XF.owns (by rfl) (ni_range3 (by rfl) T.b_range (n_sub (n_len xo (by rfl) T.b_len (n_var (by rfl) (by first | exact .inl rfl | exact .inr (.inl rfl) | exact .inr (.inr rfl)))) n_int) n_int (n_sub n_int n_int)) (ng_name sc_7.nd (by rfl) (by first | exact .inl rfl | exact .inr rfl)) (ns_cons (ns_setN sc_7.nd (by rfl) (by first | exact .inl rfl | exact .inr rfl) (n_mth xo hb (by rfl) T.cl_2 T.n_5 T.m_1 D.f_1 (hr.mono (by omega)) (B_1 T) XF.passes (n_var (by rfl) (by first | exact .inl rfl | exact .inr (.inl rfl) | exact .inr (.inr rfl))) (na_cons (n_add xo (n_var (by rfl) (by first | exact .inl rfl | exact .inr (.inl rfl) | exact .inr (.inr rfl))) n_int) na_nil))) (ns_cons (ns_par xo (na_cons (n_idx xo (n_var (by rfl) (by first | exact .inl rfl | exact .inr (.inl rfl) | exact .inr (.inr rfl))) (n_var (by rfl) (by first | exact .inl rfl | exact .inr (.inl rfl) | exact .inr (.inr rfl)))) (na_cons (n_idx xo (n_var (by rfl) (by first | exact .inl rfl | exact .inr (.inl rfl) | exact .inr (.inr rfl))) (n_var (by rfl) (by first | exact .inl rfl | exact .inr (.inl rfl) | exact .inr (.inr rfl)))) na_nil)) (ngs_cons (ng_sub xo hb (n_var (by rfl) (by first | exact .inl rfl | exact .inr (.inl rfl) | exact .inr (.inr rfl))) (n_var (by rfl) (by first | exact .inl rfl | exact .inr (.inl rfl) | exact .inr (.inr rfl)))) (ngs_cons (ng_sub xo hb (n_var (by rfl) (by first | exact .inl rfl | exact .inr (.inl rfl) | exact .inr (.inr rfl))) (n_var (by rfl) (by first | exact .inl rfl | exact .inr (.inl rfl) | exact .inr (.inr rfl)))) ngs_nil))) ns_nil))) (ns_cons (ns_ret (n_tuple xo (by rfl) T.b_tuple (n_var (by rfl) (by first | exact .inl rfl | exact .inr (.inl rfl) | exact .inr (.inr rfl))))) ns_nil)))
/- Dice.picked -/
theorem sc_8 : FnScope ["self", "things", "many", "found", "want", "place", "thing"] ["self", "things", "many"] (L2.defScope st_8) := ⟨rfl, rfl, rfl, by decide +kernel, rfl, by decide +kernel, by decide +kernel⟩
theorem ok_8 (T : Fs G mg base fa fd co tb) (D : Al P w G mg base fa fd n) : FnOk P w G.K mg base (L2.CX P w) (8 * n + 8) (fa 8) (fd 8) ["self", "things", "many"] (spF G prog (n + 1) 8) :=
  fn_by T.F_8 sc_8 rfl rfl rfl rfl fun Bs b' cdv A outer s H EX hb hr => by
    have xo := XF.xo hr
    exact (ns_cons (ns_if (t_not (t_chn xo .le .le n_int (n_var (by rfl) (by first | exact .inl rfl | exact .inr (.inl rfl) | exact .inr (.inr rfl))) (n_len xo (by rfl) T.b_len (n_var (by rfl) (by first | exact .inl rfl | exact .inr (.inl rfl) | exact .inr (.inr rfl)))))) (ns_cons (ns_raise (by rfl) XF.takes (T.x_1.mk_ (by rfl))) ns_nil) ns_nil) (ns_cons (ns_par2 (by rfl) sc_8.nd (by rfl) (by rfl) (by decide) (by rfl) (by rfl) (na_cons (n_lst na_nil) (na_cons (n_var (by rfl) (by first | exact .inl rfl | exact .inr (.inl rfl) | exact .inr (.inr rfl))) na_nil)) (by rfl)) (ns_cons (ns_for XF.owns (by rfl) (ni_enum xo (by rfl) T.b_enumerate (n_var (by rfl) (by first | exact .inl rfl | exact .inr (.inl rfl) | exact .inr (.inr rfl)))) (ng_tup xo (ngs_cons (ng_name sc_8.nd (by rfl) (by first | exact .inl rfl | exact .inr rfl)) (ngs_cons (ng_name sc_8.nd (by rfl) (by first | exact .inl rfl | exact .inr rfl)) ngs_nil))) (ns_cons (ns_if (t_and (t_andC (t_cmp xo .gt (n_var (by rfl) (by first | exact .inl rfl | exact .inr (.inl rfl) | exact .inr (.inr rfl))) n_int) (t_and1 (t_cmp xo .lt (n_mth xo hb (by rfl) T.cl_2 T.n_5 T.m_1 D.f_1 (hr.mono (by omega)) (B_1 T) XF.passes (n_var (by rfl) (by first | exact .inl rfl | exact .inr (.inl rfl) | exact .inr (.inr rfl))) (na_cons (n_sub (n_len xo (by rfl) T.b_len (n_var (by rfl) (by first | exact .inl rfl | exact .inr (.inl rfl) | exact .inr (.inr rfl)))) (n_var (by rfl) (by first | exact .inl rfl | exact .inr (.inl rfl) | exact .inr (.inr rfl)))) na_nil)) (n_var (by rfl) (by first | exact .inl rfl | exact .inr (.inl rfl) | exact .inr (.inr rfl))))))) (ns_cons (ns_exp (n_append hb (n_var (by rfl) (by first | exact .inl rfl | exact .inr (.inl rfl) | exact .inr (.inr rfl))) (n_var (by rfl) (by first | exact .inl rfl | exact .inr (.inl rfl) | exact .inr (.inr rfl))) xo)) (ns_cons (ns_aug .sub sc_8.nd (by rfl) (by first | exact .inl rfl | exact .inr rfl) n_int) ns_nil)) ns_nil) ns_nil)) (ns_cons (ns_ret (n_tuple xo (by rfl) T.b_tuple (n_var (by rfl) (by first | exact .inl rfl | exact .inr (.inl rfl) | exact .inr (.inr rfl))))) ns_nil))))
/- Dice.weighted -/
theorem sc_9 : FnScope ["self", "table", "left", "name"] ["self", "table"] (L2.defScope st_9) := ⟨rfl, rfl, rfl, by decide +kernel, rfl, by decide +kernel, by decide +kernel⟩
theorem ok_9 (T : Fs G mg base fa fd co tb) (D : Al P w G mg base fa fd n) : FnOk P w G.K mg base (L2.CX P w) (8 * n + 8) (fa 9) (fd 9) ["self", "table"] (spF G prog (n + 1) 9) :=
  fn_by T.F_9 sc_9 rfl rfl rfl rfl fun Bs b' cdv A outer s H EX hb hr => by
    have xo := XF.xo hr
    exact (ns_cons (ns_if (t_or (t_orC (t_cmp xo .eq (n_len xo (by rfl) T.b_len (n_var (by rfl) (by first | exact .inl rfl | exact .inr (.inl rfl) | exact .inr (.inr rfl)))) n_int) (t_orC (t_cmp xo .lt (n_minv xo (by rfl) T.b_min (n_var (by rfl) (by first | exact .inl rfl | exact .inr (.inl rfl) | exact .inr (.inr rfl)))) n_int) (t_or1 (t_cmp xo .eq (n_sumv xo (by rfl) T.b_sum (n_var (by rfl) (by first | exact .inl rfl | exact .inr (.inl rfl) | exact .inr (.inr rfl)))) n_int))))) (ns_cons (ns_raise (by rfl) XF.takes (T.x_1.mk_ (by rfl))) ns_nil) ns_nil) (ns_cons (ns_setN sc_9.nd (by rfl) (by first | exact .inl rfl | exact .inr rfl) (n_mth xo hb (by rfl) T.cl_2 T.n_5 T.m_1 D.f_1 (hr.mono (by omega)) (B_1 T) XF.passes (n_var (by rfl) (by first | exact .inl rfl | exact .inr (.inl rfl) | exact .inr (.inr rfl))) (na_cons (n_sumv xo (by rfl) T.b_sum (n_var (by rfl) (by first | exact .inl rfl | exact .inr (.inl rfl) | exact .inr (.inr rfl)))) na_nil))) (ns_cons (ns_for XF.owns (by rfl) (ni_list xo (n_sorted xo (by rfl) T.b_sorted (n_var (by rfl) (by first | exact .inl rfl | exact .inr (.inl rfl) | exact .inr (.inr rfl))))) (ng_name sc_9.nd (by rfl) (by first | exact .inl rfl | exact .inr rfl)) (ns_cons (ns_if (t_cmp xo .lt (n_var (by rfl) (by first | exact .inl rfl | exact .inr (.inl rfl) | exact .inr (.inr rfl))) (n_idx xo (n_var (by rfl) (by first | exact .inl rfl | exact .inr (.inl rfl) | exact .inr (.inr rfl))) (n_var (by rfl) (by first | exact .inl rfl | exact .inr (.inl rfl) | exact .inr (.inr rfl))))) (ns_cons (ns_ret (n_var (by rfl) (by first | exact .inl rfl | exact .inr (.inl rfl) | exact .inr (.inr rfl)))) ns_nil) ns_nil) (ns_cons (ns_aug .sub sc_9.nd (by rfl) (by first | exact .inl rfl | exact .inr rfl) (n_idx xo (n_var (by rfl) (by first | exact .inl rfl | exact .inr (.inl rfl) | exact .inr (.inr rfl))) (n_var (by rfl) (by first | exact .inl rfl | exact .inr (.inl rfl) | exact .inr (.inr rfl))))) ns_nil))) (ns_cons (ns_raise (by rfl) XF.takes (T.x_1.mk_ (by rfl))) ns_nil))))
/- drawn -/
theorem sc_10 : FnScope ["seed", "shape", "dice"] ["seed", "shape"] (L2.defScope st_10) := ⟨rfl, rfl, rfl, by decide +kernel, rfl, by decide +kernel, by decide +kernel⟩
theorem ok_10 (T : Fs G mg base fa fd co tb) (D : Al P w G mg base fa fd n) : FnOk P w G.K mg base (L2.CX P w) (8 * n + 8) (fa 10) (fd 10) ["seed", "shape"] (spF G prog (n + 1) 10) :=
  fn_by T.F_10 sc_10 rfl rfl rfl rfl fun Bs b' cdv A outer s H EX hb hr => by
    have xo := XF.xo hr
    exact (ns_cons (ns_setN sc_10.nd (by rfl) (by first | exact .inl rfl | exact .inr rfl) (n_new xo hb (by rfl) T.m_0 D.f_0 (hr.mono (by omega)) (by rfl) T.k_2 (B_0 T) XF.passes (na_cons (n_var (by rfl) (by first | exact .inl rfl | exact .inr (.inl rfl) | exact .inr (.inr rfl))) na_nil))) (ns_cons (ns_exp (n_call hb (by rfl) D.f_11 (hr.mono (by omega)) (by rfl) T.g_11 T.F_11.kp (B_11 T) XF.passes (na_cons (n_var (by rfl) (by first | exact .inl rfl | exact .inr (.inl rfl) | exact .inr (.inr rfl))) (na_cons n_int na_nil)))) (ns_cons (ns_ret (n_call hb (by rfl) D.f_12 (hr.mono (by omega)) (by rfl) T.g_12 T.F_12.kp (B_12 T) XF.passes (na_cons (n_var (by rfl) (by first | exact .inl rfl | exact .inr (.inl rfl) | exact .inr (.inr rfl))) (na_cons (n_var (by rfl) (by first | exact .inl rfl | exact .inr (.inl rfl) | exact .inr (.inr rfl))) na_nil)))) ns_nil)))
/- check_shape -/
theorem sc_11 : FnScope ["shape", "deep", "sizes"] ["shape", "deep"] (L2.defScope st_11) := ⟨rfl, rfl, rfl, by decide +kernel, rfl, by decide +kernel, by decide +kernel⟩
theorem ok_11 (T : Fs G mg base fa fd co tb) (D : Al P w G mg base fa fd n) : FnOk P w G.K mg base (L2.CX P w) (8 * n + 8) (fa 11) (fd 11) ["shape", "deep"] (spF G prog (n + 1) 11) :=
  fn_by T.F_11 sc_11 rfl rfl rfl rfl fun Bs b' cdv A outer s H EX hb hr => by
    have xo := XF.xo hr
    exact (ns_cons (ns_setN sc_11.nd (by rfl) (by first | exact .inl rfl | exact .inr rfl) (n_disp (.cons (n_str (by rfl)) n_int (.cons (n_str (by rfl)) n_int (.cons (n_str (by rfl)) n_int (.cons (n_str (by rfl)) n_int (.cons (n_str (by rfl)) n_int (.cons (n_str (by rfl)) n_int .nil)))))) (by exact List.cons_ne_nil _ _) (by decide))) (ns_cons (ns_if (t_or (t_orC (t_cmp xo .gt (n_var (by rfl) (by first | exact .inl rfl | exact .inr (.inl rfl) | exact .inr (.inr rfl))) n_int) (t_orC (t_cmp xo .eq (n_len xo (by rfl) T.b_len (n_var (by rfl) (by first | exact .inl rfl | exact .inr (.inl rfl) | exact .inr (.inr rfl)))) n_int) (t_orC (t_cmp xo .notin (n_idx xo (n_var (by rfl) (by first | exact .inl rfl | exact .inr (.inl rfl) | exact .inr (.inr rfl))) n_int) (n_var (by rfl) (by first | exact .inl rfl | exact .inr (.inl rfl) | exact .inr (.inr rfl)))) (t_or1 (t_cmp xo .ne (n_len xo (by rfl) T.b_len (n_var (by rfl) (by first | exact .inl rfl | exact .inr (.inl rfl) | exact .inr (.inr rfl)))) (n_idx xo (n_var (by rfl) (by first | exact .inl rfl | exact .inr (.inl rfl) | exact .inr (.inr rfl))) (n_idx xo (n_var (by rfl) (by first | exact .inl rfl | exact .inr (.inl rfl) | exact .inr (.inr rfl))) n_int)))))))) (ns_cons (ns_raise (by rfl) XF.takes (T.x_1.mk_ (by rfl))) ns_nil) ns_nil) (ns_cons (ns_if (t_cmp xo .eq (n_idx xo (n_var (by rfl) (by first | exact .inl rfl | exact .inr (.inl rfl) | exact .inr (.inr rfl))) n_int) (n_str (by rfl))) (ns_cons (ns_exp (n_call hb (by rfl) D.f_11 (hr.mono (by omega)) (by rfl) T.g_11 T.F_11.kp (B_11 T) XF.passes (na_cons (n_idx xo (n_var (by rfl) (by first | exact .inl rfl | exact .inr (.inl rfl) | exact .inr (.inr rfl))) n_int) (na_cons (n_add xo (n_var (by rfl) (by first | exact .inl rfl | exact .inr (.inl rfl) | exact .inr (.inr rfl))) n_int) na_nil)))) (ns_cons (ns_exp (n_call hb (by rfl) D.f_11 (hr.mono (by omega)) (by rfl) T.g_11 T.F_11.kp (B_11 T) XF.passes (na_cons (n_idx xo (n_var (by rfl) (by first | exact .inl rfl | exact .inr (.inl rfl) | exact .inr (.inr rfl))) n_int) (na_cons (n_add xo (n_var (by rfl) (by first | exact .inl rfl | exact .inr (.inl rfl) | exact .inr (.inr rfl))) n_int) na_nil)))) ns_nil)) (ns_cons (ns_if (t_cmp xo .eq (n_idx xo (n_var (by rfl) (by first | exact .inl rfl | exact .inr (.inl rfl) | exact .inr (.inr rfl))) n_int) (n_str (by rfl))) (ns_cons (ns_exp (n_call hb (by rfl) D.f_11 (hr.mono (by omega)) (by rfl) T.g_11 T.F_11.kp (B_11 T) XF.passes (na_cons (n_idx xo (n_var (by rfl) (by first | exact .inl rfl | exact .inr (.inl rfl) | exact .inr (.inr rfl))) n_int) (na_cons (n_add xo (n_var (by rfl) (by first | exact .inl rfl | exact .inr (.inl rfl) | exact .inr (.inr rfl))) n_int) na_nil)))) ns_nil) ns_nil) ns_nil)) ns_nil)))
/- draw_from -/
theorem sc_12 : FnScope ["dice", "shape", "kind", "first", "turn"] ["dice", "shape"] (L2.defScope st_12) := ⟨rfl, rfl, rfl, by decide +kernel, rfl, by decide +kernel, by decide +kernel⟩
theorem ok_12 (T : Fs G mg base fa fd co tb) (D : Al P w G mg base fa fd n) : FnOk P w G.K mg base (L2.CX P w) (8 * n + 8) (fa 12) (fd 12) ["dice", "shape"] (spF G prog (n + 1) 12) :=
  fn_byC T.F_12 sc_12 rfl rfl rfl rfl fun Bs b' A outer s H EX hb hr => by
    have xo := XF.xo hr
    exact (ns_cons (ns_setN sc_12.nd (by rfl) (by first | exact .inl rfl | exact .inr rfl) (n_idx xo (n_var (by rfl) (by first | exact .inl rfl | exact .inr (.inl rfl) | exact .inr (.inr rfl))) n_int)) (ns_cons (ns_if (t_cmp xo .eq (n_var (by rfl) (by first | exact .inl rfl | exact .inr (.inl rfl) | exact .inr (.inr rfl))) (n_str (by rfl))) (ns_cons (ns_ret (n_mth xo hb (by rfl) T.cl_2 T.n_6 T.m_2 D.f_2 (hr.mono (by omega)) (B_2 T) XF.passes (n_var (by rfl) (by first | exact .inl rfl | exact .inr (.inl rfl) | exact .inr (.inr rfl))) (na_cons (n_idx xo (n_var (by rfl) (by first | exact .inl rfl | exact .inr (.inl rfl) | exact .inr (.inr rfl))) n_int) (na_cons (n_idx xo (n_var (by rfl) (by first | exact .inl rfl | exact .inr (.inl rfl) | exact .inr (.inr rfl))) n_int) na_nil)))) ns_nil) ns_nil) (ns_cons (ns_if (t_cmp xo .eq (n_var (by rfl) (by first | exact .inl rfl | exact .inr (.inl rfl) | exact .inr (.inr rfl))) (n_str (by rfl))) (ns_cons (ns_ret (n_mth xo hb (by rfl) T.cl_2 T.n_7 T.m_5 D.f_5 (hr.mono (by omega)) (B_5 T) XF.passes (n_var (by rfl) (by first | exact .inl rfl | exact .inr (.inl rfl) | exact .inr (.inr rfl))) (na_cons (n_idx xo (n_var (by rfl) (by first | exact .inl rfl | exact .inr (.inl rfl) | exact .inr (.inr rfl))) n_int) (na_cons (n_idx xo (n_var (by rfl) (by first | exact .inl rfl | exact .inr (.inl rfl) | exact .inr (.inr rfl))) n_int) (na_cons (n_idx xo (n_var (by rfl) (by first | exact .inl rfl | exact .inr (.inl rfl) | exact .inr (.inr rfl))) n_int) na_nil))))) ns_nil) ns_nil) (ns_cons (ns_if (t_cmp xo .eq (n_var (by rfl) (by first | exact .inl rfl | exact .inr (.inl rfl) | exact .inr (.inr rfl))) (n_str (by rfl))) (ns_cons (ns_ret (n_mth xo hb (by rfl) T.cl_2 T.n_8 T.m_6 D.f_6 (hr.mono (by omega)) (B_6 T) XF.passes (n_var (by rfl) (by first | exact .inl rfl | exact .inr (.inl rfl) | exact .inr (.inr rfl))) (na_cons (n_idx xo (n_var (by rfl) (by first | exact .inl rfl | exact .inr (.inl rfl) | exact .inr (.inr rfl))) n_int) (na_cons (n_idx xo (n_var (by rfl) (by first | exact .inl rfl | exact .inr (.inl rfl) | exact .inr (.inr rfl))) n_int) na_nil)))) ns_nil) ns_nil) (ns_cons (ns_if (t_cmp xo .eq (n_var (by rfl) (by first | exact .inl rfl | exact .inr (.inl rfl) | exact .inr (.inr rfl))) (n_str (by rfl))) (ns_cons (ns_ret (n_mth xo hb (by rfl) T.cl_2 T.n_9 T.m_4 D.f_4 (hr.mono (by omega)) (B_4 T) XF.passes (n_var (by rfl) (by first | exact .inl rfl | exact .inr (.inl rfl) | exact .inr (.inr rfl))) (na_cons (n_idx xo (n_var (by rfl) (by first | exact .inl rfl | exact .inr (.inl rfl) | exact .inr (.inr rfl))) n_int) na_nil))) ns_nil) ns_nil) (ns_cons (ns_if (t_cmp xo .eq (n_var (by rfl) (by first | exact .inl rfl | exact .inr (.inl rfl) | exact .inr (.inr rfl))) (n_str (by rfl))) (ns_cons (ns_setN sc_12.nd (by rfl) (by first | exact .inl rfl | exact .inr rfl) (n_call hb (by rfl) D.f_12 (hr.mono (by omega)) (by rfl) T.g_12 T.F_12.kp (B_12 T) XF.passes (na_cons (n_var (by rfl) (by first | exact .inl rfl | exact .inr (.inl rfl) | exact .inr (.inr rfl))) (na_cons (n_idx xo (n_var (by rfl) (by first | exact .inl rfl | exact .inr (.inl rfl) | exact .inr (.inr rfl))) n_int) na_nil)))) (ns_cons (ns_ret (n_tup (na_cons (n_var (by rfl) (by first | exact .inl rfl | exact .inr (.inl rfl) | exact .inr (.inr rfl))) (na_cons (n_call hb (by rfl) D.f_12 (hr.mono (by omega)) (by rfl) T.g_12 T.F_12.kp (B_12 T) XF.passes (na_cons (n_var (by rfl) (by first | exact .inl rfl | exact .inr (.inl rfl) | exact .inr (.inr rfl))) (na_cons (n_idx xo (n_var (by rfl) (by first | exact .inl rfl | exact .inr (.inl rfl) | exact .inr (.inr rfl))) n_int) na_nil))) na_nil)))) ns_nil)) ns_nil) (ns_cons (ns_if (t_cmp xo .lt (n_idx xo (n_var (by rfl) (by first | exact .inl rfl | exact .inr (.inl rfl) | exact .inr (.inr rfl))) n_int) n_int) (ns_cons (ns_raise (by rfl) XF.takes (T.x_1.mk_ (by rfl))) ns_nil) ns_nil) (ns_cons (ns_ret (n_tge (k := 8 * n + 3) (own := [("turn", 4)]) xo T.C_12 (by rfl) (hr.mono (by omega)) sc_12.nd (ni_range1 (by rfl) T.b_range (n_mth xo hb (by rfl) T.cl_2 T.n_5 T.m_1 D.f_1 (hr.mono (by omega)) (B_1 T) XF.passes (n_var (by rfl) (by first | exact .inl rfl | exact .inr (.inl rfl) | exact .inr (.inr rfl))) (na_cons (n_add xo (n_idx xo (n_var (by rfl) (by first | exact .inl rfl | exact .inr (.inl rfl) | exact .inr (.inr rfl))) n_int) n_int) na_nil))) (blkOk_by (by rfl)) (by rfl) (by decide) (by rfl) (by rfl) (by rfl) (by rfl) (by rfl) T.b_tuple (by rfl) (fun A s H C code fp pn hA => nts_nil) (fun A s H C code fp pn hA => (n_call hb (by rfl) D.f_12 ((hA.deeper _).mono (by omega)) (by rfl) T.g_12 T.F_12.kp (B_12 T) gcx_passes (na_cons (n_var (by rfl) (by first | exact .inl rfl | exact .inr (.inl rfl) | exact .inr (.inr rfl))) (na_cons (n_idx (gcx_xo xo hA) (n_var (by rfl) (by first | exact .inl rfl | exact .inr (.inl rfl) | exact .inr (.inr rfl))) n_int) na_nil)))))) ns_nil))))))))
/- _law_dice -/
theorem sc_13 : FnScope ["cell"] ["cell"] (L2.defScope st_13) := ⟨rfl, rfl, rfl, by decide +kernel, rfl, by decide +kernel, by decide +kernel⟩
theorem ok_13 (T : Fs G mg base fa fd co tb) (D : Al P w G mg base fa fd n) : FnOk P w G.K mg base (L2.CX P w) (8 * n + 8) (fa 13) (fd 13) ["cell"] (spF G prog (n + 1) 13) :=
  fn_by T.F_13 sc_13 rfl rfl rfl rfl fun Bs b' cdv A outer s H EX hb hr => by
    have xo := XF.xo hr
    exact (ns_cons (ns_if (t_chn xo .lt .lt (n_sub n_int n_int) (n_var (by rfl) (by first | exact .inl rfl | exact .inr (.inl rfl) | exact .inr (.inr rfl))) n_int) (ns_cons (ns_ret (n_lst (na_cons (n_abs (by rfl) T.b_abs (n_var (by rfl) (by first | exact .inl rfl | exact .inr (.inl rfl) | exact .inr (.inr rfl)))) (na_cons n_int (na_cons n_int na_nil))))) ns_nil) ns_nil) (ns_cons (ns_ret (n_lst (na_cons (n_var (by rfl) (by first | exact .inl rfl | exact .inr (.inl rfl) | exact .inr (.inr rfl))) (na_cons (n_add xo n_int (n_mod (n_intc (by rfl) T.b_int (n_var (by rfl) (by first | exact .inl rfl | exact .inr (.inl rfl) | exact .inr (.inr rfl)))) n_int)) (na_cons (n_intc (by rfl) T.b_int (n_cmp xo .ge (n_var (by rfl) (by first | exact .inl rfl | exact .inr (.inl rfl) | exact .inr (.inr rfl))) (n_pow n_int n_int))) na_nil))))) ns_nil))
/- _law_roll -/
theorem sc_14 : FnScope ["dice", "many", "found"] ["dice", "many"] (L2.defScope st_14) := ⟨rfl, rfl, rfl, by decide +kernel, rfl, by decide +kernel, by decide +kernel⟩
theorem ok_14 (T : Fs G mg base fa fd co tb) (D : Al P w G mg base fa fd n) : FnOk P w G.K mg base (L2.CX P w) (8 * n + 8) (fa 14) (fd 14) ["dice", "many"] (spF G prog (n + 1) 14) :=
  fn_by T.F_14 sc_14 rfl rfl rfl rfl fun Bs b' cdv A outer s H EX hb hr => by
    have xo := XF.xo hr
    exact (ns_cons (ns_if (t_or (t_orC (t_cmp xo .eq (n_idx xo (n_var (by rfl) (by first | exact .inl rfl | exact .inr (.inl rfl) | exact .inr (.inr rfl))) n_int) n_int) (t_or1 (t_and (t_andC (t_cmp xo .eq (n_idx xo (n_var (by rfl) (by first | exact .inl rfl | exact .inr (.inl rfl) | exact .inr (.inr rfl))) n_int) n_int) (t_and1 (t_cmp xo .gt (n_idx xo (n_var (by rfl) (by first | exact .inl rfl | exact .inr (.inl rfl) | exact .inr (.inr rfl))) n_int) n_int))))))) (ns_cons (ns_setN sc_14.nd (by rfl) (by first | exact .inl rfl | exact .inr rfl) (n_mod (n_intc (by rfl) T.b_int (n_idx xo (n_var (by rfl) (by first | exact .inl rfl | exact .inr (.inl rfl) | exact .inr (.inr rfl))) n_int)) (n_var (by rfl) (by first | exact .inl rfl | exact .inr (.inl rfl) | exact .inr (.inr rfl))))) (ns_cons (ns_set (n_fdiv (n_idx xo (n_var (by rfl) (by first | exact .inl rfl | exact .inr (.inl rfl) | exact .inr (.inr rfl))) n_int) (n_var (by rfl) (by first | exact .inl rfl | exact .inr (.inl rfl) | exact .inr (.inr rfl)))) (ng_sub xo hb (n_var (by rfl) (by first | exact .inl rfl | exact .inr (.inl rfl) | exact .inr (.inr rfl))) n_int)) (ns_cons (ns_ret (n_var (by rfl) (by first | exact .inl rfl | exact .inr (.inl rfl) | exact .inr (.inr rfl)))) ns_nil))) ns_nil) (ns_cons (ns_set n_int (ng_sub xo hb (n_var (by rfl) (by first | exact .inl rfl | exact .inr (.inl rfl) | exact .inr (.inr rfl))) n_int)) (ns_cons (ns_if (t_cmp xo .gt (n_var (by rfl) (by first | exact .inl rfl | exact .inr (.inl rfl) | exact .inr (.inr rfl))) n_int) (ns_cons (ns_ret (n_mod (n_intc (by rfl) T.b_int (n_add xo (n_mul (n_call hb (by rfl) D.f_14 (hr.mono (by omega)) (by rfl) T.g_14 T.F_14.kp (B_14 T) XF.passes (na_cons (n_var (by rfl) (by first | exact .inl rfl | exact .inr (.inl rfl) | exact .inr (.inr rfl))) (na_cons (n_add xo (n_fdiv (n_var (by rfl) (by first | exact .inl rfl | exact .inr (.inl rfl) | exact .inr (.inr rfl))) n_int) n_int) na_nil))) n_int) (n_call hb (by rfl) D.f_14 (hr.mono (by omega)) (by rfl) T.g_14 T.F_14.kp (B_14 T) XF.passes (na_cons (n_var (by rfl) (by first | exact .inl rfl | exact .inr (.inl rfl) | exact .inr (.inr rfl))) (na_cons n_int na_nil))))) (n_var (by rfl) (by first | exact .inl rfl | exact .inr (.inl rfl) | exact .inr (.inr rfl))))) ns_nil) ns_nil) (ns_cons (ns_set (n_mod (n_intc (by rfl) T.b_int (n_add xo (n_add xo (n_mul (n_idx xo (n_var (by rfl) (by first | exact .inl rfl | exact .inr (.inl rfl) | exact .inr (.inr rfl))) n_int) n_int) (n_mul (n_idx xo (n_var (by rfl) (by first | exact .inl rfl | exact .inr (.inl rfl) | exact .inr (.inr rfl))) n_int) n_int)) n_int)) n_int) (ng_sub xo hb (n_var (by rfl) (by first | exact .inl rfl | exact .inr (.inl rfl) | exact .inr (.inr rfl))) n_int)) (ns_cons (ns_set (n_add xo (n_idx xo (n_var (by rfl) (by first | exact .inl rfl | exact .inr (.inl rfl) | exact .inr (.inr rfl))) n_int) n_int) (ng_sub xo hb (n_var (by rfl) (by first | exact .inl rfl | exact .inr (.inl rfl) | exact .inr (.inr rfl))) n_int)) (ns_cons (ns_ret (n_mod (n_intc (by rfl) T.b_int (n_fdiv (n_idx xo (n_var (by rfl) (by first | exact .inl rfl | exact .inr (.inl rfl) | exact .inr (.inr rfl))) n_int) n_int)) (n_var (by rfl) (by first | exact .inl rfl | exact .inr (.inl rfl) | exact .inr (.inr rfl))))) ns_nil))))))
/- _law_rounds -/
theorem sc_15 : FnScope ["script", "most", "cells", "cell"] ["script", "most"] (L2.defScope st_15) := ⟨rfl, rfl, rfl, by decide +kernel, rfl, by decide +kernel, by decide +kernel⟩
theorem ok_15 (T : Fs G mg base fa fd co tb) (D : Al P w G mg base fa fd n) : FnOk P w G.K mg base (L2.CX P w) (8 * n + 8) (fa 15) (fd 15) ["script", "most"] (spF G prog (n + 1) 15) :=
  fn_by T.F_15 sc_15 rfl rfl rfl rfl fun Bs b' cdv A outer s H EX hb hr => by
    have xo := XF.xo hr
    exact (ns_cons (ns_setN sc_15.nd (by rfl) (by first | exact .inl rfl | exact .inr rfl) (n_slcHi xo (n_var (by rfl) (by first | exact .inl rfl | exact .inr (.inl rfl) | exact .inr (.inr rfl))) (n_var (by rfl) (by first | exact .inl rfl | exact .inr (.inl rfl) | exact .inr (.inr rfl))))) (ns_cons (ns_if (t_cmp xo .eq (n_var (by rfl) (by first | exact .inl rfl | exact .inr (.inl rfl) | exact .inr (.inr rfl))) (n_lst na_nil)) (ns_cons (ns_setN sc_15.nd (by rfl) (by first | exact .inl rfl | exact .inr rfl) (n_lst (na_cons n_int na_nil))) ns_nil) ns_nil) (ns_cons (ns_ret (n_lc (own := [("cell", 3)]) xo sc_15.nd (ni_list xo (n_var (by rfl) (by first | exact .inl rfl | exact .inr (.inl rfl) | exact .inr (.inr rfl)))) (blkOk_by (by rfl)) (by rfl) (by decide) (fun C cl => (by first | exact .inl rfl | exact .inr rfl)) (fun C cl => by first | exact .inr rfl | exact .inl rfl) (fun s H C cl fp => nts_nil) (fun s H C cl fp => (n_call hb (by rfl) D.f_13 (hr.mono (by omega)) (by rfl) T.g_13 T.F_13.kp (B_13 T) blk_passes (na_cons (n_var (by rfl) (by first | exact .inl rfl | exact .inr (.inl rfl) | exact .inr (.inr rfl))) na_nil))))) ns_nil)))
theorem sc_16 : FnScope ["what"] ["what"] (L2.defScope st_16) := ⟨rfl, rfl, rfl, by decide +kernel, rfl, by decide +kernel, by decide +kernel⟩
/- _law_next -/
theorem sc_17 : FnScope ["own", "many"] ["own", "many"] (L2.defScope st_17) := ⟨rfl, rfl, rfl, by decide +kernel, rfl, by decide +kernel, by decide +kernel⟩
theorem ok_17 (T : Fs G mg base fa fd co tb) (D : Al P w G mg base fa fd n) : FnOk P w G.K mg base (L2.CX P w) (8 * n + 8) (fa 17) (fd 17) ["own", "many"] (spF G prog (n + 1) 17) :=
  fn_by T.F_17 sc_17 rfl rfl rfl rfl fun Bs b' cdv A outer s H EX hb hr => by
    have xo := XF.xo hr
    exact (ns_cons (ns_set (n_mod (n_mod (n_add xo (n_mul (n_idx xo (n_var (by rfl) (by first | exact .inl rfl | exact .inr (.inl rfl) | exact .inr (.inr rfl))) (n_str (by rfl))) n_int) n_int) n_int) n_int) (ng_sub xo hb (n_var (by rfl) (by first | exact .inl rfl | exact .inr (.inl rfl) | exact .inr (.inr rfl))) (n_str (by rfl)))) (ns_cons (ns_set (n_add xo (n_idx xo (n_var (by rfl) (by first | exact .inl rfl | exact .inr (.inl rfl) | exact .inr (.inr rfl))) (n_str (by rfl))) n_int) (ng_sub xo hb (n_var (by rfl) (by first | exact .inl rfl | exact .inr (.inl rfl) | exact .inr (.inr rfl))) (n_str (by rfl)))) (ns_cons (ns_ret (n_fdiv (n_mul (n_idx xo (n_var (by rfl) (by first | exact .inl rfl | exact .inr (.inl rfl) | exact .inr (.inr rfl))) (n_str (by rfl))) (n_var (by rfl) (by first | exact .inl rfl | exact .inr (.inl rfl) | exact .inr (.inr rfl)))) n_int)) ns_nil)))
/- _law_shape -/
theorem sc_18 : FnScope ["dice", "deep", "sort", "low", "first"] ["dice", "deep"] (L2.defScope st_18) := ⟨rfl, rfl, rfl, by decide +kernel, rfl, by decide +kernel, by decide +kernel⟩
theorem ok_18 (T : Fs G mg base fa fd co tb) (D : Al P w G mg base fa fd n) : FnOk P w G.K mg base (L2.CX P w) (8 * n + 8) (fa 18) (fd 18) ["dice", "deep"] (spF G prog (n + 1) 18) :=
  fn_by T.F_18 sc_18 rfl rfl rfl rfl fun Bs b' cdv A outer s H EX hb hr => by
    have xo := XF.xo hr
    exact (ns_cons (ns_setN sc_18.nd (by rfl) (by first | exact .inl rfl | exact .inr rfl) (n_ife (t_cmp xo .gt (n_var (by rfl) (by first | exact .inl rfl | exact .inr (.inl rfl) | exact .inr (.inr rfl))) n_int) (n_call hb (by rfl) D.f_14 (hr.mono (by omega)) (by rfl) T.g_14 T.F_14.kp (B_14 T) XF.passes (na_cons (n_var (by rfl) (by first | exact .inl rfl | exact .inr (.inl rfl) | exact .inr (.inr rfl))) (na_cons n_int na_nil))) (n_call hb (by rfl) D.f_14 (hr.mono (by omega)) (by rfl) T.g_14 T.F_14.kp (B_14 T) XF.passes (na_cons (n_var (by rfl) (by first | exact .inl rfl | exact .inr (.inl rfl) | exact .inr (.inr rfl))) (na_cons n_int na_nil))))) (ns_cons (ns_setN sc_18.nd (by rfl) (by first | exact .inl rfl | exact .inr rfl) (n_sub (n_call hb (by rfl) D.f_14 (hr.mono (by omega)) (by rfl) T.g_14 T.F_14.kp (B_14 T) XF.passes (na_cons (n_var (by rfl) (by first | exact .inl rfl | exact .inr (.inl rfl) | exact .inr (.inr rfl))) (na_cons n_int na_nil))) n_int)) (ns_cons (ns_if (t_cmp xo .eq (n_var (by rfl) (by first | exact .inl rfl | exact .inr (.inl rfl) | exact .inr (.inr rfl))) n_int) (ns_cons (ns_ret (n_tup (na_cons (n_str (by rfl)) (na_cons (n_var (by rfl) (by first | exact .inl rfl | exact .inr (.inl rfl) | exact .inr (.inr rfl))) (na_cons (n_add xo (n_var (by rfl) (by first | exact .inl rfl | exact .inr (.inl rfl) | exact .inr (.inr rfl))) (n_call hb (by rfl) D.f_14 (hr.mono (by omega)) (by rfl) T.g_14 T.F_14.kp (B_14 T) XF.passes (na_cons (n_var (by rfl) (by first | exact .inl rfl | exact .inr (.inl rfl) | exact .inr (.inr rfl))) (na_cons n_int na_nil)))) na_nil))))) ns_nil) ns_nil) (ns_cons (ns_if (t_cmp xo .eq (n_var (by rfl) (by first | exact .inl rfl | exact .inr (.inl rfl) | exact .inr (.inr rfl))) n_int) (ns_cons (ns_ret (n_tup (na_cons (n_str (by rfl)) (na_cons (n_call hb (by rfl) D.f_14 (hr.mono (by omega)) (by rfl) T.g_14 T.F_14.kp (B_14 T) XF.passes (na_cons (n_var (by rfl) (by first | exact .inl rfl | exact .inr (.inl rfl) | exact .inr (.inr rfl))) (na_cons n_int na_nil))) (na_cons (n_var (by rfl) (by first | exact .inl rfl | exact .inr (.inl rfl) | exact .inr (.inr rfl))) (na_cons (n_add xo (n_var (by rfl) (by first | exact .inl rfl | exact .inr (.inl rfl) | exact .inr (.inr rfl))) (n_call hb (by rfl) D.f_14 (hr.mono (by omega)) (by rfl) T.g_14 T.F_14.kp (B_14 T) XF.passes (na_cons (n_var (by rfl) (by first | exact .inl rfl | exact .inr (.inl rfl) | exact .inr (.inr rfl))) (na_cons n_int na_nil)))) na_nil)))))) ns_nil) ns_nil) (ns_cons (ns_if (t_cmp xo .eq (n_var (by rfl) (by first | exact .inl rfl | exact .inr (.inl rfl) | exact .inr (.inr rfl))) n_int) (ns_cons (ns_ret (n_tup (na_cons (n_str (by rfl)) (na_cons (n_call hb (by rfl) D.f_14 (hr.mono (by omega)) (by rfl) T.g_14 T.F_14.kp (B_14 T) XF.passes (na_cons (n_var (by rfl) (by first | exact .inl rfl | exact .inr (.inl rfl) | exact .inr (.inr rfl))) (na_cons n_int na_nil))) (na_cons (n_idx xo (n_lst (na_cons (n_str (by rfl)) (na_cons (n_str (by rfl)) (na_cons (n_str (by rfl)) na_nil)))) (n_call hb (by rfl) D.f_14 (hr.mono (by omega)) (by rfl) T.g_14 T.F_14.kp (B_14 T) XF.passes (na_cons (n_var (by rfl) (by first | exact .inl rfl | exact .inr (.inl rfl) | exact .inr (.inr rfl))) (na_cons n_int na_nil)))) na_nil))))) ns_nil) ns_nil) (ns_cons (ns_if (t_cmp xo .eq (n_var (by rfl) (by first | exact .inl rfl | exact .inr (.inl rfl) | exact .inr (.inr rfl))) n_int) (ns_cons (ns_ret (n_tup (na_cons (n_str (by rfl)) (na_cons (n_idx xo (n_lst (na_cons (n_tup (na_cons (n_str (by rfl)) (na_cons (n_str (by rfl)) (na_cons (n_str (by rfl)) na_nil)))) (na_cons (n_tup (na_cons n_int na_nil)) (na_cons (n_str (by rfl)) na_nil)))) (n_call hb (by rfl) D.f_14 (hr.mono (by omega)) (by rfl) T.g_14 T.F_14.kp (B_14 T) XF.passes (na_cons (n_var (by rfl) (by first | exact .inl rfl | exact .inr (.inl rfl) | exact .inr (.inr rfl))) (na_cons n_int na_nil)))) na_nil)))) ns_nil) ns_nil) (ns_cons (ns_if (t_cmp xo .eq (n_var (by rfl) (by first | exact .inl rfl | exact .inr (.inl rfl) | exact .inr (.inr rfl))) n_int) (ns_cons (ns_setN sc_18.nd (by rfl) (by first | exact .inl rfl | exact .inr rfl) (n_call hb (by rfl) D.f_18 (hr.mono (by omega)) (by rfl) T.g_18 T.F_18.kp (B_18 T) XF.passes (na_cons (n_var (by rfl) (by first | exact .inl rfl | exact .inr (.inl rfl) | exact .inr (.inr rfl))) (na_cons (n_sub (n_var (by rfl) (by first | exact .inl rfl | exact .inr (.inl rfl) | exact .inr (.inr rfl))) n_int) na_nil)))) (ns_cons (ns_ret (n_tup (na_cons (n_str (by rfl)) (na_cons (n_var (by rfl) (by first | exact .inl rfl | exact .inr (.inl rfl) | exact .inr (.inr rfl))) (na_cons (n_call hb (by rfl) D.f_18 (hr.mono (by omega)) (by rfl) T.g_18 T.F_18.kp (B_18 T) XF.passes (na_cons (n_var (by rfl) (by first | exact .inl rfl | exact .inr (.inl rfl) | exact .inr (.inr rfl))) (na_cons (n_sub (n_var (by rfl) (by first | exact .inl rfl | exact .inr (.inl rfl) | exact .inr (.inr rfl))) n_int) na_nil))) na_nil))))) ns_nil)) ns_nil) (ns_cons (ns_ret (n_tup (na_cons (n_str (by rfl)) (na_cons (n_call hb (by rfl) D.f_14 (hr.mono (by omega)) (by rfl) T.g_14 T.F_14.kp (B_14 T) XF.passes (na_cons (n_var (by rfl) (by first | exact .inl rfl | exact .inr (.inl rfl) | exact .inr (.inr rfl))) (na_cons n_int na_nil))) (na_cons (n_call hb (by rfl) D.f_18 (hr.mono (by omega)) (by rfl) T.g_18 T.F_18.kp (B_18 T) XF.passes (na_cons (n_var (by rfl) (by first | exact .inl rfl | exact .inr (.inl rfl) | exact .inr (.inr rfl))) (na_cons (n_sub (n_var (by rfl) (by first | exact .inl rfl | exact .inr (.inl rfl) | exact .inr (.inr rfl))) n_int) na_nil))) na_nil))))) ns_nil))))))))
/- _law_drawn -/
theorem sc_19 : FnScope ["own", "shape", "kind", "turn", "first", "many", "found", "one"] ["own", "shape"] (L2.defScope st_19) := ⟨rfl, rfl, rfl, by decide +kernel, rfl, by decide +kernel, by decide +kernel⟩
theorem ok_19 (T : Fs G mg base fa fd co tb) (D : Al P w G mg base fa fd n) : FnOk P w G.K mg base (L2.CX P w) (8 * n + 8) (fa 19) (fd 19) ["own", "shape"] (spF G prog (n + 1) 19) :=
  fn_by T.F_19 sc_19 rfl rfl rfl rfl fun Bs b' cdv A outer s H EX hb hr => by
    have xo := XF.xo hr
    exact (ns_cons (ns_setN sc_19.nd (by rfl) (by first | exact .inl rfl | exact .inr rfl) (n_idx xo (n_var (by rfl) (by first | exact .inl rfl | exact .inr (.inl rfl) | exact .inr (.inr rfl))) n_int)) (ns_cons (ns_if (t_cmp xo .eq (n_var (by rfl) (by first | exact .inl rfl | exact .inr (.inl rfl) | exact .inr (.inr rfl))) (n_str (by rfl))) (ns_cons (ns_ret (n_add xo (n_idx xo (n_var (by rfl) (by first | exact .inl rfl | exact .inr (.inl rfl) | exact .inr (.inr rfl))) n_int) (n_call hb (by rfl) D.f_17 (hr.mono (by omega)) (by rfl) T.g_17 T.F_17.kp (B_17 T) XF.passes (na_cons (n_var (by rfl) (by first | exact .inl rfl | exact .inr (.inl rfl) | exact .inr (.inr rfl))) (na_cons (n_add xo (n_sub (n_idx xo (n_var (by rfl) (by first | exact .inl rfl | exact .inr (.inl rfl) | exact .inr (.inr rfl))) n_int) (n_idx xo (n_var (by rfl) (by first | exact .inl rfl | exact .inr (.inl rfl) | exact .inr (.inr rfl))) n_int)) n_int) na_nil))))) ns_nil) ns_nil) (ns_cons (ns_if (t_cmp xo .eq (n_var (by rfl) (by first | exact .inl rfl | exact .inr (.inl rfl) | exact .inr (.inr rfl))) (n_str (by rfl))) (ns_cons (ns_ret (n_idx xo (n_idx xo (n_var (by rfl) (by first | exact .inl rfl | exact .inr (.inl rfl) | exact .inr (.inr rfl))) n_int) (n_call hb (by rfl) D.f_17 (hr.mono (by omega)) (by rfl) T.g_17 T.F_17.kp (B_17 T) XF.passes (na_cons (n_var (by rfl) (by first | exact .inl rfl | exact .inr (.inl rfl) | exact .inr (.inr rfl))) (na_cons (n_len xo (by rfl) T.b_len (n_idx xo (n_var (by rfl) (by first | exact .inl rfl | exact .inr (.inl rfl) | exact .inr (.inr rfl))) n_int)) na_nil))))) ns_nil) ns_nil) (ns_cons (ns_if (t_cmp xo .eq (n_var (by rfl) (by first | exact .inl rfl | exact .inr (.inl rfl) | exact .inr (.inr rfl))) (n_str (by rfl))) (ns_cons (ns_setN sc_19.nd (by rfl) (by first | exact .inl rfl | exact .inr rfl) (n_call hb (by rfl) D.f_19 (hr.mono (by omega)) (by rfl) T.g_19 T.F_19.kp (B_19 T) XF.passes (na_cons (n_var (by rfl) (by first | exact .inl rfl | exact .inr (.inl rfl) | exact .inr (.inr rfl))) (na_cons (n_idx xo (n_var (by rfl) (by first | exact .inl rfl | exact .inr (.inl rfl) | exact .inr (.inr rfl))) n_int) na_nil)))) (ns_cons (ns_ret (n_tup (na_cons (n_var (by rfl) (by first | exact .inl rfl | exact .inr (.inl rfl) | exact .inr (.inr rfl))) (na_cons (n_call hb (by rfl) D.f_19 (hr.mono (by omega)) (by rfl) T.g_19 T.F_19.kp (B_19 T) XF.passes (na_cons (n_var (by rfl) (by first | exact .inl rfl | exact .inr (.inl rfl) | exact .inr (.inr rfl))) (na_cons (n_idx xo (n_var (by rfl) (by first | exact .inl rfl | exact .inr (.inl rfl) | exact .inr (.inr rfl))) n_int) na_nil))) na_nil)))) ns_nil)) ns_nil) (ns_cons (ns_par2 (by rfl) sc_19.nd (by rfl) (by rfl) (by decide) (by rfl) (by rfl) (na_cons (n_call hb (by rfl) D.f_17 (hr.mono (by omega)) (by rfl) T.g_17 T.F_17.kp (B_17 T) XF.passes (na_cons (n_var (by rfl) (by first | exact .inl rfl | exact .inr (.inl rfl) | exact .inr (.inr rfl))) (na_cons (n_add xo (n_idx xo (n_var (by rfl) (by first | exact .inl rfl | exact .inr (.inl rfl) | exact .inr (.inr rfl))) n_int) n_int) na_nil))) (na_cons (n_lst na_nil) na_nil)) (by rfl)) (ns_cons (ns_for XF.owns (by rfl) (ni_range1 (by rfl) T.b_range (n_var (by rfl) (by first | exact .inl rfl | exact .inr (.inl rfl) | exact .inr (.inr rfl)))) (ng_name sc_19.nd (by rfl) (by first | exact .inl rfl | exact .inr rfl)) (ns_cons (ns_setN sc_19.nd (by rfl) (by first | exact .inl rfl | exact .inr rfl) (n_ife (t_cmp xo .eq (n_var (by rfl) (by first | exact .inl rfl | exact .inr (.inl rfl) | exact .inr (.inr rfl))) (n_str (by rfl))) (n_add xo (n_idx xo (n_var (by rfl) (by first | exact .inl rfl | exact .inr (.inl rfl) | exact .inr (.inr rfl))) n_int) (n_call hb (by rfl) D.f_17 (hr.mono (by omega)) (by rfl) T.g_17 T.F_17.kp (B_17 T) XF.passes (na_cons (n_var (by rfl) (by first | exact .inl rfl | exact .inr (.inl rfl) | exact .inr (.inr rfl))) (na_cons (n_add xo (n_sub (n_idx xo (n_var (by rfl) (by first | exact .inl rfl | exact .inr (.inl rfl) | exact .inr (.inr rfl))) n_int) (n_idx xo (n_var (by rfl) (by first | exact .inl rfl | exact .inr (.inl rfl) | exact .inr (.inr rfl))) n_int)) n_int) na_nil)))) (n_ife (t_cmp xo .eq (n_var (by rfl) (by first | exact .inl rfl | exact .inr (.inl rfl) | exact .inr (.inr rfl))) (n_str (by rfl))) (n_idx xo (n_idx xo (n_var (by rfl) (by first | exact .inl rfl | exact .inr (.inl rfl) | exact .inr (.inr rfl))) n_int) (n_call hb (by rfl) D.f_17 (hr.mono (by omega)) (by rfl) T.g_17 T.F_17.kp (B_17 T) XF.passes (na_cons (n_var (by rfl) (by first | exact .inl rfl | exact .inr (.inl rfl) | exact .inr (.inr rfl))) (na_cons (n_len xo (by rfl) T.b_len (n_idx xo (n_var (by rfl) (by first | exact .inl rfl | exact .inr (.inl rfl) | exact .inr (.inr rfl))) n_int)) na_nil)))) (n_call hb (by rfl) D.f_19 (hr.mono (by omega)) (by rfl) T.g_19 T.F_19.kp (B_19 T) XF.passes (na_cons (n_var (by rfl) (by first | exact .inl rfl | exact .inr (.inl rfl) | exact .inr (.inr rfl))) (na_cons (n_idx xo (n_var (by rfl) (by first | exact .inl rfl | exact .inr (.inl rfl) | exact .inr (.inr rfl))) n_int) na_nil)))))) (ns_cons (ns_setN sc_19.nd (by rfl) (by first | exact .inl rfl | exact .inr rfl) (n_add xo (n_var (by rfl) (by first | exact .inl rfl | exact .inr (.inl rfl) | exact .inr (.inr rfl))) (n_lst (na_cons (n_var (by rfl) (by first | exact .inl rfl | exact .inr (.inl rfl) | exact .inr (.inr rfl))) na_nil)))) ns_nil))) (ns_cons (ns_ret (n_ife (t_cmp xo .eq (n_var (by rfl) (by first | exact .inl rfl | exact .inr (.inl rfl) | exact .inr (.inr rfl))) (n_str (by rfl))) (n_join xo (n_str (by rfl)) (n_var (by rfl) (by first | exact .inl rfl | exact .inr (.inl rfl) | exact .inr (.inr rfl)))) (n_tuple xo (by rfl) T.b_tuple (n_var (by rfl) (by first | exact .inl rfl | exact .inr (.inl rfl) | exact .inr (.inr rfl)))))) ns_nil)))))))
/- _law_shuffled -/
theorem sc_20 : FnScope ["own", "things", "found", "place", "other", "one"] ["own", "things"] (L2.defScope st_20) := ⟨rfl, rfl, rfl, by decide +kernel, rfl, by decide +kernel, by decide +kernel⟩
theorem ok_20 (T : Fs G mg base fa fd co tb) (D : Al P w G mg base fa fd n) : FnOk P w G.K mg base (L2.CX P w) (8 * n + 8) (fa 20) (fd 20) ["own", "things"] (spF G prog (n + 1) 20) :=
  fn_by T.F_20 sc_20 rfl rfl rfl rfl fun Bs b' cdv A outer s H EX hb hr => by
    have xo := XF.xo hr
    exact (ns_cons (ns_setN sc_20.nd (by rfl) (by first | exact .inl rfl | exact .inr rfl) (n_list xo (by rfl) T.b_list (n_var (by rfl) (by first | exact .inl rfl | exact .inr (.inl rfl) | exact .inr (.inr rfl))))) (ns_cons (ns_for XF.owns (by rfl) (ni_range3 (by rfl) T.b_range (n_sub (n_len xo (by rfl) T.b_len (n_var (by rfl) (by first | exact .inl rfl | exact .inr (.inl rfl) | exact .inr (.inr rfl)))) n_int) n_int (n_neg n_int)) (ng_name sc_20.nd (by rfl) (by first | exact .inl rfl | exact .inr rfl)) (ns_cons (ns_setN sc_20.nd (by rfl) (by first | exact .inl rfl | exact .inr rfl) (n_call hb (by rfl) D.f_17 (hr.mono (by omega)) (by rfl) T.g_17 T.F_17.kp (B_17 T) XF.passes (na_cons (n_var (by rfl) (by first | exact .inl rfl | exact .inr (.inl rfl) | exact .inr (.inr rfl))) (na_cons (n_add xo (n_var (by rfl) (by first | exact .inl rfl | exact .inr (.inl rfl) | exact .inr (.inr rfl))) n_int) na_nil)))) (ns_cons (ns_setN sc_20.nd (by rfl) (by first | exact .inl rfl | exact .inr rfl) (n_idx xo (n_var (by rfl) (by first | exact .inl rfl | exact .inr (.inl rfl) | exact .inr (.inr rfl))) (n_var (by rfl) (by first | exact .inl rfl | exact .inr (.inl rfl) | exact .inr (.inr rfl))))) (ns_cons (ns_set (n_idx xo (n_var (by rfl) (by first | exact .inl rfl | exact .inr (.inl rfl) | exact .inr (.inr rfl))) (n_var (by rfl) (by first | exact .inl rfl | exact .inr (.inl rfl) | exact .inr (.inr rfl)))) (ng_sub xo hb (n_var (by rfl) (by first | exact .inl rfl | exact .inr (.inl rfl) | exact .inr (.inr rfl))) (n_var (by rfl) (by first | exact .inl rfl | exact .inr (.inl rfl) | exact .inr (.inr rfl))))) (ns_cons (ns_set (n_var (by rfl) (by first | exact .inl rfl | exact .inr (.inl rfl) | exact .inr (.inr rfl))) (ng_sub xo hb (n_var (by rfl) (by first | exact .inl rfl | exact .inr (.inl rfl) | exact .inr (.inr rfl))) (n_var (by rfl) (by first | exact .inl rfl | exact .inr (.inl rfl) | exact .inr (.inr rfl))))) ns_nil))))) (ns_cons (ns_ret (n_tuple xo (by rfl) T.b_tuple (n_var (by rfl) (by first | exact .inl rfl | exact .inr (.inl rfl) | exact .inr (.inr rfl))))) ns_nil)))
/- _law_picked -/
theorem sc_21 : FnScope ["own", "things", "many", "found", "k", "thing"] ["own", "things", "many"] (L2.defScope st_21) := ⟨rfl, rfl, rfl, by decide +kernel, rfl, by decide +kernel, by decide +kernel⟩
theorem ok_21 (T : Fs G mg base fa fd co tb) (D : Al P w G mg base fa fd n) : FnOk P w G.K mg base (L2.CX P w) (8 * n + 8) (fa 21) (fd 21) ["own", "things", "many"] (spF G prog (n + 1) 21) :=
  fn_by T.F_21 sc_21 rfl rfl rfl rfl fun Bs b' cdv A outer s H EX hb hr => by
    have xo := XF.xo hr
    exact (ns_cons (ns_setN sc_21.nd (by rfl) (by first | exact .inl rfl | exact .inr rfl) (n_lst na_nil)) (ns_cons (ns_for XF.owns (by rfl) (ni_enum xo (by rfl) T.b_enumerate (n_var (by rfl) (by first | exact .inl rfl | exact .inr (.inl rfl) | exact .inr (.inr rfl)))) (ng_tup xo (ngs_cons (ng_name sc_21.nd (by rfl) (by first | exact .inl rfl | exact .inr rfl)) (ngs_cons (ng_name sc_21.nd (by rfl) (by first | exact .inl rfl | exact .inr rfl)) ngs_nil))) (ns_cons (ns_if (t_and (t_andC (t_cmp xo .lt (n_len xo (by rfl) T.b_len (n_var (by rfl) (by first | exact .inl rfl | exact .inr (.inl rfl) | exact .inr (.inr rfl)))) (n_var (by rfl) (by first | exact .inl rfl | exact .inr (.inl rfl) | exact .inr (.inr rfl)))) (t_and1 (t_cmp xo .lt (n_call hb (by rfl) D.f_17 (hr.mono (by omega)) (by rfl) T.g_17 T.F_17.kp (B_17 T) XF.passes (na_cons (n_var (by rfl) (by first | exact .inl rfl | exact .inr (.inl rfl) | exact .inr (.inr rfl))) (na_cons (n_sub (n_len xo (by rfl) T.b_len (n_var (by rfl) (by first | exact .inl rfl | exact .inr (.inl rfl) | exact .inr (.inr rfl)))) (n_var (by rfl) (by first | exact .inl rfl | exact .inr (.inl rfl) | exact .inr (.inr rfl)))) na_nil))) (n_sub (n_var (by rfl) (by first | exact .inl rfl | exact .inr (.inl rfl) | exact .inr (.inr rfl))) (n_len xo (by rfl) T.b_len (n_var (by rfl) (by first | exact .inl rfl | exact .inr (.inl rfl) | exact .inr (.inr rfl))))))))) (ns_cons (ns_setN sc_21.nd (by rfl) (by first | exact .inl rfl | exact .inr rfl) (n_add xo (n_var (by rfl) (by first | exact .inl rfl | exact .inr (.inl rfl) | exact .inr (.inr rfl))) (n_lst (na_cons (n_var (by rfl) (by first | exact .inl rfl | exact .inr (.inl rfl) | exact .inr (.inr rfl))) na_nil)))) ns_nil) ns_nil) ns_nil)) (ns_cons (ns_ret (n_tuple xo (by rfl) T.b_tuple (n_var (by rfl) (by first | exact .inl rfl | exact .inr (.inl rfl) | exact .inr (.inr rfl))))) ns_nil)))
/- _law_step -/
theorem sc_22 : FnScope ["dice", "trial", "own", "high", "things", "table", "left", "sort", "low", "many", "bottom", "top", "name"] ["dice", "trial", "own"] (L2.defScope st_22) := ⟨rfl, rfl, rfl, by decide +kernel, rfl, by decide +kernel, by decide +kernel⟩
theorem ok_22 (T : Fs G mg base fa fd co tb) (D : Al P w G mg base fa fd n) : FnOk P w G.K mg base (L2.CX P w) (8 * n + 8) (fa 22) (fd 22) ["dice", "trial", "own"] (spF G prog (n + 1) 22) :=
  fn_by T.F_22 sc_22 rfl rfl rfl rfl fun Bs b' cdv A outer s H EX hb hr => by
    have xo := XF.xo hr
    exact (ns_cons (ns_par2 (by rfl) sc_22.nd (by rfl) (by rfl) (by decide) (by rfl) (by rfl) (na_cons (n_call hb (by rfl) D.f_14 (hr.mono (by omega)) (by rfl) T.g_14 T.F_14.kp (B_14 T) XF.passes (na_cons (n_var (by rfl) (by first | exact .inl rfl | exact .inr (.inl rfl) | exact .inr (.inr rfl))) (na_cons n_int na_nil))) (na_cons (n_sub (n_call hb (by rfl) D.f_14 (hr.mono (by omega)) (by rfl) T.g_14 T.F_14.kp (B_14 T) XF.passes (na_cons (n_var (by rfl) (by first | exact .inl rfl | exact .inr (.inl rfl) | exact .inr (.inr rfl))) (na_cons n_int na_nil))) n_int) na_nil)) (by rfl)) (ns_cons (ns_setN sc_22.nd (by rfl) (by first | exact .inl rfl | exact .inr rfl) (n_add xo (n_var (by rfl) (by first | exact .inl rfl | exact .inr (.inl rfl) | exact .inr (.inr rfl))) (n_call hb (by rfl) D.f_14 (hr.mono (by omega)) (by rfl) T.g_14 T.F_14.kp (B_14 T) XF.passes (na_cons (n_var (by rfl) (by first | exact .inl rfl | exact .inr (.inl rfl) | exact .inr (.inr rfl))) (na_cons n_int na_nil))))) (ns_cons (ns_setN sc_22.nd (by rfl) (by first | exact .inl rfl | exact .inr rfl) (n_slcHi xo (n_str (by rfl)) (n_add xo n_int (n_call hb (by rfl) D.f_14 (hr.mono (by omega)) (by rfl) T.g_14 T.F_14.kp (B_14 T) XF.passes (na_cons (n_var (by rfl) (by first | exact .inl rfl | exact .inr (.inl rfl) | exact .inr (.inr rfl))) (na_cons n_int na_nil)))))) (ns_cons (ns_if (t_cmp xo .eq (n_var (by rfl) (by first | exact .inl rfl | exact .inr (.inl rfl) | exact .inr (.inr rfl))) n_int) (ns_cons (ns_setN sc_22.nd (by rfl) (by first | exact .inl rfl | exact .inr rfl) (n_idx xo (n_lst (na_cons (n_add xo n_int (n_call hb (by rfl) D.f_14 (hr.mono (by omega)) (by rfl) T.g_14 T.F_14.kp (B_14 T) XF.passes (na_cons (n_var (by rfl) (by first | exact .inl rfl | exact .inr (.inl rfl) | exact .inr (.inr rfl))) (na_cons n_int na_nil)))) (na_cons n_int na_nil))) (n_fdiv (n_call hb (by rfl) D.f_14 (hr.mono (by omega)) (by rfl) T.g_14 T.F_14.kp (B_14 T) XF.passes (na_cons (n_var (by rfl) (by first | exact .inl rfl | exact .inr (.inl rfl) | exact .inr (.inr rfl))) (na_cons n_int na_nil))) n_int))) (ns_cons (ns_ret (n_cmp xo .eq (n_mth xo hb (by rfl) T.cl_2 T.n_5 T.m_1 D.f_1 (hr.mono (by omega)) (B_1 T) XF.passes (n_var (by rfl) (by first | exact .inl rfl | exact .inr (.inl rfl) | exact .inr (.inr rfl))) (na_cons (n_var (by rfl) (by first | exact .inl rfl | exact .inr (.inl rfl) | exact .inr (.inr rfl))) na_nil)) (n_call hb (by rfl) D.f_17 (hr.mono (by omega)) (by rfl) T.g_17 T.F_17.kp (B_17 T) XF.passes (na_cons (n_var (by rfl) (by first | exact .inl rfl | exact .inr (.inl rfl) | exact .inr (.inr rfl))) (na_cons (n_var (by rfl) (by first | exact .inl rfl | exact .inr (.inl rfl) | exact .inr (.inr rfl))) na_nil))))) ns_nil)) ns_nil) (ns_cons (ns_if (t_cmp xo .eq (n_var (by rfl) (by first | exact .inl rfl | exact .inr (.inl rfl) | exact .inr (.inr rfl))) n_int) (ns_cons (ns_ret (n_cmp xo .eq (n_mth xo hb (by rfl) T.cl_2 T.n_6 T.m_2 D.f_2 (hr.mono (by omega)) (B_2 T) XF.passes (n_var (by rfl) (by first | exact .inl rfl | exact .inr (.inl rfl) | exact .inr (.inr rfl))) (na_cons (n_var (by rfl) (by first | exact .inl rfl | exact .inr (.inl rfl) | exact .inr (.inr rfl))) (na_cons (n_var (by rfl) (by first | exact .inl rfl | exact .inr (.inl rfl) | exact .inr (.inr rfl))) na_nil))) (n_add xo (n_var (by rfl) (by first | exact .inl rfl | exact .inr (.inl rfl) | exact .inr (.inr rfl))) (n_call hb (by rfl) D.f_17 (hr.mono (by omega)) (by rfl) T.g_17 T.F_17.kp (B_17 T) XF.passes (na_cons (n_var (by rfl) (by first | exact .inl rfl | exact .inr (.inl rfl) | exact .inr (.inr rfl))) (na_cons (n_add xo (n_sub (n_var (by rfl) (by first | exact .inl rfl | exact .inr (.inl rfl) | exact .inr (.inr rfl))) (n_var (by rfl) (by first | exact .inl rfl | exact .inr (.inl rfl) | exact .inr (.inr rfl)))) n_int) na_nil)))))) ns_nil) ns_nil) (ns_cons (ns_if (t_cmp xo .eq (n_var (by rfl) (by first | exact .inl rfl | exact .inr (.inl rfl) | exact .inr (.inr rfl))) n_int) (ns_cons (ns_setN sc_22.nd (by rfl) (by first | exact .inl rfl | exact .inr rfl) (n_add xo n_int (n_call hb (by rfl) D.f_14 (hr.mono (by omega)) (by rfl) T.g_14 T.F_14.kp (B_14 T) XF.passes (na_cons (n_var (by rfl) (by first | exact .inl rfl | exact .inr (.inl rfl) | exact .inr (.inr rfl))) (na_cons n_int na_nil))))) (ns_cons (ns_setN sc_22.nd (by rfl) (by first | exact .inl rfl | exact .inr rfl) (n_call hb (by rfl) D.f_14 (hr.mono (by omega)) (by rfl) T.g_14 T.F_14.kp (B_14 T) XF.passes (na_cons (n_var (by rfl) (by first | exact .inl rfl | exact .inr (.inl rfl) | exact .inr (.inr rfl))) (na_cons (n_add xo (n_var (by rfl) (by first | exact .inl rfl | exact .inr (.inl rfl) | exact .inr (.inr rfl))) n_int) na_nil)))) (ns_cons (ns_ret (n_cmp xo .eq (n_mth xo hb (by rfl) T.cl_2 T.n_10 T.m_3 D.f_3 (hr.mono (by omega)) (B_3 T) XF.passes (n_var (by rfl) (by first | exact .inl rfl | exact .inr (.inl rfl) | exact .inr (.inr rfl))) (na_cons (n_var (by rfl) (by first | exact .inl rfl | exact .inr (.inl rfl) | exact .inr (.inr rfl))) (na_cons (n_var (by rfl) (by first | exact .inl rfl | exact .inr (.inl rfl) | exact .inr (.inr rfl))) na_nil))) (n_cmp xo .lt (n_call hb (by rfl) D.f_17 (hr.mono (by omega)) (by rfl) T.g_17 T.F_17.kp (B_17 T) XF.passes (na_cons (n_var (by rfl) (by first | exact .inl rfl | exact .inr (.inl rfl) | exact .inr (.inr rfl))) (na_cons (n_var (by rfl) (by first | exact .inl rfl | exact .inr (.inl rfl) | exact .inr (.inr rfl))) na_nil))) (n_var (by rfl) (by first | exact .inl rfl | exact .inr (.inl rfl) | exact .inr (.inr rfl)))))) ns_nil))) ns_nil) (ns_cons (ns_if (t_cmp xo .eq (n_var (by rfl) (by first | exact .inl rfl | exact .inr (.inl rfl) | exact .inr (.inr rfl))) n_int) (ns_cons (ns_ret (n_cmp xo .eq (n_mth xo hb (by rfl) T.cl_2 T.n_7 T.m_5 D.f_5 (hr.mono (by omega)) (B_5 T) XF.passes (n_var (by rfl) (by first | exact .inl rfl | exact .inr (.inl rfl) | exact .inr (.inr rfl))) (na_cons (n_len xo (by rfl) T.b_len (n_var (by rfl) (by first | exact .inl rfl | exact .inr (.inl rfl) | exact .inr (.inr rfl)))) (na_cons (n_var (by rfl) (by first | exact .inl rfl | exact .inr (.inl rfl) | exact .inr (.inr rfl))) (na_cons (n_var (by rfl) (by first | exact .inl rfl | exact .inr (.inl rfl) | exact .inr (.inr rfl))) na_nil)))) (n_call hb (by rfl) D.f_19 (hr.mono (by omega)) (by rfl) T.g_19 T.F_19.kp (B_19 T) XF.passes (na_cons (n_var (by rfl) (by first | exact .inl rfl | exact .inr (.inl rfl) | exact .inr (.inr rfl))) (na_cons (n_tup (na_cons (n_str (by rfl)) (na_cons (n_len xo (by rfl) T.b_len (n_var (by rfl) (by first | exact .inl rfl | exact .inr (.inl rfl) | exact .inr (.inr rfl)))) (na_cons (n_var (by rfl) (by first | exact .inl rfl | exact .inr (.inl rfl) | exact .inr (.inr rfl))) (na_cons (n_var (by rfl) (by first | exact .inl rfl | exact .inr (.inl rfl) | exact .inr (.inr rfl))) na_nil))))) na_nil))))) ns_nil) ns_nil) (ns_cons (ns_if (t_cmp xo .eq (n_var (by rfl) (by first | exact .inl rfl | exact .inr (.inl rfl) | exact .inr (.inr rfl))) n_int) (ns_cons (ns_ret (n_cmp xo .eq (n_mth xo hb (by rfl) T.cl_2 T.n_8 T.m_6 D.f_6 (hr.mono (by omega)) (B_6 T) XF.passes (n_var (by rfl) (by first | exact .inl rfl | exact .inr (.inl rfl) | exact .inr (.inr rfl))) (na_cons (n_len xo (by rfl) T.b_len (n_var (by rfl) (by first | exact .inl rfl | exact .inr (.inl rfl) | exact .inr (.inr rfl)))) (na_cons (n_var (by rfl) (by first | exact .inl rfl | exact .inr (.inl rfl) | exact .inr (.inr rfl))) na_nil))) (n_call hb (by rfl) D.f_19 (hr.mono (by omega)) (by rfl) T.g_19 T.F_19.kp (B_19 T) XF.passes (na_cons (n_var (by rfl) (by first | exact .inl rfl | exact .inr (.inl rfl) | exact .inr (.inr rfl))) (na_cons (n_tup (na_cons (n_str (by rfl)) (na_cons (n_len xo (by rfl) T.b_len (n_var (by rfl) (by first | exact .inl rfl | exact .inr (.inl rfl) | exact .inr (.inr rfl)))) (na_cons (n_var (by rfl) (by first | exact .inl rfl | exact .inr (.inl rfl) | exact .inr (.inr rfl))) na_nil)))) na_nil))))) ns_nil) ns_nil) (ns_cons (ns_if (t_cmp xo .eq (n_var (by rfl) (by first | exact .inl rfl | exact .inr (.inl rfl) | exact .inr (.inr rfl))) n_int) (ns_cons (ns_ret (n_ife (t_cmp xo .eq (n_call hb (by rfl) D.f_14 (hr.mono (by omega)) (by rfl) T.g_14 T.F_14.kp (B_14 T) XF.passes (na_cons (n_var (by rfl) (by first | exact .inl rfl | exact .inr (.inl rfl) | exact .inr (.inr rfl))) (na_cons n_int na_nil))) n_int) (n_cmp xo .eq (n_mth xo hb (by rfl) T.cl_2 T.n_11 T.m_7 D.f_7 (hr.mono (by omega)) (B_7 T) XF.passes (n_var (by rfl) (by first | exact .inl rfl | exact .inr (.inl rfl) | exact .inr (.inr rfl))) (na_cons (n_var (by rfl) (by first | exact .inl rfl | exact .inr (.inl rfl) | exact .inr (.inr rfl))) na_nil)) (n_call hb (by rfl) D.f_20 (hr.mono (by omega)) (by rfl) T.g_20 T.F_20.kp (B_20 T) XF.passes (na_cons (n_var (by rfl) (by first | exact .inl rfl | exact .inr (.inl rfl) | exact .inr (.inr rfl))) (na_cons (n_var (by rfl) (by first | exact .inl rfl | exact .inr (.inl rfl) | exact .inr (.inr rfl))) na_nil)))) (n_cmp xo .eq (n_mth xo hb (by rfl) T.cl_2 T.n_9 T.m_4 D.f_4 (hr.mono (by omega)) (B_4 T) XF.passes (n_var (by rfl) (by first | exact .inl rfl | exact .inr (.inl rfl) | exact .inr (.inr rfl))) (na_cons (n_var (by rfl) (by first | exact .inl rfl | exact .inr (.inl rfl) | exact .inr (.inr rfl))) na_nil)) (n_idx xo (n_var (by rfl) (by first | exact .inl rfl | exact .inr (.inl rfl) | exact .inr (.inr rfl))) (n_call hb (by rfl) D.f_17 (hr.mono (by omega)) (by rfl) T.g_17 T.F_17.kp (B_17 T) XF.passes (na_cons (n_var (by rfl) (by first | exact .inl rfl | exact .inr (.inl rfl) | exact .inr (.inr rfl))) (na_cons (n_len xo (by rfl) T.b_len (n_var (by rfl) (by first | exact .inl rfl | exact .inr (.inl rfl) | exact .inr (.inr rfl)))) na_nil))))))) ns_nil) ns_nil) (ns_cons (ns_if (t_cmp xo .eq (n_var (by rfl) (by first | exact .inl rfl | exact .inr (.inl rfl) | exact .inr (.inr rfl))) n_int) (ns_cons (ns_setN sc_22.nd (by rfl) (by first | exact .inl rfl | exact .inr rfl) (n_call hb (by rfl) D.f_14 (hr.mono (by omega)) (by rfl) T.g_14 T.F_14.kp (B_14 T) XF.passes (na_cons (n_var (by rfl) (by first | exact .inl rfl | exact .inr (.inl rfl) | exact .inr (.inr rfl))) (na_cons (n_add xo (n_len xo (by rfl) T.b_len (n_var (by rfl) (by first | exact .inl rfl | exact .inr (.inl rfl) | exact .inr (.inr rfl)))) n_int) na_nil)))) (ns_cons (ns_ret (n_cmp xo .eq (n_mth xo hb (by rfl) T.cl_2 T.n_12 T.m_8 D.f_8 (hr.mono (by omega)) (B_8 T) XF.passes (n_var (by rfl) (by first | exact .inl rfl | exact .inr (.inl rfl) | exact .inr (.inr rfl))) (na_cons (n_var (by rfl) (by first | exact .inl rfl | exact .inr (.inl rfl) | exact .inr (.inr rfl))) (na_cons (n_var (by rfl) (by first | exact .inl rfl | exact .inr (.inl rfl) | exact .inr (.inr rfl))) na_nil))) (n_call hb (by rfl) D.f_21 (hr.mono (by omega)) (by rfl) T.g_21 T.F_21.kp (B_21 T) XF.passes (na_cons (n_var (by rfl) (by first | exact .inl rfl | exact .inr (.inl rfl) | exact .inr (.inr rfl))) (na_cons (n_var (by rfl) (by first | exact .inl rfl | exact .inr (.inl rfl) | exact .inr (.inr rfl))) (na_cons (n_var (by rfl) (by first | exact .inl rfl | exact .inr (.inl rfl) | exact .inr (.inr rfl))) na_nil)))))) ns_nil)) ns_nil) (ns_cons (ns_setN sc_22.nd (by rfl) (by first | exact .inl rfl | exact .inr rfl) (n_dictc xo (by rfl) T.b_dict (n_add xo (n_lc (own := [("name", 12)]) xo sc_22.nd (ni_str (n_str (by rfl))) (blkOk_by (by rfl)) (by rfl) (by decide) (fun C cl => (by first | exact .inl rfl | exact .inr rfl)) (fun C cl => by first | exact .inr rfl | exact .inl rfl) (fun s H C cl fp => nts_nil) (fun s H C cl fp => (n_tup (na_cons (n_var (by rfl) (by first | exact .inl rfl | exact .inr (.inl rfl) | exact .inr (.inr rfl))) (na_cons (n_call hb (by rfl) D.f_14 (hr.mono (by omega)) (by rfl) T.g_14 T.F_14.kp (B_14 T) blk_passes (na_cons (n_var (by rfl) (by first | exact .inl rfl | exact .inr (.inl rfl) | exact .inr (.inr rfl))) (na_cons n_int na_nil))) na_nil))))) (n_lst (na_cons (n_tup (na_cons (n_str (by rfl)) (na_cons (n_add xo n_int (n_call hb (by rfl) D.f_14 (hr.mono (by omega)) (by rfl) T.g_14 T.F_14.kp (B_14 T) XF.passes (na_cons (n_var (by rfl) (by first | exact .inl rfl | exact .inr (.inl rfl) | exact .inr (.inr rfl))) (na_cons n_int na_nil)))) na_nil))) na_nil))))) (ns_cons (ns_setN sc_22.nd (by rfl) (by first | exact .inl rfl | exact .inr rfl) (n_call hb (by rfl) D.f_17 (hr.mono (by omega)) (by rfl) T.g_17 T.F_17.kp (B_17 T) XF.passes (na_cons (n_var (by rfl) (by first | exact .inl rfl | exact .inr (.inl rfl) | exact .inr (.inr rfl))) (na_cons (n_sumv xo (by rfl) T.b_sum (n_var (by rfl) (by first | exact .inl rfl | exact .inr (.inl rfl) | exact .inr (.inr rfl)))) na_nil)))) (ns_cons (ns_ret (n_cmp xo .eq (n_mth xo hb (by rfl) T.cl_2 T.n_13 T.m_9 D.f_9 (hr.mono (by omega)) (B_9 T) XF.passes (n_var (by rfl) (by first | exact .inl rfl | exact .inr (.inl rfl) | exact .inr (.inr rfl))) (na_cons (n_var (by rfl) (by first | exact .inl rfl | exact .inr (.inl rfl) | exact .inr (.inr rfl))) na_nil)) (n_ife (t_cmp xo .lt (n_var (by rfl) (by first | exact .inl rfl | exact .inr (.inl rfl) | exact .inr (.inr rfl))) (n_idx xo (n_var (by rfl) (by first | exact .inl rfl | exact .inr (.inl rfl) | exact .inr (.inr rfl))) (n_str (by rfl)))) (n_str (by rfl)) (n_ife (t_cmp xo .lt (n_var (by rfl) (by first | exact .inl rfl | exact .inr (.inl rfl) | exact .inr (.inr rfl))) (n_add xo (n_idx xo (n_var (by rfl) (by first | exact .inl rfl | exact .inr (.inl rfl) | exact .inr (.inr rfl))) (n_str (by rfl))) (n_idx xo (n_var (by rfl) (by first | exact .inl rfl | exact .inr (.inl rfl) | exact .inr (.inr rfl))) (n_str (by rfl))))) (n_str (by rfl)) (n_str (by rfl)))))) ns_nil)))))))))))))
/- _law_plain -/
theorem sc_23 : FnScope ["k", "bad", "trial", "deep", "f"] [] (L2.defScope st_23) := ⟨rfl, rfl, rfl, by decide +kernel, rfl, by decide +kernel, by decide +kernel⟩
theorem ok_23 (T : Fs G mg base fa fd co tb) (D : Al P w G mg base fa fd n) : FnOk P w G.K mg base (L2.CX P w) (8 * n + 8) (fa 23) (fd 23) [] (spF G prog (n + 1) 23) :=
  fn_byC T.F_23 sc_23 rfl rfl rfl rfl fun Bs b' A outer s H EX hb hr => by
    have xo := XF.xo hr
    exact (ns_cons (ns_par xo (na_cons (n_new xo hb (by rfl) T.m_0 D.f_0 (hr.mono (by omega)) (by rfl) T.k_2 (B_0 T) XF.passes (na_cons n_int na_nil)) (na_cons (n_tup (na_cons (n_str (by rfl)) (na_cons n_int (na_cons n_int na_nil)))) na_nil)) (ngs_cons (ng_name sc_23.nd (by rfl) (by first | exact .inl rfl | exact .inr rfl)) (ngs_cons (ng_name sc_23.nd (by rfl) (by first | exact .inl rfl | exact .inr rfl)) ngs_nil))) (ns_cons (ns_for XF.owns (by rfl) (ni_range1 (by rfl) T.b_range n_int) (ng_name sc_23.nd (by rfl) (by first | exact .inl rfl | exact .inr rfl)) (ns_cons (ns_setN sc_23.nd (by rfl) (by first | exact .inl rfl | exact .inr rfl) (n_tup (na_cons (n_str (by rfl)) (na_cons n_int (na_cons (n_var (by rfl) (by first | exact .inl rfl | exact .inr (.inl rfl) | exact .inr (.inr rfl))) na_nil))))) ns_nil)) (ns_badif (k := 8 * n + 1) T.L_23 (by rfl) sc_23.nd (by rfl) (by first | exact .inl rfl | exact .inr rfl) (.cons (LamP.of (by rfl) (by rfl) (fun _ _ _ _ _ => rfl) (fun E A outer s H C f c' hA => (n_new (lam_xo xo hA) hb (by rfl) T.m_0 D.f_0 ((lam_room hA).mono (by omega)) (by rfl) T.k_2 (B_0 T) (lam_passes (by rfl) (by rfl)) (na_cons (n_neg n_int) na_nil)))) (.cons (LamP.of (by rfl) (by rfl) (fun _ _ _ _ _ => rfl) (fun E A outer s H C f c' hA => (n_new (lam_xo xo hA) hb (by rfl) T.m_0 D.f_0 ((lam_room hA).mono (by omega)) (by rfl) T.k_2 (B_0 T) (lam_passes (by rfl) (by rfl)) (na_cons n_int na_nil)))) (.cons (LamP.of (by rfl) (by rfl) (fun _ _ _ _ _ => rfl) (fun E A outer s H C f c' hA => (n_mth (lam_xo xo hA) hb (by rfl) T.cl_2 T.n_5 T.m_1 D.f_1 ((lam_room hA).mono (by omega)) (B_1 T) (lam_passes (by rfl) (by rfl)) (n_var (by rfl) (by first | exact .inl rfl | exact .inr (.inl rfl) | exact .inr (.inr rfl))) (na_cons n_int na_nil)))) (.cons (LamP.of (by rfl) (by rfl) (fun _ _ _ _ _ => rfl) (fun E A outer s H C f c' hA => (n_mth (lam_xo xo hA) hb (by rfl) T.cl_2 T.n_5 T.m_1 D.f_1 ((lam_room hA).mono (by omega)) (B_1 T) (lam_passes (by rfl) (by rfl)) (n_var (by rfl) (by first | exact .inl rfl | exact .inr (.inl rfl) | exact .inr (.inr rfl))) (na_cons n_int na_nil)))) (.cons (LamP.of (by rfl) (by rfl) (fun _ _ _ _ _ => rfl) (fun E A outer s H C f c' hA => (n_mth (lam_xo xo hA) hb (by rfl) T.cl_2 T.n_6 T.m_2 D.f_2 ((lam_room hA).mono (by omega)) (B_2 T) (lam_passes (by rfl) (by rfl)) (n_var (by rfl) (by first | exact .inl rfl | exact .inr (.inl rfl) | exact .inr (.inr rfl))) (na_cons n_int (na_cons n_int na_nil))))) (.cons (LamP.of (by rfl) (by rfl) (fun _ _ _ _ _ => rfl) (fun E A outer s H C f c' hA => (n_mth (lam_xo xo hA) hb (by rfl) T.cl_2 T.n_6 T.m_2 D.f_2 ((lam_room hA).mono (by omega)) (B_2 T) (lam_passes (by rfl) (by rfl)) (n_var (by rfl) (by first | exact .inl rfl | exact .inr (.inl rfl) | exact .inr (.inr rfl))) (na_cons n_int (na_cons n_int na_nil))))) (.cons (LamP.of (by rfl) (by rfl) (fun _ _ _ _ _ => rfl) (fun E A outer s H C f c' hA => (n_mth (lam_xo xo hA) hb (by rfl) T.cl_2 T.n_10 T.m_3 D.f_3 ((lam_room hA).mono (by omega)) (B_3 T) (lam_passes (by rfl) (by rfl)) (n_var (by rfl) (by first | exact .inl rfl | exact .inr (.inl rfl) | exact .inr (.inr rfl))) (na_cons n_int (na_cons n_int na_nil))))) (.cons (LamP.of (by rfl) (by rfl) (fun _ _ _ _ _ => rfl) (fun E A outer s H C f c' hA => (n_mth (lam_xo xo hA) hb (by rfl) T.cl_2 T.n_10 T.m_3 D.f_3 ((lam_room hA).mono (by omega)) (B_3 T) (lam_passes (by rfl) (by rfl)) (n_var (by rfl) (by first | exact .inl rfl | exact .inr (.inl rfl) | exact .inr (.inr rfl))) (na_cons (n_neg n_int) (na_cons n_int na_nil))))) (.cons (LamP.of (by rfl) (by rfl) (fun _ _ _ _ _ => rfl) (fun E A outer s H C f c' hA => (n_mth (lam_xo xo hA) hb (by rfl) T.cl_2 T.n_10 T.m_3 D.f_3 ((lam_room hA).mono (by omega)) (B_3 T) (lam_passes (by rfl) (by rfl)) (n_var (by rfl) (by first | exact .inl rfl | exact .inr (.inl rfl) | exact .inr (.inr rfl))) (na_cons n_int (na_cons n_int na_nil))))) (.cons (LamP.of (by rfl) (by rfl) (fun _ _ _ _ _ => rfl) (fun E A outer s H C f c' hA => (n_mth (lam_xo xo hA) hb (by rfl) T.cl_2 T.n_9 T.m_4 D.f_4 ((lam_room hA).mono (by omega)) (B_4 T) (lam_passes (by rfl) (by rfl)) (n_var (by rfl) (by first | exact .inl rfl | exact .inr (.inl rfl) | exact .inr (.inr rfl))) (na_cons (n_tup na_nil) na_nil)))) (.cons (LamP.of (by rfl) (by rfl) (fun _ _ _ _ _ => rfl) (fun E A outer s H C f c' hA => (n_mth (lam_xo xo hA) hb (by rfl) T.cl_2 T.n_7 T.m_5 D.f_5 ((lam_room hA).mono (by omega)) (B_5 T) (lam_passes (by rfl) (by rfl)) (n_var (by rfl) (by first | exact .inl rfl | exact .inr (.inl rfl) | exact .inr (.inr rfl))) (na_cons (n_neg n_int) (na_cons n_int (na_cons n_int na_nil)))))) (.cons (LamP.of (by rfl) (by rfl) (fun _ _ _ _ _ => rfl) (fun E A outer s H C f c' hA => (n_mth (lam_xo xo hA) hb (by rfl) T.cl_2 T.n_7 T.m_5 D.f_5 ((lam_room hA).mono (by omega)) (B_5 T) (lam_passes (by rfl) (by rfl)) (n_var (by rfl) (by first | exact .inl rfl | exact .inr (.inl rfl) | exact .inr (.inr rfl))) (na_cons n_int (na_cons n_int (na_cons n_int na_nil)))))) (.cons (LamP.of (by rfl) (by rfl) (fun _ _ _ _ _ => rfl) (fun E A outer s H C f c' hA => (n_mth (lam_xo xo hA) hb (by rfl) T.cl_2 T.n_8 T.m_6 D.f_6 ((lam_room hA).mono (by omega)) (B_6 T) (lam_passes (by rfl) (by rfl)) (n_var (by rfl) (by first | exact .inl rfl | exact .inr (.inl rfl) | exact .inr (.inr rfl))) (na_cons (n_neg n_int) (na_cons (n_str (by rfl)) na_nil))))) (.cons (LamP.of (by rfl) (by rfl) (fun _ _ _ _ _ => rfl) (fun E A outer s H C f c' hA => (n_mth (lam_xo xo hA) hb (by rfl) T.cl_2 T.n_8 T.m_6 D.f_6 ((lam_room hA).mono (by omega)) (B_6 T) (lam_passes (by rfl) (by rfl)) (n_var (by rfl) (by first | exact .inl rfl | exact .inr (.inl rfl) | exact .inr (.inr rfl))) (na_cons n_int (na_cons (n_str (by rfl)) na_nil))))) (.cons (LamP.of (by rfl) (by rfl) (fun _ _ _ _ _ => rfl) (fun E A outer s H C f c' hA => (n_mth (lam_xo xo hA) hb (by rfl) T.cl_2 T.n_12 T.m_8 D.f_8 ((lam_room hA).mono (by omega)) (B_8 T) (lam_passes (by rfl) (by rfl)) (n_var (by rfl) (by first | exact .inl rfl | exact .inr (.inl rfl) | exact .inr (.inr rfl))) (na_cons (n_str (by rfl)) (na_cons n_int na_nil))))) (.cons (LamP.of (by rfl) (by rfl) (fun _ _ _ _ _ => rfl) (fun E A outer s H C f c' hA => (n_mth (lam_xo xo hA) hb (by rfl) T.cl_2 T.n_12 T.m_8 D.f_8 ((lam_room hA).mono (by omega)) (B_8 T) (lam_passes (by rfl) (by rfl)) (n_var (by rfl) (by first | exact .inl rfl | exact .inr (.inl rfl) | exact .inr (.inr rfl))) (na_cons (n_str (by rfl)) (na_cons (n_neg n_int) na_nil))))) (.cons (LamP.of (by rfl) (by rfl) (fun _ _ _ _ _ => rfl) (fun E A outer s H C f c' hA => (n_mth (lam_xo xo hA) hb (by rfl) T.cl_2 T.n_13 T.m_9 D.f_9 ((lam_room hA).mono (by omega)) (B_9 T) (lam_passes (by rfl) (by rfl)) (n_var (by rfl) (by first | exact .inl rfl | exact .inr (.inl rfl) | exact .inr (.inr rfl))) (na_cons n_disp0 na_nil)))) (.cons (LamP.of (by rfl) (by rfl) (fun _ _ _ _ _ => rfl) (fun E A outer s H C f c' hA => (n_mth (lam_xo xo hA) hb (by rfl) T.cl_2 T.n_13 T.m_9 D.f_9 ((lam_room hA).mono (by omega)) (B_9 T) (lam_passes (by rfl) (by rfl)) (n_var (by rfl) (by first | exact .inl rfl | exact .inr (.inl rfl) | exact .inr (.inr rfl))) (na_cons (n_disp (.cons (n_str (by rfl)) n_int .nil) (by exact List.cons_ne_nil _ _) (by decide)) na_nil)))) (.cons (LamP.of (by rfl) (by rfl) (fun _ _ _ _ _ => rfl) (fun E A outer s H C f c' hA => (n_mth (lam_xo xo hA) hb (by rfl) T.cl_2 T.n_13 T.m_9 D.f_9 ((lam_room hA).mono (by omega)) (B_9 T) (lam_passes (by rfl) (by rfl)) (n_var (by rfl) (by first | exact .inl rfl | exact .inr (.inl rfl) | exact .inr (.inr rfl))) (na_cons (n_disp (.cons (n_str (by rfl)) n_int (.cons (n_str (by rfl)) (n_neg n_int) .nil)) (by exact List.cons_ne_nil _ _) (by decide)) na_nil)))) (.cons (LamP.of (by rfl) (by rfl) (fun _ _ _ _ _ => rfl) (fun E A outer s H C f c' hA => (n_call hb (by rfl) D.f_10 ((lam_room hA).mono (by omega)) (by rfl) T.g_10 T.F_10.kp (B_10 T) (lam_passes (by rfl) (by rfl)) (na_cons (n_neg n_int) (na_cons (n_tup (na_cons (n_str (by rfl)) (na_cons n_int (na_cons n_int na_nil)))) na_nil))))) (.cons (LamP.of (by rfl) (by rfl) (fun _ _ _ _ _ => rfl) (fun E A outer s H C f c' hA => (n_call hb (by rfl) D.f_10 ((lam_room hA).mono (by omega)) (by rfl) T.g_10 T.F_10.kp (B_10 T) (lam_passes (by rfl) (by rfl)) (na_cons n_int (na_cons (n_tup na_nil) na_nil))))) (.cons (LamP.of (by rfl) (by rfl) (fun _ _ _ _ _ => rfl) (fun E A outer s H C f c' hA => (n_call hb (by rfl) D.f_10 ((lam_room hA).mono (by omega)) (by rfl) T.g_10 T.F_10.kp (B_10 T) (lam_passes (by rfl) (by rfl)) (na_cons n_int (na_cons (n_tup (na_cons (n_str (by rfl)) (na_cons n_int na_nil))) na_nil))))) (.cons (LamP.of (by rfl) (by rfl) (fun _ _ _ _ _ => rfl) (fun E A outer s H C f c' hA => (n_call hb (by rfl) D.f_10 ((lam_room hA).mono (by omega)) (by rfl) T.g_10 T.F_10.kp (B_10 T) (lam_passes (by rfl) (by rfl)) (na_cons n_int (na_cons (n_tup (na_cons (n_str (by rfl)) (na_cons n_int na_nil))) na_nil))))) (.cons (LamP.of (by rfl) (by rfl) (fun _ _ _ _ _ => rfl) (fun E A outer s H C f c' hA => (n_call hb (by rfl) D.f_10 ((lam_room hA).mono (by omega)) (by rfl) T.g_10 T.F_10.kp (B_10 T) (lam_passes (by rfl) (by rfl)) (na_cons n_int (na_cons (n_tup (na_cons (n_str (by rfl)) (na_cons n_int (na_cons n_int na_nil)))) na_nil))))) (.cons (LamP.of (by rfl) (by rfl) (fun _ _ _ _ _ => rfl) (fun E A outer s H C f c' hA => (n_call hb (by rfl) D.f_10 ((lam_room hA).mono (by omega)) (by rfl) T.g_10 T.F_10.kp (B_10 T) (lam_passes (by rfl) (by rfl)) (na_cons n_int (na_cons (n_tup (na_cons (n_str (by rfl)) (na_cons (n_neg n_int) (na_cons (n_tup (na_cons (n_str (by rfl)) (na_cons n_int (na_cons n_int na_nil)))) na_nil)))) na_nil))))) (.cons (LamP.of (by rfl) (by rfl) (fun _ _ _ _ _ => rfl) (fun E A outer s H C f c' hA => (n_call hb (by rfl) D.f_11 ((lam_room hA).mono (by omega)) (by rfl) T.g_11 T.F_11.kp (B_11 T) (lam_passes (by rfl) (by rfl)) (na_cons (n_var (by rfl) (by first | exact .inl rfl | exact .inr (.inl rfl) | exact .inr (.inr rfl))) (na_cons n_int na_nil))))) (.cons (LamP.of (by rfl) (by rfl) (fun _ _ _ _ _ => rfl) (fun E A outer s H C f c' hA => (n_call hb (by rfl) D.f_10 ((lam_room hA).mono (by omega)) (by rfl) T.g_10 T.F_10.kp (B_10 T) (lam_passes (by rfl) (by rfl)) (na_cons n_int (na_cons (n_tup (na_cons (n_str (by rfl)) (na_cons (n_tup (na_cons (n_str (by rfl)) (na_cons n_int (na_cons n_int na_nil)))) (na_cons (n_tup (na_cons (n_str (by rfl)) na_nil)) na_nil)))) na_nil))))) .nil))))))))))))))))))))))))))) (by rfl) xo (by decide) (fun hLs => (pe_bad (k := 8 * n + 1) (own := [("f", 4)]) xo sc_23.nd (blkOk_by (by rfl)) (by rfl) (by first | exact .inl rfl | exact .inr (.inl rfl) | exact .inr (.inr rfl)) (by rfl) (by decide) hLs (fun C cl => (by first | exact .inl rfl | exact .inr rfl)) (fun C cl => by first | exact .inr rfl | exact .inl rfl) (fun s H C cl fp => by rfl) T.g_16 T.F_16 (B_16 T) sc_16 (by first | exact .inl rfl | exact .inr (.inl rfl) | exact .inr (.inr rfl)) (fun cdg => LamX.told_gives (by rfl) T.x_1.at_ (by decide) (fun _ => rfl)) (hr.mono (by omega)) T.E_16 (fun _ _ => dr_str.mpr (by rfl)) (fun s H C cl fp => n_str (by rfl)) (by rfl))) (.more (t_or1 (t_cmp xo .ne (n_tup (na_cons (n_att xo T.a_1 T.n_1 (n_var (by rfl) (by first | exact .inl rfl | exact .inr (.inl rfl) | exact .inr (.inr rfl)))) (na_cons (n_att xo T.a_2 T.n_2 (n_var (by rfl) (by first | exact .inl rfl | exact .inr (.inl rfl) | exact .inr (.inr rfl)))) na_nil))) (n_tup (na_cons n_int (na_cons n_int na_nil)))))) (ns_cons (ns_ret n_bl) ns_nil) (ns_cons (ns_if (t_or (t_orC (t_cmp xo .ne (n_tup (na_cons (n_gint (by rfl) T.c_0) (na_cons (n_gint (by rfl) T.c_3) (na_cons (n_gint (by rfl) T.c_4) na_nil)))) (n_tup (na_cons n_int (na_cons n_int (na_cons n_int na_nil))))) (t_or1 (t_cmp xo .ne (n_lc (own := [("k", 0)]) xo sc_23.nd (ni_range1 (by rfl) T.b_range n_int) (blkOk_by (by rfl)) (by rfl) (by decide) (fun C cl => (by first | exact .inl rfl | exact .inr rfl)) (fun C cl => by first | exact .inr rfl | exact .inl rfl) (fun s H C cl fp => nts_nil) (fun s H C cl fp => (n_mth (XO.blk xo) hb (by rfl) T.cl_2 T.n_5 T.m_1 D.f_1 (hr.mono (by omega)) (B_1 T) blk_passes (n_var (by rfl) (by first | exact .inl rfl | exact .inr (.inl rfl) | exact .inr (.inr rfl))) (na_cons n_int na_nil)))) (n_lst (na_cons n_int (na_cons n_int (na_cons n_int (na_cons n_int (na_cons n_int (na_cons n_int na_nil))))))))))) (ns_cons (ns_ret n_bl) ns_nil) ns_nil) (ns_cons (ns_if (t_not (t_and (t_andC (t_cmp xo .eq (n_att xo T.a_1 T.n_1 (n_var (by rfl) (by first | exact .inl rfl | exact .inr (.inl rfl) | exact .inr (.inr rfl)))) n_int) (t_andC (t_cmp xo .eq (n_mth xo hb (by rfl) T.cl_2 T.n_6 T.m_2 D.f_2 (hr.mono (by omega)) (B_2 T) XF.passes (n_var (by rfl) (by first | exact .inl rfl | exact .inr (.inl rfl) | exact .inr (.inr rfl))) (na_cons (n_neg n_int) (na_cons n_int na_nil))) (n_neg n_int)) (t_and1 (t_not (t_val (n_mth xo hb (by rfl) T.cl_2 T.n_10 T.m_3 D.f_3 (hr.mono (by omega)) (B_3 T) XF.passes (n_var (by rfl) (by first | exact .inl rfl | exact .inr (.inl rfl) | exact .inr (.inr rfl))) (na_cons n_int (na_cons n_int na_nil)))))))))) (ns_cons (ns_ret n_bl) ns_nil) ns_nil) (ns_cons (ns_if (t_not (t_and (t_andC (t_cmp xo .eq (n_mth xo hb (by rfl) T.cl_2 T.n_9 T.m_4 D.f_4 (hr.mono (by omega)) (B_4 T) XF.passes (n_var (by rfl) (by first | exact .inl rfl | exact .inr (.inl rfl) | exact .inr (.inr rfl))) (na_cons (n_str (by rfl)) na_nil)) (n_str (by rfl))) (t_andC (t_cmp xo .eq (n_mth xo hb (by rfl) T.cl_2 T.n_7 T.m_5 D.f_5 (hr.mono (by omega)) (B_5 T) XF.passes (n_var (by rfl) (by first | exact .inl rfl | exact .inr (.inl rfl) | exact .inr (.inr rfl))) (na_cons n_int (na_cons n_int (na_cons n_int na_nil)))) (n_tup (na_cons n_int (na_cons n_int na_nil)))) (t_and1 (t_cmp xo .eq (n_mth xo hb (by rfl) T.cl_2 T.n_8 T.m_6 D.f_6 (hr.mono (by omega)) (B_6 T) XF.passes (n_var (by rfl) (by first | exact .inl rfl | exact .inr (.inl rfl) | exact .inr (.inr rfl))) (na_cons n_int (na_cons (n_str (by rfl)) na_nil))) (n_str (by rfl)))))))) (ns_cons (ns_ret n_bl) ns_nil) ns_nil) (ns_cons (ns_if (t_not (t_and (t_andC (t_cmp xo .eq (n_mth xo hb (by rfl) T.cl_2 T.n_11 T.m_7 D.f_7 (hr.mono (by omega)) (B_7 T) XF.passes (n_var (by rfl) (by first | exact .inl rfl | exact .inr (.inl rfl) | exact .inr (.inr rfl))) (na_cons (n_tup (na_cons n_int (na_cons n_int (na_cons n_int (na_cons n_int na_nil))))) na_nil)) (n_tup (na_cons n_int (na_cons n_int (na_cons n_int (na_cons n_int na_nil)))))) (t_and1 (t_cmp xo .eq (n_mth xo hb (by rfl) T.cl_2 T.n_12 T.m_8 D.f_8 (hr.mono (by omega)) (B_8 T) XF.passes (n_var (by rfl) (by first | exact .inl rfl | exact .inr (.inl rfl) | exact .inr (.inr rfl))) (na_cons (n_str (by rfl)) (na_cons n_int na_nil))) (n_tup (na_cons (n_str (by rfl)) (na_cons (n_str (by rfl)) (na_cons (n_str (by rfl)) na_nil))))))))) (ns_cons (ns_ret n_bl) ns_nil) ns_nil) (ns_cons (ns_if (t_cmp xo .ne (n_mth xo hb (by rfl) T.cl_2 T.n_13 T.m_9 D.f_9 (hr.mono (by omega)) (B_9 T) XF.passes (n_var (by rfl) (by first | exact .inl rfl | exact .inr (.inl rfl) | exact .inr (.inr rfl))) (na_cons (n_disp (.cons (n_str (by rfl)) n_int (.cons (n_str (by rfl)) n_int .nil)) (by exact List.cons_ne_nil _ _) (by decide)) na_nil)) (n_str (by rfl))) (ns_cons (ns_ret n_bl) ns_nil) ns_nil) (ns_cons (ns_if (t_cmp xo .ne (n_call hb (by rfl) D.f_10 (hr.mono (by omega)) (by rfl) T.g_10 T.F_10.kp (B_10 T) XF.passes (na_cons n_int (na_cons (n_tup (na_cons (n_str (by rfl)) (na_cons (n_tup (na_cons (n_str (by rfl)) (na_cons n_int (na_cons n_int na_nil)))) (na_cons (n_tup (na_cons (n_str (by rfl)) (na_cons n_int (na_cons (n_tup (na_cons (n_str (by rfl)) (na_cons n_int (na_cons (n_str (by rfl)) na_nil)))) na_nil)))) na_nil)))) na_nil))) (n_tup (na_cons n_int (na_cons (n_tup (na_cons (n_str (by rfl)) (na_cons (n_str (by rfl)) na_nil))) na_nil)))) (ns_cons (ns_ret n_bl) ns_nil) ns_nil) (ns_cons (ns_ret (n_and (n_andC (n_cmp xo .eq (n_mth xo hb (by rfl) T.cl_2 T.n_11 T.m_7 D.f_7 (hr.mono (by omega)) (B_7 T) XF.passes (n_new xo hb (by rfl) T.m_0 D.f_0 (hr.mono (by omega)) (by rfl) T.k_2 (B_0 T) XF.passes (na_cons n_int na_nil)) (na_cons (n_tup na_nil) na_nil)) (n_tup na_nil)) (n_and1 (n_cmp xo .eq (n_mth xo hb (by rfl) T.cl_2 T.n_12 T.m_8 D.f_8 (hr.mono (by omega)) (B_8 T) XF.passes (n_new xo hb (by rfl) T.m_0 D.f_0 (hr.mono (by omega)) (by rfl) T.k_2 (B_0 T) XF.passes (na_cons n_int na_nil)) (na_cons (n_tup na_nil) (na_cons n_int na_nil))) (n_tup na_nil)))))) ns_nil))))))))))
/- law -/
theorem sc_24 : FnScope ["script", "dice", "seed", "step", "shape", "due", "trial", "own"] ["script"] (L2.defScope st_24) := ⟨rfl, rfl, rfl, by decide +kernel, rfl, by decide +kernel, by decide +kernel⟩
theorem ok_24 (T : Fs G mg base fa fd co tb) (D : Al P w G mg base fa fd n) : FnOk P w G.K mg base (L2.CX P w) (8 * n + 8) (fa 24) (fd 24) ["script"] (spF G prog (n + 1) 24) :=
  fn_by T.F_24 sc_24 rfl rfl rfl rfl fun Bs b' cdv A outer s H EX hb hr => by
    have xo := XF.xo hr
    exact (ns_cons (ns_for XF.owns (by rfl) (ni_list xo (n_call hb (by rfl) D.f_15 (hr.mono (by omega)) (by rfl) T.g_15 T.F_15.kp (B_15 T) XF.passes (na_cons (n_var (by rfl) (by first | exact .inl rfl | exact .inr (.inl rfl) | exact .inr (.inr rfl))) (na_cons n_int na_nil)))) (ng_name sc_24.nd (by rfl) (by first | exact .inl rfl | exact .inr rfl)) (ns_cons (ns_setN sc_24.nd (by rfl) (by first | exact .inl rfl | exact .inr rfl) (n_call hb (by rfl) D.f_14 (hr.mono (by omega)) (by rfl) T.g_14 T.F_14.kp (B_14 T) XF.passes (na_cons (n_var (by rfl) (by first | exact .inl rfl | exact .inr (.inl rfl) | exact .inr (.inr rfl))) (na_cons n_int na_nil)))) (ns_cons (ns_par2 (by rfl) sc_24.nd (by rfl) (by rfl) (by decide) (by rfl) (by rfl) (na_cons (n_new xo hb (by rfl) T.m_0 D.f_0 (hr.mono (by omega)) (by rfl) T.k_2 (B_0 T) XF.passes (na_cons (n_var (by rfl) (by first | exact .inl rfl | exact .inr (.inl rfl) | exact .inr (.inr rfl))) na_nil)) (na_cons (n_disp (.cons (n_str (by rfl)) (n_var (by rfl) (by first | exact .inl rfl | exact .inr (.inl rfl) | exact .inr (.inr rfl))) (.cons (n_str (by rfl)) n_int .nil)) (by exact List.cons_ne_nil _ _) (by decide)) na_nil)) (by rfl)) (ns_cons (ns_for XF.owns (by rfl) (ni_range1 (by rfl) T.b_range (n_call hb (by rfl) D.f_14 (hr.mono (by omega)) (by rfl) T.g_14 T.F_14.kp (B_14 T) XF.passes (na_cons (n_var (by rfl) (by first | exact .inl rfl | exact .inr (.inl rfl) | exact .inr (.inr rfl))) (na_cons n_int na_nil)))) (ng_name sc_24.nd (by rfl) (by first | exact .inl rfl | exact .inr rfl)) (ns_cons (ns_if (t_not (t_val (n_call hb (by rfl) D.f_22 (hr.mono (by omega)) (by rfl) T.g_22 T.F_22.kp (B_22 T) XF.passes (na_cons (n_var (by rfl) (by first | exact .inl rfl | exact .inr (.inl rfl) | exact .inr (.inr rfl))) (na_cons (n_var (by rfl) (by first | exact .inl rfl | exact .inr (.inl rfl) | exact .inr (.inr rfl))) (na_cons (n_var (by rfl) (by first | exact .inl rfl | exact .inr (.inl rfl) | exact .inr (.inr rfl))) na_nil)))))) (ns_cons (ns_ret n_bl) ns_nil) ns_nil) (ns_cons (ns_if (t_cmp xo .ne (n_tup (na_cons (n_att xo T.a_1 T.n_1 (n_var (by rfl) (by first | exact .inl rfl | exact .inr (.inl rfl) | exact .inr (.inr rfl)))) (na_cons (n_att xo T.a_2 T.n_2 (n_var (by rfl) (by first | exact .inl rfl | exact .inr (.inl rfl) | exact .inr (.inr rfl)))) na_nil))) (n_tup (na_cons (n_idx xo (n_var (by rfl) (by first | exact .inl rfl | exact .inr (.inl rfl) | exact .inr (.inr rfl))) (n_str (by rfl))) (na_cons (n_idx xo (n_var (by rfl) (by first | exact .inl rfl | exact .inr (.inl rfl) | exact .inr (.inr rfl))) (n_str (by rfl))) na_nil)))) (ns_cons (ns_ret n_bl) ns_nil) ns_nil) ns_nil))) (ns_cons (ns_setN sc_24.nd (by rfl) (by first | exact .inl rfl | exact .inr rfl) (n_call hb (by rfl) D.f_18 (hr.mono (by omega)) (by rfl) T.g_18 T.F_18.kp (B_18 T) XF.passes (na_cons (n_var (by rfl) (by first | exact .inl rfl | exact .inr (.inl rfl) | exact .inr (.inr rfl))) (na_cons n_int na_nil)))) (ns_cons (ns_setN sc_24.nd (by rfl) (by first | exact .inl rfl | exact .inr rfl) (n_call hb (by rfl) D.f_19 (hr.mono (by omega)) (by rfl) T.g_19 T.F_19.kp (B_19 T) XF.passes (na_cons (n_disp (.cons (n_str (by rfl)) (n_var (by rfl) (by first | exact .inl rfl | exact .inr (.inl rfl) | exact .inr (.inr rfl))) (.cons (n_str (by rfl)) n_int .nil)) (by exact List.cons_ne_nil _ _) (by decide)) (na_cons (n_var (by rfl) (by first | exact .inl rfl | exact .inr (.inl rfl) | exact .inr (.inr rfl))) na_nil)))) (ns_cons (ns_if (t_or (t_orC (t_cmp xo .ne (n_call hb (by rfl) D.f_10 (hr.mono (by omega)) (by rfl) T.g_10 T.F_10.kp (B_10 T) XF.passes (na_cons (n_var (by rfl) (by first | exact .inl rfl | exact .inr (.inl rfl) | exact .inr (.inr rfl))) (na_cons (n_var (by rfl) (by first | exact .inl rfl | exact .inr (.inl rfl) | exact .inr (.inr rfl))) na_nil))) (n_var (by rfl) (by first | exact .inl rfl | exact .inr (.inl rfl) | exact .inr (.inr rfl)))) (t_orC (t_cmp xo .isnot (n_call hb (by rfl) D.f_11 (hr.mono (by omega)) (by rfl) T.g_11 T.F_11.kp (B_11 T) XF.passes (na_cons (n_var (by rfl) (by first | exact .inl rfl | exact .inr (.inl rfl) | exact .inr (.inr rfl))) (na_cons n_int na_nil))) n_non) (t_or1 (t_cmp xo .ne (n_call hb (by rfl) D.f_12 (hr.mono (by omega)) (by rfl) T.g_12 T.F_12.kp (B_12 T) XF.passes (na_cons (n_new xo hb (by rfl) T.m_0 D.f_0 (hr.mono (by omega)) (by rfl) T.k_2 (B_0 T) XF.passes (na_cons (n_var (by rfl) (by first | exact .inl rfl | exact .inr (.inl rfl) | exact .inr (.inr rfl))) na_nil)) (na_cons (n_var (by rfl) (by first | exact .inl rfl | exact .inr (.inl rfl) | exact .inr (.inr rfl))) na_nil))) (n_var (by rfl) (by first | exact .inl rfl | exact .inr (.inl rfl) | exact .inr (.inr rfl)))))))) (ns_cons (ns_ret n_bl) ns_nil) ns_nil) ns_nil))))))) (ns_cons (ns_ret (n_call0 hb (by rfl) D.f_23 (hr.mono (by omega)) (by rfl) T.g_23 T.F_23.kp (B_23 T) XF.passes)) ns_nil))
end
end K01

set_option linter.all false
set_option maxRecDepth 100000
set_option maxHeartbeats 1000001
namespace K01
open PI
theorem fn0 : prog.fns[0]? = some i_Dice___init__ := rfl
theorem fn1 : prog.fns[1]? = some i_Dice_roll := rfl
theorem fn2 : prog.fns[2]? = some i_Dice_number := rfl
theorem fn3 : prog.fns[3]? = some i_Dice_is_so := rfl
theorem fn4 : prog.fns[4]? = some i_Dice_one_of := rfl
theorem fn5 : prog.fns[5]? = some i_Dice_row := rfl
theorem fn6 : prog.fns[6]? = some i_Dice_text := rfl
theorem fn7 : prog.fns[7]? = some i_Dice_shuffled := rfl
theorem fn8 : prog.fns[8]? = some i_Dice_picked := rfl
theorem fn9 : prog.fns[9]? = some i_Dice_weighted := rfl
theorem fn10 : prog.fns[10]? = some i_drawn := rfl
theorem fn11 : prog.fns[11]? = some i_check_shape := rfl
theorem fn12 : prog.fns[12]? = some i_draw_from := rfl
theorem fn13 : prog.fns[13]? = some i__law_dice := rfl
theorem fn14 : prog.fns[14]? = some i__law_roll := rfl
theorem fn15 : prog.fns[15]? = some i__law_rounds := rfl
theorem fn17 : prog.fns[17]? = some i__law_next := rfl
theorem fn18 : prog.fns[18]? = some i__law_shape := rfl
theorem fn19 : prog.fns[19]? = some i__law_drawn := rfl
theorem fn20 : prog.fns[20]? = some i__law_shuffled := rfl
theorem fn21 : prog.fns[21]? = some i__law_picked := rfl
theorem fn22 : prog.fns[22]? = some i__law_step := rfl
theorem fn23 : prog.fns[23]? = some i__law_plain := rfl
theorem fn24 : prog.fns[24]? = some i_law := rfl
/-- the next seed; what a draw below m gives -/
def nx (s : Int) : Int := ((s * 75 + 74).fmod 65537).fmod 65536
def dr (s m : Int) : Int := (nx s * m).fdiv 65536
theorem fm {a b : Int} (h : 0 < b) : a.fmod b = a % b := Int.fmod_eq_emod_of_nonneg a (by omega)
theorem fd {a b : Int} (h : 0 < b) : a.fdiv b = a / b := Int.fdiv_eq_ediv_of_nonneg a (by omega)
theorem nx_lo (s : Int) : 0 ≤ nx s := by unfold nx; rw [fm (by decide)]; omega
theorem nx_hi (s : Int) : nx s < 65536 := by unfold nx; rw [fm (by decide)]; omega
theorem dr_lo {s m : Int} (h : 0 ≤ m) : 0 ≤ dr s m := by
  unfold dr
  rw [fd (by decide)]
  exact Int.ediv_nonneg (Int.mul_nonneg (nx_lo s) h) (by decide)
theorem dr_hi {s m : Int} (h : 0 < m) : dr s m < m := by
  unfold dr
  rw [fd (by decide)]
  refine Int.ediv_lt_of_lt_mul (by decide) ?_
  rw [Int.mul_comm m 65536]
  exact Int.mul_lt_mul_of_pos_right (nx_hi s) h
/-- the program's dice; the law's own -/
abbrev TT (s k : Int) : Ob := .ins 2 [(1, .int s), (2, .int k)]
abbrev sn : D := .str [115, 101, 101, 100]
abbrev rn : D := .str [114, 111, 108, 108, 115]
abbrev OO (s k : Int) : Ob := .dic false [(sn, .int s), (rn, .int k)]
/-! ### one step of the interpreter -/
theorem mul_ii {m : Bool} {a b : Int} {h : Hv} (hc : (-18446744073709551616 < a ∧ a < 18446744073709551616) ∨ (-18446744073709551616 < b ∧ b < 18446744073709551616)) : mulD m (.int a) (.int b) h = .ok (.int (a * b)) h := by
  unfold mulD big
  exact if_pos hc
theorem ins_at {h : Hv} {i c : Nat} {fs : List (Nat × D)} (e : h[i]? = some (.ins c fs)) : insOf h (.ref i) = some (i, c, fs) := by
  simp only [insOf, e]
theorem len_of {α : Type} {h : List α} {i : Nat} {o : α} (e : h[i]? = some o) : i < h.length := (List.getElem?_eq_some_iff.mp e).1
theorem at_set {h : Hv} {i : Nat} {o u : Ob} (e : h[i]? = some o) : (h.set i u)[i]? = some u := List.getElem?_set_self (len_of e)
theorem set_len {h : Hv} {i : Nat} {u : Ob} : (h.set i u).length = h.length := List.length_set ..
theorem take_set {h : Hv} {i : Nat} {u : Ob} : (h.set i u).take h.length = h.set i u := List.take_of_length_le (by rw [List.length_set]; exact Nat.le_refl _)
/-- a comprehension's step, a loop, kept shut -/
def stp (c : Cc) (σ : Sl) (own : List Nat) (i : Nat) (el : E) (x : D) (hh : Hv) : Res (Option D) := (asg c (.var i) x (wipeS σ own) hh).bind fun σ1 h2 => (ev c σ1 el h2).bind fun y h4 => .ok (some y) h4
theorem ev_tup {c : Cc} {σ : Sl} {m : Bool} {own : List Nat} {i : Nat} {it : I} {el : E} {h : Hv} : ev c σ (.cmpr .tup m own (.var i) it [] el none) h = (evI c σ it h).bind fun xs h1 => if Nat.ble xs.length sizeMax then (collect (stp c σ own i el) xs h1).bind fun ys h2 => .ok (.tup ys) h2 else .no 305 := by
  simp only [ev]
  rfl
theorem ev_lst {c : Cc} {σ : Sl} {m : Bool} {own : List Nat} {i : Nat} {it : I} {el : E} {h : Hv} : ev c σ (.cmpr .lst m own (.var i) it [] el none) h = (evI c σ it h).bind fun xs h1 => (lcLoop h1.length (stp c σ own i el) xs (h1 ++ [.lst []])).bind fun _ h2 => lcEnd m h1.length h2 := by
  simp only [ev]
  rfl
def fl (c : Cc) (t : T) (b : List S) (xs : List D) (σ : Sl) (h : Hv) : Out := floop (fun d σ h => asg c t d σ h) (fun σ h => exs c b σ h) xs σ h
theorem ex_fr {c : Cc} {t : T} {it : I} {b : List S} {σ : Sl} {h : Hv} : ex c (.fr t it b) σ h = (evI c σ it h).out σ fun xs h1 => fl c t b xs σ h1 := by
  simp only [ex]
  rfl
theorem fl_nil {c : Cc} {t : T} {b : List S} {σ : Sl} {h : Hv} : fl c t b [] σ h = .nx σ h := rfl
theorem fl_cons {c : Cc} {t : T} {b : List S} {x : D} {xs : List D} {σ : Sl} {h : Hv} : fl c t b (x :: xs) σ h = (asg c t x σ h).out σ fun σ1 h1 => match exs c b σ1 h1 with
    | .nx σ2 h2 => fl c t b xs σ2 h2
    | .ct σ2 h2 => fl c t b xs σ2 h2
    | .bk σ2 h2 => .nx σ2 h2
    | o => o := rfl
theorem st_int {base j : Nat} {d : Int} : stOk base j (.int d) = true := by unfold stOk; split <;> rfl
theorem st_str {base j : Nat} {d : List Nat} : stOk base j (.str d) = true := by unfold stOk; split <;> rfl
theorem smax : sizeMax = 16777216 := rfl
theorem callF_at {n base f : Nat} {fn : Fn} {xs : List D} {h : Hv} (e : prog.fns[f]? = some fn) : callF prog (n + 1) base f xs h = if (fill fn xs).length = fn.np then leave fn h.length (exs ⟨callF prog n, if fn.gc then h.length else base, prog⟩ fn.body (PI.start fn (fill fn xs)) h) else .no 604 := by
  simp only [callF, e]
theorem sp_roll {n base j : Nat} {s k m : Int} {h : Hv} (e : h[j]? = some (TT s k)) (h1 : 1 ≤ m) (h2 : m ≤ 65536) : callF prog (n + 1) base 1 [.ref j, .int m] h = .ok (.int (dr s m)) (h.set j (TT (nx s) (k + 1))) := by
  have hm : ∀ a h, mulD false (.int a) (.int m) h = .ok (.int (a * m)) h := fun a h => mul_ii (.inr ⟨by omega, by omega⟩)
  rw [callF_at fn1]
  simp [fill, PI.start, leave, exs, ex, ev, evs, evo, evAnd, evOr, evI, asg, asgs, Res.bind, Res.out, asB, quiet, opB, opC, intC, addD, insOf, fget, fput, opt, setFld, setFldC, augD, st_int, st_str, Nat.blt, Nat.ble, D.bel, D.bels, take_set, dicOf, obDic, idxD, D.atom, kget, kput, D.beq, setSub, okb, okn, deq, deref, D.flat, D.flats, D.eqb, D.eqbs, smax, biD, bmD, lenD, ↓ev_tup, ↓ev_lst, ↓ex_fr, i_Dice_roll, h1, h2, e, at_set e, mul_ii, hm, dr, nx]
theorem sp_number {n base j : Nat} {s k lo hi : Int} {h : Hv} (e : h[j]? = some (TT s k)) (h1 : lo ≤ hi) (h2 : hi < lo + 65536) : callF prog (n + 2) base 2 [.ref j, .int lo, .int hi] h = .ok (.int (lo + dr s (hi - lo + 1))) (h.set j (TT (nx s) (k + 1))) := by
  have r := fun base => sp_roll (n := n) (base := base) e (m := hi - lo + 1) (by omega) (by omega)
  rw [callF_at fn2]
  simp [fill, PI.start, leave, exs, ex, ev, evs, evo, evAnd, evOr, evI, asg, asgs, Res.bind, Res.out, asB, quiet, opB, opC, intC, addD, insOf, fget, fput, opt, setFld, setFldC, augD, st_int, st_str, Nat.blt, Nat.ble, D.bel, D.bels, take_set, dicOf, obDic, idxD, D.atom, kget, kput, D.beq, setSub, okb, okn, deq, deref, D.flat, D.flats, D.eqb, D.eqbs, smax, biD, bmD, lenD, ↓ev_tup, ↓ev_lst, ↓ex_fr, i_Dice_number, h1, h2, e, r]
theorem sp_isso {n base j : Nat} {s k t b : Int} {h : Hv} (e : h[j]? = some (TT s k)) (h0 : 0 ≤ t) (h1 : t ≤ b) (h2 : 1 ≤ b) (h3 : b ≤ 65536) : callF prog (n + 2) base 3 [.ref j, .int t, .int b] h = .ok (.bl (decide (dr s b < t))) (h.set j (TT (nx s) (k + 1))) := by
  have r := fun base => sp_roll (n := n) (base := base) e h2 h3
  rw [callF_at fn3]
  simp [fill, PI.start, leave, exs, ex, ev, evs, evo, evAnd, evOr, evI, asg, asgs, Res.bind, Res.out, asB, quiet, opB, opC, intC, addD, insOf, fget, fput, opt, setFld, setFldC, augD, st_int, st_str, Nat.blt, Nat.ble, D.bel, D.bels, take_set, dicOf, obDic, idxD, D.atom, kget, kput, D.beq, setSub, okb, okn, deq, deref, D.flat, D.flats, D.eqb, D.eqbs, smax, biD, bmD, lenD, ↓ev_tup, ↓ev_lst, ↓ex_fr, i_Dice_is_so, h0, h1, e, r]
theorem sp_next {n base j : Nat} {s k m : Int} {h : Hv} (e : h[j]? = some (OO s k)) (h1 : 1 ≤ m) (h2 : m ≤ 65536) : callF prog (n + 1) base 17 [.ref j, .int m] h = .ok (.int (dr s m)) (h.set j (OO (nx s) (k + 1))) := by
  have hm : ∀ a h, mulD false (.int a) (.int m) h = .ok (.int (a * m)) h := fun a h => mul_ii (.inr ⟨by omega, by omega⟩)
  rw [callF_at fn17]
  simp [fill, PI.start, leave, exs, ex, ev, evs, evo, evAnd, evOr, evI, asg, asgs, Res.bind, Res.out, asB, quiet, opB, opC, intC, addD, insOf, fget, fput, opt, setFld, setFldC, augD, st_int, st_str, Nat.blt, Nat.ble, D.bel, D.bels, take_set, dicOf, obDic, idxD, D.atom, kget, kput, D.beq, setSub, okb, okn, deq, deref, D.flat, D.flats, D.eqb, D.eqbs, smax, biD, bmD, lenD, ↓ev_tup, ↓ev_lst, ↓ex_fr, i__law_next, h1, h2, e, at_set e, mul_ii, hm, dr, nx]
theorem set_same {h : Hv} {i : Nat} {o : Ob} (e : h[i]? = some o) : h.set i o = h := by
  obtain ⟨hl, e⟩ := List.getElem?_eq_some_iff.mp e
  rw [← e, List.set_getElem_self]
theorem set_two {h : Hv} {i : Nat} {o u : Ob} : (h.set i o).set i u = h.set i u := List.set_set ..
theorem at_new {h : Hv} {o : Ob} : (h ++ [o])[h.length]? = some o := by simp
theorem at_old {h l : Hv} {i : Nat} {o : Ob} (e : h[i]? = some o) : (h ++ l)[i]? = some o := by rw [List.getElem?_append_left (len_of e), e]
theorem set_new {h : Hv} {o u : Ob} : (h ++ [o]).set h.length u = h ++ [u] := by simp
theorem set_old {h l : Hv} {i : Nat} {o u : Ob} (e : h[i]? = some o) : (h ++ l).set i u = h.set i u ++ l := List.set_append_left _ _ (len_of e)
theorem at_ne {h : Hv} {i j : Nat} {u : Ob} (n : i ≠ j) : (h.set i u)[j]? = h[j]? := List.getElem?_set_ne n
theorem take_new {h l : Hv} : (h ++ l).take h.length = h := List.take_left
/-- the law's dice -/
abbrev LD (a b c : Int) : Ob := .lst [.int a, .int b, .int c]
theorem fmod_lo {a m : Int} (h : 1 ≤ m) : 0 ≤ a.fmod m := by
  rw [fm (by omega)]
  exact Int.emod_nonneg _ (by omega)
theorem fmod_hi {a m : Int} (h : 1 ≤ m) : a.fmod m < m := by
  rw [fm (by omega)]
  exact Int.emod_lt_of_pos _ (by omega)
theorem sp_lroll {n base i : Nat} {a b c m : Int} {h : Hv} (e : h[i]? = some (LD a b c)) (h1 : 1 ≤ m) (h2 : m ≤ 65536) : ∃ r a' b' c', 0 ≤ r ∧ r < m ∧ callF prog (n + 1) base 14 [.ref i, .int m] h = .ok (.int r) (h.set i (LD a' b' c')) := by
  have hd : ∀ {α : Type} (x y : α), (if ¬ m = 0 ∧ m.natAbs < 1073741824 then x else y) = x := fun x y => if_pos ⟨by omega, by omega⟩
  have hd2 : ∀ {α : Type} (x y : α), (if ¬ m = 0 then x else y) = x := fun x y => if_pos (by omega)
  have hm0 : ¬ m = 0 := by omega
  have hmn : m.natAbs < 1073741824 := by omega
  have hbig : ¬ 100000000 < m := by omega
  have hst : ∀ B d, stOk B i (.int d) = true := fun _ _ => st_int
  have il := len_of e
  rw [callF_at fn14]
  by_cases hc : c = 2 ∨ (c = 1 ∧ 0 < a)
  · refine ⟨a.fmod m, a.fdiv m, b, c, fmod_lo h1, fmod_hi h1, ?_⟩
    rcases hc with hc | ⟨hc, ha⟩
    · subst hc
      simp [fill, PI.start, leave, exs, ex, ev, evs, evo, evAnd, evOr, evI, asg, asgs, Res.bind, Res.out, asB, quiet, opB, opC, intC, addD, insOf, fget, fput, opt, setFld, setFldC, augD, st_int, st_str, Nat.blt, Nat.ble, D.bel, D.bels, take_set, dicOf, obDic, idxD, D.atom, kget, kput, D.beq, setSub, okb, okn, deq, deref, D.flat, D.flats, D.eqb, D.eqbs, smax, biD, bmD, lenD, ↓ev_tup, ↓ev_lst, ↓ex_fr, i__law_roll, e, seqOf, obSeq, ixAt, intD, hm0, hmn, at_set e]
    · subst hc
      simp [fill, PI.start, leave, exs, ex, ev, evs, evo, evAnd, evOr, evI, asg, asgs, Res.bind, Res.out, asB, quiet, opB, opC, intC, addD, insOf, fget, fput, opt, setFld, setFldC, augD, st_int, st_str, Nat.blt, Nat.ble, D.bel, D.bels, take_set, dicOf, obDic, idxD, D.atom, kget, kput, D.beq, setSub, okb, okn, deq, deref, D.flat, D.flats, D.eqb, D.eqbs, smax, biD, bmD, lenD, ↓ev_tup, ↓ev_lst, ↓ex_fr, i__law_roll, e, seqOf, obSeq, ixAt, intD, hm0, hmn, at_set e, ha]
  · have hc2 : ¬ c = 2 := fun z => hc (.inl z)
    refine ⟨_, (a * 48271 + b * 69621 + 11).fmod 2147483647, b + 1, 0, fmod_lo (a := ((a * 48271 + b * 69621 + 11).fmod 2147483647).fdiv 7) h1, fmod_hi h1, ?_⟩
    by_cases h3 : c = 1
    · have ha : ¬ 0 < a := fun z => hc (.inr ⟨h3, z⟩)
      subst h3
      simp [fill, PI.start, leave, exs, ex, ev, evs, evo, evAnd, evOr, evI, asg, asgs, Res.bind, Res.out, asB, quiet, opB, opC, intC, addD, insOf, fget, fput, opt, setFld, setFldC, augD, st_int, st_str, Nat.blt, Nat.ble, D.bel, D.bels, take_set, dicOf, obDic, idxD, D.atom, kget, kput, D.beq, setSub, okb, okn, deq, deref, D.flat, D.flats, D.eqb, D.eqbs, smax, biD, bmD, lenD, ↓ev_tup, ↓ev_lst, ↓ex_fr, i__law_roll, e, seqOf, obSeq, ixAt, intD, hm0, hmn, at_set e, ha, hbig, mul_ii]
    · simp [fill, PI.start, leave, exs, ex, ev, evs, evo, evAnd, evOr, evI, asg, asgs, Res.bind, Res.out, asB, quiet, opB, opC, intC, addD, insOf, fget, fput, opt, setFld, setFldC, augD, st_int, st_str, Nat.blt, Nat.ble, D.bel, D.bels, take_set, dicOf, obDic, idxD, D.atom, kget, kput, D.beq, setSub, okb, okn, deq, deref, D.flat, D.flats, D.eqb, D.eqbs, smax, biD, bmD, lenD, ↓ev_tup, ↓ev_lst, ↓ex_fr, i__law_roll, e, seqOf, obSeq, ixAt, intD, hm0, hmn, at_set e, hc2, h3, hbig, mul_ii]
end K01

set_option linter.all false
set_option maxRecDepth 100000
set_option maxHeartbeats 1000001
namespace K01
open PI
/-- a relation of draws, n of them in a row -/
inductive Rs (R : Int → Int → D → Int → Int → Prop) : Nat → Int → Int → List D → Int → Int → Prop
  | nil {s k : Int} : Rs R 0 s k [] s k
  | cons {n : Nat} {s k s1 k1 s2 k2 : Int} {v : D} {vs : List D} : R s k v s1 k1 → Rs R n s1 k1 vs s2 k2 → Rs R (n + 1) s k (v :: vs) s2 k2
theorem rs_total {R : Int → Int → D → Int → Int → Prop} {Gd : D → Prop} (h : ∀ s k, ∃ v s' k', R s k v s' k' ∧ Gd v) : ∀ n s k, ∃ vs s' k', Rs R n s k vs s' k' ∧ vs.length = n ∧ ∀ v ∈ vs, Gd v
  | 0, s, k => ⟨[], s, k, .nil, rfl, fun v hv => by cases hv⟩
  | n + 1, s, k => by
    obtain ⟨v, s1, k1, h1, g1⟩ := h s k
    obtain ⟨vs, s2, k2, h2, l2, g2⟩ := rs_total h n s1 k1
    refine ⟨v :: vs, s2, k2, .cons h1 h2, by rw [List.length_cons, l2], fun w hw => ?_⟩
    rcases List.mem_cons.mp hw with z | z
    · rw [z]; exact g1
    · exact g2 w z
/-- the program's side: a generator's items -/
theorem col_T {R : Int → Int → D → Int → Int → Prop} {c : Cc} {σ : Sl} {own : List Nat} {i j : Nat} {el : E} (hT : ∀ s k v s' k', R s k v s' k' → ∀ (x : Int) (h : Hv), h[j]? = some (TT s k) → stp c σ own i el (.int x) h = .ok (some v) (h.set j (TT s' k'))) :
    ∀ {n : Nat} {s k : Int} {vs : List D} {s' k' : Int}, Rs R n s k vs s' k' → ∀ (lo : Int) (h : Hv), h[j]? = some (TT s k) → collect (stp c σ own i el) (rangeL lo 1 n) h = .ok vs (h.set j (TT s' k')) := by
  intro n s k vs s' k' r
  induction r with
  | nil =>
    intro lo h e
    rw [rangeL, collect, set_same e]
  | @cons n s k s1 k1 s2 k2 v vs r1 _ ih =>
    intro lo h e
    rw [rangeL, collect, hT _ _ _ _ _ r1 lo h e]
    simp only [quiet, Res.bind]
    rw [ih (lo + 1) _ (at_set e), set_two]
/-- .. a list comprehension's, into the new cell -/
theorem lc_T {R : Int → Int → D → Int → Int → Prop} {c : Cc} {σ : Sl} {own : List Nat} {i j q : Nat} {el : E} (hT : ∀ s k v s' k', R s k v s' k' → ∀ (x : Int) (h : Hv), h[j]? = some (TT s k) → stp c σ own i el (.int x) h = .ok (some v) (h.set j (TT s' k'))) (hq : j ≠ q) :
    ∀ {n : Nat} {s k : Int} {vs : List D} {s' k' : Int}, Rs R n s k vs s' k' → ∀ (lo : Int) (h : Hv) (acc : List D), h[j]? = some (TT s k) → h[q]? = some (.lst acc) → acc.length + n ≤ 16777216 → lcLoop q (stp c σ own i el) (rangeL lo 1 n) h = .ok () ((h.set j (TT s' k')).set q (.lst (acc ++ vs))) := by
  intro n s k vs s' k' r
  induction r with
  | nil =>
    intro lo h acc e eq hl
    rw [rangeL, lcLoop, set_same e, List.append_nil, set_same eq]
  | @cons n s k s1 k1 s2 k2 v vs r1 _ ih =>
    intro lo h acc e eq hl
    rw [rangeL, lcLoop, hT _ _ _ _ _ r1 lo h e]
    simp only [quiet, Res.bind]
    have eq2 : (h.set j (TT s1 k1))[q]? = some (.lst acc) := by rw [at_ne hq]; exact eq
    rw [eq2]
    have hb : Nat.blt acc.length sizeMax = true := by
      rw [smax]
      exact Nat.ble_eq_true_of_le (by omega)
    simp only [hb, if_true]
    rw [ih (lo + 1) _ (acc ++ [v]) (by rw [at_ne (Ne.symm hq)]; exact at_set e) (at_set eq2) (by rw [List.length_append, List.length_singleton]; omega)]
    congr 1
    rw [List.append_assoc, List.singleton_append]
    rw [List.set_comm _ _ (Ne.symm hq), set_two, set_two]
/-- the law's side: found = found + [one], in turn -/
def ldB (el : E) : List S := [.set (.var 7) el, .set (.var 6) (.bin .add false (.var 6) (.lst false [(.var 7)]))]
theorem fl_O {R : Int → Int → D → Int → Int → Prop} {c : Cc} {d kd : D} {m5 : Int} {o : Nat} {el : E} (hO : ∀ s k v s' k', R s k v s' k' → ∀ (x3 : Int) (acc : List D) (x7 : Option D) (h : Hv), h[o]? = some (OO s k) → ev c [some (.ref o), some d, some kd, some (.int x3), none, some (.int m5), some (.lst acc), x7] el h = .ok v (h.set o (OO s' k'))) :
    ∀ {n : Nat} {s k : Int} {vs : List D} {s' k' : Int}, Rs R n s k vs s' k' → ∀ (lo : Int) (h : Hv) (acc : List D) (x3 x7 : Option D), h[o]? = some (OO s k) → acc.length + n ≤ 16777216 →
      ∃ y3 y7, fl c (.var 3) (ldB el) (rangeL lo 1 n) [some (.ref o), some d, some kd, x3, none, some (.int m5), some (.lst acc), x7] h = .nx [some (.ref o), some d, some kd, y3, none, some (.int m5), some (.lst (acc ++ vs)), y7] (h.set o (OO s' k')) := by
  intro n s k vs s' k' r
  induction r with
  | nil =>
    intro lo h acc x3 x7 e hl
    refine ⟨x3, x7, ?_⟩
    rw [rangeL, fl_nil, set_same e, List.append_nil]
  | @cons n s k s1 k1 s2 k2 v vs r1 _ ih =>
    intro lo h acc x3 x7 e hl
    have hl2 : lenOk acc 1 = true := by
      unfold lenOk
      rw [smax]
      exact Nat.ble_eq_true_of_le (by omega)
    obtain ⟨y3, y7, q⟩ := ih (lo + 1) _ (acc ++ [v]) (some (.int lo)) (some v) (at_set e) (by rw [List.length_append, List.length_singleton]; omega)
    refine ⟨y3, y7, ?_⟩
    rw [rangeL, fl_cons]
    rw [List.append_assoc, List.singleton_append, set_two] at q
    rw [← q]
    have z := hO _ _ _ _ _ r1 lo acc x7 h e
    simp [asg, Res.out, ldB, exs, ex, ev, evs, z, Res.bind, opB, addD, lstN, hl2, mkL]
end K01

set_option linter.all false
set_option maxRecDepth 100000
set_option maxHeartbeats 2000001
namespace K01
open PI
/-- a value without refs, comparable -/
structure Gd (t : Nat) (v : D) : Prop where
  bel : ∀ n, D.bel n v = true
  flat : ∀ n, D.flat (n + t) v = true
theorem Gd.mono {t : Nat} {v : D} (m : Nat) (g : Gd t v) : Gd (t + m) v := ⟨g.bel, fun n => by
  have := g.flat (n + m)
  rw [show n + (t + m) = n + m + t from by omega]
  exact this⟩
theorem gd_int {t : Nat} {i : Int} : Gd t (.int i) := ⟨fun _ => rfl, fun n => by cases n + t <;> rfl⟩
theorem gd_str {t : Nat} {s : List Nat} (h : txOk s = true) : Gd t (.str s) := ⟨fun _ => rfl, fun n => by
  rw [D.flat]
  exact h⟩
theorem gd_bels {t : Nat} : ∀ {vs : List D}, (∀ v ∈ vs, Gd t v) → ∀ n, D.bels n vs = true
  | [], _, n => rfl
  | v :: vs, h, n => by
    rw [D.bels, (h v List.mem_cons_self).bel, gd_bels fun w hw => h w (List.mem_cons_of_mem _ hw)] <;> rfl
theorem gd_flats {t : Nat} : ∀ {vs : List D}, (∀ v ∈ vs, Gd t v) → ∀ n, D.flats (n + t) vs = true
  | [], _, n => by rw [D.flats]
  | v :: vs, h, n => by
    rw [D.flats, (h v List.mem_cons_self).flat, gd_flats fun w hw => h w (List.mem_cons_of_mem _ hw)] <;> rfl
theorem gd_tup {t : Nat} {vs : List D} (h : ∀ v ∈ vs, Gd t v) : Gd (t + 1) (.tup vs) := ⟨fun n => by rw [D.bel, gd_bels h], fun n => by
  rw [show n + (t + 1) = (n + t) + 1 from rfl, D.flat, gd_flats h]⟩
mutual
theorem eqb_refl : ∀ (n : Nat) (v : D), D.flat n v = true → D.eqb v v = true
  | _, .non, _ => by simp [D.eqb]
  | _, .bl b, _ => by simp [D.eqb]
  | _, .int i, _ => by simp [D.eqb]
  | _, .str s, _ => by simp [D.eqb]
  | 0, .tup l, h => by simp [D.flat] at h
  | n + 1, .tup l, h => by
    rw [D.flat] at h
    rw [D.eqb]
    exact eqbs_refl n l h
  | 0, .lst l, h => by simp [D.flat] at h
  | n + 1, .lst l, h => by
    rw [D.flat] at h
    rw [D.eqb]
    exact eqbs_refl n l h
  | _, .dic l, h => by simp [D.flat] at h
  | _, .ref i, h => by simp [D.flat] at h
  | _, .lam k l, h => by simp [D.flat] at h
theorem eqbs_refl : ∀ (n : Nat) (l : List D), D.flats n l = true → D.eqbs l l = true
  | _, [], _ => by simp [D.eqbs]
  | n, a :: l, h => by
    rw [D.flats] at h
    obtain ⟨h1, h2⟩ := Bool.and_eq_true_iff.mp h
    rw [D.eqbs, eqb_refl n a h1, eqbs_refl n l h2] <;> rfl
end
theorem deref_gd {t : Nat} {v : D} {h : Hv} (g : Gd t v) : deref h v = v := by
  have := g.flat 0
  cases v with
  | ref i => simp [D.flat] at this
  | _ => rfl
theorem deq_gd {t : Nat} {v : D} {h : Hv} (g : Gd t v) (ht : t ≤ 60) : deq h v v = some true := by
  have f : D.flat 60 v = true := by
    have := g.flat (60 - t)
    rw [show 60 - t + t = 60 from by omega] at this
    exact this
  unfold deq
  rw [deref_gd g, f, eqb_refl 60 v f]
  rfl
/-- a number drawn -/
def Rn (lo m : Int) (s k : Int) (v : D) (s' k' : Int) : Prop := v = .int (lo + dr s m) ∧ s' = nx s ∧ k' = k + 1
theorem rn_total (lo m : Int) (s k : Int) : ∃ v s' k', Rn lo m s k v s' k' ∧ Gd 0 v := ⟨_, _, _, ⟨rfl, rfl, rfl⟩, gd_int⟩
theorem toNat_le {x m : Int} (h : x < m) (h2 : m ≤ 1000000) : x.toNat ≤ 1000000 := by omega
theorem rangeL_length : ∀ (n : Nat) (lo c : Int), (rangeL lo c n).length = n
  | 0, _, _ => rfl
  | n + 1, lo, c => by rw [rangeL, List.length_cons, rangeL_length n]
theorem sp_row {n base j : Nat} {s k most lo hi s' k' : Int} {vs : List D} {h : Hv} (e : h[j]? = some (TT s k)) (h0 : 0 ≤ most) (h9 : most < 65536) (h1 : lo ≤ hi) (h2 : hi < lo + 65536) (r : Rs (Rn lo (hi - lo + 1)) (dr s (most + 1)).toNat (nx s) (k + 1) vs s' k') (gd : ∀ v ∈ vs, Gd 0 v) :
    callF prog (n + 3) base 5 [.ref j, .int most, .int lo, .int hi] h = .ok (.tup vs) (h.set j (TT s' k')) := by
  have hr : ∀ base, callF prog (n + 2) base 1 [.ref j, .int (most + 1)] h = .ok (.int (dr s (most + 1))) (h.set j (TT (nx s) (k + 1))) := fun base => sp_roll (n := n + 1) e (by omega) (by omega)
  have d1 : dr s (most + 1) ≤ 16777216 := by have := dr_hi (s := s) (m := most + 1) (by omega); omega
  have d2 : -16777216 ≤ dr s (most + 1) := by have := dr_lo (s := s) (m := most + 1) (by omega); omega
  have hc := col_T (R := Rn lo (hi - lo + 1)) (c := ⟨callF prog (n + 2), h.length, prog⟩) (σ := [some (.ref j), some (.int most), some (.int lo), some (.int hi), none]) (own := [4]) (i := 4) (j := j) (el := .mth 2 6 2 (.var 0) [(.var 2), (.var 3)])
    (fun s k v s' k' ⟨a1, a2, a3⟩ x hh e => by
      subst a1 a2 a3
      have z := sp_number (n := n) (base := h.length) e h1 h2
      simp [stp, asg, wipeS, Res.bind, ev, evs, insOf, e, fget, z]) r 0 _ (at_set e)
  have hz : (dr s (most + 1)).toNat ≤ 16777216 := by omega
  have hb : ¬ most < 0 := by omega
  rw [callF_at fn5]
  simp [fill, PI.start, leave, exs, ex, ev, evs, evo, evAnd, evOr, evI, asg, asgs, Res.bind, Res.out, asB, quiet, opB, opC, intC, addD, insOf, fget, fput, opt, setFld, setFldC, augD, st_int, st_str, Nat.blt, Nat.ble, D.bel, D.bels, take_set, dicOf, obDic, idxD, D.atom, kget, kput, D.beq, setSub, okb, okn, deq, deref, D.flat, D.flats, D.eqb, D.eqbs, smax, biD, bmD, lenD, ↓ev_tup, ↓ev_lst, ↓ex_fr, List.replicate, seqOf, obSeq, ixAt, mkL, rngD, txOk, bmOk, lstOf, strs?, lenOk, i_Dice_row, e, h1, h2, hr, hb, d1, d2, hc, rangeL_length, hz, gd_bels gd]
end K01

set_option linter.all false
set_option maxRecDepth 100000
set_option maxHeartbeats 2000001
namespace K01
open PI
theorem idx_str {l : List Nat} {r : Int} {h : Hv} (h0 : 0 ≤ r) (h1 : r < l.length) (h2 : l.length ≤ 65536) : idxD h (.str l) (.int r) = .ok (.str [l.getD r.toNat 0]) h := by
  have hb : Nat.ble l.length sizeMax = true := by
    rw [smax]
    exact Nat.ble_eq_true_of_le (by omega)
  have hi : ixAt l.length r = some r.toNat := by
    unfold ixAt
    rw [if_pos h0, if_pos h1]
  have hg : l[r.toNat]? = some (l.getD r.toNat 0) := by
    rw [List.getD_eq_getElem?_getD, List.getElem?_eq_getElem (show r.toNat < l.length by omega)] <;> rfl
  unfold idxD
  simp only [dicOf, hb, if_true, hi, hg]
theorem idx_tup {l : List D} {r : Int} {h : Hv} (h0 : 0 ≤ r) (h1 : r < l.length) : idxD h (.tup l) (.int r) = .ok (l.getD r.toNat .non) h := by
  have hi : ixAt l.length r = some r.toNat := by
    unfold ixAt
    rw [if_pos h0, if_pos h1]
  have hg : l[r.toNat]? = some (l.getD r.toNat .non) := by
    rw [List.getD_eq_getElem?_getD, List.getElem?_eq_getElem (show r.toNat < l.length by omega)] <;> rfl
  unfold idxD
  simp only [dicOf, seqOf, hi, hg]
theorem len_str {l : List Nat} {h : Hv} (h2 : l.length ≤ 65536) : lenD h (.str l) = .ok (.int l.length) h := by
  have hb : Nat.ble l.length sizeMax = true := by
    rw [smax]
    exact Nat.ble_eq_true_of_le (by omega)
  unfold lenD
  simp only [hb, if_true]
theorem len_tup {l : List D} {h : Hv} : lenD h (.tup l) = .ok (.int l.length) h := rfl
/-- a sign drawn -/
def Rt (l : List Nat) (s k : Int) (v : D) (s' k' : Int) : Prop := v = .str [l.getD (dr s l.length).toNat 0] ∧ s' = nx s ∧ k' = k + 1
theorem getD_tx {l : List Nat} (h : txOk l = true) (i : Nat) (hi : i < l.length) : txOk [l.getD i 0] = true := by
  have z := List.all_eq_true.mp h (l.getD i 0) (by
    (rw [List.getD_eq_getElem?_getD, List.getElem?_eq_getElem hi])
    exact List.getElem_mem hi)
  unfold txOk
  simp only [List.all_cons, List.all_nil, Bool.and_true]
  exact z
theorem rt_total {l : List Nat} (h0 : l ≠ []) (h : txOk l = true) (s k : Int) : ∃ v s' k', Rt l s k v s' k' ∧ Gd 0 v := by
  have hl : 0 < (l.length : Int) := by have := List.length_pos_iff.mpr h0; omega
  refine ⟨_, _, _, ⟨rfl, rfl, rfl⟩, gd_str (getD_tx h _ ?_)⟩
  have a := dr_lo (s := s) (m := l.length) (by omega)
  have b := dr_hi (s := s) (m := l.length) hl
  omega
theorem joinTx_cons (x : List Nat) (l : List (List Nat)) : joinTx [] (x :: l) = x ++ joinTx [] l := by
  cases l with
  | nil => simp [joinTx]
  | cons y l => simp [joinTx]
theorem rt_strs {l : List Nat} (h0 : l ≠ []) (h : txOk l = true) : ∀ {n : Nat} {s k : Int} {vs : List D} {s' k' : Int}, Rs (Rt l) n s k vs s' k' → ∃ ws, strs? vs = some ws ∧ lenSum ws = n ∧ ws.length = n ∧ txOk (joinTx [] ws) = true := by
  intro n s k vs s' k' r
  induction r with
  | nil => exact ⟨[], rfl, rfl, rfl, rfl⟩
  | @cons n s k s1 k1 s2 k2 v vs r1 _ ih =>
    obtain ⟨ws, h1, h2, h3, h4⟩ := ih
    obtain ⟨rfl, rfl, rfl⟩ := r1
    have hl : 0 < (l.length : Int) := by have := List.length_pos_iff.mpr h0; omega
    have a := dr_lo (s := s) (m := l.length) (by omega)
    have b := dr_hi (s := s) (m := l.length) hl
    have hc := getD_tx h (dr s l.length).toNat (by omega)
    refine ⟨[l.getD (dr s l.length).toNat 0] :: ws, by simp [strs?, h1], by simp [lenSum, h2]; omega, by simp [h3], ?_⟩
    rw [joinTx_cons]
    unfold txOk at *
    rw [List.all_append, hc, h4] <;> rfl
theorem join_ok {vs : List D} {ws : List (List Nat)} {h : Hv} (h1 : strs? vs = some ws) (h2 : lenSum ws ≤ 16777216) : joinD h (.str []) (.lst vs) = .ok (.str (joinTx [] ws)) h := by
  unfold joinD
  have hb : Nat.ble (lenSum ws) 16777216 = true := Nat.ble_eq_true_of_le h2
  simp [lstOf, h1, smax, h2]
theorem sp_text {n base j : Nat} {s k most s' k' : Int} {l : List Nat} {vs : List D} {ws : List (List Nat)} {h : Hv} (e : h[j]? = some (TT s k)) (h0 : 0 ≤ most) (h9 : most < 65536) (hl : l ≠ []) (htx : txOk l = true) (hl2 : l.length ≤ 65536) (r : Rs (Rt l) (dr s (most + 1)).toNat (nx s) (k + 1) vs s' k') (hs : strs? vs = some ws) (hw : lenSum ws ≤ 16777216) :
    callF prog (n + 2) base 6 [.ref j, .int most, .str l] h = .ok (.str (joinTx [] ws)) (h.set j (TT s' k')) := by
  have hr : ∀ base, callF prog (n + 1) base 1 [.ref j, .int (most + 1)] h = .ok (.int (dr s (most + 1))) (h.set j (TT (nx s) (k + 1))) := fun base => sp_roll (n := n) e (by omega) (by omega)
  have hpos : 0 < (l.length : Int) := by have := List.length_pos_iff.mpr hl; omega
  have d0 := dr_lo (s := s) (m := most + 1) (by omega)
  have d3 := dr_hi (s := s) (m := most + 1) (by omega)
  have d1 : dr s (most + 1) ≤ 16777216 := by omega
  have d2 : -16777216 ≤ dr s (most + 1) := by omega
  have jl := len_of e
  have hc := lc_T (R := Rt l) (c := ⟨callF prog (n + 1), h.length, prog⟩) (σ := [some (.ref j), some (.int most), some (.str l), none]) (own := [3]) (i := 3) (j := j) (q := h.length) (el := .idx (.var 2) (.mth 2 5 1 (.var 0) [(.bi .len false [(.var 2)])]))
    (fun s k v s' k' ⟨a1, a2, a3⟩ x hh e => by
      subst a1 a2 a3
      have z := sp_roll (n := n) (base := h.length) e (m := l.length) (by omega) (by omega)
      have z2 := idx_str (l := l) (h := hh.set j (TT (nx s) (k + 1))) (dr_lo (s := s) (m := l.length) (by omega)) (dr_hi hpos) hl2
      simp [stp, asg, wipeS, Res.bind, ev, evs, insOf, e, fget, z, biD, len_str hl2, z2]) (Nat.ne_of_lt jl) r 0 (h.set j (TT (nx s) (k + 1)) ++ [.lst []]) [] (at_old (at_set e)) (by rw [← set_len (i := j) (u := TT (nx s) (k + 1))]; exact at_new) (by simp only [List.length_nil]; omega)
  have hb : ¬ most < 0 := by omega
  have htx0 : txOk [] = true := rfl
  have hj : ∀ hh, joinD hh (.str []) (.lst vs) = .ok (.str (joinTx [] ws)) hh := fun hh => join_ok hs hw
  have ht : (((h.set j (TT (nx s) (k + 1)) ++ [Ob.lst []]).set j (TT s' k')).set h.length (.lst vs)) = h.set j (TT s' k') ++ [.lst vs] := by
    rw [set_old (at_set e), set_two, ← set_len (h := h) (i := j) (u := TT s' k'), set_new]
  rw [List.nil_append, ht] at hc
  have ta : (h.set j (TT s' k') ++ [Ob.dead]).take h.length = h.set j (TT s' k') := by rw [← set_len (h := h) (i := j) (u := TT s' k')]; exact take_new
  have ax : ∀ o : Ob, (h.set j (TT s' k') ++ [o])[h.length]? = some o := fun o => by rw [← set_len (h := h) (i := j) (u := TT s' k')]; exact at_new
  have sx : ∀ o u : Ob, (h.set j (TT s' k') ++ [o]).set h.length u = h.set j (TT s' k') ++ [u] := fun o u => by rw [← set_len (h := h) (i := j) (u := TT s' k')]; exact set_new
  rw [callF_at fn6]
  simp [fill, PI.start, leave, exs, ex, ev, evs, evo, evAnd, evOr, evI, asg, asgs, Res.bind, Res.out, asB, quiet, opB, opC, intC, addD, insOf, fget, fput, opt, setFld, setFldC, augD, st_int, st_str, Nat.blt, Nat.ble, D.bel, D.bels, take_set, dicOf, obDic, idxD, D.atom, kget, kput, D.beq, setSub, okb, okn, deq, deref, D.flat, D.flats, D.eqb, D.eqbs, smax, biD, bmD, lenD, ↓ev_tup, ↓ev_lst, ↓ex_fr, List.replicate, i_Dice_text, e, hb, hl, htx, htx0, hr, d1, d2, rngD, hc, lcEnd, ax, sx, bmOk, hj, ta]
end K01

set_option linter.all false
set_option maxRecDepth 100000
set_option maxHeartbeats 4000001
namespace K01
open PI
abbrev nNum : List Nat := [110, 117, 109, 98, 101, 114]
abbrev nRow : List Nat := [114, 111, 119]
abbrev nText : List Nat := [116, 101, 120, 116]
abbrev nOne : List Nat := [111, 110, 101]
abbrev nPair : List Nat := [112, 97, 105, 114]
abbrev nMany : List Nat := [109, 97, 110, 121]
theorem t1 : txOk nNum = true := rfl
theorem t2 : txOk nRow = true := rfl
theorem t3 : txOk nText = true := rfl
theorem t4 : txOk nOne = true := rfl
theorem t5 : txOk nPair = true := rfl
theorem t6 : txOk nMany = true := rfl
theorem x20 : ixAt 2 0 = some 0 := rfl
theorem x21 : ixAt 2 1 = some 1 := rfl
theorem x30 : ixAt 3 0 = some 0 := rfl
theorem x31 : ixAt 3 1 = some 1 := rfl
theorem x32 : ixAt 3 2 = some 2 := rfl
theorem x40 : ixAt 4 0 = some 0 := rfl
theorem x41 : ixAt 4 1 = some 1 := rfl
theorem x42 : ixAt 4 2 = some 2 := rfl
theorem x43 : ixAt 4 3 = some 3 := rfl
/-- the shapes that the law draws -/
inductive Sh : Nat → D → Prop
  | num {t : Nat} {lo hi : Int} : lo ≤ hi → hi < lo + 65536 → Sh t (.tup [.str nNum, .int lo, .int hi])
  | row {t : Nat} {n lo hi : Int} : 0 ≤ n → n < 1000 → lo ≤ hi → hi < lo + 65536 → Sh t (.tup [.str nRow, .int n, .int lo, .int hi])
  | text {t : Nat} {n : Int} {l : List Nat} : 0 ≤ n → n < 1000 → l ≠ [] → txOk l = true → l.length ≤ 65536 → Sh t (.tup [.str nText, .int n, .str l])
  | oneS {t : Nat} {l : List Nat} : l ≠ [] → txOk l = true → l.length ≤ 65536 → Sh t (.tup [.str nOne, .str l])
  | oneT {t : Nat} {l : List D} : l ≠ [] → l.length ≤ 65536 → (∀ v ∈ l, Gd 0 v) → Sh t (.tup [.str nOne, .tup l])
  | pair {t : Nat} {a b : D} : Sh t a → Sh t b → Sh (t + 1) (.tup [.str nPair, a, b])
  | many {t : Nat} {n : Int} {a : D} : 0 ≤ n → n < 1000 → Sh t a → Sh (t + 1) (.tup [.str nMany, .int n, a])
def DT (t : Nat) (d : D) (s k : Int) (v : D) (s' k' : Int) : Prop := ∀ (n base : Nat) (h : Hv) (j : Nat), h[j]? = some (TT s k) → callF prog (n + t + 4) base 12 [.ref j, d] h = .ok v (h.set j (TT s' k'))
def DO (t : Nat) (d : D) (s k : Int) (v : D) (s' k' : Int) : Prop := ∀ (n base : Nat) (h : Hv) (j : Nat), h[j]? = some (OO s k) → callF prog (n + t + 4) base 19 [.ref j, d] h = .ok v (h.set j (OO s' k'))
/-- drawn by both alike -/
def Dd (t : Nat) (d : D) (s k : Int) (v : D) (s' k' : Int) : Prop := DT t d s k v s' k' ∧ DO t d s k v s' k'
/-- the law's expression in its loop -/
def elD : E := .ife (.cmp .eq (.var 2) (.cst (.str [114, 111, 119]))) (.bin .add false (.idx (.var 1) (.cst (.int 2))) (.call 17 [(.var 0), (.bin .add false (.bin .sub false (.idx (.var 1) (.cst (.int 3))) (.idx (.var 1) (.cst (.int 2)))) (.cst (.int 1)))])) (.ife (.cmp .eq (.var 2) (.cst (.str [116, 101, 120, 116]))) (.idx (.idx (.var 1) (.cst (.int 2))) (.call 17 [(.var 0), (.bi .len false [(.idx (.var 1) (.cst (.int 2)))])])) (.call 19 [(.var 0), (.idx (.var 1) (.cst (.int 2)))]))
theorem dd_num {t : Nat} {lo hi s k : Int} (h1 : lo ≤ hi) (h2 : hi < lo + 65536) : Dd t (.tup [.str nNum, .int lo, .int hi]) s k (.int (lo + dr s (hi - lo + 1))) (nx s) (k + 1) := by
  constructor
  · intro n base h j e
    have z : ∀ base, callF prog (n + t + 3) base 2 [.ref j, .int lo, .int hi] h = .ok (.int (lo + dr s (hi - lo + 1))) (h.set j (TT (nx s) (k + 1))) := fun base => sp_number (n := n + t + 1) e h1 h2
    rw [callF_at fn12]
    simp [fill, PI.start, leave, exs, ex, ev, evs, evo, evAnd, evOr, evI, asg, asgs, Res.bind, Res.out, asB, quiet, opB, opC, intC, addD, insOf, fget, fput, opt, setFld, setFldC, augD, st_int, st_str, Nat.blt, Nat.ble, D.bel, D.bels, take_set, dicOf, obDic, idxD, D.atom, kget, kput, D.beq, setSub, okb, okn, deq, deref, D.flat, D.flats, D.eqb, D.eqbs, smax, biD, bmD, lenD, ↓ev_tup, ↓ev_lst, ↓ex_fr, List.replicate, seqOf, x20, x21, x30, x31, x32, x40, x41, x42, x43, t1, t2, t3, t4, t5, t6, mkL, i_draw_from, e, z]
  · intro n base h j e
    have z : ∀ base, callF prog (n + t + 3) base 17 [.ref j, .int (hi - lo + 1)] h = .ok (.int (dr s (hi - lo + 1))) (h.set j (OO (nx s) (k + 1))) := fun base => sp_next (n := n + t + 2) e (by omega) (by omega)
    rw [callF_at fn19]
    simp [fill, PI.start, leave, exs, ex, ev, evs, evo, evAnd, evOr, evI, asg, asgs, Res.bind, Res.out, asB, quiet, opB, opC, intC, addD, insOf, fget, fput, opt, setFld, setFldC, augD, st_int, st_str, Nat.blt, Nat.ble, D.bel, D.bels, take_set, dicOf, obDic, idxD, D.atom, kget, kput, D.beq, setSub, okb, okn, deq, deref, D.flat, D.flats, D.eqb, D.eqbs, smax, biD, bmD, lenD, ↓ev_tup, ↓ev_lst, ↓ex_fr, List.replicate, seqOf, x20, x21, x30, x31, x32, x40, x41, x42, x43, t1, t2, t3, t4, t5, t6, mkL, i__law_drawn, e, z]
theorem sp_oneS {n base j : Nat} {s k : Int} {l : List Nat} {h : Hv} (e : h[j]? = some (TT s k)) (hl : l ≠ []) (h2 : l.length ≤ 65536) : callF prog (n + 2) base 4 [.ref j, .str l] h = .ok (.str [l.getD (dr s l.length).toNat 0]) (h.set j (TT (nx s) (k + 1))) := by
  have hpos : 0 < (l.length : Int) := by have := List.length_pos_iff.mpr hl; omega
  have z : ∀ base, callF prog (n + 1) base 1 [.ref j, .int l.length] h = .ok (.int (dr s l.length)) (h.set j (TT (nx s) (k + 1))) := fun base => sp_roll (n := n) e (by omega) (by omega)
  have z2 : ∀ hh, idxD hh (.str l) (.int (dr s l.length)) = .ok (.str [l.getD (dr s l.length).toNat 0]) hh := fun hh => idx_str (dr_lo (by omega)) (dr_hi hpos) h2
  have hb : l.length ≤ 16777216 := by omega
  rw [callF_at fn4]
  simp [fill, PI.start, leave, exs, ex, ev, evs, Res.bind, Res.out, asB, opC, okb, deq, deref, D.flat, D.eqb, biD, lenD, smax, hb, hl, i_Dice_one_of, e, insOf, fget, z, z2, D.bel, take_set]
theorem sp_oneT {n base j : Nat} {s k : Int} {l : List D} {h : Hv} (e : h[j]? = some (TT s k)) (hl : l ≠ []) (h2 : l.length ≤ 65536) (gd : ∀ v ∈ l, Gd 0 v) : callF prog (n + 2) base 4 [.ref j, .tup l] h = .ok (l.getD (dr s l.length).toNat .non) (h.set j (TT (nx s) (k + 1))) := by
  have hpos : 0 < (l.length : Int) := by have := List.length_pos_iff.mpr hl; omega
  have z : ∀ base, callF prog (n + 1) base 1 [.ref j, .int l.length] h = .ok (.int (dr s l.length)) (h.set j (TT (nx s) (k + 1))) := fun base => sp_roll (n := n) e (by omega) (by omega)
  have z2 : ∀ hh, idxD hh (.tup l) (.int (dr s l.length)) = .ok (l.getD (dr s l.length).toNat .non) hh := fun hh => idx_tup (dr_lo (by omega)) (dr_hi hpos)
  have gb : D.bel h.length (l.getD (dr s l.length).toNat .non) = true := by
    have hi : (dr s l.length).toNat < l.length := by have := dr_lo (s := s) (m := l.length) (by omega); have := dr_hi (s := s) hpos; omega
    (rw [List.getD_eq_getElem?_getD, List.getElem?_eq_getElem hi])
    exact (gd _ (List.getElem_mem hi)).bel _
  rw [callF_at fn4]
  simp only [List.getD_eq_getElem?_getD] at z2 gb ⊢
  simp [fill, PI.start, leave, exs, ex, ev, evs, Res.bind, Res.out, asB, opC, okb, deq, deref, D.flat, D.eqb, biD, lenD, smax, hl, i_Dice_one_of, e, insOf, fget, z, z2, gb, take_set]
end K01

set_option linter.all false
set_option maxRecDepth 100000
set_option maxHeartbeats 4000001
namespace K01
open PI
theorem dd_oneS {t : Nat} {l : List Nat} {s k : Int} (hl : l ≠ []) (h2 : l.length ≤ 65536) : Dd t (.tup [.str nOne, .str l]) s k (.str [l.getD (dr s l.length).toNat 0]) (nx s) (k + 1) := by
  have hpos : 0 < (l.length : Int) := by have := List.length_pos_iff.mpr hl; omega
  constructor
  · intro n base h j e
    have z : ∀ base, callF prog (n + t + 3) base 4 [.ref j, .str l] h = .ok (.str [l.getD (dr s l.length).toNat 0]) (h.set j (TT (nx s) (k + 1))) := fun base => sp_oneS (n := n + t + 1) e hl h2
    rw [callF_at fn12]
    simp only [List.getD_eq_getElem?_getD] at z ⊢
    simp [fill, PI.start, leave, exs, ex, ev, evs, evo, evAnd, evOr, evI, asg, asgs, Res.bind, Res.out, asB, quiet, opB, opC, intC, addD, insOf, fget, fput, opt, setFld, setFldC, augD, st_int, st_str, Nat.blt, Nat.ble, D.bel, D.bels, take_set, dicOf, obDic, idxD, D.atom, kget, kput, D.beq, setSub, okb, okn, deq, deref, D.flat, D.flats, D.eqb, D.eqbs, smax, biD, bmD, lenD, ↓ev_tup, ↓ev_lst, ↓ex_fr, List.replicate, seqOf, x20, x21, x30, x31, x32, x40, x41, x42, x43, t1, t2, t3, t4, t5, t6, mkL, i_draw_from, e, z]
  · intro n base h j e
    have z : ∀ base, callF prog (n + t + 3) base 17 [.ref j, .int l.length] h = .ok (.int (dr s l.length)) (h.set j (OO (nx s) (k + 1))) := fun base => sp_next (n := n + t + 2) e (by omega) (by omega)
    have a0 := dr_lo (s := s) (m := l.length) (by omega)
    have a1 := dr_hi (s := s) hpos
    have hi : ixAt l.length (dr s l.length) = some (dr s l.length).toNat := by
      unfold ixAt
      rw [if_pos a0, if_pos a1]
    have hg : (dr s l.length).toNat < l.length := by omega
    have hb : l.length ≤ 16777216 := by omega
    rw [callF_at fn19]
    simp only [List.getD_eq_getElem?_getD]
    simp [fill, PI.start, leave, exs, ex, ev, evs, evo, evAnd, evOr, evI, asg, asgs, Res.bind, Res.out, asB, quiet, opB, opC, intC, addD, insOf, fget, fput, opt, setFld, setFldC, augD, st_int, st_str, Nat.blt, Nat.ble, D.bel, D.bels, take_set, dicOf, obDic, idxD, D.atom, kget, kput, D.beq, setSub, okb, okn, deq, deref, D.flat, D.flats, D.eqb, D.eqbs, smax, biD, bmD, lenD, ↓ev_tup, ↓ev_lst, ↓ex_fr, List.replicate, seqOf, x20, x21, x30, x31, x32, x40, x41, x42, x43, t1, t2, t3, t4, t5, t6, mkL, i__law_drawn, e, z, hi, hg, hb]
theorem dd_oneT {t : Nat} {l : List D} {s k : Int} (hl : l ≠ []) (h2 : l.length ≤ 65536) (gd : ∀ v ∈ l, Gd 0 v) : Dd t (.tup [.str nOne, .tup l]) s k (l.getD (dr s l.length).toNat .non) (nx s) (k + 1) := by
  have hpos : 0 < (l.length : Int) := by have := List.length_pos_iff.mpr hl; omega
  have a0 := dr_lo (s := s) (m := l.length) (by omega)
  have a1 := dr_hi (s := s) hpos
  have hg : (dr s l.length).toNat < l.length := by omega
  have gb : ∀ m, D.bel m (l.getD (dr s l.length).toNat .non) = true := fun m => by
    rw [List.getD_eq_getElem?_getD, List.getElem?_eq_getElem hg]
    exact (gd _ (List.getElem_mem hg)).bel _
  constructor
  · intro n base h j e
    have z : ∀ base, callF prog (n + t + 3) base 4 [.ref j, .tup l] h = .ok (l.getD (dr s l.length).toNat .non) (h.set j (TT (nx s) (k + 1))) := fun base => sp_oneT (n := n + t + 1) e hl h2 gd
    rw [callF_at fn12]
    simp only [List.getD_eq_getElem?_getD] at z gb ⊢
    simp [fill, PI.start, leave, exs, ex, ev, evs, evo, evAnd, evOr, evI, asg, asgs, Res.bind, Res.out, asB, quiet, opB, opC, intC, addD, insOf, fget, fput, opt, setFld, setFldC, augD, st_int, st_str, Nat.blt, Nat.ble, D.bel, D.bels, take_set, dicOf, obDic, idxD, D.atom, kget, kput, D.beq, setSub, okb, okn, deq, deref, D.flat, D.flats, D.eqb, D.eqbs, smax, biD, bmD, lenD, ↓ev_tup, ↓ev_lst, ↓ex_fr, List.replicate, seqOf, x20, x21, x30, x31, x32, x40, x41, x42, x43, t1, t2, t3, t4, t5, t6, mkL, i_draw_from, e, z, gb]
  · intro n base h j e
    have z : ∀ base, callF prog (n + t + 3) base 17 [.ref j, .int l.length] h = .ok (.int (dr s l.length)) (h.set j (OO (nx s) (k + 1))) := fun base => sp_next (n := n + t + 2) e (by omega) (by omega)
    have hi : ixAt l.length (dr s l.length) = some (dr s l.length).toNat := by
      unfold ixAt
      rw [if_pos a0, if_pos a1]
    have hq : l[(dr s l.length).toNat]? = some (l.getD (dr s l.length).toNat .non) := by
      (rw [List.getD_eq_getElem?_getD, List.getElem?_eq_getElem hg] <;> rfl)
    rw [callF_at fn19]
    generalize hv : l.getD (dr s l.length).toNat .non = v at hq gb ⊢
    simp [fill, PI.start, leave, exs, ex, ev, evs, evo, evAnd, evOr, evI, asg, asgs, Res.bind, Res.out, asB, quiet, opB, opC, intC, addD, insOf, fget, fput, opt, setFld, setFldC, augD, st_int, st_str, Nat.blt, Nat.ble, D.bel, D.bels, take_set, dicOf, obDic, idxD, D.atom, kget, kput, D.beq, setSub, okb, okn, deq, deref, D.flat, D.flats, D.eqb, D.eqbs, smax, biD, bmD, lenD, ↓ev_tup, ↓ev_lst, ↓ex_fr, List.replicate, seqOf, x20, x21, x30, x31, x32, x40, x41, x42, x43, t1, t2, t3, t4, t5, t6, mkL, i__law_drawn, e, z, hi, hq, gb]
theorem dd_row {t : Nat} {m lo hi s k s' k' : Int} {vs : List D} (h0 : 0 ≤ m) (h9 : m < 1000) (h1 : lo ≤ hi) (h2 : hi < lo + 65536) (r : Rs (Rn lo (hi - lo + 1)) (dr s (m + 1)).toNat (nx s) (k + 1) vs s' k') (gd : ∀ v ∈ vs, Gd 0 v) :
    Dd t (.tup [.str nRow, .int m, .int lo, .int hi]) s k (.tup vs) s' k' := by
  have d0 := dr_lo (s := s) (m := m + 1) (by omega)
  have d3 := dr_hi (s := s) (m := m + 1) (by omega)
  have d1 : dr s (m + 1) ≤ 16777216 := by omega
  have d2 : -16777216 ≤ dr s (m + 1) := by omega
  have gb := fun q => gd_bels gd q
  constructor
  · intro n base h j e
    have z : ∀ base, callF prog (n + t + 3) base 5 [.ref j, .int m, .int lo, .int hi] h = .ok (.tup vs) (h.set j (TT s' k')) := fun base => sp_row (n := n + t) e h0 (by omega) h1 h2 r gd
    rw [callF_at fn12]
    simp [fill, PI.start, leave, exs, ex, ev, evs, evo, evAnd, evOr, evI, asg, asgs, Res.bind, Res.out, asB, quiet, opB, opC, intC, addD, insOf, fget, fput, opt, setFld, setFldC, augD, st_int, st_str, Nat.blt, Nat.ble, D.bel, D.bels, take_set, dicOf, obDic, idxD, D.atom, kget, kput, D.beq, setSub, okb, okn, deq, deref, D.flat, D.flats, D.eqb, D.eqbs, smax, biD, bmD, lenD, ↓ev_tup, ↓ev_lst, ↓ex_fr, List.replicate, seqOf, x20, x21, x30, x31, x32, x40, x41, x42, x43, t1, t2, t3, t4, t5, t6, mkL, i_draw_from, e, z, gb]
  · intro n base h j e
    have z : ∀ base, callF prog (n + t + 3) base 17 [.ref j, .int (m + 1)] h = .ok (.int (dr s (m + 1))) (h.set j (OO (nx s) (k + 1))) := fun base => sp_next (n := n + t + 2) e (by omega) (by omega)
    obtain ⟨y3, y7, q⟩ := fl_O (R := Rn lo (hi - lo + 1)) (c := ⟨callF prog (n + t + 3), h.length, prog⟩) (d := .tup [.str nRow, .int m, .int lo, .int hi]) (kd := .str nRow) (m5 := dr s (m + 1)) (o := j) (el := elD)
      (fun s k v s' k' ⟨a1, a2, a3⟩ x3 acc x7 hh e => by
        subst a1 a2 a3
        have z : ∀ base, callF prog (n + t + 3) base 17 [.ref j, .int (hi - lo + 1)] hh = .ok (.int (dr s (hi - lo + 1))) (hh.set j (OO (nx s) (k + 1))) := fun base => sp_next (n := n + t + 2) e (by omega) (by omega)
        simp [fill, PI.start, leave, exs, ex, ev, evs, evo, evAnd, evOr, evI, asg, asgs, Res.bind, Res.out, asB, quiet, opB, opC, intC, addD, insOf, fget, fput, opt, setFld, setFldC, augD, st_int, st_str, Nat.blt, Nat.ble, D.bel, D.bels, take_set, dicOf, obDic, idxD, D.atom, kget, kput, D.beq, setSub, okb, okn, deq, deref, D.flat, D.flats, D.eqb, D.eqbs, smax, biD, bmD, lenD, ↓ev_tup, ↓ev_lst, ↓ex_fr, List.replicate, seqOf, x20, x21, x30, x31, x32, x40, x41, x42, x43, t1, t2, t3, t4, t5, t6, mkL, elD, e, z]) r 0 _ [] none none (at_set e) (by simp only [List.length_nil]; omega)
    rw [set_two] at q
    simp only [ldB, elD, List.nil_append] at q
    rw [callF_at fn19]
    simp [fill, PI.start, leave, exs, ex, ev, evs, evo, evAnd, evOr, evI, asg, asgs, Res.bind, Res.out, asB, quiet, opB, opC, intC, addD, insOf, fget, fput, opt, setFld, setFldC, augD, st_int, st_str, Nat.blt, Nat.ble, D.bel, D.bels, take_set, dicOf, obDic, idxD, D.atom, kget, kput, D.beq, setSub, okb, okn, deq, deref, D.flat, D.flats, D.eqb, D.eqbs, smax, biD, bmD, lenD, ↓ev_tup, ↓ev_lst, ↓ex_fr, List.replicate, seqOf, x20, x21, x30, x31, x32, x40, x41, x42, x43, t1, t2, t3, t4, t5, t6, mkL, i__law_drawn, e, z, d1, d2, rngD, q, tupleD, gb]
theorem dd_text {t : Nat} {m s k s' k' : Int} {l : List Nat} {vs : List D} {ws : List (List Nat)} (h0 : 0 ≤ m) (h9 : m < 1000) (hl : l ≠ []) (htx : txOk l = true) (hl2 : l.length ≤ 65536) (r : Rs (Rt l) (dr s (m + 1)).toNat (nx s) (k + 1) vs s' k') (hs : strs? vs = some ws) (hw : lenSum ws ≤ 16777216) :
    Dd t (.tup [.str nText, .int m, .str l]) s k (.str (joinTx [] ws)) s' k' := by
  have hpos : 0 < (l.length : Int) := by have := List.length_pos_iff.mpr hl; omega
  have d0 := dr_lo (s := s) (m := m + 1) (by omega)
  have d3 := dr_hi (s := s) (m := m + 1) (by omega)
  have d1 : dr s (m + 1) ≤ 16777216 := by omega
  have d2 : -16777216 ≤ dr s (m + 1) := by omega
  have hj : ∀ hh, joinD hh (.str []) (.lst vs) = .ok (.str (joinTx [] ws)) hh := fun hh => join_ok hs hw
  constructor
  · intro n base h j e
    have z : ∀ base, callF prog (n + t + 3) base 6 [.ref j, .int m, .str l] h = .ok (.str (joinTx [] ws)) (h.set j (TT s' k')) := fun base => sp_text (n := n + t + 1) e h0 (by omega) hl htx hl2 r hs hw
    rw [callF_at fn12]
    simp [fill, PI.start, leave, exs, ex, ev, evs, evo, evAnd, evOr, evI, asg, asgs, Res.bind, Res.out, asB, quiet, opB, opC, intC, addD, insOf, fget, fput, opt, setFld, setFldC, augD, st_int, st_str, Nat.blt, Nat.ble, D.bel, D.bels, take_set, dicOf, obDic, idxD, D.atom, kget, kput, D.beq, setSub, okb, okn, deq, deref, D.flat, D.flats, D.eqb, D.eqbs, smax, biD, bmD, lenD, ↓ev_tup, ↓ev_lst, ↓ex_fr, List.replicate, seqOf, x20, x21, x30, x31, x32, x40, x41, x42, x43, t1, t2, t3, t4, t5, t6, mkL, i_draw_from, e, z]
  · intro n base h j e
    have z : ∀ base, callF prog (n + t + 3) base 17 [.ref j, .int (m + 1)] h = .ok (.int (dr s (m + 1))) (h.set j (OO (nx s) (k + 1))) := fun base => sp_next (n := n + t + 2) e (by omega) (by omega)
    obtain ⟨y3, y7, q⟩ := fl_O (R := Rt l) (c := ⟨callF prog (n + t + 3), h.length, prog⟩) (d := .tup [.str nText, .int m, .str l]) (kd := .str nText) (m5 := dr s (m + 1)) (o := j) (el := elD)
      (fun s k v s' k' ⟨a1, a2, a3⟩ x3 acc x7 hh e => by
        subst a1 a2 a3
        have z : ∀ base, callF prog (n + t + 3) base 17 [.ref j, .int l.length] hh = .ok (.int (dr s l.length)) (hh.set j (OO (nx s) (k + 1))) := fun base => sp_next (n := n + t + 2) e (by omega) (by omega)
        have a0 := dr_lo (s := s) (m := l.length) (by omega)
        have a1 := dr_hi (s := s) hpos
        have hi : ixAt l.length (dr s l.length) = some (dr s l.length).toNat := by
          unfold ixAt
          rw [if_pos a0, if_pos a1]
        have hg : (dr s l.length).toNat < l.length := by omega
        have hb : l.length ≤ 16777216 := by omega
        simp only [List.getD_eq_getElem?_getD]
        simp [fill, PI.start, leave, exs, ex, ev, evs, evo, evAnd, evOr, evI, asg, asgs, Res.bind, Res.out, asB, quiet, opB, opC, intC, addD, insOf, fget, fput, opt, setFld, setFldC, augD, st_int, st_str, Nat.blt, Nat.ble, D.bel, D.bels, take_set, dicOf, obDic, idxD, D.atom, kget, kput, D.beq, setSub, okb, okn, deq, deref, D.flat, D.flats, D.eqb, D.eqbs, smax, biD, bmD, lenD, ↓ev_tup, ↓ev_lst, ↓ex_fr, List.replicate, seqOf, x20, x21, x30, x31, x32, x40, x41, x42, x43, t1, t2, t3, t4, t5, t6, mkL, elD, e, z, hi, hg, hb]) r 0 _ [] none none (at_set e) (by simp only [List.length_nil]; omega)
    rw [set_two] at q
    simp only [ldB, elD, List.nil_append] at q
    rw [callF_at fn19]
    simp [fill, PI.start, leave, exs, ex, ev, evs, evo, evAnd, evOr, evI, asg, asgs, Res.bind, Res.out, asB, quiet, opB, opC, intC, addD, insOf, fget, fput, opt, setFld, setFldC, augD, st_int, st_str, Nat.blt, Nat.ble, D.bel, D.bels, take_set, dicOf, obDic, idxD, D.atom, kget, kput, D.beq, setSub, okb, okn, deq, deref, D.flat, D.flats, D.eqb, D.eqbs, smax, biD, bmD, lenD, ↓ev_tup, ↓ev_lst, ↓ex_fr, List.replicate, seqOf, x20, x21, x30, x31, x32, x40, x41, x42, x43, t1, t2, t3, t4, t5, t6, mkL, i__law_drawn, e, z, d1, d2, rngD, q, bmOk, hj]
theorem dd_pair {t : Nat} {a b : D} {s k s1 k1 s2 k2 : Int} {v w : D} (ha : Dd t a s k v s1 k1) (hb : Dd t b s1 k1 w s2 k2) (gv : ∀ n, D.bel n v = true) (gw : ∀ n, D.bel n w = true) : Dd (t + 1) (.tup [.str nPair, a, b]) s k (.tup [v, w]) s2 k2 := by
  constructor
  · intro n base h j e
    have z1 := fun base => ha.1 n base h j e
    have z2 := fun base => hb.1 n base _ j (at_set (u := TT s1 k1) e)
    rw [show n + (t + 1) + 4 = (n + t + 4) + 1 from by omega, callF_at fn12]
    simp [fill, PI.start, leave, exs, ex, ev, evs, evo, evAnd, evOr, evI, asg, asgs, Res.bind, Res.out, asB, quiet, opB, opC, intC, addD, insOf, fget, fput, opt, setFld, setFldC, augD, st_int, st_str, Nat.blt, Nat.ble, D.bel, D.bels, take_set, dicOf, obDic, idxD, D.atom, kget, kput, D.beq, setSub, okb, okn, deq, deref, D.flat, D.flats, D.eqb, D.eqbs, smax, biD, bmD, lenD, ↓ev_tup, ↓ev_lst, ↓ex_fr, List.replicate, seqOf, x20, x21, x30, x31, x32, x40, x41, x42, x43, t1, t2, t3, t4, t5, t6, mkL, i_draw_from, e, z1, z2, gv, gw]
  · intro n base h j e
    have z1 := fun base => ha.2 n base h j e
    have z2 := fun base => hb.2 n base _ j (at_set (u := OO s1 k1) e)
    rw [show n + (t + 1) + 4 = (n + t + 4) + 1 from by omega, callF_at fn19]
    simp [fill, PI.start, leave, exs, ex, ev, evs, evo, evAnd, evOr, evI, asg, asgs, Res.bind, Res.out, asB, quiet, opB, opC, intC, addD, insOf, fget, fput, opt, setFld, setFldC, augD, st_int, st_str, Nat.blt, Nat.ble, D.bel, D.bels, take_set, dicOf, obDic, idxD, D.atom, kget, kput, D.beq, setSub, okb, okn, deq, deref, D.flat, D.flats, D.eqb, D.eqbs, smax, biD, bmD, lenD, ↓ev_tup, ↓ev_lst, ↓ex_fr, List.replicate, seqOf, x20, x21, x30, x31, x32, x40, x41, x42, x43, t1, t2, t3, t4, t5, t6, mkL, i__law_drawn, e, z1, z2, gv, gw]
theorem dd_many {t : Nat} {a : D} {m s k s' k' : Int} {vs : List D} (h0 : 0 ≤ m) (h9 : m < 1000) (r : Rs (Dd t a) (dr s (m + 1)).toNat (nx s) (k + 1) vs s' k') (gb : ∀ n, D.bels n vs = true) (hlen : vs.length = (dr s (m + 1)).toNat) : Dd (t + 1) (.tup [.str nMany, .int m, a]) s k (.tup vs) s' k' := by
  have d0 := dr_lo (s := s) (m := m + 1) (by omega)
  have d3 := dr_hi (s := s) (m := m + 1) (by omega)
  have d1 : dr s (m + 1) ≤ 16777216 := by omega
  have d2 : -16777216 ≤ dr s (m + 1) := by omega
  constructor
  · intro n base h j e
    have z : ∀ base, callF prog (n + t + 4) base 1 [.ref j, .int (m + 1)] h = .ok (.int (dr s (m + 1))) (h.set j (TT (nx s) (k + 1))) := fun base => sp_roll (n := n + t + 3) e (by omega) (by omega)
    have hc := col_T (R := Dd t a) (c := ⟨callF prog (n + t + 4), h.length, prog⟩) (σ := [some (.ref j), some (.tup [.str nMany, .int m, a]), some (.str nMany), none, none]) (own := [4]) (i := 4) (j := j) (el := .call 12 [(.var 0), (.idx (.var 1) (.cst (.int 2)))])
      (fun s k v s' k' hd x hh e => by
        have z := fun base => hd.1 n base hh j e
        simp only [stp]
        simp [fill, PI.start, leave, exs, ex, ev, evs, evo, evAnd, evOr, evI, asg, asgs, Res.bind, Res.out, asB, quiet, opB, opC, intC, addD, insOf, fget, fput, opt, setFld, setFldC, augD, st_int, st_str, Nat.blt, Nat.ble, D.bel, D.bels, take_set, dicOf, obDic, idxD, D.atom, kget, kput, D.beq, setSub, okb, okn, deq, deref, D.flat, D.flats, D.eqb, D.eqbs, smax, biD, bmD, lenD, ↓ev_tup, ↓ev_lst, ↓ex_fr, List.replicate, seqOf, x20, x21, x30, x31, x32, x40, x41, x42, x43, t1, t2, t3, t4, t5, t6, mkL, wipeS, e, z]) r 0 _ (at_set e)
    rw [set_two] at hc
    have hb : ¬ m < 0 := by omega
    have hz : (dr s (m + 1)).toNat ≤ 16777216 := by omega
    rw [show n + (t + 1) + 4 = (n + t + 4) + 1 from by omega, callF_at fn12]
    simp [fill, PI.start, leave, exs, ex, ev, evs, evo, evAnd, evOr, evI, asg, asgs, Res.bind, Res.out, asB, quiet, opB, opC, intC, addD, insOf, fget, fput, opt, setFld, setFldC, augD, st_int, st_str, Nat.blt, Nat.ble, D.bel, D.bels, take_set, dicOf, obDic, idxD, D.atom, kget, kput, D.beq, setSub, okb, okn, deq, deref, D.flat, D.flats, D.eqb, D.eqbs, smax, biD, bmD, lenD, ↓ev_tup, ↓ev_lst, ↓ex_fr, List.replicate, seqOf, x20, x21, x30, x31, x32, x40, x41, x42, x43, t1, t2, t3, t4, t5, t6, mkL, i_draw_from, e, z, hb, rngD, d1, d2, hc, rangeL_length, hz, gb]
  · intro n base h j e
    have z : ∀ base, callF prog (n + t + 4) base 17 [.ref j, .int (m + 1)] h = .ok (.int (dr s (m + 1))) (h.set j (OO (nx s) (k + 1))) := fun base => sp_next (n := n + t + 3) e (by omega) (by omega)
    obtain ⟨y3, y7, q⟩ := fl_O (R := Dd t a) (c := ⟨callF prog (n + t + 4), h.length, prog⟩) (d := .tup [.str nMany, .int m, a]) (kd := .str nMany) (m5 := dr s (m + 1)) (o := j) (el := elD)
      (fun s k v s' k' hd x3 acc x7 hh e => by
        have z := fun base => hd.2 n base hh j e
        simp [fill, PI.start, leave, exs, ex, ev, evs, evo, evAnd, evOr, evI, asg, asgs, Res.bind, Res.out, asB, quiet, opB, opC, intC, addD, insOf, fget, fput, opt, setFld, setFldC, augD, st_int, st_str, Nat.blt, Nat.ble, D.bel, D.bels, take_set, dicOf, obDic, idxD, D.atom, kget, kput, D.beq, setSub, okb, okn, deq, deref, D.flat, D.flats, D.eqb, D.eqbs, smax, biD, bmD, lenD, ↓ev_tup, ↓ev_lst, ↓ex_fr, List.replicate, seqOf, x20, x21, x30, x31, x32, x40, x41, x42, x43, t1, t2, t3, t4, t5, t6, mkL, elD, e, z]) r 0 _ [] none none (at_set e) (by simp only [List.length_nil]; omega)
    rw [set_two] at q
    simp only [ldB, elD, List.nil_append] at q
    rw [show n + (t + 1) + 4 = (n + t + 4) + 1 from by omega, callF_at fn19]
    simp [fill, PI.start, leave, exs, ex, ev, evs, evo, evAnd, evOr, evI, asg, asgs, Res.bind, Res.out, asB, quiet, opB, opC, intC, addD, insOf, fget, fput, opt, setFld, setFldC, augD, st_int, st_str, Nat.blt, Nat.ble, D.bel, D.bels, take_set, dicOf, obDic, idxD, D.atom, kget, kput, D.beq, setSub, okb, okn, deq, deref, D.flat, D.flats, D.eqb, D.eqbs, smax, biD, bmD, lenD, ↓ev_tup, ↓ev_lst, ↓ex_fr, List.replicate, seqOf, x20, x21, x30, x31, x32, x40, x41, x42, x43, t1, t2, t3, t4, t5, t6, mkL, i__law_drawn, e, z, d1, d2, rngD, q, tupleD, gb]
end K01

set_option linter.all false
set_option maxRecDepth 100000
set_option maxHeartbeats 4000001
namespace K01
open PI
theorem draw_ok {t : Nat} {d : D} (sh : Sh t d) : ∀ s k : Int, ∃ v s' k', Dd t d s k v s' k' ∧ Gd (t + 1) v := by
  induction sh with
  | num h1 h2 => exact fun s k => ⟨_, _, _, dd_num h1 h2, gd_int⟩
  | @row t m lo hi h0 h9 h1 h2 =>
    intro s k
    obtain ⟨vs, s', k', r, _, g⟩ := rs_total (rn_total lo (hi - lo + 1)) (dr s (m + 1)).toNat (nx s) (k + 1)
    exact ⟨_, _, _, dd_row h0 h9 h1 h2 r g, by rw [Nat.add_comm]; have := (gd_tup g).mono t; rw [show 0 + 1 + t = 1 + t from by omega] at this; exact this⟩
  | @text t m l h0 h9 hl htx hl2 =>
    intro s k
    obtain ⟨vs, s', k', r, _, g⟩ := rs_total (rt_total hl htx) (dr s (m + 1)).toNat (nx s) (k + 1)
    obtain ⟨ws, w1, w2, w3, w4⟩ := rt_strs hl htx r
    have d3 := dr_hi (s := s) (m := m + 1) (by omega)
    exact ⟨_, _, _, dd_text h0 h9 hl htx hl2 r w1 (by rw [w2]; omega), gd_str w4⟩
  | @oneS t l hl htx h2 =>
    intro s k
    have hpos : 0 < (l.length : Int) := by have := List.length_pos_iff.mpr hl; omega
    have a0 := dr_lo (s := s) (m := l.length) (by omega)
    have a1 := dr_hi (s := s) hpos
    exact ⟨_, _, _, dd_oneS hl h2, gd_str (getD_tx htx _ (by omega))⟩
  | @oneT t l hl h2 gd =>
    intro s k
    have hpos : 0 < (l.length : Int) := by have := List.length_pos_iff.mpr hl; omega
    have a0 := dr_lo (s := s) (m := l.length) (by omega)
    have a1 := dr_hi (s := s) hpos
    have hg : (dr s l.length).toNat < l.length := by omega
    have g : Gd 0 (l.getD (dr s l.length).toNat .non) := by
      rw [List.getD_eq_getElem?_getD, List.getElem?_eq_getElem hg]
      exact gd _ (List.getElem_mem hg)
    exact ⟨_, _, _, dd_oneT hl h2 gd, by have := g.mono (t + 1); rw [Nat.zero_add] at this; exact this⟩
  | @pair t a b _ _ iha ihb =>
    intro s k
    obtain ⟨v, s1, k1, r1, g1⟩ := iha s k
    obtain ⟨w, s2, k2, r2, g2⟩ := ihb s1 k1
    refine ⟨_, _, _, dd_pair r1 r2 g1.bel g2.bel, gd_tup fun x hx => ?_⟩
    rcases List.mem_cons.mp hx with z | hx
    · rw [z]; exact g1
    · rw [List.mem_singleton.mp hx]; exact g2
  | @many t m a h0 h9 _ ih =>
    intro s k
    obtain ⟨vs, s', k', r, hl, g⟩ := rs_total ih (dr s (m + 1)).toNat (nx s) (k + 1)
    exact ⟨_, _, _, dd_many h0 h9 r (gd_bels g) hl, gd_tup g⟩
theorem sh_bel {t : Nat} {d : D} (sh : Sh t d) : ∀ n, D.bel n d = true := by
  induction sh with
  | num _ _ => intro n; simp [D.bel, D.bels]
  | row _ _ _ _ => intro n; simp [D.bel, D.bels]
  | text _ _ _ _ _ => intro n; simp [D.bel, D.bels]
  | oneS _ _ _ => intro n; simp [D.bel, D.bels]
  | oneT _ _ g => intro n; simp [D.bel, D.bels, gd_bels g]
  | pair _ _ ha hb => intro n; simp [D.bel, D.bels, ha, hb]
  | many _ _ _ ha => intro n; simp [D.bel, D.bels, ha]
theorem sp_check {t : Nat} {d : D} (sh : Sh t d) : ∀ (n base : Nat) (h : Hv) (deep : Int), 0 ≤ deep → deep + t ≤ 6 → callF prog (n + t + 1) base 11 [d, .int deep] h = .ok .non h := by
  induction sh with
  | num _ _ =>
    intro n base h deep h0 h1
    have hd : ¬ 6 < deep := by omega
    rw [callF_at fn11]
    simp [fill, PI.start, leave, exs, ex, ev, evs, evo, evAnd, evOr, evI, asg, asgs, Res.bind, Res.out, asB, quiet, opB, opC, intC, addD, insOf, fget, fput, opt, setFld, setFldC, augD, st_int, st_str, Nat.blt, Nat.ble, D.bel, D.bels, take_set, dicOf, obDic, idxD, D.atom, kget, kput, D.beq, setSub, okb, okn, deq, deref, D.flat, D.flats, D.eqb, D.eqbs, smax, biD, bmD, lenD, ↓ev_tup, ↓ev_lst, ↓ex_fr, List.replicate, seqOf, x20, x21, x30, x31, x32, x40, x41, x42, x43, t1, t2, t3, t4, t5, t6, mkL, i_check_shape, dispD, pairUp, kputs, at_new, set_new, take_new, isin, hd]
  | row _ _ _ _ =>
    intro n base h deep h0 h1
    have hd : ¬ 6 < deep := by omega
    rw [callF_at fn11]
    simp [fill, PI.start, leave, exs, ex, ev, evs, evo, evAnd, evOr, evI, asg, asgs, Res.bind, Res.out, asB, quiet, opB, opC, intC, addD, insOf, fget, fput, opt, setFld, setFldC, augD, st_int, st_str, Nat.blt, Nat.ble, D.bel, D.bels, take_set, dicOf, obDic, idxD, D.atom, kget, kput, D.beq, setSub, okb, okn, deq, deref, D.flat, D.flats, D.eqb, D.eqbs, smax, biD, bmD, lenD, ↓ev_tup, ↓ev_lst, ↓ex_fr, List.replicate, seqOf, x20, x21, x30, x31, x32, x40, x41, x42, x43, t1, t2, t3, t4, t5, t6, mkL, i_check_shape, dispD, pairUp, kputs, at_new, set_new, take_new, isin, hd]
  | text _ _ _ _ _ =>
    intro n base h deep h0 h1
    have hd : ¬ 6 < deep := by omega
    rw [callF_at fn11]
    simp [fill, PI.start, leave, exs, ex, ev, evs, evo, evAnd, evOr, evI, asg, asgs, Res.bind, Res.out, asB, quiet, opB, opC, intC, addD, insOf, fget, fput, opt, setFld, setFldC, augD, st_int, st_str, Nat.blt, Nat.ble, D.bel, D.bels, take_set, dicOf, obDic, idxD, D.atom, kget, kput, D.beq, setSub, okb, okn, deq, deref, D.flat, D.flats, D.eqb, D.eqbs, smax, biD, bmD, lenD, ↓ev_tup, ↓ev_lst, ↓ex_fr, List.replicate, seqOf, x20, x21, x30, x31, x32, x40, x41, x42, x43, t1, t2, t3, t4, t5, t6, mkL, i_check_shape, dispD, pairUp, kputs, at_new, set_new, take_new, isin, hd]
  | oneS _ _ _ =>
    intro n base h deep h0 h1
    have hd : ¬ 6 < deep := by omega
    rw [callF_at fn11]
    simp [fill, PI.start, leave, exs, ex, ev, evs, evo, evAnd, evOr, evI, asg, asgs, Res.bind, Res.out, asB, quiet, opB, opC, intC, addD, insOf, fget, fput, opt, setFld, setFldC, augD, st_int, st_str, Nat.blt, Nat.ble, D.bel, D.bels, take_set, dicOf, obDic, idxD, D.atom, kget, kput, D.beq, setSub, okb, okn, deq, deref, D.flat, D.flats, D.eqb, D.eqbs, smax, biD, bmD, lenD, ↓ev_tup, ↓ev_lst, ↓ex_fr, List.replicate, seqOf, x20, x21, x30, x31, x32, x40, x41, x42, x43, t1, t2, t3, t4, t5, t6, mkL, i_check_shape, dispD, pairUp, kputs, at_new, set_new, take_new, isin, hd]
  | oneT _ _ g =>
    intro n base h deep h0 h1
    have hd : ¬ 6 < deep := by omega
    rw [callF_at fn11]
    simp [fill, PI.start, leave, exs, ex, ev, evs, evo, evAnd, evOr, evI, asg, asgs, Res.bind, Res.out, asB, quiet, opB, opC, intC, addD, insOf, fget, fput, opt, setFld, setFldC, augD, st_int, st_str, Nat.blt, Nat.ble, D.bel, D.bels, take_set, dicOf, obDic, idxD, D.atom, kget, kput, D.beq, setSub, okb, okn, deq, deref, D.flat, D.flats, D.eqb, D.eqbs, smax, biD, bmD, lenD, ↓ev_tup, ↓ev_lst, ↓ex_fr, List.replicate, seqOf, x20, x21, x30, x31, x32, x40, x41, x42, x43, t1, t2, t3, t4, t5, t6, mkL, i_check_shape, dispD, pairUp, kputs, at_new, set_new, take_new, isin, hd]
  | @pair t a b _ _ ha hb =>
    intro n base h deep h0 h1
    have hd : ¬ 6 < deep := by omega
    have za := fun base h => ha n base h (deep + 1) (by omega) (by omega)
    have zb := fun base h => hb n base h (deep + 1) (by omega) (by omega)
    rw [show n + (t + 1) + 1 = (n + t + 1) + 1 from by omega, callF_at fn11]
    simp [fill, PI.start, leave, exs, ex, ev, evs, evo, evAnd, evOr, evI, asg, asgs, Res.bind, Res.out, asB, quiet, opB, opC, intC, addD, insOf, fget, fput, opt, setFld, setFldC, augD, st_int, st_str, Nat.blt, Nat.ble, D.bel, D.bels, take_set, dicOf, obDic, idxD, D.atom, kget, kput, D.beq, setSub, okb, okn, deq, deref, D.flat, D.flats, D.eqb, D.eqbs, smax, biD, bmD, lenD, ↓ev_tup, ↓ev_lst, ↓ex_fr, List.replicate, seqOf, x20, x21, x30, x31, x32, x40, x41, x42, x43, t1, t2, t3, t4, t5, t6, mkL, i_check_shape, dispD, pairUp, kputs, at_new, set_new, take_new, isin, hd, za, zb]
  | @many t m a _ _ _ ha =>
    intro n base h deep h0 h1
    have hd : ¬ 6 < deep := by omega
    have za := fun base h => ha n base h (deep + 1) (by omega) (by omega)
    rw [show n + (t + 1) + 1 = (n + t + 1) + 1 from by omega, callF_at fn11]
    simp [fill, PI.start, leave, exs, ex, ev, evs, evo, evAnd, evOr, evI, asg, asgs, Res.bind, Res.out, asB, quiet, opB, opC, intC, addD, insOf, fget, fput, opt, setFld, setFldC, augD, st_int, st_str, Nat.blt, Nat.ble, D.bel, D.bels, take_set, dicOf, obDic, idxD, D.atom, kget, kput, D.beq, setSub, okb, okn, deq, deref, D.flat, D.flats, D.eqb, D.eqbs, smax, biD, bmD, lenD, ↓ev_tup, ↓ev_lst, ↓ex_fr, List.replicate, seqOf, x20, x21, x30, x31, x32, x40, x41, x42, x43, t1, t2, t3, t4, t5, t6, mkL, i_check_shape, dispD, pairUp, kputs, at_new, set_new, take_new, isin, hd, za]
theorem sp_init {n base j : Nat} {s : Int} {h : Hv} (e : h[j]? = some (.ins 2 [])) (h1 : 0 ≤ s) (h2 : s < 65536) : callF prog (n + 1) base 0 [.ref j, .int s] h = .ok .non (h.set j (TT s 0)) := by
  rw [callF_at fn0]
  simp [fill, PI.start, leave, exs, ex, ev, evs, evo, evAnd, evOr, evI, asg, asgs, Res.bind, Res.out, asB, quiet, opB, opC, intC, addD, insOf, fget, fput, opt, setFld, setFldC, augD, st_int, st_str, Nat.blt, Nat.ble, D.bel, D.bels, take_set, dicOf, obDic, idxD, D.atom, kget, kput, D.beq, setSub, okb, okn, deq, deref, D.flat, D.flats, D.eqb, D.eqbs, smax, biD, bmD, lenD, ↓ev_tup, ↓ev_lst, ↓ex_fr, List.replicate, seqOf, x20, x21, x30, x31, x32, x40, x41, x42, x43, t1, t2, t3, t4, t5, t6, mkL, i_Dice___init__, e, h1, h2, at_set e]
theorem sp_drawn {t n base : Nat} {d v : D} {s s' k' : Int} {h : Hv} (sh : Sh t d) (ht : t ≤ 6) (h1 : 0 ≤ s) (h2 : s < 65536) (r : DT t d s 0 v s' k') (gb : ∀ m, D.bel m v = true) : callF prog (n + t + 5) base 10 [.int s, d] h = .ok v h := by
  have z0 : ∀ base, callF prog (n + t + 4) base 0 [.ref h.length, .int s] (h ++ [.ins 2 []]) = .ok .non (h ++ [TT s 0]) := fun base => by
    rw [sp_init (n := n + t + 3) at_new h1 h2, set_new]
  have z1 := fun base h => sp_check sh (n + 3) base h 0 (by decide) (by omega)
  have z1 : ∀ base h, callF prog (n + t + 4) base 11 [d, .int 0] h = .ok .non h := fun base h => by
    have := z1 base h
    rw [show n + 3 + t + 1 = n + t + 4 from by omega] at this
    exact this
  have z2 : ∀ base, callF prog (n + t + 4) base 12 [.ref h.length, d] (h ++ [TT s 0]) = .ok v (h ++ [TT s' k']) := fun base => by
    rw [r n base _ _ at_new, set_new]
  rw [callF_at fn10]
  simp [fill, PI.start, leave, exs, ex, ev, evs, evo, evAnd, evOr, evI, asg, asgs, Res.bind, Res.out, asB, quiet, opB, opC, intC, addD, insOf, fget, fput, opt, setFld, setFldC, augD, st_int, st_str, Nat.blt, Nat.ble, D.bel, D.bels, take_set, dicOf, obDic, idxD, D.atom, kget, kput, D.beq, setSub, okb, okn, deq, deref, D.flat, D.flats, D.eqb, D.eqbs, smax, biD, bmD, lenD, ↓ev_tup, ↓ev_lst, ↓ex_fr, List.replicate, seqOf, x20, x21, x30, x31, x32, x40, x41, x42, x43, t1, t2, t3, t4, t5, t6, mkL, i_drawn, z0, z1, z2, gb, take_new]
end K01

set_option linter.all false
set_option maxRecDepth 100000
set_option maxHeartbeats 8000000
namespace K01
open PI
/-- some dice of the law stand at i -/
def Dc (h : Hv) (i : Nat) : Prop := ∃ a b c, h[i]? = some (LD a b c)
theorem lroll {n i : Nat} {m : Int} {h : Hv} (e : Dc h i) (h1 : 1 ≤ m) (h2 : m ≤ 65536) : ∃ r o, 0 ≤ r ∧ r < m ∧ (∀ base, callF prog (n + 1) base 14 [.ref i, .int m] h = .ok (.int r) (h.set i o)) ∧ Dc (h.set i o) i := by
  obtain ⟨a, b, c, e⟩ := e
  obtain ⟨r, a', b', c', r1, r2, z⟩ := sp_lroll (n := n) (base := 0) e h1 h2
  refine ⟨r, LD a' b' c', r1, r2, fun base => ?_, a', b', c', at_set e⟩
  have key : ∀ b1 b2, callF prog (n + 1) b1 14 [.ref i, .int m] h = callF prog (n + 1) b2 14 [.ref i, .int m] h := fun b1 b2 => by
    rw [callF_at fn14, callF_at fn14]
    rfl
  rw [key base 0, z]
theorem three {l : List D} {r : Int} {a b c : D} {h : Hv} (h0 : 0 ≤ r) (h1 : r < 3) : idxD h (.lst [a, b, c]) (.int r) = .ok (if r = 0 then a else if r = 1 then b else c) h := by
  have : r = 0 ∨ r = 1 ∨ r = 2 := by omega
  rcases this with rfl | rfl | rfl <;> rfl
theorem sp_shape : ∀ (t n i : Nat) (h : Hv), Dc h i → t ≤ 100 → ∃ d o, Sh t d ∧ (∀ base, callF prog (n + t + 2) base 18 [.ref i, .int t] h = .ok d (h.set i o)) ∧ Dc (h.set i o) i := by
  intro t
  induction t with
  | zero =>
    intro n i h e ht
    obtain ⟨r0, o0, a0, b0, z0, e0⟩ := lroll (n := n) e (m := 4) (by decide) (by decide)
    obtain ⟨r1, o1, a1, b1, z1, e1⟩ := lroll (n := n) e0 (m := 20) (by decide) (by decide)
    rw [set_two] at z1 e1
    have hr : r0 = 0 ∨ r0 = 1 ∨ r0 = 2 ∨ r0 = 3 := by omega
    rcases hr with rfl | rfl | rfl | rfl
    · obtain ⟨r2, o2, a2, b2, z2, e2⟩ := lroll (n := n) e1 (m := 30) (by decide) (by decide)
      rw [set_two] at z2 e2
      refine ⟨_, o2, .num (lo := r1 - 10) (hi := r1 - 10 + r2) (by omega) (by omega), fun base => ?_, e2⟩
      rw [callF_at fn18]
      simp [fill, PI.start, leave, exs, ex, ev, evs, asg, Res.bind, Res.out, asB, quiet, opB, opC, intC, addD, okb, deq, deref, D.flat, D.eqb, D.bel, D.bels, take_set, List.replicate, mkL, i__law_shape, z0, z1, z2]
    · obtain ⟨r2, o2, a2, b2, z2, e2⟩ := lroll (n := n) e1 (m := 4) (by decide) (by decide)
      rw [set_two] at z2 e2
      obtain ⟨r3, o3, a3, b3, z3, e3⟩ := lroll (n := n) e2 (m := 9) (by decide) (by decide)
      rw [set_two] at z3 e3
      refine ⟨_, o3, .row (n := r2) (lo := r1 - 10) (hi := r1 - 10 + r3) a2 (by omega) (by omega) (by omega), fun base => ?_, e3⟩
      rw [callF_at fn18]
      simp [fill, PI.start, leave, exs, ex, ev, evs, asg, Res.bind, Res.out, asB, quiet, opB, opC, intC, addD, okb, deq, deref, D.flat, D.eqb, D.bel, D.bels, take_set, List.replicate, mkL, i__law_shape, z0, z1, z2, z3]
    · obtain ⟨r2, o2, a2, b2, z2, e2⟩ := lroll (n := n) e1 (m := 5) (by decide) (by decide)
      rw [set_two] at z2 e2
      obtain ⟨r3, o3, a3, b3, z3, e3⟩ := lroll (n := n) e2 (m := 3) (by decide) (by decide)
      rw [set_two] at z3 e3
      have h3 : r3 = 0 ∨ r3 = 1 ∨ r3 = 2 := by omega
      rcases h3 with rfl | rfl | rfl
      · refine ⟨_, o3, .text (n := r2) (l := [97]) a2 (by omega) (by decide) (by decide) (by decide), fun base => ?_, e3⟩
        rw [callF_at fn18]
        simp [fill, PI.start, leave, exs, ex, ev, evs, asg, Res.bind, Res.out, asB, quiet, opB, opC, intC, addD, okb, deq, deref, D.flat, D.eqb, D.bel, D.bels, take_set, List.replicate, mkL, i__law_shape, z0, z1, z2, z3, idxD, dicOf, seqOf, x30, x31, x32]
      · refine ⟨_, o3, .text (n := r2) (l := [120, 121, 122]) a2 (by omega) (by decide) (by decide) (by decide), fun base => ?_, e3⟩
        rw [callF_at fn18]
        simp [fill, PI.start, leave, exs, ex, ev, evs, asg, Res.bind, Res.out, asB, quiet, opB, opC, intC, addD, okb, deq, deref, D.flat, D.eqb, D.bel, D.bels, take_set, List.replicate, mkL, i__law_shape, z0, z1, z2, z3, idxD, dicOf, seqOf, x30, x31, x32]
      · refine ⟨_, o3, .text (n := r2) (l := [48, 49]) a2 (by omega) (by decide) (by decide) (by decide), fun base => ?_, e3⟩
        rw [callF_at fn18]
        simp [fill, PI.start, leave, exs, ex, ev, evs, asg, Res.bind, Res.out, asB, quiet, opB, opC, intC, addD, okb, deq, deref, D.flat, D.eqb, D.bel, D.bels, take_set, List.replicate, mkL, i__law_shape, z0, z1, z2, z3, idxD, dicOf, seqOf, x30, x31, x32]
    · obtain ⟨r3, o3, a3, b3, z3, e3⟩ := lroll (n := n) e1 (m := 3) (by decide) (by decide)
      rw [set_two] at z3 e3
      have h3 : r3 = 0 ∨ r3 = 1 ∨ r3 = 2 := by omega
      rcases h3 with rfl | rfl | rfl
      · refine ⟨_, o3, .oneT (l := [.str [112], .str [113], .str [114]]) (by simp) (by decide) (fun v hv => ?_), fun base => ?_, e3⟩
        · simp at hv
          rcases hv with rfl | rfl | rfl <;> exact gd_str (by decide)
        · rw [callF_at fn18]
          simp [fill, PI.start, leave, exs, ex, ev, evs, asg, Res.bind, Res.out, asB, quiet, opB, opC, intC, addD, okb, deq, deref, D.flat, D.eqb, D.bel, D.bels, take_set, List.replicate, mkL, i__law_shape, z0, z1, z3, idxD, dicOf, seqOf, x30, x31, x32]
      · refine ⟨_, o3, .oneT (l := [.int 5]) (by simp) (by decide) (fun v hv => ?_), fun base => ?_, e3⟩
        · simp at hv
          rw [hv]; exact gd_int
        · rw [callF_at fn18]
          simp [fill, PI.start, leave, exs, ex, ev, evs, asg, Res.bind, Res.out, asB, quiet, opB, opC, intC, addD, okb, deq, deref, D.flat, D.eqb, D.bel, D.bels, take_set, List.replicate, mkL, i__law_shape, z0, z1, z3, idxD, dicOf, seqOf, x30, x31, x32]
      · refine ⟨_, o3, .oneS (l := [117, 118]) (by decide) (by decide) (by decide), fun base => ?_, e3⟩
        rw [callF_at fn18]
        simp [fill, PI.start, leave, exs, ex, ev, evs, asg, Res.bind, Res.out, asB, quiet, opB, opC, intC, addD, okb, deq, deref, D.flat, D.eqb, D.bel, D.bels, take_set, List.replicate, mkL, i__law_shape, z0, z1, z3, idxD, dicOf, seqOf, x30, x31, x32]
  | succ t ih =>
    intro n i h e ht
    obtain ⟨r0, o0, a0, b0, z0, e0⟩ := lroll (n := n + t + 1) e (m := 6) (by decide) (by decide)
    obtain ⟨r1, o1, a1, b1, z1, e1⟩ := lroll (n := n + t + 1) e0 (m := 20) (by decide) (by decide)
    rw [set_two] at z1 e1
    have hpos : (0 : Int) < (t : Int) + 1 := by omega
    have hsub : ((t : Int) + 1) - 1 = t := by omega
    rw [show n + (t + 1) + 2 = (n + t + 2) + 1 from by omega]
    have hr : r0 = 0 ∨ r0 = 1 ∨ r0 = 2 ∨ r0 = 3 ∨ r0 = 4 ∨ r0 = 5 := by omega
    rcases hr with rfl | rfl | rfl | rfl | rfl | rfl
    · obtain ⟨r2, o2, a2, b2, z2, e2⟩ := lroll (n := n + t + 1) e1 (m := 30) (by decide) (by decide)
      rw [set_two] at z2 e2
      refine ⟨_, o2, .num (lo := r1 - 10) (hi := r1 - 10 + r2) (by omega) (by omega), fun base => ?_, e2⟩
      rw [callF_at fn18]
      simp [fill, PI.start, leave, exs, ex, ev, evs, asg, Res.bind, Res.out, asB, quiet, opB, opC, intC, addD, okb, deq, deref, D.flat, D.eqb, D.bel, D.bels, take_set, List.replicate, mkL, i__law_shape, z0, z1, z2, hpos]
    · obtain ⟨r2, o2, a2, b2, z2, e2⟩ := lroll (n := n + t + 1) e1 (m := 4) (by decide) (by decide)
      rw [set_two] at z2 e2
      obtain ⟨r3, o3, a3, b3, z3, e3⟩ := lroll (n := n + t + 1) e2 (m := 9) (by decide) (by decide)
      rw [set_two] at z3 e3
      refine ⟨_, o3, .row (n := r2) (lo := r1 - 10) (hi := r1 - 10 + r3) a2 (by omega) (by omega) (by omega), fun base => ?_, e3⟩
      rw [callF_at fn18]
      simp [fill, PI.start, leave, exs, ex, ev, evs, asg, Res.bind, Res.out, asB, quiet, opB, opC, intC, addD, okb, deq, deref, D.flat, D.eqb, D.bel, D.bels, take_set, List.replicate, mkL, i__law_shape, z0, z1, z2, z3, hpos]
    · obtain ⟨r2, o2, a2, b2, z2, e2⟩ := lroll (n := n + t + 1) e1 (m := 5) (by decide) (by decide)
      rw [set_two] at z2 e2
      obtain ⟨r3, o3, a3, b3, z3, e3⟩ := lroll (n := n + t + 1) e2 (m := 3) (by decide) (by decide)
      rw [set_two] at z3 e3
      have h3 : r3 = 0 ∨ r3 = 1 ∨ r3 = 2 := by omega
      rcases h3 with rfl | rfl | rfl
      · refine ⟨_, o3, .text (n := r2) (l := [97]) a2 (by omega) (by decide) (by decide) (by decide), fun base => ?_, e3⟩
        rw [callF_at fn18]
        simp [fill, PI.start, leave, exs, ex, ev, evs, asg, Res.bind, Res.out, asB, quiet, opB, opC, intC, addD, okb, deq, deref, D.flat, D.eqb, D.bel, D.bels, take_set, List.replicate, mkL, i__law_shape, z0, z1, z2, z3, hpos, idxD, dicOf, seqOf, x30, x31, x32]
      · refine ⟨_, o3, .text (n := r2) (l := [120, 121, 122]) a2 (by omega) (by decide) (by decide) (by decide), fun base => ?_, e3⟩
        rw [callF_at fn18]
        simp [fill, PI.start, leave, exs, ex, ev, evs, asg, Res.bind, Res.out, asB, quiet, opB, opC, intC, addD, okb, deq, deref, D.flat, D.eqb, D.bel, D.bels, take_set, List.replicate, mkL, i__law_shape, z0, z1, z2, z3, hpos, idxD, dicOf, seqOf, x30, x31, x32]
      · refine ⟨_, o3, .text (n := r2) (l := [48, 49]) a2 (by omega) (by decide) (by decide) (by decide), fun base => ?_, e3⟩
        rw [callF_at fn18]
        simp [fill, PI.start, leave, exs, ex, ev, evs, asg, Res.bind, Res.out, asB, quiet, opB, opC, intC, addD, okb, deq, deref, D.flat, D.eqb, D.bel, D.bels, take_set, List.replicate, mkL, i__law_shape, z0, z1, z2, z3, hpos, idxD, dicOf, seqOf, x30, x31, x32]
    · obtain ⟨r3, o3, a3, b3, z3, e3⟩ := lroll (n := n + t + 1) e1 (m := 3) (by decide) (by decide)
      rw [set_two] at z3 e3
      have h3 : r3 = 0 ∨ r3 = 1 ∨ r3 = 2 := by omega
      rcases h3 with rfl | rfl | rfl
      · refine ⟨_, o3, .oneT (l := [.str [112], .str [113], .str [114]]) (by simp) (by decide) (fun v hv => ?_), fun base => ?_, e3⟩
        · simp at hv
          rcases hv with rfl | rfl | rfl <;> exact gd_str (by decide)
        · rw [callF_at fn18]
          simp [fill, PI.start, leave, exs, ex, ev, evs, asg, Res.bind, Res.out, asB, quiet, opB, opC, intC, addD, okb, deq, deref, D.flat, D.eqb, D.bel, D.bels, take_set, List.replicate, mkL, i__law_shape, z0, z1, z3, hpos, idxD, dicOf, seqOf, x30, x31, x32]
      · refine ⟨_, o3, .oneT (l := [.int 5]) (by simp) (by decide) (fun v hv => ?_), fun base => ?_, e3⟩
        · simp at hv
          rw [hv]; exact gd_int
        · rw [callF_at fn18]
          simp [fill, PI.start, leave, exs, ex, ev, evs, asg, Res.bind, Res.out, asB, quiet, opB, opC, intC, addD, okb, deq, deref, D.flat, D.eqb, D.bel, D.bels, take_set, List.replicate, mkL, i__law_shape, z0, z1, z3, hpos, idxD, dicOf, seqOf, x30, x31, x32]
      · refine ⟨_, o3, .oneS (l := [117, 118]) (by decide) (by decide) (by decide), fun base => ?_, e3⟩
        rw [callF_at fn18]
        simp [fill, PI.start, leave, exs, ex, ev, evs, asg, Res.bind, Res.out, asB, quiet, opB, opC, intC, addD, okb, deq, deref, D.flat, D.eqb, D.bel, D.bels, take_set, List.replicate, mkL, i__law_shape, z0, z1, z3, hpos, idxD, dicOf, seqOf, x30, x31, x32]
    · obtain ⟨d1, o2, s1, z2, e2⟩ := ih n i _ e1 (by omega)
      rw [set_two] at e2
      obtain ⟨d2, o3, s2, z3, e3⟩ := ih n i _ e2 (by omega)
      rw [set_two] at e3
      have z2 : ∀ base, callF prog (n + t + 2) base 18 [.ref i, .int t] (h.set i o1) = .ok d1 (h.set i o2) := fun base => by rw [z2, set_two]
      have z3 : ∀ base, callF prog (n + t + 2) base 18 [.ref i, .int t] (h.set i o2) = .ok d2 (h.set i o3) := fun base => by rw [z3, set_two]
      refine ⟨_, o3, .pair s1 s2, fun base => ?_, e3⟩
      rw [callF_at fn18]
      simp [fill, PI.start, leave, exs, ex, ev, evs, asg, Res.bind, Res.out, asB, quiet, opB, opC, intC, addD, okb, deq, deref, D.flat, D.eqb, D.bel, D.bels, take_set, List.replicate, mkL, i__law_shape, z0, z1, z2, z3, hpos, hsub, sh_bel s1, sh_bel s2]
    · obtain ⟨r2, o2, a2, b2, z2, e2⟩ := lroll (n := n + t + 1) e1 (m := 4) (by decide) (by decide)
      rw [set_two] at z2 e2
      obtain ⟨d2, o3, s2, z3, e3⟩ := ih n i _ e2 (by omega)
      rw [set_two] at e3
      have z3 : ∀ base, callF prog (n + t + 2) base 18 [.ref i, .int t] (h.set i o2) = .ok d2 (h.set i o3) := fun base => by rw [z3, set_two]
      refine ⟨_, o3, .many (n := r2) a2 (by omega) s2, fun base => ?_, e3⟩
      rw [callF_at fn18]
      simp [fill, PI.start, leave, exs, ex, ev, evs, asg, Res.bind, Res.out, asB, quiet, opB, opC, intC, addD, okb, deq, deref, D.flat, D.eqb, D.bel, D.bels, take_set, List.replicate, mkL, i__law_shape, z0, z1, z2, z3, hpos, hsub, sh_bel s2]
end K01

set_option linter.all false
set_option maxRecDepth 100000
set_option maxHeartbeats 8000000
namespace K01
open PI
/-! ### shuffles -/
def swp (p o : Nat) (xs : List D) : List D := (xs.set p (xs.getD o .non)).set o (xs.getD p .non)
def shf : Nat → Int → Int → List D → List D × Int × Int
  | 0, s, k, xs => (xs, s, k)
  | N + 1, s, k, xs => shf N (nx s) (k + 1) (swp (N + 1) (dr s (((N : Int) + 1) + 1)).toNat xs)
theorem swp_len {p o : Nat} {xs : List D} : (swp p o xs).length = xs.length := by unfold swp; rw [List.length_set, List.length_set]
theorem getD_mem {xs : List D} {i : Nat} (h : i < xs.length) : xs.getD i .non ∈ xs := by
  rw [List.getD_eq_getElem?_getD, List.getElem?_eq_getElem h]
  exact List.getElem_mem h
theorem getD_at {xs : List D} {i : Nat} (h : i < xs.length) : xs[i]? = some (xs.getD i .non) := by
  rw [List.getD_eq_getElem?_getD, List.getElem?_eq_getElem h] <;> rfl
theorem swp_gd {p o : Nat} {xs : List D} (hp : p < xs.length) (ho : o < xs.length) (g : ∀ v ∈ xs, Gd 0 v) : ∀ v ∈ swp p o xs, Gd 0 v := fun v hv => by
  unfold swp at hv
  rcases List.mem_or_eq_of_mem_set hv with hv | hv
  · rcases List.mem_or_eq_of_mem_set hv with hv | hv
    · exact g v hv
    · rw [hv]; exact g _ (getD_mem ho)
  · rw [hv]; exact g _ (getD_mem hp)
theorem shf_gd : ∀ (N : Nat) (s k : Int) (xs : List D), N < xs.length → (∀ v ∈ xs, Gd 0 v) → (∀ v ∈ (shf N s k xs).1, Gd 0 v) ∧ (shf N s k xs).1.length = xs.length
  | 0, s, k, xs, _, g => ⟨g, rfl⟩
  | N + 1, s, k, xs, h, g => by
    have a := dr_lo (s := s) (m := ((N : Int) + 1) + 1) (by omega)
    have b := dr_hi (s := s) (m := ((N : Int) + 1) + 1) (by omega)
    obtain ⟨r1, r2⟩ := shf_gd N (nx s) (k + 1) (swp (N + 1) (dr s (((N : Int) + 1) + 1)).toNat xs) (by rw [swp_len]; omega) (swp_gd h (by omega) g)
    exact ⟨r1, by rw [shf, r2, swp_len]⟩
theorem ix_nat {n i : Nat} (h : i < n) : ixAt n (i : Int) = some i := by
  unfold ixAt
  (rw [if_pos (by omega), if_pos (by omega)])
  simp
theorem ix_int {n : Nat} {r : Int} (h0 : 0 ≤ r) (h : r < n) : ixAt n r = some r.toNat := by
  unfold ixAt
  rw [if_pos h0, if_pos h]
theorem st_base {b : Nat} {d : D} : stOk b b d = true := by
  unfold stOk
  rw [show Nat.ble b b = true from Nat.ble_eq_true_of_le (Nat.le_refl _)] <;> rfl
def shT : List S := [.set (.var 4) (.mth 2 5 1 (.var 0) [(.bin .add false (.var 3) (.cst (.int 1)))]), .par [(.idx (.var 2) (.var 3)), (.idx (.var 2) (.var 4))] [(.idx (.var 2) (.var 4)), (.idx (.var 2) (.var 3))]]
def shO : List S := [.set (.var 4) (.call 17 [(.var 0), (.bin .add false (.var 3) (.cst (.int 1)))]), .set (.var 5) (.idx (.var 2) (.var 3)), .set (.idx (.var 2) (.var 3)) (.idx (.var 2) (.var 4)), .set (.idx (.var 2) (.var 4)) (.var 5)]
theorem fl_shT {n q j : Nat} {l : List Nat} (hq : j ≠ q) : ∀ (N : Nat) (s k : Int) (xs : List D) (h : Hv) (x3 x4 : Option D), N < xs.length → xs.length ≤ 1000 → h[j]? = some (TT s k) → h[q]? = some (.lst xs) →
    ∃ y3 y4, fl ⟨callF prog (n + 1), q, prog⟩ (.var 3) shT (rangeL N (-1) N) [some (.ref j), some (.str l), some (.ref q), x3, x4] h = .nx [some (.ref j), some (.str l), some (.ref q), y3, y4] ((h.set j (TT (shf N s k xs).2.1 (shf N s k xs).2.2)).set q (.lst (shf N s k xs).1))
  | 0, s, k, xs, h, x3, x4, h1, h2, e, eq => ⟨x3, x4, by simp only [shf]; rw [rangeL, fl_nil, set_same e, set_same eq]⟩
  | N + 1, s, k, xs, h, x3, x4, h1, h2, e, eq => by
    have a := dr_lo (s := s) (m := ((N : Int) + 1) + 1) (by omega)
    have b := dr_hi (s := s) (m := ((N : Int) + 1) + 1) (by omega)
    have z := fun base => sp_roll (n := n) (base := base) e (m := ((N : Int) + 1) + 1) (by omega) (by omega)
    generalize ho : dr s (((N : Int) + 1) + 1) = o at a b z
    have eq1 : (h.set j (TT (nx s) (k + 1)))[q]? = some (.lst xs) := by rw [at_ne hq]; exact eq
    have i1 : ixAt xs.length ((N : Int) + 1) = some (N + 1) := by
      have := ix_nat (n := xs.length) (i := N + 1) h1
      simpa using this
    have i2 : ixAt xs.length o = some o.toNat := ix_int a (by omega)
    have g1 := getD_at (xs := xs) (i := N + 1) h1
    have g2 := getD_at (xs := xs) (i := o.toNat) (by omega)
    have i3 : ixAt (xs.set (N + 1) (xs.getD o.toNat .non)).length o = some o.toNat := by rw [List.length_set]; exact i2
    obtain ⟨y3, y4, ih⟩ := fl_shT (n := n) (l := l) hq N (nx s) (k + 1) (swp (N + 1) o.toNat xs) ((h.set j (TT (nx s) (k + 1))).set q (.lst (swp (N + 1) o.toNat xs))) (some (.int ((N : Int) + 1))) (some (.int o)) (by rw [swp_len]; omega) (by rw [swp_len]; omega)
      (by rw [at_ne (Ne.symm hq)]; exact at_set e) (at_set eq1)
    refine ⟨y3, y4, ?_⟩
    rw [shf, ho]
    rw [List.set_comm _ _ (Ne.symm hq), set_two, set_two] at ih
    rw [← ih, rangeL]
    have hN : ((N : Int) + 1) + -1 = N := by omega
    have hC : ((N + 1 : Nat) : Int) = (N : Int) + 1 := by omega
    rw [fl_cons, hC, hN]
    generalize hA : xs.getD (N + 1) .non = A at g1 ⊢
    generalize hB : xs.getD o.toNat .non = B at g2 i3 ⊢
    have hsw : swp (N + 1) o.toNat xs = (xs.set (N + 1) B).set o.toNat A := by unfold swp; rw [hA, hB]
    rw [hsw]
    simp [asg, Res.out, shT, exs, ex, ev, evs, asgs, Res.bind, opB, addD, insOf, e, fget, z, idxD, dicOf, obDic, seqOf, obSeq, eq1, i1, i2, i3, g1, g2, setSub, st_base, quiet, at_set eq1]
theorem fl_shO {n q j : Nat} {l : List Nat} (hq : j ≠ q) : ∀ (N : Nat) (s k : Int) (xs : List D) (h : Hv) (x3 x4 x5 : Option D), N < xs.length → xs.length ≤ 1000 → h[j]? = some (OO s k) → h[q]? = some (.lst xs) →
    ∃ y3 y4 y5, fl ⟨callF prog (n + 1), q, prog⟩ (.var 3) shO (rangeL N (-1) N) [some (.ref j), some (.str l), some (.ref q), x3, x4, x5] h = .nx [some (.ref j), some (.str l), some (.ref q), y3, y4, y5] ((h.set j (OO (shf N s k xs).2.1 (shf N s k xs).2.2)).set q (.lst (shf N s k xs).1))
  | 0, s, k, xs, h, x3, x4, x5, h1, h2, e, eq => ⟨x3, x4, x5, by simp only [shf]; rw [rangeL, fl_nil, set_same e, set_same eq]⟩
  | N + 1, s, k, xs, h, x3, x4, x5, h1, h2, e, eq => by
    have a := dr_lo (s := s) (m := ((N : Int) + 1) + 1) (by omega)
    have b := dr_hi (s := s) (m := ((N : Int) + 1) + 1) (by omega)
    have z := fun base => sp_next (n := n) (base := base) e (m := ((N : Int) + 1) + 1) (by omega) (by omega)
    generalize ho : dr s (((N : Int) + 1) + 1) = o at a b z
    have eq1 : (h.set j (OO (nx s) (k + 1)))[q]? = some (.lst xs) := by rw [at_ne hq]; exact eq
    have i1 : ixAt xs.length ((N : Int) + 1) = some (N + 1) := by
      have := ix_nat (n := xs.length) (i := N + 1) h1
      simpa using this
    have i2 : ixAt xs.length o = some o.toNat := ix_int a (by omega)
    have g1 := getD_at (xs := xs) (i := N + 1) h1
    have g2 := getD_at (xs := xs) (i := o.toNat) (by omega)
    obtain ⟨y3, y4, y5, ih⟩ := fl_shO (n := n) (l := l) hq N (nx s) (k + 1) (swp (N + 1) o.toNat xs) ((h.set j (OO (nx s) (k + 1))).set q (.lst (swp (N + 1) o.toNat xs))) (some (.int ((N : Int) + 1))) (some (.int o)) (some (xs.getD (N + 1) .non)) (by rw [swp_len]; omega) (by rw [swp_len]; omega)
      (by rw [at_ne (Ne.symm hq)]; exact at_set e) (at_set eq1)
    refine ⟨y3, y4, y5, ?_⟩
    rw [shf, ho]
    rw [List.set_comm _ _ (Ne.symm hq), set_two, set_two] at ih
    rw [← ih, rangeL]
    have hN : ((N : Int) + 1) + -1 = N := by omega
    have hC : ((N + 1 : Nat) : Int) = (N : Int) + 1 := by omega
    rw [fl_cons, hC, hN]
    generalize hA : xs.getD (N + 1) .non = A at g1 ⊢
    generalize hB : xs.getD o.toNat .non = B at g2 ⊢
    have hsw : swp (N + 1) o.toNat xs = (xs.set (N + 1) B).set o.toNat A := by unfold swp; rw [hA, hB]
    rw [hsw]
    simp [asg, Res.out, shO, exs, ex, ev, evs, asgs, Res.bind, opB, addD, e, fget, z, idxD, dicOf, obDic, seqOf, obSeq, eq1, i1, i2, g1, g2, setSub, st_base, quiet, at_set eq1]
theorem signs_len {l : List Nat} : (signs l).length = l.length := by simp [signs]
theorem signs_gd {l : List Nat} (h : txOk l = true) : ∀ v ∈ signs l, Gd 0 v := fun v hv => by
  unfold signs at hv
  obtain ⟨c, hc, rfl⟩ := List.mem_map.mp hv
  exact gd_str (by unfold txOk at *; simp only [List.all_cons, List.all_nil, Bool.and_true]; exact List.all_eq_true.mp h c hc)
theorem sp_shufT {n base j : Nat} {s k : Int} {l : List Nat} {h : Hv} (e : h[j]? = some (TT s k)) (h0 : 1 ≤ l.length) (h1 : l.length ≤ 1000) (htx : txOk l = true) :
    callF prog (n + 2) base 7 [.ref j, .str l] h = .ok (.tup (shf (l.length - 1) s k (signs l)).1) (h.set j (TT (shf (l.length - 1) s k (signs l)).2.1 (shf (l.length - 1) s k (signs l)).2.2)) := by
  have jl := len_of e
  obtain ⟨y3, y4, q⟩ := fl_shT (n := n) (q := h.length) (l := l) (Nat.ne_of_lt jl) (l.length - 1) s k (signs l) (h ++ [.lst (signs l)]) none none (by rw [signs_len]; omega) (by rw [signs_len]; omega) (at_old e) at_new
  obtain ⟨g1, g2⟩ := shf_gd (l.length - 1) s k (signs l) (by rw [signs_len]; omega) (signs_gd htx)
  generalize shf (l.length - 1) s k (signs l) = r at q g1 ⊢
  have hb : l.length ≤ 16777216 := by omega
  have hn : ((l.length : Int) - 1).toNat = l.length - 1 := by omega
  have hc : ((l.length - 1 : Nat) : Int) = (l.length : Int) - 1 := by omega
  have c1 : -1073741824 ≤ (l.length : Int) - 1 := by omega
  have c2 : (l.length : Int) - 1 ≤ 1073741824 := by omega
  have c3 : (l.length : Int) - 1 ≤ 16777216 := by omega
  rw [hc] at q
  have ht : ((h ++ [Ob.lst (signs l)]).set j (TT r.2.1 r.2.2)).set h.length (.lst r.1) = h.set j (TT r.2.1 r.2.2) ++ [.lst r.1] := by
    rw [set_old e]
    have := set_new (h := h.set j (TT r.2.1 r.2.2)) (o := Ob.lst (signs l)) (u := .lst r.1)
    rw [set_len] at this
    exact this
  rw [ht] at q
  have at1 : (h.set j (TT r.2.1 r.2.2) ++ [Ob.lst r.1])[h.length]? = some (.lst r.1) := by
    have := at_new (h := h.set j (TT r.2.1 r.2.2)) (o := Ob.lst r.1)
    rw [set_len] at this
    exact this
  have tk : (h.set j (TT r.2.1 r.2.2) ++ [Ob.lst r.1]).take h.length = h.set j (TT r.2.1 r.2.2) := by
    have := take_new (h := h.set j (TT r.2.1 r.2.2)) (l := [Ob.lst r.1])
    rw [set_len] at this
    exact this
  simp only [shT] at q
  rw [callF_at fn7]
  simp [fill, PI.start, leave, exs, ex, ev, evs, evI, asg, Res.bind, Res.out, opB, biD, listD, smax, hb, mkL, at_new, lenD, obSeq, signs_len, i_Dice_shuffled, rngD, c1, c2, c3, hn, ↓ex_fr, List.replicate, q, tupleD, seqOf, at1, D.bel, gd_bels g1, tk]
theorem sp_shufO {n base j : Nat} {s k : Int} {l : List Nat} {h : Hv} (e : h[j]? = some (OO s k)) (h0 : 1 ≤ l.length) (h1 : l.length ≤ 1000) (htx : txOk l = true) :
    callF prog (n + 2) base 20 [.ref j, .str l] h = .ok (.tup (shf (l.length - 1) s k (signs l)).1) (h.set j (OO (shf (l.length - 1) s k (signs l)).2.1 (shf (l.length - 1) s k (signs l)).2.2)) := by
  have jl := len_of e
  obtain ⟨y3, y4, y5, q⟩ := fl_shO (n := n) (q := h.length) (l := l) (Nat.ne_of_lt jl) (l.length - 1) s k (signs l) (h ++ [.lst (signs l)]) none none none (by rw [signs_len]; omega) (by rw [signs_len]; omega) (at_old e) at_new
  obtain ⟨g1, g2⟩ := shf_gd (l.length - 1) s k (signs l) (by rw [signs_len]; omega) (signs_gd htx)
  generalize shf (l.length - 1) s k (signs l) = r at q g1 ⊢
  have hb : l.length ≤ 16777216 := by omega
  have hn : ((l.length : Int) - 1).toNat = l.length - 1 := by omega
  have hc : ((l.length - 1 : Nat) : Int) = (l.length : Int) - 1 := by omega
  have c1 : -1073741824 ≤ (l.length : Int) - 1 := by omega
  have c2 : (l.length : Int) - 1 ≤ 1073741824 := by omega
  have c3 : (l.length : Int) - 1 ≤ 16777216 := by omega
  rw [hc] at q
  have ht : ((h ++ [Ob.lst (signs l)]).set j (OO r.2.1 r.2.2)).set h.length (.lst r.1) = h.set j (OO r.2.1 r.2.2) ++ [.lst r.1] := by
    rw [set_old e]
    have := set_new (h := h.set j (OO r.2.1 r.2.2)) (o := Ob.lst (signs l)) (u := .lst r.1)
    rw [set_len] at this
    exact this
  rw [ht] at q
  have at1 : (h.set j (OO r.2.1 r.2.2) ++ [Ob.lst r.1])[h.length]? = some (.lst r.1) := by
    have := at_new (h := h.set j (OO r.2.1 r.2.2)) (o := Ob.lst r.1)
    rw [set_len] at this
    exact this
  have tk : (h.set j (OO r.2.1 r.2.2) ++ [Ob.lst r.1]).take h.length = h.set j (OO r.2.1 r.2.2) := by
    have := take_new (h := h.set j (OO r.2.1 r.2.2)) (l := [Ob.lst r.1])
    rw [set_len] at this
    exact this
  simp only [shO] at q
  rw [callF_at fn20]
  simp [fill, PI.start, leave, exs, ex, ev, evs, evI, asg, Res.bind, Res.out, opB, biD, listD, smax, hb, mkL, at_new, lenD, obSeq, signs_len, i__law_shuffled, rngD, c1, c2, c3, hn, ↓ex_fr, List.replicate, q, tupleD, seqOf, at1, D.bel, gd_bels g1, tk]
end K01

set_option linter.all false
set_option maxRecDepth 100000
set_option maxHeartbeats 8000000
namespace K01
open PI
/-! ### picks -/
def pk (L : Int) : List D → Nat → Int → Int → Int → List D × Int × Int
  | [], _, _, s, k => ([], s, k)
  | x :: xs, p, w, s, k => if 0 < w then (if dr s (L - p) < w then (x :: (pk L xs (p + 1) (w - 1) (nx s) (k + 1)).1, (pk L xs (p + 1) (w - 1) (nx s) (k + 1)).2) else pk L xs (p + 1) w (nx s) (k + 1)) else pk L xs (p + 1) w s k
def pkT : List S := [.ife (.and [(.cmp .gt (.var 4) (.cst (.int 0))), (.cmp .lt (.mth 2 5 1 (.var 0) [(.bin .sub false (.bi .len false [(.var 1)]) (.var 5))]) (.var 4))]) [.exp (.bm .append false (.var 3) [(.var 6)]), .aug .sub (.var 4) (.cst (.int 1))] []]
def pkO : List S := [.ife (.and [(.cmp .lt (.bi .len false [(.var 3)]) (.var 2)), (.cmp .lt (.call 17 [(.var 0), (.bin .sub false (.bi .len false [(.var 1)]) (.var 4))]) (.bin .sub false (.var 2) (.bi .len false [(.var 3)])))]) [.set (.var 3) (.bin .add false (.var 3) (.lst false [(.var 5)]))] []]
theorem fl_pkT {n q j : Nat} {l : List Nat} {m : Int} (hq : j ≠ q) (hl : l.length ≤ 1000) : ∀ (xs : List D) (p : Nat) (w s k : Int) (h : Hv) (acc : List D) (x5 x6 : Option D), p + xs.length = l.length → acc.length + xs.length ≤ 2000 → h[j]? = some (TT s k) → h[q]? = some (.lst acc) →
    ∃ w' y5 y6, fl ⟨callF prog (n + 1), q, prog⟩ (.tup [.var 5, .var 6]) pkT (enumD p xs) [some (.ref j), some (.str l), some (.int m), some (.ref q), some (.int w), x5, x6] h = .nx [some (.ref j), some (.str l), some (.int m), some (.ref q), some (.int w'), y5, y6] ((h.set j (TT (pk l.length xs p w s k).2.1 (pk l.length xs p w s k).2.2)).set q (.lst (acc ++ (pk l.length xs p w s k).1)))
  | [], p, w, s, k, h, acc, x5, x6, h1, h2, e, eq => ⟨w, x5, x6, by simp only [pk, List.append_nil]; rw [enumD, fl_nil, set_same e, set_same eq]⟩
  | x :: xs, p, w, s, k, h, acc, x5, x6, h1, h2, e, eq => by
    rw [List.length_cons] at h1 h2
    have hb : l.length ≤ 16777216 := by omega
    have hB : acc.length + 1 ≤ 16777216 := by omega
    by_cases hw : 0 < w
    · have z := fun base => sp_roll (n := n) (base := base) e (m := (l.length : Int) - p) (by omega) (by omega)
      have eq1 : (h.set j (TT (nx s) (k + 1)))[q]? = some (.lst acc) := by rw [at_ne hq]; exact eq
      by_cases hr : dr s ((l.length : Int) - p) < w
      · obtain ⟨w', y5, y6, ih⟩ := fl_pkT (n := n) (m := m) hq hl xs (p + 1) (w - 1) (nx s) (k + 1) ((h.set j (TT (nx s) (k + 1))).set q (.lst (acc ++ [x]))) (acc ++ [x]) (some (.int p)) (some x) (by omega) (by rw [List.length_append, List.length_singleton]; omega) (by rw [at_ne (Ne.symm hq)]; exact at_set e) (at_set eq1)
        refine ⟨w', y5, y6, ?_⟩
        rw [pk, if_pos hw, if_pos hr]
        rw [List.set_comm _ _ (Ne.symm hq), set_two, set_two, List.append_assoc, List.singleton_append] at ih
        rw [← ih, enumD, fl_cons]
        have hB2 : acc.length < 16777216 := by omega
        simp [asg, asgs, Res.out, exs, ex, ev, evs, evAnd, Res.bind, asB, opB, opC, intC, addD, insOf, fget, biD, lenD, smax, augD, bmOk, mutL, bmD, appendD, st_base, pkT, e, z, hw, hr, eq1, hb, hB, hB2]
      · obtain ⟨w', y5, y6, ih⟩ := fl_pkT (n := n) (m := m) hq hl xs (p + 1) w (nx s) (k + 1) (h.set j (TT (nx s) (k + 1))) acc (some (.int p)) (some x) (by omega) (by omega) (at_set e) eq1
        refine ⟨w', y5, y6, ?_⟩
        rw [pk, if_pos hw, if_neg hr]
        rw [set_two] at ih
        rw [← ih, enumD, fl_cons]
        simp [asg, asgs, Res.out, exs, ex, ev, evs, evAnd, Res.bind, asB, opB, opC, intC, addD, insOf, fget, biD, lenD, smax, augD, bmOk, mutL, bmD, appendD, st_base, pkT, e, z, hw, hr, eq1, hb]
    · obtain ⟨w', y5, y6, ih⟩ := fl_pkT (n := n) (m := m) hq hl xs (p + 1) w s k h acc (some (.int p)) (some x) (by omega) (by omega) e eq
      refine ⟨w', y5, y6, ?_⟩
      rw [pk, if_neg hw]
      rw [← ih, enumD, fl_cons]
      simp [asg, asgs, Res.out, exs, ex, ev, evs, evAnd, Res.bind, asB, opB, opC, intC, addD, insOf, fget, biD, lenD, smax, augD, bmOk, mutL, bmD, appendD, st_base, pkT, e, hw, eq, hb]
theorem fl_pkO {n j B : Nat} {l : List Nat} {m : Int} (hl : l.length ≤ 1000) : ∀ (xs : List D) (p : Nat) (s k : Int) (h : Hv) (acc : List D) (x4 x5 : Option D), p + xs.length = l.length → acc.length + xs.length ≤ 2000 → h[j]? = some (OO s k) →
    ∃ y4 y5, fl ⟨callF prog (n + 1), B, prog⟩ (.tup [.var 4, .var 5]) pkO (enumD p xs) [some (.ref j), some (.str l), some (.int m), some (.lst acc), x4, x5] h = .nx [some (.ref j), some (.str l), some (.int m), some (.lst (acc ++ (pk l.length xs p (m - acc.length) s k).1)), y4, y5] (h.set j (OO (pk l.length xs p (m - acc.length) s k).2.1 (pk l.length xs p (m - acc.length) s k).2.2))
  | [], p, s, k, h, acc, x4, x5, h1, h2, e => ⟨x4, x5, by simp only [pk, List.append_nil]; rw [enumD, fl_nil, set_same e]⟩
  | x :: xs, p, s, k, h, acc, x4, x5, h1, h2, e => by
    rw [List.length_cons] at h1 h2
    have hb : l.length ≤ 16777216 := by omega
    have hB : acc.length + 1 ≤ 16777216 := by omega
    by_cases hw : 0 < m - acc.length
    · have hw2 : (acc.length : Int) < m := by omega
      have z := fun base => sp_next (n := n) (base := base) e (m := (l.length : Int) - p) (by omega) (by omega)
      by_cases hr : dr s ((l.length : Int) - p) < m - acc.length
      · obtain ⟨y4, y5, ih⟩ := fl_pkO (n := n) (m := m) (B := B) hl xs (p + 1) (nx s) (k + 1) (h.set j (OO (nx s) (k + 1))) (acc ++ [x]) (some (.int p)) (some x) (by omega) (by rw [List.length_append, List.length_singleton]; omega) (at_set e)
        refine ⟨y4, y5, ?_⟩
        have hc : m - ((acc ++ [x]).length : Int) = m - acc.length - 1 := by rw [List.length_append, List.length_singleton]; omega
        rw [pk, if_pos hw, if_pos hr]
        rw [hc, set_two, List.append_assoc, List.singleton_append] at ih
        rw [← ih, enumD, fl_cons]
        simp [asg, asgs, Res.out, exs, ex, ev, evs, evAnd, Res.bind, asB, opB, opC, intC, addD, insOf, fget, biD, lenD, smax, augD, bmOk, mutL, bmD, appendD, st_base, pkO, e, z, hw2, hr, hb, hB, lstN, lenOk, mkL]
      · obtain ⟨y4, y5, ih⟩ := fl_pkO (n := n) (m := m) (B := B) hl xs (p + 1) (nx s) (k + 1) (h.set j (OO (nx s) (k + 1))) acc (some (.int p)) (some x) (by omega) (by omega) (at_set e)
        refine ⟨y4, y5, ?_⟩
        rw [pk, if_pos hw, if_neg hr]
        rw [set_two] at ih
        rw [← ih, enumD, fl_cons]
        simp [asg, asgs, Res.out, exs, ex, ev, evs, evAnd, Res.bind, asB, opB, opC, intC, addD, insOf, fget, biD, lenD, smax, augD, bmOk, mutL, bmD, appendD, st_base, pkO, e, z, hw2, hr, hb]
    · have hw2 : ¬ (acc.length : Int) < m := by omega
      obtain ⟨y4, y5, ih⟩ := fl_pkO (n := n) (m := m) (B := B) hl xs (p + 1) s k h acc (some (.int p)) (some x) (by omega) (by omega) e
      refine ⟨y4, y5, ?_⟩
      rw [pk, if_neg hw]
      rw [← ih, enumD, fl_cons]
      simp [asg, asgs, Res.out, exs, ex, ev, evs, evAnd, Res.bind, asB, opB, opC, intC, addD, insOf, fget, biD, lenD, smax, augD, bmOk, mutL, bmD, appendD, st_base, pkO, e, hw2, hb]
theorem pk_gd {L : Int} : ∀ (xs : List D) (p : Nat) (w s k : Int), (∀ v ∈ xs, Gd 0 v) → ∀ v ∈ (pk L xs p w s k).1, Gd 0 v
  | [], _, _, _, _, _, v, hv => by cases hv
  | x :: xs, p, w, s, k, g, v, hv => by
    rw [pk] at hv
    have g2 : ∀ v ∈ xs, Gd 0 v := fun w hw => g w (List.mem_cons_of_mem _ hw)
    split at hv
    · split at hv
      · rcases List.mem_cons.mp hv with z | z
        · rw [z]; exact g x List.mem_cons_self
        · exact pk_gd xs _ _ _ _ g2 v z
      · exact pk_gd xs _ _ _ _ g2 v hv
    · exact pk_gd xs _ _ _ _ g2 v hv
theorem sp_pickT {n base j : Nat} {s k m : Int} {l : List Nat} {h : Hv} (e : h[j]? = some (TT s k)) (h1 : l.length ≤ 1000) (htx : txOk l = true) (hm : 0 ≤ m) (hm2 : m ≤ l.length) :
    callF prog (n + 2) base 8 [.ref j, .str l, .int m] h = .ok (.tup (pk l.length (signs l) 0 m s k).1) (h.set j (TT (pk l.length (signs l) 0 m s k).2.1 (pk l.length (signs l) 0 m s k).2.2)) := by
  have jl := len_of e
  obtain ⟨w', y5, y6, q⟩ := fl_pkT (n := n) (q := h.length) (l := l) (m := m) (Nat.ne_of_lt jl) h1 (signs l) 0 m s k (h ++ [.lst []]) [] none none (by rw [signs_len]; omega) (by rw [signs_len, List.length_nil]; omega) (at_old e) at_new
  have g1 := pk_gd (L := l.length) (signs l) 0 m s k (signs_gd htx)
  generalize pk l.length (signs l) 0 m s k = r at q g1 ⊢
  have hb : l.length ≤ 16777216 := by omega
  rw [List.nil_append] at q
  have ht : ((h ++ [Ob.lst []]).set j (TT r.2.1 r.2.2)).set h.length (.lst r.1) = h.set j (TT r.2.1 r.2.2) ++ [.lst r.1] := by
    rw [set_old e]
    have := set_new (h := h.set j (TT r.2.1 r.2.2)) (o := Ob.lst []) (u := .lst r.1)
    rw [set_len] at this
    exact this
  rw [ht] at q
  have at1 : (h.set j (TT r.2.1 r.2.2) ++ [Ob.lst r.1])[h.length]? = some (.lst r.1) := by
    have := at_new (h := h.set j (TT r.2.1 r.2.2)) (o := Ob.lst r.1)
    rw [set_len] at this
    exact this
  have tk : (h.set j (TT r.2.1 r.2.2) ++ [Ob.lst r.1]).take h.length = h.set j (TT r.2.1 r.2.2) := by
    have := take_new (h := h.set j (TT r.2.1 r.2.2)) (l := [Ob.lst r.1])
    rw [set_len] at this
    exact this
  simp only [pkT] at q
  rw [callF_at fn8]
  simp [fill, PI.start, leave, exs, ex, ev, evs, evI, asg, asgs, asB, opC, intC, Res.bind, Res.out, biD, lenD, smax, hb, hm, hm2, mkL, i_Dice_picked, ↓ex_fr, List.replicate, q, tupleD, seqOf, obSeq, at1, D.bel, gd_bels g1, tk]
theorem sp_pickO {n base j : Nat} {s k m : Int} {l : List Nat} {h : Hv} (e : h[j]? = some (OO s k)) (h1 : l.length ≤ 1000) (htx : txOk l = true) :
    callF prog (n + 2) base 21 [.ref j, .str l, .int m] h = .ok (.tup (pk l.length (signs l) 0 m s k).1) (h.set j (OO (pk l.length (signs l) 0 m s k).2.1 (pk l.length (signs l) 0 m s k).2.2)) := by
  obtain ⟨y4, y5, q⟩ := fl_pkO (n := n) (B := h.length) (l := l) (m := m) h1 (signs l) 0 s k h [] none none (by rw [signs_len]; omega) (by rw [signs_len, List.length_nil]; omega) e
  have hc : m - (([] : List D).length : Int) = m := by simp
  rw [hc, List.nil_append] at q
  have g1 := pk_gd (L := l.length) (signs l) 0 m s k (signs_gd htx)
  generalize pk l.length (signs l) 0 m s k = r at q g1 ⊢
  have hb : l.length ≤ 16777216 := by omega
  simp only [pkO] at q
  rw [callF_at fn21]
  simp [fill, PI.start, leave, exs, ex, ev, evs, evI, asg, Res.bind, Res.out, smax, hb, mkL, i__law_picked, ↓ex_fr, List.replicate, q, biD, tupleD, seqOf, D.bel, gd_bels g1, take_set]
/-! ### weights -/
abbrev Tb (x y z : Int) : Ob := .dic false [(.str [98], .int x), (.str [97], .int y), (.str [99], .int z)]
theorem srt : sortTx [[98], [97], [99]] = [[97], [98], [99]] := rfl
theorem sp_weigh {n base j q : Nat} {s k x y z : Int} {h : Hv} (hq : j ≠ q) (e : h[j]? = some (TT s k)) (eq : h[q]? = some (Tb x y z)) (x0 : 0 ≤ x) (x1 : x ≤ 10) (y0 : 0 ≤ y) (y1 : y ≤ 10) (z0 : 1 ≤ z) (z1 : z ≤ 10) :
    callF prog (n + 2) base 9 [.ref j, .ref q] h = .ok (.str (if dr s (x + (y + z)) < y then [97] else if dr s (x + (y + z)) < y + x then [98] else [99])) (h.set j (TT (nx s) (k + 1))) := by
  have r := fun base => sp_roll (n := n) (base := base) e (m := x + (y + z)) (by omega) (by omega)
  have a := dr_lo (s := s) (m := x + (y + z)) (by omega)
  have b := dr_hi (s := s) (m := x + (y + z)) (by omega)
  generalize dr s (x + (y + z)) = t at r a b ⊢
  have hmin : ∀ hh : Hv, hh[q]? = some (Tb x y z) → ∃ i, minvD (.ref q) hh = .ok (.int i) hh ∧ 0 ≤ i := fun hh e => by
    refine ⟨minI x [y, z], ?_, ?_⟩
    · simp [minvD, dvals, e, ints?]
    · simp only [minI]
      split <;> split <;> omega
  obtain ⟨i, m1, m2⟩ := hmin h eq
  have hs : sumvD (.ref q) h = .ok (.int (x + (y + z))) h := by simp [sumvD, dvals, eq, ints?, sumI]
  have eq1 : (h.set j (TT (nx s) (k + 1)))[q]? = some (Tb x y z) := by rw [at_ne hq]; exact eq
  have c1 : ¬ i < 0 := by omega
  have c2 : ¬ x + (y + z) = 0 := by omega
  rw [callF_at fn9]
  by_cases q1 : t < y
  · simp [fill, PI.start, leave, exs, ex, ev, evs, evI, evOr, asg, asB, opC, intC, okb, deq, deref, D.flat, D.eqb, Res.bind, Res.out, biD, lenD, eq, m1, hs, c1, c2, insOf, e, fget, r, i_Dice_weighted, ↓ex_fr, List.replicate, sortedD, dicOf, obDic, eq1, strs?, srt, mkL, Nat.blt, fl_cons, fl_nil, idxD, D.atom, kget, D.beq, q1, D.bel, take_set]
  · by_cases q2 : t < y + x
    · have q3 : t - y < x := by omega
      simp [fill, PI.start, leave, exs, ex, ev, evs, evI, evOr, asg, asB, opC, intC, okb, deq, deref, D.flat, D.eqb, Res.bind, Res.out, biD, lenD, eq, m1, hs, c1, c2, insOf, e, fget, r, i_Dice_weighted, ↓ex_fr, List.replicate, sortedD, dicOf, obDic, eq1, strs?, srt, mkL, Nat.blt, fl_cons, fl_nil, idxD, D.atom, kget, D.beq, q1, q2, q3, augD, D.bel, take_set]
    · have q3 : ¬ t - y < x := by omega
      have q4 : t - y - x < z := by omega
      simp [fill, PI.start, leave, exs, ex, ev, evs, evI, evOr, asg, asB, opC, intC, okb, deq, deref, D.flat, D.eqb, Res.bind, Res.out, biD, lenD, eq, m1, hs, c1, c2, insOf, e, fget, r, i_Dice_weighted, ↓ex_fr, List.replicate, sortedD, dicOf, obDic, eq1, strs?, srt, mkL, Nat.blt, fl_cons, fl_nil, idxD, D.atom, kget, D.beq, q1, q2, q3, q4, augD, D.bel, take_set]
end K01

set_option linter.all false
set_option maxRecDepth 100000
set_option maxHeartbeats 8000000
namespace K01
open PI
theorem deq_ii {a b : Int} {h : Hv} : deq h (.int a) (.int b) = some (a == b) := rfl
theorem deq_bb {a b : Bool} {h : Hv} : deq h (.bl a) (.bl b) = some (a == b) := rfl
theorem deq_a {h : Hv} : deq h (.str [97]) (.str [97]) = some true := rfl
theorem deq_b {h : Hv} : deq h (.str [98]) (.str [98]) = some true := rfl
theorem deq_c {h : Hv} : deq h (.str [99]) (.str [99]) = some true := rfl
theorem tx_take {l : List Nat} (h : txOk l = true) (m : Nat) : txOk (l.take m) = true := by
  unfold txOk at *
  exact List.all_eq_true.mpr fun x hx => List.all_eq_true.mp h x (List.mem_of_mem_take hx)
theorem things {r : Int} (h0 : 0 ≤ r) (h1 : r < 8) : ∃ l : List Nat, (∀ hh : Hv, slcD false hh (.str [97, 98, 99, 100, 101, 102, 103, 104]) none (some (.int (1 + r))) none = .ok (.str l) hh) ∧ 1 ≤ l.length ∧ l.length ≤ 8 ∧ txOk l = true := by
  refine ⟨cut [97, 98, 99, 100, 101, 102, 103, 104] none (some (1 + r)), fun hh => rfl, ?_⟩
  have : r = 0 ∨ r = 1 ∨ r = 2 ∨ r = 3 ∨ r = 4 ∨ r = 5 ∨ r = 6 ∨ r = 7 := by omega
  rcases this with rfl | rfl | rfl | rfl | rfl | rfl | rfl | rfl <;> decide
theorem step_tab {n i B : Nat} {h : Hv} {x1 x2 y0 y1 y2 y3 y4 y5 y6 y7 y8 y9 : Option D} (dc : Dc h i) :
    ∃ od x y z, 0 ≤ x ∧ x < 5 ∧ 0 ≤ y ∧ y < 5 ∧ 1 ≤ z ∧ z < 5 ∧ Dc (h.set i od) i ∧ ev ⟨callF prog (n + 1), B, prog⟩ [some (.ref i), x1, x2, y0, y1, y2, y3, y4, y5, y6, y7, y8, y9]
      (.bi .dict true [(.bin .add false (.cmpr .lst false [12] (.var 12) (.str (.cst (.str [98, 97]))) [] (.tup [(.var 12), (.call 14 [(.var 0), (.cst (.int 5))])]) none) (.lst false [(.tup [(.cst (.str [99])), (.bin .add false (.cst (.int 1)) (.call 14 [(.var 0), (.cst (.int 4))]))])]))]) h
      = .ok (.ref (h.length + 1)) (h.set i od ++ [.dead, Tb x y z]) := by
  obtain ⟨a, b, c, e⟩ := dc
  have old : ∀ (l : Hv) (u : Hv) (a b c : Int), u[i]? = some (LD a b c) → Dc (u ++ l) i := fun l u a b c e => ⟨a, b, c, at_old e⟩
  obtain ⟨x, o1, h1, h2, z1, ⟨a1, b1, c1, e1⟩⟩ := lroll (n := n) (old [.lst []] h a b c e) (m := 5) (by decide) (by decide)
  rw [set_old e] at z1 e1
  have e1 : (h.set i o1)[i]? = some (LD a1 b1 c1) := by
    have l := len_of e
    rw [List.getElem?_append_left (by rw [List.length_set]; exact l)] at e1
    exact e1
  obtain ⟨y, o2, h3, h4, z2, ⟨a2, b2, c2, e2⟩⟩ := lroll (n := n) (old [.lst [.tup [.str [98], .int x]]] (h.set i o1) a1 b1 c1 e1) (m := 5) (by decide) (by decide)
  rw [set_old e1, set_two] at z2 e2
  have e2 : (h.set i o2)[i]? = some (LD a2 b2 c2) := by
    have l := len_of e
    rw [List.getElem?_append_left (by rw [List.length_set]; exact l)] at e2
    exact e2
  obtain ⟨z, o3, h5, h6, z3, ⟨a3, b3, c3, e3⟩⟩ := lroll (n := n) (old [.dead] (h.set i o2) a2 b2 c2 e2) (m := 4) (by decide) (by decide)
  rw [set_old e2, set_two] at z3 e3
  have e3 : (h.set i o3)[i]? = some (LD a3 b3 c3) := by
    have l := len_of e
    rw [List.getElem?_append_left (by rw [List.length_set]; exact l)] at e3
    exact e3
  have ax : ∀ (o u : Ob), (h.set i o ++ [u])[h.length]? = some u := fun o u => by
    have := at_new (h := h.set i o) (o := u)
    rw [set_len] at this
    exact this
  have sx : ∀ (o u v : Ob), (h.set i o ++ [u]).set h.length v = h.set i o ++ [v] := fun o u v => by
    have := set_new (h := h.set i o) (o := u) (u := v)
    rw [set_len] at this
    exact this
  refine ⟨o3, x, y, 1 + z, h1, h2, h3, h4, by omega, by omega, ⟨a3, b3, c3, e3⟩, ?_⟩
  simp [ev, evs, evI, ↓ev_lst, Res.bind, signs, lcLoop, stp, asg, wipeS, quiet, z1, z2, z3, ax, sx, Nat.blt, smax, lcEnd, opB, addD, lstN, lenOk, mkL, biD, dictD, lstOf, pairs?, D.atom, mkD, kputs, kput, D.beq]
theorem sp_step {n i j o : Nat} {s k : Int} {h : Hv} (dc : Dc h i) (ej : h[j]? = some (TT s k)) (eo : h[o]? = some (OO s k)) (hij : i ≠ j) (hio : i ≠ o) (hjo : j ≠ o) :
    ∃ od s' k', (∀ base, callF prog (n + 6) base 22 [.ref i, .ref j, .ref o] h = .ok (.bl true) (((h.set i od).set j (TT s' k')).set o (OO s' k'))) ∧ Dc (h.set i od) i := by
  obtain ⟨r0, o0, a0, b0, z0, e0⟩ := lroll (n := n + 4) dc (m := 8) (by decide) (by decide)
  obtain ⟨r1, o1, a1, b1, z1, e1⟩ := lroll (n := n + 4) e0 (m := 40) (by decide) (by decide)
  rw [set_two] at z1 e1
  obtain ⟨r2, o2, a2, b2, z2, e2⟩ := lroll (n := n + 4) e1 (m := 60) (by decide) (by decide)
  rw [set_two] at z2 e2
  obtain ⟨r3, o3, a3, b3, z3, e3⟩ := lroll (n := n + 4) e2 (m := 8) (by decide) (by decide)
  rw [set_two] at z3 e3
  obtain ⟨l, hl, l1, l2, lt⟩ := things a3 b3
  have lne : l ≠ [] := fun q => by rw [q] at l1; simp at l1
  have lb : l.length ≤ 16777216 := by omega
  have lpos : 0 < (l.length : Int) := by omega
  have J : ∀ u : Ob, (h.set i u)[j]? = some (TT s k) := fun u => by rw [at_ne hij]; exact ej
  have O : ∀ (u : Ob) (s' k' : Int), ((h.set i u).set j (TT s' k'))[o]? = some (OO s k) := fun u s' k' => by rw [at_ne hjo, at_ne hio]; exact eo
  have hr : r0 = 0 ∨ r0 = 1 ∨ r0 = 2 ∨ r0 = 3 ∨ r0 = 4 ∨ r0 = 5 ∨ r0 = 6 ∨ r0 = 7 := by omega
  rcases hr with rfl | rfl | rfl | rfl | rfl | rfl | rfl | rfl
  · obtain ⟨r4, o4, a4, b4, z4, e4⟩ := lroll (n := n + 4) e3 (m := 100) (by decide) (by decide)
    rw [set_two] at z4 e4
    obtain ⟨r5, o5, a5, b5, z5, e5⟩ := lroll (n := n + 4) e4 (m := 7) (by decide) (by decide)
    rw [set_two] at z5 e5
    have hd : r5.fdiv 6 = 0 ∨ r5.fdiv 6 = 1 := by rw [fd (by decide)]; omega
    rcases hd with hd | hd
    · have T := fun base => sp_roll (n := n + 4) (base := base) (J o5) (m := 1 + r4) (by omega) (by omega)
      have N := fun base => sp_next (n := n + 4) (base := base) (O o5 (nx s) (k + 1)) (m := 1 + r4) (by omega) (by omega)
      refine ⟨o5, nx s, k + 1, fun base => ?_, e5⟩
      rw [callF_at fn22]
      simp [fill, PI.start, leave, exs, ex, ev, evs, evo, asg, asgs, Res.bind, Res.out, asB, opB, opC, intC, addD, okb, List.replicate, deq_ii, List.take_of_length_le, D.bel, i__law_step, insOf, fget, z0, z1, z2, z3, hl, z4, z5, hd, mkL, idxD, dicOf, seqOf, x20, x21, J, T, N]
    · have T := fun base => sp_roll (n := n + 4) (base := base) (J o5) (m := 65536) (by omega) (by omega)
      have N := fun base => sp_next (n := n + 4) (base := base) (O o5 (nx s) (k + 1)) (m := 65536) (by omega) (by omega)
      refine ⟨o5, nx s, k + 1, fun base => ?_, e5⟩
      rw [callF_at fn22]
      simp [fill, PI.start, leave, exs, ex, ev, evs, evo, asg, asgs, Res.bind, Res.out, asB, opB, opC, intC, addD, okb, List.replicate, deq_ii, List.take_of_length_le, D.bel, i__law_step, insOf, fget, z0, z1, z2, z3, hl, z4, z5, hd, mkL, idxD, dicOf, seqOf, x20, x21, J, T, N]
  · have T := fun base => sp_number (n := n + 3) (base := base) (J o3) (lo := r1 - 20) (hi := r1 - 20 + r2) (by omega) (by omega)
    have N := fun base => sp_next (n := n + 4) (base := base) (O o3 (nx s) (k + 1)) (m := r1 - 20 + r2 - (r1 - 20) + 1) (by omega) (by omega)
    refine ⟨o3, nx s, k + 1, fun base => ?_, e3⟩
    rw [callF_at fn22]
    simp [fill, PI.start, leave, exs, ex, ev, evs, evo, asg, asgs, Res.bind, Res.out, asB, opB, opC, intC, addD, okb, List.replicate, deq_ii, List.take_of_length_le, D.bel, i__law_step, insOf, fget, z0, z1, z2, z3, hl, J, T, N]
  · obtain ⟨r4, o4, a4, b4, z4, e4⟩ := lroll (n := n + 4) e3 (m := 9) (by decide) (by decide)
    rw [set_two] at z4 e4
    obtain ⟨r5, o5, a5, b5, z5, e5⟩ := lroll (n := n + 4) e4 (m := 1 + r4 + 1) (by omega) (by omega)
    rw [set_two] at z5 e5
    have T := fun base => sp_isso (n := n + 3) (base := base) (J o5) (t := r5) (b := 1 + r4) (by omega) (by omega) (by omega) (by omega)
    have N := fun base => sp_next (n := n + 4) (base := base) (O o5 (nx s) (k + 1)) (m := 1 + r4) (by omega) (by omega)
    refine ⟨o5, nx s, k + 1, fun base => ?_, e5⟩
    rw [callF_at fn22]
    simp [fill, PI.start, leave, exs, ex, ev, evs, evo, asg, asgs, Res.bind, Res.out, asB, opB, opC, intC, addD, okb, List.replicate, deq_ii, List.take_of_length_le, D.bel, i__law_step, insOf, fget, z0, z1, z2, z3, hl, z4, z5, J, T, N, deq_bb]
  · obtain ⟨vs, s', k', r, _, g⟩ := rs_total (rn_total (r1 - 20) (r1 - 20 + r2 - (r1 - 20) + 1)) (dr s ((l.length : Int) + 1)).toNat (nx s) (k + 1)
    have T := fun base => sp_row (n := n + 2) (base := base) (J o3) (most := l.length) (by omega) (by omega) (lo := r1 - 20) (hi := r1 - 20 + r2) (by omega) (by omega) r g
    have N := fun base => (dd_row (t := 0) (m := l.length) (by omega) (by omega) (lo := r1 - 20) (hi := r1 - 20 + r2) (by omega) (by omega) r g).2 (n + 1) base _ _ (O o3 s' k')
    have q : ∀ hh, deq hh (.tup vs) (.tup vs) = some true := fun hh => deq_gd (gd_tup g) (by decide)
    refine ⟨o3, s', k', fun base => ?_, e3⟩
    rw [callF_at fn22]
    simp [fill, PI.start, leave, exs, ex, ev, evs, evo, asg, asgs, Res.bind, Res.out, asB, opB, opC, intC, addD, okb, List.replicate, deq_ii, List.take_of_length_le, D.bel, i__law_step, insOf, fget, z0, z1, z2, z3, hl, J, T, N, q, biD, lenD, smax, lb]
  · obtain ⟨vs, s', k', r, _, g⟩ := rs_total (rt_total lne lt) (dr s ((l.length : Int) + 1)).toNat (nx s) (k + 1)
    obtain ⟨ws, w1, w2, w3, w4⟩ := rt_strs lne lt r
    have d3 := dr_hi (s := s) (m := (l.length : Int) + 1) (by omega)
    have T := fun base => sp_text (n := n + 3) (base := base) (J o3) (most := l.length) (by omega) (by omega) lne lt (by omega) r w1 (by rw [w2]; omega)
    have N := fun base => (dd_text (t := 0) (m := l.length) (by omega) (by omega) lne lt (by omega) r w1 (by rw [w2]; omega)).2 (n + 1) base _ _ (O o3 s' k')
    have q : ∀ hh, deq hh (.str (joinTx [] ws)) (.str (joinTx [] ws)) = some true := fun hh => deq_gd (t := 0) (gd_str w4) (by decide)
    refine ⟨o3, s', k', fun base => ?_, e3⟩
    rw [callF_at fn22]
    simp [fill, PI.start, leave, exs, ex, ev, evs, evo, asg, asgs, Res.bind, Res.out, asB, opB, opC, intC, addD, okb, List.replicate, deq_ii, List.take_of_length_le, D.bel, i__law_step, insOf, fget, z0, z1, z2, z3, hl, J, T, N, q, biD, lenD, smax, lb]
  · obtain ⟨r4, o4, a4, b4, z4, e4⟩ := lroll (n := n + 4) e3 (m := 2) (by decide) (by decide)
    rw [set_two] at z4 e4
    by_cases h4 : r4 = 0
    · subst h4
      have T := fun base => sp_shufT (n := n + 3) (base := base) (J o4) (l := l) (by omega) (by omega) lt
      have N := fun base => sp_shufO (n := n + 3) (base := base) (O o4 (shf (l.length - 1) s k (signs l)).2.1 (shf (l.length - 1) s k (signs l)).2.2) (l := l) (by omega) (by omega) lt
      obtain ⟨g1, _⟩ := shf_gd (l.length - 1) s k (signs l) (by rw [signs_len]; omega) (signs_gd lt)
      generalize shf (l.length - 1) s k (signs l) = R at T N g1
      have q : ∀ hh, deq hh (.tup R.1) (.tup R.1) = some true := fun hh => deq_gd (gd_tup g1) (by decide)
      refine ⟨o4, R.2.1, R.2.2, fun base => ?_, e4⟩
      rw [callF_at fn22]
      simp [fill, PI.start, leave, exs, ex, ev, evs, evo, asg, asgs, Res.bind, Res.out, asB, opB, opC, intC, addD, okb, List.replicate, deq_ii, List.take_of_length_le, D.bel, i__law_step, insOf, fget, z0, z1, z2, z3, hl, z4, J, T, N, q]
    · have T := fun base => sp_oneS (n := n + 3) (base := base) (J o4) (l := l) lne (by omega)
      have N := fun base => sp_next (n := n + 4) (base := base) (O o4 (nx s) (k + 1)) (m := l.length) (by omega) (by omega)
      have c0 := dr_lo (s := s) (m := l.length) (by omega)
      have c1 := dr_hi (s := s) lpos
      have I := fun hh => idx_str (l := l) (h := hh) c0 c1 (by omega)
      have q : ∀ hh, deq hh (.str [l.getD (dr s l.length).toNat 0]) (.str [l.getD (dr s l.length).toNat 0]) = some true := fun hh => deq_gd (t := 0) (gd_str (getD_tx lt _ (by omega))) (by decide)
      generalize l.getD (dr s l.length).toNat 0 = G at T I q
      refine ⟨o4, nx s, k + 1, fun base => ?_, e4⟩
      rw [callF_at fn22]
      simp [fill, PI.start, leave, exs, ex, ev, evs, evo, asg, asgs, Res.bind, Res.out, asB, opB, opC, intC, addD, okb, List.replicate, deq_ii, List.take_of_length_le, D.bel, i__law_step, insOf, fget, z0, z1, z2, z3, hl, z4, h4, J, T, N, q, I, biD, lenD, smax, lb]
  · obtain ⟨r4, o4, a4, b4, z4, e4⟩ := lroll (n := n + 4) e3 (m := (l.length : Int) + 1) (by omega) (by omega)
    rw [set_two] at z4 e4
    have T := fun base => sp_pickT (n := n + 3) (base := base) (J o4) (l := l) (m := r4) (by omega) lt (by omega) (by omega)
    have N := fun base => sp_pickO (n := n + 3) (base := base) (O o4 (pk l.length (signs l) 0 r4 s k).2.1 (pk l.length (signs l) 0 r4 s k).2.2) (l := l) (m := r4) (by omega) lt
    have g1 := pk_gd (L := l.length) (signs l) 0 r4 s k (signs_gd lt)
    generalize pk l.length (signs l) 0 r4 s k = R at T N g1
    have q : ∀ hh, deq hh (.tup R.1) (.tup R.1) = some true := fun hh => deq_gd (gd_tup g1) (by decide)
    refine ⟨o4, R.2.1, R.2.2, fun base => ?_, e4⟩
    rw [callF_at fn22]
    simp [fill, PI.start, leave, exs, ex, ev, evs, evo, asg, asgs, Res.bind, Res.out, asB, opB, opC, intC, addD, okb, List.replicate, deq_ii, List.take_of_length_le, D.bel, i__law_step, insOf, fget, z0, z1, z2, z3, hl, z4, J, T, N, q, biD, lenD, smax, lb]
  · obtain ⟨od, x, y, z, x0, x1, y0, y1, w0, w1, dc', tab⟩ := step_tab (n := n + 4) (B := h.length) (h := h.set i o3) (x1 := some (.ref j)) (x2 := some (.ref o)) (y0 := some (.int (r1 - 20 + r2))) (y1 := some (.str l)) (y2 := none) (y3 := none) (y4 := some (.int 7)) (y5 := some (.int (r1 - 20))) (y6 := none) (y7 := none) (y8 := none) (y9 := none) e3
    rw [set_two] at tab dc'
    rw [set_len] at tab
    have jl := len_of ej
    have ol := len_of eo
    have eO : (h.set i od ++ [Ob.dead, Tb x y z])[o]? = some (OO s k) := at_old (by rw [at_ne hio]; exact eo)
    have N := fun base => sp_next (n := n + 4) (base := base) eO (m := x + (y + z)) (by omega) (by omega)
    have eT : ((h.set i od ++ [Ob.dead, Tb x y z]).set o (OO (nx s) (k + 1)))[h.length + 1]? = some (Tb x y z) := by
      rw [at_ne (by omega), List.getElem?_append_right (by rw [List.length_set]; omega), List.length_set]
      simp
    have eQ : (h.set i od ++ [Ob.dead, Tb x y z])[h.length + 1]? = some (Tb x y z) := by
      rw [List.getElem?_append_right (by rw [List.length_set]; omega), List.length_set]
      simp
    have eJ : ((h.set i od ++ [Ob.dead, Tb x y z]).set o (OO (nx s) (k + 1)))[j]? = some (TT s k) := by
      rw [at_ne (Ne.symm hjo)]
      exact at_old (by rw [at_ne hij]; exact ej)
    have T := fun base => sp_weigh (n := n + 3) (base := base) (show j ≠ h.length + 1 by omega) eJ eT x0 (by omega) y0 (by omega) w0 (by omega)
    have S : sumvD (.ref (h.length + 1)) (h.set i od ++ [Ob.dead, Tb x y z]) = .ok (.int (x + (y + z))) (h.set i od ++ [Ob.dead, Tb x y z]) := by
      simp only [sumvD, dvals, eQ]
      simp [ints?, sumI]
    have eT2 : (((h.set i od ++ [Ob.dead, Tb x y z]).set o (OO (nx s) (k + 1))).set j (TT (nx s) (k + 1)))[h.length + 1]? = some (Tb x y z) := by
      rw [at_ne (by omega)]
      exact eT
    have I1 : idxD (((h.set i od ++ [Ob.dead, Tb x y z]).set o (OO (nx s) (k + 1))).set j (TT (nx s) (k + 1))) (.ref (h.length + 1)) (.str [97]) = .ok (.int y) (((h.set i od ++ [Ob.dead, Tb x y z]).set o (OO (nx s) (k + 1))).set j (TT (nx s) (k + 1))) := by
      simp only [idxD, dicOf, eT2]
      simp [obDic, D.atom, kget, D.beq]
    have I2 : idxD (((h.set i od ++ [Ob.dead, Tb x y z]).set o (OO (nx s) (k + 1))).set j (TT (nx s) (k + 1))) (.ref (h.length + 1)) (.str [98]) = .ok (.int x) (((h.set i od ++ [Ob.dead, Tb x y z]).set o (OO (nx s) (k + 1))).set j (TT (nx s) (k + 1))) := by
      simp only [idxD, dicOf, eT2]
      simp [obDic, D.atom, kget, D.beq]
    have fin : ((((h.set i od ++ [Ob.dead, Tb x y z]).set o (OO (nx s) (k + 1))).set j (TT (nx s) (k + 1)))).take h.length = ((h.set i od).set j (TT (nx s) (k + 1))).set o (OO (nx s) (k + 1)) := by
      rw [List.set_append_left _ _ (by rw [List.length_set]; exact ol), List.set_append_left _ _ (by rw [List.length_set, List.length_set]; exact jl), List.set_comm _ _ (Ne.symm hjo)]
      have := take_new (h := ((h.set i od).set j (TT (nx s) (k + 1))).set o (OO (nx s) (k + 1))) (l := [Ob.dead, Tb x y z])
      rw [set_len, set_len, set_len] at this
      exact this
    have q : ∀ (hh : Hv) (c : Bool) (e : Bool), deq hh (.str (if c = true then [97] else if e = true then [98] else [99])) (if c = true then .str [97] else if e = true then .str [98] else .str [99]) = some true := fun hh c e => by cases c <;> cases e <;> rfl
    refine ⟨od, nx s, k + 1, fun base => ?_, dc'⟩
    rw [callF_at fn22]
    generalize hA : h.set i od ++ [Ob.dead, Tb x y z] = A at tab N T S I1 I2 fin eJ
    by_cases q1 : dr s (x + (y + z)) < y
    · simp only [q1, if_true] at T
      simp [fill, PI.start, leave, exs, ex, ev, evs, evo, asg, asgs, Res.bind, Res.out, asB, opB, opC, intC, addD, okb, List.replicate, deq_ii, D.bel, i__law_step, insOf, fget, z0, z1, z2, z3, hl, ↓tab, N, eJ, T, S, biD, I1, I2, q1, fin, deq_a]
    · by_cases q2 : dr s (x + (y + z)) < y + x
      · simp only [q1, q2, if_true, if_false] at T
        simp [fill, PI.start, leave, exs, ex, ev, evs, evo, asg, asgs, Res.bind, Res.out, asB, opB, opC, intC, addD, okb, List.replicate, deq_ii, D.bel, i__law_step, insOf, fget, z0, z1, z2, z3, hl, ↓tab, N, eJ, T, S, biD, I1, I2, q1, q2, fin, deq_b, deq_c]
      · simp only [q1, q2, if_false] at T
        simp [fill, PI.start, leave, exs, ex, ev, evs, evo, asg, asgs, Res.bind, Res.out, asB, opB, opC, intC, addD, okb, List.replicate, deq_ii, D.bel, i__law_step, insOf, fget, z0, z1, z2, z3, hl, ↓tab, N, eJ, T, S, biD, I1, I2, q1, q2, fin, deq_b, deq_c]
end K01

set_option linter.all false
set_option maxRecDepth 100000
set_option maxHeartbeats 8000000
namespace K01
open PI
theorem sp_plain (x0 x1 x2 x3 x4 x5 x6 : Ob) : callF prog 11 1 23 [] [x0, x1, x2, x3, x4, x5, x6] = .ok (.bl true) [x0, x1, x2, x3, x4, x5, x6] := by kernel_rfl
theorem sp_dice {n base : Nat} {x : Int} {h : Hv} : ∃ a b c, callF prog (n + 1) base 13 [.int x] h = .ok (.ref h.length) (h ++ [LD a b c]) := by
  by_cases hc : -10 < x ∧ x < 10
  · obtain ⟨h1, h2⟩ := hc
    refine ⟨if x < 0 then -x else x, 0, 2, ?_⟩
    rw [callF_at fn13]
    simp [fill, PI.start, leave, exs, ex, ev, evs, evo, evAnd, evOr, evI, asg, asgs, Res.bind, Res.out, asB, quiet, opB, opC, intC, addD, insOf, fget, fput, opt, setFld, setFldC, augD, st_int, st_str, Nat.blt, Nat.ble, D.bel, D.bels, take_set, dicOf, obDic, idxD, D.atom, kget, kput, D.beq, setSub, okb, okn, deq, deref, D.flat, D.flats, D.eqb, D.eqbs, smax, biD, bmD, lenD, ↓ev_tup, ↓ev_lst, ↓ex_fr, i__law_dice, h1, h2, absD, mkL]
  · refine ⟨x, 1 + x.fmod 1009, b2i (decide (1000000000000000000 ≤ x)), ?_⟩
    rw [callF_at fn13]
    by_cases h1 : -10 < x
    · have h2 : ¬ x < 10 := fun z => hc ⟨h1, z⟩
      simp [fill, PI.start, leave, exs, ex, ev, evs, evo, evAnd, evOr, evI, asg, asgs, Res.bind, Res.out, asB, quiet, opB, opC, intC, addD, insOf, fget, fput, opt, setFld, setFldC, augD, st_int, st_str, Nat.blt, Nat.ble, D.bel, D.bels, take_set, dicOf, obDic, idxD, D.atom, kget, kput, D.beq, setSub, okb, okn, deq, deref, D.flat, D.flats, D.eqb, D.eqbs, smax, biD, bmD, lenD, ↓ev_tup, ↓ev_lst, ↓ex_fr, i__law_dice, h1, h2, intD, mkL]
    · simp [fill, PI.start, leave, exs, ex, ev, evs, evo, evAnd, evOr, evI, asg, asgs, Res.bind, Res.out, asB, quiet, opB, opC, intC, addD, insOf, fget, fput, opt, setFld, setFldC, augD, st_int, st_str, Nat.blt, Nat.ble, D.bel, D.bels, take_set, dicOf, obDic, idxD, D.atom, kget, kput, D.beq, setSub, okb, okn, deq, deref, D.flat, D.flats, D.eqb, D.eqbs, smax, biD, bmD, lenD, ↓ev_tup, ↓ev_lst, ↓ex_fr, i__law_dice, h1, intD, mkL]
theorem sp_rounds {n : Nat} {ns : List Int} : ∃ a b c, callF prog (n + 2) 1 15 [.ref 0, .int 1] [.fix (ns.map D.int)] = .ok (.lst [.ref 2]) [.fix (ns.map D.int), .dead, LD a b c] := by
  cases ns with
  | nil =>
    obtain ⟨a, b, c, z⟩ := sp_dice (n := n) (base := 1) (x := 0) (h := [.fix ([].map D.int), .lst []])
    refine ⟨a, b, c, ?_⟩
    simp only [List.map_nil] at z ⊢
    rw [callF_at fn15]
    simp [fill, PI.start, leave, exs, ex, ev, evs, evo, evAnd, evOr, evI, asg, asgs, Res.bind, Res.out, asB, quiet, opB, opC, intC, addD, insOf, fget, fput, opt, setFld, setFldC, augD, st_int, st_str, Nat.blt, Nat.ble, D.bel, D.bels, take_set, dicOf, obDic, idxD, D.atom, kget, kput, D.beq, setSub, okb, okn, deq, deref, D.flat, D.flats, D.eqb, D.eqbs, smax, biD, bmD, lenD, ↓ev_tup, ↓ev_lst, ↓ex_fr, List.replicate, i__law_rounds, slcD, optI, lstOf, obSeq, mkL, cut, clip, lcLoop, stp, wipeS, z, lcEnd]
  | cons x ns =>
    obtain ⟨a, b, c, z⟩ := sp_dice (n := n) (base := 1) (x := x) (h := [.fix ((x :: ns).map D.int), .lst []])
    refine ⟨a, b, c, ?_⟩
    simp only [List.map_cons] at z ⊢
    have hm : min 1 (ns.length + 1) = 1 := by omega
    rw [callF_at fn15]
    simp [fill, PI.start, leave, exs, ex, ev, evs, evo, evAnd, evOr, evI, asg, asgs, Res.bind, Res.out, asB, quiet, opB, opC, intC, addD, insOf, fget, fput, opt, setFld, setFldC, augD, st_int, st_str, Nat.blt, Nat.ble, D.bel, D.bels, take_set, dicOf, obDic, idxD, D.atom, kget, kput, D.beq, setSub, okb, okn, deq, deref, D.flat, D.flats, D.eqb, D.eqbs, smax, biD, bmD, lenD, ↓ev_tup, ↓ev_lst, ↓ex_fr, List.replicate, i__law_rounds, slcD, optI, lstOf, obSeq, mkL, cut, clip, hm, lcLoop, stp, wipeS, z, lcEnd]
def lawB : List S := [.ife (.not (.call 22 [(.var 1), (.var 6), (.var 7)])) [.ret (.cst (.bl false))] [], .ife (.cmp .ne (.tup [(.att (.var 6) 1), (.att (.var 6) 2)]) (.tup [(.idx (.var 7) (.cst (.str [115, 101, 101, 100]))), (.idx (.var 7) (.cst (.str [114, 111, 108, 108, 115])))])) [.ret (.cst (.bl false))] []]
theorem fl_law {n : Nat} {F : Ob} {r : Int} : ∀ (N : Nat) (lo s k : Int) (u : Ob) (x3 : Option D), Dc [F, .dead, u] 2 → ∃ u' s' k' y3, fl ⟨callF prog (n + 6), 1, prog⟩ (.var 3) lawB (rangeL lo 1 N) [some (.ref 0), some (.ref 2), some (.int r), x3, none, none, some (.ref 3), some (.ref 4)] [F, .dead, u, TT s k, OO s k] = .nx [some (.ref 0), some (.ref 2), some (.int r), y3, none, none, some (.ref 3), some (.ref 4)] [F, .dead, u', TT s' k', OO s' k'] ∧ Dc [F, .dead, u'] 2
  | 0, lo, s, k, u, x3, e => ⟨u, s, k, x3, rfl, e⟩
  | N + 1, lo, s, k, u, x3, e => by
    obtain ⟨a, b, c, e⟩ := e
    have e : u = LD a b c := by simpa using e
    subst e
    obtain ⟨od, s1, k1, z, a', b', c', e'⟩ := sp_step (n := n) (i := 2) (j := 3) (o := 4) (s := s) (k := k) (h := [F, .dead, LD a b c, TT s k, OO s k]) ⟨a, b, c, rfl⟩ rfl rfl (by decide) (by decide) (by decide)
    have e' : od = LD a' b' c' := by simpa using e'
    subst e'
    obtain ⟨u', s', k', y3, ih, eu⟩ := fl_law (n := n) (F := F) (r := r) N (lo + 1) s1 k1 (LD a' b' c') (some (.int lo)) ⟨a', b', c', rfl⟩
    refine ⟨u', s', k', y3, ?_, eu⟩
    rw [← ih, rangeL, fl_cons]
    simp only [List.set_cons_succ, List.set_cons_zero] at z
    simp [fill, PI.start, leave, exs, ex, ev, evs, evo, evAnd, evOr, evI, asg, asgs, Res.bind, Res.out, asB, quiet, opB, opC, intC, addD, insOf, fget, fput, opt, setFld, setFldC, augD, st_int, st_str, Nat.blt, Nat.ble, D.bel, D.bels, take_set, dicOf, obDic, idxD, D.atom, kget, kput, D.beq, setSub, okb, okn, deq, deref, D.flat, D.flats, D.eqb, D.eqbs, smax, biD, bmD, lenD, ↓ev_tup, ↓ev_lst, ↓ex_fr, lawB, z]
theorem plain (ns : List Int) : ∃ h', callF prog 12 0 24 [.ref 0] [.fix (ns.map D.int)] = .ok (.bl true) h' := by
  obtain ⟨a, b, c, z15⟩ := sp_rounds (n := 9) (ns := ns)
  generalize hF : Ob.fix (ns.map D.int) = F at z15 ⊢
  obtain ⟨r, o1, r1, r2, z14, a1, b1, c1, e1⟩ := lroll (n := 10) (i := 2) (m := 65536) (h := [F, .dead, LD a b c]) ⟨a, b, c, rfl⟩ (by decide) (by decide)
  have e1 : o1 = LD a1 b1 c1 := by simpa using e1
  subst e1
  simp only [List.set_cons_succ, List.set_cons_zero] at z14
  have z0 := fun base => sp_init (n := 10) (base := base) (j := 3) (s := r) (h := [F, .dead, LD a1 b1 c1, .ins 2 []]) rfl r1 r2
  simp only [List.set_cons_succ, List.set_cons_zero] at z0
  obtain ⟨N, o2, n1, n2, z21, a2, b2, c2, e2⟩ := lroll (n := 10) (i := 2) (m := 21) (h := [F, .dead, LD a1 b1 c1, TT r 0, OO r 0]) ⟨a1, b1, c1, rfl⟩ (by decide) (by decide)
  have e2 : o2 = LD a2 b2 c2 := by simpa using e2
  subst e2
  simp only [List.set_cons_succ, List.set_cons_zero] at z21
  obtain ⟨u, s, k, y3, zl, a3, b3, c3, e3⟩ := fl_law (n := 5) (F := F) (r := r) N.toNat 0 r 0 (LD a2 b2 c2) none ⟨a2, b2, c2, rfl⟩
  have e3 : u = LD a3 b3 c3 := by simpa using e3
  subst e3
  simp only [lawB] at zl
  obtain ⟨d, o4, sh, z18, a4, b4, c4, e4⟩ := sp_shape 3 6 2 [F, .dead, LD a3 b3 c3, TT s k, OO s k] ⟨a3, b3, c3, rfl⟩ (by decide)
  have e4 : o4 = LD a4 b4 c4 := by simpa using e4
  subst e4
  simp only [List.set_cons_succ, List.set_cons_zero] at z18
  have z18 : ∀ base, callF prog 11 base 18 [.ref 2, .int 3] [F, .dead, LD a3 b3 c3, TT s k, OO s k] = .ok d [F, .dead, LD a4 b4 c4, TT s k, OO s k] := z18
  obtain ⟨v, s', k', ⟨dt, dO⟩, g⟩ := draw_ok sh r 0
  have z19 := fun base => dO 4 base [F, .dead, LD a4 b4 c4, TT s k, OO s k, OO r 0] 5 rfl
  simp only [List.set_cons_succ, List.set_cons_zero] at z19
  have z10 := fun base h => sp_drawn (n := 3) (base := base) (h := h) sh (by decide) r1 r2 dt g.bel
  have z11 := fun base h => sp_check sh 7 base h 0 (by decide) (by decide)
  have z02 := fun base => sp_init (n := 10) (base := base) (j := 6) (s := r) (h := [F, .dead, LD a4 b4 c4, TT s k, OO s k, OO s' k', .ins 2 []]) rfl r1 r2
  simp only [List.set_cons_succ, List.set_cons_zero] at z02
  have z12 := fun base => dt 4 base [F, .dead, LD a4 b4 c4, TT s k, OO s k, OO s' k', TT r 0] 6 rfl
  simp only [List.set_cons_succ, List.set_cons_zero] at z12
  have q : ∀ hh, deq hh v v = some true := fun hh => deq_gd g (by decide)
  have z23 := sp_plain F .dead (LD a4 b4 c4) (TT s k) (OO s k) (OO s' k') (TT s' k')
  have m1 : N ≤ 16777216 := by omega
  have m2 : -16777216 ≤ N := by omega
  refine ⟨[F], ?_⟩
  rw [callF_at fn24]
  simp [fill, PI.start, leave, exs, ex, ev, evs, evI, evOr, asg, asgs, Res.bind, Res.out, asB, opC, okn, okb, List.replicate, D.bel, i_law, ↓ex_fr, fl_cons, fl_nil, z15, z14, z0, dispD, pairUp, kputs, kput, D.beq, D.atom, rngD, m1, m2, z21, zl, z18, z19, z10, z11, z02, z12, q, z23]
end K01

set_option linter.all false
set_option maxRecDepth 100000
set_option maxHeartbeats 0
namespace K01
open PySem PySem.Spec L2 PyProof.Rows PI
theorem al {P : Program} {w : World} {G : GT} {mg : Str → Option Value} {base : Heap} {fa : Nat → Addr} {fd : Nat → FuncData} {co tb : Nat → Addr} (T : Fs G mg base fa fd co tb) : ∀ n, Al P w G mg base fa fd n
  | 0 => ⟨fn_zero, fn_zero, fn_zero, fn_zero, fn_zero, fn_zero, fn_zero, fn_zero, fn_zero, fn_zero, fn_zero, fn_zero, fn_zero, fn_zero, fn_zero, fn_zero, fn_zero, fn_zero, fn_zero, fn_zero, fn_zero, fn_zero, fn_zero, fn_zero⟩
  | n + 1 => ⟨ok_0 T (al T n), ok_1 T (al T n), ok_2 T (al T n), ok_3 T (al T n), ok_4 T (al T n), ok_5 T (al T n), ok_6 T (al T n), ok_7 T (al T n), ok_8 T (al T n), ok_9 T (al T n), ok_10 T (al T n), ok_11 T (al T n), ok_12 T (al T n), ok_13 T (al T n), ok_14 T (al T n), ok_15 T (al T n), ok_17 T (al T n), ok_18 T (al T n), ok_19 T (al T n), ok_20 T (al T n), ok_21 T (al T n), ok_22 T (al T n), ok_23 T (al T n), ok_24 T (al T n)⟩
def ats : List He.Defn := [("Dice", some "__init__"), ("Dice", some "roll"), ("Dice", some "number"), ("Dice", some "is_so"), ("Dice", some "one_of"), ("Dice", some "row"), ("Dice", some "text"), ("Dice", some "shuffled"), ("Dice", some "picked"), ("Dice", some "weighted"), ("drawn", none), ("check_shape", none), ("draw_from", none), ("_law_dice", none), ("_law_roll", none), ("_law_rounds", none), ("_law_told", none), ("_law_next", none), ("_law_shape", none), ("_law_drawn", none), ("_law_shuffled", none), ("_law_picked", none), ("_law_step", none), ("_law_plain", none), ("law", none)]
def atD (i : Nat) : He.Defn := ats.getD i ("", none)
def d_0 : He.DefD := ⟨("Dice", some "__init__"), "__init__", "Dice.__init__", L2.defArgs st_0, L2.defBody st_0, L2.defScope st_0, [], []⟩
def d_1 : He.DefD := ⟨("Dice", some "roll"), "roll", "Dice.roll", L2.defArgs st_1, L2.defBody st_1, L2.defScope st_1, [], []⟩
def d_2 : He.DefD := ⟨("Dice", some "number"), "number", "Dice.number", L2.defArgs st_2, L2.defBody st_2, L2.defScope st_2, [], []⟩
def d_3 : He.DefD := ⟨("Dice", some "is_so"), "is_so", "Dice.is_so", L2.defArgs st_3, L2.defBody st_3, L2.defScope st_3, [], []⟩
def d_4 : He.DefD := ⟨("Dice", some "one_of"), "one_of", "Dice.one_of", L2.defArgs st_4, L2.defBody st_4, L2.defScope st_4, [], []⟩
def d_5 : He.DefD := ⟨("Dice", some "row"), "row", "Dice.row", L2.defArgs st_5, L2.defBody st_5, L2.defScope st_5, [], []⟩
def d_6 : He.DefD := ⟨("Dice", some "text"), "text", "Dice.text", L2.defArgs st_6, L2.defBody st_6, L2.defScope st_6, [], []⟩
def d_7 : He.DefD := ⟨("Dice", some "shuffled"), "shuffled", "Dice.shuffled", L2.defArgs st_7, L2.defBody st_7, L2.defScope st_7, [], []⟩
def d_8 : He.DefD := ⟨("Dice", some "picked"), "picked", "Dice.picked", L2.defArgs st_8, L2.defBody st_8, L2.defScope st_8, [], []⟩
def d_9 : He.DefD := ⟨("Dice", some "weighted"), "weighted", "Dice.weighted", L2.defArgs st_9, L2.defBody st_9, L2.defScope st_9, [], []⟩
def d_10 : He.DefD := ⟨("drawn", none), "drawn", "drawn", L2.defArgs st_10, L2.defBody st_10, L2.defScope st_10, [], []⟩
def d_11 : He.DefD := ⟨("check_shape", none), "check_shape", "check_shape", L2.defArgs st_11, L2.defBody st_11, L2.defScope st_11, [], []⟩
def d_12 : He.DefD := ⟨("draw_from", none), "draw_from", "draw_from", L2.defArgs st_12, L2.defBody st_12, L2.defScope st_12, [], []⟩
def d_13 : He.DefD := ⟨("_law_dice", none), "_law_dice", "_law_dice", L2.defArgs st_13, L2.defBody st_13, L2.defScope st_13, [], []⟩
def d_14 : He.DefD := ⟨("_law_roll", none), "_law_roll", "_law_roll", L2.defArgs st_14, L2.defBody st_14, L2.defScope st_14, [], []⟩
def d_15 : He.DefD := ⟨("_law_rounds", none), "_law_rounds", "_law_rounds", L2.defArgs st_15, L2.defBody st_15, L2.defScope st_15, [], []⟩
def d_16 : He.DefD := ⟨("_law_told", none), "_law_told", "_law_told", L2.defArgs st_16, L2.defBody st_16, L2.defScope st_16, [], []⟩
def d_17 : He.DefD := ⟨("_law_next", none), "_law_next", "_law_next", L2.defArgs st_17, L2.defBody st_17, L2.defScope st_17, [], []⟩
def d_18 : He.DefD := ⟨("_law_shape", none), "_law_shape", "_law_shape", L2.defArgs st_18, L2.defBody st_18, L2.defScope st_18, [], []⟩
def d_19 : He.DefD := ⟨("_law_drawn", none), "_law_drawn", "_law_drawn", L2.defArgs st_19, L2.defBody st_19, L2.defScope st_19, [], []⟩
def d_20 : He.DefD := ⟨("_law_shuffled", none), "_law_shuffled", "_law_shuffled", L2.defArgs st_20, L2.defBody st_20, L2.defScope st_20, [], []⟩
def d_21 : He.DefD := ⟨("_law_picked", none), "_law_picked", "_law_picked", L2.defArgs st_21, L2.defBody st_21, L2.defScope st_21, [], []⟩
def d_22 : He.DefD := ⟨("_law_step", none), "_law_step", "_law_step", L2.defArgs st_22, L2.defBody st_22, L2.defScope st_22, [], []⟩
def d_23 : He.DefD := ⟨("_law_plain", none), "_law_plain", "_law_plain", L2.defArgs st_23, L2.defBody st_23, L2.defScope st_23, [], []⟩
def d_24 : He.DefD := ⟨("law", none), "law", "law", L2.defArgs st_24, L2.defBody st_24, L2.defScope st_24, [], []⟩
def dfn : List He.DefD := [d_0, d_1, d_2, d_3, d_4, d_5, d_6, d_7, d_8, d_9, d_10, d_11, d_12, d_13, d_14, d_15, d_16, d_17, d_18, d_19, d_20, d_21, d_22, d_23, d_24]
def dfa : List He.Fa := [.int "MOST_SEED" (65536), .int "TIMES" (75), .int "MORE" (74), .cls "Dice", .glo "Dice", .mkr "Dice", .noat "Dice" "seed", .noat "Dice" "rolls", .meth "Dice" "roll", .meth "Dice" "number", .meth "Dice" "is_so", .meth "Dice" "one_of", .meth "Dice" "row", .meth "Dice" "text", .meth "Dice" "shuffled", .meth "Dice" "picked", .meth "Dice" "weighted", .glo "drawn", .glo "check_shape", .glo "draw_from", .glo "_law_dice", .glo "_law_roll", .glo "_law_rounds", .exm "DrawError" "DrawError" true, .glo "_law_told", .glo "_law_next", .glo "_law_shape", .glo "_law_drawn", .glo "_law_shuffled", .glo "_law_picked", .glo "_law_step", .glo "_law_plain", .glo "law", .glo "DrawError", .exc "DrawError", .free "abs", .free "dict", .free "enumerate", .free "int", .free "len", .free "list", .free "min", .free "range", .free "sorted", .free "sum", .free "tuple"]
def dtf : List He.Defn := [atD 5, atD 12, atD 23]
def tbA (K : PySem.W.Frag) (i : Nat) : Addr := (He.cT K (atD i)).2
def nms : List Str := ["MOST_SEED", "seed", "rolls", "TIMES", "MORE", "roll", "number", "row", "text", "one_of", "is_so", "shuffled", "picked", "weighted"]
theorem nms_ok : nmOk nms = true := by decide +kernel
def clsN (k : Nat) : Str := "Dice"
theorem clsN_of (k : Nat) : clsN k = "Dice" := by
  unfold clsN
  exact rfl
def xclN (k : Nat) : Str := ((["TrialError", "DrawError", "Dice"] : List Str).getD k "")
def GT_ (K : PySem.W.Frag) : GT := { K := K, cls := fun k => He.ga K (clsN k), xcl := fun k => He.ga K (xclN k), nm := nmF nms, nmI := nmF_inj nms_ok, TL := [(tbA K 23, (("_law_plain" : Str) ++ ".<locals>." ++ "<lambda>"))], TG := [tbA K 5, tbA K 12] }
/-- the tables stand apart -/
def dex (K : PySem.W.Frag) : Bool := decide (([tbA K 5, tbA K 12, tbA K 23] : List Addr).Nodup)
theorem clsAll {K : PySem.W.Frag} (c : He.SaysD dfa dfn K) (k : Nat) : L2.Cls K (He.ga K (clsN k)) := by
  rcases clsN_of k with h
  · rw [h]; exact He.cls_ok (c.fact 3 (f := .cls "Dice") rfl)
theorem fs_of {K : PySem.W.Frag} {h base : Heap} {mg : Str → Option Value} (X : K.In h) (N : h.Ns mainGlobals mg) (c : He.SaysD dfa dfn K) (hx : dex K = true) (TB : ∀ p ∈ dtf.map (He.cT K), LamX.TabB base mg p.1 p.2) :
    Fs (GT_ K) mg base (fun i => He.fAd K (atD i)) (fun i => fdOf K (He.fAd K (atD i))) (fun i => He.codeOf K (atD i)) (tbA K) := by
  have nd : ([tbA K 5, tbA K 12, tbA K 23] : List Addr).Nodup := of_decide_eq_true hx
  have sepG : ∀ p ∈ (GT_ K).TL, ∀ q ∈ (GT_ K).TG, p.1 ≠ q := fun p hp q hq => by
    simp only [GT_, List.mem_cons, List.not_mem_nil, or_false] at hp hq
    simp only [List.nodup_cons, List.mem_cons, List.not_mem_nil, or_false, not_or, List.nodup_nil, and_true, not_false_eq_true] at nd
    grind
  have TBs : ∀ i, atD i ∈ dtf → LamX.TabB base mg (He.codeOf K (atD i)) (tbA K i) := fun i hi => TB _ (List.mem_map.mpr ⟨_, hi, rfl⟩)
  exact {
    c_0 := He.int_ok X N (c.fact 0 (f := .int "MOST_SEED" 65536) rfl)
    c_3 := He.int_ok X N (c.fact 1 (f := .int "TIMES" 75) rfl)
    c_4 := He.int_ok X N (c.fact 2 (f := .int "MORE" 74) rfl)
    a_1 := ⟨fun k => clsAll c k, fun k => by
      show L2.NoAttr K (He.ga K (clsN k)) (nmF nms 1)
      rcases clsN_of k with h
      · rw [h]; exact He.noat_ok (c.fact 6 (f := .noat "Dice" "seed") rfl)⟩
    a_2 := ⟨fun k => clsAll c k, fun k => by
      show L2.NoAttr K (He.ga K (clsN k)) (nmF nms 2)
      rcases clsN_of k with h
      · rw [h]; exact He.noat_ok (c.fact 7 (f := .noat "Dice" "rolls") rfl)⟩
    n_1 := rfl
    n_2 := rfl
    n_5 := rfl
    n_6 := rfl
    n_7 := rfl
    n_8 := rfl
    n_9 := rfl
    n_10 := rfl
    n_11 := rfl
    n_12 := rfl
    n_13 := rfl
    F_0 := hd_fn c 0 (d := d_0)
    m_0 := He.mkr_ok (c.fact 5 (f := .mkr "Dice") rfl)
    F_1 := hd_fn c 1 (d := d_1)
    m_1 := He.meth_ok (c.fact 8 (f := .meth "Dice" "roll") rfl)
    F_2 := hd_fn c 2 (d := d_2)
    m_2 := He.meth_ok (c.fact 9 (f := .meth "Dice" "number") rfl)
    F_3 := hd_fn c 3 (d := d_3)
    m_3 := He.meth_ok (c.fact 10 (f := .meth "Dice" "is_so") rfl)
    F_4 := hd_fn c 4 (d := d_4)
    m_4 := He.meth_ok (c.fact 11 (f := .meth "Dice" "one_of") rfl)
    F_5 := hd_fc c 5 (d := d_5)
    C_5 := ⟨tab_conv (TBs 5 (by simp [dtf])), by simp [GT_], fun p hp => sepG p hp _ (by simp [GT_])⟩
    m_5 := He.meth_ok (c.fact 12 (f := .meth "Dice" "row") rfl)
    F_6 := hd_fn c 6 (d := d_6)
    m_6 := He.meth_ok (c.fact 13 (f := .meth "Dice" "text") rfl)
    F_7 := hd_fn c 7 (d := d_7)
    m_7 := He.meth_ok (c.fact 14 (f := .meth "Dice" "shuffled") rfl)
    F_8 := hd_fn c 8 (d := d_8)
    m_8 := He.meth_ok (c.fact 15 (f := .meth "Dice" "picked") rfl)
    F_9 := hd_fn c 9 (d := d_9)
    m_9 := He.meth_ok (c.fact 16 (f := .meth "Dice" "weighted") rfl)
    F_10 := hd_fn c 10 (d := d_10)
    g_10 := He.glo_ok X N (c.fact 17 (f := .glo "drawn") rfl)
    F_11 := hd_fn c 11 (d := d_11)
    g_11 := He.glo_ok X N (c.fact 18 (f := .glo "check_shape") rfl)
    F_12 := hd_fc c 12 (d := d_12)
    C_12 := ⟨tab_conv (TBs 12 (by simp [dtf])), by simp [GT_], fun p hp => sepG p hp _ (by simp [GT_])⟩
    g_12 := He.glo_ok X N (c.fact 19 (f := .glo "draw_from") rfl)
    F_13 := hd_fn c 13 (d := d_13)
    g_13 := He.glo_ok X N (c.fact 20 (f := .glo "_law_dice") rfl)
    F_14 := hd_fn c 14 (d := d_14)
    g_14 := He.glo_ok X N (c.fact 21 (f := .glo "_law_roll") rfl)
    F_15 := hd_fn c 15 (d := d_15)
    g_15 := He.glo_ok X N (c.fact 22 (f := .glo "_law_rounds") rfl)
    F_16 := hd_fn c 16 (d := d_16)
    E_16 := fun j hj => by
      have hj : j ∈ ([1] : List Nat) := List.contains_iff_mem.mp hj
      simp only [List.mem_cons, List.not_mem_nil, or_false] at hj
      rcases hj with rfl
      · exact He.exm_ok (c.fact 23 (f := .exm "DrawError" "DrawError" true) rfl)
    g_16 := He.glo_ok X N (c.fact 24 (f := .glo "_law_told") rfl)
    F_17 := hd_fn c 17 (d := d_17)
    g_17 := He.glo_ok X N (c.fact 25 (f := .glo "_law_next") rfl)
    F_18 := hd_fn c 18 (d := d_18)
    g_18 := He.glo_ok X N (c.fact 26 (f := .glo "_law_shape") rfl)
    F_19 := hd_fn c 19 (d := d_19)
    g_19 := He.glo_ok X N (c.fact 27 (f := .glo "_law_drawn") rfl)
    F_20 := hd_fn c 20 (d := d_20)
    g_20 := He.glo_ok X N (c.fact 28 (f := .glo "_law_shuffled") rfl)
    F_21 := hd_fn c 21 (d := d_21)
    g_21 := He.glo_ok X N (c.fact 29 (f := .glo "_law_picked") rfl)
    F_22 := hd_fn c 22 (d := d_22)
    g_22 := He.glo_ok X N (c.fact 30 (f := .glo "_law_step") rfl)
    F_23 := hd_fc c 23 (d := d_23)
    L_23 := ⟨TBs 23 (by simp [dtf]), by simp [GT_], fun p hp he => by simp [GT_] at hp; rw [hp], fun p hp he => sepG (tbA K 23, (("_law_plain" : Str) ++ ".<locals>." ++ "<lambda>")) (by simp [GT_]) p hp he.symm⟩
    g_23 := He.glo_ok X N (c.fact 31 (f := .glo "_law_plain") rfl)
    F_24 := hd_fn c 24 (d := d_24)
    g_24 := He.glo_ok X N (c.fact 32 (f := .glo "law") rfl)
    cl_2 := He.cls_ok (c.fact 3 (f := .cls "Dice") rfl)
    k_2 := He.glo_ok X N (c.fact 4 (f := .glo "Dice") rfl)
    x_1 := hd_exc X N (c.fact 33 (f := .glo "DrawError") rfl) (c.fact 34 (f := .exc "DrawError") rfl)
    b_abs := He.free_ok X N (c.fact 35 (f := .free "abs") rfl)
    b_dict := He.free_ok X N (c.fact 36 (f := .free "dict") rfl)
    b_enumerate := He.free_ok X N (c.fact 37 (f := .free "enumerate") rfl)
    b_int := He.free_ok X N (c.fact 38 (f := .free "int") rfl)
    b_len := He.free_ok X N (c.fact 39 (f := .free "len") rfl)
    b_list := He.free_ok X N (c.fact 40 (f := .free "list") rfl)
    b_min := He.free_ok X N (c.fact 41 (f := .free "min") rfl)
    b_range := He.free_ok X N (c.fact 42 (f := .free "range") rfl)
    b_sorted := He.free_ok X N (c.fact 43 (f := .free "sorted") rfl)
    b_sum := He.free_ok X N (c.fact 44 (f := .free "sum") rfl)
    b_tuple := He.free_ok X N (c.fact 45 (f := .free "tuple") rfl)
  }
abbrev R : PySem.W.OpenRow := PySem.W.OpenLaw.row PySem.Challenge.rw_teststack_k01_draws_by_a_seed
abbrev hk : PySem.W.Hook := He.hookX 5 dfa dfn [] dtf dex
def ob (s : PySem.W.SharedT) : He.AlX := He.obsX 5 dfa dfn [] dtf dex (HandSHeadRun.getT s)
theorem ob_eq (s : PySem.W.SharedT) : ob s = hk.obs s.abs := He.obsX_eq (HandSHeadRun.getT_eq s)
def loose : List Str := ["TrialError", "DrawError", "MOST_SEED", "TIMES", "MORE", "Dice", "drawn", "check_shape", "draw_from", "_law_dice", "_law_roll", "_law_rounds", "_law_told", "_law_next", "_law_shape", "_law_drawn", "_law_shuffled", "_law_picked", "_law_step", "_law_plain"]
theorem run (w : World) : HandSHeadRun.RunEq R (PySem.W.view R.prog [23]) hk ob 4000 loose w := by
  intro os
  kernel_rfl
theorem law_at {w : World} {mg : Str → Option Value} {fa : Addr} {h : Heap} (Y : hk.says w h) (N : h.Ns mainGlobals mg) (hf : mg "law" = some (.ref fa)) : ∃ K : PySem.W.Frag, K.In h ∧ LamX.LawAtS PySem.Challenge.rw_teststack_k01_draws_by_a_seed w K (L2.CX (PySem.Challenge.rw_teststack_k01_draws_by_a_seed).prog w) 96 63 "script" mg fa h := by
  obtain ⟨K, X, c⟩ := Y
  have cd := c.t.d
  have e := hf.symm.trans (He.glo_ok X N (cd.fact 32 (f := .glo "law") rfl))
  cases e
  have F := hd_fn cd 24 (d := d_24)
  have b := L2.FunD.bindsA (ps := ["script"]) F fun _ _ _ _ _ _ us hl => match us, hl with | [_], _ => rfl
  refine ⟨K, X, fdOf K (He.fAd K (atD 24)), dtf.map (He.cT K), spF (GT_ K) prog 12 24, fun p hp => ?_, fun p hp => ?_, fun p hp => ?_, fun s v => b s [v] rfl, fun H a ns _ _ hT hS => ?_, fun base hK hN TB => (al (fs_of hK hN cd c.more TB) 12).f_24⟩
  · obtain ⟨q, hq, rfl⟩ := List.mem_map.mp hp
    exact c.empty q hq
  · obtain ⟨q, hq, rfl⟩ := List.mem_map.mp hp
    exact c.out q hq
  · obtain ⟨q, hq, rfl⟩ := List.mem_map.mp hp
    exact PySem.W.codeHd_of_K X (c.hd q hq)
  · have hTb : ∀ i, atD i ∈ dtf → H (tbA K i) = some (.tbl #[]) := fun i hi => hT _ (List.mem_map.mpr ⟨_, hi, rfl⟩)
    refine sp_entry hS (fun p hp => ?_) (fun P hP => ?_) (plain ns)
    · simp only [GT_, List.mem_cons, List.not_mem_nil, or_false] at hp
      rcases hp with rfl
      · exact LamX.TabS.nil (hTb 23 (by simp [dtf]))
    · simp only [GT_, List.mem_cons, List.not_mem_nil, or_false] at hP
      rcases hP with rfl | rfl
      · exact ⟨#[], hTb 5 (by simp [dtf]), trivial⟩
      · exact ⟨#[], hTb 12 (by simp [dtf]), trivial⟩
end K01
open PySem PySem.W PySem.Calls PyProof.Rows in
theorem PySem.Challenge.cw_teststack_k01_draws_by_a_seed_holds : PySem.Challenge.rw_teststack_k01_draws_by_a_seed.Holds := by
  w_on; o_law
  refine HandSHeadRun.head_any (r := K01.R) (q := view K01.R.prog [23]) (H := K01.hk) (ob := K01.ob) (M := 4000) (loose := K01.loose) (d := HandSHeadRun.topDef K01.R.prog 23) (kwd := []) K01.ob_eq
    (by kernel_rfl) (fun s => by kernel_rfl) K01.run (by kernel_rfl) (by kernel_rfl) (by kernel_rfl) (by rfl) (by first | assumption | decide +kernel) (by decide +kernel) ⟨rfl, rfl, rfl, rfl, rfl, by decide +kernel⟩ ?hw ?hc
  case hw => w_witness2
  case hc =>
    refine LamX.walk_ofTsE (l := PySem.Challenge.rw_teststack_k01_draws_by_a_seed) (n := 63) (k := 96) (x := "script") (CX := fun w => L2.CX (PySem.Challenge.rw_teststack_k01_draws_by_a_seed).prog w) rfl (by decide) (by kernel_rfl) ⟨rfl, by decide, by decide⟩ ?F (fun _ _ _ _ _ z => ?_)
    case F =>
      intro w mg fa h Y N hmg0
      have e : (HandSHeadRun.topDef K01.R.prog 23).name = ("law" : PySem.Str) := by kernel_rfl
      rw [e] at hmg0
      exact K01.law_at Y N hmg0
    · obtain ⟨_, _, _, _, _, _, _, _, _, _, _, _, q⟩ := z
      exact q

