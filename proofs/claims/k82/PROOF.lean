import PyProof.Rows.All
import Wide.All
import OpenK.AllK
import Wide.FinOn
import HandS.ForMost
import HandS.Dict
import HandS.Sort
import HandS.Wide
import HandS.Gcd
import HandS.SortInts
import HandS.IsInst
import HandS.Walk
import HandS.Zip
import HandS.TupAny
import HandS.More
import HandS.WordsDict
import HandS.TupSets
import HandS.Deep
import HandS.Iter
import HandS.Style
import HandS.SetKeys
import HandS.SortRule
import PySem.Challenge.RW_evenmarks_k82_whole_sums_of_teeth
set_option Elab.async false
set_option linter.all false
set_option maxRecDepth 100000
set_option maxHeartbeats 4000000
/-! Vx, part A: data, the small language (IR), its evaluator. -/
namespace Vx
open PySem L2

abbrev D := PyData
/-- what a slot holds: shared data (never changed again), or a list, a dict that this slot alone holds; the script -/
inductive O where
  | sh (d : D)
  | lst (ds : List D)
  | dct (kvs : List (Key × D))
  | dls (kvs : List (Key × List D))
  | fdct (kvs : List (Key × D))
  | scr (ns : List Int)

abbrev Ev := List (Option O)

/-! ### prims -/
inductive P1 where
  | neg | not | abs | len | int | str | list | tuple | sum | max | min | all | any | sorted | repr | isInt | isBool | isTup | isSeq | isStr | isList
  deriving DecidableEq
inductive P2 where
  | add | sub | mul | fdiv | mod | pow | eq | ne | lt | le | gt | ge | is | isnot | ix | max2 | min2 | gcd | divmod | isin | notin
  deriving DecidableEq

def kD : Key → D
  | .inl i => .int i
  | .inr x => .str x
def dKey : D → Option Key
  | .int i => some (.inl i)
  | .str x => some (.inr x)
  | _ => none
/-- a dict's value at a key; a key put -/
def valD (kvs : List (Key × D)) (k : Key) : Option D := (kvs.find? fun p => decide (p.1 = k)).map (·.2)
def putD (kvs : List (Key × D)) (k : Key) (d : D) : List (Key × D) := if (kvs.any fun p => decide (p.1 = k)) = true then kvs.map (fun p => if p.1 = k then (p.1, d) else p) else kvs ++ [(k, d)]
def keyInts : List (Key × D) → Option (List Int)
  | [] => some []
  | (.inl i, _) :: r => (keyInts r).map (i :: ·)
  | _ => none

/-- frozen: as shared data -/
def O.fz : O → Option D
  | .sh d => some d
  | .lst ds => some (.list ds)
  | _ => none
/-- a tracked list -/
def O.asL : O → Option (List D)
  | .sh (.list ds) => some ds
  | .lst ds => some ds
  | _ => none
/-- any list -/
def O.asLs : O → Option (List D)
  | .sh (.list ds) => some ds
  | .lst ds => some ds
  | .scr ns => some (ns.map .int)
  | _ => none
def O.asT : O → Option (List D)
  | .sh (.tuple ds) => some ds
  | _ => none
/-- a list or a tuple -/
def O.asQ (o : O) : Option (List D) := match o.asLs with
  | some ds => some ds
  | none => o.asT
def O.data : O → Option D
  | .sh d => some d
  | .lst ds => some (.list ds)
  | .scr ns => some (.list (ns.map .int))
  | _ => none

def intsOf : List D → Option (List Int)
  | [] => some []
  | .int i :: r => (intsOf r).map (i :: ·)
  | _ => none
def boolsOf : List D → Option (List Bool)
  | [] => some []
  | .bool b :: r => (boolsOf r).map (b :: ·)
  | _ => none

def big : Nat := 2 ^ 4000
def bigOk (i : Int) : Bool := decide (i.natAbs < big)
def lineOk (n : Nat) : Bool := decide (n ≤ sizeLine)
def i62 (i : Int) : Bool := decide (-(2 ^ 62) ≤ i) && decide (i < 2 ^ 62)
def si (i : Int) : Option O := some (.sh (.int i))
def sb (b : Bool) : Option O := some (.sh (.bool b))

/-- == of two values -/
def eqD : D → D → Option Bool
  | .none, .none => some true
  | .none, .int _ => some false
  | .int _, .none => some false
  | .none, .bool _ => some false
  | .bool _, .none => some false
  | .none, .str _ => some false
  | .str _, .none => some false
  | .int i, .int j => some (decide (i = j))
  | .bool i, .bool j => some (decide (i = j))
  | .str i, .str j => some (decide (i = j))
  | .int _, .str _ => some false
  | .str _, .int _ => some false
  | .bool _, .str _ => some false
  | .str _, .bool _ => some false
  | a, b => if SeqAt.shaped a && SeqAt.shaped b then some (PyData.eqv a b) else none

def maxL : Int → List Int → Int
  | m, [] => m
  | m, x :: r => maxL (if x > m then x else m) r
def minL : Int → List Int → Int
  | m, [] => m
  | m, x :: r => minL (if x < m then x else m) r
def insI (x : Int) : List Int → List Int
  | [] => [x]
  | y :: r => if x ≤ y then x :: y :: r else y :: insI x r
def sortI : List Int → List Int
  | [] => []
  | x :: r => insI x (sortI r)

def truthD : D → Option Bool
  | .none => some false
  | .bool b => some b
  | .int i => some (i != 0)
  | .str x => if lineOk x.length then some ((x.length : Int) != 0) else none
  | .list xs => some (!xs.isEmpty)
  | .tuple xs => some (!xs.isEmpty)
  | .dict _ => none
def truthO (o : O) : Option Bool := o.data.bind truthD

/-- the places of a range by ones -/
def rangeD (i j : Int) : List D := (List.range (j - i).toNat).map fun n => .int (i + (n : Nat))

/-! ### what the prims do -/
def pNeg : O → Option O | .sh (.int i) => si (-i) | _ => none
def pNot : O → Option O | .sh (.bool b) => sb (!b) | _ => none
def pAbs : O → Option O | .sh (.int i) => si (if i < 0 then -i else i) | _ => none
def pLen : O → Option O
  | .sh (.str x) => if lineOk x.length then si x.length else none
  | .dct kvs => si kvs.length
  | o => o.asQ.bind fun ds => si ds.length
def pInt : O → Option O | .sh (.int i) => si i | .sh (.bool k) => si (if k then 1 else 0) | _ => none
def pStr : O → Option O | .sh (.int i) => if decide (i.natAbs.log2 < 1920) then some (.sh (.str (toString i))) else none | _ => none
def pList (o : O) : Option O := o.asQ.map .lst
def pTuple (o : O) : Option O := o.asQ.map fun ds => .sh (.tuple ds)
def pSum (o : O) : Option O := (o.asQ.bind intsOf).bind fun ns => si ns.sum
def pMax (o : O) : Option O := (o.asL.bind intsOf).bind fun ns => match ns with | [] => none | n :: r => si (maxL n r)
def pMin (o : O) : Option O := (o.asL.bind intsOf).bind fun ns => match ns with | [] => none | n :: r => si (minL n r)
def pAll (o : O) : Option O := (o.asL.bind boolsOf).bind fun bs => sb (bs.all id)
def pAny (o : O) : Option O := (o.asL.bind boolsOf).bind fun bs => sb (bs.any id)
/-- tuples of numbers below 2^64, in order -/
def bigT : Int := 2 ^ 64
def tupNs : D → Option (List Int)
  | .tuple ds => intsOf ds
  | _ => none
def codeT (d : D) : Int := TS.code bigT ((tupNs d).getD [])
def tupFit (n : Nat) (d : D) : Bool := match tupNs d with
  | some ns => decide (ns.length = n) && ns.all fun m => decide (0 ≤ m) && decide (m < bigT)
  | none => false
def insT (x : D) : List D → List D
  | [] => [x]
  | y :: r => if codeT x ≤ codeT y then x :: y :: r else y :: insT x r
def sortT : List D → List D
  | [] => []
  | x :: r => insT x (sortT r)
def lenT : List D → Nat
  | d :: _ => ((tupNs d).getD []).length
  | [] => 1
def pSorted : O → Option O
  | .dct kvs => (keyInts kvs).bind fun ns => if decide (ns.length < 64) then some (.lst ((sortI ns).map .int)) else none
  | o => o.asL.bind fun ds => match intsOf ds with
    | some ns => some (.lst ((sortI ns).map .int))
    | none => if decide (ds.length < 64) && decide (1 ≤ lenT ds) && ds.all (tupFit (lenT ds)) then some (.lst (sortT ds)) else none
def pRepr (o : O) : Option O := o.data.bind fun d => if d.canLay0 && decide (d.depth ≤ 64) && d.showable && lineOk d.shown.length then some (.sh (.str d.shown)) else none
def isIntD : D → Option Bool | .int _ => some true | .bool _ => some true | .dict _ => none | _ => some false
def isBoolD : D → Option Bool | .bool _ => some true | .dict _ => none | _ => some false
def isStrD : D → Option Bool | .str _ => some true | .dict _ => none | _ => some false
def isTupD : D → Option Bool | .tuple _ => some true | .dict _ => none | _ => some false
def isListD : D → Option Bool | .list _ => some true | .dict _ => none | _ => some false
def isSeqD : D → Option Bool | .tuple _ => some true | .list _ => some true | .dict _ => none | _ => some false
def pIs (f : D → Option Bool) (o : O) : Option O := (o.data.bind f).bind sb
def p1 (p : P1) (o : O) : Option O := match p with
  | .neg => pNeg o | .not => pNot o | .abs => pAbs o | .len => pLen o | .int => pInt o | .str => pStr o | .list => pList o | .tuple => pTuple o
  | .sum => pSum o | .max => pMax o | .min => pMin o | .all => pAll o | .any => pAny o | .sorted => pSorted o | .repr => pRepr o
  | .isInt => pIs isIntD o | .isBool => pIs isBoolD o | .isTup => pIs isTupD o | .isSeq => pIs isSeqD o | .isStr => pIs isStrD o | .isList => pIs isListD o

def pAdd : O → O → Option O
  | .sh (.int i), .sh (.int j) => si (i + j)
  | .sh (.str x), .sh (.str y) => if lineOk (x.length + y.length) then some (.sh (.str (x ++ y))) else none
  | .sh (.tuple xs), .sh (.tuple ys) => if lineOk (xs.length + ys.length) then some (.sh (.tuple (xs ++ ys))) else none
  | a, b => a.asL.bind fun xs => b.asL.bind fun ys => if lineOk (xs.length + ys.length) then some (.lst (xs ++ ys)) else none
def pSub : O → O → Option O | .sh (.int i), .sh (.int j) => si (i - j) | _, _ => none
def pMul : O → O → Option O
  | .sh (.int i), .sh (.int j) => if bigOk i && bigOk j then si (i * j) else none
  | a, .sh (.int k) => a.asL.bind fun xs => if i62 k && lineOk (xs.length * k.toNat) then some (.lst (List.replicate k.toNat xs).flatten) else none
  | _, _ => none
def pFdiv : O → O → Option O | .sh (.int i), .sh (.int j) => if decide (j ≠ 0) && bigOk j then si (i.fdiv j) else none | _, _ => none
def pMod : O → O → Option O | .sh (.int i), .sh (.int j) => if decide (j ≠ 0) then si (i.fmod j) else none | _, _ => none
def pPow : O → O → Option O | .sh (.int i), .sh (.int j) => if decide (0 ≤ j) && decide (j ≤ 1000) && decide (i.natAbs < 2 ^ 60) then si (i ^ j.toNat) else none | _, _ => none
def pLt : O → O → Option O | .sh (.int i), .sh (.int j) => sb (decide (i < j)) | _, _ => none
def pLe : O → O → Option O | .sh (.int i), .sh (.int j) => sb (decide (i ≤ j)) | _, _ => none
def pGt : O → O → Option O | .sh (.int i), .sh (.int j) => sb (decide (j < i)) | _, _ => none
def pGe : O → O → Option O | .sh (.int i), .sh (.int j) => sb (decide (j ≤ i)) | _, _ => none
def pEq (a b : O) : Option O := a.data.bind fun x => b.data.bind fun y => (eqD x y).bind sb
def pNe (a b : O) : Option O := a.data.bind fun x => b.data.bind fun y => (eqD x y).bind fun k => sb (!k)
def isNoneD : D → Bool | .none => true | _ => false
def pIsN : O → O → Option O | a, .sh .none => a.data.bind fun d => sb (isNoneD d) | _, _ => none
def pNotN : O → O → Option O | a, .sh .none => a.data.bind fun d => sb (!isNoneD d) | _, _ => none
def pIx : O → O → Option O
  | .dct kvs, .sh k => (dKey k).bind fun k => (valD kvs k).map .sh
  | .sh (.str x), .sh (.int i) => if lineOk x.length then (atI x.cps.toList i).map fun c => .sh (.str ⟨#[c]⟩) else none
  | a, .sh (.int i) => a.asQ.bind fun ds => (atI ds i).map .sh
  | _, _ => none
def pMax2 : O → O → Option O | .sh (.int i), .sh (.int j) => si (if j > i then j else i) | _, _ => none
def pMin2 : O → O → Option O | .sh (.int i), .sh (.int j) => si (if j < i then j else i) | _, _ => none
def pGcd : O → O → Option O | .sh (.int i), .sh (.int j) => si ((Nat.gcd i.natAbs j.natAbs : Nat) : Int) | _, _ => none
def pDivmod : O → O → Option O | .sh (.int i), .sh (.int j) => if decide (0 < j) && decide (j < 1073741824) then some (.sh (.tuple [.int (i / j), .int (i % j)])) else none | _, _ => none
/-- x in a list, a tuple -/
def inD (neg : Bool) (a b : O) : Option O := match a with
  | .sh d => (match b.asL with
    | some ds => if SeqAt.shaped d && SeqAt.shaped (.list ds) then sb (neg ^^ ds.any fun z => PyData.eqv z d) else none
    | none => (match b.asT, d with
      | some ds, .int i => (intsOf ds).bind fun ns => sb (neg ^^ ns.any fun z => z == i)
      | _, _ => none))
  | _ => none
def p2 (p : P2) (a b : O) : Option O := match p with
  | .add => pAdd a b | .sub => pSub a b | .mul => pMul a b | .fdiv => pFdiv a b | .mod => pMod a b | .pow => pPow a b
  | .lt => pLt a b | .le => pLe a b | .gt => pGt a b | .ge => pGe a b | .eq => pEq a b | .ne => pNe a b | .is => pIsN a b | .isnot => pNotN a b
  | .isin => inD false a b | .notin => inD true a b
  | .ix => pIx a b | .max2 => pMax2 a b | .min2 => pMin2 a b | .gcd => pGcd a b | .divmod => pDivmod a b

def sliceD (ds : List D) (lo hi : Option Int) : List D := (ds.drop (HT.sIx ds.length 0 lo)).take (HT.sIx ds.length ds.length hi - HT.sIx ds.length 0 lo)
def pSlice (a : O) (lo hi : Option Int) : Option O := match a.asLs with
  | some ds => some (.lst (sliceD ds lo hi))
  | none => a.asT.bind fun ds => some (.sh (.tuple (sliceD ds lo hi)))

def allOk : List Bool → Bool
  | [] => true
  | b :: r => b && allOk r

/-! ### the language -/
mutual
inductive E where
  | con (d : D)
  | var (i : Nat)
  | mv (i : Nat)
  | op1 (p : P1) (a : A)
  | op2 (p : P2) (a b : A)
  | slice (a : A) (lo hi : OE)
  | tup (es : EL)
  | lst (es : EL)
  | call (f : Str) (es : EL)
  | callK (f : Str) (perm : List Nat) (es ks : EL)
  | callIO (f : Str) (i : Nat) (es : EL)
  | ite (c : T) (a b : E)
  | andV (a b : E)
  | orV (a b : E)
  | comp (own : List Nat) (g : G) (it : I) (c : T) (elt : E)
  | chain (p q : P2) (a b c : A)
  | dnew
  | dget (i : Nat) (k e : E)
  | index (i : Nat) (e : E)
  | lock (i : Nat) (e : E)
inductive A where
  | pk (i : Nat)
  | ex (e : E)
inductive EL where
  | nil
  | cons (e : E) (r : EL)
inductive OE where
  | no
  | yes (e : E)
inductive T where
  | yes
  | val (a : A)
  | cmp (p : P2) (a b : A)
  | chain (p q : P2) (a b c : A)
  | not (a : T)
  | and (a b : T)
  | or (a b : T)
inductive G where
  | nm (i : Nat)
  | tp (is : List Nat)
inductive I where
  | seq (a : E)
  | range1 (a : E)
  | range2 (a b : E)
  | zip (a b : E)
  | enum (a : E)
  | items (i : Nat)
end
mutual
/-- a target: a name, a list's place, several -/
inductive Tg where
  | nm (i : Nat)
  | ix (i : Nat) (k : E)
  | tp (ts : TgL)
inductive TgL where
  | nil
  | cons (t : Tg) (r : TgL)
end
mutual
inductive S where
  | pass
  | asg (i : Nat) (e : E)
  | asgG (t : Tg) (e : E)
  | par (i j : Nat) (a b : E)
  | par3 (i j k : Nat) (a b c : E)
  | aug (i : Nat) (p : P2) (e : E)
  | append (i : Nat) (e : E)
  | lock (i : Nat) (s : S)
  | extend (i : Nat) (e : E)
  | insert (i : Nat) (k e : E)
  | pop (i : Nat)
  | expr (e : E)
  | ite (c : T) (a b : SL)
  | for (g : G) (it : I) (b : SL)
  | while (c : T) (b : SL)
  | ret (e : E)
  | brk
  | cont
  | never
inductive SL where
  | nil
  | cons (s : S) (r : SL)
end

/-! ### the evaluator -/
/-- what the defs do: the result, what the first argument is behind it (where it is lent) -/
abbrev Fn := Str → List O → Option (O × O)

inductive Arg where
  | val (o : O)
  | slot (i : Nat)
def Arg.get (ρ : Ev) : Arg → Option O
  | .val o => some o
  | .slot i => (ρ[i]?).join

def setAll : Ev → List Nat → List D → Option Ev
  | ρ, [], [] => some ρ
  | ρ, i :: is, d :: ds => setAll (ρ.set i (some (.sh d))) is ds
  | _, _, _ => none
def bindG : G → Ev → D → Option Ev
  | .nm i, ρ, d => some (ρ.set i (some (.sh d)))
  | .tp is, ρ, .tuple ds => setAll ρ is ds
  | .tp _, _, _ => none
def wipeEv (ρ : Ev) : List Nat → Ev
  | [] => ρ
  | v :: vs => (wipeEv ρ vs).set v none
def fzAll : List O → Option (List D)
  | [] => some []
  | o :: r => o.fz.bind fun d => (fzAll r).map (d :: ·)
def perms (os : List O) : List Nat → Option (List O)
  | [] => some []
  | i :: r => os[i]?.bind fun o => (perms os r).map (o :: ·)
/-- the turns of a comprehension -/
def compGo (own : List Nat) (tg : Ev → D → Option Ev) (c : Ev → Option (Bool × Ev)) (el : Ev → Option (O × Ev)) : List D → Ev → List D → Option (List D × Ev)
  | [], ρ, acc => some (acc, ρ)
  | d :: ds, ρ, acc => (tg ρ d).bind fun ρ1 => (c ρ1).bind fun r =>
      if r.1 then (el r.2).bind fun q => q.1.fz.bind fun x => if decide (acc.length < sizeLine) then compGo own tg c el ds (wipeEv q.2 own) (acc ++ [x]) else none
      else compGo own tg c el ds (wipeEv r.2 own) acc
def pZip (o u : O) : Option (List D) := match o.asLs with
  | some xs => u.asLs.map fun ys => (xs.zip ys).map fun p => .tuple [p.1, p.2]
  | none => o.asT.bind fun xs => u.asT.map fun ys => (xs.zip ys).map fun p => .tuple [p.1, p.2]
def isDct : Option O → Bool
  | some (.dct _) => true
  | _ => false
def noFd (ρ : Ev) : Bool := ρ.all fun x => match x with
  | some (.fdct _) => false
  | _ => true
/-- a dict let go -/
def unlock (i : Nat) (ρ : Ev) : Option Ev := match (ρ[i]?).join with
  | some (.fdct kvs) => if noFd (ρ.set i none) then some (ρ.set i (some (.dct kvs))) else none
  | _ => none
/-- the first place of it -/
def indexD (d : D) : List D → Option Nat
  | [] => none
  | z :: r => if PyData.eqv z d then some 0 else (indexD d r).map (· + 1)
section
variable (F : Fn)
mutual
def evE : E → Ev → Option (O × Ev)
  | .con d, ρ => some (.sh d, ρ)
  | .var i, ρ => ((ρ[i]?).join).bind fun o => match o with
      | .sh d => some (.sh d, ρ)
      | .scr ns => some (.scr ns, ρ)
      | .lst ds => some (.sh (.list ds), ρ.set i (some (.sh (.list ds))))
      | _ => none
  | .mv i, ρ => ((ρ[i]?).join).map fun o => (o, ρ.set i none)
  | .op1 p a, ρ => (evA a ρ).bind fun r1 => (r1.1.get r1.2).bind fun o => (p1 p o).map fun r => (r, r1.2)
  | .op2 p a b, ρ => (evA a ρ).bind fun r1 => (evA b r1.2).bind fun r2 => (r1.1.get r2.2).bind fun o => (r2.1.get r2.2).bind fun u => (p2 p o u).map fun r => (r, r2.2)
  | .slice a lo hi, ρ => (evA a ρ).bind fun r1 => (evOE lo r1.2).bind fun r2 => (evOE hi r2.2).bind fun r3 => (r1.1.get r3.2).bind fun o => (pSlice o r2.1 r3.1).map fun r => (r, r3.2)
  | .tup es, ρ => (evL es ρ).bind fun r => (fzAll r.1).bind fun ds => if lineOk ds.length then some (.sh (.tuple ds), r.2) else none
  | .lst es, ρ => (evL es ρ).bind fun r => (fzAll r.1).bind fun ds => if lineOk ds.length then some (.lst ds, r.2) else none
  | .call f es, ρ => (evL es ρ).bind fun r => (F f r.1).map fun q => (q.1, r.2)
  | .callK f perm es ks, ρ => (evL es ρ).bind fun r => (evL ks r.2).bind fun z => (perms (r.1 ++ z.1) perm).bind fun os' => (F f os').map fun q => (q.1, z.2)
  | .callIO f i es, ρ => if ((ρ[i]?).join).isSome then (evL es ρ).bind fun r => ((r.2[i]?).join).bind fun o => (F f (o :: r.1)).map fun q => (q.1, r.2.set i (some q.2)) else none
  | .ite c a b, ρ => (evT c ρ).bind fun r => if r.1 then evE a r.2 else evE b r.2
  | .andV a b, ρ => (evE a ρ).bind fun r => match r.1 with | .sh (.bool k) => if k then evE b r.2 else some (.sh (.bool false), r.2) | _ => none
  | .orV a b, ρ => (evE a ρ).bind fun r => match r.1 with | .sh (.bool k) => if k then some (.sh (.bool true), r.2) else evE b r.2 | _ => none
  | .comp own g it c elt, ρ => (evI it ρ).bind fun r => (compGo own (bindG g) (evT c) (evE elt) r.1 (wipeEv r.2 own) []).map fun q => (.lst q.1, q.2)
  | .chain p q a b c, ρ => (evA a ρ).bind fun r1 => (evA b r1.2).bind fun r2 => (r1.1.get r2.2).bind fun o => (r2.1.get r2.2).bind fun u => (p2 p o u).bind fun r => match r with
      | .sh (.bool k) => if k then (evA c r2.2).bind fun r3 => (r2.1.get r3.2).bind fun u' => (r3.1.get r3.2).bind fun v => (p2 q u' v).map fun r' => (r', r3.2) else some (.sh (.bool false), r2.2)
      | _ => none
  | .dnew, ρ => some (.dct [], ρ)
  | .dget i k e, ρ => if isDct ((ρ[i]?).join) then (evE k ρ).bind fun r => (evE e r.2).bind fun q => ((q.2[i]?).join).bind fun x => match x, r.1 with
      | .dct kvs, .sh k => (dKey k).map fun k => match valD kvs k with
        | some v => (.sh v, q.2)
        | none => (q.1, q.2)
      | _, _ => none
      else none
  | .index i e, ρ => if (((ρ[i]?).join).bind O.asL).isSome then (evE e ρ).bind fun r => (((r.2[i]?).join).bind O.asL).bind fun ds => match r.1 with
      | .sh d => if SeqAt.shaped d && SeqAt.shaped (.list ds) then (indexD d ds).map fun j => (.sh (.int (j : Nat)), r.2) else none
      | _ => none
      else none
  | .lock i e, ρ => ((ρ[i]?).join).bind fun x => match x with
      | .dct kvs => (evE e (ρ.set i (some (.fdct kvs)))).bind fun r => match r.1 with
        | .fdct _ => none
        | o => (unlock i r.2).map fun ρ' => (o, ρ')
      | _ => none
def evA : A → Ev → Option (Arg × Ev)
  | .pk i, ρ => ((ρ[i]?).join).map fun _ => (.slot i, ρ)
  | .ex e, ρ => (evE e ρ).map fun r => (.val r.1, r.2)
def evL : EL → Ev → Option (List O × Ev)
  | .nil, ρ => some ([], ρ)
  | .cons e r, ρ => (evE e ρ).bind fun q => (evL r q.2).map fun z => (q.1 :: z.1, z.2)
def evOE : OE → Ev → Option (Option Int × Ev)
  | .no, ρ => some (none, ρ)
  | .yes e, ρ => (evE e ρ).bind fun r => match r.1 with | .sh (.int i) => some (some i, r.2) | _ => none
def evT : T → Ev → Option (Bool × Ev)
  | .yes, ρ => some (true, ρ)
  | .val a, ρ => (evA a ρ).bind fun r1 => (r1.1.get r1.2).bind fun o => (truthO o).map fun k => (k, r1.2)
  | .cmp p a b, ρ => (evA a ρ).bind fun r1 => (evA b r1.2).bind fun r2 => (r1.1.get r2.2).bind fun o => (r2.1.get r2.2).bind fun u => (p2 p o u).bind fun r => match r with | .sh (.bool k) => some (k, r2.2) | _ => none
  | .chain p q a b c, ρ => (evA a ρ).bind fun r1 => (evA b r1.2).bind fun r2 => (r1.1.get r2.2).bind fun o => (r2.1.get r2.2).bind fun u => (p2 p o u).bind fun r => match r with
      | .sh (.bool k) => if k then (evA c r2.2).bind fun r3 => (r2.1.get r3.2).bind fun u' => (r3.1.get r3.2).bind fun v => (p2 q u' v).bind fun r' => match r' with | .sh (.bool k') => some (k', r3.2) | _ => none else some (false, r2.2)
      | _ => none
  | .not a, ρ => (evT a ρ).map fun r => (!r.1, r.2)
  | .and a b, ρ => (evT a ρ).bind fun r => if r.1 then evT b r.2 else some (false, r.2)
  | .or a b, ρ => (evT a ρ).bind fun r => if r.1 then some (true, r.2) else evT b r.2
def evI : I → Ev → Option (List D × Ev)
  | .seq a, ρ => (evE a ρ).bind fun r => r.1.asQ.map fun ds => (ds, r.2)
  | .range1 a, ρ => (evE a ρ).bind fun r => match r.1 with | .sh (.int j) => if i62 j then some (rangeD 0 j, r.2) else none | _ => none
  | .range2 a b, ρ => (evE a ρ).bind fun r => (evE b r.2).bind fun q => match r.1, q.1 with | .sh (.int i), .sh (.int j) => if i62 i && i62 j then some (rangeD i j, q.2) else none | _, _ => none
  | .zip a b, ρ => (evE a ρ).bind fun r => (evE b r.2).bind fun q => (pZip r.1 q.1).map fun z => (z, q.2)
  | .enum a, ρ => (evE a ρ).bind fun r => r.1.asLs.map fun ds => ((ds.zipIdx).map fun p => .tuple [.int (p.2 : Nat), p.1], r.2)
  | .items i, ρ => ((ρ[i]?).join).bind fun x => match x with
      | .fdct kvs => some (kvs.map fun p => .tuple [kD p.1, p.2], ρ)
      | _ => none
end
def isLst : Option O → Bool
  | some (.lst _) => true
  | _ => false
def pAug (p : P2) : O → O → Option O
  | .sh (.int i), .sh (.int j) => p2 p (.sh (.int i)) (.sh (.int j))
  | _, _ => none
/-- how a statement ends -/
inductive Out where
  | nx (ρ : Ev)
  | rt (o : O) (ρ : Ev)
  | bk (ρ : Ev)
  | ct (ρ : Ev)
/-- the turns of a for -/
def forGo (tg : Ev → D → Option Ev) (b : Ev → Option Out) : List D → Ev → Option Out
  | [], ρ => some (.nx ρ)
  | d :: ds, ρ => (tg ρ d).bind fun ρ1 => (b ρ1).bind fun r => match r with
      | .nx ρ2 => forGo tg b ds ρ2
      | .ct ρ2 => forGo tg b ds ρ2
      | .bk ρ2 => some (.nx ρ2)
      | .rt o ρ2 => some (.rt o ρ2)
def whileGo (c : Ev → Option (Bool × Ev)) (b : Ev → Option Out) : Nat → Ev → Option Out
  | 0, _ => none
  | n + 1, ρ => (c ρ).bind fun q => if q.1 then (b q.2).bind fun r => match r with
      | .nx ρ2 => whileGo c b n ρ2
      | .ct ρ2 => whileGo c b n ρ2
      | .bk ρ2 => some (.nx ρ2)
      | .rt o ρ2 => some (.rt o ρ2)
    else some (.nx q.2)
/-- the turns that a while may take -/
def fuel : Nat := 2 ^ 64
variable (io : Bool)
/-- the first parameter, where it is lent, is not stored -/
def free (i : Nat) : Bool := !io || i != 0
def G.free : G → Bool
  | .nm i => Vx.free io i
  | .tp is => is.all (Vx.free io)
mutual
def evTg : Tg → D → Ev → Option Ev
  | .nm i, d, ρ => if free io i then some (ρ.set i (some (.sh d))) else none
  | .ix i k, d, ρ => if ((ρ[i]?).join).isSome then (evE F k ρ).bind fun q => ((q.2[i]?).join).bind fun x => match x, q.1 with
      | .lst ds, .sh (.int n) => (ixN ds.length n).map fun j => q.2.set i (some (.lst (ds.set j d)))
      | .dct kvs, .sh k => (dKey k).bind fun k => if decide (kvs.length < sizeLine) then some (q.2.set i (some (.dct (putD kvs k d)))) else none
      | _, _ => none
      else none
  | .tp ts, d, ρ => match d with
      | .tuple ds => evTgs ts ds ρ
      | _ => none
def evTgs : TgL → List D → Ev → Option Ev
  | .nil, ds, ρ => match ds with
      | [] => some ρ
      | _ => none
  | .cons t r, ds, ρ => match ds with
      | d :: ds => (evTg t d ρ).bind fun ρ1 => evTgs r ds ρ1
      | _ => none
end
mutual
def evS : S → Ev → Option Out
  | .pass, ρ => some (.nx ρ)
  | .asg i e, ρ => if free io i then (evE F e ρ).map fun r => .nx (r.2.set i (some r.1)) else none
  | .asgG t e, ρ => (evE F e ρ).bind fun r => r.1.fz.bind fun d => (evTg F io t d r.2).map .nx
  | .par i j a b, ρ => if free io i && free io j then (evE F a ρ).bind fun r => (evE F b r.2).map fun q => .nx ((q.2.set i (some r.1)).set j (some q.1)) else none
  | .par3 i j k a b c, ρ => if free io i && free io j && free io k then (evE F a ρ).bind fun r => (evE F b r.2).bind fun q => (evE F c q.2).map fun z => .nx (((z.2.set i (some r.1)).set j (some q.1)).set k (some z.1)) else none
  | .aug i p e, ρ => if free io i && ((ρ[i]?).join).isSome then (evE F e ρ).bind fun r => ((r.2[i]?).join).bind fun x => (pAug p x r.1).map fun q => .nx (r.2.set i (some q)) else none
  | .lock i s, ρ => ((ρ[i]?).join).bind fun x => match x with
      | .dct kvs => (evS s (ρ.set i (some (.fdct kvs)))).bind fun r => match r with
        | .nx ρ' => (unlock i ρ').map .nx
        | .bk ρ' => (unlock i ρ').map .bk
        | .ct ρ' => (unlock i ρ').map .ct
        | .rt o ρ' => (match o with
          | .fdct _ => none
          | o => (unlock i ρ').map (.rt o))
      | _ => none
  | .append i e, ρ => if isLst ((ρ[i]?).join) then (evE F e ρ).bind fun r => r.1.fz.bind fun d => ((r.2[i]?).join).bind fun x => match x with
      | .lst ds => if decide (ds.length < sizeLine) then some (.nx (r.2.set i (some (.lst (ds ++ [d]))))) else none
      | _ => none
      else none
  | .extend i e, ρ => if isLst ((ρ[i]?).join) then (evE F e ρ).bind fun r => r.1.asL.bind fun zs => ((r.2[i]?).join).bind fun x => match x with
      | .lst ds => if lineOk (ds.length + zs.length) then some (.nx (r.2.set i (some (.lst (ds ++ zs))))) else none
      | _ => none
      else none
  | .insert i k e, ρ => if isLst ((ρ[i]?).join) then (evE F k ρ).bind fun q => (evE F e q.2).bind fun r => r.1.fz.bind fun d => ((r.2[i]?).join).bind fun x => match x, q.1 with
      | .lst ds, .sh (.int n) => if decide (ds.length < sizeLine) && decide (0 ≤ n) && decide (n < 2 ^ 63) then some (.nx (r.2.set i (some (.lst (ds.take n.toNat ++ [d] ++ ds.drop n.toNat))))) else none
      | _, _ => none
      else none
  | .pop i, ρ => ((ρ[i]?).join).bind fun x => match x with
      | .lst ds => if ds.isEmpty then none else some (.nx (ρ.set i (some (.lst ds.dropLast))))
      | _ => none
  | .expr e, ρ => (evE F e ρ).map fun r => .nx r.2
  | .ite c a b, ρ => (evT F c ρ).bind fun r => if r.1 then evSs a r.2 else evSs b r.2
  | .for g it b, ρ => (evI F it ρ).bind fun r => if g.free io then forGo (bindG g) (evSs b) r.1 r.2 else none
  | .while c b, ρ => whileGo (evT F c) (evSs b) fuel ρ
  | .ret e, ρ => (evE F e ρ).map fun r => .rt r.1 r.2
  | .brk, ρ => some (.bk ρ)
  | .cont, ρ => some (.ct ρ)
  | .never, _ => none
def evSs : SL → Ev → Option Out
  | .nil, ρ => some (.nx ρ)
  | .cons s r, ρ => (evS s ρ).bind fun o => match o with
      | .nx ρ1 => evSs r ρ1
      | o => some o
end
end
/-- a def called: its names, its body -/
def run (F : Fn) (io : Bool) (n : Nat) (body : SL) (os : List O) : Option (O × O) :=
  match evSs F io body (os.map some ++ List.replicate (n - os.length) none) with
  | some (.rt o ρ) => if io then ((ρ[0]?).join).map fun x => (o, x) else some (o, .sh .none)
  | some (.nx ρ) => if io then ((ρ[0]?).join).map fun x => (.sh .none, x) else some (.sh .none, .sh .none)
  | _ => none
end Vx

/-! Vx, part B: what of the abstract heap stands for the data; the state; what an expression's reading asks. -/
namespace Vx
open PySem L2
example (F : Fn) (d : D) (ρ : Ev) : evE F (.con d) ρ = some (.sh d, ρ) := rfl
example (F : Fn) (a b : E) (ρ : Ev) : evE F (.andV a b) ρ = (evE F a ρ).bind fun r => match r.1 with | .sh (.bool k) => if k then evE F b r.2 else some (.sh (.bool false), r.2) | _ => none := rfl

abbrev AS := Addr → Prop
section
variable (K : PySem.W.Frag)
mutual
inductive Rep (F : AS) (H : Hp) : D → V → Prop where
  | non : Rep F H .none .non
  | bl (b : Bool) : Rep F H (.bool b) (.bl b)
  | int (i : Int) : Rep F H (.int i) (.int i)
  | str (x : Str) : Rep F H (.str x) (.str x)
  | lst {a : Addr} {vs : List V} {ds : List D} : F a → H a = some (.lst vs) → RepL F H ds vs → Rep F H (.list ds) (.ref a)
  | tup {a : Addr} {vs : List V} {ds : List D} : F a → H a = some (.tup vs) → RepL F H ds vs → Rep F H (.tuple ds) (.ref a)
  | tupK {a : Addr} {vs : List V} {ds : List D} {o : Obj} {its : Array Value} {n : Nat} : K.lookup a = some o → o.cls = .type "tuple" → o.data = .seq its n → its.size ≤ sizeLine → Vals vs its.toList → RepL F H ds vs → Rep F H (.tuple ds) (.ref a)
inductive RepL (F : AS) (H : Hp) : List D → List V → Prop where
  | nil : RepL F H [] []
  | cons {d : D} {ds : List D} {v : V} {vs : List V} : Rep F H d v → RepL F H ds vs → RepL F H (d :: ds) (v :: vs)
end
end

/-- grown: what is frozen stays, what is Z's stays -/
structure Ext (F F' Z : AS) (H H' : Hp) : Prop where
  sub : ∀ a, F a → F' a
  kf : ∀ a o, F a → H a = some o → H' a = some o
  kz : ∀ a, Z a → H' a = H a
theorem Ext.refl {F Z : AS} {H : Hp} : Ext F F Z H H := ⟨fun _ h => h, fun _ _ _ h => h, fun _ _ => rfl⟩
theorem Ext.trans {F F1 F2 Z : AS} {H H1 H2 : Hp} (a : Ext F F1 Z H H1) (b : Ext F1 F2 Z H1 H2) : Ext F F2 Z H H2 :=
  ⟨fun x h => b.sub x (a.sub x h), fun x o f h => b.kf x o (a.sub x f) (a.kf x o f h), fun x z => (b.kz x z).trans (a.kz x z)⟩
theorem Ext.less {F F1 Z Z' : AS} {H H1 : Hp} (a : Ext F F1 Z H H1) (h : ∀ x, Z' x → Z x) : Ext F F1 Z' H H1 := ⟨a.sub, a.kf, fun x z => a.kz x (h x z)⟩

section
variable {K : PySem.W.Frag} {F F' Z Z' : AS} {H H' : Hp}
mutual
theorem Rep.mono (s : ∀ a, F a → F' a) (k : ∀ a o, F a → H a = some o → H' a = some o) : ∀ {d : D} {v : V}, Rep K F H d v → Rep K F' H' d v
  | _, _, .non => .non
  | _, _, .bl b => .bl b
  | _, _, .int i => .int i
  | _, _, .str x => .str x
  | _, _, .lst f h r => .lst (s _ f) (k _ _ f h) (RepL.mono s k r)
  | _, _, .tup f h r => .tup (s _ f) (k _ _ f h) (RepL.mono s k r)
  | _, _, .tupK h1 h2 h3 h4 h5 r => .tupK h1 h2 h3 h4 h5 (RepL.mono s k r)
theorem RepL.mono (s : ∀ a, F a → F' a) (k : ∀ a o, F a → H a = some o → H' a = some o) : ∀ {ds : List D} {vs : List V}, RepL K F H ds vs → RepL K F' H' ds vs
  | _, _, .nil => .nil
  | _, _, .cons r t => .cons (Rep.mono s k r) (RepL.mono s k t)
end
theorem Rep.ext {d : D} {v : V} (r : Rep K F H d v) (e : Ext F F' Z H H') : Rep K F' H' d v := r.mono e.sub e.kf
theorem RepL.ext {ds : List D} {vs : List V} (r : RepL K F H ds vs) (e : Ext F F' Z H H') : RepL K F' H' ds vs := r.mono e.sub e.kf

theorem RepL.length : ∀ {ds : List D} {vs : List V}, RepL K F H ds vs → ds.length = vs.length
  | _, _, .nil => rfl
  | _, _, .cons _ t => by simp [RepL.length t]
theorem RepL.append : ∀ {ds es : List D} {vs ws : List V}, RepL K F H ds vs → RepL K F H es ws → RepL K F H (ds ++ es) (vs ++ ws)
  | _, _, _, _, .nil, s => s
  | _, _, _, _, .cons r t, s => .cons r (RepL.append t s)
theorem RepL.get : ∀ {ds : List D} {vs : List V} {i : Nat} {d : D}, RepL K F H ds vs → ds[i]? = some d → ∃ v, vs[i]? = some v ∧ Rep K F H d v
  | _, _, _, _, .nil, e => by simp at e
  | _, _, 0, _, .cons r _, e => by simp at e; subst e; exact ⟨_, rfl, r⟩
  | _, _, i + 1, _, .cons _ t, e => by
    obtain ⟨v, h1, h2⟩ := RepL.get (i := i) t (by simpa using e)
    exact ⟨v, by simpa using h1, h2⟩
theorem RepL.set {d : D} {v : V} (r : Rep K F H d v) : ∀ {ds : List D} {vs : List V} (i : Nat), RepL K F H ds vs → RepL K F H (ds.set i d) (vs.set i v)
  | _, _, _, .nil => .nil
  | _, _, 0, .cons _ t => .cons r t
  | _, _, i + 1, .cons q t => .cons q (RepL.set r i t)
theorem RepL.take : ∀ {ds : List D} {vs : List V} (n : Nat), RepL K F H ds vs → RepL K F H (ds.take n) (vs.take n)
  | _, _, 0, _ => .nil
  | _, _, _ + 1, .nil => .nil
  | _, _, n + 1, .cons r t => .cons r (RepL.take n t)
theorem RepL.drop : ∀ {ds : List D} {vs : List V} (n : Nat), RepL K F H ds vs → RepL K F H (ds.drop n) (vs.drop n)
  | _, _, 0, r => r
  | _, _, _ + 1, .nil => .nil
  | _, _, n + 1, .cons r t => RepL.drop n t
theorem RepL.rep {ds : List D} {vs : List V} (h : RepL K F H ds vs) : ∀ k : Nat, RepL K F H (List.replicate k ds).flatten (List.replicate k vs).flatten
  | 0 => .nil
  | k + 1 => by
    rw [List.replicate_succ, List.replicate_succ, List.flatten_cons, List.flatten_cons]
    exact h.append (RepL.rep h k)
theorem RepL.ints : ∀ {ns : List Int} {ds : List D} {vs : List V}, RepL K F H ds vs → intsOf ds = some ns → vs = ns.map V.int
  | ns, [], [], .nil, e => by simp [intsOf] at e; subst e; rfl
  | ns, .int i :: r, _, .cons (.int _) t, e => by
    simp only [intsOf, Option.map_eq_some_iff] at e
    obtain ⟨ms, e, rfl⟩ := e
    rw [RepL.ints t e]; rfl
theorem RepL.bools : ∀ {ns : List Bool} {ds : List D} {vs : List V}, RepL K F H ds vs → boolsOf ds = some ns → vs = ns.map V.bl
  | ns, [], [], .nil, e => by simp [boolsOf] at e; subst e; rfl
  | ns, .bool i :: r, _, .cons (.bl _) t, e => by
    simp only [boolsOf, Option.map_eq_some_iff] at e
    obtain ⟨ms, e, rfl⟩ := e
    rw [RepL.bools t e]; rfl
theorem RepL.of_ints : ∀ (ns : List Int), RepL K F H (ns.map PyData.int) (ns.map V.int)
  | [] => .nil
  | n :: r => .cons (.int n) (RepL.of_ints r)

/-- a dict's rows -/
inductive RepD (K : PySem.W.Frag) (F : AS) (H : Hp) : List (Key × D) → List (Key × V) → Prop where
  | nil : RepD K F H [] []
  | cons {k : Key} {d : D} {v : V} {ds : List (Key × D)} {vs : List (Key × V)} : Rep K F H d v → RepD K F H ds vs → RepD K F H ((k, d) :: ds) ((k, v) :: vs)
theorem RepD.mono (s : ∀ a, F a → F' a) (k : ∀ a o, F a → H a = some o → H' a = some o) {ds : List (Key × D)} {vs : List (Key × V)} (r : RepD K F H ds vs) : RepD K F' H' ds vs := by
  induction r with
  | nil => exact .nil
  | cons r _ ih => exact .cons (r.mono s k) ih
theorem RepD.ext {ds : List (Key × D)} {vs : List (Key × V)} (r : RepD K F H ds vs) (e : Ext F F' Z H H') : RepD K F' H' ds vs := r.mono e.sub e.kf
theorem RepD.length {ds : List (Key × D)} {vs : List (Key × V)} (r : RepD K F H ds vs) : ds.length = vs.length := by
  induction r with
  | nil => rfl
  | cons _ _ ih => simp [ih]
theorem RepD.val {ds : List (Key × D)} {vs : List (Key × V)} (r : RepD K F H ds vs) (k : Key) : (∀ d, valD ds k = some d → ∃ v, valV vs k = some v ∧ Rep K F H d v) ∧ (valD ds k = none → valV vs k = none) := by
  induction r with
  | nil => exact ⟨fun d h => by simp [valD] at h, fun _ => rfl⟩
  | cons r t ih =>
    rename_i j d v ds vs
    by_cases e : j = k
    · refine ⟨fun x h => ?_, fun h => ?_⟩
      · have : x = d := by simpa [valD, List.find?_cons, e] using h.symm
        subst this
        exact ⟨v, by simp [valV, List.find?_cons, e], r⟩
      · simp [valD, List.find?_cons, e] at h
    · have h1 : valD ((j, d) :: ds) k = valD ds k := by simp [valD, List.find?_cons, e]
      have h2 : valV ((j, v) :: vs) k = valV vs k := by simp [valV, List.find?_cons, e]
      rw [h1, h2]
      exact ih
theorem RepD.any {ds : List (Key × D)} {vs : List (Key × V)} (r : RepD K F H ds vs) (k : Key) : (ds.any fun p => decide (p.1 = k)) = vs.any fun p => decide (p.1 = k) := by
  induction r with
  | nil => rfl
  | cons r t ih => simp [ih]
theorem RepD.put {ds : List (Key × D)} {vs : List (Key × V)} (r : RepD K F H ds vs) (k : Key) {d : D} {v : V} (q : Rep K F H d v) : RepD K F H (putD ds k d) (putK vs k v) := by
  unfold putD putK
  rw [r.any k]
  by_cases h : (vs.any fun p => decide (p.1 = k)) = true
  · rw [if_pos h, if_pos h]
    clear h
    induction r with
    | nil => exact .nil
    | cons r t ih =>
      rename_i j d' v' ds vs
      by_cases e : j = k
      · simp only [List.map_cons, e, if_true]
        exact .cons q ih
      · simp only [List.map_cons, e, if_false]
        exact .cons r ih
  · rw [if_neg h, if_neg h]
    clear h
    induction r with
    | nil => exact .cons q .nil
    | cons r t ih => exact .cons r ih
theorem RepD.ints {ds : List (Key × D)} {vs : List (Key × V)} (r : RepD K F H ds vs) : ∀ {ns : List Int}, keyInts ds = some ns → vs.map (·.1) = ns.map Sum.inl := by
  induction r with
  | nil => intro ns h; simp only [keyInts, Option.some.injEq] at h; subst h; rfl
  | cons r t ih =>
    intro ns h
    rename_i j d v ds vs
    cases j with
    | inl i =>
      simp only [keyInts, Option.map_eq_some_iff] at h
      obtain ⟨ms, h, rfl⟩ := h
      simp [ih h]
    | inr x => simp [keyInts] at h
theorem RepD.get {ds : List (Key × D)} {vs : List (Key × V)} (r : RepD K F H ds vs) : ∀ {i : Nat} {k : Key} {d : D}, ds[i]? = some (k, d) → ∃ v, vs[i]? = some (k, v) ∧ Rep K F H d v := by
  induction r with
  | nil => intro i k d h; simp at h
  | cons r t ih =>
    intro i k d h
    cases i with
    | zero => simp at h; obtain ⟨rfl, rfl⟩ := h; exact ⟨_, rfl, r⟩
    | succ i => simpa using ih (i := i) (by simpa using h)
/-- a slot's value -/
inductive RepO (K : PySem.W.Frag) (F : AS) (H : Hp) : O → V → List Addr → Prop where
  | sh {d : D} {v : V} : Rep K F H d v → RepO K F H (.sh d) v []
  | lst {a : Addr} {vs : List V} {ds : List D} : H a = some (.lst vs) → RepL K F H ds vs → RepO K F H (.lst ds) (.ref a) [a]
  | scr {a : Addr} {ns : List Int} {o : Obj} : F a → H a = some (.frz o (.lst (ns.map V.int))) → RepO K F H (.scr ns) (.ref a) []
  | scrK {a : Addr} {ns : List Int} {o : Obj} {its : Array Value} {n : Nat} : K.lookup a = some o → o.cls = .type "list" → o.dict = none → o.data = .seq its n → its.size ≤ sizeLine → Vals (ns.map V.int) its.toList → RepO K F H (.scr ns) (.ref a) []
  | dct {a : Addr} {vs : List (Key × V)} {ds : List (Key × D)} : H a = some (.dK vs) → RepD K F H ds vs → RepO K F H (.dct ds) (.ref a) [a]
  | fdct {a : Addr} {o : Obj} {vs : List (Key × V)} {ds : List (Key × D)} : F a → H a = some (.frz o (.dK vs)) → RepD K F H ds vs → RepO K F H (.fdct ds) (.ref a) []
theorem RepO.ext {o : O} {v : V} {fp : List Addr} (r : RepO K F H o v fp) (e : Ext F F' Z H H') (hz : ∀ a ∈ fp, H' a = H a) : RepO K F' H' o v fp := by
  cases r with
  | sh r => exact .sh (r.ext e)
  | lst h r => exact .lst (by rw [hz _ (by simp)]; exact h) (r.ext e)
  | scr f h => exact .scr (e.sub _ f) (e.kf _ _ f h)
  | scrK h1 h2 h3 h4 h5 h6 => exact .scrK h1 h2 h3 h4 h5 h6
  | dct h r => exact .dct (by rw [hz _ (by simp)]; exact h) (r.ext e)
  | fdct f h r => exact .fdct (e.sub _ f) (e.kf _ _ f h) (r.ext e)
theorem RepO.alive {o : O} {v : V} {fp : List Addr} (r : RepO K F H o v fp) : ∀ a ∈ fp, H a ≠ none := fun a h => by
  cases r with
  | lst h' _ => simp at h; subst h; rw [h']; simp
  | dct h' _ => simp at h; subst h; rw [h']; simp
  | _ => simp at h
theorem RepO.nodup {o : O} {v : V} {fp : List Addr} (r : RepO K F H o v fp) : fp.Nodup := by
  cases r <;> simp

def Zp (Z : AS) (l : List Addr) : AS := fun a => Z a ∨ a ∈ l
/-- the slots' values; fp: what each slot holds alone -/
structure GoodW (K : PySem.W.Frag) (F Z : AS) (H : Hp) (ρ : Ev) (σ : St) (fp : Nat → List Addr) : Prop where
  len : ρ.length = σ.length
  rep : ∀ i o, ρ[i]? = some (some o) → ∃ v, σ[i]? = some (some v) ∧ RepO K F H o v (fp i)
  dis : ∀ i j a, i ≠ j → a ∈ fp i → a ∉ fp j
  fa : ∀ i a, a ∈ fp i → H a ≠ none
  ff : ∀ i a, a ∈ fp i → ¬ F a
  fz : ∀ i a, a ∈ fp i → ¬ Z a
  al : ∀ a, F a → H a ≠ none
  zf : ∀ a, F a → ¬ Z a
  za : ∀ a, Z a → H a ≠ none
def Good (K : PySem.W.Frag) (F Z : AS) (H : Hp) (ρ : Ev) (σ : St) : Prop := ∃ fp, GoodW K F Z H ρ σ fp
variable {ρ ρ' : Ev} {σ : St}
theorem Good.less (g : Good K F Z H ρ σ) (h : ∀ a, Z' a → Z a) : Good K F Z' H ρ σ := by
  obtain ⟨fp, g⟩ := g
  exact ⟨fp, g.len, g.rep, g.dis, g.fa, g.ff, fun i a m z => g.fz i a m (h a z), g.al, fun a f z => g.zf a f (h a z), fun a z => g.za a (h a z)⟩
/-- a slot stored -/
theorem Good.put {o : O} {v : V} {l : List Addr} (g : Good K F (Zp Z l) H ρ σ) (r : RepO K F H o v l) (hz : ∀ a ∈ l, ¬ Z a) (i : Nat) : Good K F Z H (ρ.set i (some o)) (σ.set i (some v)) := by
  obtain ⟨fp, g⟩ := g
  refine ⟨fun j => if j = i then l else fp j, by simpa using g.len, fun j u e => ?_, fun j k a hjk h1 h2 => ?_, fun j a h => ?_, fun j a h => ?_, fun j a h => ?_, g.al, fun a f z => g.zf a f (.inl z), fun a z => g.za a (.inl z)⟩
  · by_cases hj : j = i
    · subst hj
      have hl : j < ρ.length := by
        have := (List.getElem?_eq_some_iff.mp e).1
        simpa using this
      rw [List.getElem?_set_self hl] at e
      cases e
      exact ⟨v, by rw [List.getElem?_set_self (by rw [← g.len]; exact hl)], by simpa using r⟩
    · rw [List.getElem?_set_ne (Ne.symm hj)] at e
      obtain ⟨w, h1, h2⟩ := g.rep j u e
      exact ⟨w, by rw [List.getElem?_set_ne (Ne.symm hj)]; exact h1, by simpa [hj] using h2⟩
  · by_cases hj : j = i
    · have hk : k ≠ i := fun q => hjk (hj.trans q.symm)
      simp only [hj, hk, if_true, if_false] at h1 h2
      exact g.fz k a h2 (.inr h1)
    · by_cases hk : k = i
      · simp only [hj, hk, if_true, if_false] at h1 h2
        exact g.fz j a h1 (.inr h2)
      · simp only [hj, hk, if_false] at h1 h2
        exact g.dis j k a hjk h1 h2
  · by_cases hj : j = i
    · simp only [hj, if_true] at h
      exact r.alive a h
    · simp only [hj, if_false] at h
      exact g.fa j a h
  · by_cases hj : j = i
    · simp only [hj, if_true] at h
      exact fun f => g.zf a f (.inr h)
    · simp only [hj, if_false] at h
      exact g.ff j a h
  · by_cases hj : j = i
    · simp only [hj, if_true] at h
      exact hz a h
    · simp only [hj, if_false] at h
      exact fun z => g.fz j a h (.inl z)
/-- a slot taken out -/
theorem Good.take {o : O} {i : Nat} (g : Good K F Z H ρ σ) (e : ρ[i]? = some (some o)) : ∃ v l, σ[i]? = some (some v) ∧ RepO K F H o v l ∧ (∀ a ∈ l, ¬ Z a) ∧ Good K F (Zp Z l) H (ρ.set i none) σ := by
  obtain ⟨fp, g⟩ := g
  obtain ⟨v, h1, h2⟩ := g.rep i o e
  refine ⟨v, fp i, h1, h2, fun a h => g.fz i a h, fun j => if j = i then [] else fp j, by simpa using g.len, fun j u q => ?_, fun j k a hjk h1 h2 => ?_, fun j a h => ?_, fun j a h => ?_, fun j a h => ?_, g.al, fun a f z => ?_, fun a z => ?_⟩
  · by_cases hj : j = i
    · subst hj
      have hl : j < ρ.length := (List.getElem?_eq_some_iff.mp e).1
      rw [List.getElem?_set_self hl] at q
      cases q
    · rw [List.getElem?_set_ne (Ne.symm hj)] at q
      obtain ⟨w, k1, k2⟩ := g.rep j u q
      exact ⟨w, k1, by simpa [hj] using k2⟩
  · by_cases hj : j = i
    · simp [hj] at h1
    · by_cases hk : k = i
      · simp [hk] at h2
      · simp only [hj, hk, if_false] at h1 h2
        exact g.dis j k a hjk h1 h2
  · by_cases hj : j = i
    · simp [hj] at h
    · simp only [hj, if_false] at h
      exact g.fa j a h
  · by_cases hj : j = i
    · simp [hj] at h
    · simp only [hj, if_false] at h
      exact g.ff j a h
  · by_cases hj : j = i
    · simp [hj] at h
    · simp only [hj, if_false] at h
      rintro (z | z)
      · exact g.fz j a h z
      · exact g.dis j i a hj h z
  · rcases z with z | z
    · exact g.zf a f z
    · exact g.ff i a z f
  · rcases z with z | z
    · exact g.za a z
    · exact g.fa i a z
/-- a slot forgotten -/
theorem Good.drop (g : Good K F Z H ρ σ) (i : Nat) (x : Option V) : Good K F Z H (ρ.set i none) (σ.set i x) := by
  obtain ⟨fp, g⟩ := g
  refine ⟨fp, by simpa using g.len, fun j u q => ?_, g.dis, g.fa, g.ff, g.fz, g.al, g.zf, g.za⟩
  by_cases hj : j = i
  · subst hj
    by_cases hl : j < ρ.length
    · rw [List.getElem?_set_self hl] at q; cases q
    · rw [List.getElem?_eq_none (by simpa using hl)] at q; cases q
  · rw [List.getElem?_set_ne (Ne.symm hj)] at q
    rw [List.getElem?_set_ne (Ne.symm hj)]
    exact g.rep j u q
theorem Good.drop' (g : Good K F Z H ρ σ) (i : Nat) : Good K F Z H (ρ.set i none) σ := by
  obtain ⟨fp, g⟩ := g
  refine ⟨fp, by simpa using g.len, fun j u q => ?_, g.dis, g.fa, g.ff, g.fz, g.al, g.zf, g.za⟩
  by_cases hj : j = i
  · subst hj
    by_cases hl : j < ρ.length
    · rw [List.getElem?_set_self hl] at q; cases q
    · rw [List.getElem?_eq_none (by simpa using hl)] at q; cases q
  · rw [List.getElem?_set_ne (Ne.symm hj)] at q
    exact g.rep j u q
theorem Good.get {o : O} {i : Nat} (g : Good K F Z H ρ σ) (e : ρ[i]? = some (some o)) : ∃ v l, σ[i]? = some (some v) ∧ RepO K F H o v l := by
  obtain ⟨fp, g⟩ := g
  obtain ⟨v, h1, h2⟩ := g.rep i o e
  exact ⟨v, fp i, h1, h2⟩
/-- the heap changed where the slots do not look -/
theorem Good.ext (g : Good K F Z H ρ σ) (e : Ext F F' Z H H') (hk : ∀ a, H a ≠ none → ¬ F a → ¬ Z a → H' a = H a) (al : ∀ a, F' a → H' a ≠ none) (nw : ∀ a, F' a → ¬ F a → H a = none) : Good K F' Z H' ρ σ := by
  obtain ⟨fp, g⟩ := g
  have kp : ∀ i a, a ∈ fp i → H' a = H a := fun i a h => hk a (g.fa i a h) (g.ff i a h) (g.fz i a h)
  refine ⟨fp, g.len, fun i o q => ?_, g.dis, fun i a h => ?_, fun i a h f => ?_, g.fz, al, fun a f z => ?_, fun a z => ?_⟩
  · obtain ⟨v, h1, h2⟩ := g.rep i o q
    exact ⟨v, h1, h2.ext e fun a h => kp i a h⟩
  · rw [kp i a h]; exact g.fa i a h
  · exact g.fa i a h (nw a f (g.ff i a h))
  · by_cases h : F a
    · exact g.zf a h z
    · exact g.za a z (nw a f h)
  · rw [e.kz a z]; exact g.za a z
/-- a new object that the temporary alone holds -/
theorem Good.new {p : Addr} {ob : HO} (g : Good K F Z H ρ σ) (hp : H p = none) : Ext F F Z H (upd H p ob) ∧ Good K F (Zp Z [p]) (upd H p ob) ρ σ ∧ ¬ Z p := by
  have nz : ¬ Z p := fun z => by obtain ⟨fp, g⟩ := g; exact g.za p z hp
  have nf : ¬ F p := fun f => by obtain ⟨fp, g⟩ := g; exact g.al p f hp
  have e : Ext F F Z H (upd H p ob) := ⟨fun _ h => h, fun a o f h => by rw [upd_ne (ne_of_none h hp)]; exact h, fun a z => upd_ne fun q => nz (q ▸ z)⟩
  refine ⟨e, ?_, nz⟩
  have g' : Good K F Z (upd H p ob) ρ σ := g.ext e (fun a h _ _ => upd_ne fun q => h (q ▸ hp)) (fun a f => by
    obtain ⟨fp, g⟩ := g
    by_cases q : a = p
    · rw [q, upd_same]; simp
    · rw [upd_ne q]; exact g.al a f) (fun a f h => (h f).elim)
  obtain ⟨fp, g'⟩ := g'
  obtain ⟨fp0, g0⟩ := g
  have : ∃ fp, GoodW K F Z (upd H p ob) ρ σ fp ∧ ∀ i, p ∉ fp i := by
    refine ⟨fp0, ⟨g0.len, fun i o q => ?_, g0.dis, fun i a h => ?_, g0.ff, g0.fz, g'.al, g'.zf, g'.za⟩, fun i h => g0.fa i p h hp⟩
    · obtain ⟨v, h1, h2⟩ := g0.rep i o q
      exact ⟨v, h1, h2.ext e fun a h => upd_ne fun (z : a = p) => g0.fa i a h (by rw [z]; exact hp)⟩
    · rw [upd_ne fun (z : a = p) => g0.fa i a h (by rw [z]; exact hp)]; exact g0.fa i a h
  obtain ⟨fq, gq, hq⟩ := this
  refine ⟨fq, gq.len, gq.rep, gq.dis, gq.fa, gq.ff, fun i a h => ?_, gq.al, fun a f => ?_, fun a z => ?_⟩
  · rintro (z | z)
    · exact gq.fz i a h z
    · simp at z; subst z; exact hq i h
  · rintro (z | z)
    · exact gq.zf a f z
    · simp at z; subst z; exact nf f
  · rcases z with z | z
    · exact gq.za a z
    · simp at z; subst z; rw [upd_same]; simp
/-- a new object that is shared -/
theorem Good.newF {p : Addr} {ob : HO} (g : Good K F Z H ρ σ) (hp : H p = none) : Ext F (fun a => F a ∨ a = p) Z H (upd H p ob) ∧ Good K (fun a => F a ∨ a = p) Z (upd H p ob) ρ σ := by
  have nz : ¬ Z p := fun z => by obtain ⟨fp, g⟩ := g; exact g.za p z hp
  have e : Ext F (fun a => F a ∨ a = p) Z H (upd H p ob) := ⟨fun _ h => .inl h, fun a o f h => by rw [upd_ne (ne_of_none h hp)]; exact h, fun a z => upd_ne fun q => nz (q ▸ z)⟩
  refine ⟨e, g.ext e (fun a h _ _ => upd_ne fun q => h (q ▸ hp)) (fun a f => ?_) (fun a f h => ?_)⟩
  · by_cases q : a = p
    · rw [q, upd_same]; simp
    · rw [upd_ne q]
      rcases f with f | f
      · obtain ⟨fp, g⟩ := g
        exact g.al a f
      · exact (q f).elim
  · rcases f with f | f
    · exact (h f).elim
    · rw [f]; exact hp
/-- a temporary is shared from now on -/
theorem Good.share {l : List Addr} (g : Good K F (Zp Z l) H ρ σ) (hz : ∀ a ∈ l, ¬ Z a) : Ext F (fun a => F a ∨ a ∈ l) Z H H ∧ Good K (fun a => F a ∨ a ∈ l) Z H ρ σ := by
  have e : Ext F (fun a => F a ∨ a ∈ l) Z H H := ⟨fun _ h => .inl h, fun _ _ _ h => h, fun _ _ => rfl⟩
  obtain ⟨fp, g⟩ := g
  refine ⟨e, fp, g.len, fun i o q => ?_, g.dis, g.fa, fun i a h => ?_, fun i a h z => g.fz i a h (.inl z), fun a f => ?_, fun a f z => ?_, fun a z => g.za a (.inl z)⟩
  · obtain ⟨v, h1, h2⟩ := g.rep i o q
    exact ⟨v, h1, h2.ext e fun _ _ => rfl⟩
  · rintro (f | f)
    · exact g.ff i a h f
    · exact g.fz i a h (.inr f)
  · rcases f with f | f
    · exact g.al a f
    · exact g.za a (.inr f)
  · rcases f with f | f
    · exact g.zf a f (.inl z)
    · exact hz a f z
/-- what a value is once it is shared -/
theorem RepO.shared {o : O} {v : V} {l : List Addr} {d : D} (r : RepO K F H o v l) (h : o.fz = some d) (e : Ext F F' Z H H) (hl : ∀ a ∈ l, F' a) : Rep K F' H d v := by
  cases r with
  | sh r => simp only [O.fz, Option.some.injEq] at h; subst h; exact r.ext e
  | lst h' r => simp only [O.fz, Option.some.injEq] at h; subst h; exact .lst (hl _ (by simp)) h' (r.ext e)
  | _ => simp [O.fz] at h
end
end Vx

/-! Vx, part C: the prims are right. -/
namespace Vx
open PySem L2

/-- what is wanted of a prim's result -/
def Done (K : PySem.W.Frag) (F Z : AS) (H : Hp) (ρ : Ev) (σ : St) (o : O) (Q : VK) : Prop :=
  ∀ v H' F' l, Ext F F' Z H H' → Good K F' (Zp Z l) H' ρ σ → RepO K F' H' o v l → (∀ a ∈ l, ¬ Z a) → Q v H'
section
variable {K : PySem.W.Frag} {F F' Z Z' : AS} {H H' : Hp} {ρ : Ev} {σ : St} {o : O} {Q : VK}
theorem Good.nil (g : Good K F Z H ρ σ) : Good K F (Zp Z []) H ρ σ := g.less fun a z => z.elim id fun h => by simp at h
theorem Done.same {v : V} (d : Done K F Z H ρ σ o Q) (g : Good K F Z H ρ σ) (r : RepO K F H o v []) : Q v H := d v H F [] .refl g.nil r (fun _ h => by simp at h)
theorem Done.int {i : Int} (d : Done K F Z H ρ σ (.sh (.int i)) Q) (g : Good K F Z H ρ σ) : Q (.int i) H := d.same g (.sh (.int i))
theorem Done.bl {i : Bool} (d : Done K F Z H ρ σ (.sh (.bool i)) Q) (g : Good K F Z H ρ σ) : Q (.bl i) H := d.same g (.sh (.bl i))
theorem Done.str {i : Str} (d : Done K F Z H ρ σ (.sh (.str i)) Q) (g : Good K F Z H ρ σ) : Q (.str i) H := d.same g (.sh (.str i))
theorem Done.lst {ds : List D} {vs : List V} (d : Done K F Z H ρ σ (.lst ds) Q) (g : Good K F Z H ρ σ) (r : RepL K F H ds vs) : ∀ p, H p = none → Q (.ref p) (upd H p (.lst vs)) := fun p hp => by
  obtain ⟨e, g', nz⟩ := g.new (ob := .lst vs) hp
  exact d _ _ _ [p] e g' (.lst upd_same (r.ext e)) (fun a h => by simp at h; subst h; exact nz)
theorem Done.tup {ds : List D} {vs : List V} (d : Done K F Z H ρ σ (.sh (.tuple ds)) Q) (g : Good K F Z H ρ σ) (r : RepL K F H ds vs) : ∀ p, H p = none → Q (.ref p) (upd H p (.tup vs)) := fun p hp => by
  obtain ⟨e, g'⟩ := g.newF (ob := .tup vs) hp
  exact d _ _ _ [] e g'.nil (.sh (.tup (.inr rfl) upd_same (r.ext e))) (fun a h => by simp at h)

/-! ### what a slot's value is, by its data -/
theorem RepO.asL {v : V} {l : List Addr} {ds : List D} (r : RepO K F H o v l) (h : o.asL = some ds) : ∃ a vs, v = .ref a ∧ H a = some (.lst vs) ∧ RepL K F H ds vs := by
  cases r with
  | sh r =>
    cases r with
    | lst f e r => simp only [O.asL, Option.some.injEq] at h; subst h; exact ⟨_, _, rfl, e, r⟩
    | _ => simp [O.asL] at h
  | lst e r => simp only [O.asL, Option.some.injEq] at h; subst h; exact ⟨_, _, rfl, e, r⟩
  | _ => simp [O.asL] at h
theorem RepO.asLs {v : V} {l : List Addr} {ds : List D} (r : RepO K F H o v l) (h : o.asLs = some ds) : ∃ a vs, v = .ref a ∧ SqL K H a vs ∧ RepL K F H ds vs := by
  cases r with
  | sh r =>
    cases r with
    | lst f e r => simp only [O.asLs, Option.some.injEq] at h; subst h; exact ⟨_, _, rfl, .inl (.inl e), r⟩
    | _ => simp [O.asLs] at h
  | lst e r => simp only [O.asLs, Option.some.injEq] at h; subst h; exact ⟨_, _, rfl, .inl (.inl e), r⟩
  | scr f e => simp only [O.asLs, Option.some.injEq] at h; subst h; exact ⟨_, _, rfl, .inl (.inr ⟨_, e⟩), RepL.of_ints _⟩
  | scrK h1 h2 h3 h4 h5 h6 => simp only [O.asLs, Option.some.injEq] at h; subst h; exact ⟨_, _, rfl, .inr ⟨_, _, _, h1, h2, h3, h4, h5, h6⟩, RepL.of_ints _⟩
  | dct _ _ => simp [O.asLs] at h
  | fdct _ _ _ => simp [O.asLs] at h
theorem Rep.tup_ {v : V} {ds : List D} (r : Rep K F H (.tuple ds) v) : ∃ a vs, v = .ref a ∧ SqT K H a vs ∧ RepL K F H ds vs := by
  cases r with
  | tup f e r => exact ⟨_, _, rfl, .inl (.inl e), r⟩
  | tupK h1 h2 h3 h4 h5 r => exact ⟨_, _, rfl, .inr ⟨_, _, _, h1, h2, h3, h4, h5⟩, r⟩
theorem RepO.asT {v : V} {l : List Addr} {ds : List D} (r : RepO K F H o v l) (h : o.asT = some ds) : ∃ a vs, v = .ref a ∧ SqT K H a vs ∧ RepL K F H ds vs := by
  cases r with
  | sh r =>
    rename_i d
    cases d <;> simp only [O.asT, Option.some.injEq, reduceCtorEq] at h
    subst h
    exact r.tup_
  | _ => simp [O.asT] at h
theorem RepO.asQ {v : V} {l : List Addr} {ds : List D} (r : RepO K F H o v l) (h : o.asQ = some ds) : ∃ a vs, v = .ref a ∧ (SqL K H a vs ∨ SqT K H a vs) ∧ RepL K F H ds vs := by
  unfold O.asQ at h
  cases e : o.asLs with
  | some es =>
    rw [e] at h
    simp only [Option.some.injEq] at h
    subst h
    obtain ⟨a, vs, h1, h2, h3⟩ := r.asLs e
    exact ⟨a, vs, h1, .inl h2, h3⟩
  | none =>
    rw [e] at h
    obtain ⟨a, vs, h1, h2, h3⟩ := r.asT h
    exact ⟨a, vs, h1, .inr h2, h3⟩
theorem RepO.int_ {v : V} {l : List Addr} {i : Int} (r : RepO K F H (.sh (.int i)) v l) : v = .int i ∧ l = [] := by
  cases r with | sh r => cases r; exact ⟨rfl, rfl⟩
theorem RepO.str_ {v : V} {l : List Addr} {i : Str} (r : RepO K F H (.sh (.str i)) v l) : v = .str i ∧ l = [] := by
  cases r with | sh r => cases r; exact ⟨rfl, rfl⟩
theorem RepO.bool_ {v : V} {l : List Addr} {i : Bool} (r : RepO K F H (.sh (.bool i)) v l) : v = .bl i ∧ l = [] := by
  cases r with | sh r => cases r; exact ⟨rfl, rfl⟩
theorem RepO.none_ {v : V} {l : List Addr} (r : RepO K F H (.sh .none) v l) : v = .non ∧ l = [] := by
  cases r with | sh r => cases r; exact ⟨rfl, rfl⟩

mutual
theorem Rep.dp : ∀ {d : D} {v : V}, Rep K F H d v → Dp K H v d
  | _, _, .non => .non
  | _, _, .bl b => .bl b
  | _, _, .int i => .int i
  | _, _, .str x => .str x
  | _, _, .lst f h r => .lst (.inl (.inl h)) (RepL.dp r)
  | _, _, .tup f h r => .tup (.inl (.inl h)) (RepL.dp r)
  | _, _, .tupK h1 h2 h3 h4 h5 r => .tup (.inr ⟨_, _, _, h1, h2, h3, h4, h5⟩) (RepL.dp r)
theorem RepL.dp : ∀ {ds : List D} {vs : List V}, RepL K F H ds vs → DpAll K H vs ds
  | _, _, .nil => .nil
  | _, _, .cons r t => .cons (Rep.dp r) (RepL.dp t)
end
theorem RepO.dp {v : V} {l : List Addr} {d : D} (r : RepO K F H o v l) (h : o.data = some d) : Dp K H v d := by
  cases r with
  | sh r => simp only [O.data, Option.some.injEq] at h; subst h; exact r.dp
  | lst e r => simp only [O.data, Option.some.injEq] at h; subst h; exact .lst (.inl (.inl e)) r.dp
  | scr f e => simp only [O.data, Option.some.injEq] at h; subst h; exact .lst (.inl (.inr ⟨_, e⟩)) (RepL.of_ints (F := F) _).dp
  | scrK h1 h2 h3 h4 h5 h6 => simp only [O.data, Option.some.injEq] at h; subst h; exact .lst (.inr ⟨_, _, _, h1, h2, h3, h4, h5, h6⟩) (RepL.of_ints (F := F) _).dp
  | dct _ _ => simp [O.data] at h
  | fdct _ _ _ => simp [O.data] at h
end

theorem OpR_imp {X : Cx} {f : Value → Value → Sem Value} {r r' : R2} (h : OpR X f r) (i : ∀ x y H Q, r' x y H Q → r x y H Q) : OpR X f r' :=
  fun pins s σ H x y v u Q I rx ry q => h pins s σ H x y v u Q I rx ry (i x y H Q q)
theorem CallR_imp {X : Cx} {f : Value} {r r' : List V → Hp → VK → Prop} (h : CallR X f r) (i : ∀ x H Q, r' x H Q → r x H Q) : CallR X f r' :=
  fun pins s σ H x v Q I rx q => h pins s σ H x v Q I rx (i x H Q q)
theorem IxR_imp {X : Cx} {r r' : R2} (h : IxR X r) (i : ∀ x y H Q, r' x y H Q → r x y H Q) : IxR X r' :=
  fun va sl pins s σ H x y v u Q I rx ry q e => h va sl pins s σ H x y v u Q I rx ry (i _ _ _ _ q) e

/-- two values, a prim -/
def rV2 (K : PySem.W.Frag) (p : O → O → Option O) : R2 := fun x y H Q => ∃ F Z ρ σ o u w l m, Good K F Z H ρ σ ∧ RepO K F H o x l ∧ RepO K F H u y m ∧ p o u = some w ∧ Done K F Z H ρ σ w Q
def rV1 (K : PySem.W.Frag) (p : O → Option O) : V → Hp → VK → Prop := fun x H Q => ∃ F Z ρ σ o w l, Good K F Z H ρ σ ∧ RepO K F H o x l ∧ p o = some w ∧ Done K F Z H ρ σ w Q
def rL1 (K : PySem.W.Frag) (p : O → Option O) : List V → Hp → VK → Prop := fun xs H Q => ∃ x, xs = [x] ∧ rV1 K p x H Q
def rL2 (K : PySem.W.Frag) (p : O → O → Option O) : List V → Hp → VK → Prop := fun xs H Q => ∃ x y, xs = [x, y] ∧ rV2 K p x y H Q

section
variable {X : Cx}
theorem ok_add : OpR X (binaryOp .Add) (rV2 X.K pAdd) := by
  refine OpR_imp (op_add.or (op_add_str.or (op_catA.or op_cat))) ?_
  rintro x y H Q ⟨F, Z, ρ, σ, o, u, w, l, m, g, r1, r2, h, d⟩
  unfold pAdd at h
  split at h
  · obtain ⟨rfl, _⟩ := r1.int_
    obtain ⟨rfl, _⟩ := r2.int_
    cases h
    exact .inl ⟨_, _, rfl, rfl, d.int g⟩
  · obtain ⟨rfl, _⟩ := r1.str_
    obtain ⟨rfl, _⟩ := r2.str_
    split at h
    · rename_i hl
      cases h
      exact .inr (.inl ⟨_, _, rfl, rfl, of_decide_eq_true hl, d.str g⟩)
    · cases h
  · rename_i xs ys
    split at h
    · rename_i hl
      cases h
      obtain ⟨a, vs, rfl, h1, h2⟩ := r1.asT (ds := xs) rfl
      obtain ⟨b, ws, rfl, h3, h4⟩ := r2.asT (ds := ys) rfl
      have e1 := h2.length
      have e2 := h4.length
      have hl2 := of_decide_eq_true hl
      refine .inr (.inr (.inl ⟨a, b, vs, ws, rfl, rfl, h1, h3, by rw [← e1, ← e2]; exact hl2, fun z => ?_, fun _ z => ?_, fun _ _ => d.tup g (h2.append h4)⟩))
      · subst z
        have : xs = [] := List.length_eq_zero_iff.mp e1
        subst this
        exact d.same g (by cases r2 with | sh r => exact .sh r)
      · subst z
        have : ys = [] := List.length_eq_zero_iff.mp e2
        subst this
        rw [List.append_nil] at d
        exact d.same g (by cases r1 with | sh r => exact .sh r)
    · cases h
  · simp only [Option.bind_eq_some_iff] at h
    obtain ⟨xs, e1, ys, e2, h⟩ := h
    split at h
    · rename_i hl
      cases h
      obtain ⟨a, vs, rfl, h1, h2⟩ := r1.asL e1
      obtain ⟨b, ws, rfl, h3, h4⟩ := r2.asL e2
      have l1 := h2.length
      have l2 := h4.length
      exact .inr (.inr (.inr ⟨a, b, vs, ws, rfl, rfl, h1, h3, by rw [← l1, ← l2]; exact of_decide_eq_true hl, d.lst g (h2.append h4)⟩))
    · cases h
theorem ok_sub : OpR X (binaryOp .Sub) (rV2 X.K pSub) := by
  refine OpR_imp op_sub ?_
  rintro x y H Q ⟨F, Z, ρ, σ, o, u, w, l, m, g, r1, r2, h, d⟩
  unfold pSub at h
  split at h
  · obtain ⟨rfl, _⟩ := r1.int_
    obtain ⟨rfl, _⟩ := r2.int_
    cases h
    exact ⟨_, _, rfl, rfl, d.int g⟩
  · cases h
theorem big_log {i : Int} (h : bigOk i = true) : i.natAbs.log2 < 4000 := by
  have h := of_decide_eq_true h
  unfold big at h
  by_cases z : i.natAbs = 0
  · rw [z]; simp
  · exact (Nat.log2_lt z).mpr h
theorem ok_mul : OpR X (binaryOp .Mult) (rV2 X.K pMul) := by
  refine OpR_imp (op_mulW.or op_rep) ?_
  rintro x y H Q ⟨F, Z, ρ, σ, o, u, w, l, m, g, r1, r2, h, d⟩
  unfold pMul at h
  split at h
  · obtain ⟨rfl, _⟩ := r1.int_
    obtain ⟨rfl, _⟩ := r2.int_
    split at h
    · rename_i hb
      simp only [Bool.and_eq_true] at hb
      cases h
      refine .inl ⟨_, _, rfl, rfl, ?_, d.int g⟩
      have h1 := big_log hb.1
      have h2 := big_log hb.2
      show _ + _ < _
      omega
    · cases h
  · simp only [Option.bind_eq_some_iff] at h
    obtain ⟨xs, e1, h⟩ := h
    obtain ⟨rfl, _⟩ := r2.int_
    split at h
    · rename_i hl
      simp only [Bool.and_eq_true] at hl
      cases h
      obtain ⟨a, vs, rfl, h1, h2⟩ := r1.asL e1
      have l1 := h2.length
      have hk := hl.1
      unfold i62 at hk
      simp only [Bool.and_eq_true, decide_eq_true_eq] at hk
      exact .inr ⟨a, _, vs, rfl, rfl, h1, by omega, by omega, by rw [← l1]; exact of_decide_eq_true hl.2, d.lst g (h2.rep _)⟩
    · cases h
  · cases h
theorem op_fdivA : OpR X (binaryOp .FloorDiv) (rI (fun _ j => j ≠ 0 ∧ j.natAbs.log2 < 9000) fun i j => .int (i.fdiv j)) :=
  opI fun _ _ _ _ _ _ _ hc q => PyProof.Rows.floordiv_int hc.1 q (.inl (PyProof.noPylong_of_log2 hc.2))
theorem ok_fdiv : OpR X (binaryOp .FloorDiv) (rV2 X.K pFdiv) := by
  refine OpR_imp op_fdivA ?_
  rintro x y H Q ⟨F, Z, ρ, σ, o, u, w, l, m, g, r1, r2, h, d⟩
  unfold pFdiv at h
  split at h
  · obtain ⟨rfl, _⟩ := r1.int_
    obtain ⟨rfl, _⟩ := r2.int_
    split at h
    · rename_i hb
      simp only [Bool.and_eq_true, decide_eq_true_eq] at hb
      cases h
      have h2 := big_log hb.2
      exact ⟨_, _, rfl, rfl, ⟨hb.1, by omega⟩, d.int g⟩
    · cases h
  · cases h
theorem ok_mod : OpR X (binaryOp .Mod) (rV2 X.K pMod) := by
  refine OpR_imp op_modN ?_
  rintro x y H Q ⟨F, Z, ρ, σ, o, u, w, l, m, g, r1, r2, h, d⟩
  unfold pMod at h
  split at h
  · obtain ⟨rfl, _⟩ := r1.int_
    obtain ⟨rfl, _⟩ := r2.int_
    split at h
    · rename_i hb
      cases h
      exact ⟨_, _, rfl, rfl, of_decide_eq_true hb, d.int g⟩
    · cases h
  · cases h
theorem ok_pow : OpR X (binaryOp .Pow) (rV2 X.K pPow) := by
  refine OpR_imp op_pow ?_
  rintro x y H Q ⟨F, Z, ρ, σ, o, u, w, l, m, g, r1, r2, h, d⟩
  unfold pPow at h
  split at h
  · obtain ⟨rfl, _⟩ := r1.int_
    obtain ⟨rfl, _⟩ := r2.int_
    split at h
    · rename_i hb
      simp only [Bool.and_eq_true, decide_eq_true_eq] at hb
      cases h
      exact ⟨_, _, rfl, rfl, ⟨hb.1.1, by omega, by omega⟩, d.int g⟩
    · cases h
  · cases h
theorem ok_lt : OpR X (compareOp .Lt) (rV2 X.K pLt) := by
  refine OpR_imp op_lt ?_
  rintro x y H Q ⟨F, Z, ρ, σ, o, u, w, l, m, g, r1, r2, h, d⟩
  unfold pLt at h
  split at h
  · obtain ⟨rfl, _⟩ := r1.int_
    obtain ⟨rfl, _⟩ := r2.int_
    cases h
    exact ⟨_, _, rfl, rfl, d.bl g⟩
  · cases h
theorem ok_le : OpR X (compareOp .LtE) (rV2 X.K pLe) := by
  refine OpR_imp op_le ?_
  rintro x y H Q ⟨F, Z, ρ, σ, o, u, w, l, m, g, r1, r2, h, d⟩
  unfold pLe at h
  split at h
  · obtain ⟨rfl, _⟩ := r1.int_
    obtain ⟨rfl, _⟩ := r2.int_
    cases h
    exact ⟨_, _, rfl, rfl, d.bl g⟩
  · cases h
theorem ok_gt : OpR X (compareOp .Gt) (rV2 X.K pGt) := by
  refine OpR_imp op_gt ?_
  rintro x y H Q ⟨F, Z, ρ, σ, o, u, w, l, m, g, r1, r2, h, d⟩
  unfold pGt at h
  split at h
  · obtain ⟨rfl, _⟩ := r1.int_
    obtain ⟨rfl, _⟩ := r2.int_
    cases h
    exact ⟨_, _, rfl, rfl, d.bl g⟩
  · cases h
theorem ok_ge : OpR X (compareOp .GtE) (rV2 X.K pGe) := by
  refine OpR_imp op_ge ?_
  rintro x y H Q ⟨F, Z, ρ, σ, o, u, w, l, m, g, r1, r2, h, d⟩
  unfold pGe at h
  split at h
  · obtain ⟨rfl, _⟩ := r1.int_
    obtain ⟨rfl, _⟩ := r2.int_
    cases h
    exact ⟨_, _, rfl, rfl, d.bl g⟩
  · cases h
theorem dpNon {K : PySem.W.Frag} {H : Hp} {v : V} (h : Dp K H v .none) : v = .non := by cases h; rfl
theorem dpInt {K : PySem.W.Frag} {H : Hp} {v : V} {i : Int} (h : Dp K H v (.int i)) : v = .int i := by cases h; rfl
theorem dpBl {K : PySem.W.Frag} {H : Hp} {v : V} {i : Bool} (h : Dp K H v (.bool i)) : v = .bl i := by cases h; rfl
theorem dpStr {K : PySem.W.Frag} {H : Hp} {v : V} {i : Str} (h : Dp K H v (.str i)) : v = .str i := by cases h; rfl
theorem dec_of {a b : V} {p : Prop} [Decidable p] (h : a = b ↔ p) : decide (a = b) = decide p := by
  by_cases q : p
  · rw [decide_eq_true q, decide_eq_true (h.mpr q)]
  · rw [decide_eq_false q, decide_eq_false (fun z => q (h.mp z))]
theorem eqD_ok {K : PySem.W.Frag} {H : Hp} {x y : V} {a b : D} {k : Bool} {Q : VK} (h1 : Dp K H x a) (h2 : Dp K H y b) (h : eqD a b = some k) (neg : Bool) (q : Q (.bl (neg ^^ k)) H) :
    (if neg then rNe else rEq) x y H Q ∨ (if neg then rNeD K else rEqD K) x y H Q := by
  have fin : ∀ {d e : D}, Dp K H x d → Dp K H y e → (if SeqAt.shaped d && SeqAt.shaped e then some (PyData.eqv d e) else none) = some k → (if neg then rNe else rEq) x y H Q ∨ (if neg then rNeD K else rEqD K) x y H Q := fun {d e} r1 r2 z => by
    split at z
    · rename_i hs
      simp only [Bool.and_eq_true] at hs
      cases z
      right
      cases neg
      · exact ⟨d, e, r1, r2, hs.1, hs.2, by simpa using q⟩
      · exact ⟨d, e, r1, r2, hs.1, hs.2, by simpa using q⟩
    · cases z
  have sc : scal x y = true → decide (x = y) = k → (if neg then rNe else rEq) x y H Q ∨ (if neg then rNeD K else rEqD K) x y H Q := fun s e => by
    left
    subst e
    cases neg
    · exact ⟨s, by simpa using q⟩
    · exact ⟨s, by simpa using q⟩
  unfold eqD at h
  split at h
  all_goals first
    | exact fin h1 h2 h
    | (first
        | (have e1 := dpNon h1; subst e1)
        | (have e1 := dpInt h1; subst e1)
        | (have e1 := dpBl h1; subst e1)
        | (have e1 := dpStr h1; subst e1))
      (first
        | (have e2 := dpNon h2; subst e2)
        | (have e2 := dpInt h2; subst e2)
        | (have e2 := dpBl h2; subst e2)
        | (have e2 := dpStr h2; subst e2))
      (cases h; exact sc rfl (by simp))
theorem ok_eq (hu : X.A.units + 64 < cLine) : OpR X (compareOp .Eq) (rV2 X.K pEq) := by
  refine OpR_imp (op_eq.or (op_eqD hu)) ?_
  rintro x y H Q ⟨F, Z, ρ, σ, o, u, w, l, m, g, r1, r2, h, d⟩
  unfold pEq at h
  simp only [Option.bind_eq_some_iff] at h
  obtain ⟨a, e1, b, e2, k, e3, h⟩ := h
  cases h
  exact eqD_ok (r1.dp e1) (r2.dp e2) e3 false (by simpa using d.bl g)
theorem ok_ne (hu : X.A.units + 64 < cLine) : OpR X (compareOp .NotEq) (rV2 X.K pNe) := by
  refine OpR_imp (op_ne.or (op_neD hu)) ?_
  rintro x y H Q ⟨F, Z, ρ, σ, o, u, w, l, m, g, r1, r2, h, d⟩
  unfold pNe at h
  simp only [Option.bind_eq_some_iff] at h
  obtain ⟨a, e1, b, e2, k, e3, h⟩ := h
  cases h
  exact eqD_ok (r1.dp e1) (r2.dp e2) e3 true (by simpa using d.bl g)
theorem isNoneD_ok {K : PySem.W.Frag} {H : Hp} {x : V} {a : D} (h : Dp K H x a) : decide (x = .non) = isNoneD a := by
  cases h <;> simp [isNoneD]
theorem ok_is : OpR X (compareOp .Is) (rV2 X.K pIsN) := by
  refine OpR_imp op_isN ?_
  rintro x y H Q ⟨F, Z, ρ, σ, o, u, w, l, m, g, r1, r2, h, d⟩
  unfold pIsN at h
  split at h
  · obtain ⟨rfl, _⟩ := r2.none_
    simp only [Option.bind_eq_some_iff] at h
    obtain ⟨a, e1, h⟩ := h
    cases h
    exact ⟨rfl, by rw [isNoneD_ok (r1.dp e1)]; exact d.bl g⟩
  · cases h
theorem ok_isnot : OpR X (compareOp .IsNot) (rV2 X.K pNotN) := by
  refine OpR_imp op_notN ?_
  rintro x y H Q ⟨F, Z, ρ, σ, o, u, w, l, m, g, r1, r2, h, d⟩
  unfold pNotN at h
  split at h
  · obtain ⟨rfl, _⟩ := r2.none_
    simp only [Option.bind_eq_some_iff] at h
    obtain ⟨a, e1, h⟩ := h
    cases h
    exact ⟨rfl, by rw [isNoneD_ok (r1.dp e1)]; exact d.bl g⟩
  · cases h

theorem RepL.atI {K : PySem.W.Frag} {F : AS} {H : Hp} {ds : List D} {vs : List V} {i : Int} {d : D} (r : RepL K F H ds vs) (h : L2.atI ds i = some d) : ∃ v, L2.atI vs i = some v ∧ Rep K F H d v := by
  unfold L2.atI at h ⊢
  rw [← r.length]
  cases e : ixN ds.length i with
  | none => rw [e] at h; cases h
  | some j =>
    rw [e] at h
    exact r.get (by simpa using h)
/-- a dict's value at a key -/
theorem dKey_ok {K : PySem.W.Frag} {F : AS} {H : Hp} {d : D} {v : V} {k : Key} {l : List Addr} (r : RepO K F H (.sh d) v l) (h : dKey d = some k) : v = kV k := by
  cases d <;> simp only [dKey, Option.some.injEq, reduceCtorEq] at h <;> subst h
  · exact r.int_.1
  · exact r.str_.1
open PyProof.Rows in
theorem ix_dict (hu : X.A.units + 1 < cLine) : IxR X (fun x y H Q => ∃ a v, x = V.ref a ∧ DGet H a y (some v) ∧ Q v H) := by
  intro value slice pins s σ H x y xv yv Q I rx ry h hs
  obtain ⟨a, z, rfl, got, q⟩ := h
  obtain rfl : xv = Value.ref a := rx
  have ty := dict_typeIs I got
  have last : wpAny (model X.prog X.w) X.A (subscripted slice false (.ref a) yv) (fun r s' => wpAny (model X.prog X.w) X.A (letTemporaryGo value (.ref a) r >>= fun _ => pure r) (EP X pins σ Q) X.xe s') X.xe s := by
    rw [hs]
    refine wpAny_operating (d_getItem hu I got ry fun r s' I' rr => ?_)
    exact wpAny_bind (wpAny_letTemporaryGo (wpAny_pure ⟨z, H, I', rr, q⟩))
  unfold subscriptTail
  apply wpAny_bind
  rw [getitemInPython_of_ne ty.not_modules]
  apply wpAny_bind
  refine wpAny_specialOf ty PySem.F.slot_dict_getitem.lookup ?_
  first
    | exact wpAny_bind (wpAny_pure (wpAny_bind last))
    | exact wpAny_bind last
    | exact wpAny_pure (wpAny_bind last)
theorem ok_ix (hu : X.A.units + 1 < cLine) : IxR X (rV2 X.K pIx) := by
  refine IxR_imp ((ix_dict hu).or ix_seq) ?_
  rintro x y H Q ⟨F, Z, ρ, σ, o, u, w, l, m, g, r1, r2, h, d⟩
  unfold pIx at h
  split at h
  · simp only [Option.bind_eq_some_iff, Option.map_eq_some_iff] at h
    obtain ⟨k, e1, z, e2, h⟩ := h
    subst h
    cases r1 with
    | dct hd rd =>
      obtain ⟨v, e3, rv⟩ := (rd.val k).1 z e2
      have := dKey_ok r2 e1
      subst this
      refine .inl ⟨_, v, rfl, ?_, d.same g (.sh rv)⟩
      rw [← e3]
      exact DGet.k hd
  · refine .inr ?_
    obtain ⟨rfl, _⟩ := r1.str_
    obtain ⟨rfl, _⟩ := r2.int_
    split at h
    · rename_i hl
      simp only [Option.map_eq_some_iff] at h
      obtain ⟨c, e, h⟩ := h
      subst h
      exact .inr (.inr ⟨_, _, c, rfl, rfl, of_decide_eq_true hl, e, d.str g⟩)
    · cases h
  · refine .inr ?_
    obtain ⟨rfl, _⟩ := r2.int_
    simp only [Option.bind_eq_some_iff, Option.map_eq_some_iff] at h
    obtain ⟨ds, e1, z, e2, h⟩ := h
    subst h
    obtain ⟨a, vs, rfl, h1, h2⟩ := r1.asQ e1
    obtain ⟨v, e3, r3⟩ := h2.atI e2
    rcases h1 with h1 | h1
    · exact .inl ⟨a, vs, _, v, rfl, rfl, h1, e3, d.same g (.sh r3)⟩
    · exact .inr (.inl ⟨a, vs, _, v, rfl, rfl, h1, e3, d.same g (.sh r3)⟩)
  · cases h

theorem ok_max2 (hc : X.calm = true) : CallR X (.builtin "max") (rL2 X.K pMax2) := by
  refine CallR_imp (call_max2 hc) ?_
  rintro xs H Q ⟨x, y, rfl, F, Z, ρ, σ, o, u, w, l, m, g, r1, r2, h, d⟩
  unfold pMax2 at h
  split at h
  · obtain ⟨rfl, _⟩ := r1.int_
    obtain ⟨rfl, _⟩ := r2.int_
    cases h
    exact ⟨_, _, rfl, d.int g⟩
  · cases h
theorem ok_min2 (hc : X.calm = true) : CallR X (.builtin "min") (rL2 X.K pMin2) := by
  refine CallR_imp (call_min2 hc) ?_
  rintro xs H Q ⟨x, y, rfl, F, Z, ρ, σ, o, u, w, l, m, g, r1, r2, h, d⟩
  unfold pMin2 at h
  split at h
  · obtain ⟨rfl, _⟩ := r1.int_
    obtain ⟨rfl, _⟩ := r2.int_
    cases h
    exact ⟨_, _, rfl, d.int g⟩
  · cases h
theorem ok_gcd : CallR X (.builtin "math.gcd") (rL2 X.K pGcd) := by
  refine CallR_imp cr_gcd ?_
  rintro xs H Q ⟨x, y, rfl, F, Z, ρ, σ, o, u, w, l, m, g, r1, r2, h, d⟩
  unfold pGcd at h
  split at h
  · obtain ⟨rfl, _⟩ := r1.int_
    obtain ⟨rfl, _⟩ := r2.int_
    cases h
    exact ⟨_, _, rfl, d.int g⟩
  · cases h
theorem ok_divmod : CallR X (.builtin "divmod") (rL2 X.K pDivmod) := by
  refine CallR_imp call_divmod ?_
  rintro xs H Q ⟨x, y, rfl, F, Z, ρ, σ, o, u, w, l, m, g, r1, r2, h, d⟩
  unfold pDivmod at h
  split at h
  · obtain ⟨rfl, _⟩ := r1.int_
    obtain ⟨rfl, _⟩ := r2.int_
    split at h
    · rename_i hb
      simp only [Bool.and_eq_true, decide_eq_true_eq] at hb
      cases h
      exact ⟨_, _, rfl, hb, d.tup g (.cons (.int _) (.cons (.int _) .nil))⟩
    · cases h
  · cases h

/-! ### one value -/
theorem ok_neg : UnR X (unaryOp .USub) (rV1 X.K pNeg) := by
  intro pins s σ' H x v Q I rx h
  refine un_neg pins s σ' H x v Q I rx ?_
  obtain ⟨F, Z, ρ, σ, o, w, l, g, r1, h, d⟩ := h
  unfold pNeg at h
  split at h
  · obtain ⟨rfl, _⟩ := r1.int_
    cases h
    exact ⟨_, rfl, d.int g⟩
  · cases h
theorem ok_abs : CallR X (.builtin "abs") (rL1 X.K pAbs) := by
  refine CallR_imp call_abs ?_
  rintro xs H Q ⟨x, rfl, F, Z, ρ, σ, o, w, l, g, r1, h, d⟩
  unfold pAbs at h
  split at h
  · obtain ⟨rfl, _⟩ := r1.int_
    cases h
    exact ⟨_, rfl, d.int g⟩
  · cases h
theorem ok_len : CallR X (.builtin "len") (rL1 X.K pLen) := by
  refine CallR_imp (call_lenD.or (call_len_str.or call_len_seq)) ?_
  rintro xs H Q ⟨x, rfl, F, Z, ρ, σ, o, w, l, g, r1, h, d⟩
  unfold pLen at h
  split at h
  · obtain ⟨rfl, _⟩ := r1.str_
    split at h
    · rename_i hl
      cases h
      exact .inr (.inl ⟨_, rfl, of_decide_eq_true hl, d.int g⟩)
    · cases h
  · cases r1 with
    | dct hd rd =>
      cases h
      exact .inl ⟨_, _, rfl, hd, by rw [← rd.length]; exact d.int g⟩
  · simp only [Option.bind_eq_some_iff] at h
    obtain ⟨ds, e, h⟩ := h
    cases h
    obtain ⟨a, vs, rfl, h1, h2⟩ := r1.asQ e
    exact .inr (.inr ⟨a, vs, rfl, h1, by rw [← h2.length]; exact d.int g⟩)
theorem ok_int : CallR X (.type "int") (rL1 X.K pInt) := by
  refine CallR_imp call_int1 ?_
  rintro xs H Q ⟨x, rfl, F, Z, ρ, σ, o, w, l, g, r1, h, d⟩
  unfold pInt at h
  split at h
  · obtain ⟨rfl, _⟩ := r1.int_
    cases h
    exact .inl ⟨_, rfl, d.int g⟩
  · obtain ⟨rfl, _⟩ := r1.bool_
    cases h
    exact .inr ⟨_, rfl, d.int g⟩
  · cases h
theorem ok_str : CallR X (.type "str") (rL1 X.K pStr) := by
  refine CallR_imp call_str_int ?_
  rintro xs H Q ⟨x, rfl, F, Z, ρ, σ, o, w, l, g, r1, h, d⟩
  unfold pStr at h
  split at h
  · obtain ⟨rfl, _⟩ := r1.int_
    split at h
    · rename_i hl
      cases h
      exact ⟨_, rfl, of_decide_eq_true hl, d.str g⟩
    · cases h
  · cases h
theorem ok_list : CallR X (.type "list") (rL1 X.K pList) := by
  refine CallR_imp call_list_of ?_
  rintro xs H Q ⟨x, rfl, F, Z, ρ, σ, o, w, l, g, r1, h, d⟩
  unfold pList at h
  simp only [Option.map_eq_some_iff] at h
  obtain ⟨ds, e, h⟩ := h
  subst h
  obtain ⟨a, vs, rfl, h1, h2⟩ := r1.asQ e
  exact ⟨a, vs, rfl, h1, d.lst g h2⟩
theorem ok_tuple : CallR X (.type "tuple") (rL1 X.K pTuple) := by
  refine CallR_imp call_tuple_of ?_
  rintro xs H Q ⟨x, rfl, F, Z, ρ, σ, o, w, l, g, r1, h, d⟩
  unfold pTuple at h
  simp only [Option.map_eq_some_iff] at h
  obtain ⟨ds, e, h⟩ := h
  subst h
  unfold O.asQ at e
  split at e
  · rename_i es e'
    cases e
    obtain ⟨a, vs, rfl, h1, h2⟩ := r1.asLs e'
    exact ⟨a, vs, rfl, .inl ⟨h1, d.tup g h2⟩⟩
  · rename_i e'
    clear e'
    cases r1 with
    | sh r =>
      rename_i dd
      cases dd <;> simp only [O.asT, Option.some.injEq, reduceCtorEq] at e
      subst e
      obtain ⟨a, vs, rfl, h1, h2⟩ := r.tup_
      exact ⟨a, vs, rfl, .inr ⟨h1, d.same g (.sh r)⟩⟩
    | _ => simp [O.asT] at e
theorem cr_sumT (hc : X.calm = true) : CallR X (.builtin "sum") (fun vs H Q => ∃ (a : Addr) (ns : List Int), vs = [V.ref a] ∧ SqT X.K H a (ns.map V.int) ∧ Q (.int ns.sum) H) := by
  intro pins s σ H vs us Q I r h
  obtain ⟨a, ns, rfl, hs, q⟩ := h
  obtain ⟨its, rv, ht, _⟩ := I.tuple hs
  rw [Vals.ref1 r]
  have hi := rv.ints
  obtain ⟨xs, hx⟩ := hi.allInts.items
  have hn : numsOf its.toArray.toList = ns := hi.numsOf
  obtain ⟨o, h1, h2, n, h3⟩ := ht
  rw [hx] at hn h3
  rw [nums_intItems] at hn
  refine PySem.W.ktm_sumG (I.ok.hd hc) (xs := xs) ⟨o, h1, h2, n, h3⟩ fun h' tk t' hk => ?_
  rw [preSum_eq, List.take_of_length_le (by simp), hn]
  exact ⟨.int _, H, I.kept hk, ⟨_, rfl⟩, q⟩
theorem ok_sum (hc : X.calm = true) : CallR X (.builtin "sum") (rL1 X.K pSum) := by
  refine CallR_imp ((cr_sum hc).or (cr_sumT hc)) ?_
  rintro xs H Q ⟨x, rfl, F, Z, ρ, σ, o, w, l, g, r1, h, d⟩
  unfold pSum at h
  simp only [Option.bind_eq_some_iff] at h
  obtain ⟨ns, ⟨ds, e1, e2⟩, h⟩ := h
  cases h
  obtain ⟨a, vs, rfl, h1, h2⟩ := r1.asQ e1
  rw [h2.ints e2] at h1
  rcases h1 with h1 | h1
  · exact .inl ⟨a, ns, rfl, h1, d.int g⟩
  · exact .inr ⟨a, ns, rfl, h1, d.int g⟩
theorem maxL_ok : ∀ (r : List Int) (n m : Int), m ∈ n :: r → (∀ y, y ∈ n :: r → y ≤ m) → maxL n r = m
  | [], n, m, h1, h2 => by simp at h1; simp [maxL, h1]
  | x :: r, n, m, h1, h2 => by
    show maxL (if x > n then x else n) r = m
    have a := h2 n (by simp)
    have b := h2 x (by simp)
    refine maxL_ok r _ m ?_ fun y hy => ?_
    · simp only [List.mem_cons] at h1 ⊢
      split <;> rcases h1 with h | h | h <;> first | (right; exact h) | (left; omega)
    · simp only [List.mem_cons] at hy
      rcases hy with h | h
      · subst h; split <;> assumption
      · exact h2 y (by simp [h])
theorem minL_ok : ∀ (r : List Int) (n m : Int), m ∈ n :: r → (∀ y, y ∈ n :: r → m ≤ y) → minL n r = m
  | [], n, m, h1, h2 => by simp at h1; simp [minL, h1]
  | x :: r, n, m, h1, h2 => by
    show minL (if x < n then x else n) r = m
    have a := h2 n (by simp)
    have b := h2 x (by simp)
    refine minL_ok r _ m ?_ fun y hy => ?_
    · simp only [List.mem_cons] at h1 ⊢
      split <;> rcases h1 with h | h | h <;> first | (right; exact h) | (left; omega)
    · simp only [List.mem_cons] at hy
      rcases hy with h | h
      · subst h; split <;> assumption
      · exact h2 y (by simp [h])
theorem ok_max (hc : X.calm = true) : CallR X (.builtin "max") (rL1 X.K pMax) := by
  refine CallR_imp (cr_max hc) ?_
  rintro xs H Q ⟨x, rfl, F, Z, ρ, σ, o, w, l, g, r1, h, d⟩
  unfold pMax at h
  simp only [Option.bind_eq_some_iff] at h
  obtain ⟨ns, ⟨ds, e1, e2⟩, h⟩ := h
  split at h
  · cases h
  · rename_i n r
    cases h
    obtain ⟨a, vs, rfl, h1, h2⟩ := r1.asL e1
    rw [h2.ints e2] at h1
    refine ⟨a, _, rfl, .inl (.inl h1), by simp, fun m h3 h4 => ?_⟩
    rw [← maxL_ok r n m h3 h4]
    exact d.int g
theorem ok_min (hc : X.calm = true) : CallR X (.builtin "min") (rL1 X.K pMin) := by
  refine CallR_imp (cr_min hc) ?_
  rintro xs H Q ⟨x, rfl, F, Z, ρ, σ, o, w, l, g, r1, h, d⟩
  unfold pMin at h
  simp only [Option.bind_eq_some_iff] at h
  obtain ⟨ns, ⟨ds, e1, e2⟩, h⟩ := h
  split at h
  · cases h
  · rename_i n r
    cases h
    obtain ⟨a, vs, rfl, h1, h2⟩ := r1.asL e1
    rw [h2.ints e2] at h1
    refine ⟨a, _, rfl, .inl (.inl h1), by simp, fun m h3 h4 => ?_⟩
    rw [← minL_ok r n m h3 h4]
    exact d.int g
theorem ok_all (hc : X.calm = true) : CallR X (.builtin "all") (rL1 X.K pAll) := by
  refine CallR_imp (cr_all hc) ?_
  rintro xs H Q ⟨x, rfl, F, Z, ρ, σ, o, w, l, g, r1, h, d⟩
  unfold pAll at h
  simp only [Option.bind_eq_some_iff] at h
  obtain ⟨ns, ⟨ds, e1, e2⟩, h⟩ := h
  cases h
  obtain ⟨a, vs, rfl, h1, h2⟩ := r1.asL e1
  rw [h2.bools e2] at h1
  exact ⟨a, ns, rfl, .inl (.inl h1), d.bl g⟩
theorem ok_any (hc : X.calm = true) : CallR X (.builtin "any") (rL1 X.K pAny) := by
  refine CallR_imp (cr_any hc) ?_
  rintro xs H Q ⟨x, rfl, F, Z, ρ, σ, o, w, l, g, r1, h, d⟩
  unfold pAny at h
  simp only [Option.bind_eq_some_iff] at h
  obtain ⟨ns, ⟨ds, e1, e2⟩, h⟩ := h
  cases h
  obtain ⟨a, vs, rfl, h1, h2⟩ := r1.asL e1
  rw [h2.bools e2] at h1
  exact ⟨a, ns, rfl, .inl (.inl h1), d.bl g⟩
theorem insI_perm (x : Int) : ∀ l, (insI x l).Perm (x :: l)
  | [] => .refl _
  | y :: r => by
    unfold insI
    split
    · exact .refl _
    · exact ((insI_perm x r).cons y).trans (.swap x y r)
theorem sortI_perm : ∀ l, (sortI l).Perm l
  | [] => .refl _
  | x :: r => (insI_perm x _).trans ((sortI_perm r).cons x)
theorem insI_sorted (x : Int) : ∀ l : List Int, l.Pairwise (· ≤ ·) → (insI x l).Pairwise (· ≤ ·)
  | [], _ => by simp [insI]
  | y :: r, h => by
    unfold insI
    split
    · rename_i hx
      refine List.pairwise_cons.mpr ⟨fun z hz => ?_, h⟩
      rcases List.mem_cons.mp hz with e | e
      · omega
      · have := (List.pairwise_cons.mp h).1 z e
        omega
    · rename_i hx
      have h' := List.pairwise_cons.mp h
      refine List.pairwise_cons.mpr ⟨fun z hz => ?_, insI_sorted x r h'.2⟩
      rcases List.mem_cons.mp ((insI_perm x r).mem_iff.mp hz) with e | e
      · omega
      · exact h'.1 z e
theorem sortI_sorted : ∀ l, (sortI l).Pairwise (· ≤ ·)
  | [] => .nil
  | x :: r => insI_sorted x _ (sortI_sorted r)
theorem sorted_one : ∀ {a b : List Int}, a.Perm b → a.Pairwise (· ≤ ·) → b.Pairwise (· ≤ ·) → a = b := fun h1 h2 h3 =>
  h1.eq_of_pairwise (fun a b _ _ h h' => by omega) h2 h3
theorem RepL.mem {K : PySem.W.Frag} {F : AS} {H : Hp} {ds : List D} {vs : List V} (r : RepL K F H ds vs) : ∀ x ∈ vs, ∃ d ∈ ds, Rep K F H d x := fun x hx => by
  obtain ⟨i, hi⟩ := List.getElem?_of_mem hx
  have hl : i < ds.length := by
    rw [r.length]
    exact (List.getElem?_eq_some_iff.mp hi).1
  obtain ⟨v, e, rv⟩ := r.get (List.getElem?_eq_getElem hl)
  rw [hi] at e
  cases e
  exact ⟨_, List.getElem_mem hl, rv⟩
/-- rearranged alike -/
theorem RepL.perm {K : PySem.W.Frag} {F : AS} {H : Hp} {ys vs : List V} (p : ys.Perm vs) : ∀ {ds : List D}, RepL K F H ds vs → ∃ es, es.Perm ds ∧ RepL K F H es ys := by
  induction p with
  | nil => intro ds r; exact ⟨ds, .refl _, r⟩
  | cons x _ ih =>
    intro ds r
    cases r with
    | cons r t =>
      obtain ⟨es, h1, h2⟩ := ih t
      exact ⟨_ :: es, h1.cons _, .cons r h2⟩
  | swap x y l =>
    intro ds r
    cases r with
    | cons r t =>
      cases t with
      | cons r' t => exact ⟨_, .swap _ _ _, .cons r' (.cons r t)⟩
  | trans _ _ ih1 ih2 =>
    intro ds r
    obtain ⟨es, h1, h2⟩ := ih2 r
    obtain ⟨fs, h3, h4⟩ := ih1 h2
    exact ⟨fs, h3.trans h1, h4⟩
theorem tupFit_ok {n : Nat} {d : D} (h : tupFit n d = true) : ∃ es ns, d = .tuple es ∧ intsOf es = some ns ∧ ns.length = n ∧ TS.Bd bigT ns := by
  unfold tupFit at h
  split at h
  · rename_i ns e
    simp only [Bool.and_eq_true, decide_eq_true_eq, List.all_eq_true] at h
    cases d <;> simp only [tupNs, reduceCtorEq] at e
    exact ⟨_, ns, rfl, e, h.1, h.2⟩
  · cases h
theorem intsOf_eq : ∀ {es : List D} {ns : List Int}, intsOf es = some ns → es = ns.map .int
  | [], ns, h => by simp only [intsOf, Option.some.injEq] at h; subst h; rfl
  | .int i :: r, ns, h => by
    simp only [intsOf, Option.map_eq_some_iff] at h
    obtain ⟨ms, h, rfl⟩ := h
    rw [intsOf_eq h]
    rfl
  | .none :: _, _, h => by simp [intsOf] at h
  | .bool _ :: _, _, h => by simp [intsOf] at h
  | .str _ :: _, _, h => by simp [intsOf] at h
  | .list _ :: _, _, h => by simp [intsOf] at h
  | .tuple _ :: _, _, h => by simp [intsOf] at h
  | .dict _ :: _, _, h => by simp [intsOf] at h
theorem code_inj {B : Int} : ∀ {a b : List Int}, a.length = b.length → TS.Bd B a → TS.Bd B b → TS.code B a = TS.code B b → a = b
  | [], [], _, _, _, _ => rfl
  | [], _ :: _, h, _, _, _ => by simp at h
  | _ :: _, [], h, _, _, _ => by simp at h
  | x :: a, y :: b, h, h1, h2, e => by
    have hl : a.length = b.length := by simpa using h
    rcases Int.lt_trichotomy x y with q | q | q
    · have := TS.code_lt hl h1.tail h2.tail q
      omega
    · subst q
      have e' : TS.code B a = TS.code B b := by
        have e : x * B ^ a.length + TS.code B a = x * B ^ b.length + TS.code B b := e
        rw [hl] at e
        omega
      rw [code_inj hl h1.tail h2.tail e']
    · have := TS.code_lt hl.symm h2.tail h1.tail q
      omega
theorem insT_perm (x : D) : ∀ l, (insT x l).Perm (x :: l)
  | [] => .refl _
  | y :: r => by
    unfold insT
    split
    · exact .refl _
    · exact ((insT_perm x r).cons y).trans (.swap x y r)
theorem sortT_perm : ∀ l, (sortT l).Perm l
  | [] => .refl _
  | x :: r => (insT_perm x _).trans ((sortT_perm r).cons x)
theorem insT_sorted (x : D) : ∀ l : List D, l.Pairwise (fun a b => codeT a ≤ codeT b) → (insT x l).Pairwise (fun a b => codeT a ≤ codeT b)
  | [], _ => List.pairwise_singleton _ _
  | y :: r, h => by
    unfold insT
    obtain ⟨h1, h2⟩ := List.pairwise_cons.mp h
    split
    · rename_i hx
      refine List.pairwise_cons.mpr ⟨fun z hz => ?_, h⟩
      rcases List.mem_cons.mp hz with rfl | hz
      · exact hx
      · have := h1 z hz; omega
    · rename_i hx
      refine List.pairwise_cons.mpr ⟨fun z hz => ?_, insT_sorted x r h2⟩
      rcases List.mem_cons.mp ((insT_perm x r).mem_iff.mp hz) with rfl | hz
      · omega
      · exact h1 z hz
theorem sortT_sorted : ∀ l, (sortT l).Pairwise (fun a b => codeT a ≤ codeT b)
  | [] => List.Pairwise.nil
  | x :: r => insT_sorted x _ (sortT_sorted r)
theorem Rep.tupI {K : PySem.W.Frag} {F : AS} {H : Hp} {es : List D} {v : V} {ns : List Int} (r : Rep K F H (.tuple es) v) (e : intsOf es = some ns) : TupI K H v ns := by
  obtain ⟨a, vs, rfl, h1, h2⟩ := r.tup_
  rw [h2.ints e] at h1
  exact ⟨a, rfl, h1⟩
theorem RepL.pair {K : PySem.W.Frag} {F : AS} {H : Hp} {n : Nat} {ds : List D} {ys : List V} (r : RepL K F H ds ys) (hf : ∀ d ∈ ds, tupFit n d = true) (h : ys.Pairwise (fun x y => ∀ n m, TupI K H x n → TupI K H y m → TS.code bigT n ≤ TS.code bigT m)) : ds.Pairwise (fun a b => codeT a ≤ codeT b) := by
  match r with
  | .nil => exact List.Pairwise.nil
  | .cons r1 t =>
    rename_i d ds v vs
    obtain ⟨h1, h2⟩ := List.pairwise_cons.mp h
    refine List.pairwise_cons.mpr ⟨fun e he => ?_, RepL.pair t (fun d h => hf d (List.mem_cons_of_mem _ h)) h2⟩
    obtain ⟨i, hi⟩ := List.getElem?_of_mem he
    obtain ⟨u, hu, ru⟩ := t.get hi
    obtain ⟨es, ns, rfl, q1, _, _⟩ := tupFit_ok (hf d (List.mem_cons_self ..))
    obtain ⟨es', ms, rfl, q2, _, _⟩ := tupFit_ok (hf e (List.mem_cons_of_mem _ he))
    have := h1 u (List.mem_of_getElem? hu) ns ms (r1.tupI q1) (ru.tupI q2)
    simpa [codeT, tupNs, q1, q2] using this
theorem ok_sorted (hc : X.calm = true) : CallR X (.builtin "sorted") (rL1 X.K pSorted) := by
  have tups : CallR X (.builtin "sorted") (fun vs H Q => ∃ n, 1 ≤ n ∧ rSortU X.K n bigT vs H Q) := by
    intro pins s σ H vs us Q I r ⟨n, hn, h⟩
    exact cr_sortT hn pins s σ H vs us Q I r h
  refine CallR_imp (cr_sortedI.or ((call_sortedDI hc).or tups)) ?_
  rintro xs H Q ⟨x, rfl, F, Z, ρ, σ, o, w, l, g, r1, h, d⟩
  unfold pSorted at h
  split at h
  · simp only [Option.bind_eq_some_iff] at h
    obtain ⟨ns, e1, h⟩ := h
    split at h
    · rename_i hl
      cases h
      cases r1 with
      | dct hd rd =>
        refine .inr (.inl ⟨_, _, ns, rfl, .inl hd, rd.ints e1, of_decide_eq_true hl, fun ys p hp hs hn => ?_⟩)
        have e : ys = sortI ns := sorted_one (hp.trans (sortI_perm ns).symm) hs (sortI_sorted ns)
        subst e
        exact d.lst g (RepL.of_ints _) p hn
    · cases h
  · simp only [Option.bind_eq_some_iff] at h
    obtain ⟨ds, e1, h⟩ := h
    obtain ⟨a, vs, rfl, h1, h2⟩ := r1.asL e1
    split at h
    · rename_i ns e2
      cases h
      rw [h2.ints e2] at h1
      refine .inl ⟨a, ns, rfl, .inl (.inl h1), fun ns' p hp hs hn => ?_⟩
      have e : ns' = sortI ns := sorted_one (hp.trans (sortI_perm ns).symm) hs (sortI_sorted ns)
      subst e
      exact d.lst g (RepL.of_ints _) p hn
    · split at h
      · rename_i hl
        cases h
        simp only [Bool.and_eq_true, decide_eq_true_eq, List.all_eq_true] at hl
        refine .inr (.inr ⟨lenT ds, hl.1.2, a, vs, rfl, .inl (.inl h1), by rw [← h2.length]; exact hl.1.1, fun x hx => ?_, fun ys p hp hs hn => ?_⟩)
        · obtain ⟨d', hd', rx⟩ := h2.mem x hx
          obtain ⟨es, ns, rfl, q1, q2, q3⟩ := tupFit_ok (hl.2 d' hd')
          exact ⟨ns, rx.tupI q1, q2, q3⟩
        · obtain ⟨es, p1, p2⟩ := RepL.perm hp h2
          have fit : ∀ d ∈ es, tupFit (lenT ds) d = true := fun d h => hl.2 d (p1.mem_iff.mp h)
          have so := p2.pair fit hs
          have e : es = sortT ds := (p1.trans (sortT_perm ds).symm).eq_of_pairwise (fun a b ha hb h h' => by
            obtain ⟨e1, n1, rfl, q1, q2, q3⟩ := tupFit_ok (fit a ha)
            obtain ⟨e2, n2, rfl, w1, w2, w3⟩ := tupFit_ok (hl.2 b ((sortT_perm ds).mem_iff.mp hb))
            have k1 : codeT (.tuple e1) = TS.code bigT n1 := by simp [codeT, tupNs, q1]
            have k2 : codeT (.tuple e2) = TS.code bigT n2 := by simp [codeT, tupNs, w1]
            rw [k1, k2] at h h'
            have := code_inj (q2.trans w2.symm) q3 w3 (by omega)
            subst this
            rw [intsOf_eq q1, intsOf_eq w1]) so (sortT_sorted ds)
          subst e
          exact d.lst g p2 p hn
      · cases h
theorem inV_ints {i : Int} : ∀ ns : List Int, inV (.int i) (ns.map V.int) = ns.any fun z => z == i
  | [] => rfl
  | n :: r => by
    show ((n == i) || inV (.int i) (r.map V.int)) = ((n == i) || r.any fun z => z == i)
    rw [inV_ints r]
theorem ok_in (neg : Bool) (hu : X.A.units + 65 < cLine) {op : CmpOp} (hn : (neg = false ∧ op = .In) ∨ (neg = true ∧ op = .NotIn)) : OpR X (compareOp op) (rV2 X.K (inD neg)) := by
  have deep : OpR X (compareOp op) (fun x y H Q => ∃ d ds, Dp X.K H x d ∧ Dp X.K H y (.list ds) ∧ SeqAt.shaped d = true ∧ SeqAt.shaped (.list ds) = true ∧ Q (.bl (neg ^^ ds.any fun z => PyData.eqv z d)) H) := by
    rcases hn with ⟨rfl, rfl⟩ | ⟨rfl, rfl⟩
    · exact OpR_imp (op_inD hu) fun x y H Q ⟨d, ds, a, b, c, e, q⟩ => ⟨d, ds, a, b, c, e, by simpa using q⟩
    · exact OpR_imp (op_notInD hu) fun x y H Q ⟨d, ds, a, b, c, e, q⟩ => ⟨d, ds, a, b, c, e, by simpa using q⟩
  have flat : OpR X (compareOp op) (rIn X.K neg) := by
    rcases hn with ⟨rfl, rfl⟩ | ⟨rfl, rfl⟩
    · exact op_in_seq
    · exact op_notIn_seq
  refine OpR_imp (deep.or flat) ?_
  rintro x y H Q ⟨F, Z, ρ, σ, o, u, w, l, m, g, r1, r2, h, d⟩
  unfold inD at h
  split at h
  · rename_i dd
    split at h
    · rename_i ds e
      split at h
      · rename_i hs
        cases h
        simp only [Bool.and_eq_true] at hs
        have e' : u.data = some (.list ds) := by
          cases u with
          | sh z => cases z <;> simp only [O.asL, Option.some.injEq, reduceCtorEq] at e; subst e; rfl
          | lst z => simp only [O.asL, Option.some.injEq] at e; subst e; rfl
          | _ => simp [O.asL] at e
        exact .inl ⟨dd, ds, r1.dp rfl, r2.dp e', hs.1, hs.2, d.bl g⟩
      · cases h
    · split at h
      · rename_i ds i e
        simp only [Option.bind_eq_some_iff] at h
        obtain ⟨ns, e1, h⟩ := h
        cases h
        obtain ⟨rfl, _⟩ := r1.int_
        obtain ⟨a, vs, rfl, h1, h2⟩ := r2.asT e
        rw [h2.ints e1] at h1
        refine .inr ⟨a, _, rfl, .inr h1, rfl, by rw [List.all_map]; exact List.all_eq_true.mpr fun _ _ => rfl, ?_⟩
        rw [inV_ints]
        have : (if neg = true then !ns.any fun z => z == i else ns.any fun z => z == i) = (neg ^^ ns.any fun z => z == i) := by cases neg <;> simp
        rw [this]
        exact d.bl g
      · cases h
  · cases h
theorem ok_repr (hg : X.A.guards = some []) (hu : X.A.units + 70 < cLine) : CallR X (.builtin "repr") (rL1 X.K pRepr) := by
  rintro pins s σ' H xs us Q I rx ⟨x, rfl, F, Z, ρ, σ, o, w, l, g, r1, h, d⟩
  unfold pRepr at h
  simp only [Option.bind_eq_some_iff] at h
  obtain ⟨dd, e1, h⟩ := h
  split at h
  · rename_i hs
    simp only [Bool.and_eq_true, decide_eq_true_eq] at hs
    obtain ⟨⟨⟨hs1, hs2⟩, hs3⟩, hs4⟩ := hs
    have hs4 := of_decide_eq_true hs4
    cases h
    have dp := r1.dp e1
    obtain ⟨u, rfl, ru⟩ := rx.one
    obtain ⟨as, rd⟩ := Dp.reads I dd x u dp ru
    have fin : ∀ (h' : Heap) (t : Tok) (tk : Nat), (∀ b o, s.heap.get? b = some o → h'.get? b = some o) → EP X pins σ' Q (.str dd.shown t) { s with heap := h', toks := tk } :=
      fun h' t tk k => ⟨.str dd.shown, H, I.kept k, ⟨t, rfl⟩, d.str g⟩
    have fin0 : ∀ (t : Tok) (tk : Nat), EP X pins σ' Q (.str dd.shown t) { s with toks := tk } := fun t tk => fin s.heap t tk fun _ _ h => h
    have fin1 : ∀ (t : Tok), EP X pins σ' Q (.str dd.shown t) s := fun t => fin0 t s.toks
    cases rd with
    | none => exact PySem.P.repr_of_none (fin0 _ _)
    | bool b => exact PySem.P.repr_of_bool (fin0 _ _)
    | int i t => exact PySem.P.repr_of_int (of_decide_eq_true (by simpa [PyData.showable] using hs3)) (fin0 _ _)
    | str y t => exact PySem.P.repr_of_str (fin0 _ _) hs4
    | list a1 a2 a3 a4 => exact repr_of_reads' (.list a1 a2 a3 a4) hs3 (PyData.noDict_hsm (PyData.hasDict_of_canLay _ hs1)) hg (by omega) (fun _ _ h => h) (fun h' u tk k => fin h' u tk k) hs4
    | tuple a1 a2 a3 a4 => exact repr_of_reads' (.tuple a1 a2 a3 a4) hs3 (PyData.noDict_hsm (PyData.hasDict_of_canLay _ hs1)) hg (by omega) (fun _ _ h => h) (fun h' u tk k => fin h' u tk k) hs4
    | dict a1 a2 a3 a4 a5 => simp [PyData.canLay0] at hs1
  · cases h
end
end Vx

/-! Vx, part D: what the language's parts ask of the abstract heap. -/
namespace Vx
open PySem L2 RZ

section
variable {X : Cx} {e : Expr} {es : List Expr}
theorem PE_imp {t t' : TE} (h : PE X e t) (i : ∀ σ H Q, t' σ H Q → t σ H Q) : PE X e t' := ⟨fun pins s σ H Q I q => h.run pins s σ H Q I (i σ H Q q)⟩
theorem PT_imp {t t' : TT} (h : PT X e t) (i : ∀ σ H Q, t' σ H Q → t σ H Q) : PT X e t' := ⟨fun pins s σ H Q I q => h.run pins s σ H Q I (i σ H Q q)⟩
theorem PW_imp {t t' : TT} (h : PW X e t) (i : ∀ σ H Q, t' σ H Q → t σ H Q) : PW X e t' := ⟨fun w pins s σ H Q I q => h.run w pins s σ H Q I (i σ H Q q)⟩
theorem PA_imp {t t' : TA} (h : PA X es t) (i : ∀ σ H Q, t' σ H Q → t σ H Q) : PA X es t' := ⟨fun p pins s σ H Q I q => h.run p pins s σ H Q I (i σ H Q q)⟩
theorem PI_imp {tg : Expr} {t t' : TI} (h : PI X tg e t) (i : ∀ σ H Q, t' σ H Q → t σ H Q) : PI X tg e t' := ⟨fun pins s σ H Q I q => h.run pins s σ H Q I (i σ H Q q)⟩
theorem PI_or {tg : Expr} {t t' : TI} (h : PI X tg e t) (h' : PI X tg e t') : PI X tg e (fun σ H R => t σ H R ∨ t' σ H R) :=
  ⟨fun pins s σ H Q I q => q.elim (h.run pins s σ H Q I) (h'.run pins s σ H Q I)⟩
theorem PTs_imp {t t' : TT} (h : PTs X es t) (i : ∀ σ H Q, t' σ H Q → t σ H Q) : PTs X es t' := ⟨fun pins s σ H Q I q => h.run pins s σ H Q I (i σ H Q q)⟩
theorem PO_imp {o : Option Expr} {t t' : TO} (h : PO X o t) (i : ∀ σ H Q, t' σ H Q → t σ H Q) : PO X o t' := ⟨fun pins s σ H Q I q => h.run pins s σ H Q I (i σ H Q q)⟩
end

section
variable (K : PySem.W.Frag)
def tE (ev : Ev → Option (O × Ev)) : TE := fun σ H Q => ∃ F Z ρ o ρ', Good K F Z H ρ σ ∧ ev ρ = some (o, ρ') ∧ Done' K F Z H ρ' σ o Q
where Done' (K : PySem.W.Frag) (F Z : AS) (H : Hp) (ρ : Ev) (σ : St) (o : O) (Q : VK) : Prop :=
  ∀ v H' F' l, Ext F F' Z H H' → Good K F' (Zp Z l) H' ρ σ → RepO K F' H' o v l → (∀ a ∈ l, ¬ Z a) → Q v H'
def tT (ev : Ev → Option (Bool × Ev)) : TT := fun σ H Q => ∃ F Z ρ b ρ', Good K F Z H ρ σ ∧ ev ρ = some (b, ρ') ∧ ∀ H' F', Ext F F' Z H H' → Good K F' Z H' ρ' σ → Q b H'
inductive RepOs (F : AS) (H : Hp) : List O → List V → List Addr → Prop where
  | nil : RepOs F H [] [] []
  | cons {o : O} {os : List O} {v : V} {vs : List V} {l m : List Addr} : RepO K F H o v l → RepOs F H os vs m → (∀ a ∈ l, a ∉ m) → RepOs F H (o :: os) (v :: vs) (l ++ m)
def tL (ev : Ev → Option (List O × Ev)) : TA := fun σ H Q => ∃ F Z ρ os ρ', Good K F Z H ρ σ ∧ ev ρ = some (os, ρ') ∧
  ∀ vs H' F' l, Ext F F' Z H H' → Good K F' (Zp Z l) H' ρ' σ → RepOs K F' H' os vs l → (∀ a ∈ l, ¬ Z a) → Q vs H'
def tOE (ev : Ev → Option (Option Int × Ev)) : TO := fun σ H Q => ∃ F Z ρ o ρ', Good K F Z H ρ σ ∧ ev ρ = some (o, ρ') ∧ ∀ H' F', Ext F F' Z H H' → Good K F' Z H' ρ' σ → Q o H'
/-- a walk gives these data -/
def Yl (F : AS) (H : Hp) (x : V) (H' : Hp) (d : D) : Prop :=
  (H' = H ∧ Rep K F H d x) ∨ ∃ p vs ds, x = .ref p ∧ H p = none ∧ H' = upd H p (.tup vs) ∧ d = .tuple ds ∧ RepL K F H ds vs
def WalkD (F : AS) (H : Hp) (J : It) (ds : List D) : Prop := ∀ F2 H2, (∀ a, F a → F2 a) → (∀ a o, F a → H a = some o → H2 a = some o) →
  (∀ i d, ds[i]? = some d → J.go i H2 ∧ ∀ x H3, J.yld i H2 x H3 → Yl K F2 H2 x H3 d) ∧ J.stop ds.length H2
def tI (ev : Ev → Option (List D × Ev)) : TI := fun σ H R => ∃ F Z ρ ds ρ', Good K F Z H ρ σ ∧ ev ρ = some (ds, ρ') ∧
  ∀ J H' F', Ext F F' Z H H' → Good K F' Z H' ρ' σ → WalkD K F' H' J ds → R J H'
def tA (F : Fn) : A → TE
  | .pk i => tVar i
  | .ex e => tE K (evE F e)
end

section
variable {K : PySem.W.Frag} {fn : Fn} {F F' F1 F2 Z Z' Z1 Z2 : AS} {H H' H1 H2 : Hp} {ρ ρ1 ρ2 : Ev} {σ : St} {o u : O} {Q : VK}
theorem join_some {α : Type} {x : Option (Option α)} {a : α} (h : x.join = some a) : x = some (some a) := by
  cases x with
  | none => cases h
  | some y => simpa using h
theorem Zp_less {l : List Addr} : ∀ a, Z a → Zp Z l a := fun _ h => .inl h
theorem Zp_nil : Zp Z [] = Z := funext fun a => propext ⟨fun h => h.elim id fun h => by simp at h, .inl⟩
theorem Zp_app {l m : List Addr} : Zp (Zp Z l) m = Zp Z (l ++ m) := funext fun a => propext ⟨fun h => by
    rcases h with (h | h) | h
    · exact .inl h
    · exact .inr (List.mem_append_left _ h)
    · exact .inr (List.mem_append_right _ h), fun h => by
    rcases h with h | h
    · exact .inl (.inl h)
    · rcases List.mem_append.mp h with h | h
      · exact .inl (.inr h)
      · exact .inr h⟩
/-- an operand's value, told -/
def ArgR (K : PySem.W.Frag) (F Z : AS) (H : Hp) (σ : St) (x : Arg) (v : V) (l : List Addr) : Prop := match x with
  | .val o => RepO K F H o v l ∧ ∀ a ∈ l, ¬ Z a
  | .slot i => σ[i]? = some (some v) ∧ l = []
theorem opnd {a : A} {x : Arg} {k : VK} (g : Good K F Z H ρ σ) (h : evA fn a ρ = some (x, ρ1)) (c : ∀ v H' F' l, Ext F F' Z H H' → Good K F' (Zp Z l) H' ρ1 σ → ArgR K F' Z H' σ x v l → k v H') : tA K fn a σ H k := by
  cases a with
  | pk i =>
    simp only [evA, Option.map_eq_some_iff] at h
    obtain ⟨o, e, h⟩ := h
    cases h
    obtain ⟨v, l, e1, r⟩ := g.get (join_some e)
    exact ⟨v, e1, c v H F [] .refl g.nil ⟨e1, rfl⟩⟩
  | ex e =>
    simp only [evA, Option.map_eq_some_iff] at h
    obtain ⟨⟨o, ρ'⟩, e, h⟩ := h
    cases h
    exact ⟨F, Z, ρ, o, ρ', g, e, fun v H' F' l e1 g1 r1 n1 => c v H' F' l e1 g1 ⟨r1, n1⟩⟩
theorem ArgR.get {x : Arg} {v : V} {l : List Addr} (r : ArgR K F Z H σ x v l) (e : Ext F F2 Z1 H H2) (hz : ∀ a ∈ l, Z1 a) (g : Good K F2 Z2 H2 ρ2 σ) (h : x.get ρ2 = some o) : ∃ m, RepO K F2 H2 o v m := by
  cases x with
  | val u =>
    simp only [Arg.get, Option.some.injEq] at h
    subst h
    exact ⟨l, r.1.ext e fun a ha => e.kz a (hz a ha)⟩
  | slot i =>
    simp only [Arg.get] at h
    obtain ⟨w, m, e1, r1⟩ := g.get (join_some h)
    rw [r.1] at e1
    cases e1
    exact ⟨m, r1⟩
theorem ArgR.ext {x : Arg} {v : V} {l : List Addr} (r : ArgR K F Z H σ x v l) (e : Ext F F2 Z1 H H2) (hz : ∀ a ∈ l, Z1 a) : ArgR K F2 Z H2 σ x v l := by
  cases x with
  | val u => exact ⟨r.1.ext e fun a ha => e.kz a (hz a ha), r.2⟩
  | slot i => exact r

theorem done_of (d : tE.Done' K F Z H ρ1 σ o Q) (e : Ext F F1 Z H H1) : Done K F1 Z H1 ρ1 σ o Q := fun v H' F' l e' g r n => d v H' F' l (e.trans e') g r n

theorem imp1 {p : P1} {a : A} (h : tE K (evE fn (.op1 p a)) σ H Q) : tA K fn a σ H fun x H1 => rV1 K (p1 p) x H1 Q := by
  obtain ⟨F, Z, ρ, o, ρ', g, e, d⟩ := h
  simp only [evE, Option.bind_eq_some_iff, Option.map_eq_some_iff] at e
  obtain ⟨⟨x, ρ1⟩, e1, u, e2, w, e3, e4⟩ := e
  cases e4
  refine opnd g e1 fun v H1 F1 l x1 g1 r1 => ?_
  obtain ⟨m, r⟩ := r1.get .refl (Z1 := Zp Z l) (fun a h => .inr h) g1 e2
  have g1 := g1.less (Z' := Z) fun _ h => .inl h
  exact ⟨F1, Z, _, σ, u, o, m, g1, r, e3, done_of d x1⟩
theorem opnd2 {a b : A} {x y : Arg} {o1 o2 : O} {k : V → V → Hp → Prop} (g : Good K F Z H ρ σ) (h1 : evA fn a ρ = some (x, ρ1)) (h2 : evA fn b ρ1 = some (y, ρ2)) (e1 : x.get ρ2 = some o1) (e2 : y.get ρ2 = some o2)
    (c : ∀ v w H' F' l m, Ext F F' Z H H' → Good K F' Z H' ρ2 σ → RepO K F' H' o1 v l → RepO K F' H' o2 w m → k v w H') : tA K fn a σ H fun v H1 => tA K fn b σ H1 fun w H2 => k v w H2 := by
  refine opnd g h1 fun v H1 F1 l x1 g1 r1 => ?_
  refine opnd g1 h2 fun w H2 F2 m x2 g2 r2 => ?_
  obtain ⟨l', r3⟩ := r1.get x2 (fun a h => .inr h) g2 e1
  obtain ⟨m', r4⟩ := r2.get (.refl (Z := Zp (Zp Z l) m)) (fun a h => .inr h) g2 e2
  exact c v w H2 F2 l' m' (x1.trans (x2.less fun _ h => .inl h)) (g2.less fun _ h => .inl (.inl h)) r3 r4
theorem imp2 {p : P2} {a b : A} (h : tE K (evE fn (.op2 p a b)) σ H Q) : tA K fn a σ H fun x H1 => tA K fn b σ H1 fun y H2 => rV2 K (p2 p) x y H2 Q := by
  obtain ⟨F, Z, ρ, o, ρ', g, e, d⟩ := h
  simp only [evE, Option.bind_eq_some_iff, Option.map_eq_some_iff] at e
  obtain ⟨⟨x, ρ1⟩, e1, ⟨y, ρ2⟩, e2, u, e3, w, e4, z, e5, e6⟩ := e
  cases e6
  refine opnd2 g e1 e2 e3 e4 fun v w' H' F' l m x1 g1 r1 r2 => ?_
  exact ⟨F', Z, _, σ, u, w, o, l, m, g1, r1, r2, e5, done_of d x1⟩
theorem impT2 {p : P2} {a b : A} {k : Bool → Hp → Prop} (h : tT K (evT fn (.cmp p a b)) σ H k) : tA K fn a σ H fun x H1 => tA K fn b σ H1 fun y H2 => rV2 K (p2 p) x y H2 fun z H3 => ∃ c, z = .bl c ∧ k c H3 := by
  obtain ⟨F, Z, ρ, o, ρ', g, e, d⟩ := h
  simp only [evT, Option.bind_eq_some_iff, Option.map_eq_some_iff] at e
  obtain ⟨⟨x, ρ1⟩, e1, ⟨y, ρ2⟩, e2, u, e3, w, e4, z, e5, e6⟩ := e
  split at e6
  · cases e6
    refine opnd2 g e1 e2 e3 e4 fun v w' H' F' l m x1 g1 r1 r2 => ?_
    refine ⟨F', Z, ρ2, σ, u, w, _, l, m, g1, r1, r2, e5, fun v H2 F2 l2 x2 g2 r2 n2 => ?_⟩
    obtain ⟨rfl, rfl⟩ := r2.bool_
    exact ⟨_, rfl, d H2 F2 (x1.trans x2) (by rw [Zp_nil] at g2; exact g2)⟩
  · cases e6
/-- two comparisons -/
theorem opnd3 {a b c : A} {p q : P2} {x y : Arg} {o1 o2 : O} {r : O} {kb : Bool} {k : VK} (g : Good K F Z H ρ σ) (h1 : evA fn a ρ = some (x, ρ1)) (h2 : evA fn b ρ1 = some (y, ρ2)) (e1 : x.get ρ2 = some o1) (e2 : y.get ρ2 = some o2)
    (e3 : p2 p o1 o2 = some (.sh (.bool kb)))
    (ct : kb = true → ∀ w H' F' m, Ext F F' Z H H' → Good K F' (Zp Z m) H' ρ2 σ → ArgR K F' Z H' σ y w m → tA K fn c σ H' fun w' H4 => rV2 K (p2 q) w w' H4 k)
    (cf : kb = false → ∀ H' F', Ext F F' Z H H' → Good K F' Z H' ρ2 σ → k (.bl false) H') : tChain (rV2 K (p2 p)) (rV2 K (p2 q)) (tA K fn a) (tA K fn b) (tA K fn c) σ H k := by
  refine opnd g h1 fun v H1 F1 l x1 g1 r1 => ?_
  refine opnd g1 h2 fun w H2 F2 m x2 g2 r2 => ?_
  obtain ⟨l', r3⟩ := r1.get x2 (fun a h => .inr h) g2 e1
  obtain ⟨m', r4⟩ := r2.get (.refl (Z := Zp (Zp Z l) m)) (fun a h => .inr h) g2 e2
  have x12 : Ext F F2 Z H H2 := x1.trans (x2.less fun _ h => .inl h)
  have gm : Good K F2 (Zp Z m) H2 ρ2 σ := g2.less fun _ h => h.elim (fun z => .inl (.inl z)) .inr
  have r2' : ArgR K F2 Z H2 σ y w m := by
    cases y with
    | val u => exact ⟨r2.1, fun a h z => r2.2 a h (.inl z)⟩
    | slot i => exact r2
  refine ⟨F2, Zp Z m, ρ2, σ, o1, o2, _, l', m', gm, r3, r4, e3, fun z H3 F3 l3 x3 g3 r5 n3 => ?_⟩
  obtain ⟨rfl, rfl⟩ := r5.bool_
  rw [Zp_nil] at g3
  refine ⟨kb, rfl, ?_⟩
  cases kb with
  | true =>
    show tA K fn c σ H3 _
    exact ct rfl w H3 F3 m (x12.trans (x3.less fun _ h => .inl h)) g3 (r2'.ext x3 fun a h => .inr h)
  | false =>
    show k (.bl false) H3
    exact cf rfl H3 F3 (x12.trans (x3.less fun _ h => .inl h)) (g3.less fun _ h => .inl h)
theorem impC {p q : P2} {a b c : A} (h : tE K (evE fn (.chain p q a b c)) σ H Q) : tChain (rV2 K (p2 p)) (rV2 K (p2 q)) (tA K fn a) (tA K fn b) (tA K fn c) σ H Q := by
  obtain ⟨F, Z, ρ, o, ρ', g, e, d⟩ := h
  simp only [evE, Option.bind_eq_some_iff, Option.map_eq_some_iff] at e
  obtain ⟨⟨x, ρ1⟩, e1, ⟨y, ρ2⟩, e2, u, e3, w, e4, z, e5, e6⟩ := e
  split at e6
  · rename_i kb
    refine opnd3 (r := o) g e1 e2 e3 e4 e5 (fun hk w1 H1 F1 m x1 g1 r1 => ?_) (fun hk H1 F1 x1 g1 => ?_)
    · rw [if_pos hk] at e6
      simp only [Option.bind_eq_some_iff, Option.map_eq_some_iff] at e6
      obtain ⟨⟨z, ρ3⟩, f1, u', f2, v', f3, r', f4, f5⟩ := e6
      cases f5
      refine opnd g1 f1 fun w2 H2 F2 l2 x2 g2 r2 => ?_
      obtain ⟨l', r3⟩ := r1.get x2 (fun a h => .inr h) g2 f2
      obtain ⟨m', r4⟩ := r2.get (.refl (Z := Zp (Zp Z m) l2)) (fun a h => .inr h) g2 f3
      exact ⟨F2, Z, _, σ, u', v', o, l', m', g2.less fun _ h => .inl (.inl h), r3, r4, f4, done_of d (x1.trans (x2.less fun _ h => .inl h))⟩
    · rw [if_neg (by simp [hk])] at e6
      cases e6
      exact (done_of d x1).bl g1
  · cases e6
theorem impTC {p q : P2} {a b c : A} {k : Bool → Hp → Prop} (h : tT K (evT fn (.chain p q a b c)) σ H k) : tChain (rV2 K (p2 p)) (rV2 K (p2 q)) (tA K fn a) (tA K fn b) (tA K fn c) σ H fun z H3 => ∃ c, z = .bl c ∧ k c H3 := by
  obtain ⟨F, Z, ρ, o, ρ', g, e, d⟩ := h
  simp only [evT, Option.bind_eq_some_iff, Option.map_eq_some_iff] at e
  obtain ⟨⟨x, ρ1⟩, e1, ⟨y, ρ2⟩, e2, u, e3, w, e4, z, e5, e6⟩ := e
  split at e6
  · rename_i kb
    refine opnd3 (r := u) g e1 e2 e3 e4 e5 (fun hk w1 H1 F1 m x1 g1 r1 => ?_) (fun hk H1 F1 x1 g1 => ?_)
    · rw [if_pos hk] at e6
      simp only [Option.bind_eq_some_iff, Option.map_eq_some_iff] at e6
      obtain ⟨⟨z, ρ3⟩, f1, u', f2, v', f3, r', f4, f5⟩ := e6
      split at f5
      · cases f5
        refine opnd g1 f1 fun w2 H2 F2 l2 x2 g2 r2 => ?_
        obtain ⟨l', r3⟩ := r1.get x2 (fun a h => .inr h) g2 f2
        obtain ⟨m', r4⟩ := r2.get (.refl (Z := Zp (Zp Z m) l2)) (fun a h => .inr h) g2 f3
        refine ⟨F2, Z, ρ3, σ, u', v', _, l', m', g2.less fun _ h => .inl (.inl h), r3, r4, f4, fun v H2 F3 l3 x3 g3 r5 n3 => ?_⟩
        obtain ⟨rfl, rfl⟩ := r5.bool_
        exact ⟨_, rfl, d H2 F3 ((x1.trans (x2.less fun _ h => .inl h)).trans x3) (by rw [Zp_nil] at g3; exact g3)⟩
      · cases f5
    · rw [if_neg (by simp [hk])] at e6
      cases e6
      exact ⟨_, rfl, d H1 F1 x1 g1⟩
  · cases e6
theorem truthO_ok {v : V} {l : List Addr} {b : Bool} (r : RepO K F H o v l) (h : truthO o = some b) : TruV K v H b := by
  unfold truthO at h
  simp only [Option.bind_eq_some_iff] at h
  obtain ⟨d, e, h⟩ := h
  unfold truthD at h
  have dp := r.dp e
  cases dp with
  | non => cases h; rfl
  | bl b => cases h; rfl
  | int i => cases h; rfl
  | str x =>
    simp only at h
    split at h
    · rename_i hl
      cases h
      exact ⟨of_decide_eq_true hl, rfl⟩
    · cases h
  | lst s a =>
    cases h
    exact .inl ⟨_, s, by cases a <;> rfl⟩
  | tup s a =>
    cases h
    exact .inr (.inl ⟨_, s, by cases a <;> rfl⟩)
theorem impTV {a : A} {k : Bool → Hp → Prop} (h : tT K (evT fn (.val a)) σ H k) : tA K fn a σ H fun x H' => ∃ b, TruV K x H' b ∧ k b H' := by
  obtain ⟨F, Z, ρ, o, ρ', g, e, d⟩ := h
  simp only [evT, Option.bind_eq_some_iff, Option.map_eq_some_iff] at e
  obtain ⟨⟨x, ρ1⟩, e1, u, e2, w, e3, e4⟩ := e
  cases e4
  refine opnd g e1 fun v H1 F1 l x1 g1 r1 => ?_
  obtain ⟨m, r⟩ := r1.get .refl (Z1 := Zp Z l) (fun a h => .inr h) g1 e2
  exact ⟨_, truthO_ok r e3, d H1 F1 x1 (g1.less fun _ h => .inl h)⟩
theorem impNot {a : T} {k : Bool → Hp → Prop} (h : tT K (evT fn (.not a)) σ H k) : tNot (tT K (evT fn a)) σ H k := by
  obtain ⟨F, Z, ρ, o, ρ', g, e, d⟩ := h
  simp only [evT, Option.map_eq_some_iff] at e
  obtain ⟨⟨b, ρ1⟩, e1, e2⟩ := e
  cases e2
  exact ⟨F, Z, ρ, b, ρ1, g, e1, d⟩
theorem impAnd {a b : T} {k : Bool → Hp → Prop} (h : tT K (evT fn (.and a b)) σ H k) : tAnd (tT K (evT fn a)) (tT K (evT fn b)) σ H k := by
  obtain ⟨F, Z, ρ, o, ρ', g, e, d⟩ := h
  simp only [evT, Option.bind_eq_some_iff] at e
  obtain ⟨⟨c, ρ1⟩, e1, e2⟩ := e
  refine ⟨F, Z, ρ, c, ρ1, g, e1, fun H1 F1 x1 g1 => ?_⟩
  cases c with
  | true => exact ⟨F1, Z, ρ1, o, ρ', g1, e2, fun H2 F2 x2 g2 => d H2 F2 (x1.trans x2) g2⟩
  | false =>
    simp only [Bool.false_eq_true, if_false] at e2
    cases e2
    exact d H1 F1 x1 g1
theorem impOr {a b : T} {k : Bool → Hp → Prop} (h : tT K (evT fn (.or a b)) σ H k) : tOr (tT K (evT fn a)) (tT K (evT fn b)) σ H k := by
  obtain ⟨F, Z, ρ, o, ρ', g, e, d⟩ := h
  simp only [evT, Option.bind_eq_some_iff] at e
  obtain ⟨⟨c, ρ1⟩, e1, e2⟩ := e
  refine ⟨F, Z, ρ, c, ρ1, g, e1, fun H1 F1 x1 g1 => ?_⟩
  cases c with
  | false => exact ⟨F1, Z, ρ1, o, ρ', g1, e2, fun H2 F2 x2 g2 => d H2 F2 (x1.trans x2) g2⟩
  | true =>
    simp only [if_true] at e2
    cases e2
    exact d H1 F1 x1 g1
theorem impAndV {a b : E} (h : tE K (evE fn (.andV a b)) σ H Q) : tAndV (tE K (evE fn a)) (tE K (evE fn b)) σ H Q := by
  obtain ⟨F, Z, ρ, o, ρ', g, e, d⟩ := h
  simp only [evE, Option.bind_eq_some_iff] at e
  obtain ⟨⟨c, ρ1⟩, e1, e2⟩ := e
  simp only at e2
  split at e2
  · rename_i kb
    refine ⟨F, Z, ρ, _, ρ1, g, e1, fun v H1 F1 l x1 g1 r1 n1 => ?_⟩
    obtain ⟨rfl, rfl⟩ := r1.bool_
    rw [Zp_nil] at g1
    refine ⟨_, rfl, ?_⟩
    cases kb with
    | true => exact ⟨F1, Z, ρ1, o, ρ', g1, e2, fun v H2 F2 l x2 g2 r2 n2 => d v H2 F2 l (x1.trans x2) g2 r2 n2⟩
    | false =>
      simp only [Bool.false_eq_true, if_false] at e2
      cases e2
      exact (done_of d x1).bl g1
  · cases e2
theorem impOrV {a b : E} (h : tE K (evE fn (.orV a b)) σ H Q) : tOrV (tE K (evE fn a)) (tE K (evE fn b)) σ H Q := by
  obtain ⟨F, Z, ρ, o, ρ', g, e, d⟩ := h
  simp only [evE, Option.bind_eq_some_iff] at e
  obtain ⟨⟨c, ρ1⟩, e1, e2⟩ := e
  simp only at e2
  split at e2
  · rename_i kb
    refine ⟨F, Z, ρ, _, ρ1, g, e1, fun v H1 F1 l x1 g1 r1 n1 => ?_⟩
    obtain ⟨rfl, rfl⟩ := r1.bool_
    rw [Zp_nil] at g1
    refine ⟨_, rfl, ?_⟩
    cases kb with
    | false => exact ⟨F1, Z, ρ1, o, ρ', g1, e2, fun v H2 F2 l x2 g2 r2 n2 => d v H2 F2 l (x1.trans x2) g2 r2 n2⟩
    | true =>
      simp only [if_true] at e2
      cases e2
      exact (done_of d x1).bl g1
  · cases e2
theorem impIte {c : T} {a b : E} (h : tE K (evE fn (.ite c a b)) σ H Q) : tIf (tT K (evT fn c)) (tE K (evE fn a)) (tE K (evE fn b)) σ H Q := by
  obtain ⟨F, Z, ρ, o, ρ', g, e, d⟩ := h
  simp only [evE, Option.bind_eq_some_iff] at e
  obtain ⟨⟨k, ρ1⟩, e1, e2⟩ := e
  refine ⟨F, Z, ρ, k, ρ1, g, e1, fun H1 F1 x1 g1 => ?_⟩
  cases k with
  | true => exact ⟨F1, Z, ρ1, o, ρ', g1, e2, fun v H2 F2 l x2 g2 r2 n2 => d v H2 F2 l (x1.trans x2) g2 r2 n2⟩
  | false => exact ⟨F1, Z, ρ1, o, ρ', g1, e2, fun v H2 F2 l x2 g2 r2 n2 => d v H2 F2 l (x1.trans x2) g2 r2 n2⟩
theorem impCon {v : V} {d : D} (hv : ∀ F H, Rep K F H d v) (h : tE K (evE fn (.con d)) σ H Q) : tC v σ H Q := by
  obtain ⟨F, Z, ρ, o, ρ', g, e, c⟩ := h
  cases e
  exact (done_of c .refl).same g (.sh (hv _ _))
theorem RepO.shL {v : V} {l : List Addr} {ds : List D} (r : RepO K F H (.lst ds) v l) : ∃ a, v = .ref a ∧ l = [a] := by cases r; exact ⟨_, rfl, rfl⟩
theorem impVar {i : Nat} (h : tE K (evE fn (.var i)) σ H Q) : tVar i σ H Q := by
  obtain ⟨F, Z, ρ, o, ρ', g, e, c⟩ := h
  simp only [evE, Option.bind_eq_some_iff] at e
  obtain ⟨u, e1, e2⟩ := e
  have e1 := join_some e1
  obtain ⟨v, l, k1, r⟩ := g.get e1
  refine ⟨v, k1, ?_⟩
  split at e2
  · cases e2
    have : l = [] := by cases r; rfl
    subst this
    exact (done_of c .refl).same g r
  · cases e2
    have : l = [] := by cases r <;> rfl
    subst this
    exact (done_of c .refl).same g r
  · cases e2
    obtain ⟨w, m, k2, r2, nz, g2⟩ := g.take e1
    rw [k1] at k2; cases k2
    obtain ⟨x3, g3⟩ := g2.share nz
    have rs : Rep K (fun a => F a ∨ a ∈ m) H (.list _) v := r2.shared rfl x3 fun a h => .inr h
    have g4 := Good.put (i := i) (g := g3.nil) (r := RepO.sh rs) (hz := fun _ h => by simp at h)
    rw [List.set_set] at g4
    have e3 : σ.set i (some v) = σ := by
      refine List.ext_getElem? fun j => ?_
      rw [List.getElem?_set]
      split
      · rename_i hj; subst hj
        split
        · exact k1.symm
        · rename_i hh
          have := (List.getElem?_eq_some_iff.mp k1).1
          omega
      · rfl
    rw [e3] at g4
    exact c v H _ [] x3 g4.nil (.sh rs) (fun _ h => by simp at h)
  · cases e2
theorem impMv {i : Nat} (h : tE K (evE fn (.mv i)) σ H Q) : tVar i σ H Q := by
  obtain ⟨F, Z, ρ, o, ρ', g, e, c⟩ := h
  simp only [evE, Option.map_eq_some_iff] at e
  obtain ⟨u, e1, e2⟩ := e
  cases e2
  obtain ⟨w, m, k2, r2, nz, g2⟩ := g.take (join_some e1)
  exact ⟨w, k2, c w H F m .refl g2 r2 nz⟩
theorem RepOs.ext {os : List O} {vs : List V} {l : List Addr} (r : RepOs K F H os vs l) (e : Ext F F' Z H H') (hz : ∀ a ∈ l, H' a = H a) : RepOs K F' H' os vs l := by
  induction r with
  | nil => exact .nil
  | cons r t d ih => exact .cons (r.ext e fun a h => hz a (List.mem_append_left _ h)) (ih fun a h => hz a (List.mem_append_right _ h)) d
theorem RepOs.alive {os : List O} {vs : List V} {l : List Addr} (r : RepOs K F H os vs l) : ∀ a ∈ l, H a ≠ none := by
  induction r with
  | nil => intro a h; simp at h
  | cons r t d ih => intro a h; rcases List.mem_append.mp h with h | h; exact r.alive a h; exact ih a h
theorem impLnil {k : List V → Hp → Prop} (h : tL K (evL fn .nil) σ H k) : tNil σ H k := by
  obtain ⟨F, Z, ρ, o, ρ', g, e, c⟩ := h
  cases e
  exact c [] H F [] .refl g.nil .nil (fun _ h => by simp at h)
theorem impLcons {e : E} {r : EL} {k : List V → Hp → Prop} (h : tL K (evL fn (.cons e r)) σ H k) : tCons (tE K (evE fn e)) (tL K (evL fn r)) σ H k := by
  obtain ⟨F, Z, ρ, os, ρ', g, q, c⟩ := h
  simp only [evL, Option.bind_eq_some_iff, Option.map_eq_some_iff] at q
  obtain ⟨⟨o, ρ1⟩, e1, ⟨os', ρ2⟩, e2, e3⟩ := q
  cases e3
  refine ⟨F, Z, ρ, o, ρ1, g, e1, fun v H1 F1 l x1 g1 r1 n1 => ?_⟩
  refine ⟨F1, Zp Z l, ρ1, os', _, g1, e2, fun vs H2 F2 m x2 g2 r2 n2 => ?_⟩
  refine c (v :: vs) H2 F2 (l ++ m) (x1.trans (x2.less fun _ h => .inl h)) (by rw [← Zp_app]; exact g2) (.cons (r1.ext x2 fun a h => x2.kz a (.inr h)) r2 fun a h1 h2 => n2 a h2 (.inr h1)) fun a h z => ?_
  rcases List.mem_append.mp h with h | h
  · exact n1 a h z
  · exact n2 a h (.inl z)
theorem impOEno {k : Option Int → Hp → Prop} (h : tOE K (evOE fn .no) σ H k) : tNoPart σ H k := by
  obtain ⟨F, Z, ρ, o, ρ', g, e, c⟩ := h
  cases e
  exact c H F .refl g
theorem impOEyes {e : E} {k : Option Int → Hp → Prop} (h : tOE K (evOE fn (.yes e)) σ H k) : tPart (tE K (evE fn e)) σ H k := by
  obtain ⟨F, Z, ρ, o, ρ', g, q, c⟩ := h
  simp only [evOE, Option.bind_eq_some_iff] at q
  obtain ⟨⟨u, ρ1⟩, e1, e2⟩ := q
  simp only at e2
  split at e2
  · cases e2
    refine ⟨F, Z, ρ, _, _, g, e1, fun v H1 F1 l x1 g1 r1 n1 => ?_⟩
    obtain ⟨rfl, rfl⟩ := r1.int_
    rw [Zp_nil] at g1
    exact ⟨_, rfl, c H1 F1 x1 g1⟩
  · cases e2
theorem RepO.tupO {v : V} {l : List Addr} {ds : List D} (r : RepO K F H o v l) (h : o.asT = some ds) : RepO K F H (.sh (.tuple ds)) v [] := by
  cases r with
  | sh r =>
    rename_i dd
    cases dd <;> simp only [O.asT, Option.some.injEq, reduceCtorEq] at h
    subst h
    exact .sh r
  | _ => simp [O.asT] at h

theorem RepL.slice {ds : List D} {vs : List V} (r : RepL K F H ds vs) (lo hi : Option Int) : RepL K F H (sliceD ds lo hi) (cutV vs lo hi) := by
  unfold sliceD cutV
  rw [← r.length]
  exact (r.drop _).take _
theorem impSl {a : A} {lo hi : OE} (h : tE K (evE fn (.slice a lo hi)) σ H Q) : tSl (fun x lo hi H Q => rSlL K x lo hi H Q ∨ rSlA K x lo hi H Q) (tA K fn a) (tOE K (evOE fn lo)) (tOE K (evOE fn hi)) σ H Q := by
  obtain ⟨F, Z, ρ, o, ρ', g, q, c⟩ := h
  simp only [evE, Option.bind_eq_some_iff, Option.map_eq_some_iff] at q
  obtain ⟨⟨x, ρ1⟩, e1, ⟨i, ρ2⟩, e2, ⟨j, ρ3⟩, e3, u, e4, w, e5, e6⟩ := q
  cases e6
  refine opnd g e1 fun v H1 F1 l x1 g1 r1 => ?_
  refine ⟨F1, Zp Z l, ρ1, i, ρ2, g1, e2, fun H2 F2 x2 g2 => ?_⟩
  refine ⟨F2, Zp Z l, ρ2, j, ρ3, g2, e3, fun H3 F3 x3 g3 => ?_⟩
  obtain ⟨m, r⟩ := (r1.ext x2 fun a h => .inr h).get x3 (fun a h => .inr h) g3 e4
  have d := done_of c (x1.trans ((x2.trans x3).less fun _ h => .inl h))
  have g3 := g3.less (Z' := Z) fun _ h => .inl h
  unfold pSlice at e5
  split at e5
  · rename_i ds e6
    cases e5
    obtain ⟨b, vs, rfl, h1, h2⟩ := r.asLs e6
    exact .inl ⟨b, vs, rfl, h1, d.lst g3 (h2.slice i j)⟩
  · simp only [Option.bind_eq_some_iff] at e5
    obtain ⟨ds, e6, e7⟩ := e5
    cases e7
    obtain ⟨b, vs, rfl, h1, h2⟩ := r.asT e6
    refine .inr ⟨b, vs, rfl, h1, fun hw => ?_, fun hw => d.tup g3 (h2.slice i j)⟩
    have : sliceD ds i j = ds := by
      unfold sliceD
      rw [h2.length, hw.1, hw.2, List.drop_zero, Nat.sub_zero, ← h2.length, List.take_length]
    rw [this] at d
    exact d.same g3 (r.tupO e6)
/-- all shared -/
theorem RepOs.shared : ∀ {os : List O} {vs : List V} {l : List Addr} {ds : List D}, RepOs K F H os vs l → fzAll os = some ds → Ext F F' Z H H → (∀ a ∈ l, F' a) → RepL K F' H ds vs
  | _, _, _, _, .nil, e, _, _ => by simp only [fzAll, Option.some.injEq] at e; subst e; exact .nil
  | _, _, _, _, .cons r t d, e, x, h => by
    simp only [fzAll, Option.bind_eq_some_iff, Option.map_eq_some_iff] at e
    obtain ⟨d1, e1, ds1, e2, e3⟩ := e
    subst e3
    exact .cons (r.shared e1 x fun a ha => h a (List.mem_append_left _ ha)) (RepOs.shared t e2 x fun a ha => h a (List.mem_append_right _ ha))
theorem impTup {es : EL} (h : tE K (evE fn (.tup es)) σ H Q) : tTup (tL K (evL fn es)) σ H Q := by
  obtain ⟨F, Z, ρ, o, ρ', g, q, c⟩ := h
  simp only [evE, Option.bind_eq_some_iff] at q
  obtain ⟨⟨os, ρ1⟩, e1, ds, e2, e3⟩ := q
  split at e3
  · rename_i hl
    cases e3
    refine ⟨F, Z, ρ, os, ρ1, g, e1, fun vs H1 F1 l x1 g1 r1 n1 => ?_⟩
    obtain ⟨x2, g2⟩ := g1.share n1
    have rl := r1.shared (Z := Z) e2 x2 fun a h => .inr h
    refine ⟨by rw [← rl.length]; exact of_decide_eq_true hl, ?_⟩
    exact Done.tup (done_of c (x1.trans x2)) g2 rl
  · cases e3
theorem impLst {es : EL} (h : tE K (evE fn (.lst es)) σ H Q) : tLst (tL K (evL fn es)) σ H Q := by
  obtain ⟨F, Z, ρ, o, ρ', g, q, c⟩ := h
  simp only [evE, Option.bind_eq_some_iff] at q
  obtain ⟨⟨os, ρ1⟩, e1, ds, e2, e3⟩ := q
  split at e3
  · rename_i hl
    cases e3
    refine ⟨F, Z, ρ, os, ρ1, g, e1, fun vs H1 F1 l x1 g1 r1 n1 => ?_⟩
    obtain ⟨x2, g2⟩ := g1.share n1
    have rl := r1.shared (Z := Z) e2 x2 fun a h => .inr h
    refine ⟨by rw [← rl.length]; exact of_decide_eq_true hl, ?_⟩
    exact Done.lst (done_of c (x1.trans x2)) g2 rl
  · cases e3

/-! ### walks -/
theorem walkD_list {a : Addr} {vs : List V} {ds : List D} (hf : F a ∨ ∀ H2, SqL K H2 a vs) (hs : SqL K H a vs) (r : RepL K F H ds vs) : WalkD K F H (Itl K a) ds := fun F2 H2 s k => by
  have hs2 : SqL K H2 a vs := by
    rcases hf with hf | hf
    · rcases hs with (hs | ⟨o, hs⟩) | hs
      · exact .inl (.inl (k _ _ hf hs))
      · exact .inl (.inr ⟨o, k _ _ hf hs⟩)
      · exact .inr hs
    · exact hf H2
  have r2 := r.mono s k
  refine ⟨fun i d e => ?_, ⟨vs, hs2, Nat.le_of_eq r2.length.symm⟩⟩
  obtain ⟨v, e1, rv⟩ := r2.get e
  refine ⟨⟨vs, v, hs2, e1⟩, fun x H3 y => ?_⟩
  obtain ⟨rfl, y⟩ := y
  have := y vs hs2
  rw [e1] at this
  cases this
  exact .inl ⟨rfl, rv⟩
theorem walkD_tup {a : Addr} {vs : List V} {ds : List D} (hf : ∀ H2, (∀ a o, F a → H a = some o → H2 a = some o) → SqT K H2 a vs) (r : RepL K F H ds vs) : WalkD K F H (Itt K a) ds := fun F2 H2 s k => by
  have hs2 : SqT K H2 a vs := hf H2 k
  have r2 := r.mono s k
  refine ⟨fun i d e => ?_, ⟨vs, hs2, Nat.le_of_eq r2.length.symm⟩⟩
  obtain ⟨v, e1, rv⟩ := r2.get e
  refine ⟨⟨vs, v, hs2, e1⟩, fun x H3 y => ?_⟩
  obtain ⟨rfl, y⟩ := y
  have := y vs hs2
  rw [e1] at this
  cases this
  exact .inl ⟨rfl, rv⟩
/-- a shared list, tuple stays readable -/
theorem Rep.tupS {v : V} {ds : List D} (r : Rep K F H (.tuple ds) v) : ∃ a vs, v = .ref a ∧ (∀ H2, (∀ a o, F a → H a = some o → H2 a = some o) → SqT K H2 a vs) ∧ RepL K F H ds vs := by
  cases r with
  | tup f e r => exact ⟨_, _, rfl, fun H2 k => .inl (.inl (k _ _ f e)), r⟩
  | tupK h1 h2 h3 h4 h5 r => exact ⟨_, _, rfl, fun H2 k => .inr ⟨_, _, _, h1, h2, h3, h4, h5⟩, r⟩
theorem RepO.lsS {v : V} {l : List Addr} {ds : List D} (r : RepO K F H o v l) (h : o.asLs = some ds) (e : Ext F F' Z H H) (hl : ∀ a ∈ l, F' a) : ∃ a vs, v = .ref a ∧ (∀ H2, (∀ a o, F' a → H a = some o → H2 a = some o) → SqL K H2 a vs) ∧ RepL K F' H ds vs := by
  cases r with
  | sh r =>
    cases r with
    | lst f q r => simp only [O.asLs, Option.some.injEq] at h; subst h; exact ⟨_, _, rfl, fun H2 k => .inl (.inl (k _ _ (e.sub _ f) q)), r.ext e⟩
    | _ => simp [O.asLs] at h
  | lst q r => simp only [O.asLs, Option.some.injEq] at h; subst h; exact ⟨_, _, rfl, fun H2 k => .inl (.inl (k _ _ (hl _ (by simp)) q)), r.ext e⟩
  | scr f q => simp only [O.asLs, Option.some.injEq] at h; subst h; exact ⟨_, _, rfl, fun H2 k => .inl (.inr ⟨_, k _ _ (e.sub _ f) q⟩), RepL.of_ints _⟩
  | scrK h1 h2 h3 h4 h5 h6 => simp only [O.asLs, Option.some.injEq] at h; subst h; exact ⟨_, _, rfl, fun H2 k => .inr ⟨_, _, _, h1, h2, h3, h4, h5, h6⟩, RepL.of_ints _⟩
  | dct _ _ => simp [O.asLs] at h
  | fdct _ _ _ => simp [O.asLs] at h
theorem RepO.tS {v : V} {l : List Addr} {ds : List D} (r : RepO K F H o v l) (h : o.asT = some ds) (e : Ext F F' Z H H) : ∃ a vs, v = .ref a ∧ (∀ H2, (∀ a o, F' a → H a = some o → H2 a = some o) → SqT K H2 a vs) ∧ RepL K F' H ds vs := by
  cases r with
  | sh r =>
    rename_i dd
    cases dd <;> simp only [O.asT, Option.some.injEq, reduceCtorEq] at h
    subst h
    exact (r.ext e).tupS
  | _ => simp [O.asT] at h
theorem walkD_list' {a : Addr} {vs : List V} {ds : List D} (hf : ∀ H2, (∀ a o, F a → H a = some o → H2 a = some o) → SqL K H2 a vs) (r : RepL K F H ds vs) : WalkD K F H (Itl K a) ds := fun F2 H2 s k => by
  have hs2 : SqL K H2 a vs := hf H2 k
  have r2 := r.mono s k
  refine ⟨fun i d e => ?_, ⟨vs, hs2, Nat.le_of_eq r2.length.symm⟩⟩
  obtain ⟨v, e1, rv⟩ := r2.get e
  refine ⟨⟨vs, v, hs2, e1⟩, fun x H3 y => ?_⟩
  obtain ⟨rfl, y⟩ := y
  have := y vs hs2
  rw [e1] at this
  cases this
  exact .inl ⟨rfl, rv⟩
abbrev TIk := It → Hp → Prop
theorem impSeq {a : E} {R : TIk} (h : tI K (evI fn (.seq a)) σ H R) : iList K (tE K (evE fn a)) σ H R ∨ iTup K (tE K (evE fn a)) σ H R := by
  obtain ⟨F, Z, ρ, ds, ρ', g, q, c⟩ := h
  simp only [evI, Option.bind_eq_some_iff, Option.map_eq_some_iff] at q
  obtain ⟨⟨o, ρ1⟩, e1, ds', e2, e3⟩ := q
  cases e3
  unfold O.asQ at e2
  split at e2
  · rename_i es e3
    cases e2
    refine .inl ⟨F, Z, ρ, o, _, g, e1, fun v H1 F1 l x1 g1 r1 n1 => ?_⟩
    obtain ⟨x2, g2⟩ := g1.share n1
    obtain ⟨b, vs, rfl, hs, rl⟩ := r1.lsS e3 x2 fun a h => .inr h
    exact ⟨b, rfl, ⟨vs, hs H1 fun _ _ _ h => h⟩, c _ H1 _ (x1.trans x2) g2 (walkD_list' hs rl)⟩
  · refine .inr ⟨F, Z, ρ, o, _, g, e1, fun v H1 F1 l x1 g1 r1 n1 => ?_⟩
    obtain ⟨x2, g2⟩ := g1.share n1
    obtain ⟨b, vs, rfl, hs, rl⟩ := r1.tS e2 x2
    exact ⟨b, rfl, ⟨vs, hs H1 fun _ _ _ h => h⟩, c _ H1 _ (x1.trans x2) g2 (walkD_tup hs rl)⟩
theorem walkD_range {i j : Int} : WalkD K F H (Itr i (j - i).toNat) (rangeD i j) := fun F2 H2 s k => by
  have hl : (rangeD i j).length = (j - i).toNat := by simp [rangeD]
  refine ⟨fun n d e => ?_, Nat.le_of_eq hl.symm⟩
  have hn : n < (j - i).toNat := by rw [← hl]; exact (List.getElem?_eq_some_iff.mp e).1
  refine ⟨hn, fun x H3 y => ?_⟩
  obtain ⟨rfl, rfl⟩ := y
  unfold rangeD at e
  rw [List.getElem?_map, List.getElem?_range hn] at e
  cases e
  exact .inl ⟨rfl, .int _⟩
theorem impRange1 {a : E} {R : TIk} (h : tI K (evI fn (.range1 a)) σ H R) : iRng1 (tCons (tE K (evE fn a)) tNil) σ H R := by
  obtain ⟨F, Z, ρ, ds, ρ', g, q, c⟩ := h
  simp only [evI, Option.bind_eq_some_iff] at q
  obtain ⟨⟨o, ρ1⟩, e1, e2⟩ := q
  simp only at e2
  split at e2
  · split at e2
    · rename_i hb
      cases e2
      refine ⟨F, Z, ρ, _, _, g, e1, fun v H1 F1 l x1 g1 r1 n1 => ?_⟩
      obtain ⟨rfl, rfl⟩ := r1.int_
      rw [Zp_nil] at g1
      unfold i62 at hb
      simp only [Bool.and_eq_true, decide_eq_true_eq] at hb
      refine ⟨_, rfl, hb.1, hb.2, ?_⟩
      have w := walkD_range (K := K) (F := F1) (H := H1) (i := 0) (j := by assumption)
      rw [Int.sub_zero] at w
      exact c _ H1 F1 x1 g1 w
    · cases e2
  · cases e2
theorem impRange2 {a b : E} {R : TIk} (h : tI K (evI fn (.range2 a b)) σ H R) : iRng2 (tCons (tE K (evE fn a)) (tCons (tE K (evE fn b)) tNil)) σ H R := by
  obtain ⟨F, Z, ρ, ds, ρ', g, q, c⟩ := h
  simp only [evI, Option.bind_eq_some_iff] at q
  obtain ⟨⟨o, ρ1⟩, e1, ⟨u, ρ2⟩, e2, e3⟩ := q
  simp only at e3
  split at e3
  · split at e3
    · rename_i hb
      cases e3
      refine ⟨F, Z, ρ, _, _, g, e1, fun v H1 F1 l x1 g1 r1 n1 => ?_⟩
      obtain ⟨rfl, rfl⟩ := r1.int_
      rw [Zp_nil] at g1
      refine ⟨F1, Z, _, _, _, g1, e2, fun v H2 F2 l x2 g2 r2 n2 => ?_⟩
      obtain ⟨rfl, rfl⟩ := r2.int_
      rw [Zp_nil] at g2
      unfold i62 at hb
      simp only [Bool.and_eq_true, decide_eq_true_eq] at hb
      exact ⟨_, _, rfl, ⟨hb.1.1, hb.1.2, hb.2.1, hb.2.2⟩, c _ H2 F2 (x1.trans x2) g2 walkD_range⟩
    · cases e3
  · cases e3
theorem zip_get {α β γ : Type} {f : α × β → γ} {xs : List α} {ys : List β} {i : Nat} {z : γ} (h : ((xs.zip ys).map f)[i]? = some z) : ∃ x y, xs[i]? = some x ∧ ys[i]? = some y ∧ z = f (x, y) := by
  rw [List.getElem?_map] at h
  simp only [Option.map_eq_some_iff] at h
  obtain ⟨⟨x, y⟩, h1, h2⟩ := h
  rw [List.getElem?_zip_eq_some] at h1
  exact ⟨x, y, h1.1, h1.2, h2.symm⟩
theorem walkD_zipL {a b : Addr} {vs ws : List V} {xs ys : List D} (ha : ∀ H2, (∀ a o, F a → H a = some o → H2 a = some o) → SqL K H2 a vs) (hb : ∀ H2, (∀ a o, F a → H a = some o → H2 a = some o) → SqL K H2 b ws)
    (r : RepL K F H xs vs) (q : RepL K F H ys ws) : WalkD K F H (Itz K a b) ((xs.zip ys).map fun p => .tuple [p.1, p.2]) := fun F2 H2 s k => by
  have r2 := r.mono s k
  have q2 := q.mono s k
  refine ⟨fun i d e => ?_, ⟨vs, ws, ha H2 k, hb H2 k, ?_⟩⟩
  · obtain ⟨x, y, e1, e2, rfl⟩ := zip_get e
    obtain ⟨v, e3, rv⟩ := r2.get e1
    obtain ⟨w, e4, rw'⟩ := q2.get e2
    refine ⟨⟨vs, ws, v, w, ha H2 k, hb H2 k, e3, e4⟩, fun z H3 yy => ?_⟩
    obtain ⟨T, x', y', h1, h2, h3, h4, h5⟩ := yy
    have h4 := h4 vs (ha H2 k)
    have h5 := h5 ws (hb H2 k)
    rw [e3] at h4; cases h4
    rw [e4] at h5; cases h5
    exact .inr ⟨T, _, _, h1, h2, h3, rfl, .cons rv (.cons rw' .nil)⟩
  · rw [List.length_map, List.length_zip, ← r.length, ← q.length]
    omega
theorem walkD_zipT {a b : Addr} {vs ws : List V} {xs ys : List D} (ha : ∀ H2, (∀ a o, F a → H a = some o → H2 a = some o) → SqT K H2 a vs) (hb : ∀ H2, (∀ a o, F a → H a = some o → H2 a = some o) → SqT K H2 b ws)
    (r : RepL K F H xs vs) (q : RepL K F H ys ws) : WalkD K F H (ItzT K a b) ((xs.zip ys).map fun p => .tuple [p.1, p.2]) := fun F2 H2 s k => by
  have r2 := r.mono s k
  have q2 := q.mono s k
  refine ⟨fun i d e => ?_, ⟨vs, ws, ha H2 k, hb H2 k, ?_⟩⟩
  · obtain ⟨x, y, e1, e2, rfl⟩ := zip_get e
    obtain ⟨v, e3, rv⟩ := r2.get e1
    obtain ⟨w, e4, rw'⟩ := q2.get e2
    refine ⟨⟨vs, ws, v, w, ha H2 k, hb H2 k, e3, e4⟩, fun z H3 yy => ?_⟩
    obtain ⟨T, x', y', h1, h2, h3, h4, h5⟩ := yy
    have h4 := h4 vs (ha H2 k)
    have h5 := h5 ws (hb H2 k)
    rw [e3] at h4; cases h4
    rw [e4] at h5; cases h5
    exact .inr ⟨T, _, _, h1, h2, h3, rfl, .cons rv (.cons rw' .nil)⟩
  · rw [List.length_map, List.length_zip, ← r.length, ← q.length]
    omega
theorem impZip {a b : E} {R : TIk} (h : tI K (evI fn (.zip a b)) σ H R) : iZipA K (tCons (tE K (evE fn a)) (tCons (tE K (evE fn b)) tNil)) σ H R := by
  obtain ⟨F, Z, ρ, ds, ρ', g, q, c⟩ := h
  simp only [evI, Option.bind_eq_some_iff, Option.map_eq_some_iff] at q
  obtain ⟨⟨o, ρ1⟩, e1, ⟨u, ρ2⟩, e2, zs, e3, e4⟩ := q
  cases e4
  refine ⟨F, Z, ρ, _, _, g, e1, fun v H1 F1 l x1 g1 r1 n1 => ?_⟩
  refine ⟨F1, Zp Z l, _, _, _, g1, e2, fun w H2 F2 m x2 g2 r2 n2 => ?_⟩
  have r1' := r1.ext x2 fun a h => x2.kz a (.inr h)
  rw [Zp_app] at g2
  have nn : ∀ a ∈ l ++ m, ¬ Z a := fun a h z => by
    rcases List.mem_append.mp h with h | h
    · exact n1 a h z
    · exact n2 a h (.inl z)
  obtain ⟨x3, g3⟩ := g2.share nn
  have xx := (x1.trans (x2.less (Z' := Z) fun _ h => .inl h)).trans x3
  unfold pZip at e3
  split at e3
  · rename_i xs f1
    simp only [Option.map_eq_some_iff] at e3
    obtain ⟨ys, f2, f3⟩ := e3
    subst f3
    obtain ⟨b1, vs, rfl, hs, rl⟩ := r1'.lsS f1 x3 fun a h => .inr (List.mem_append_left _ h)
    obtain ⟨b2, ws, rfl, hs2, rl2⟩ := r2.lsS f2 x3 fun a h => .inr (List.mem_append_right _ h)
    exact ⟨b1, b2, vs, ws, rfl, .inl ⟨hs _ fun _ _ _ h => h, hs2 _ fun _ _ _ h => h, c _ _ _ xx g3 (walkD_zipL hs hs2 rl rl2)⟩⟩
  · simp only [Option.bind_eq_some_iff, Option.map_eq_some_iff] at e3
    obtain ⟨xs, f1, ys, f2, f3⟩ := e3
    subst f3
    obtain ⟨b1, vs, rfl, hs, rl⟩ := r1'.tS f1 x3
    obtain ⟨b2, ws, rfl, hs2, rl2⟩ := r2.tS f2 x3
    exact ⟨b1, b2, vs, ws, rfl, .inr ⟨hs _ fun _ _ _ h => h, hs2 _ fun _ _ _ h => h, c _ _ _ xx g3 (walkD_zipT hs hs2 rl rl2)⟩⟩
theorem walkD_enum {a : Addr} {vs : List V} {xs : List D} (ha : ∀ H2, (∀ a o, F a → H a = some o → H2 a = some o) → SqL K H2 a vs) (r : RepL K F H xs vs) :
    WalkD K F H (Ite K a) ((xs.zipIdx).map fun p => .tuple [.int (p.2 : Nat), p.1]) := fun F2 H2 s k => by
  have r2 := r.mono s k
  refine ⟨fun i d e => ?_, ⟨vs, ha H2 k, ?_⟩⟩
  · rw [List.getElem?_map] at e
    simp only [Option.map_eq_some_iff] at e
    obtain ⟨⟨x, j⟩, e1, e2⟩ := e
    rw [List.getElem?_zipIdx] at e1
    simp only [Option.map_eq_some_iff] at e1
    obtain ⟨x', e3, e4⟩ := e1
    simp only [Nat.zero_add, Prod.mk.injEq] at e4
    obtain ⟨rfl, rfl⟩ := e4
    subst e2
    obtain ⟨v, e5, rv⟩ := r2.get e3
    refine ⟨⟨vs, v, ha H2 k, e5⟩, fun z H3 yy => ?_⟩
    obtain ⟨T, x, h1, h2, h3, h4⟩ := yy
    have h4 := h4 vs (ha H2 k)
    rw [e5] at h4; cases h4
    exact .inr ⟨T, _, _, h1, h2, h3, rfl, .cons (.int _) (.cons rv .nil)⟩
  · rw [List.length_map, List.length_zipIdx, ← r.length]
    exact Nat.le_refl _
theorem impEnum {a : E} {R : TIk} (h : tI K (evI fn (.enum a)) σ H R) : iEnum K (tCons (tE K (evE fn a)) tNil) σ H R := by
  obtain ⟨F, Z, ρ, ds, ρ', g, q, c⟩ := h
  simp only [evI, Option.bind_eq_some_iff, Option.map_eq_some_iff] at q
  obtain ⟨⟨o, ρ1⟩, e1, zs, e3, e4⟩ := q
  cases e4
  refine ⟨F, Z, ρ, _, _, g, e1, fun v H1 F1 l x1 g1 r1 n1 => ?_⟩
  obtain ⟨x3, g3⟩ := g1.share n1
  obtain ⟨b1, vs, rfl, hs, rl⟩ := r1.lsS e3 x3 fun a h => .inr h
  exact ⟨b1, vs, rfl, hs _ fun _ _ _ h => h, c _ _ _ (x1.trans x3) g3 (walkD_enum hs rl)⟩

/-! ### targets -/
def gNms : List Nat → TGs
  | [] => gNil
  | i :: r => gCons (gName i) (gNms r)
def gG (K : PySem.W.Frag) : G → TG
  | .nm i => gName i
  | .tp is => gTup K is.length (gNms is)
theorem setAll_ok {k : St → Hp → Prop} : ∀ {is : List Nat} {ds : List D} {vs : List V} {ρ ρ' : Ev} {σ : St}, setAll ρ is ds = some ρ' → RepL K F H ds vs → Good K F Z H ρ σ → (∀ σ', Good K F Z H ρ' σ' → (∀ j, j ∉ is → σ'[j]? = σ[j]?) → k σ' H) → gNms is vs σ H k
  | [], [], _, ρ, ρ', σ, e, .nil, g, c => by
    simp only [setAll, Option.some.injEq] at e
    subst e
    exact ⟨rfl, c σ g fun _ _ => rfl⟩
  | i :: is, d :: ds, _, ρ, ρ', σ, e, .cons r t, g, c => by
    simp only [setAll] at e
    refine ⟨_, _, rfl, ?_⟩
    refine setAll_ok e t (g.nil.put (.sh r) (fun _ h => by simp at h) i) fun σ' g' h => c σ' g' fun j hj => ?_
    simp only [List.mem_cons, not_or] at hj
    rw [h j hj.2, List.getElem?_set_ne (Ne.symm hj.1)]
  | [], _ :: _, _, _, _, _, e, _, _, _ => by simp [setAll] at e
  | _ :: _, [], _, _, _, _, e, _, _, _ => by simp [setAll] at e
theorem RepL_len {ds : List D} {vs : List V} (r : RepL K F H ds vs) : vs.length = ds.length := r.length.symm
theorem setAll_len : ∀ {is : List Nat} {ds : List D} {ρ ρ' : Ev}, setAll ρ is ds = some ρ' → ds.length = is.length
  | [], [], _, _, _ => rfl
  | _ :: is, _ :: ds, _, _, e => by simp only [setAll] at e; simp [setAll_len e]
  | [], _ :: _, _, _, e => by simp [setAll] at e
  | _ :: _, [], _, _, e => by simp [setAll] at e
def G.ixs : G → List Nat
  | .nm i => [i]
  | .tp is => is
theorem bindG_ok {gg : G} {d : D} {v : V} {k : St → Hp → Prop} (e : bindG gg ρ d = some ρ1) (r : Rep K F H d v) (g : Good K F Z H ρ σ) (c : ∀ σ', Good K F Z H ρ1 σ' → (∀ j, j ∉ gg.ixs → σ'[j]? = σ[j]?) → k σ' H) : gG K gg v σ H k := by
  cases gg with
  | nm i =>
    simp only [bindG, Option.some.injEq] at e
    subst e
    exact c _ (g.nil.put (.sh r) (fun _ h => by simp at h) i) fun j hj => by
      simp only [G.ixs, List.mem_singleton] at hj
      rw [List.getElem?_set_ne (Ne.symm hj)]
  | tp is =>
    cases d <;> simp only [bindG, reduceCtorEq] at e
    obtain ⟨a, vs, rfl, h1, h2⟩ := r.tup_
    exact ⟨a, vs, rfl, h1, by rw [RepL_len h2, setAll_len e], setAll_ok e h2 g c⟩
/-- what a walk gives, made known -/
theorem Yl.ok {x : V} {d : D} (y : Yl K F H x H' d) (g : Good K F Z H ρ σ) : ∃ F', Ext F F' Z H H' ∧ Good K F' Z H' ρ σ ∧ Rep K F' H' d x ∧ (∀ a, F' a → ¬ F a → H a = none) := by
  rcases y with ⟨rfl, r⟩ | ⟨p, vs, ds, rfl, hp, rfl, rfl, r⟩
  · exact ⟨F, .refl, g, r, fun a h n => (n h).elim⟩
  · obtain ⟨e, g'⟩ := g.newF (ob := .tup vs) hp
    exact ⟨_, e, g', .tup (.inr rfl) upd_same (r.ext e), fun a h n => by
      rcases h with h | h
      · exact (n h).elim
      · rw [h]; exact hp⟩

/-! ### comprehensions -/
theorem Good.wipes : ∀ {vs : List Nat}, Good K F Z H ρ σ → Good K F Z H (wipeEv ρ vs) (wipe σ vs)
  | [], g => g
  | v :: vs, g => (Good.wipes (vs := vs) g).drop v none
theorem Good.unwipe {vs : List Nat} (g : Good K F Z H ρ (wipe σ vs)) : Good K F Z H ρ σ := by
  obtain ⟨fp, g⟩ := g
  refine ⟨fp, g.len.trans (wipe_length _ _), fun i o e => ?_, g.dis, g.fa, g.ff, g.fz, g.al, g.zf, g.za⟩
  obtain ⟨v, h1, h2⟩ := g.rep i o e
  exact ⟨v, (wipe_some h1).1, h2⟩
/-- a list that the context holds is written -/
theorem Good.mut {p : Addr} {ob : HO} (g : Good K F Z H ρ σ) (hz : Z p) : Good K F Z (upd H p ob) ρ σ := by
  obtain ⟨fp, g⟩ := g
  have np : ∀ a, F a → a ≠ p := fun a f e => g.zf a f (e ▸ hz)
  have nq : ∀ i a, a ∈ fp i → a ≠ p := fun i a h e => g.fz i a h (e ▸ hz)
  have x : Ext F F (fun _ => False) H (upd H p ob) := ⟨fun _ h => h, fun a o f h => by rw [upd_ne (np a f)]; exact h, fun _ z => z.elim⟩
  refine ⟨fp, g.len, fun i o e => ?_, g.dis, fun i a h => ?_, g.ff, g.fz, fun a f => ?_, g.zf, fun a z => ?_⟩
  · obtain ⟨v, h1, h2⟩ := g.rep i o e
    exact ⟨v, h1, h2.ext x fun a h => upd_ne (nq i a h)⟩
  · rw [upd_ne (nq i a h)]; exact g.fa i a h
  · rw [upd_ne (np a f)]; exact g.al a f
  · by_cases e : a = p
    · rw [e, upd_same]; simp
    · rw [upd_ne e]; exact g.za a z
theorem mutExt {p : Addr} {ob : HO} (np : ∀ a, F a → a ≠ p) (nz : ¬ Z p) : Ext F F Z H (upd H p ob) :=
  ⟨fun _ h => h, fun a o f h => by rw [upd_ne (np a f)]; exact h, fun a z => upd_ne fun e => nz (e ▸ z)⟩
theorem wipe_get {σ τ : St} : ∀ {vs : List Nat}, (∀ j, j ∉ vs → τ[j]? = σ[j]?) → τ.length = σ.length → wipe τ vs = wipe σ vs := fun {vs} h hl => by
  have key : ∀ (vs : List Nat) (τ : St) (j : Nat), (wipe τ vs)[j]? = if j ∈ vs then (if j < τ.length then some none else none) else τ[j]? := by
    intro vs
    induction vs with
    | nil => intro τ j; simp [wipe]
    | cons v vs ih =>
      intro τ j
      unfold wipe
      rw [List.getElem?_set]
      by_cases e : v = j
      · subst e
        simp only [if_true, List.mem_cons, true_or, wipe_length]
      · rw [if_neg e, ih]
        simp only [List.mem_cons, Ne.symm e, false_or]
  refine List.ext_getElem? fun j => ?_
  rw [key, key, hl]
  split
  · rfl
  · rename_i hj
    exact h j hj
theorem Good.len {K : PySem.W.Frag} {F Z : AS} {H : Hp} {ρ : Ev} {σ : St} (g : Good K F Z H ρ σ) : ρ.length = σ.length := let ⟨_, g⟩ := g; g.len
theorem setAll_size : ∀ {is : List Nat} {ds : List D} {ρ ρ' : Ev}, setAll ρ is ds = some ρ' → ρ'.length = ρ.length
  | [], [], _, _, e => by simp only [setAll, Option.some.injEq] at e; rw [e]
  | i :: is, d :: ds, _, _, e => by simp only [setAll] at e; rw [setAll_size e, List.length_set]
  | [], _ :: _, _, _, e => by simp [setAll] at e
  | _ :: _, [], _, _, e => by simp [setAll] at e
theorem bindG_size {gg : G} {d : D} (e : bindG gg ρ d = some ρ1) : ρ1.length = ρ.length := by
  cases gg with
  | nm i => simp only [bindG, Option.some.injEq] at e; rw [← e, List.length_set]
  | tp is => cases d <;> simp only [bindG, reduceCtorEq] at e; exact setAll_size e
theorem impComp {own : List Nat} {gg : G} {it : I} {c : T} {elt : E} (hown : ∀ j ∈ gg.ixs, j ∈ own) (h : tE K (evE fn (.comp own gg it c elt)) σ H Q) :
    tLc (tI K (evI fn it)) (gG K gg) (tT K (evT fn c)) (tE K (evE fn elt)) own σ H Q := by
  obtain ⟨F, Z, ρ, o, ρ', g, q, d⟩ := h
  simp only [evE, Option.bind_eq_some_iff, Option.map_eq_some_iff] at q
  obtain ⟨⟨ds, ρ1⟩, e1, ⟨xs, ρ2⟩, e2, e3⟩ := q
  cases e3
  refine ⟨F, Z, ρ, ds, ρ1, g, e1, fun J H1 F1 x1 g1 w1 => ?_⟩
  intro D hD
  obtain ⟨xd, gd, nzD⟩ := g1.new (ob := .lst []) hD
  have nf1 : ¬ F1 D := fun f => by obtain ⟨fp, g1⟩ := g1; exact g1.al D f hD
  refine ⟨fun i m H2 => m = ds.length - i ∧ i ≤ ds.length ∧ ∃ F2 ρ2' acc vs, Ext F1 F2 Z H1 H2 ∧ Good K F2 (Zp Z [D]) H2 ρ2' (wipe σ own) ∧ H2 D = some (.lst vs) ∧ RepL K F2 H2 acc vs ∧
      compGo own (bindG gg) (evT fn c) (evE fn elt) (ds.drop i) ρ2' acc = some (xs, ρ2), ⟨ds.length, by simp, Nat.zero_le _, F1, wipeEv ρ1 own, [], [], xd, gd.wipes, upd_same, .nil, e2⟩, ?_⟩
  rintro i m H2 ⟨rfl, hi, F2, ρ3, acc, vs, x2, g2, hD2, rl, eg⟩
  obtain ⟨wg, ws⟩ := w1 F2 H2 x2.sub x2.kf
  by_cases hlt : i < ds.length
  · obtain ⟨dd, hd⟩ : ∃ dd, ds[i]? = some dd := ⟨ds[i], by simp [hlt]⟩
    obtain ⟨go, yl⟩ := wg i dd hd
    have hdr : ds.drop i = dd :: ds.drop (i + 1) := by
      rw [List.drop_eq_getElem_cons hlt]
      have := (List.getElem?_eq_some_iff.mp hd).2
      rw [this]
    rw [hdr] at eg
    simp only [compGo, Option.bind_eq_some_iff] at eg
    obtain ⟨ρ4, f1, ⟨b, ρ5⟩, f2, f3⟩ := eg
    refine .inr ⟨go, fun H3 => ∃ F2 ρ2' acc vs, Ext F1 F2 Z H1 H3 ∧ Good K F2 (Zp Z [D]) H3 ρ2' (wipe σ own) ∧ H3 D = some (.lst vs) ∧ RepL K F2 H3 acc vs ∧
      compGo own (bindG gg) (evT fn c) (evE fn elt) (ds.drop (i + 1)) ρ2' acc = some (xs, ρ2), fun H' hn => ⟨ds.length - (i + 1), by omega, rfl, hlt, hn⟩, fun x H3 y => ?_⟩
    obtain ⟨F3, x3, g3, rx, _⟩ := (yl x H3 y).ok g2
    refine bindG_ok f1 rx g3 fun σ4 g4 hσ => ?_
    have hw : wipe σ4 own = wipe σ own := by
      have l4 : σ4.length = (wipe σ own).length := by rw [← g4.len, ← g3.len, bindG_size f1]
      have : wipe σ4 own = wipe (wipe σ own) own := wipe_get (fun j hj => hσ j fun h => hj (hown j h)) l4
      rw [this]
      refine (wipe_get (vs := own) (fun j hj => ?_) (wipe_length _ _))
      have key : ∀ (vs : List Nat) (τ : St) (j : Nat), j ∉ vs → (wipe τ vs)[j]? = τ[j]? := by
        intro vs
        induction vs with
        | nil => intro τ j _; rfl
        | cons v vs ih =>
          intro τ j hj
          simp only [List.mem_cons, not_or] at hj
          unfold wipe
          rw [List.getElem?_set_ne (Ne.symm hj.1), ih τ j hj.2]
      exact key own σ j hj
    refine ⟨hw, F3, Zp Z [D], ρ4, b, ρ5, g4, f2, fun H5 F5 x5 g5 => ?_⟩
    have xa : Ext F1 F5 Z H1 H5 := x2.trans ((x3.trans x5).less fun _ h => .inl h)
    have hD5 : H5 D = some (.lst vs) := by rw [x5.kz D (.inr (by simp)), x3.kz D (.inr (by simp))]; exact hD2
    cases b with
    | false =>
      simp only [Bool.false_eq_true, if_false] at f3
      show ∃ _, _
      exact ⟨F5, _, acc, vs, xa, by rw [← hw]; exact g5.wipes, hD5, rl.ext (x3.trans x5), f3⟩
    | true =>
      simp only [if_true, Option.bind_eq_some_iff] at f3
      obtain ⟨⟨u, ρ6⟩, f4, z, f5, f6⟩ := f3
      split at f6
      · rename_i hl
        refine ⟨F5, Zp Z [D], ρ5, u, ρ6, g5, f4, fun v H6 F6 l x6 g6 r6 n6 => ?_⟩
        obtain ⟨x7, g7⟩ := g6.share n6
        have rz := r6.shared f5 x7 fun a h => .inr h
        have hD6 : H6 D = some (.lst vs) := by rw [x6.kz D (.inr (by simp))]; exact hD5
        have rl6 := rl.ext ((x3.trans x5).trans (x6.trans x7))
        have npD : ∀ a, (F6 a ∨ a ∈ l) → a ≠ D := fun a f e => by
          obtain ⟨fp, g7⟩ := g7
          exact g7.zf a f (.inr (by simp [e]))
        have xm := mutExt (H := H6) (ob := .lst (vs ++ [v])) (Z := Z) npD nzD
        refine ⟨vs, hD6, by rw [← rl6.length]; exact of_decide_eq_true hl, _, _, acc ++ [z], vs ++ [v], (xa.trans ((x6.trans x7).less fun _ h => .inl h)).trans xm, ?_, upd_same, (rl6.append (.cons rz .nil)).ext xm, f6⟩
        rw [← hw]
        exact (g7.mut (.inr (by simp))).wipes
      · cases f6
  · have hi' : i = ds.length := by omega
    subst hi'
    rw [List.drop_length] at eg
    simp only [compGo, Option.some.injEq, Prod.mk.injEq] at eg
    obtain ⟨rfl, rfl⟩ := eg
    refine .inl ⟨ws, ?_⟩
    refine d (.ref D) H2 F2 [D] (x1.trans x2) g2.unwipe (.lst hD2 rl) fun a h => ?_
    simp only [List.mem_singleton] at h
    subst h
    exact nzD
/-! ### dicts -/
theorem impDnew (h : tE K (evE fn .dnew) σ H Q) : tDNewK σ H Q := by
  obtain ⟨F, Z, ρ, o, ρ', g, e, d⟩ := h
  cases e
  intro p hp
  obtain ⟨x1, g1, n⟩ := g.new (ob := .dK []) hp
  exact d _ _ _ [p] x1 g1 (.dct upd_same .nil) fun a h => by
    simp only [List.mem_singleton] at h
    rw [h]
    exact n
theorem isDct_ok {x : Option O} (h : isDct x = true) : ∃ ds, x = some (.dct ds) := by
  match x, h with
  | some (.dct ds), _ => exact ⟨ds, rfl⟩
theorem impDget {i : Nat} {kx e : E} (h : tE K (evE fn (.dget i kx e)) σ H Q) : tDGet2 (tVar i) (tE K (evE fn kx)) (tE K (evE fn e)) σ H Q := by
  obtain ⟨F, Z, ρ, o, ρ', g, q, d⟩ := h
  simp only [evE] at q
  split at q
  · rename_i hi
    obtain ⟨ds0, e0⟩ := isDct_ok hi
    simp only [Option.bind_eq_some_iff] at q
    obtain ⟨⟨ok, ρ1⟩, e1, ⟨od, ρ2⟩, e2, x, e3, e4⟩ := q
    obtain ⟨v0, l0, k0, r0⟩ := g.get (join_some e0)
    refine ⟨v0, k0, ?_⟩
    cases r0 with
    | dct hd0 rd0 =>
      rename_i a vs0
      refine ⟨a, rfl, .inl ⟨_, .inl hd0⟩, F, Z, ρ, ok, ρ1, g, e1, fun y H1 F1 l1 x1 g1 r1 n1 => ?_⟩
      refine ⟨F1, Zp Z l1, ρ1, od, ρ2, g1, e2, fun z H2 F2 l2 x2 g2 r2 n2 => ?_⟩
      simp only at e4
      split at e4
      · rename_i kvs k
        simp only [Option.map_eq_some_iff] at e4
        obtain ⟨key, e5, e6⟩ := e4
        obtain ⟨v1, l3, k1, r3⟩ := g2.get (join_some e3)
        rw [k0] at k1
        cases k1
        cases r3 with
        | dct hd rd =>
          rename_i vs
          have hk := dKey_ok r1 e5
          subst hk
          have x12 : Ext F F2 Z H H2 := x1.trans (x2.less fun _ h => .inl h)
          have gz : Good K F2 (Zp Z l2) H2 ρ2 σ := g2.less fun a h => h.elim (fun z => .inl (.inl z)) .inr
          refine ⟨valV vs key, DGet.k hd, ?_⟩
          split at e6
          · rename_i dv e7
            cases e6
            obtain ⟨vv, e8, rv⟩ := (rd.val key).1 _ e7
            rw [e8]
            exact d vv H2 F2 [] x12 (gz.less (Z' := Z) fun _ h => .inl h).nil (.sh rv) (fun _ h => by simp at h)
          · rename_i e7
            cases e6
            rw [(rd.val key).2 e7]
            exact d z H2 F2 l2 x12 gz r2 fun a h hz => n2 a h (.inl hz)
      · cases e4
  · cases q
theorem asL_data {o : O} {ds : List PyData} (e : o.asL = some ds) : o.data = some (.list ds) := by
  cases o with
  | sh z => cases z <;> simp only [O.asL, Option.some.injEq, reduceCtorEq] at e; subst e; rfl
  | lst z => simp only [O.asL, Option.some.injEq] at e; subst e; rfl
  | _ => simp [O.asL] at e
theorem indexD_ok {d : PyData} : ∀ {ds : List PyData} {j : Nat}, indexD d ds = some j → ∃ z, ds[j]? = some z ∧ PyData.eqv z d = true ∧ ∀ (m : Nat) (z' : PyData), m < j → ds[m]? = some z' → PyData.eqv z' d = false
  | [], j, h => by simp [indexD] at h
  | z :: r, j, h => by
    unfold indexD at h
    split at h
    · rename_i e
      cases h
      exact ⟨z, rfl, e, fun m z' hm => by omega⟩
    · rename_i e
      simp only [Option.map_eq_some_iff] at h
      obtain ⟨i, h, rfl⟩ := h
      obtain ⟨y, h1, h2, h3⟩ := indexD_ok h
      refine ⟨y, by simpa using h1, h2, fun m z' hm hz => ?_⟩
      cases m with
      | zero => simp at hz; subst hz; simpa using e
      | succ m => exact h3 m z' (by omega) (by simpa using hz)
theorem impIndex {i : Nat} {e : E} (h : tE K (evE fn (.index i e)) σ H Q) : tBM K "list" (rIndexD K) (tVar i) (tCons (tE K (evE fn e)) tNil) σ H Q := by
  obtain ⟨F, Z, ρ, o, ρ', g, q, d⟩ := h
  simp only [evE] at q
  split at q
  · rename_i hi
    obtain ⟨ds0, e0⟩ := Option.isSome_iff_exists.mp hi
    simp only [Option.bind_eq_some_iff] at e0 q
    obtain ⟨o0, e0, e00⟩ := e0
    obtain ⟨⟨oe, ρ1⟩, e1, ds, ⟨x, e2, e3⟩, e4⟩ := q
    obtain ⟨v0, l0, k0, r0⟩ := g.get (join_some e0)
    obtain ⟨a, vs, rfl, h1, _⟩ := r0.asL e00
    refine ⟨.ref a, k0, .inl ⟨rfl, _, .inl (.inl h1)⟩, F, Z, ρ, oe, ρ1, g, e1, fun v H1 F1 l x1 g1 r1 n1 => ?_⟩
    simp only at e4
    split at e4
    · rename_i dd
      split at e4
      · rename_i hs
        simp only [Bool.and_eq_true] at hs
        simp only [Option.map_eq_some_iff] at e4
        obtain ⟨j, e5, e6⟩ := e4
        cases e6
        obtain ⟨v2, l2, k2, r2⟩ := g1.get (join_some e2)
        rw [k0] at k2
        cases k2
        obtain ⟨z, q1, q2, q3⟩ := indexD_ok e5
        exact ⟨a, v, dd, ds, j, z, rfl, rfl, r2.dp (asL_data e3), r1.dp rfl, hs.2, hs.1, q1, q2, q3, (done_of d x1).int (g1.less fun _ h => .inl h)⟩
      · cases e4
    · cases e4
  · cases q

/-! ### a dict locked -/
theorem Good.lock {i : Nat} {ds : List (Key × PyData)} (g : Good K F Z H ρ σ) (e : ρ[i]? = some (some (.dct ds))) : ∃ a u, σ[i]? = some (some (.ref a)) ∧ H a = some (.dK u) ∧ ¬ F a ∧ ¬ Z a ∧
    ∀ od, Good K (fun b => F b ∨ b = a) Z (upd H a (.frz od (.dK u))) (ρ.set i (some (.fdct ds))) σ := by
  have na : ∀ {a : Addr} {F : AS} {Z : AS} {ρ : Ev}, Good K F Z H ρ σ → Z a → ¬ F a := fun g z f => by obtain ⟨fp, g⟩ := g; exact g.zf _ f z
  obtain ⟨v, l, k1, r, n, g1⟩ := g.take e
  cases r with
  | dct hd rd =>
    rename_i a u
    have nF : ¬ F a := na g1 (.inr (by simp))
    refine ⟨a, u, k1, hd, nF, n a (by simp), fun od => ?_⟩
    have g2 := g1.mut (p := a) (ob := .frz od (.dK u)) (.inr (by simp))
    obtain ⟨x3, g3⟩ := g2.share n
    have e4 : (fun b => F b ∨ b ∈ [a]) = fun b => F b ∨ b = a := by
      funext b
      simp
    rw [e4] at g3 x3
    have np : ∀ b, F b → b ≠ a := fun b f q => nF (q ▸ f)
    have rd' : RepD K (fun b => F b ∨ b = a) (upd H a (.frz od (.dK u))) ds u := rd.mono (fun _ h => .inl h) fun b o f h => by rw [upd_ne (np b f)]; exact h
    have g5 := Good.put (i := i) (l := []) g3.nil (RepO.fdct (.inr rfl) upd_same rd') (fun _ h => by simp at h)
    rw [List.set_set] at g5
    have e6 : σ.set i (some (.ref a)) = σ := by
      refine List.ext_getElem? fun j => ?_
      rw [List.getElem?_set]
      split
      · rename_i q; subst q
        split
        · exact k1.symm
        · rename_i hh
          have := (List.getElem?_eq_some_iff.mp k1).1
          omega
      · rfl
    rw [e6] at g5
    exact g5
section
variable {a : Addr} {od : Obj} {u : List (Key × V)}
mutual
theorem Rep.unlock (ha : H a = some (.frz od (.dK u))) (ob : HO) : ∀ {d : PyData} {v : V}, Rep K F H d v → Rep K (fun b => F b ∧ b ≠ a) (upd H a ob) d v
  | _, _, .non => .non
  | _, _, .bl b => .bl b
  | _, _, .int i => .int i
  | _, _, .str x => .str x
  | _, _, .lst (a := b) f h r => by
    have : b ≠ a := fun q => by rw [q, ha] at h; cases h
    exact .lst ⟨f, this⟩ (by rw [upd_ne this]; exact h) (RepL.unlock ha ob r)
  | _, _, .tup (a := b) f h r => by
    have : b ≠ a := fun q => by rw [q, ha] at h; cases h
    exact .tup ⟨f, this⟩ (by rw [upd_ne this]; exact h) (RepL.unlock ha ob r)
  | _, _, .tupK h1 h2 h3 h4 h5 r => .tupK h1 h2 h3 h4 h5 (RepL.unlock ha ob r)
theorem RepL.unlock (ha : H a = some (.frz od (.dK u))) (ob : HO) : ∀ {ds : List PyData} {vs : List V}, RepL K F H ds vs → RepL K (fun b => F b ∧ b ≠ a) (upd H a ob) ds vs
  | _, _, .nil => .nil
  | _, _, .cons r t => .cons (Rep.unlock ha ob r) (RepL.unlock ha ob t)
end
theorem RepD.unlock (ha : H a = some (.frz od (.dK u))) (ob : HO) {ds : List (Key × PyData)} {vs : List (Key × V)} (r : RepD K F H ds vs) : RepD K (fun b => F b ∧ b ≠ a) (upd H a ob) ds vs := by
  induction r with
  | nil => exact .nil
  | cons r _ ih => exact .cons (r.unlock ha ob) ih
def isFd : O → Bool
  | .fdct _ => true
  | _ => false
theorem RepO.unlock (ha : H a = some (.frz od (.dK u))) (ob : HO) {v : V} {l : List Addr} (r : RepO K F H o v l) (hf : isFd o = false) (hl : a ∉ l) : RepO K (fun b => F b ∧ b ≠ a) (upd H a ob) o v l := by
  cases r with
  | sh r => exact .sh (r.unlock ha ob)
  | lst h r => exact .lst (by rw [upd_ne fun q => hl (by simp [q])]; exact h) (r.unlock ha ob)
  | scr f h =>
    rename_i b ns o
    have : b ≠ a := fun q => by rw [q, ha] at h; cases h
    exact .scr ⟨f, this⟩ (by rw [upd_ne this]; exact h)
  | scrK h1 h2 h3 h4 h5 h6 => exact .scrK h1 h2 h3 h4 h5 h6
  | dct h r => exact .dct (by rw [upd_ne fun q => hl (by simp [q])]; exact h) (r.unlock ha ob)
  | fdct f h r => cases hf
theorem noFd_ok {ρ : Ev} {i j : Nat} (h : noFd (ρ.set i none) = true) (hj : j ≠ i) (e : ρ[j]? = some (some o)) : isFd o = false := by
  unfold noFd at h
  rw [List.all_eq_true] at h
  have m : some o ∈ ρ.set i none := List.mem_of_getElem? (i := j) (by rw [List.getElem?_set_ne (Ne.symm hj)]; exact e)
  have := h _ m
  cases o <;> first | rfl | exact absurd this (by simp)
theorem Good.unlock {i : Nat} {ρ' : Ev} (g : Good K F Z H ρ σ) (h : Vx.unlock i ρ = some ρ') (k : σ[i]? = some (some (.ref a))) (ha : H a = some (.frz od (.dK u))) : Good K (fun b => F b ∧ b ≠ a) Z (upd H a (.dK u)) ρ' σ ∧ F a := by
  unfold Vx.unlock at h
  split at h
  · rename_i kvs e
    split at h
    · rename_i hn
      cases h
      have e := join_some e
      obtain ⟨fp, g⟩ := g
      obtain ⟨v, k1, r⟩ := g.rep i _ e
      rw [k] at k1
      cases k1
      generalize hl : fp i = li at r
      cases r with
      | fdct fa hd rd =>
        rename_i o vs
        rw [ha] at hd
        cases hd
        have nfp : ∀ j, a ∉ fp j := fun j m => g.ff j a m fa
        refine ⟨⟨fun j => if j = i then [a] else fp j, by simpa using g.len, fun j w q => ?_, fun j j' b hjj h1 h2 => ?_, fun j b h => ?_, fun j b h => ?_, fun j b h => ?_, fun b f => ?_, fun b f => g.zf b f.1, fun b z => ?_⟩, fa⟩
        · by_cases hj : j = i
          · subst hj
            have hlt : j < ρ.length := (List.getElem?_eq_some_iff.mp e).1
            rw [List.getElem?_set_self hlt] at q
            cases q
            exact ⟨_, k, by simpa using RepO.dct upd_same (rd.unlock ha _)⟩
          · rw [List.getElem?_set_ne (Ne.symm hj)] at q
            obtain ⟨w', h1, h2⟩ := g.rep j w q
            exact ⟨w', h1, by simpa [hj] using h2.unlock ha _ (noFd_ok hn hj q) (nfp j)⟩
        · by_cases hj : j = i
          · by_cases hj' : j' = i
            · exact hjj (hj.trans hj'.symm)
            · simp only [hj, hj', if_true, if_false, List.mem_singleton] at h1 h2
              exact nfp j' (h1 ▸ h2)
          · by_cases hj' : j' = i
            · simp only [hj, hj', if_true, if_false, List.mem_singleton] at h1 h2
              exact nfp j (h2 ▸ h1)
            · simp only [hj, hj', if_false] at h1 h2
              exact g.dis j j' b hjj h1 h2
        · by_cases hj : j = i
          · simp only [hj, if_true, List.mem_singleton] at h
            rw [h, upd_same]; simp
          · simp only [hj, if_false] at h
            rw [upd_ne fun (q : b = a) => nfp j (q ▸ h)]
            exact g.fa j b h
        · by_cases hj : j = i
          · simp only [hj, if_true, List.mem_singleton] at h
            exact fun f => f.2 h
          · simp only [hj, if_false] at h
            exact fun f => g.ff j b h f.1
        · by_cases hj : j = i
          · simp only [hj, if_true, List.mem_singleton] at h
            rw [h]
            exact g.zf a fa
          · simp only [hj, if_false] at h
            exact g.fz j b h
        · rw [upd_ne f.2]
          exact g.al b f.1
        · rw [upd_ne fun (q : b = a) => g.zf a fa (q ▸ z)]
          exact g.za b z
    · cases h
  · cases h
theorem impLock {i : Nat} {e : E} (h : tE K (evE fn (.lock i e)) σ H Q) : tLockE (tE K (evE fn e)) σ H Q := by
  obtain ⟨F, Z, ρ, o, ρ', g, q, d⟩ := h
  simp only [evE, Option.bind_eq_some_iff] at q
  obtain ⟨x, e0, q⟩ := q
  split at q
  · rename_i kvs
    simp only [Option.bind_eq_some_iff] at q
    obtain ⟨⟨o1, ρ1⟩, e1, q⟩ := q
    obtain ⟨a, u, k1, hd, nF, nZ, gl⟩ := g.lock (join_some e0)
    refine ⟨a, .dK u, hd, trivial, fun od => ⟨_, Z, _, o1, ρ1, gl od, e1, fun v H' F' l x' g' r n => ?_⟩⟩
    have q' : isFd o1 = false ∧ (Vx.unlock i ρ1).map (fun ρ' => (o1, ρ')) = some (o, ρ') := by
      cases o1 <;> first | exact ⟨rfl, q⟩ | cases q
    obtain ⟨hf, q'⟩ := q'
    simp only [Option.map_eq_some_iff] at q'
    obtain ⟨ρ2, e2, e3⟩ := q'
    cases e3
    have ha : H' a = some (.frz od (.dK u)) := x'.kf a _ (.inr rfl) upd_same
    obtain ⟨g2, fa⟩ := g'.unlock e2 k1 ha
    have nz' : ¬ Zp Z l a := by obtain ⟨fp, g'⟩ := g'; exact g'.zf a fa
    refine ⟨ha, d v _ _ l ⟨fun b f => ⟨x'.sub b (.inl f), fun q => nF (q ▸ f)⟩, fun b ob f hb => ?_, fun b z => ?_⟩ g2 (r.unlock ha _ hf fun m => nz' (.inr m)) n⟩
    · have nb : b ≠ a := fun q => nF (q ▸ f)
      rw [upd_ne nb]
      exact x'.kf b ob (.inl f) (by rw [upd_ne nb]; exact hb)
    · have nb : b ≠ a := fun q => nZ (q ▸ z)
      rw [upd_ne nb, x'.kz b z, upd_ne nb]
  · cases q
theorem kD_ok (k : Key) : Rep K F H (kD k) (kV k) := by
  cases k with
  | inl i => exact .int i
  | inr x => exact .str x
theorem walkD_items {d : Addr} {o : Obj} {vs : List (Key × V)} {ds : List (Key × PyData)} (f : F d) (hd : H d = some (.frz o (.dK vs))) (r : RepD K F H ds vs) : WalkD K F H (Iti d o vs) (ds.map fun p => .tuple [kD p.1, p.2]) := fun F2 H2 s k => by
  have r2 := r.mono s k
  have hd2 := k _ _ f hd
  refine ⟨fun i x e => ?_, hd2, by rw [List.length_map, r.length]; exact Nat.le_refl _⟩
  rw [List.getElem?_map] at e
  simp only [Option.map_eq_some_iff] at e
  obtain ⟨⟨key, dv⟩, e1, e2⟩ := e
  subst e2
  obtain ⟨v, e3, rv⟩ := r2.get e1
  refine ⟨⟨hd2, (List.getElem?_eq_some_iff.mp e3).1⟩, fun z H3 y => ?_⟩
  obtain ⟨T, k', v', h1, h2, h3, h4⟩ := y
  rw [e3] at h1
  cases h1
  exact .inr ⟨T, _, _, h2, h3, h4, rfl, .cons (kD_ok _) (.cons rv .nil)⟩
theorem impItems {i : Nat} {R : TIk} (h : tI K (evI fn (.items i)) σ H R) : iItems (tVar i) σ H R := by
  obtain ⟨F, Z, ρ, ds, ρ', g, q, c⟩ := h
  simp only [evI, Option.bind_eq_some_iff] at q
  obtain ⟨x, e1, q⟩ := q
  split at q
  · cases q
    obtain ⟨v, l, k1, r⟩ := g.get (join_some e1)
    cases r with
    | fdct f hd rd => exact ⟨_, k1, _, _, _, rfl, hd, c _ H F .refl g (walkD_items f hd rd)⟩
  · cases q
end
end
end Vx

/-! Vx, part E: from the model's syntax to the language; calls; expressions are right. -/
namespace Vx
open PySem L2 RZ

/-! ### what is known of the text -/
/-- a def called by keywords: so many by place, then these names; where each parameter comes from -/
structure KwS where
  npos : Nat
  ks : List Str
  perm : List Nat
  deriving DecidableEq
structure FnS where
  ps : List Str
  lev : Nat
  io : Bool
  kws : List KwS
structure Tab where
  fns : List (Str × FnS)
  cons : List (Str × Int)
  gcd : Bool
structure SE where
  N : List Str
  sc : Scope
  own : Str → Bool
  lim : Nat

def ixOf (x : Str) : List Str → Option Nat
  | [] => none
  | y :: r => if x = y then some 0 else (ixOf x r).map (· + 1)
theorem ixOf_ok {x : Str} : ∀ {N : List Str} {i : Nat}, ixOf x N = some i → N[i]? = some x
  | [], i, h => by cases h
  | y :: r, i, h => by
    unfold ixOf at h
    split at h
    · rename_i e; cases h; subst e; rfl
    · simp only [Option.map_eq_some_iff] at h
      obtain ⟨j, h, rfl⟩ := h
      simpa using ixOf_ok h
def plainName (x : Str) : Bool := !(x == ("__debug__" : Str)) && !(x == ("__classdict__" : Str)) && !(x == ("__name__" : Str))
def slotOf (se : SE) (x : Str) : Option Nat := if plainName x then (match se.sc.names.lookup x with
  | some .local => ixOf x se.N
  | some .cell => ixOf x se.N
  | some .free => ixOf x se.N
  | _ => none) else none
def stOf (se : SE) (x : Str) : Option Nat := match se.sc.names.lookup x with
  | some .local => ixOf x se.N
  | some .cell => if se.own x then ixOf x se.N else none
  | _ => none
def isGl (se : SE) (x : Str) : Bool := plainName x && decide (se.sc.names.lookup x = some .globalImplicit)

def bnames : List Str := ["len", "abs", "int", "str", "list", "tuple", "sum", "max", "min", "all", "any", "sorted", "repr", "isinstance", "divmod", "range", "zip", "enumerate", "bool"]
def b1t : List (Str × P1) := [("len", .len), ("abs", .abs), ("int", .int), ("str", .str), ("list", .list), ("tuple", .tuple), ("sum", .sum), ("max", .max), ("min", .min), ("all", .all), ("any", .any), ("sorted", .sorted), ("repr", .repr)]
def b1 (f : Str) : Option P1 := b1t.lookup f
def b2t : List (Str × P2) := [("max", .max2), ("min", .min2), ("divmod", .divmod)]
def b2 (f : Str) : Option P2 := b2t.lookup f
def isTyt : List (Str × P1) := [("int", .isInt), ("bool", .isBool), ("str", .isStr), ("tuple", .isTup), ("list", .isList)]
def isTy (f : Str) : Option P1 := isTyt.lookup f
def opP : Operator → Option P2
  | .Add => some .add | .Sub => some .sub | .Mult => some .mul | .FloorDiv => some .fdiv | .Mod => some .mod | .Pow => some .pow | _ => none
def cmpP : CmpOp → Option P2
  | .Eq => some .eq | .NotEq => some .ne | .Lt => some .lt | .LtE => some .le | .Gt => some .gt | .GtE => some .ge | .Is => some .is | .IsNot => some .isnot | .In => some .isin | .NotIn => some .notin
def inOp : CmpOp → Bool
  | .In => true
  | .NotIn => true
  | _ => false
/-- d.items() -/
def itemsOf : Expr → Option Str
  | .Call (.Attribute (.Name x _) m _) [] [] _ => if m = "items" then some x else none
  | _ => none

def elOf (f : Expr → Option E) : List Expr → Option EL
  | [] => some .nil
  | e :: r => (f e).bind fun x => (elOf f r).map (.cons x)
def kwOf (f : Expr → Option E) : List Keyword → Option EL
  | [] => some .nil
  | ⟨some _, e, _⟩ :: r => (f e).bind fun x => (kwOf f r).map (.cons x)
  | _ => none
def kwNames : List Keyword → List Str
  | [] => []
  | ⟨some n, _, _⟩ :: r => n :: kwNames r
  | ⟨none, _, _⟩ :: r => kwNames r
def andOf (f : Expr → Option T) : List Expr → Option T
  | [] => none
  | [e] => f e
  | e :: r => (f e).bind fun x => (andOf f r).map (.and x)
def orOf (f : Expr → Option T) : List Expr → Option T
  | [] => none
  | [e] => f e
  | e :: r => (f e).bind fun x => (orOf f r).map (.or x)
def valOf (k : E → E → E) (f : Expr → Option E) : List Expr → Option E
  | [] => none
  | [e] => f e
  | e :: r => (f e).bind fun x => (valOf k f r).map (k x)
def namesOf : List Expr → Option (List Str)
  | [] => some []
  | .Name x _ :: r => (namesOf r).map (x :: ·)
  | _ => none
def stAll (se : SE) : List Str → Option (List Nat)
  | [] => some []
  | x :: r => (stOf se x).bind fun i => (stAll se r).map (i :: ·)
/-- a target: its names, their places -/
def cG (se : SE) : Expr → Option (G × List (Str × Nat))
  | .Name x _ => (stOf se x).map fun i => (.nm i, [(x, i)])
  | .Tuple es _ _ => (namesOf es).bind fun xs => (stAll se xs).map fun is => (.tp is, xs.zip is)
  | _ => none
def isTupE : Expr → Bool
  | .Tuple .. => true
  | _ => false
def blkSE (se : SE) (scope : Scope) : SE := { N := se.N, sc := relS scope se.sc, own := fun x => scope.names.lookup x == some .cell, lim := se.lim }
def wrapI (se : SE) (it : Expr) (e : E) : Option E := match itemsOf it with
  | some x => (slotOf se x).map fun i => .lock i e
  | none => some e
section
variable (tb : Tab)
mutual
def cE : Nat → SE → Expr → Option E
  | 0, _, _ => none
  | n + 1, se, e => match e with
    | .Constant c _ _ => (match c with | .int i => some (.con (.int i)) | .bool b => some (.con (.bool b)) | .none => some (.con .none) | .str x => some (.con (.str x)) | _ => none)
    | .Name x _ => (match slotOf se x with
      | some i => some (.var i)
      | none => if isGl se x then (tb.cons.lookup x).map fun i => E.con (.int i) else none)
    | .BinOp a op b _ => (opP op).bind fun p => (cA n se a).bind fun x => (cA n se b).map fun y => .op2 p x y
    | .UnaryOp op a _ => (match op with | .USub => (cA n se a).map fun x => .op1 .neg x | .Not => (cA n se a).map fun x => .op1 .not x | _ => none)
    | .BoolOp op vs _ => (match op with | .And => valOf .andV (cE n se) vs | .Or => valOf .orV (cE n se) vs)
    | .Compare a ops bs _ => (match ops, bs with
      | [op], [b] => if behindInMarks op b then none else (cmpP op).bind fun p => (cA n se a).bind fun x => (cA n se b).map fun y => .op2 p x y
      | [op, op'], [b, c] => if inOp op || inOp op' then none else (cmpP op).bind fun p => (cmpP op').bind fun q => (cA n se a).bind fun x => (cA n se b).bind fun y => (cA n se c).map fun z => .chain p q x y z
      | _, _ => none)
    | .IfExp c a b _ => (cT n se c).bind fun k => (cE n se a).bind fun x => (cE n se b).map fun y => .ite k x y
    | .Tuple es _ _ => (elOf (cE n se) es).map .tup
    | .List es _ => (elOf (cE n se) es).map .lst
    | .Subscript a b _ => (match b with
      | .Slice lo hi none _ => (cA n se a).bind fun x => (cOE n se lo).bind fun l => (cOE n se hi).map fun h => .slice x l h
      | b => (cA n se a).bind fun x => (cA n se b).map fun y => .op2 .ix x y)
    | .Call (.Name f _) args kws _ => if isGl se f then (match tb.fns.lookup f with
        | some s => if s.lev ≤ se.lim then (match kws with
            | [] => if args.length = s.ps.length && decide (0 < args.length) then (if s.io then (match args with
                | .Name x _ :: rest => (slotOf se x).bind fun i => (elOf (cE n se) rest).map fun es => .callIO f i es
                | _ => none) else (elOf (cE n se) args).map fun es => .call f es) else none
            | kws => if s.io then none else (s.kws.find? fun k => decide (k.npos = args.length) && decide (k.ks = kwNames kws)).bind fun k =>
                (elOf (cE n se) args).bind fun es => (kwOf (cE n se) kws).map fun zs => .callK f k.perm es zs) else none
        | none => (match kws with
          | [] => (match args with
            | [a] => (b1 f).bind fun p => (cA n se a).map fun x => .op1 p x
            | [a, b] => if f = "isinstance" then (match b with
                | .Name t _ => if isGl se t then (isTy t).bind fun p => (cA n se a).map fun x => .op1 p x else none
                | .Tuple [.Name t1 _, .Name t2 _] _ _ => if isGl se t1 && isGl se t2 && decide (t1 = "list") && decide (t2 = "tuple") then (cA n se a).map fun x => .op1 .isSeq x else none
                | _ => none)
              else if f = "gcd" && tb.gcd then (cA n se a).bind fun x => (cA n se b).map fun y => .op2 .gcd x y
              else (b2 f).bind fun p => (cA n se a).bind fun x => (cA n se b).map fun y => .op2 p x y
            | _ => none)
          | _ => none)) else none
    | .ListComp elt gs scope _ => (match gs with
      | [⟨tg, iter, ifs, 0⟩] => (cI n se tg iter).bind fun it => (cG (blkSE se scope) tg).bind fun q => if blkC se.N se.sc scope q.2 then
          (match ifs with | [] => some T.yes | [c] => cT n (blkSE se scope) c | _ => none).bind fun (k : T) => (cE n (blkSE se scope) elt).bind fun x => wrapI se iter (E.comp (q.2.map Prod.snd) q.1 it k x)
          else none
      | _ => none)
    | .Dict [] [] _ => some .dnew
    | .Call (.Attribute (.Name x _) m ap) args [] cp => if ap.endLine == cp.line then (slotOf se x).bind fun i =>
        if m = "get" then (match args with | [k, d] => (cE n se k).bind fun y => (cE n se d).map fun z => .dget i y z | _ => none)
        else if m = "index" then (match args with | [e] => (cE n se e).map fun y => .index i y | _ => none)
        else none else none
    | _ => none
def cA : Nat → SE → Expr → Option A
  | 0, _, _ => none
  | n + 1, se, e => match e with
    | .Name x _ => (match slotOf se x with
      | some i => some (.pk i)
      | none => (cE n se e).map .ex)
    | e => (cE n se e).map .ex
def cOE : Nat → SE → Option Expr → Option OE
  | 0, _, _ => none
  | _ + 1, _, none => some .no
  | n + 1, se, some e => (cE n se e).map .yes
def cT : Nat → SE → Expr → Option T
  | 0, _, _ => none
  | n + 1, se, e => match e with
    | .UnaryOp .Not a _ => (cT n se a).map .not
    | .BoolOp op vs _ => (match op with | .And => andOf (cT n se) vs | .Or => orOf (cT n se) vs)
    | .Compare a ops bs _ => (match ops, bs with
      | [op], [b] => if behindInMarks op b then none else (cmpP op).bind fun p => (cA n se a).bind fun x => (cA n se b).map fun y => .cmp p x y
      | [op, op'], [b, c] => if inOp op || inOp op' then none else (cmpP op).bind fun p => (cmpP op').bind fun q => (cA n se a).bind fun x => (cA n se b).bind fun y => (cA n se c).map fun z => .chain p q x y z
      | _, _ => none)
    | .Name .. => (cA n se e).map .val
    | .Call .. => (cA n se e).map .val
    | .Subscript .. => (cA n se e).map .val
    | _ => none
def cI : Nat → SE → Expr → Expr → Option I
  | 0, _, _, _ => none
  | n + 1, se, tg, e => match e with
    | .Call (.Name f _) [a] [] _ => if f = "range" && isGl se f then (cE n se a).map .range1 else if f = "enumerate" && isGl se f && isTupE tg then (cE n se a).map .enum else (cE n se e).map .seq
    | .Call (.Name f _) [a, b] [] _ => if f = "range" && isGl se f then (cE n se a).bind fun x => (cE n se b).map fun y => .range2 x y
        else if f = "zip" && isGl se f && isTupE tg then (cE n se a).bind fun x => (cE n se b).map fun y => .zip x y else (cE n se e).map .seq
    | .Set .. => none
    | .Call (.Attribute (.Name x _) m ap) [] [] cp => if m = "items" && (ap.endLine == cp.line) && isTupE tg then (slotOf se x).map .items else none
    | e => (cE n se e).map .seq
end
end

/-! ### calls -/
/-- a def's promise, where nothing guards -/
structure FnG (P : Program) (w : World) (K : PySem.W.Frag) (mg : Str → Option Value) (base : Heap) (k : Nat) (f : Addr) (fd : FuncData) (ps : List Str) (sp : Sp) : Prop where
  run : ∀ (A : Around) (outer : List Env) (s : Shared) (H : Hp) (args : Args) (us : List Value) (vs : List V) (Q : VK), A.guards = some [] → Room k A → Env0 P w K mg base A outer s H →
    BindsTo s fd args (ps.zip us) → Vals vs us → sp vs H Q E0 → codeAny (model P w) A (.call (.ref f) args) (CR CX0 outer P w H s Q E0) s
section
variable {X : Cx} {k : Nat} {f : Addr} {fd : FuncData} {ps : List Str} {sp : Sp}
theorem run_g {pins : List (Addr × Obj)} {σ : St} {H : Hp} {s : Shared} {Q : VK} {us zs : List Value} {vs : List V} {kw : List (Str × Value)} (F : FnG X.prog X.w X.K X.mg X.base k f fd ps sp) (hg : X.A.guards = some []) (hr : Room k X.A)
    (hb : BindsTo s fd ⟨us, kw⟩ (ps.zip zs)) (I : Inv X pins σ H s) (r : Vals vs zs) (h : sp vs H Q E0) : wpAny (model X.prog X.w) X.A (call (.ref f) us kw) (EP X pins σ Q) X.xe s := by
  refine wpAny_call (codeAny_mono (F.run X.A X.stack s H _ zs vs Q hg hr I.env0 hb r h) fun z s' hz => ?_)
  match z, hz with
  | .ok (.ret u), hz => exact I.after hz
  | .ok .next, hz => exact hz.elim
  | .ok .brk, hz => exact hz.elim
  | .ok .cont, hz => exact hz.elim
  | .error e, hz => exact hz.elim
end
/-- what a def of the table does -/
def spF (K : PySem.W.Frag) (fn : Fn) (f : Str) (s : FnS) : Sp := fun vs H Q _ => ∃ F Z os r, Good K F Z H (os.map some) (vs.map some) ∧ os.length = s.ps.length ∧ fn f os = some r ∧
  ∀ v H' F' l, Ext F F' Z H H' → Good K F' (Zp Z l) H' (if s.io then [some r.2] else []) (if s.io then (vs.take 1).map some else []) → RepO K F' H' r.1 v l → (∀ a ∈ l, ¬ Z a) → Q v H'
/-- each def stands and does so -/
structure FnAt (X : Cx) (fn : Fn) (f : Str) (s : FnS) : Prop where
  ex : ∃ a fd, X.mg f = some (.ref a) ∧ PySem.W.keepIn X.K (.ref a) = true ∧ FnG X.prog X.w X.K X.mg X.base s.lev a fd s.ps (spF X.K fn f s) ∧
    (∀ (h : Shared) (us : List Value), us.length = s.ps.length → BindsTo h fd ⟨us, []⟩ (s.ps.zip us)) ∧
    ∀ k ∈ s.kws, ∀ (h : Shared) (us ws : List Value), us.length = k.npos → ws.length = k.ks.length → ∃ zs, zs.map some = k.perm.map (fun i => (us ++ ws)[i]?) ∧ zs.length = s.ps.length ∧ BindsTo h fd ⟨us, k.ks.zip ws⟩ (s.ps.zip zs)
structure Ok (T : Tab) (fn : Fn) (X : Cx) (se : SE) : Prop where
  N : X.N = se.N
  sc : X.env.scope = se.sc
  nd : X.N.Nodup
  xe : X.xe = fun _ _ => False
  calm : X.calm = true
  gd : X.A.guards = some []
  room : Room se.lim X.A
  own : ∀ x, se.own x = true → X.fn x = true
  bi : ∀ x ∈ bnames, X.mg x = none
  gcd : T.gcd = true → X.mg "gcd" = some (.builtin "math.gcd")
  con : ∀ x i, T.cons.lookup x = some i → ∃ t, X.mg x = some (.int i t)
  fns : ∀ f s, T.fns.lookup f = some s → s.lev ≤ se.lim → FnAt X fn f s
section
variable {T : Tab} {fn : Fn} {X : Cx} {se : SE}
theorem plain_ne {x : Str} (h : plainName x = true) : (x == ("__debug__" : Str)) = false ∧ (x == ("__classdict__" : Str)) = false ∧ x ≠ "__name__" := by
  unfold plainName at h
  simp only [Bool.and_eq_true, Bool.not_eq_true'] at h
  exact ⟨h.1.1, h.1.2, beq_eq_false_iff_ne.mp h.2⟩
theorem Ok.slot (ok : Ok T fn X se) {x : Str} {i : Nat} (h : slotOf se x = some i) {pos : Pos} : PE X (.Name x pos) (tVar i) := by
  unfold slotOf at h
  split at h
  · rename_i hp
    obtain ⟨h1, h2, _⟩ := plain_ne hp
    have key : ∀ k, se.sc.names.lookup x = some k → (k = .local ∨ k = .cell ∨ k = .free) → ixOf x se.N = some i → PE X (.Name x pos) (tVar i) := fun k e hk hi => by
      refine pe_var (by rw [ok.N]; exact ixOf_ok hi) ?_ h1 h2
      unfold Vis
      rw [ok.sc, e]
      rcases hk with rfl | rfl | rfl
      · exact .inl rfl
      · exact .inr (.inl rfl)
      · exact .inr (.inr rfl)
    split at h
    · rename_i e; exact key _ e (.inl rfl) h
    · rename_i e; exact key _ e (.inr (.inl rfl)) h
    · rename_i e; exact key _ e (.inr (.inr rfl)) h
    · cases h
  · cases h
theorem Ok.gl (ok : Ok T fn X se) {x : Str} (h : isGl se x = true) : Gl X x ∧ (x == ("__debug__" : Str)) = false ∧ x ≠ "__name__" := by
  unfold isGl at h
  simp only [Bool.and_eq_true, decide_eq_true_eq] at h
  obtain ⟨h1, _, h3⟩ := plain_ne h.1
  refine ⟨?_, h1, h3⟩
  unfold Gl Env.kindOf
  rw [ok.sc]
  exact h.2
theorem Ok.st (ok : Ok T fn X se) {x : Str} {i : Nat} (h : stOf se x = some i) : X.N[i]? = some x ∧ L2.Loc X.env.scope x ∧ (X.fn x = true ∨ X.env.scope.names.lookup x = some .local) := by
  unfold stOf at h
  unfold L2.Loc
  rw [ok.sc, ok.N]
  split at h
  · rename_i e; exact ⟨ixOf_ok h, .inl e, .inr e⟩
  · rename_i e
    split at h
    · rename_i ho
      exact ⟨ixOf_ok h, .inr e, .inl (ok.own x ho)⟩
    · cases h
  · cases h
/-- a comprehension's block -/
theorem Ok.blk (ok : Ok T fn X se) (s : Shared) (H : Hp) (scope : Scope) (C : Addr) (cl : List (Str × Addr)) (fp : List Addr) : Ok T fn (X.blk s H scope (compEnvC scope cl C X.env) fp) (blkSE se scope) where
  N := ok.N
  sc := by
    show relS scope X.env.scope = relS scope se.sc
    rw [ok.sc]
  nd := ok.nd
  xe := rfl
  calm := ok.calm
  gd := ok.gd
  room := ok.room
  own := fun x h => h
  bi := ok.bi
  gcd := ok.gcd
  con := ok.con
  fns := fun f s h l => ⟨(ok.fns f s h l).ex⟩
theorem guards_units {k : Nat} {A : Around} (hr : Room k A) : A.units + 70 < cLine := by have := hr.un; omega
theorem guards_units' {k : Nat} {A : Around} (hr : Room k A) : A.units + 65 < cLine := by have := hr.un; omega
theorem units64 {k : Nat} {A : Around} (hr : Room k A) : A.units + 64 < cLine := by have := hr.un; omega

/-- a built-in of one argument -/
theorem b1_ok (ok : Ok T fn X se) {f : Str} {p : P1} (h : b1 f = some p) : f ∈ bnames ∧ ((∃ id, bootBuiltins f = some (.builtin id) ∧ CallR X (.builtin id) (rL1 X.K (p1 p))) ∨ ∃ id, bootBuiltins f = some (.type id) ∧ CallR X (.type id) (rL1 X.K (p1 p))) := by
  have hc := ok.calm
  have hm := PySem.mem_of_lookup h
  simp only [b1t, List.mem_cons, Prod.mk.injEq, List.not_mem_nil, or_false] at hm
  rcases hm with ⟨rfl, rfl⟩ | ⟨rfl, rfl⟩ | ⟨rfl, rfl⟩ | ⟨rfl, rfl⟩ | ⟨rfl, rfl⟩ | ⟨rfl, rfl⟩ | ⟨rfl, rfl⟩ | ⟨rfl, rfl⟩ | ⟨rfl, rfl⟩ | ⟨rfl, rfl⟩ | ⟨rfl, rfl⟩ | ⟨rfl, rfl⟩ | ⟨rfl, rfl⟩
  · exact ⟨by decide, .inl ⟨"len", by decide +kernel, ok_len⟩⟩
  · exact ⟨by decide, .inl ⟨"abs", by decide +kernel, ok_abs⟩⟩
  · exact ⟨by decide, .inr ⟨"int", by decide +kernel, ok_int⟩⟩
  · exact ⟨by decide, .inr ⟨"str", by decide +kernel, ok_str⟩⟩
  · exact ⟨by decide, .inr ⟨"list", by decide +kernel, ok_list⟩⟩
  · exact ⟨by decide, .inr ⟨"tuple", by decide +kernel, ok_tuple⟩⟩
  · exact ⟨by decide, .inl ⟨"sum", by decide +kernel, ok_sum hc⟩⟩
  · exact ⟨by decide, .inl ⟨"max", by decide +kernel, ok_max hc⟩⟩
  · exact ⟨by decide, .inl ⟨"min", by decide +kernel, ok_min hc⟩⟩
  · exact ⟨by decide, .inl ⟨"all", by decide +kernel, ok_all hc⟩⟩
  · exact ⟨by decide, .inl ⟨"any", by decide +kernel, ok_any hc⟩⟩
  · exact ⟨by decide, .inl ⟨"sorted", by decide +kernel, ok_sorted hc⟩⟩
  · exact ⟨by decide, .inl ⟨"repr", by decide +kernel, ok_repr ok.gd (guards_units ok.room)⟩⟩
theorem b2_ok (ok : Ok T fn X se) {f : Str} {p : P2} (h : b2 f = some p) : f ∈ bnames ∧ ∃ id, bootBuiltins f = some (.builtin id) ∧ CallR X (.builtin id) (rL2 X.K (p2 p)) := by
  have hc := ok.calm
  have hm := PySem.mem_of_lookup h
  simp only [b2t, List.mem_cons, Prod.mk.injEq, List.not_mem_nil, or_false] at hm
  rcases hm with ⟨rfl, rfl⟩ | ⟨rfl, rfl⟩ | ⟨rfl, rfl⟩
  · exact ⟨by decide, "max", by decide +kernel, ok_max2 hc⟩
  · exact ⟨by decide, "min", by decide +kernel, ok_min2 hc⟩
  · exact ⟨by decide, "divmod", by decide +kernel, ok_divmod⟩
theorem opP_ok (X : Cx) {op : Operator} {p : P2} (h : opP op = some p) : OpR X (binaryOp op) (rV2 X.K (p2 p)) := by
  cases op <;> simp only [opP, Option.some.injEq, reduceCtorEq] at h <;> subst h
  · exact ok_add
  · exact ok_sub
  · exact ok_mul
  · exact ok_mod
  · exact ok_pow
  · exact ok_fdiv
theorem cmpP_ok (ok : Ok T fn X se) {op : CmpOp} {p : P2} (h : cmpP op = some p) : OpR X (compareOp op) (rV2 X.K (p2 p)) := by
  have hu := units64 ok.room
  have hu' := guards_units ok.room
  cases op <;> simp only [cmpP, Option.some.injEq, reduceCtorEq] at h <;> subst h
  · exact ok_eq hu
  · exact ok_ne hu
  · exact ok_lt
  · exact ok_le
  · exact ok_gt
  · exact ok_ge
  · exact ok_is
  · exact ok_isnot
  · exact ok_in false (by omega) (.inl ⟨rfl, rfl⟩)
  · exact ok_in true (by omega) (.inr ⟨rfl, rfl⟩)
theorem nomark' (b : Expr) {op : CmpOp} (h : inOp op = false) : behindInMarks op b = false := nomark b (by cases op <;> first | decide | cases h) (by cases op <;> first | decide | cases h)
end

/-! ### isinstance -/
def tyn : D → String
  | .none => "NoneType" | .bool _ => "bool" | .int _ => "int" | .str _ => "str" | .list _ => "list" | .tuple _ => "tuple" | .dict _ => "dict"
theorem Rep.tyx {K : PySem.W.Frag} {F : AS} {H : Hp} {d : D} {v : V} (r : Rep K F H d v) : TyX K H v (.type (tyn d)) := by
  cases r with
  | non => exact .base .non
  | bl b => exact .base (.bl b)
  | int i => exact .base (.int i)
  | str x => exact .base (.str x)
  | lst f e r => exact .base (.lst e)
  | tup f e r => exact .base (.tup e)
  | tupK h1 h2 h3 h4 h5 r => exact .kTuple h1 h2
theorem RepO.tyx {K : PySem.W.Frag} {F : AS} {H : Hp} {o : O} {d : D} {v : V} {l : List Addr} (r : RepO K F H o v l) (h : o.data = some d) : TyX K H v (.type (tyn d)) := by
  cases r with
  | sh r => simp only [O.data, Option.some.injEq] at h; subst h; exact r.tyx
  | lst e r => simp only [O.data, Option.some.injEq] at h; subst h; exact .base (.lst e)
  | scr f e => simp only [O.data, Option.some.injEq] at h; subst h; exact .base (.frz e)
  | scrK h1 h2 h3 h4 h5 h6 => simp only [O.data, Option.some.injEq] at h; subst h; exact .kList h1 h2
  | dct _ _ => simp [O.data] at h
  | fdct _ _ _ => simp [O.data] at h
theorem Rep.nodict {K : PySem.W.Frag} {F : AS} {H : Hp} {ds : List (D × D)} {v : V} (r : Rep K F H (.dict ds) v) : False := by cases r
theorem rIsi_of {K : PySem.W.Frag} {f : D → Option Bool} {c : String} (hk : ∀ d b, f d = some b → kitB (tyn d) c = some b) {x : V} {H : Hp} {Q : VK} (h : rV1 K (pIs f) x H Q) : rIsi K [x, .ty c] H Q := by
  obtain ⟨F, Z, ρ, σ, o, w, l, g, r1, h, d⟩ := h
  unfold pIs at h
  simp only [Option.bind_eq_some_iff] at h
  obtain ⟨b, ⟨d', e1, e2⟩, h⟩ := h
  cases h
  exact ⟨x, .ty c, _, _, b, rfl, .ty c, r1.tyx e1, kit_ty (hk _ _ e2), d.bl g⟩
theorem kdI (d : D) (b : Bool) (e : isIntD d = some b) : kitB (tyn d) "int" = some b := by
  cases d <;> simp only [isIntD, Option.some.injEq, reduceCtorEq] at e <;> subst e
  · show kitB "NoneType" "int" = some false; decide +kernel
  · show kitB "bool" "int" = some true; decide +kernel
  · show kitB "int" "int" = some true; decide +kernel
  · show kitB "str" "int" = some false; decide +kernel
  · show kitB "list" "int" = some false; decide +kernel
  · show kitB "tuple" "int" = some false; decide +kernel
theorem kdB (d : D) (b : Bool) (e : isBoolD d = some b) : kitB (tyn d) "bool" = some b := by
  cases d <;> simp only [isBoolD, Option.some.injEq, reduceCtorEq] at e <;> subst e
  · show kitB "NoneType" "bool" = some false; decide +kernel
  · show kitB "bool" "bool" = some true; decide +kernel
  · show kitB "int" "bool" = some false; decide +kernel
  · show kitB "str" "bool" = some false; decide +kernel
  · show kitB "list" "bool" = some false; decide +kernel
  · show kitB "tuple" "bool" = some false; decide +kernel
theorem kdS (d : D) (b : Bool) (e : isStrD d = some b) : kitB (tyn d) "str" = some b := by
  cases d <;> simp only [isStrD, Option.some.injEq, reduceCtorEq] at e <;> subst e
  · show kitB "NoneType" "str" = some false; decide +kernel
  · show kitB "bool" "str" = some false; decide +kernel
  · show kitB "int" "str" = some false; decide +kernel
  · show kitB "str" "str" = some true; decide +kernel
  · show kitB "list" "str" = some false; decide +kernel
  · show kitB "tuple" "str" = some false; decide +kernel
theorem kdT (d : D) (b : Bool) (e : isTupD d = some b) : kitB (tyn d) "tuple" = some b := by
  cases d <;> simp only [isTupD, Option.some.injEq, reduceCtorEq] at e <;> subst e
  · show kitB "NoneType" "tuple" = some false; decide +kernel
  · show kitB "bool" "tuple" = some false; decide +kernel
  · show kitB "int" "tuple" = some false; decide +kernel
  · show kitB "str" "tuple" = some false; decide +kernel
  · show kitB "list" "tuple" = some false; decide +kernel
  · show kitB "tuple" "tuple" = some true; decide +kernel
theorem kdL (d : D) (b : Bool) (e : isListD d = some b) : kitB (tyn d) "list" = some b := by
  cases d <;> simp only [isListD, Option.some.injEq, reduceCtorEq] at e <;> subst e
  · show kitB "NoneType" "list" = some false; decide +kernel
  · show kitB "bool" "list" = some false; decide +kernel
  · show kitB "int" "list" = some false; decide +kernel
  · show kitB "str" "list" = some false; decide +kernel
  · show kitB "list" "list" = some true; decide +kernel
  · show kitB "tuple" "list" = some false; decide +kernel
theorem isTy_ok {t : Str} {p : P1} (h : isTy t = some p) : t ∈ bnames ∧ ∃ c f, bootBuiltins t = some (.type c) ∧ p1 p = pIs f ∧ ∀ d b, f d = some b → kitB (tyn d) c = some b := by
  have hm := PySem.mem_of_lookup h
  simp only [isTyt, List.mem_cons, Prod.mk.injEq, List.not_mem_nil, or_false] at hm
  rcases hm with ⟨rfl, rfl⟩ | ⟨rfl, rfl⟩ | ⟨rfl, rfl⟩ | ⟨rfl, rfl⟩ | ⟨rfl, rfl⟩
  · exact ⟨by decide, "int", isIntD, by decide +kernel, rfl, kdI⟩
  · exact ⟨by decide, "bool", isBoolD, by decide +kernel, rfl, kdB⟩
  · exact ⟨by decide, "str", isStrD, by decide +kernel, rfl, kdS⟩
  · exact ⟨by decide, "tuple", isTupD, by decide +kernel, rfl, kdT⟩
  · exact ⟨by decide, "list", isListD, by decide +kernel, rfl, kdL⟩
theorem kitB_upd {K : PySem.W.Frag} {H : Hp} {p : Addr} {o : HO} {x : V} {t : Value} (hp : H p = none) (h : TyX K H x t) : TyX K (upd H p o) x t := by
  have k : ∀ {a : Addr} {u : HO}, H a = some u → upd H p o a = some u := fun {a u} e => by rw [upd_ne (ne_of_none e hp)]; exact e
  cases h with
  | base h =>
    cases h with
    | non => exact .base .non
    | bl b => exact .base (.bl b)
    | int i => exact .base (.int i)
    | str b => exact .base (.str b)
    | flt b => exact .base (.flt b)
    | lst e => exact .base (.lst (k e))
    | frz e => exact .base (.frz (k e))
    | tup e => exact .base (.tup (k e))
    | dK e => exact .base (.dK (k e))
    | dT e => exact .base (.dT (k e))
    | ins e a b c d f => exact .base (.ins (k e) a b c d f)
  | byt b => exact .byt b
  | set e => exact .set (k e)
  | kList e c => exact .kList e c
  | kTuple e c => exact .kTuple e c
  | kDict e c => exact .kDict e c
  | fTuple e => exact .fTuple (k e)
  | fDict e => exact .fDict (k e)
theorem isSeq_kit (d : D) (b : Bool) (h : isSeqD d = some b) (K : PySem.W.Frag) : PySem.W.kitAny K (.type (tyn d)) [.type "list", .type "tuple"] = some b := by
  have go : ∀ (t : String) (a c : Bool), kitB t "list" = some a → kitB t "tuple" = some c → PySem.W.kitAny K (.type t) [.type "list", .type "tuple"] = some (a || c) := fun t a c h1 h2 => by
    refine kitAny_cons (kit_ty h1) (fun e => ?_) (fun e => by simp [e])
    rw [e, Bool.false_or]
    exact kitAny_cons (kit_ty h2) (fun e => by rw [e]; exact kitAny_nil) (fun e => e)
  cases d <;> simp only [isSeqD, Option.some.injEq, reduceCtorEq] at h <;> subst h
  · exact go "NoneType" false false (by decide +kernel) (by decide +kernel)
  · exact go "bool" false false (by decide +kernel) (by decide +kernel)
  · exact go "int" false false (by decide +kernel) (by decide +kernel)
  · exact go "str" false false (by decide +kernel) (by decide +kernel)
  · exact go "list" true false (by decide +kernel) (by decide +kernel)
  · exact go "tuple" false true (by decide +kernel) (by decide +kernel)
end Vx

/-! Vx, part F: expressions are right. -/
namespace Vx
open PySem L2 RZ
section
variable {K : PySem.W.Frag} {fn : Fn} {F F' F1 F2 Z Z' Z1 Z2 : AS} {H H' H1 H2 : Hp} {ρ ρ1 ρ2 : Ev} {σ : St} {o u : O} {Q : VK}
theorem Good.cons {v : V} {l : List Addr} (g : Good K F (Zp Z l) H ρ σ) (r : RepO K F H o v l) (hz : ∀ a ∈ l, ¬ Z a) : Good K F Z H (some o :: ρ) (some v :: σ) := by
  have g' : Good K F (Zp Z l) H (none :: ρ) (none :: σ) := by
    obtain ⟨fp, g⟩ := g
    refine ⟨fun i => match i with | 0 => [] | i + 1 => fp i, by simp [g.len], fun i u e => ?_, fun i j a hij h1 h2 => ?_, fun i a h => ?_, fun i a h => ?_, fun i a h => ?_, g.al, g.zf, g.za⟩
    · cases i with
      | zero => simp at e
      | succ i => simpa using g.rep i u (by simpa using e)
    · cases i with
      | zero => simp at h1
      | succ i =>
        cases j with
        | zero => simp at h2
        | succ j => exact g.dis i j a (fun e => hij (by rw [e])) h1 h2
    · cases i with
      | zero => simp at h
      | succ i => exact g.fa i a h
    · cases i with
      | zero => simp at h
      | succ i => exact g.ff i a h
    · cases i with
      | zero => simp at h
      | succ i => exact g.fz i a h
  exact g'.put r hz 0
theorem Good.empty (al : ∀ a, F a → H a ≠ none) (zf : ∀ a, F a → ¬ Z a) (za : ∀ a, Z a → H a ≠ none) : Good K F Z H [] [] :=
  ⟨fun _ => [], rfl, fun i o e => by simp at e, fun i j a _ h => by simp at h, fun i a h => by simp at h, fun i a h => by simp at h, fun i a h => by simp at h, al, zf, za⟩
theorem RepOs.good : ∀ {os : List O} {vs : List V} {l : List Addr} {Z : AS}, RepOs K F H os vs l → (∀ a ∈ l, ¬ F a) → (∀ a ∈ l, ¬ Z a) → (∀ a, F a → H a ≠ none) → (∀ a, F a → ¬ Z a) → (∀ a, Z a → H a ≠ none) → Good K F Z H (os.map some) (vs.map some)
  | _, _, _, _, .nil, _, _, al, zf, za => Good.empty al zf za
  | _, _, _, _, .cons (l := l) (m := m) r t d, hf, hz, al, zf, za => by
    refine Good.cons (l := l) ?_ r fun a h => hz a (List.mem_append_left _ h)
    refine RepOs.good t (fun a h => hf a (List.mem_append_right _ h)) (fun a h => ?_) al (fun a f => ?_) (fun a z => ?_)
    · rintro (z | z)
      · exact hz a (List.mem_append_right _ h) z
      · exact d a z h
    · rintro (z | z)
      · exact zf a f z
      · exact hf a (List.mem_append_left _ z) f
    · rcases z with z | z
      · exact za a z
      · exact r.alive a z
/-- what the slots hold, put to what must stay -/
def ZE (Z : AS) (fp : Nat → List Addr) : AS := fun a => Z a ∨ ∃ i, a ∈ fp i
theorem Good.back {fp : Nat → List Addr} {l m : List Addr} {ρ' : Ev} {σ' : St} (g : GoodW K F (Zp Z l) H ρ σ fp) (e : Ext F F' (ZE Z fp) H H') (g' : Good K F' (Zp (ZE Z fp) m) H' ρ' σ') (n : ∀ a ∈ m, ¬ ZE Z fp a) : Good K F' (Zp Z m) H' ρ σ := by
  obtain ⟨fq, q⟩ := g'
  refine ⟨fp, g.len, fun i o h => ?_, g.dis, fun i a h => ?_, fun i a h f => q.zf a f (.inl (.inr ⟨i, h⟩)), fun i a h => ?_, q.al, fun a f z => q.zf a f (z.elim (fun z => .inl (.inl z)) .inr), fun a z => q.za a (z.elim (fun z => .inl (.inl z)) .inr)⟩
  · obtain ⟨v, h1, h2⟩ := g.rep i o h
    exact ⟨v, h1, h2.ext e fun a ha => e.kz a (.inr ⟨i, ha⟩)⟩
  · rw [e.kz a (.inr ⟨i, h⟩)]; exact g.fa i a h
  · rintro (z | z)
    · exact g.fz i a h (.inl z)
    · exact n a z (.inr ⟨i, h⟩)
theorem impCall {f : Str} {s : FnS} {es : EL} (hio : s.io = false) (har : ∀ os ρ ρ', evL fn es ρ = some (os, ρ') → os.length = s.ps.length) (h : tE K (evE fn (.call f es)) σ H Q) : tL K (evL fn es) σ H fun vs H1 => spF K fn f s vs H1 Q E0 := by
  obtain ⟨F, Z, ρ, o, ρ', g, q, c⟩ := h
  simp only [evE, Option.bind_eq_some_iff, Option.map_eq_some_iff] at q
  obtain ⟨⟨os, ρ1⟩, e1, r, e2, e3⟩ := q
  cases e3
  refine ⟨F, Z, ρ, os, ρ1, g, e1, fun vs H1 F1 l x1 g1 r1 n1 => ?_⟩
  obtain ⟨fp, w⟩ := g1
  refine ⟨F1, ZE Z fp, os, r, RepOs.good r1 (fun a h f => w.zf a f (.inr h)) (fun a h z => ?_) w.al (fun a f z => ?_) (fun a z => ?_), har _ _ _ e1, e2, fun v H2 F2 m x2 g2 r2 n2 => ?_⟩
  · rcases z with z | ⟨i, z⟩
    · exact n1 a h z
    · exact w.fz i a z (.inr h)
  · rcases z with z | ⟨i, z⟩
    · exact w.zf a f (.inl z)
    · exact w.ff i a z f
  · rcases z with z | ⟨i, z⟩
    · exact w.za a (.inl z)
    · exact w.fa i a z
  · exact c v H2 F2 m (x1.trans (x2.less fun _ h => .inl h)) (Good.back w x2 g2 n2) r2 fun a h z => n2 a h (.inl z)
theorem RepOs.length {os : List O} {vs : List V} {l : List Addr} (r : RepOs K F H os vs l) : os.length = vs.length := by
  induction r with
  | nil => rfl
  | cons _ _ _ ih => simp [ih]
theorem RepOs.app : ∀ {os ps : List O} {vs ws : List V} {l m : List Addr}, RepOs K F H os vs l → RepOs K F H ps ws m → (∀ a ∈ l, a ∉ m) → RepOs K F H (os ++ ps) (vs ++ ws) (l ++ m)
  | _, _, _, _, _, _, .nil, q, _ => q
  | _, _, _, _, _, _, .cons (l := l) (m := m') r t d, q, h => by
    rw [List.append_assoc]
    refine .cons r (RepOs.app t q fun a ha => h a (List.mem_append_right _ ha)) fun a ha hm => ?_
    rcases List.mem_append.mp hm with z | z
    · exact d a ha z
    · exact h a (List.mem_append_left _ ha) z
/-- each value with what it holds alone -/
theorem RepOs.split : ∀ {os : List O} {vs : List V} {l : List Addr}, RepOs K F H os vs l → ∃ fp : Nat → List Addr, (∀ i o, os[i]? = some o → ∃ v, vs[i]? = some v ∧ RepO K F H o v (fp i)) ∧ (∀ i a, a ∈ fp i → a ∈ l) ∧ ∀ i j a, i ≠ j → a ∈ fp i → a ∉ fp j
  | _, _, _, .nil => ⟨fun _ => [], fun i o e => by simp at e, fun i a h => by simp at h, fun i j a _ h => by simp at h⟩
  | _, _, _, .cons (l := l) (m := m) r t d => by
    obtain ⟨fp, h1, h2, h3⟩ := RepOs.split t
    refine ⟨fun i => match i with | 0 => l | i + 1 => fp i, fun i o e => ?_, fun i a h => ?_, fun i j a hij ha hb => ?_⟩
    · cases i with
      | zero => simp at e; subst e; exact ⟨_, rfl, r⟩
      | succ i => simpa using h1 i o (by simpa using e)
    · cases i with
      | zero => exact List.mem_append_left _ h
      | succ i => exact List.mem_append_right _ (h2 i a h)
    · cases i with
      | zero =>
        cases j with
        | zero => exact hij rfl
        | succ j => exact d a ha (h2 j a hb)
      | succ i =>
        cases j with
        | zero => exact d a hb (h2 i a ha)
        | succ j => exact h3 i j a (fun e => hij (by rw [e])) ha hb
/-- in another sequence, each at most once -/
theorem perms_good {os os' : List O} {vs zs : List V} {l : List Addr} {is : List Nat} (r : RepOs K F H os vs l) (nd : is.Nodup) (h : perms os is = some os') (hz : zs.map some = is.map (fun i => vs[i]?))
    (hf : ∀ a ∈ l, ¬ F a) (hzz : ∀ a ∈ l, ¬ Z a) (al : ∀ a, F a → H a ≠ none) (zf : ∀ a, F a → ¬ Z a) (za : ∀ a, Z a → H a ≠ none) : Good K F Z H (os'.map some) (zs.map some) := by
  obtain ⟨fp, h1, h2, h3⟩ := r.split
  clear r
  have key : ∀ (is : List Nat) (os' : List O) (zs : List V) (Z : AS), is.Nodup → perms os is = some os' → zs.map some = is.map (fun i => vs[i]?) → (∀ i ∈ is, ∀ a ∈ fp i, ¬ Z a) → (∀ a, F a → ¬ Z a) → (∀ a, Z a → H a ≠ none) → Good K F Z H (os'.map some) (zs.map some) := by
    intro is
    induction is with
    | nil =>
      intro os' zs Z _ h hz _ zf za
      simp only [perms, Option.some.injEq] at h
      subst h
      simp only [List.map_nil, List.map_eq_nil_iff] at hz
      subst hz
      exact Good.empty al zf za
    | cons i is ih =>
      intro os' zs Z nd h hz hzz zf za
      simp only [perms, Option.bind_eq_some_iff, Option.map_eq_some_iff] at h
      obtain ⟨o, e1, ps, e2, e3⟩ := h
      subst e3
      cases zs with
      | nil => simp at hz
      | cons z zs =>
        simp only [List.map_cons, List.cons.injEq] at hz
        obtain ⟨v, e4, rv⟩ := h1 i o e1
        rw [e4] at hz
        obtain ⟨hv, hz⟩ := hz
        cases hv
        have nd' := List.nodup_cons.mp nd
        refine Good.cons (l := fp i) ?_ rv fun a ha => hzz i (by simp) a ha
        refine ih ps zs _ nd'.2 e2 hz (fun j hj a ha => ?_) (fun a f => ?_) (fun a z => ?_)
        · rintro (z | z)
          · exact hzz j (by simp [hj]) a ha z
          · exact h3 j i a (fun e => nd'.1 (e ▸ hj)) ha z
        · rintro (z | z)
          · exact zf a f z
          · exact hf a (h2 i a z) f
        · rcases z with z | z
          · exact za a z
          · exact rv.alive a z
  exact key is os' zs Z nd h hz (fun i hi a ha => hzz a (h2 i a ha)) zf za
theorem impCallK {f : Str} {s : FnS} {es ks : EL} {k : KwS} (hio : s.io = false) (nd : k.perm.Nodup) (hpl : k.perm.length = s.ps.length) (h : tE K (evE fn (.callK f k.perm es ks)) σ H Q) :
    tL K (evL fn es) σ H fun vs H1 => tL K (evL fn ks) σ H1 fun ws H2 => ∀ zs : List V, zs.map some = k.perm.map (fun i => (vs ++ ws)[i]?) → spF K fn f s zs H2 Q E0 := by
  obtain ⟨F, Z, ρ, o, ρ', g, q, c⟩ := h
  simp only [evE, Option.bind_eq_some_iff, Option.map_eq_some_iff] at q
  obtain ⟨⟨os, ρ1⟩, e1, ⟨ps, ρ2⟩, e2, os', e3, r, e4, e5⟩ := q
  cases e5
  refine ⟨F, Z, ρ, os, ρ1, g, e1, fun vs H1 F1 l x1 g1 r1 n1 => ?_⟩
  refine ⟨F1, Zp Z l, ρ1, ps, ρ2, g1, e2, fun ws H2 F2 m x2 g2 r2 n2 => fun zs hzs => ?_⟩
  rw [Zp_app] at g2
  have r3 : RepOs K F2 H2 (os ++ ps) (vs ++ ws) (l ++ m) := (r1.ext x2 fun a h => x2.kz a (.inr h)).app r2 fun a h1 h2 => n2 a h2 (.inr h1)
  have n3 : ∀ a ∈ l ++ m, ¬ Z a := fun a h z => by
    rcases List.mem_append.mp h with h | h
    · exact n1 a h z
    · exact n2 a h (.inl z)
  obtain ⟨fp, w⟩ := g2
  have hl : os'.length = s.ps.length := by
    rw [← hpl]
    clear e4 c hzs hpl nd
    generalize k.perm = is at e3
    induction is generalizing os' with
    | nil => simp only [perms, Option.some.injEq] at e3; subst e3; rfl
    | cons i is ih =>
      simp only [perms, Option.bind_eq_some_iff, Option.map_eq_some_iff] at e3
      obtain ⟨o, _, ps, e6, rfl⟩ := e3
      simp [ih ps e6]
  refine ⟨F2, ZE Z fp, os', r, perms_good r3 nd e3 hzs (fun a h f => w.zf a f (.inr h)) (fun a h z => ?_) w.al (fun a f z => ?_) (fun a z => ?_), hl, e4, fun v H3 F3 m' x3 g3 r4 n4 => ?_⟩
  · rcases z with z | ⟨i, z⟩
    · exact n3 a h z
    · exact w.fz i a z (.inr h)
  · rcases z with z | ⟨i, z⟩
    · exact w.zf a f (.inl z)
    · exact w.ff i a z f
  · rcases z with z | ⟨i, z⟩
    · exact w.za a (.inl z)
    · exact w.fa i a z
  · exact c v H3 F3 m' ((x1.trans (x2.less fun _ h => .inl h)).trans (x3.less fun _ h => .inl h)) (Good.back w x3 g3 n4) r4 fun a h z => n4 a h (.inl z)
theorem set_self {α : Type} {l : List α} {i : Nat} {a : α} (h : l[i]? = some a) : l.set i a = l := by
  refine List.ext_getElem? fun j => ?_
  rw [List.getElem?_set]
  split
  · rename_i e; subst e
    split
    · exact h.symm
    · have := (List.getElem?_eq_some_iff.mp h).1; omega
  · rfl
theorem impCallIO {f : Str} {s : FnS} {i : Nat} {es : EL} (hio : s.io = true) (har : ∀ os ρ ρ', evL fn es ρ = some (os, ρ') → os.length + 1 = s.ps.length) (h : tE K (evE fn (.callIO f i es)) σ H Q) :
    tCons (tVar i) (tL K (evL fn es)) σ H fun vs H1 => spF K fn f s vs H1 Q E0 := by
  obtain ⟨F, Z, ρ, o, ρ', g, q, c⟩ := h
  simp only [evE] at q
  split at q
  · rename_i hs
    simp only [Option.bind_eq_some_iff, Option.map_eq_some_iff] at q
    obtain ⟨⟨os, ρ1⟩, e1, x, e2, r, e3, e4⟩ := q
    cases e4
    obtain ⟨x0, e0⟩ := Option.isSome_iff_exists.mp hs
    obtain ⟨v, l0, k0, _⟩ := g.get (join_some e0)
    refine ⟨v, k0, F, Z, ρ, os, ρ1, g, e1, fun vs H1 F1 l x1 g1 r1 n1 => ?_⟩
    obtain ⟨v', li, k1, ri, ni, g2⟩ := g1.take (join_some e2)
    rw [k0] at k1
    cases k1
    obtain ⟨fp, w⟩ := g2
    have rr : RepOs K F1 H1 (x :: os) (v :: vs) (li ++ l) := .cons ri r1 fun a h1 h2 => ni a h1 (.inr h2)
    refine ⟨F1, ZE Z fp, x :: os, r, RepOs.good rr (fun a h f => ?_) (fun a h z => ?_) w.al (fun a f z => ?_) (fun a z => ?_), by simpa using har _ _ _ e1, e3, fun v2 H2 F2 m x2 g3 r3 n3 => ?_⟩
    · rcases List.mem_append.mp h with h | h
      · exact w.zf a f (.inr h)
      · exact w.zf a f (.inl (.inr h))
    · rcases List.mem_append.mp h with h | h
      · rcases z with z | ⟨j, z⟩
        · exact ni a h (.inl z)
        · exact w.fz j a z (.inr h)
      · rcases z with z | ⟨j, z⟩
        · exact n1 a h z
        · exact w.fz j a z (.inl (.inr h))
    · rcases z with z | ⟨j, z⟩
      · exact w.zf a f (.inl (.inl z))
      · exact w.ff j a z f
    · rcases z with z | ⟨j, z⟩
      · exact w.za a (.inl (.inl z))
      · exact w.fa j a z
    · rw [hio] at g3
      simp only [if_true] at g3
      obtain ⟨v3, l3, k3, r4, n4, g4⟩ := g3.take (i := 0) rfl
      simp only [List.take_succ_cons, List.take_zero, List.map_cons, List.map_nil, List.getElem?_cons_zero, Option.some.injEq] at k3
      subst k3
      rw [Zp_app] at g4
      have nn : ∀ a ∈ m ++ l3, ¬ ZE Z fp a := fun a h z => by
        rcases List.mem_append.mp h with h | h
        · exact n3 a h z
        · exact n4 a h (.inl z)
      rw [Zp_app] at w
      have g5 := Good.back w x2 g4 nn
      rw [← Zp_app] at g5
      have g6 := g5.put r4 (fun a h z => by
        rcases z with z | z
        · exact n4 a h (.inl (.inl z))
        · exact n4 a h (.inr z)) i
      rw [List.set_set, set_self k0] at g6
      exact c v2 H2 F2 m (x1.trans (x2.less fun _ h => .inl h)) g6 r3 fun a h z => n3 a h (.inl z)
  · cases q
end

/-! ### lists of expressions -/
section
variable {tb : Tab} {fn : Fn} {X : Cx} {se : SE}
theorem star_of {n : Nat} {e : Expr} {ir : E} (h : cE tb n se e = some ir) (es : List Expr) (env : Env) : starEach (e :: es) env = (false, eval e env) :: starEach es env := by
  cases n with
  | zero => simp [cE] at h
  | succ n =>
    cases e
    case Starred => simp [cE] at h
    all_goals rfl
theorem starA_of {n : Nat} {e : Expr} {ir : A} (h : cA tb n se e = some ir) (es : List Expr) (env : Env) : starEach (e :: es) env = (false, eval e env) :: starEach es env := by
  cases n with
  | zero => simp [cA] at h
  | succ n =>
    cases e
    case Starred => 
      simp only [cA, Option.map_eq_some_iff] at h
      obtain ⟨x, h, _⟩ := h
      cases n <;> simp [cE] at h
    all_goals rfl
theorem elOf_any {n : Nat} {pos : Pos} : ∀ {es : List Expr} {ir : EL} {env : Env}, elOf (cE tb n se) es = some ir → (backTo pos (starEach es env)).any (·.1) = false
  | [], _, _, _ => rfl
  | e :: r, _, env, h => by
    simp only [elOf, Option.bind_eq_some_iff, Option.map_eq_some_iff] at h
    obtain ⟨x, h1, y, h2, _⟩ := h
    rw [star_of h1]
    show (false || (backTo pos (starEach r env)).any (·.1)) = false
    rw [elOf_any h2]
    rfl
theorem elOf_len {n : Nat} : ∀ {es : List Expr} {ir : EL}, elOf (cE tb n se) es = some ir → ∀ os ρ ρ', evL fn ir ρ = some (os, ρ') → os.length = es.length
  | [], _, h, os, ρ, ρ', q => by
    simp only [elOf, Option.some.injEq] at h
    subst h
    simp only [evL, Option.some.injEq, Prod.mk.injEq] at q
    rw [← q.1]; rfl
  | e :: r, _, h, os, ρ, ρ', q => by
    simp only [elOf, Option.bind_eq_some_iff, Option.map_eq_some_iff] at h
    obtain ⟨x, h1, y, h2, h3⟩ := h
    subst h3
    simp only [evL, Option.bind_eq_some_iff, Option.map_eq_some_iff] at q
    obtain ⟨z, q1, z2, q2, q3⟩ := q
    cases q3
    simp [elOf_len h2 _ _ _ q2]

structure Snd (tb : Tab) (fn : Fn) (n : Nat) : Prop where
  e : ∀ {X : Cx} {se : SE}, Ok tb fn X se → ∀ {e : Expr} {ir : E}, cE tb n se e = some ir → PE X e (tE X.K (evE fn ir))
  a : ∀ {X : Cx} {se : SE}, Ok tb fn X se → ∀ {e : Expr} {ir : A}, cA tb n se e = some ir → PE X e (tA X.K fn ir)
  o : ∀ {X : Cx} {se : SE}, Ok tb fn X se → ∀ {e : Option Expr} {ir : OE}, cOE tb n se e = some ir → PO X e (tOE X.K (evOE fn ir))
  t : ∀ {X : Cx} {se : SE}, Ok tb fn X se → ∀ {e : Expr} {ir : T}, cT tb n se e = some ir → PT X e (tT X.K (evT fn ir))
  i : ∀ {X : Cx} {se : SE}, Ok tb fn X se → ∀ {tg e : Expr} {ir : I}, cI tb n se tg e = some ir → PI X tg e (tI X.K (evI fn ir))
theorem el_ok {n : Nat} (S : Snd tb fn n) (ok : Ok tb fn X se) : ∀ {es : List Expr} {ir : EL}, elOf (cE tb n se) es = some ir → PA X es (tL X.K (evL fn ir))
  | [], _, h => by
    simp only [elOf, Option.some.injEq] at h
    subst h
    exact PA_imp pa_nil fun σ H Q => impLnil
  | e :: r, _, h => by
    simp only [elOf, Option.bind_eq_some_iff, Option.map_eq_some_iff] at h
    obtain ⟨x, h1, y, h2, h3⟩ := h
    subst h3
    exact PA_imp (pa_cons (S.e ok h1) (el_ok S ok h2) (star_of h1 _ _)) fun σ H Q => impLcons
theorem kw_ok {n : Nat} (S : Snd tb fn n) (ok : Ok tb fn X se) : ∀ {es : List Keyword} {ir : EL}, kwOf (cE tb n se) es = some ir → PK X es (tL X.K (evL fn ir))
  | [], _, h => by
    simp only [kwOf, Option.some.injEq] at h
    subst h
    exact ⟨fun p pins s σ H Q I q => pk_nil.run p pins s σ H Q I (impLnil q)⟩
  | ⟨none, e, p⟩ :: r, _, h => by simp [kwOf] at h
  | ⟨some nm, e, p⟩ :: r, _, h => by
    simp only [kwOf, Option.bind_eq_some_iff, Option.map_eq_some_iff] at h
    obtain ⟨x, h1, y, h2, h3⟩ := h
    subst h3
    have k := pk_cons (nm := some nm) (kpos := p) (S.e ok h1) (kw_ok S ok h2)
    exact ⟨fun p pins s σ H Q I q => k.run p pins s σ H Q I (impLcons q)⟩
theorem kw_names {n : Nat} {pos : Pos} {env : Env} : ∀ {es : List Keyword} {ir : EL}, kwOf (cE tb n se) es = some ir → (backToKw pos (keywordEach es env)).all (·.1.isSome) = true ∧ (backToKw pos (keywordEach es env)).filterMap (·.1) = kwNames es ∧ (backToKw pos (keywordEach es env)).any (·.1.isNone) = false
  | [], _, h => ⟨rfl, rfl, rfl⟩
  | ⟨none, e, p⟩ :: r, _, h => by simp [kwOf] at h
  | ⟨some nm, e, p⟩ :: r, _, h => by
    simp only [kwOf, Option.bind_eq_some_iff, Option.map_eq_some_iff] at h
    obtain ⟨x, h1, y, h2, h3⟩ := h
    obtain ⟨k1, k2, k3⟩ := kw_names (pos := pos) (env := env) h2
    refine ⟨?_, ?_, ?_⟩
    · show (true && _) = true
      rw [Bool.true_and]; exact k1
    · show nm :: (backToKw pos (keywordEach r env)).filterMap (·.1) = nm :: kwNames r
      rw [k2]
    · show (false || _) = false
      rw [Bool.false_or]; exact k3
theorem kw_len {n : Nat} : ∀ {es : List Keyword} {ir : EL}, kwOf (cE tb n se) es = some ir → (kwNames es).length = es.length
  | [], _, h => rfl
  | ⟨none, e, p⟩ :: r, _, h => by simp [kwOf] at h
  | ⟨some nm, e, p⟩ :: r, _, h => by
    simp only [kwOf, Option.bind_eq_some_iff, Option.map_eq_some_iff] at h
    obtain ⟨x, h1, y, h2, h3⟩ := h
    show (kwNames r).length + 1 = r.length + 1
    rw [kw_len h2]

/-! ### calls of the text's own defs -/
theorem call_ok {f : Str} {p pos : Pos} {e : Expr} {es : List Expr} {ta : TA} {s : FnS} (ok : Ok tb fn X se) (hg : isGl se f = true) (hf : tb.fns.lookup f = some s) (hl : s.lev ≤ se.lim) (ha : PA X (e :: es) ta)
    (he : starEach (e :: es) X.env = (false, eval e X.env) :: starEach es X.env) (hpl : (backTo pos (starEach es X.env)).any (·.1) = false) (har : (e :: es).length = s.ps.length)
    {t' : TE} (hi : ∀ σ H Q, t' σ H Q → ta σ H fun vs H1 => spF X.K fn f s vs H1 Q E0) : PE X (.Call (.Name f p) (e :: es) [] pos) t' := by
  obtain ⟨a, fd, hm, hk, G, hb, _⟩ := (ok.fns f s hf hl).ex
  obtain ⟨g1, g2, _⟩ := ok.gl hg
  refine ⟨fun pins st σ H Q I h => ?_⟩
  refine wpAny_Call_Name_kw (ld_glob I g1 hm ?_ g2)
  refine PySem.W.callWith_K (h₀ := X.base) I.ok.mod.kin hk (thn (ha.run pos pins st σ H _ I (hi σ H Q h)) fun us s1 ⟨vs, H1, I1, r, q⟩ => ⟨I1.kIn, ?_⟩) he hpl
  have hlen : us.length = s.ps.length := by
    obtain ⟨F, Z, os, rr, g, l, _⟩ := q
    rw [← r.length, ← l]
    have := g.len
    simpa using this.symm
  exact run_g G ok.gd (ok.room.mono hl) (hb s1 us hlen) I1 r q
theorem callK_ok {f : Str} {p pos : Pos} {es : List Expr} {kws : List Keyword} {ta tk : TA} {s : FnS} {k : KwS} (ok : Ok tb fn X se) (hg : isGl se f = true) (hf : tb.fns.lookup f = some s) (hl : s.lev ≤ se.lim) (hk : k ∈ s.kws)
    (ha : PA X es ta) (hkw : PK X kws tk) (hn : k.npos = es.length) (hks : k.ks = kwNames kws)
    (he : es = [] ∨ ∃ e r, es = e :: r ∧ starEach (e :: r) X.env = (false, eval e X.env) :: starEach r X.env) (hpl : (backTo pos (starEach es X.env)).any (·.1) = false)
    (hn1 : (backToKw pos (keywordEach kws X.env)).all (·.1.isSome) = true) (hn2 : (backToKw pos (keywordEach kws X.env)).filterMap (·.1) = kwNames kws) (hn3 : (backToKw pos (keywordEach kws X.env)).any (·.1.isNone) = false)
    (h0 : es = [] → ∀ σ H (k : List V → Hp → Prop), ta σ H k → k [] H)
    {t' : TE} (lenA : ∀ σ H k, ta σ H k → ta σ H fun vs H1 => vs.length = es.length ∧ k vs H1) (lenK : ∀ σ H k, tk σ H k → tk σ H fun vs H1 => vs.length = (kwNames kws).length ∧ k vs H1)
    (hi : ∀ σ H Q, t' σ H Q → ta σ H fun vs H1 => tk σ H1 fun ws H2 => ∀ zs : List V, zs.map some = k.perm.map (fun i => (vs ++ ws)[i]?) → spF X.K fn f s zs H2 Q E0) : PE X (.Call (.Name f p) es kws pos) t' := by
  obtain ⟨a, fd, hm, hki, G, _, hb⟩ := (ok.fns f s hf hl).ex
  obtain ⟨g1, g2, _⟩ := ok.gl hg
  refine ⟨fun pins st σ H Q I h => ?_⟩
  refine wpAny_Call_Name_kw (ld_glob I g1 hm ?_ g2)
  have fin : ∀ (us ws : List Value) (vs zs : List V) (H2 : Hp) (s2 : Shared), Inv X pins σ H2 s2 → Vals vs us → Vals zs ws → vs.length = es.length → zs.length = (kwNames kws).length → (∀ qs : List V, qs.map some = k.perm.map (fun i => (vs ++ zs)[i]?) → spF X.K fn f s qs H2 Q E0) →
      wpAny (model X.prog X.w) X.A (call (.ref a) us ((kwNames kws).zip ws)) (EP X pins σ Q) X.xe s2 := fun us ws vs zs H2 s2 I2 r rz l1 l2 q => by
    obtain ⟨qs, e1, e2, bt⟩ := hb k hk s2 us ws (by rw [← r.length, l1, hn]) (by rw [← rz.length, l2, hks])
    rw [hks] at bt
    have rr : Vals (vs ++ zs) (us ++ ws) := r.append rz
    have : ∃ ys : List V, ys.map some = k.perm.map (fun i => (vs ++ zs)[i]?) ∧ Vals ys qs := by
      have key : ∀ (is : List Nat) (qs : List Value), qs.map some = is.map (fun i => (us ++ ws)[i]?) → ∃ ys : List V, ys.map some = is.map (fun i => (vs ++ zs)[i]?) ∧ Vals ys qs := by
        intro is
        induction is with
        | nil =>
          intro qs h
          simp only [List.map_nil, List.map_eq_nil_iff] at h
          subst h
          exact ⟨[], rfl, .nil⟩
        | cons i is ih =>
          intro qs h
          cases qs with
          | nil => simp at h
          | cons x qs =>
            simp only [List.map_cons, List.cons.injEq] at h
            obtain ⟨ys, h1, h2⟩ := ih qs h.2
            cases e : (vs ++ zs)[i]? with
            | none =>
              have := rr.none_of e
              rw [this] at h
              cases h.1
            | some y =>
              obtain ⟨u, e3, ru⟩ := rr.get e
              rw [e3] at h
              cases h.1
              exact ⟨y :: ys, by simp [h1, e], .cons ru h2⟩
      exact key k.perm qs e1
    obtain ⟨ys, h1, h2⟩ := this
    exact run_g G ok.gd (ok.room.mono hl) bt I2 h2 (q ys h1)
  rcases he with rfl | ⟨e, r, rfl, he⟩
  · refine PySem.W.callWith_KW0 (h₀ := X.base) I.ok.mod.kin hki hn1 ?_ (by show (false || _) = false; rw [Bool.false_or]; exact hn3)
    refine thn (hkw.run pos pins st σ H _ I (lenK _ _ _ (h0 rfl _ _ _ (hi σ H Q h)))) fun ws s2 ⟨zs, H2, I2, rz, l2, q2⟩ => ⟨I2.kIn, ?_⟩
    rw [hn2]
    exact fin [] ws [] zs H2 s2 I2 .nil rz rfl l2 q2
  · refine PySem.W.callWith_KW (h₀ := X.base) I.ok.mod.kin hki hn1 (thn (ha.run pos pins st σ H _ I (lenA _ _ _ (hi σ H Q h))) fun us s1 ⟨vs, H1, I1, r1, l1, q⟩ => ?_) (by rw [hpl, Bool.false_or]; exact hn3) he
    refine thn (hkw.run pos pins s1 σ H1 _ I1 (lenK _ _ _ q)) fun ws s2 ⟨zs, H2, I2, rz, l2, q2⟩ => ⟨I2.kIn, ?_⟩
    rw [hn2]
    exact fin us ws vs zs H2 s2 I2 r1 rz l1 l2 q2
end
end Vx

/-! Vx, part G: expressions are right: the induction. -/
namespace Vx
open PySem L2 RZ
section
variable {K : PySem.W.Frag} {fn : Fn} {σ : St} {H : Hp}
theorem tE_mono {ev : Ev → Option (O × Ev)} {k k' : VK} (h : tE K ev σ H k) (i : ∀ v H, k v H → k' v H) : tE K ev σ H k' := by
  obtain ⟨F, Z, ρ, o, ρ', g, e, c⟩ := h
  exact ⟨F, Z, ρ, o, ρ', g, e, fun v H' F' l a b r n => i _ _ (c v H' F' l a b r n)⟩
theorem tA_mono {a : A} {k k' : VK} (h : tA K fn a σ H k) (i : ∀ v H, k v H → k' v H) : tA K fn a σ H k' := by
  cases a with
  | pk j => obtain ⟨v, e, h⟩ := h; exact ⟨v, e, i _ _ h⟩
  | ex e => exact tE_mono h i
theorem rV1_not {x : V} {Q : VK} (h : rV1 K pNot x H Q) : ∃ c, x = .bl c ∧ Q (.bl (!c)) H := by
  obtain ⟨F, Z, ρ, σ, o, w, l, g, r1, h, d⟩ := h
  unfold pNot at h
  split at h
  · obtain ⟨rfl, _⟩ := r1.bool_
    cases h
    exact ⟨_, rfl, d.bl g⟩
  · cases h
theorem isSeq_call {x : V} {p : Addr} {Q : VK} (hp : H p = none) (h : rV1 K (pIs isSeqD) x H Q) (hq : ∀ v H', Q v H' → True) : True := trivial
end
section
variable {tb : Tab} {fn : Fn} {X : Cx} {se : SE}
theorem andV_ok {n : Nat} (S : Snd tb fn n) (ok : Ok tb fn X se) {pos : Pos} : ∀ {vs : List Expr} {ir : E}, valOf .andV (cE tb n se) vs = some ir → PE X (.BoolOp .And vs pos) (tE X.K (evE fn ir))
  | [], _, h => by simp [valOf] at h
  | [e], _, h => pe_one (S.e ok h)
  | e :: e' :: r, _, h => by
    simp only [valOf, Option.bind_eq_some_iff, Option.map_eq_some_iff] at h
    obtain ⟨x, h1, y, h2, h3⟩ := h
    subst h3
    exact PE_imp (pe_and (S.e ok h1) (andV_ok S ok (pos := pos) h2)) fun σ H Q => impAndV
theorem orV_ok {n : Nat} (S : Snd tb fn n) (ok : Ok tb fn X se) {pos : Pos} : ∀ {vs : List Expr} {ir : E}, valOf .orV (cE tb n se) vs = some ir → PE X (.BoolOp .Or vs pos) (tE X.K (evE fn ir))
  | [], _, h => by simp [valOf] at h
  | [e], _, h => pe_one (S.e ok h)
  | e :: e' :: r, _, h => by
    simp only [valOf, Option.bind_eq_some_iff, Option.map_eq_some_iff] at h
    obtain ⟨x, h1, y, h2, h3⟩ := h
    subst h3
    exact PE_imp (pe_or (S.e ok h1) (orV_ok S ok (pos := pos) h2)) fun σ H Q => impOrV
theorem andT_ok {n : Nat} (S : Snd tb fn n) (ok : Ok tb fn X se) {pos : Pos} : ∀ {vs : List Expr} {ir : T}, andOf (cT tb n se) vs = some ir → PW X (.BoolOp .And vs pos) (tT X.K (evT fn ir))
  | [], _, h => by simp [andOf] at h
  | [e], _, h => pw_and1 (S.t ok h)
  | e :: e' :: r, _, h => by
    simp only [andOf, Option.bind_eq_some_iff, Option.map_eq_some_iff] at h
    obtain ⟨x, h1, y, h2, h3⟩ := h
    subst h3
    exact PW_imp (pw_and (S.t ok h1) (andT_ok S ok (pos := pos) h2)) fun σ H Q => impAnd
theorem orT_ok {n : Nat} (S : Snd tb fn n) (ok : Ok tb fn X se) {pos : Pos} : ∀ {vs : List Expr} {ir : T}, orOf (cT tb n se) vs = some ir → PW X (.BoolOp .Or vs pos) (tT X.K (evT fn ir))
  | [], _, h => by simp [orOf] at h
  | [e], _, h => pw_or1 (S.t ok h)
  | e :: e' :: r, _, h => by
    simp only [orOf, Option.bind_eq_some_iff, Option.map_eq_some_iff] at h
    obtain ⟨x, h1, y, h2, h3⟩ := h
    subst h3
    exact PW_imp (pw_or (S.t ok h1) (orT_ok S ok (pos := pos) h2)) fun σ H Q => impOr
theorem stAll_ok (ok : Ok tb fn X se) : ∀ {xs : List Str} {is : List Nat}, stAll se xs = some is → ∀ {es : List Expr}, namesOf es = some xs → PGs X es (gNms is) ∧ (assignEach es X.env).length = is.length ∧ (assignEach es X.env).findIdx? (·.1) = none
  | [], is, h, [], _ => by
    simp only [stAll, Option.some.injEq] at h
    subst h
    exact ⟨pgs_nil, rfl, rfl⟩
  | x :: xs, is, h, .Name y p :: es, q => by
    simp only [stAll, Option.bind_eq_some_iff, Option.map_eq_some_iff] at h
    obtain ⟨i, h1, is', h2, rfl⟩ := h
    simp only [namesOf, Option.map_eq_some_iff, List.cons.injEq] at q
    obtain ⟨ys, q1, rfl, rfl⟩ := q
    obtain ⟨k1, k2, k3⟩ := stAll_ok ok h2 q1
    obtain ⟨e1, e2, e3⟩ := ok.st h1
    refine ⟨pgs_cons (pg_name ok.nd e1 e2 e3) k1, ?_, ?_⟩
    · show (assignEach es X.env).length + 1 = is'.length + 1
      rw [k2]
    · show List.findIdx? (·.1) ((false, assign (.Name y p) X.env) :: assignEach es X.env) = none
      rw [List.findIdx?_cons]
      simp [k3]
  | [], _, _, e :: es, q => by
    cases e <;> simp [namesOf] at q
  | x :: xs, _, _, [], q => by simp [namesOf] at q
  | x :: xs, _, _, .BoolOp .. :: es, q => by simp [namesOf] at q
  | x :: xs, _, _, .NamedExpr .. :: es, q => by simp [namesOf] at q
  | x :: xs, _, _, .BinOp .. :: es, q => by simp [namesOf] at q
  | x :: xs, _, _, .UnaryOp .. :: es, q => by simp [namesOf] at q
  | x :: xs, _, _, .Lambda .. :: es, q => by simp [namesOf] at q
  | x :: xs, _, _, .IfExp .. :: es, q => by simp [namesOf] at q
  | x :: xs, _, _, .Dict .. :: es, q => by simp [namesOf] at q
  | x :: xs, _, _, .Set .. :: es, q => by simp [namesOf] at q
  | x :: xs, _, _, .ListComp .. :: es, q => by simp [namesOf] at q
  | x :: xs, _, _, .SetComp .. :: es, q => by simp [namesOf] at q
  | x :: xs, _, _, .DictComp .. :: es, q => by simp [namesOf] at q
  | x :: xs, _, _, .GeneratorExp .. :: es, q => by simp [namesOf] at q
  | x :: xs, _, _, .Await .. :: es, q => by simp [namesOf] at q
  | x :: xs, _, _, .Yield .. :: es, q => by simp [namesOf] at q
  | x :: xs, _, _, .YieldFrom .. :: es, q => by simp [namesOf] at q
  | x :: xs, _, _, .Compare .. :: es, q => by simp [namesOf] at q
  | x :: xs, _, _, .Call .. :: es, q => by simp [namesOf] at q
  | x :: xs, _, _, .FormattedValue .. :: es, q => by simp [namesOf] at q
  | x :: xs, _, _, .JoinedStr .. :: es, q => by simp [namesOf] at q
  | x :: xs, _, _, .Constant .. :: es, q => by simp [namesOf] at q
  | x :: xs, _, _, .Attribute .. :: es, q => by simp [namesOf] at q
  | x :: xs, _, _, .Subscript .. :: es, q => by simp [namesOf] at q
  | x :: xs, _, _, .Starred .. :: es, q => by simp [namesOf] at q
  | x :: xs, _, _, .List .. :: es, q => by simp [namesOf] at q
  | x :: xs, _, _, .Tuple .. :: es, q => by simp [namesOf] at q
  | x :: xs, _, _, .Slice .. :: es, q => by simp [namesOf] at q
theorem cG_ok (ok : Ok tb fn X se) {tg : Expr} {g : G} {own : List (Str × Nat)} (h : cG se tg = some (g, own)) : PG X tg (gG X.K g) := by
  cases tg
  case Name x p =>
    simp only [cG, Option.map_eq_some_iff, Prod.mk.injEq] at h
    obtain ⟨i, h1, rfl, rfl⟩ := h
    obtain ⟨e1, e2, e3⟩ := ok.st h1
    exact pg_name ok.nd e1 e2 e3
  case Tuple es k p =>
    simp only [cG, Option.bind_eq_some_iff, Option.map_eq_some_iff, Prod.mk.injEq] at h
    obtain ⟨xs, h1, is, h2, rfl, rfl⟩ := h
    obtain ⟨k1, k2, k3⟩ := stAll_ok ok h2 h1
    exact pg_tup ok.calm k1 k2 k3
  all_goals simp [cG] at h
theorem cG_own {se : SE} {tg : Expr} {g : G} {own : List (Str × Nat)} (h : cG se tg = some (g, own)) : ∀ j ∈ g.ixs, j ∈ own.map Prod.snd := by
  cases tg
  case Name x p =>
    simp only [cG, Option.map_eq_some_iff, Prod.mk.injEq] at h
    obtain ⟨i, h1, rfl, rfl⟩ := h
    intro j hj
    simpa [G.ixs] using hj
  case Tuple es k p =>
    simp only [cG, Option.bind_eq_some_iff, Option.map_eq_some_iff, Prod.mk.injEq] at h
    obtain ⟨xs, h1, is, h2, rfl, rfl⟩ := h
    have hl : is.length ≤ xs.length := by
      clear h1
      induction xs generalizing is with
      | nil => simp only [stAll, Option.some.injEq] at h2; subst h2; simp
      | cons x xs ih =>
        simp only [stAll, Option.bind_eq_some_iff, Option.map_eq_some_iff] at h2
        obtain ⟨i, _, js, h3, rfl⟩ := h2
        have := ih js h3
        simp; omega
    intro j hj
    have : (xs.zip is).map Prod.snd = is := List.map_snd_zip hl
    rw [this]
    exact hj
  all_goals simp [cG] at h
theorem isSub_ok (ok : Ok tb fn X se) {n : Nat} (S : Snd tb fn n) {a : Expr} {x : A} {ap : Pos} {t : Str} {tp pos : Pos} {p : P1} (hg : isGl se "isinstance" = true) (ht : isGl se t = true) (hp : isTy t = some p) (ha : cA tb n se a = some x) :
    PE X (.Call (.Name "isinstance" ap) [a, .Name t tp] [] pos) (tE X.K (evE fn (.op1 p x))) := by
  obtain ⟨m1, c, f, hb, hf, hk⟩ := isTy_ok hp
  obtain ⟨g1, g2, g3⟩ := ok.gl hg
  obtain ⟨t1, t2, t3⟩ := ok.gl ht
  refine PE_imp (pe_callB call_isi g1 (ok.bi _ (by decide)) PyProof.Rows.boot_isinstance (pa_cons (S.a ok ha) (pa_cons (pe_bltn (v := .ty c) t1 (ok.bi _ m1) hb rfl t3 t2) pa_nil) (starA_of ha _ _)) g3 g2 (starA_of ha _ _) rfl) fun σ H Q h => ?_
  have h := imp1 h
  rw [hf] at h
  exact tA_mono h fun v H1 q => rIsi_of hk q
theorem isSeqE_ok (ok : Ok tb fn X se) {n : Nat} (S : Snd tb fn n) {a : Expr} {x : A} {ap p1' p2' kp pos : Pos} {kk : Nat} (hg : isGl se "isinstance" = true) (hl : isGl se "list" = true) (ht : isGl se "tuple" = true) (ha : cA tb n se a = some x) :
    PE X (.Call (.Name "isinstance" ap) [a, .Tuple [.Name "list" p1', .Name "tuple" p2'] kk kp] [] pos) (tE X.K (evE fn (.op1 .isSeq x))) := by
  obtain ⟨g1, g2, g3⟩ := ok.gl hg
  obtain ⟨l1, l2, l3⟩ := ok.gl hl
  obtain ⟨t1, t2, t3⟩ := ok.gl ht
  refine PE_imp (pe_callB call_isiT g1 (ok.bi _ (by decide)) PyProof.Rows.boot_isinstance (pa_cons (S.a ok ha) (pa_cons (pe_tup (pa_cons (pe_bltn (v := .ty "list") l1 (ok.bi _ (by decide)) (by decide +kernel) rfl l3 l2)
    (pa_cons (pe_bltn (v := .ty "tuple") t1 (ok.bi _ (by decide)) (by decide +kernel) rfl t3 t2) pa_nil))) pa_nil) (starA_of ha _ _)) g3 g2 (starA_of ha _ _) rfl) fun σ H Q h => ?_
  refine tA_mono (imp1 h) fun v H1 q => ?_
  refine ⟨by show 2 ≤ sizeLine; decide, fun p hp => ?_⟩
  obtain ⟨F, Z, ρ, σ1, o, w, l, g, r1, e, d⟩ := q
  have e : pIs isSeqD o = some w := e
  unfold pIs at e
  simp only [Option.bind_eq_some_iff] at e
  obtain ⟨b, ⟨d', e1, e2⟩, e3⟩ := e
  cases e3
  obtain ⟨x2, g2'⟩ := g.newF (ob := .tup [V.ty "list", V.ty "tuple"]) hp
  refine ⟨v, p, _, _, [.type "list", .type "tuple"], b, rfl, upd_same, .cons (.ty _) (.cons (.ty _) .nil), kitB_upd hp (r1.tyx e1), isSeq_kit _ _ e2 _, ?_⟩
  exact d _ _ _ [] x2 g2'.nil (.sh (.bl b)) (fun _ h => by simp at h)
theorem lenL {n : Nat} {es : List Expr} {ir : EL} {σ : St} {H : Hp} {k : List V → Hp → Prop} {K : PySem.W.Frag} (hl : elOf (cE tb n se) es = some ir) (h : tL K (evL fn ir) σ H k) : tL K (evL fn ir) σ H fun vs H1 => vs.length = es.length ∧ k vs H1 := by
  obtain ⟨F, Z, ρ, os, ρ', g, e, c⟩ := h
  exact ⟨F, Z, ρ, os, ρ', g, e, fun vs H' F' l a b r m => ⟨by rw [← r.length]; exact elOf_len hl _ _ _ e, c vs H' F' l a b r m⟩⟩
theorem kwOf_len {n : Nat} : ∀ {es : List Keyword} {ir : EL}, kwOf (cE tb n se) es = some ir → ∀ os ρ ρ', evL fn ir ρ = some (os, ρ') → os.length = (kwNames es).length
  | [], _, h, os, ρ, ρ', q => by
    simp only [kwOf, Option.some.injEq] at h
    subst h
    simp only [evL, Option.some.injEq, Prod.mk.injEq] at q
    rw [← q.1]; rfl
  | ⟨none, e, p⟩ :: r, _, h, _, _, _, _ => by simp [kwOf] at h
  | ⟨some nm, e, p⟩ :: r, _, h, os, ρ, ρ', q => by
    simp only [kwOf, Option.bind_eq_some_iff, Option.map_eq_some_iff] at h
    obtain ⟨x, h1, y, h2, h3⟩ := h
    subst h3
    simp only [evL, Option.bind_eq_some_iff, Option.map_eq_some_iff] at q
    obtain ⟨z, q1, z2, q2, q3⟩ := q
    cases q3
    show _ + 1 = _ + 1
    rw [kwOf_len h2 _ _ _ q2]
theorem lenK {n : Nat} {es : List Keyword} {ir : EL} {σ : St} {H : Hp} {k : List V → Hp → Prop} {K : PySem.W.Frag} (hl : kwOf (cE tb n se) es = some ir) (h : tL K (evL fn ir) σ H k) : tL K (evL fn ir) σ H fun vs H1 => vs.length = (kwNames es).length ∧ k vs H1 := by
  obtain ⟨F, Z, ρ, os, ρ', g, e, c⟩ := h
  exact ⟨F, Z, ρ, os, ρ', g, e, fun vs H' F' l a b r m => ⟨by rw [← r.length]; exact kwOf_len hl _ _ _ e, c vs H' F' l a b r m⟩⟩
/-- the table's keyword rows are in order -/
def Tab.good (tb : Tab) : Bool := tb.fns.all fun p => p.2.kws.all fun k => decide k.perm.Nodup && decide (k.perm.length = p.2.ps.length)
theorem fold_ok {e : Expr} {n : Nat} {ir : E} (h : cE tb n se e = some ir) (env : Env) (x : Value) : foldedSetIterable e env x = pure x := by
  cases n with
  | zero => simp [cE] at h
  | succ n =>
    cases e
    case Set => simp [cE] at h
    all_goals rfl
theorem foldI_ok {tg e : Expr} {n : Nat} {ir : I} (h : cI tb n se tg e = some ir) (env : Env) (x : Value) : foldedSetIterable e env x = pure x := by
  cases n with
  | zero => simp [cI] at h
  | succ n =>
    cases e
    case Set => simp [cI] at h
    all_goals rfl
theorem comp_ok {n : Nat} (S : Snd tb fn n) (ok : Ok tb fn X se) {elt tg iter : Expr} {ifs : List Expr} {scope : Scope} {it : I} {g : G} {own : List (Str × Nat)} {k : T} {x : E} (h1 : cI tb n se tg iter = some it) (h2 : cG (blkSE se scope) tg = some (g, own)) (h3 : blkC se.N se.sc scope own = true)
    (h4 : (match ifs with | [] => some T.yes | [c] => cT tb n (blkSE se scope) c | _ => none) = some k) (h5 : cE tb n (blkSE se scope) elt = some x) :
    PI X tg iter (tI X.K (evI fn it)) ∧ BlkOk X.N X.env.scope scope own ∧ (∀ (s : Shared) (H : Hp) (C : Addr) (cl : List (Str × Addr)) (fp : List Addr), PG (X.blk s H scope (compEnvC scope cl C X.env) fp) tg (gG X.K g)) ∧
    (∀ (s : Shared) (H : Hp) (C : Addr) (cl : List (Str × Addr)) (fp : List Addr), PTs (X.blk s H scope (compEnvC scope cl C X.env) fp) ifs (tT X.K (evT fn k))) ∧
    (∀ (s : Shared) (H : Hp) (C : Addr) (cl : List (Str × Addr)) (fp : List Addr), PE (X.blk s H scope (compEnvC scope cl C X.env) fp) elt (tE X.K (evE fn x))) := by
  refine ⟨S.i ok h1, ?_, fun s H C cl fp => cG_ok (ok.blk s H scope C cl fp) h2, fun s H C cl fp => ?_, fun s H C cl fp => S.e (ok.blk s H scope C cl fp) h5⟩
  · rw [ok.N, ok.sc]
    exact blkOk_by h3
  · match ifs, h4 with
    | [], h4 =>
      cases h4
      refine PTs_imp pts_nil fun σ H Q h => ?_
      obtain ⟨F, Z, ρ, b, ρ', g, e, c⟩ := h
      cases e
      exact c H F .refl g
    | [c], h4 => exact pts_one (S.t (ok.blk s H scope C cl fp) h4)
    | _ :: _ :: _, h4 => cases h4

theorem snd_e {n : Nat} (hg : tb.good = true) (S : Snd tb fn n) (ok : Ok tb fn X se) {e : Expr} {ir : E} (h : cE tb (n + 1) se e = some ir) : PE X e (tE X.K (evE fn ir)) := by
  cases e
  case Constant c k pos =>
    simp only [cE] at h
    cases c <;> simp only [Option.some.injEq, reduceCtorEq] at h <;> subst h
    · exact PE_imp pe_non fun σ H Q => impCon fun _ _ => .non
    · exact PE_imp pe_bl fun σ H Q => impCon fun _ _ => .bl _
    · exact PE_imp pe_int fun σ H Q => impCon fun _ _ => .int _
    · exact PE_imp pe_str fun σ H Q => impCon fun _ _ => .str _
  case Name x pos =>
    simp only [cE] at h
    split at h
    · rename_i i e
      cases h
      exact PE_imp (ok.slot e) fun σ H Q => impVar
    · split at h
      · rename_i hgl
        simp only [Option.map_eq_some_iff] at h
        obtain ⟨i, h1, rfl⟩ := h
        obtain ⟨t, hm⟩ := ok.con _ _ h1
        obtain ⟨g1, g2, _⟩ := ok.gl hgl
        exact PE_imp (pe_glob (v := .int i) g1 hm ⟨t, rfl⟩ g2) fun σ H Q => impCon fun _ _ => .int _
      · cases h
  case BinOp a op b pos =>
    simp only [cE, Option.bind_eq_some_iff, Option.map_eq_some_iff] at h
    obtain ⟨p, h1, x, h2, y, h3, rfl⟩ := h
    exact PE_imp (pe_op (opP_ok X h1) (S.a ok h2) (S.a ok h3)) fun σ H Q => imp2
  case UnaryOp op a pos =>
    simp only [cE] at h
    cases op <;> simp only [Option.map_eq_some_iff, reduceCtorEq] at h
    · obtain ⟨x, h1, rfl⟩ := h
      -- not: below
      refine ⟨fun pins s σ H Q I q => ?_⟩
      have q' := imp1 q
      exact PyProof.Rows.UnaryOp_ (thn ((S.a ok h1).run pins s σ H _ I (tA_mono q' fun v H1 z => rV1_not z)) fun v s1 ⟨y, H1, I1, r1, q1⟩ => by
        obtain ⟨c, rfl, q1⟩ := q1
        cases r1
        exact PyProof.Rows.not_of (wpAny_truthy_bool ⟨.bl (!c), H1, I1, rfl, q1⟩))
    · obtain ⟨x, h1, rfl⟩ := h
      exact PE_imp (pe_un ok_neg (S.a ok h1)) fun σ H Q => imp1
  case BoolOp op vs pos =>
    simp only [cE] at h
    cases op
    · exact andV_ok S ok h
    · exact orV_ok S ok h
  case Compare a ops bs pos =>
    simp only [cE] at h
    split at h
    · split at h
      · cases h
      · rename_i hm
        simp only [Option.bind_eq_some_iff, Option.map_eq_some_iff] at h
        obtain ⟨p, h1, x, h2, y, h3, rfl⟩ := h
        exact PE_imp (pe_cmpR (cmpP_ok ok h1) (S.a ok h2) (S.a ok h3) (by simpa using hm)) fun σ H Q => imp2
    · split at h
      · cases h
      · rename_i hm
        simp only [Bool.or_eq_true, not_or, Bool.not_eq_true] at hm
        simp only [Option.bind_eq_some_iff, Option.map_eq_some_iff] at h
        obtain ⟨p, h1, q, h2, x, h3, y, h4, z, h5, rfl⟩ := h
        exact PE_imp (pe_chain (cmpP_ok ok h1) (cmpP_ok ok h2) (S.a ok h3) (S.a ok h4) (S.a ok h5) (nomark' _ hm.2)) fun σ H Q => impC
    · cases h
  case IfExp c a b pos =>
    simp only [cE, Option.bind_eq_some_iff, Option.map_eq_some_iff] at h
    obtain ⟨k, h1, x, h2, y, h3, rfl⟩ := h
    exact PE_imp (pe_ifExp (S.t ok h1) (S.e ok h2) (S.e ok h3)) fun σ H Q => impIte
  case Tuple es k pos =>
    simp only [cE, Option.map_eq_some_iff] at h
    obtain ⟨x, h1, rfl⟩ := h
    exact PE_imp (pe_tup (el_ok S ok h1)) fun σ H Q => impTup
  case List es pos =>
    simp only [cE, Option.map_eq_some_iff] at h
    obtain ⟨x, h1, rfl⟩ := h
    exact PE_imp (pe_lst (el_ok S ok h1)) fun σ H Q => impLst
  case Subscript a b pos =>
    simp only [cE] at h
    split at h
    · simp only [Option.bind_eq_some_iff, Option.map_eq_some_iff] at h
      obtain ⟨x, h1, l, h2, u, h3, rfl⟩ := h
      exact PE_imp (pe_slice (sl_list.or sl_tupA) (S.a ok h1) (S.o ok h2) (S.o ok h3)) fun σ H Q => impSl
    · rename_i hb
      simp only [Option.bind_eq_some_iff, Option.map_eq_some_iff] at h
      obtain ⟨x, h1, y, h2, rfl⟩ := h
      refine PE_imp (pe_ix (ok_ix (by have := units64 ok.room; omega)) (S.a ok h1) (S.a ok h2) fun o i => ?_) fun σ H Q => imp2
      cases b
      case Slice lo hi step p =>
        cases step with
        | none => exact (hb lo hi p rfl).elim
        | some z => rfl
      all_goals rfl
  case ListComp elt gs scope pos =>
    simp only [cE] at h
    split at h
    · rename_i tg iter ifs
      simp only [Option.bind_eq_some_iff] at h
      obtain ⟨it, h1, ⟨g, own⟩, h2, h⟩ := h
      split at h
      · rename_i hb
        simp only [Option.bind_eq_some_iff] at h
        obtain ⟨k, h3, x, h4, h5⟩ := h
        obtain ⟨c1, c2, c3, c4, c5⟩ := comp_ok S ok h1 h2 hb h3 h4
        have base := PE_imp (pe_lc (pos := pos) ok.calm ok.nd c1 c2 c3 c4 c5 (foldI_ok h1 _)) fun σ H Q => impComp (cG_own h2)
        unfold wrapI at h5
        split at h5
        · simp only [Option.map_eq_some_iff] at h5
          obtain ⟨i, _, rfl⟩ := h5
          exact PE_imp (pe_lock base) fun σ H Q => impLock
        · cases h5
          exact base
      · cases h
    · cases h
  case Call func args kws pos =>
    cases func
    case Name f fp =>
      simp only [cE] at h
      split at h
      · rename_i hgl
        obtain ⟨g1, g2, g3⟩ := ok.gl hgl
        split at h
        · rename_i s hs
          split at h
          · rename_i hlev
            split at h
            · split at h
              · rename_i hlen
                simp only [Bool.and_eq_true, decide_eq_true_eq] at hlen
                split at h
                · rename_i hio
                  split at h
                  · rename_i x xp rest
                    simp only [Option.bind_eq_some_iff, Option.map_eq_some_iff] at h
                    obtain ⟨i, h1, es, h2, rfl⟩ := h
                    refine call_ok ok hgl hs hlev (pa_cons (ok.slot h1) (el_ok S ok h2)) rfl (elOf_any h2) hlen.1 fun σ H Q => impCallIO hio fun os ρ ρ' q => ?_
                    rw [elOf_len h2 _ _ _ q, ← hlen.1]
                    rfl
                  · cases h
                · rename_i hio
                  simp only [Option.map_eq_some_iff] at h
                  obtain ⟨es, h2, rfl⟩ := h
                  cases args with
                  | nil => exact absurd hlen.2 (by simp)
                  | cons a r =>
                    have h2' := h2
                    simp only [elOf, Option.bind_eq_some_iff, Option.map_eq_some_iff] at h2'
                    obtain ⟨x, e1, y, e2, e3⟩ := h2'
                    refine call_ok ok hgl hs hlev (el_ok S ok h2) (star_of e1 _ _) (elOf_any e2) hlen.1 fun σ H Q => impCall (by simpa using hio) fun os ρ ρ' q => ?_
                    rw [elOf_len h2 _ _ _ q, ← hlen.1]
              · cases h
            · split at h
              · cases h
              · rename_i hio
                simp only [Option.bind_eq_some_iff, Option.map_eq_some_iff] at h
                obtain ⟨k, h1, es, h2, zs, h3, rfl⟩ := h
                have hk := List.find?_some h1
                have hm := List.mem_of_find?_eq_some h1
                simp only [Bool.and_eq_true, decide_eq_true_eq] at hk
                have hgood := hg
                unfold Tab.good at hgood
                have hgood := List.all_eq_true.mp (List.all_eq_true.mp hgood _ (PySem.mem_of_lookup hs)) _ hm
                simp only [Bool.and_eq_true, decide_eq_true_eq] at hgood
                obtain ⟨n1, n2, n3⟩ := kw_names (pos := pos) (env := X.env) h3
                refine callK_ok ok hgl hs hlev hm (el_ok S ok h2) (kw_ok S ok h3) hk.1 hk.2 ?_ (elOf_any h2) n1 n2 n3 ?_ (fun σ H k q => lenL h2 q) (fun σ H k q => lenK h3 q) (fun σ H Q => impCallK (by simpa using hio) hgood.1 hgood.2)
                · cases args with
                  | nil => exact .inl rfl
                  | cons a r =>
                    have h2' := h2
                    simp only [elOf, Option.bind_eq_some_iff, Option.map_eq_some_iff] at h2'
                    obtain ⟨x, e1, y, e2, e3⟩ := h2'
                    exact .inr ⟨a, r, rfl, star_of e1 _ _⟩
                · rintro rfl σ H k q
                  simp only [elOf, Option.some.injEq] at h2
                  subst h2
                  exact impLnil q
          · cases h
        · split at h
          · split at h
            · simp only [Option.bind_eq_some_iff, Option.map_eq_some_iff] at h
              obtain ⟨p, h1, x, h2, rfl⟩ := h
              obtain ⟨m1, hb⟩ := b1_ok ok h1
              rcases hb with ⟨id, hb, hc⟩ | ⟨id, hb, hc⟩
              · refine PE_imp (pe_callB hc g1 (ok.bi _ m1) hb (pa_cons (S.a ok h2) pa_nil (starA_of h2 _ _)) g3 g2 (starA_of h2 _ _) rfl) fun σ H Q q => ?_
                exact tA_mono (imp1 q) fun v H1 z => ⟨v, rfl, z⟩
              · refine PE_imp (pe_callTy hc g1 (ok.bi _ m1) hb (pa_cons (S.a ok h2) pa_nil (starA_of h2 _ _)) g3 g2 (starA_of h2 _ _) rfl) fun σ H Q q => ?_
                exact tA_mono (imp1 q) fun v H1 z => ⟨v, rfl, z⟩
            · split at h
              · rename_i hf
                subst hf
                split at h
                · split at h
                  · rename_i ht
                    simp only [Option.bind_eq_some_iff, Option.map_eq_some_iff] at h
                    obtain ⟨p, h1, x, h2, rfl⟩ := h
                    exact isSub_ok ok S hgl ht h1 h2
                  · cases h
                · split at h
                  · rename_i ht
                    simp only [Bool.and_eq_true, decide_eq_true_eq] at ht
                    obtain ⟨⟨⟨t1, t2⟩, t3⟩, t4⟩ := ht
                    subst t3
                    subst t4
                    simp only [Option.map_eq_some_iff] at h
                    obtain ⟨x, h2, rfl⟩ := h
                    exact isSeqE_ok ok S hgl t1 t2 h2
                  · cases h
                · cases h
              · split at h
                · rename_i hf
                  simp only [Bool.and_eq_true, decide_eq_true_eq] at hf
                  obtain ⟨rfl, hgc⟩ := hf
                  simp only [Option.bind_eq_some_iff, Option.map_eq_some_iff] at h
                  obtain ⟨x, h1, y, h2, rfl⟩ := h
                  refine PE_imp (pe_callBfun ok_gcd g1 (ok.gcd hgc) (pa_cons (S.a ok h1) (pa_cons (S.a ok h2) pa_nil (starA_of h2 _ _)) (starA_of h1 _ _)) g2 (starA_of h1 _ _) (by rw [starA_of h2]; rfl)) fun σ H Q q => ?_
                  exact tA_mono (imp2 q) fun v H1 z => tA_mono z fun w H2 z => ⟨v, w, rfl, z⟩
                · simp only [Option.bind_eq_some_iff, Option.map_eq_some_iff] at h
                  obtain ⟨p, h0, x, h1, y, h2, rfl⟩ := h
                  obtain ⟨m1, id, hb, hc⟩ := b2_ok ok h0
                  refine PE_imp (pe_callB hc g1 (ok.bi _ m1) hb (pa_cons (S.a ok h1) (pa_cons (S.a ok h2) pa_nil (starA_of h2 _ _)) (starA_of h1 _ _)) g3 g2 (starA_of h1 _ _) (by rw [starA_of h2]; rfl)) fun σ H Q q => ?_
                  exact tA_mono (imp2 q) fun v H1 z => tA_mono z fun w H2 z => ⟨v, w, rfl, z⟩
            · cases h
          · cases h
      · cases h
    case Attribute o m ap =>
      cases o
      case Name x xp =>
        cases kws with
        | cons k r => simp [cE] at h
        | nil =>
          simp only [cE] at h
          split at h
          · rename_i hl
            simp only [Option.bind_eq_some_iff] at h
            obtain ⟨i, h1, h⟩ := h
            have hv : PE X (.Name x xp) (tVar i) := ok.slot h1
            split at h
            · rename_i hm; subst hm
              split at h
              · simp only [Option.bind_eq_some_iff, Option.map_eq_some_iff] at h
                obtain ⟨y, h2, z, h3, rfl⟩ := h
                refine PE_imp (pe_dget2 (by have := units64 ok.room; omega) hv (S.e ok h2) (S.e ok h3) ⟨rfl, by rw [star_of h2, star_of h3]; rfl, hl, by rw [star_of h2, star_of h3]; rfl⟩) fun σ H Q => impDget
              · cases h
            · split at h
              · rename_i hm; subst hm
                split at h
                · simp only [Option.map_eq_some_iff] at h
                  obtain ⟨y, h2, rfl⟩ := h
                  exact PE_imp (pe_bm PySem.F.plainAttrs_list PySem.F.slot_list_index PySem.F.type_list_index (mt_indexD (guards_units' ok.room)) hv (pa_cons (S.e ok h2) pa_nil (star_of h2 _ _)) rfl (by rw [star_of h2]; rfl) hl (star_of h2 _ _) rfl) fun σ H Q => impIndex
                · cases h
              · cases h
          · cases h
      all_goals simp [cE] at h
    all_goals simp [cE] at h
  case Dict ks vs pos =>
    cases ks with
    | nil =>
      cases vs with
      | nil =>
        simp only [cE, Option.some.injEq] at h
        subst h
        exact PE_imp pe_dnewK fun σ H Q => impDnew
      | cons _ _ => simp [cE] at h
    | cons _ _ => simp [cE] at h
  all_goals simp [cE] at h
theorem snd_a {n : Nat} (S : Snd tb fn n) (ok : Ok tb fn X se) {e : Expr} {ir : A} (h : cA tb (n + 1) se e = some ir) : PE X e (tA X.K fn ir) := by
  have go : ∀ {e : Expr} {ir : A}, (cE tb n se e).map A.ex = some ir → PE X e (tA X.K fn ir) := fun {e ir} h => by
    simp only [Option.map_eq_some_iff] at h
    obtain ⟨x, h1, rfl⟩ := h
    exact S.e ok h1
  cases e
  case Name x pos =>
    simp only [cA] at h
    split at h
    · rename_i i e
      cases h
      exact ok.slot e
    · exact go h
  all_goals exact go h
theorem snd_o {n : Nat} (S : Snd tb fn n) (ok : Ok tb fn X se) {e : Option Expr} {ir : OE} (h : cOE tb (n + 1) se e = some ir) : PO X e (tOE X.K (evOE fn ir)) := by
  cases e with
  | none =>
    simp only [cOE, Option.some.injEq] at h
    subst h
    exact PO_imp po_none fun σ H Q => impOEno
  | some e =>
    simp only [cOE, Option.map_eq_some_iff] at h
    obtain ⟨x, h1, rfl⟩ := h
    exact PO_imp (po_some (S.e ok h1)) fun σ H Q => impOEyes
theorem snd_t {n : Nat} (S : Snd tb fn n) (ok : Ok tb fn X se) {e : Expr} {ir : T} (h : cT tb (n + 1) se e = some ir) : PT X e (tT X.K (evT fn ir)) := by
  cases e
  case UnaryOp op a pos =>
    cases op <;> simp only [cT, Option.map_eq_some_iff, reduceCtorEq] at h
    obtain ⟨x, h1, rfl⟩ := h
    exact PT_imp (pt_not (S.t ok h1)) fun σ H Q => impNot
  case BoolOp op vs pos =>
    simp only [cT] at h
    cases op
    · exact (andT_ok S ok h).pt
    · exact (orT_ok S ok h).pt
  case Compare a ops bs pos =>
    simp only [cT] at h
    split at h
    · split at h
      · cases h
      · rename_i hm
        simp only [Option.bind_eq_some_iff, Option.map_eq_some_iff] at h
        obtain ⟨p, h1, x, h2, y, h3, rfl⟩ := h
        exact PT_imp (pt_cmpR (cmpP_ok ok h1) (S.a ok h2) (S.a ok h3) (by simpa using hm)) fun σ H Q => impT2
    · split at h
      · cases h
      · rename_i hm
        simp only [Bool.or_eq_true, not_or, Bool.not_eq_true] at hm
        simp only [Option.bind_eq_some_iff, Option.map_eq_some_iff] at h
        obtain ⟨p, h1, q, h2, x, h3, y, h4, z, h5, rfl⟩ := h
        exact PT_imp (pt_chain (cmpP_ok ok h1) (cmpP_ok ok h2) (S.a ok h3) (S.a ok h4) (S.a ok h5) (nomark' _ hm.2)) fun σ H Q => impTC
    · cases h
  case Name x pos =>
    simp only [cT, Option.map_eq_some_iff] at h
    obtain ⟨x, h1, rfl⟩ := h
    exact PT_imp (pt_truth (S.a ok h1) fun _ => rfl) fun σ H Q => impTV
  case Call f args kws pos =>
    simp only [cT, Option.map_eq_some_iff] at h
    obtain ⟨x, h1, rfl⟩ := h
    exact PT_imp (pt_truth (S.a ok h1) fun _ => rfl) fun σ H Q => impTV
  case Subscript a b pos =>
    simp only [cT, Option.map_eq_some_iff] at h
    obtain ⟨x, h1, rfl⟩ := h
    exact PT_imp (pt_truth (S.a ok h1) fun _ => rfl) fun σ H Q => impTV
  all_goals simp [cT] at h
theorem snd_i {n : Nat} (S : Snd tb fn n) (ok : Ok tb fn X se) {tg e : Expr} {ir : I} (h : cI tb (n + 1) se tg e = some ir) : PI X tg e (tI X.K (evI fn ir)) := by
  have go : ∀ {e : Expr} {ir : I}, (cE tb n se e).map I.seq = some ir → PI X tg e (tI X.K (evI fn ir)) := fun {e ir} h => by
    simp only [Option.map_eq_some_iff] at h
    obtain ⟨x, h1, rfl⟩ := h
    exact PI_imp (PI_or (pi_list (S.e ok h1)) (pi_tup (S.e ok h1))) fun σ H R => impSeq
  unfold cI at h
  split at h
  · split at h
    · rename_i hf
      simp only [Bool.and_eq_true, decide_eq_true_eq] at hf
      obtain ⟨rfl, hgl⟩ := hf
      simp only [Option.map_eq_some_iff] at h
      obtain ⟨x, h1, rfl⟩ := h
      exact PI_imp (pi_range1 (ok.gl hgl).1 (ok.bi _ (by decide)) (pa_cons (S.e ok h1) pa_nil (star_of h1 _ _)) (star_of h1 _ _)) fun σ H R => impRange1
    · split at h
      · rename_i hf
        simp only [Bool.and_eq_true, decide_eq_true_eq] at hf
        obtain ⟨⟨rfl, hgl⟩, ht⟩ := hf
        simp only [Option.map_eq_some_iff] at h
        obtain ⟨x, h1, rfl⟩ := h
        cases tg <;> simp only [isTupE, Bool.false_eq_true] at ht
        exact PI_imp (pi_enum (ok.gl hgl).1 (ok.bi _ (by decide)) (pa_cons (S.e ok h1) pa_nil (star_of h1 _ _)) (star_of h1 _ _)) fun σ H R => impEnum
      · exact go h
  · split at h
    · rename_i hf
      simp only [Bool.and_eq_true, decide_eq_true_eq] at hf
      obtain ⟨rfl, hgl⟩ := hf
      simp only [Option.bind_eq_some_iff, Option.map_eq_some_iff] at h
      obtain ⟨x, h1, y, h2, rfl⟩ := h
      exact PI_imp (pi_range2 (ok.gl hgl).1 (ok.bi _ (by decide)) (pa_cons (S.e ok h1) (pa_cons (S.e ok h2) pa_nil (star_of h2 _ _)) (star_of h1 _ _)) (by rw [star_of h1, star_of h2]; rfl) (by rw [star_of h2]; rfl)) fun σ H R => impRange2
    · split at h
      · rename_i hf
        simp only [Bool.and_eq_true, decide_eq_true_eq] at hf
        obtain ⟨⟨rfl, hgl⟩, ht⟩ := hf
        simp only [Option.bind_eq_some_iff, Option.map_eq_some_iff] at h
        obtain ⟨x, h1, y, h2, rfl⟩ := h
        cases tg <;> simp only [isTupE, Bool.false_eq_true] at ht
        exact PI_imp (pi_zipA (ok.gl hgl).1 (ok.bi _ (by decide)) (pa_cons (S.e ok h1) (pa_cons (S.e ok h2) pa_nil (star_of h2 _ _)) (star_of h1 _ _)) (by rw [star_of h1]) (by rw [star_of h2]; rfl)) fun σ H R => impZip
      · exact go h
  · cases h
  · split at h
    · rename_i hf
      simp only [Bool.and_eq_true, decide_eq_true_eq] at hf
      obtain ⟨⟨rfl, hl⟩, ht⟩ := hf
      simp only [Option.map_eq_some_iff] at h
      obtain ⟨i, h1, rfl⟩ := h
      cases tg <;> simp only [isTupE, Bool.false_eq_true] at ht
      exact PI_imp (pi_items (ok.slot h1) rfl hl) fun σ H R => impItems
    · cases h
  · exact go h
theorem snd (hg : tb.good = true) : ∀ n, Snd tb fn n
  | 0 => ⟨fun ok e ir h => by simp [cE] at h, fun ok e ir h => by simp [cA] at h, fun ok e ir h => by simp [cOE] at h, fun ok e ir h => by simp [cT] at h, fun ok tg e ir h => by simp [cI] at h⟩
  | n + 1 => ⟨fun ok _ _ h => snd_e hg (snd hg n) ok h, fun ok _ _ h => snd_a (snd hg n) ok h, fun ok _ _ h => snd_o (snd hg n) ok h, fun ok _ _ h => snd_t (snd hg n) ok h, fun ok _ _ _ h => snd_i (snd hg n) ok h⟩
end
end Vx

/-! Vx, part H: statements are right. -/
namespace Vx
open PySem L2 RZ

section
variable {K : PySem.W.Frag} {fn : Fn} {io : Bool} {F F' F1 F2 Z Z' Z1 Z2 : AS} {H H' H1 H2 : Hp} {ρ ρ1 ρ2 : Ev} {σ σ1 : St} {o u : O} {Q : VK} {D : Ends}
/-- what an end asks -/
def EndK (K : PySem.W.Frag) (io : Bool) (F Z : AS) (H : Hp) (σ : St) (D : Ends) : Out → Prop
  | .nx ρ => ∀ σ' H' F', Ext F F' Z H H' → Good K F' Z H' ρ σ' → (io = true → σ'[0]? = σ[0]?) → D.nx σ' H'
  | .bk ρ => ∀ σ' H' F', Ext F F' Z H H' → Good K F' Z H' ρ σ' → (io = true → σ'[0]? = σ[0]?) → D.bk σ' H'
  | .ct ρ => ∀ σ' H' F', Ext F F' Z H H' → Good K F' Z H' ρ σ' → (io = true → σ'[0]? = σ[0]?) → D.ct σ' H'
  | .rt o ρ => ∀ v σ' H' F' l, Ext F F' Z H H' → Good K F' (Zp Z l) H' ρ σ' → (io = true → σ'[0]? = σ[0]?) → RepO K F' H' o v l → (∀ a ∈ l, ¬ Z a) → D.rt v H'
def tS (K : PySem.W.Frag) (io : Bool) (ev : Ev → Option Out) : TS := fun D σ H => ∃ F Z ρ out, Good K F Z H ρ σ ∧ ev ρ = some out ∧ EndK K io F Z H σ D out
theorem EndK.shift {out : Out} (k : EndK K io F Z H σ D out) (e : Ext F F1 Z H H1) (h0 : io = true → σ1[0]? = σ[0]?) : EndK K io F1 Z H1 σ1 D out := by
  cases out with
  | nx ρ => exact fun σ' H' F' e' g h => k σ' H' F' (e.trans e') g fun q => (h q).trans (h0 q)
  | bk ρ => exact fun σ' H' F' e' g h => k σ' H' F' (e.trans e') g fun q => (h q).trans (h0 q)
  | ct ρ => exact fun σ' H' F' e' g h => k σ' H' F' (e.trans e') g fun q => (h q).trans (h0 q)
  | rt o ρ => exact fun v σ' H' F' l e' g h => k v σ' H' F' l (e.trans e') g fun q => (h q).trans (h0 q)
theorem free_ne {i : Nat} {σ : St} {x : Option V} (h : free io i = true) (q : io = true) : (σ.set i x)[0]? = σ[0]? := by
  subst q
  simp only [free, Bool.not_true, Bool.false_or, bne_iff_ne, ne_eq] at h
  exact List.getElem?_set_ne h
theorem sPass (h : tS K io (evS fn io .pass) D σ H) : tNext D σ H := by
  obtain ⟨F, Z, ρ, out, g, e, k⟩ := h
  cases e
  exact k σ H F .refl g fun _ => rfl
theorem sBrk (h : tS K io (evS fn io .brk) D σ H) : tBreak D σ H := by
  obtain ⟨F, Z, ρ, out, g, e, k⟩ := h
  cases e
  exact k σ H F .refl g fun _ => rfl
theorem sCont (h : tS K io (evS fn io .cont) D σ H) : tCont D σ H := by
  obtain ⟨F, Z, ρ, out, g, e, k⟩ := h
  cases e
  exact k σ H F .refl g fun _ => rfl
theorem sNever (h : tS K io (evS fn io .never) D σ H) : False := by
  obtain ⟨F, Z, ρ, out, g, e, k⟩ := h
  cases e
theorem sNil (h : tS K io (evSs fn io .nil) D σ H) : tNext D σ H := by
  obtain ⟨F, Z, ρ, out, g, e, k⟩ := h
  cases e
  exact k σ H F .refl g fun _ => rfl
theorem sCons {s : S} {r : SL} (h : tS K io (evSs fn io (.cons s r)) D σ H) : tSeq (tS K io (evS fn io s)) (tS K io (evSs fn io r)) D σ H := by
  obtain ⟨F, Z, ρ, out, g, e, k⟩ := h
  simp only [evSs, Option.bind_eq_some_iff] at e
  obtain ⟨o, e1, e2⟩ := e
  refine ⟨F, Z, ρ, o, g, e1, ?_⟩
  cases o with
  | nx ρ1 => exact fun σ' H' F' x g' h0 => ⟨F', Z, ρ1, out, g', e2, k.shift x h0⟩
  | bk ρ1 => cases e2; exact k
  | ct ρ1 => cases e2; exact k
  | rt o ρ1 => cases e2; exact k
theorem sExpr {e : E} (h : tS K io (evS fn io (.expr e)) D σ H) : tDrop (tE K (evE fn e)) D σ H := by
  obtain ⟨F, Z, ρ, out, g, q, k⟩ := h
  simp only [evS, Option.map_eq_some_iff] at q
  obtain ⟨⟨o, ρ1⟩, e1, e2⟩ := q
  subst e2
  exact ⟨F, Z, ρ, o, ρ1, g, e1, fun v H' F' l x g' r n => k σ H' F' x (g'.less fun _ h => .inl h) fun _ => rfl⟩
theorem sRet {e : E} (h : tS K io (evS fn io (.ret e)) D σ H) : tRet (tE K (evE fn e)) D σ H := by
  obtain ⟨F, Z, ρ, out, g, q, k⟩ := h
  simp only [evS, Option.map_eq_some_iff] at q
  obtain ⟨⟨o, ρ1⟩, e1, e2⟩ := q
  subst e2
  exact ⟨F, Z, ρ, o, ρ1, g, e1, fun v H' F' l x g' r n => k v σ H' F' l x g' (fun _ => rfl) r n⟩
theorem sAsg {i : Nat} {e : E} (h : tS K io (evS fn io (.asg i e)) D σ H) : tAsg (tE K (evE fn e)) (gName i) D σ H := by
  obtain ⟨F, Z, ρ, out, g, q, k⟩ := h
  simp only [evS] at q
  split at q
  · rename_i hf
    simp only [Option.map_eq_some_iff] at q
    obtain ⟨⟨o, ρ1⟩, e1, e2⟩ := q
    subst e2
    exact ⟨F, Z, ρ, o, ρ1, g, e1, fun v H' F' l x g' r n => k _ H' F' x (g'.put r n i) fun q => free_ne hf q⟩
  · cases q
theorem sIte {c : T} {a b : SL} (h : tS K io (evS fn io (.ite c a b)) D σ H) : tIfS (tT K (evT fn c)) (tS K io (evSs fn io a)) (tS K io (evSs fn io b)) D σ H := by
  obtain ⟨F, Z, ρ, out, g, q, k⟩ := h
  simp only [evS, Option.bind_eq_some_iff] at q
  obtain ⟨⟨c', ρ1⟩, e1, e2⟩ := q
  refine ⟨F, Z, ρ, c', ρ1, g, e1, fun H' F' x g' => ?_⟩
  cases c' with
  | true => exact ⟨F', Z, ρ1, out, g', e2, k.shift x fun _ => rfl⟩
  | false => exact ⟨F', Z, ρ1, out, g', e2, k.shift x fun _ => rfl⟩
theorem Zp_l {l m : List Addr} {Z : AS} : ∀ a, Zp Z l a → Zp (Zp Z l) m a := fun _ h => .inl h
theorem sPar {i j : Nat} {a b : E} (h : tS K io (evS fn io (.par i j a b)) D σ H) : tPar i j (tL K (evL fn (.cons a (.cons b .nil)))) D σ H := by
  obtain ⟨F, Z, ρ, out, g, q, k⟩ := h
  simp only [evS] at q
  split at q
  · rename_i hf
    simp only [Bool.and_eq_true] at hf
    simp only [Option.bind_eq_some_iff, Option.map_eq_some_iff] at q
    obtain ⟨⟨o, ρ1⟩, e1, ⟨u, ρ2⟩, e2, e3⟩ := q
    subst e3
    refine ⟨F, Z, ρ, [o, u], ρ2, g, by simp only [evL, e1, e2, Option.bind_some, Option.map_some], fun vs H' F' l x g' r n => ?_⟩
    cases r with
    | cons r1 r =>
      rename_i v vs l1 m d1
      cases r with
      | cons r2 r =>
        cases r
        rename_i w l2 d2
        rw [List.append_nil] at *
        refine ⟨v, w, rfl, ?_⟩
        have n1 : ∀ a ∈ l1, ¬ Zp Z l2 a := fun a h z => z.elim (n a (List.mem_append_left _ h)) (d1 a h)
        have gg : Good K F' (Zp (Zp Z l2) l1) H' ρ2 σ := g'.less fun a z => z.elim (fun z => z.elim (fun z => .inl z) fun z => .inr (List.mem_append_right _ z)) fun z => .inr (List.mem_append_left _ z)
        have g1 := gg.put r1 n1 i
        have g2 := g1.put r2 (fun a h => n a (List.mem_append_right _ h)) j
        exact k _ H' F' x g2 fun q => (free_ne hf.2 q).trans (free_ne hf.1 q)
  · cases q
theorem sPar3 {i j l : Nat} {a b c : E} (h : tS K io (evS fn io (.par3 i j l a b c)) D σ H) : tPar3 i j l (tL K (evL fn (.cons a (.cons b (.cons c .nil))))) D σ H := by
  obtain ⟨F, Z, ρ, out, g, q, k⟩ := h
  simp only [evS] at q
  split at q
  · rename_i hf
    simp only [Bool.and_eq_true] at hf
    simp only [Option.bind_eq_some_iff, Option.map_eq_some_iff] at q
    obtain ⟨⟨o, ρ1⟩, e1, ⟨u, ρ2⟩, e2, ⟨w, ρ3⟩, e3, e4⟩ := q
    subst e4
    refine ⟨F, Z, ρ, [o, u, w], ρ3, g, by simp only [evL, e1, e2, e3, Option.bind_some, Option.map_some], fun vs H' F' l x g' r n => ?_⟩
    cases r with
    | cons r1 r =>
      rename_i v1 vs l1 m d1
      cases r with
      | cons r2 r =>
        rename_i v2 vs l2 m2 d2
        cases r with
        | cons r3 r =>
          cases r
          rename_i v3 l3 d3
          rw [List.append_nil] at *
          refine ⟨v1, v2, v3, rfl, ?_⟩
          have n3 : ∀ a ∈ l3, ¬ Z a := fun a h => n a (List.mem_append_right _ (List.mem_append_right _ h))
          have n2 : ∀ a ∈ l2, ¬ Zp Z l3 a := fun a h z => z.elim (n a (List.mem_append_right _ (List.mem_append_left _ h))) (d2 a h)
          have n1 : ∀ a ∈ l1, ¬ Zp (Zp Z l3) l2 a := fun a h z => by
            rcases z with (z | z) | z
            · exact n a (List.mem_append_left _ h) z
            · exact d1 a h (List.mem_append_right _ z)
            · exact d1 a h (List.mem_append_left _ z)
          have gg : Good K F' (Zp (Zp (Zp Z l3) l2) l1) H' ρ3 σ := g'.less fun a z => by
            rcases z with ((z | z) | z) | z
            · exact .inl z
            · exact .inr (List.mem_append_right _ (List.mem_append_right _ z))
            · exact .inr (List.mem_append_right _ (List.mem_append_left _ z))
            · exact .inr (List.mem_append_left _ z)
          have g1 := gg.put r1 n1 i
          have g2 := g1.put r2 n2 j
          have g3 := g2.put r3 n3 l
          exact k _ H' F' x g3 fun q => ((free_ne hf.2 q).trans (free_ne hf.1.2 q)).trans (free_ne hf.1.1 q)
  · cases q
/-- a list that a slot holds alone is written -/
theorem Good.write {i : Nat} {ds ds' : List PyData} (g : Good K F Z H ρ σ) (e : ρ[i]? = some (some (.lst ds))) : ∃ p vs, σ[i]? = some (some (.ref p)) ∧ H p = some (.lst vs) ∧ RepL K F H ds vs ∧
    ∀ vs', RepL K F H ds' vs' → Ext F F Z H (upd H p (.lst vs')) ∧ Good K F Z (upd H p (.lst vs')) (ρ.set i (some (.lst ds'))) σ := by
  obtain ⟨v, l, k1, r, n, g1⟩ := g.take e
  cases r with
  | lst h rl =>
    rename_i p vs
    refine ⟨p, vs, k1, h, rl, fun vs' r' => ?_⟩
    have np : ∀ a, F a → a ≠ p := fun a f q => by
      obtain ⟨fp, g1⟩ := g1
      exact g1.zf a f (.inr (by simp [q]))
    have x : Ext F F Z H (upd H p (.lst vs')) := mutExt np (n p (by simp))
    refine ⟨x, ?_⟩
    have g2 := g1.mut (p := p) (ob := .lst vs') (.inr (by simp))
    have g3 := g2.put (i := i) (o := .lst ds') (v := .ref p) (l := [p]) (.lst upd_same (r'.ext x)) n
    rw [List.set_set, set_self k1] at g3
    exact g3
theorem Good.writeD {i : Nat} {ds : List (Key × PyData)} (g : Good K F Z H ρ σ) (e : ρ[i]? = some (some (.dct ds))) : ∃ p u, σ[i]? = some (some (.ref p)) ∧ H p = some (.dK u) ∧ RepD K F H ds u ∧
    ∀ (ds' : List (Key × PyData)) (u' : List (Key × V)), RepD K F H ds' u' → Ext F F Z H (upd H p (.dK u')) ∧ Good K F Z (upd H p (.dK u')) (ρ.set i (some (.dct ds'))) σ := by
  obtain ⟨v, l, k1, r, n, g1⟩ := g.take e
  cases r with
  | dct h rl =>
    rename_i p u
    refine ⟨p, u, k1, h, rl, fun ds' u' r' => ?_⟩
    have np : ∀ a, F a → a ≠ p := fun a f q => by
      obtain ⟨fp, g1⟩ := g1
      exact g1.zf a f (.inr (by simp [q]))
    have x : Ext F F Z H (upd H p (.dK u')) := mutExt np (n p (by simp))
    refine ⟨x, ?_⟩
    have g2 := g1.mut (p := p) (ob := .dK u') (.inr (by simp))
    have g3 := g2.put (i := i) (o := .dct ds') (v := .ref p) (l := [p]) (.dct upd_same (r'.ext x)) n
    rw [List.set_set, set_self k1] at g3
    exact g3
abbrev rSetB : V → V → V → Hp → (Hp → Prop) → Prop := fun o i v H Q => rSetL o i v H Q ∨ ∃ a H', o = V.ref a ∧ DPut H a i v H' ∧ Q H'
theorem set_both {X : Cx} (hu : X.A.units + 1 < cLine) : PSet X rSetB := by
  intro pins s σ H o i v ov iv u Q I ro ri rv h
  rcases h with h | ⟨a, H', rfl, dp, q⟩
  · exact set_list pins s σ H o i v ov iv u Q I ro ri rv h
  · obtain rfl : ov = Value.ref a := ro
    exact d_setItem hu I dp ri rv fun s' I' => ⟨H', I', q⟩
theorem isLst_ok {x : Option O} (h : isLst x = true) : ∃ ds, x = some (.lst ds) := by
  match x, h with
  | some (.lst ds), _ => exact ⟨ds, rfl⟩
theorem sAppend {i : Nat} {e : E} (h : tS K io (evS fn io (.append i e)) D σ H) : tDrop (tBM K "list" rAppend (tVar i) (tCons (tE K (evE fn e)) tNil)) D σ H := by
  obtain ⟨F, Z, ρ, out, g, q, k⟩ := h
  simp only [evS] at q
  split at q
  · rename_i hl
    obtain ⟨ds0, e0⟩ := isLst_ok hl
    simp only [Option.bind_eq_some_iff] at q
    obtain ⟨⟨o, ρ1⟩, e1, d, e2, x, e3, e4⟩ := q
    obtain ⟨v0, l0, k0, r0⟩ := g.get (join_some e0)
    refine ⟨v0, k0, ?_, F, Z, ρ, o, ρ1, g, e1, fun v H' F' l x g' r n => ?_⟩
    · cases r0 with
      | lst h _ => exact .inl ⟨rfl, _, .inl (.inl h)⟩
    · split at e4
      · split at e4
        · rename_i hz
          cases e4
          obtain ⟨x2, g2⟩ := g'.share n
          have rd := r.shared e2 x2 fun a h => .inr h
          obtain ⟨p, vs, k1, hp, rl, fin⟩ := g2.write (join_some e3)
          rw [k0] at k1
          cases k1
          obtain ⟨x3, g3⟩ := fin _ (rl.append (.cons rd .nil))
          exact ⟨p, vs, v, rfl, rfl, hp, by rw [← rl.length]; exact of_decide_eq_true hz, k σ _ _ ((x.trans x2).trans x3) g3 fun _ => rfl⟩
        · cases e4
      · cases e4
  · cases q
theorem sExtend {i : Nat} {e : E} (h : tS K io (evS fn io (.extend i e)) D σ H) : tDrop (tBM K "list" rExtend (tVar i) (tCons (tE K (evE fn e)) tNil)) D σ H := by
  obtain ⟨F, Z, ρ, out, g, q, k⟩ := h
  simp only [evS] at q
  split at q
  · rename_i hl
    obtain ⟨ds0, e0⟩ := isLst_ok hl
    simp only [Option.bind_eq_some_iff] at q
    obtain ⟨⟨o, ρ1⟩, e1, zs, e2, x, e3, e4⟩ := q
    obtain ⟨v0, l0, k0, r0⟩ := g.get (join_some e0)
    refine ⟨v0, k0, ?_, F, Z, ρ, o, ρ1, g, e1, fun v H' F' l x g' r n => ?_⟩
    · cases r0 with
      | lst h _ => exact .inl ⟨rfl, _, .inl (.inl h)⟩
    · split at e4
      · split at e4
        · rename_i hz
          cases e4
          obtain ⟨b, ws, rfl, hb, rz⟩ := r.asL e2
          have g2 := g'.less (Z' := Z) fun _ h => .inl h
          obtain ⟨p, vs, k1, hp, rl, fin⟩ := g2.write (join_some e3)
          rw [k0] at k1
          cases k1
          obtain ⟨x3, g3⟩ := fin _ (rl.append rz)
          exact ⟨p, b, vs, ws, rfl, rfl, hp, hb, by rw [← rl.length, ← rz.length]; exact of_decide_eq_true hz, k σ _ _ (x.trans x3) g3 fun _ => rfl⟩
        · cases e4
      · cases e4
  · cases q
abbrev rIns : V → List V → Hp → VK → Prop := fun x vs H Q => ∃ (l : Addr) (xs : List V) (i : Int) (y : V), x = .ref l ∧ vs = [.int i, y] ∧ H l = some (.lst xs) ∧ xs.length < sizeLine ∧ 0 ≤ i ∧ i < 2 ^ 63 ∧
    Q .non (upd H l (.lst (xs.take i.toNat ++ [y] ++ xs.drop i.toNat)))
theorem sInsert {i : Nat} {kx e : E} (h : tS K io (evS fn io (.insert i kx e)) D σ H) : tDrop (tBM K "list" rIns (tVar i) (tCons (tE K (evE fn kx)) (tCons (tE K (evE fn e)) tNil))) D σ H := by
  obtain ⟨F, Z, ρ, out, g, q, k⟩ := h
  simp only [evS] at q
  split at q
  · rename_i hl
    obtain ⟨ds0, e0⟩ := isLst_ok hl
    simp only [Option.bind_eq_some_iff] at q
    obtain ⟨⟨ki, ρ0⟩, e00, ⟨o, ρ1⟩, e1, d, e2, x, e3, e4⟩ := q
    obtain ⟨v0, l0, k0, r0⟩ := g.get (join_some e0)
    refine ⟨v0, k0, ?_, F, Z, ρ, ki, ρ0, g, e00, fun v0' H0 F0 l0 x0 g0 r0' n0 => ?_⟩
    · cases r0 with
      | lst h _ => exact .inl ⟨rfl, _, .inl (.inl h)⟩
    · simp only at e4
      split at e4
      · obtain ⟨rfl, rfl⟩ := r0'.int_
        rw [Zp_nil] at g0
        split at e4
        · rename_i hz
          cases e4
          simp only [Bool.and_eq_true, decide_eq_true_eq] at hz
          refine ⟨F0, Z, _, _, _, g0, e1, fun v H' F' l x g' r n => ?_⟩
          obtain ⟨x2, g2⟩ := g'.share n
          have rd := r.shared e2 x2 fun a h => .inr h
          obtain ⟨p, vs, k1, hp, rl, fin⟩ := g2.write (join_some e3)
          rw [k0] at k1
          cases k1
          obtain ⟨x3, g3⟩ := fin _ (((rl.take _).append (.cons rd .nil)).append (rl.drop _))
          exact ⟨p, vs, _, v, rfl, rfl, hp, by rw [← rl.length]; exact hz.1.1, hz.1.2, hz.2, k σ _ _ (((x0.trans x).trans x2).trans x3) g3 fun _ => rfl⟩
        · cases e4
      · cases e4
  · cases q
theorem sPop {i : Nat} (h : tS K io (evS fn io (.pop i)) D σ H) : tDrop (tBM0 K "list" rPop (tVar i)) D σ H := by
  obtain ⟨F, Z, ρ, out, g, q, k⟩ := h
  simp only [evS, Option.bind_eq_some_iff] at q
  obtain ⟨x, e0, q⟩ := q
  split at q
  · split at q
    · cases q
    · rename_i ds hd
      cases q
      obtain ⟨p, vs, k1, hp, rl, fin⟩ := g.write (join_some e0)
      have hn : ds ≠ [] := by simpa using hd
      have hv : vs ≠ [] := fun e => hn (by
        have := rl.length
        rw [e] at this
        exact List.length_eq_zero_iff.mp this)
      have rd : RepL K F H ds.dropLast vs.dropLast := by
        rw [List.dropLast_eq_take, List.dropLast_eq_take, rl.length]
        exact rl.take _
      obtain ⟨x3, g3⟩ := fin _ rd
      refine ⟨_, k1, .inl ⟨rfl, _, .inl (.inl hp)⟩, p, vs, vs[vs.length - 1]'(by have := List.length_pos_iff.mpr hv; omega), rfl, rfl, hp, by rw [List.getElem?_eq_getElem], ?_⟩
      exact k σ _ _ x3 g3 fun _ => rfl
  · cases q
/-! ### targets -/
def tTg (K : PySem.W.Frag) (io : Bool) (fn : Fn) (t : Tg) : TG := fun v σ H Q => ∃ F Z ρ d ρ', Good K F Z H ρ σ ∧ Rep K F H d v ∧ evTg fn io t d ρ = some ρ' ∧
  ∀ σ' H' F', Ext F F' Z H H' → Good K F' Z H' ρ' σ' → (io = true → σ'[0]? = σ[0]?) → Q σ' H'
def tTgs (K : PySem.W.Frag) (io : Bool) (fn : Fn) (t : TgL) : TGs := fun vs σ H Q => ∃ F Z ρ ds ρ', Good K F Z H ρ σ ∧ RepL K F H ds vs ∧ evTgs fn io t ds ρ = some ρ' ∧
  ∀ σ' H' F', Ext F F' Z H H' → Good K F' Z H' ρ' σ' → (io = true → σ'[0]? = σ[0]?) → Q σ' H'
theorem gNm {i : Nat} {v : V} {k : St → Hp → Prop} (h : tTg K io fn (.nm i) v σ H k) : gName i v σ H k := by
  obtain ⟨F, Z, ρ, d, ρ', g, r, e, c⟩ := h
  simp only [evTg] at e
  split at e
  · rename_i hf
    cases e
    exact c _ H F .refl (g.nil.put (.sh r) (fun _ h => by simp at h) i) fun q => free_ne hf q
  · cases e
theorem gIx {i : Nat} {kx : E} {v : V} {k : St → Hp → Prop} (h : tTg K io fn (.ix i kx) v σ H k) : gSub (tVar i) (tE K (evE fn kx)) rSetB v σ H k := by
  obtain ⟨F, Z, ρ, d, ρ', g, r, e, c⟩ := h
  simp only [evTg] at e
  split at e
  · rename_i hs
    simp only [Option.bind_eq_some_iff] at e
    obtain ⟨⟨o, ρ1⟩, e1, x, e2, e3⟩ := e
    obtain ⟨x0, e0⟩ := Option.isSome_iff_exists.mp hs
    obtain ⟨v0, l0, k0, _⟩ := g.get (join_some e0)
    refine ⟨v0, k0, F, Z, ρ, o, ρ1, g, e1, fun w H1 F1 l x1 g1 r1 n1 => ?_⟩
    simp only at e3
    split at e3
    · simp only [Option.map_eq_some_iff] at e3
      obtain ⟨j, hj, e4⟩ := e3
      subst e4
      obtain ⟨rfl, rfl⟩ := r1.int_
      rw [Zp_nil] at g1
      obtain ⟨p, vs, k1, hp, rl, fin⟩ := g1.write (join_some e2)
      rw [k0] at k1
      cases k1
      obtain ⟨x3, g3⟩ := fin _ (RepL.set (r.ext x1) j rl)
      exact .inl ⟨p, vs, _, j, rfl, rfl, hp, by rw [← rl.length]; exact hj, c σ _ F1 (x1.trans x3) g3 fun _ => rfl⟩
    · simp only [Option.bind_eq_some_iff] at e3
      obtain ⟨key, hk, e4⟩ := e3
      split at e4
      · rename_i hz
        cases e4
        have ek := dKey_ok r1 hk
        subst ek
        have g1 := g1.less (Z' := Z) fun _ h => .inl h
        obtain ⟨p, u, k1, hp, rd, fin⟩ := g1.writeD (join_some e2)
        rw [k0] at k1
        cases k1
        obtain ⟨x3, g3⟩ := fin _ _ (rd.put key (r.ext x1))
        exact .inr ⟨p, _, rfl, DPut.k hp (by rw [← rd.length]; exact of_decide_eq_true hz), c σ _ F1 (x1.trans x3) g3 fun _ => rfl⟩
      · cases e4
    · cases e3
  · cases e
theorem gTp {ts : TgL} {n : Nat} {v : V} {k : St → Hp → Prop} (hn : ∀ ds ρ ρ', evTgs fn io ts ds ρ = some ρ' → ds.length = n) (h : tTg K io fn (.tp ts) v σ H k) : gTup K n (tTgs K io fn ts) v σ H k := by
  obtain ⟨F, Z, ρ, d, ρ', g, r, e, c⟩ := h
  simp only [evTg] at e
  split at e
  · obtain ⟨a, vs, rfl, h1, h2⟩ := r.tup_
    exact ⟨a, vs, rfl, h1, by rw [RepL_len h2, hn _ _ _ e], F, Z, ρ, _, ρ', g, h2, e, c⟩
  · cases e
theorem gsNil {vs : List V} {k : St → Hp → Prop} (h : tTgs K io fn .nil vs σ H k) : gNil vs σ H k := by
  obtain ⟨F, Z, ρ, ds, ρ', g, r, e, c⟩ := h
  simp only [evTgs] at e
  split at e
  · cases e
    cases r
    exact ⟨rfl, c σ H F .refl g fun _ => rfl⟩
  · cases e
theorem gsCons {t : Tg} {ts : TgL} {vs : List V} {k : St → Hp → Prop} (h : tTgs K io fn (.cons t ts) vs σ H k) : gCons (tTg K io fn t) (tTgs K io fn ts) vs σ H k := by
  obtain ⟨F, Z, ρ, ds, ρ', g, r, e, c⟩ := h
  simp only [evTgs] at e
  split at e
  · rename_i d ds
    simp only [Option.bind_eq_some_iff] at e
    obtain ⟨ρ1, e1, e2⟩ := e
    cases r with
    | cons r1 r2 =>
      refine ⟨_, _, rfl, F, Z, ρ, d, ρ1, g, r1, e1, fun σ1 H1 F1 x1 g1 h1 => ?_⟩
      exact ⟨F1, Z, ρ1, ds, ρ', g1, r2.ext x1, e2, fun σ2 H2 F2 x2 g2 h2 => c σ2 H2 F2 (x1.trans x2) g2 fun q => (h2 q).trans (h1 q)⟩
  · cases e
theorem sAsgG {t : Tg} {e : E} (h : tS K io (evS fn io (.asgG t e)) D σ H) : tAsg (tE K (evE fn e)) (tTg K io fn t) D σ H := by
  obtain ⟨F, Z, ρ, out, g, q, k⟩ := h
  simp only [evS, Option.bind_eq_some_iff, Option.map_eq_some_iff] at q
  obtain ⟨⟨o, ρ1⟩, e1, d, e2, ρ2, e3, e4⟩ := q
  subst e4
  refine ⟨F, Z, ρ, o, ρ1, g, e1, fun v H1 F1 l x1 g1 r1 n1 => ?_⟩
  obtain ⟨x2, g2⟩ := g1.share n1
  have rd := r1.shared e2 x2 fun a h => .inr h
  exact ⟨_, Z, ρ1, d, ρ2, g2, rd, e3, fun σ2 H2 F2 x3 g3 h3 => k σ2 H2 F2 ((x1.trans x2).trans x3) g3 h3⟩
theorem sAug {i : Nat} {p : P2} {e : E} (h : tS K io (evS fn io (.aug i p e)) D σ H) : tAug i (tE K (evE fn e)) (rV2 K (pAug p)) D σ H := by
  obtain ⟨F, Z, ρ, out, g, q, k⟩ := h
  simp only [evS] at q
  split at q
  · rename_i hf
    simp only [Bool.and_eq_true] at hf
    simp only [Option.bind_eq_some_iff, Option.map_eq_some_iff] at q
    obtain ⟨⟨o, ρ1⟩, e1, x, e2, w, e3, e4⟩ := q
    subst e4
    obtain ⟨x0, e0⟩ := Option.isSome_iff_exists.mp hf.2
    obtain ⟨v0, l0, k0, _⟩ := g.get (join_some e0)
    refine ⟨v0, k0, F, Z, ρ, o, ρ1, g, e1, fun v H1 F1 l x1 g1 r1 n1 => ?_⟩
    obtain ⟨v2, l2, k2, r2⟩ := g1.get (join_some e2)
    rw [k0] at k2
    cases k2
    have g2 := g1.less (Z' := Z) fun _ h => .inl h
    refine ⟨F1, Z, ρ1, σ, x, o, w, l2, l, g2, r2, r1, e3, fun v3 H3 F3 l3 x3 g3 r3 n3 => ?_⟩
    exact k _ H3 F3 (x1.trans x3) (g3.put r3 n3 i) fun q => free_ne hf.1 q
  · cases q

/-! ### loops -/
theorem G.free_ix {gg : G} (h : gg.free io = true) (q : io = true) : (0 : Nat) ∉ gg.ixs := by
  subst q
  cases gg with
  | nm i => simp only [G.free, Vx.free, Bool.not_true, Bool.false_or, bne_iff_ne, ne_eq] at h; simpa [G.ixs] using Ne.symm h
  | tp is =>
    simp only [G.free, List.all_eq_true] at h
    intro hm
    have := h 0 hm
    simp [Vx.free] at this
theorem sFor {gg : G} {it : I} {b : SL} (h : tS K io (evS fn io (.for gg it b)) D σ H) : tFor (tI K (evI fn it)) (gG K gg) (tS K io (evSs fn io b)) D σ H := by
  obtain ⟨F, Z, ρ, out, g, q, k⟩ := h
  simp only [evS, Option.bind_eq_some_iff] at q
  obtain ⟨⟨ds, ρ1⟩, e1, q⟩ := q
  split at q
  · rename_i hf
    refine ⟨F, Z, ρ, ds, ρ1, g, e1, fun J H1 F1 x1 g1 w1 => ?_⟩
    refine ⟨fun i m σ' H' => m = ds.length - i ∧ i ≤ ds.length ∧ ∃ F' ρ', Ext F1 F' Z H1 H' ∧ Good K F' Z H' ρ' σ' ∧ (io = true → σ'[0]? = σ[0]?) ∧ forGo (bindG gg) (evSs fn io b) (ds.drop i) ρ' = some out,
      ⟨ds.length, by simp, Nat.zero_le _, F1, ρ1, .refl, g1, fun _ => rfl, q⟩, ?_⟩
    rintro i m σ2 H2 ⟨rfl, hi, F2, ρ2, x2, g2, h2, q2⟩
    obtain ⟨wg, ws⟩ := w1 F2 H2 x2.sub x2.kf
    by_cases hlt : i < ds.length
    · obtain ⟨dd, hd⟩ : ∃ dd, ds[i]? = some dd := ⟨ds[i], by simp [hlt]⟩
      obtain ⟨go, yl⟩ := wg i dd hd
      have hdr : ds.drop i = dd :: ds.drop (i + 1) := by
        rw [List.drop_eq_getElem_cons hlt, (List.getElem?_eq_some_iff.mp hd).2]
      rw [hdr] at q2
      simp only [forGo, Option.bind_eq_some_iff] at q2
      obtain ⟨ρ3, f1, r, f2, f3⟩ := q2
      refine .inr ⟨go, fun σ' H' => ∃ F' ρ', Ext F1 F' Z H1 H' ∧ Good K F' Z H' ρ' σ' ∧ (io = true → σ'[0]? = σ[0]?) ∧ forGo (bindG gg) (evSs fn io b) (ds.drop (i + 1)) ρ' = some out, fun σ' H' hn => ⟨ds.length - (i + 1), by omega, rfl, hlt, hn⟩, fun x H3 y => ?_⟩
      obtain ⟨F3, x3, g3, rx, _⟩ := (yl x H3 y).ok g2
      refine bindG_ok f1 rx g3 fun σ4 g4 hσ => ?_
      have h4 : io = true → σ4[0]? = σ[0]? := fun q => (hσ 0 (G.free_ix hf q)).trans (h2 q)
      refine ⟨F3, Z, ρ3, r, g4, f2, ?_⟩
      have xx := x2.trans x3
      cases r with
      | nx ρ5 => exact fun σ5 H5 F5 x5 g5 h5 => ⟨F5, ρ5, xx.trans x5, g5, fun q => (h5 q).trans (h4 q), f3⟩
      | ct ρ5 => exact fun σ5 H5 F5 x5 g5 h5 => ⟨F5, ρ5, xx.trans x5, g5, fun q => (h5 q).trans (h4 q), f3⟩
      | bk ρ5 => cases f3; exact fun σ5 H5 F5 x5 g5 h5 => k σ5 H5 F5 (x1.trans (xx.trans x5)) g5 fun q => (h5 q).trans (h4 q)
      | rt o ρ5 => cases f3; exact fun v σ5 H5 F5 l x5 g5 h5 => k v σ5 H5 F5 l (x1.trans (xx.trans x5)) g5 fun q => (h5 q).trans (h4 q)
    · have hi' : i = ds.length := by omega
      subst hi'
      rw [List.drop_length] at q2
      simp only [forGo, Option.some.injEq] at q2
      subst q2
      exact .inl ⟨ws, k σ2 H2 F2 (x1.trans x2) g2 h2⟩
  · cases q
theorem sWhile {c : T} {b : SL} (h : tS K io (evS fn io (.while c b)) D σ H) : tWhile (tT K (evT fn c)) (tS K io (evSs fn io b)) D σ H := by
  obtain ⟨F, Z, ρ, out, g, q, k⟩ := h
  simp only [evS] at q
  refine ⟨fun m σ' H' => ∃ F' ρ', Ext F F' Z H H' ∧ Good K F' Z H' ρ' σ' ∧ (io = true → σ'[0]? = σ[0]?) ∧ whileGo (evT fn c) (evSs fn io b) m ρ' = some out, ⟨fuel, F, ρ, .refl, g, fun _ => rfl, q⟩, ?_⟩
  rintro m σ2 H2 ⟨F2, ρ2, x2, g2, h2, q2⟩
  cases m with
  | zero => cases q2
  | succ m =>
    simp only [whileGo, Option.bind_eq_some_iff] at q2
    obtain ⟨⟨kb, ρ3⟩, f1, f2⟩ := q2
    refine ⟨F2, Z, ρ2, kb, ρ3, g2, f1, fun H3 F3 x3 g3 => ?_⟩
    have xx := x2.trans x3
    cases kb with
    | false =>
      show D.nx σ2 H3
      simp only [Bool.false_eq_true, if_false, Option.some.injEq] at f2
      subst f2
      exact k σ2 H3 F3 xx g3 h2
    | true =>
      show ∃ N : St → Hp → Prop, _ ∧ _
      simp only [if_true, Option.bind_eq_some_iff] at f2
      obtain ⟨r, f3, f4⟩ := f2
      refine ⟨fun σ' H' => ∃ F' ρ', Ext F F' Z H H' ∧ Good K F' Z H' ρ' σ' ∧ (io = true → σ'[0]? = σ[0]?) ∧ whileGo (evT fn c) (evSs fn io b) m ρ' = some out, fun σ' H' hn => ⟨m, Nat.lt_succ_self m, hn⟩, F3, Z, ρ3, r, g3, f3, ?_⟩
      cases r with
      | nx ρ5 => exact fun σ5 H5 F5 x5 g5 h5 => ⟨F5, ρ5, xx.trans x5, g5, fun q => (h5 q).trans (h2 q), f4⟩
      | ct ρ5 => exact fun σ5 H5 F5 x5 g5 h5 => ⟨F5, ρ5, xx.trans x5, g5, fun q => (h5 q).trans (h2 q), f4⟩
      | bk ρ5 => cases f4; exact fun σ5 H5 F5 x5 g5 h5 => k σ5 H5 F5 (xx.trans x5) g5 fun q => (h5 q).trans (h2 q)
      | rt o ρ5 => cases f4; exact fun v σ5 H5 F5 l x5 g5 h5 => k v σ5 H5 F5 l (xx.trans x5) g5 fun q => (h5 q).trans (h2 q)
end
end Vx

/-! Vx, part I: statements, from the model's syntax. -/
namespace Vx
open PySem L2 RZ

def isComp : Expr → Bool
  | .ListComp .. => true
  | .SetComp .. => true
  | .DictComp .. => true
  | _ => false
def isSl : Expr → Bool
  | .Slice .. => true
  | _ => false
theorem sw_no {e : Expr} {t : Option Expr} {l : Nat} {env : Env} (h : isComp e = false) : swapsWith e t l env = pure false := by
  cases e <;> first | rfl | (simp [isComp] at h)
theorem sw_tup {e : Expr} {ts : List Expr} {k : Nat} {p : Pos} {l : Nat} {env : Env} : swapsWithSole [.Tuple ts k p] e l env = pure false := by
  cases e <;> rfl
theorem sw_sub {e o i : Expr} {p : Pos} {l : Nat} {env : Env} : swapsWithSole [.Subscript o i p] e l env = pure false := by
  cases e <;> rfl
def stL (se : SE) (x : Str) : Option Nat := if se.sc.names.lookup x = some .local then ixOf x se.N else none
def isTupV : Expr → Bool
  | .Tuple .. => true
  | _ => false
theorem st_sub {e o i : Expr} {p : Pos} {env : Env} : swappedStores [.Subscript o i p] e env = pure none := by
  cases e <;> rfl
theorem st_tup {e : Expr} {ts : List Expr} {k : Nat} {p : Pos} {env : Env} (h : isTupV e = false) : swappedStores [.Tuple ts k p] e env = pure none := by
  cases e <;> first | rfl | (simp [isTupV] at h)
def swNames (sc : Scope) (ts : List Expr) : List Str := ts.filterMap fun t => match t with
  | .Name x p => if sc.names.lookup x == some .local && p.line == (ts.head?.map (·.pos.line)).getD 0 then some x else none
  | _ => none
def isStarE : Expr → Bool
  | .Starred .. => true
  | _ => false
def swNo (sc : Scope) (ts vs : List Expr) : Bool := (!(ts.length == 2 || ts.length == 3) || vs.length != ts.length) || (vs.any isStarE || (((swNames sc ts).length != ts.length || (swNames sc ts).eraseDups.length != (swNames sc ts).length) || vs.all (foldedForSure 8)))
theorem sw_eq {ts vs : List Expr} {k k2 : Nat} {p p2 : Pos} {env : Env} (hk : env.scope.kind = .function) (hc : swNo env.scope ts vs = true ∨ vs.all (constantsAlone 8) = false) : swappedStores [.Tuple ts k p] (.Tuple vs k2 p2) env =
    if swNo env.scope ts vs then pure none else pure (some (swNames env.scope ts)) := by
  have hb : env.blockKind = .function := by unfold Env.blockKind; rw [hk]; rfl
  unfold swappedStores
  show (if (!(ts.length == 2 || ts.length == 3) || vs.length != ts.length || env.blockKind != .function) = true then pure none else
    if vs.any isStarE = true then pure none else
    if ((swNames env.scope ts).length != ts.length || (swNames env.scope ts).eraseDups.length != (swNames env.scope ts).length) = true then pure none else
    if vs.all (foldedForSure 8) = true then pure none else
    if vs.all (constantsAlone 8) = true then _ else pure (some (swNames env.scope ts))) = _
  rw [hb]
  revert hc
  unfold swNo
  generalize (!(ts.length == 2 || ts.length == 3)) = b1
  generalize (vs.length != ts.length) = b2
  generalize vs.any isStarE = b3
  generalize ((swNames env.scope ts).length != ts.length || (swNames env.scope ts).eraseDups.length != (swNames env.scope ts).length) = b4
  generalize vs.all (foldedForSure 8) = b5
  generalize vs.all (constantsAlone 8) = b6
  intro hc
  cases b1 <;> cases b2 <;> cases b3 <;> cases b4 <;> cases b5 <;> cases b6 <;> first | rfl | (rcases hc with hc | hc <;> cases hc)

/-! ### from the model's syntax -/
def orN : Option S → S
  | some s => s
  | none => .never
def augP : Operator → Option P2
  | .Add => some .add
  | .Sub => some .sub
  | _ => none
section
variable (tb : Tab)
mutual
def cTg : Nat → SE → Expr → Option Tg
  | 0, _, _ => none
  | n + 1, se, e => match e with
    | .Name x _ => (stOf se x).map .nm
    | .Subscript (.Name x _) k _ => if isSl k then none else (slotOf se x).bind fun i => (cE tb n se k).map (.ix i)
    | .Tuple es _ _ => (cTgs n se es).map .tp
    | _ => none
def cTgs : Nat → SE → List Expr → Option TgL
  | 0, _, _ => none
  | n + 1, se, es => match es with
    | [] => some .nil
    | e :: r => (cTg n se e).bind fun t => (cTgs n se r).map (.cons t)
end
def mCall (n : Nat) (se : SE) (x m : Str) (args : List Expr) : Option S := (slotOf se x).bind fun i =>
  if m = "append" then (match args with | [e] => (cE tb n se e).map (.append i) | _ => none)
  else if m = "extend" then (match args with | [e] => (cE tb n se e).map (.extend i) | _ => none)
  else if m = "insert" then (match args with | [k, e] => (cE tb n se k).bind fun y => (cE tb n se e).map (.insert i y) | _ => none)
  else if m = "pop" then (match args with | [] => some (.pop i) | _ => none)
  else none
def noItems : List Comprehension → Bool
  | [⟨_, it, _, _⟩] => (itemsOf it).isNone
  | _ => false
def cLc (n : Nat) (se : SE) (x : Str) (px : Pos) (e : Expr) : Option S := match e with
  | .ListComp elt gs scope lp => if noItems gs && (px.line == lp.line) && !(scope.names.any fun (n, k) => n == x && (k == .local || k == .cell)) then (stL se x).bind fun i => (cE tb n se e).map (.asg i) else none
  | _ => none
def cAsg (n : Nat) (se : SE) (tg e : Expr) : Option S := match tg with
  | .Name x px => if isComp e then cLc tb n se x px e else (stOf se x).bind fun i => (cE tb n se e).map (.asg i)
  | .Subscript .. => (cTg tb n se tg).bind fun t => (cE tb n se e).map (.asgG t)
  | .Tuple ts _ _ => (match e with
    | .Tuple vs _ _ => if swNo se.sc ts vs then (cTg tb n se tg).bind fun t => (cE tb n se e).map (.asgG t)
      else if vs.all (constantsAlone 8) then none else (match ts, vs with
        | [.Name x _, .Name y _], [a, b] => if swNames se.sc ts = [x, y] then (stL se x).bind fun i => (stL se y).bind fun j => if i = j then none else (cE tb n se a).bind fun u => (cE tb n se b).map fun v => .par i j u v else none
        | [.Name x _, .Name y _, .Name z _], [a, b, c] => if swNames se.sc ts = [x, y, z] then (stL se x).bind fun i => (stL se y).bind fun j => (stL se z).bind fun l => if i = j || i = l || j = l then none else
            (cE tb n se a).bind fun u => (cE tb n se b).bind fun v => (cE tb n se c).map fun w => .par3 i j l u v w else none
        | _, _ => none)
    | e => (cTg tb n se tg).bind fun t => (cE tb n se e).map (.asgG t))
  | _ => none
def cRet (n : Nat) (se : SE) (e : Expr) : Option S := match e with
  | .Name x _ => (match slotOf se x with
    | some i => some (.ret (.mv i))
    | none => (cE tb n se e).map .ret)
  | e => (cE tb n se e).map .ret
def cExp (n : Nat) (se : SE) (e : Expr) : Option S := match e with
  | .Constant (.str _) _ _ => some .pass
  | .Call (.Attribute (.Name x _) m ap) args [] cp => if ap.endLine == cp.line then mCall tb n se x m args else none
  | e => if isComp e then none else (cE tb n se e).map .expr
mutual
def cS : Nat → SE → Stmt → S
  | 0, _, _ => .never
  | n + 1, se, st => match st with
    | .Pass _ => .pass
    | .Break _ => .brk
    | .Continue _ => .cont
    | .Return none _ => .ret (.con .none)
    | .Return (some e) _ => orN (cRet tb n se e)
    | .Expr e _ => orN (cExp tb n se e)
    | .If c a b _ => (match cT tb n se c with
      | some k => .ite k (cSs n se a) (cSs n se b)
      | none => .never)
    | .While c b [] _ => (match cT tb n se c with
      | some k => .while k (cSs n se b)
      | none => .never)
    | .For tg it b [] _ => (match cI tb n se tg it, cG se tg with
      | some i, some g => .for g.1 i (cSs n se b)
      | _, _ => .never)
    | .AugAssign (.Name x _) op e _ => orN ((stOf se x).bind fun i => (augP op).bind fun p => (cE tb n se e).map (.aug i p))
    | .Assign [tg] e _ => orN (cAsg tb n se tg e)
    | _ => .never
def cSs : Nat → SE → List Stmt → SL
  | 0, _, _ => .cons .never .nil
  | n + 1, se, sts => match sts with
    | [] => .nil
    | s :: r => .cons (cS n se s) (cSs n se r)
end
end

/-! ### they are right -/
section
variable {tb : Tab} {fn : Fn} {X : Cx} {se : SE} {io : Bool}
theorem PS_imp {st : Stmt} {t t' : TS} (h : PS X st t) (i : ∀ D σ H, t' D σ H → t D σ H) : PS X st t' := ⟨fun pins s σ H D I q => h.run pins s σ H D I (i D σ H q)⟩
theorem PSs_imp {st : List Stmt} {t t' : TS} (h : PSs X st t) (i : ∀ D σ H, t' D σ H → t D σ H) : PSs X st t' := ⟨fun pins s σ H D I q => h.run pins s σ H D I (i D σ H q)⟩
theorem PG_imp {e : Expr} {t t' : TG} (h : PG X e t) (i : ∀ v σ H Q, t' v σ H Q → t v σ H Q) : PG X e t' := ⟨fun pins s σ H v u Q I r q => h.run pins s σ H v u Q I r (i v σ H Q q)⟩
theorem PGs_imp {e : List Expr} {t t' : TGs} (h : PGs X e t) (i : ∀ v σ H Q, t' v σ H Q → t v σ H Q) : PGs X e t' := ⟨fun pins s σ H v u Q I r q => h.run pins s σ H v u Q I r (i v σ H Q q)⟩
theorem PS_never {st : Stmt} : PS X st (tS X.K io (evS fn io .never)) := PS_imp ps_never fun D σ H h => sNever h
theorem PS_orN {st : Stmt} {o : Option S} (h : ∀ s, o = some s → PS X st (tS X.K io (evS fn io s))) : PS X st (tS X.K io (evS fn io (orN o))) := by
  cases o with
  | none => exact PS_never
  | some s => exact h s rfl
theorem Ok.stL (ok : Ok tb fn X se) {x : Str} {i : Nat} (h : Vx.stL se x = some i) : X.N[i]? = some x ∧ X.env.scope.names.lookup x = some .local := by
  unfold Vx.stL at h
  split at h
  · rename_i e
    exact ⟨by rw [ok.N]; exact ixOf_ok h, by rw [ok.sc]; exact e⟩
  · cases h
theorem Ok.slN (ok : Ok tb fn X se) {x : Str} {i : Nat} (h : slotOf se x = some i) {pos : Pos} : PE X (.Name x pos) (tVar i) := ok.slot h
theorem asgEach_of {n : Nat} {e : Expr} {t : Tg} (h : cTg tb n se e = some t) (es : List Expr) (env : Env) : assignEach (e :: es) env = (false, assign e env) :: assignEach es env := by
  cases n with
  | zero => simp [cTg] at h
  | succ n =>
    cases e
    case Starred => simp [cTg] at h
    all_goals rfl
theorem tg_ok (hg : tb.good = true) (ok : Ok tb fn X se) : ∀ n, (∀ e t, cTg tb n se e = some t → PG X e (tTg X.K io fn t)) ∧
    (∀ es ts, cTgs tb n se es = some ts → PGs X es (tTgs X.K io fn ts) ∧ (assignEach es X.env).length = es.length ∧ (assignEach es X.env).findIdx? (·.1) = none ∧ ∀ ds ρ ρ', evTgs fn io ts ds ρ = some ρ' → ds.length = es.length)
  | 0 => ⟨fun e t h => by simp [cTg] at h, fun e t h => by simp [cTgs] at h⟩
  | n + 1 => by
    obtain ⟨h1, h2⟩ := tg_ok hg ok n
    refine ⟨fun e t h => ?_, fun es ts h => ?_⟩
    · cases e
      case Name x p =>
        simp only [cTg, Option.map_eq_some_iff] at h
        obtain ⟨i, e1, rfl⟩ := h
        obtain ⟨k1, k2, k3⟩ := ok.st e1
        exact PG_imp (pg_name ok.nd k1 k2 k3) fun v σ H Q => gNm
      case Tuple es k p =>
        simp only [cTg, Option.map_eq_some_iff] at h
        obtain ⟨ts, e1, rfl⟩ := h
        obtain ⟨k1, k2, k3, k4⟩ := h2 _ _ e1
        exact PG_imp (pg_tup ok.calm k1 k2 k3) fun v σ H Q => gTp k4
      case Subscript o k p =>
        cases o
        case Name x p' =>
          simp only [cTg] at h
          split at h
          · cases h
          · rename_i hk
            simp only [Option.bind_eq_some_iff, Option.map_eq_some_iff] at h
            obtain ⟨i, e1, y, e2, rfl⟩ := h
            refine PG_imp (pg_sub (ok.slot e1) ((snd hg n).e ok e2) (set_both (by have := units64 ok.room; omega)) ?_) fun v σ H Q => gIx
            intro v
            cases k
            case Slice => simp [isSl] at hk
            all_goals rfl
        all_goals simp [cTg] at h
      all_goals simp [cTg] at h
    · cases es with
      | nil =>
        simp only [cTgs, Option.some.injEq] at h
        subst h
        refine ⟨PGs_imp pgs_nil fun v σ H Q => gsNil, rfl, rfl, fun ds ρ ρ' q => ?_⟩
        simp only [evTgs] at q
        split at q
        · rfl
        · cases q
      | cons e r =>
        simp only [cTgs, Option.bind_eq_some_iff, Option.map_eq_some_iff] at h
        obtain ⟨t, e1, ts, e2, rfl⟩ := h
        obtain ⟨k1, k2, k3, k4⟩ := h2 _ _ e2
        have ea := asgEach_of e1 r X.env
        refine ⟨PGs_imp (pgs_cons (h1 _ _ e1) k1 (by rw [ea]; rfl)) fun v σ H Q => gsCons, ?_, ?_, fun ds ρ ρ' q => ?_⟩
        · rw [ea]
          show _ + 1 = _ + 1
          rw [k2]
        · rw [ea, List.findIdx?_cons]
          simp [k3]
        · simp only [evTgs] at q
          split at q
          · simp only [Option.bind_eq_some_iff] at q
            obtain ⟨ρ1, q1, q2⟩ := q
            show _ + 1 = _ + 1
            rw [k4 _ _ _ q2]
          · cases q
theorem ok_aug {op : Operator} {p : P2} (h : augP op = some p) : PIp X op (rV2 X.K (pAug p)) := by
  have key : ∀ (f : Int → Int → Int), (∀ i j, p2 p (.sh (.int i)) (.sh (.int j)) = si (f i j)) → OpR X (inplaceOp op) (rI0 fun i j => .int (f i j)) → PIp X op (rV2 X.K (pAug p)) := fun f hp ho => by
    refine OpR_imp ho fun x y H Q h => ?_
    obtain ⟨F, Z, ρ, σ, o, u, w, l, m, g, r1, r2, h, d⟩ := h
    unfold pAug at h
    split at h
    · obtain ⟨rfl, rfl⟩ := r1.int_
      obtain ⟨rfl, rfl⟩ := r2.int_
      rw [hp] at h
      cases h
      exact ⟨_, _, rfl, rfl, d.int g⟩
    · cases h
  cases op <;> simp only [augP, Option.some.injEq, reduceCtorEq] at h <;> subst h
  · exact key (fun i j => i + j) (fun _ _ => rfl) iop_add
  · exact key (fun i j => i - j) (fun _ _ => rfl) iop_sub
theorem few_of {n : Nat} {cpos : Pos} {e : Expr} {x : E} (h : cE tb n se e = some x) : ((backTo cpos (starEach [e] X.env)).all (fun x => !x.1) && (backToKw cpos (keywordEach [] X.env)).all (fun x => x.1.isSome) && decide ([e].length + ([] : List Keyword).length + (if ([] : List Keyword).isEmpty then 0 else 1) < 30)) = true := by
  rw [star_of h]; rfl
theorem mCall_ok (hg : tb.good = true) (ok : Ok tb fn X se) {n : Nat} {x m : Str} {xp ap cp pos : Pos} {args : List Expr} {s : S} (hl : (ap.endLine == cp.line) = true) (h : mCall tb n se x m args = some s) :
    PS X (.Expr (.Call (.Attribute (.Name x xp) m ap) args [] cp) pos) (tS X.K io (evS fn io s)) := by
  have SD := snd (tb := tb) (fn := fn) hg n
  unfold mCall at h
  simp only [Option.bind_eq_some_iff] at h
  obtain ⟨i, h1, h⟩ := h
  have hv : PE X (.Name x xp) (tVar i) := ok.slot h1
  split at h
  · rename_i hm; subst hm
    split at h
    · simp only [Option.map_eq_some_iff] at h
      obtain ⟨y, h2, rfl⟩ := h
      exact PS_imp (ps_expr (pe_bm PySem.F.plainAttrs_list PySem.F.slot_list_append PySem.F.type_list_append mt_append hv (pa_cons (SD.e ok h2) pa_nil (star_of h2 _ _)) rfl (few_of h2) hl (star_of h2 _ _) rfl)) fun D σ H => sAppend
    · cases h
  · split at h
    · rename_i hm; subst hm
      split at h
      · simp only [Option.map_eq_some_iff] at h
        obtain ⟨y, h2, rfl⟩ := h
        exact PS_imp (ps_expr (pe_bm PySem.F.plainAttrs_list PySem.F.slot_list_extend PySem.F.type_list_extend mt_extend hv (pa_cons (SD.e ok h2) pa_nil (star_of h2 _ _)) rfl (few_of h2) hl (star_of h2 _ _) rfl)) fun D σ H => sExtend
      · cases h
    · split at h
      · rename_i hm; subst hm
        split at h
        · simp only [Option.bind_eq_some_iff, Option.map_eq_some_iff] at h
          obtain ⟨y, h2, z, h3, rfl⟩ := h
          exact PS_imp (ps_expr (pe_bm PySem.F.plainAttrs_list PySem.F.slot_list_insert PySem.F.type_list_insert mt_insert hv (pa_cons (SD.e ok h2) (pa_cons (SD.e ok h3) pa_nil (star_of h3 _ _)) (star_of h2 _ _)) rfl (by rw [star_of h2, star_of h3]; rfl) hl (star_of h2 _ _) (by rw [star_of h3]; rfl))) fun D σ H => sInsert
        · cases h
      · split at h
        · rename_i hm; subst hm
          split at h
          · cases h
            exact PS_imp (ps_expr (pe_bm0 PySem.F.plainAttrs_list PySem.F.slot_list_pop PySem.F.type_list_pop mt_pop hv rfl hl)) fun D σ H => sPop
          · cases h
        · cases h
theorem ret_ok (hg : tb.good = true) (ok : Ok tb fn X se) {n : Nat} {e : Expr} {pos : Pos} {s : S} (h : cRet tb n se e = some s) : PS X (.Return (some e) pos) (tS X.K io (evS fn io s)) := by
  have SD := snd (tb := tb) (fn := fn) hg n
  have go : ∀ {e : Expr} {s : S}, (cE tb n se e).map S.ret = some s → PS X (.Return (some e) pos) (tS X.K io (evS fn io s)) := fun {e s} h => by
    simp only [Option.map_eq_some_iff] at h
    obtain ⟨x, h1, rfl⟩ := h
    exact PS_imp (ps_ret (SD.e ok h1)) fun D σ H => sRet
  unfold cRet at h
  split at h
  · split at h
    · rename_i i e
      cases h
      exact PS_imp (ps_ret (PE_imp (ok.slot e) fun σ H Q => impMv)) fun D σ H => sRet
    · exact go h
  · exact go h
theorem exp_ok (hg : tb.good = true) (ok : Ok tb fn X se) {n : Nat} {e : Expr} {pos : Pos} {s : S} (h : cExp tb n se e = some s) : PS X (.Expr e pos) (tS X.K io (evS fn io s)) := by
  have SD := snd (tb := tb) (fn := fn) hg n
  unfold cExp at h
  split at h
  · cases h
    exact PS_imp ps_doc fun D σ H => sPass
  · split at h
    · rename_i hl
      exact mCall_ok hg ok hl h
    · cases h
  · split at h
    · cases h
    · rename_i hc
      simp only [Option.map_eq_some_iff] at h
      obtain ⟨x, h1, rfl⟩ := h
      exact PS_imp (ps_expr (SD.e ok h1) (sw_no (by simpa using hc))) fun D σ H => sExpr
end
end Vx

/-! Vx, part J: statements are right: the induction. -/
namespace Vx
open PySem L2 RZ
section
variable {tb : Tab} {fn : Fn} {X : Cx} {se : SE} {io : Bool}
theorem tg_e1 {n : Nat} {tg : Expr} {t : Tg} (h : cTg tb n se tg = some t) : (assignEach [tg] X.env).map (·.2) = [assign tg X.env] := by
  rw [asgEach_of h]; rfl
theorem asg_ok (hg : tb.good = true) (ok : Ok tb fn X se) (hk : X.env.scope.kind = .function) {n : Nat} {tg e : Expr} {pos : Pos} {s : S} (h : cAsg tb n se tg e = some s) : PS X (.Assign [tg] e pos) (tS X.K io (evS fn io s)) := by
  have SD := snd (tb := tb) (fn := fn) hg n
  have TD := (tg_ok (io := io) (fn := fn) hg ok n).1
  unfold cAsg at h
  split at h
  · rename_i x px
    split at h
    · unfold cLc at h
      split at h
      · rename_i elt gs scope lp
        split at h
        · rename_i hc
          simp only [Bool.and_eq_true, Bool.not_eq_true'] at hc
          simp only [Option.bind_eq_some_iff, Option.map_eq_some_iff] at h
          obtain ⟨i, h1, y, h2, rfl⟩ := h
          obtain ⟨e1, e2⟩ := ok.stL h1
          cases n with
          | zero => simp [cE] at h2
          | succ n =>
            have SD' := snd (tb := tb) (fn := fn) hg n
            simp only [cE] at h2
            split at h2
            · rename_i tg iter ifs
              simp only [Option.bind_eq_some_iff] at h2
              obtain ⟨it, f1, ⟨g, own⟩, f2, h2⟩ := h2
              split at h2
              · rename_i hb
                simp only [Option.bind_eq_some_iff] at h2
                obtain ⟨k, f3, x', f4, f5⟩ := h2
                have hni := hc.1.1
                simp only [noItems, Option.isNone_iff_eq_none] at hni
                unfold wrapI at f5
                rw [hni] at f5
                cases f5
                obtain ⟨c1, c2, c3, c4, c5⟩ := comp_ok SD' ok f1 f2 hb f3 f4
                refine PS_imp (ps_setLc ok.calm ok.nd e1 e2 (sw_true hk e2 hc.1.2 hc.2) c1 c2 c3 c4 c5 (foldI_ok f1 _)) fun D σ H h => ?_
                exact impComp (cG_own f2) (sAsg h)
              · cases h2
            · cases h2
        · cases h
      · cases h
    · rename_i hc
      simp only [Option.bind_eq_some_iff, Option.map_eq_some_iff] at h
      obtain ⟨i, h1, y, h2, rfl⟩ := h
      obtain ⟨e1, e2, e3⟩ := ok.st h1
      exact PS_imp (ps_set ok.nd e1 e2 (SD.e ok h2) (sw_no (by simpa using hc)) e3) fun D σ H => sAsg
  · simp only [Option.bind_eq_some_iff, Option.map_eq_some_iff] at h
    obtain ⟨t, h1, y, h2, rfl⟩ := h
    exact PS_imp (ps_asg (SD.e ok h2) (TD _ _ h1) sw_sub st_sub (tg_e1 h1)) fun D σ H => sAsgG
  · rename_i ts tk tp
    split at h
    · rename_i vs vk vp
      split at h
      · rename_i hs
        simp only [Option.bind_eq_some_iff, Option.map_eq_some_iff] at h
        obtain ⟨t, h1, y, h2, rfl⟩ := h
        refine PS_imp (ps_asg (SD.e ok h2) (TD _ _ h1) sw_tup ?_ (tg_e1 h1)) fun D σ H => sAsgG
        rw [sw_eq hk (.inl (by rw [ok.sc]; exact hs)), ok.sc, if_pos hs]
      · rename_i hs
        split at h
        · cases h
        · rename_i hc
          have hw : ∀ {k k2 : Nat} {p p2 : Pos}, swappedStores [.Tuple ts k p] (.Tuple vs k2 p2) X.env = pure (some (swNames se.sc ts)) := fun {k k2 p p2} => by
            rw [sw_eq hk (.inr (by simpa using hc)), ok.sc, if_neg hs]
          split at h
          · rename_i x px y py a b
            split at h
            · rename_i hn
              simp only [Option.bind_eq_some_iff] at h
              obtain ⟨i, h1, j, h2, h⟩ := h
              split at h
              · cases h
              · rename_i hij
                simp only [Option.bind_eq_some_iff, Option.map_eq_some_iff] at h
                obtain ⟨u, h3, v, h4, rfl⟩ := h
                obtain ⟨e1, e2⟩ := ok.stL h1
                obtain ⟨e3, e4⟩ := ok.stL h2
                rw [hn] at hw
                refine PS_imp (ps_par ok.calm ok.nd e1 e3 hij e2 e4 (ta := tL X.K (evL fn (.cons u (.cons v .nil)))) ?_ hw sw_tup) fun D σ H => sPar
                exact PA_imp (pa_cons (SD.e ok h3) (PA_imp (pa_cons (SD.e ok h4) (PA_imp pa_nil fun σ H Q => impLnil) (star_of h4 _ _)) fun σ H Q => impLcons) (star_of h3 _ _)) fun σ H Q => impLcons
            · cases h
          · rename_i x px y py z pz a b c
            split at h
            · rename_i hn
              simp only [Option.bind_eq_some_iff] at h
              obtain ⟨i, h1, j, h2, l, h2', h⟩ := h
              split at h
              · cases h
              · rename_i hij
                simp only [Bool.or_eq_true, decide_eq_true_eq, not_or] at hij
                simp only [Option.bind_eq_some_iff, Option.map_eq_some_iff] at h
                obtain ⟨u, h3, v, h4, w, h5, rfl⟩ := h
                obtain ⟨e1, e2⟩ := ok.stL h1
                obtain ⟨e3, e4⟩ := ok.stL h2
                obtain ⟨e5, e6⟩ := ok.stL h2'
                rw [hn] at hw
                refine PS_imp (ps_par3 ok.calm ok.nd e1 e3 e5 hij.1.1 hij.1.2 hij.2 e2 e4 e6 (ta := tL X.K (evL fn (.cons u (.cons v (.cons w .nil))))) ?_ hw sw_tup) fun D σ H => sPar3
                exact PA_imp (pa_cons (SD.e ok h3) (PA_imp (pa_cons (SD.e ok h4) (PA_imp (pa_cons (SD.e ok h5) (PA_imp pa_nil fun σ H Q => impLnil) (star_of h5 _ _)) fun σ H Q => impLcons) (star_of h4 _ _)) fun σ H Q => impLcons) (star_of h3 _ _)) fun σ H Q => impLcons
            · cases h
          · cases h
    · rename_i hv
      simp only [Option.bind_eq_some_iff, Option.map_eq_some_iff] at h
      obtain ⟨t, h1, y, h2, rfl⟩ := h
      refine PS_imp (ps_asg (SD.e ok h2) (TD _ _ h1) sw_tup (st_tup ?_) (tg_e1 h1)) fun D σ H => sAsgG
      cases e <;> first | rfl | exact (hv _ _ _ rfl).elim
  · cases h
theorem snd_s (hg : tb.good = true) (ok : Ok tb fn X se) (hk : X.env.scope.kind = .function) : ∀ n, (∀ st, PS X st (tS X.K io (evS fn io (cS tb n se st)))) ∧ (∀ sts, PSs X sts (tS X.K io (evSs fn io (cSs tb n se sts))))
  | 0 => ⟨fun st => PS_never, fun sts => PSs_imp pss_never fun D σ H h => by
      have := sCons h
      exact sNever this⟩
  | n + 1 => by
    obtain ⟨hs, hss⟩ := snd_s hg ok hk n
    have SD := snd (tb := tb) (fn := fn) hg n
    have hp : PassesOwn (model X.prog X.w) X.A X.env X.xe := by rw [ok.xe]; exact PassesOwn.never
    refine ⟨fun st => ?_, fun sts => ?_⟩
    · cases st
      case Pass p => exact PS_imp ps_pass fun D σ H => sPass
      case Break p => exact PS_imp ps_break fun D σ H => sBrk
      case Continue p => exact PS_imp ps_continue fun D σ H => sCont
      case Return o p =>
        cases o with
        | none => exact PS_imp ps_retN fun D σ H h => impCon (fun _ _ => .non) (sRet h)
        | some e => exact PS_orN fun s h => ret_ok hg ok h
      case Expr e p => exact PS_orN fun s h => exp_ok hg ok h
      case If c a b p =>
        simp only [cS]
        split
        · rename_i k h
          exact PS_imp (ps_if (SD.t ok h) (hss a) (hss b)) fun D σ H => sIte
        · exact PS_never
      case While c b oe p =>
        cases oe with
        | nil =>
          simp only [cS]
          split
          · rename_i k h
            exact PS_imp (ps_while hp (SD.t ok h) (hss b)) fun D σ H => sWhile
          · exact PS_never
        | cons x y => exact PS_never
      case For tg it b oe p =>
        cases oe with
        | nil =>
          simp only [cS]
          split
          · rename_i i g h1 h2
            obtain ⟨g, own⟩ := g
            exact PS_imp (ps_for hp ok.calm (SD.i ok h1) (cG_ok ok h2) (hss b) (foldI_ok h1 _)) fun D σ H => sFor
          · exact PS_never
        | cons x y => exact PS_never
      case AugAssign t op e p =>
        cases t
        case Name x xp =>
          refine PS_orN fun s h => ?_
          simp only [Option.bind_eq_some_iff, Option.map_eq_some_iff] at h
          obtain ⟨i, h1, q, h2, y, h3, rfl⟩ := h
          obtain ⟨e1, e2, e3⟩ := ok.st h1
          exact PS_imp (ps_aug ok.nd e1 e2 (SD.e ok h3) (ok_aug h2) e3) fun D σ H => sAug
        all_goals exact PS_never
      case Assign ts e p =>
        match ts with
        | [] => exact PS_never
        | [tg] => exact PS_orN fun s h => asg_ok hg ok hk h
        | _ :: _ :: _ => exact PS_never
      all_goals exact PS_never
    · cases sts with
      | nil => exact PSs_imp pss_nil fun D σ H => sNil
      | cons s r => exact PSs_imp (pss_cons (hs s) (hss r)) fun D σ H => sCons
end
end Vx

/-! Vx, part K: defs. -/
namespace Vx
open PySem L2 RZ PySem.Spec PyProof.Rows
section
variable {K : PySem.W.Frag} {F F' Z : AS} {H : Hp} {ρ : Ev} {σ : L2.St}
theorem Good.pad (g : Good K F Z H ρ σ) (n : Nat) : Good K F Z H (ρ ++ List.replicate n none) (σ ++ List.replicate n none) := by
  obtain ⟨fp, g⟩ := g
  refine ⟨fp, by simp [g.len], fun i o e => ?_, g.dis, g.fa, g.ff, g.fz, g.al, g.zf, g.za⟩
  by_cases hi : i < ρ.length
  · rw [List.getElem?_append_left hi] at e
    obtain ⟨v, h1, h2⟩ := g.rep i o e
    exact ⟨v, by rw [List.getElem?_append_left (by rw [← g.len]; exact hi)]; exact h1, h2⟩
  · rw [List.getElem?_append_right (by omega), List.getElem?_replicate] at e
    split at e <;> cases e
theorem Good.noslots (g : Good K F Z H ρ σ) : Good K F Z H [] [] := by
  obtain ⟨fp, g⟩ := g
  exact Good.empty g.al g.zf g.za
theorem Good.first {x : O} {v : V} (g : Good K F Z H ρ σ) (e : ρ[0]? = some (some x)) (k : σ[0]? = some (some v)) : Good K F Z H [some x] [some v] := by
  obtain ⟨fp, g⟩ := g
  refine ⟨fp, rfl, fun i o q => ?_, g.dis, g.fa, g.ff, g.fz, g.al, g.zf, g.za⟩
  cases i with
  | zero =>
    simp only [List.getElem?_cons_zero, Option.some.injEq] at q
    subst q
    obtain ⟨w, h1, h2⟩ := g.rep 0 x e
    rw [k] at h1
    cases h1
    exact ⟨v, rfl, h2⟩
  | succ i => simp at q
end
/-- each def of the table, where nothing of the frame counts -/
def FnW (P : Program) (w : World) (K : PySem.W.Frag) (mg : Str → Option Value) (base : Heap) (fn : Fn) (f : Str) (s : FnS) : Prop :=
  ∃ a fd, mg f = some (.ref a) ∧ PySem.W.keepIn K (.ref a) = true ∧ FnG P w K mg base s.lev a fd s.ps (spF K fn f s) ∧
    (∀ (h : Shared) (us : List Value), us.length = s.ps.length → BindsTo h fd ⟨us, []⟩ (s.ps.zip us)) ∧
    ∀ k ∈ s.kws, ∀ (h : Shared) (us ws : List Value), us.length = k.npos → ws.length = k.ks.length → ∃ zs, zs.map some = k.perm.map (fun i => (us ++ ws)[i]?) ∧ zs.length = s.ps.length ∧ BindsTo h fd ⟨us, k.ks.zip ws⟩ (s.ps.zip zs)
/-- what of the module's names the defs use -/
structure Glob (T : Tab) (mg : Str → Option Value) : Prop where
  good : T.good = true
  bi : ∀ x ∈ bnames, mg x = none
  gcd : T.gcd = true → mg "gcd" = some (.builtin "math.gcd")
  con : ∀ x i, T.cons.lookup x = some i → ∃ t, mg x = some (.int i t)
def seOf (N : List Str) (sc : Scope) (k : Nat) : SE := ⟨N, sc, fun _ => true, k⟩
section
variable {P : Program} {w : World} {K : PySem.W.Frag} {mg : Str → Option Value} {base : Heap} {T : Tab} {fn : Fn}
theorem body_ok {N : List Str} {qual : Str} {scope : Scope} {f : Addr} {cd : Value} {A : Around} {outer : List Env} {s : Shared} {H : Hp} {k n : Nat} {ps : List Str} (GL : Glob T mg) (S : FnScope N ps scope) (hgd : A.guards = some []) (hr : Room k (A.deeper (envOfC qual scope s.heap.objs.size f cd)))
    (fns : ∀ g t, T.fns.lookup g = some t → t.lev ≤ k → FnW P w K mg base fn g t) (io : Bool) (body : List Stmt) :
    PSs (cxOf CX0 P w K mg base N qual scope f cd A outer s H E0) body (tS K io (evSs fn io (cSs T n (seOf N scope k) body))) := by
  have ok : Ok T fn (cxOf CX0 P w K mg base N qual scope f cd A outer s H E0).nox (seOf N scope k) := ⟨rfl, rfl, S.nd, rfl, rfl, hgd, hr, fun _ _ => rfl, GL.bi, GL.gcd, GL.con, fun g t h l => ⟨fns g t h l⟩⟩
  exact ((snd_s (io := io) GL.good ok S.kind n).2 body).nox
theorem start_get {N : List Str} {vs : List V} {v : V} (h : (L2.start N vs)[0]? = some (some v)) : vs[0]? = some v := by
  unfold L2.start at h
  cases vs with
  | nil =>
    simp only [List.map_nil, List.nil_append, List.getElem?_replicate] at h
    split at h <;> cases h
  | cons x r => simpa using h
theorem fnG_of {k n : Nat} {f : Addr} {name qual fname : Str} {params : Arguments} {body : List Stmt} {scope : Scope} {dV kV doc pm cdv ct oc : Value} {an od : Option Addr} {osl : Array (Option Value)} {N : List Str} {s : FnS}
    (lk : K.lookup f = some ⟨oc, od, .func (PySem.W.fnOf name qual params body scope dV kV doc pm an cdv ct), osl⟩) (hcd : PySem.W.codeIn K cdv qual = true) (S : FnScope N s.ps scope) (GL : Glob T mg)
    (fns : ∀ g t, T.fns.lookup g = some t → t.lev ≤ k → FnW P w K mg base fn g t)
    (ref : ∀ os r, os.length = s.ps.length → fn fname os = some r → run fn s.io N.length (cSs T n (seOf N scope k) body) os = some r) :
    FnG P w K mg base (k + 1) f (PySem.W.fnOf name qual params body scope dV kV doc pm an cdv ct) s.ps (spF K fn fname s) := by
  refine ⟨fun A outer st H args us vs Q hgd hr e0 hb r hsp => ?_⟩
  obtain ⟨F, Z, os, res, g, hol, hf, c⟩ := hsp
  have hov : os.length = vs.length := by have := g.len; simpa using this
  have hvl : vs.length = s.ps.length := by rw [← hov]; exact hol
  have inK : K.In st.heap := e0.mod.kin.keeps fun b o e => (e0.bs b o e).1
  have noL : st.heap.NoLimit := e0.mod.nolimit.keeps fun b o e => (e0.bs b o e).1
  have kinds : ∀ y ∈ s.ps.zip us, scope.names.lookup y.1 = some .local ∨ (scope.names.lookup y.1 = some .cell ∧ ((cellsFrom (st.heap.objs.size + 1) scope.names []).lookup y.1).isSome = true) := by
    rintro ⟨nm, v⟩ hy
    exact (S.par nm (List.of_mem_zip hy).1).imp id fun q => ⟨q, PySem.W.cellsFrom_some _ _ _ (.inl q)⟩
  refine codeAny_call_function hr.depth (inK _ _ lk) rfl S.co S.gen rfl (PySem.W.codeRec_of inK hcd) (hb _ _ _ _ ?_)
  refine wpAny_newFunctionEnv_cells S.kind kinds fun env he s1 x => ?_
  subst he
  refine ⟨noL.keeps x.toInCall.keep, codeAny_func ?_⟩
  have hbody := body_ok (P := P) (w := w) (K := K) (base := base) (fn := fn) (n := n) (outer := outer) (s := st) (H := H) (qual := qual) (f := f) (cd := cdv) GL S hgd (hr.deeper (envOfC qual scope st.heap.objs.size f cdv)) fns s.io body
  have I := inv_start (CX := CX0) (E := E0) (outer := outer) S hr.hd e0 hvl r x
  have fin : ∀ {s' : Shared} {σ' : L2.St} {H' : Hp} {v : V} {u : Value}, Inv (cxOf CX0 P w K mg base N qual scope f cdv A outer st H E0) [] σ' H' s' → RelV v u → Q v H' → CE outer P w H st Q u s' :=
    fun J rv q => ⟨_, _, J.os, J.bare, J.base, J.hok, rv, q⟩
  have hD : tS K s.io (evSs fn s.io (cSs T n (seOf N scope k) body)) { nx := fun _ H' => Q .non H', rt := Q } (L2.start N vs) H := by
    have hrun := ref os res hol hf
    have g0 := g.pad (N.length - vs.length)
    unfold run at hrun
    rw [hov] at hrun
    split at hrun
    · rename_i o ρ' ho
      refine ⟨F, Z, _, _, g0, ho, ?_⟩
      intro v σ' H' F' l e g' h0 ro nz
      cases hio : s.io with
      | false =>
        rw [hio, if_neg Bool.false_ne_true] at hrun
        cases hrun
        exact c v H' F' l e (by rw [hio]; exact g'.noslots) ro nz
      | true =>
        rw [hio, if_pos rfl] at hrun
        simp only [Option.map_eq_some_iff] at hrun
        obtain ⟨x, hx, hrun⟩ := hrun
        subst hrun
        obtain ⟨v0, l0, k0, _⟩ := g'.get (join_some hx)
        have k1 := start_get ((h0 hio).symm.trans k0)
        refine c v H' F' l e ?_ ro nz
        rw [hio, if_pos rfl, if_pos rfl]
        have : (vs.take 1).map some = [some v0] := by
          cases vs with
          | nil => cases k1
          | cons y r => simp at k1; subst k1; rfl
        rw [this]
        exact g'.first (join_some hx) k0
    · rename_i ρ' ho
      refine ⟨F, Z, _, _, g0, ho, ?_⟩
      intro σ' H' F' e g' h0
      cases hio : s.io with
      | false =>
        rw [hio, if_neg Bool.false_ne_true] at hrun
        cases hrun
        exact c .non H' F' [] e (by rw [hio]; exact g'.nil.noslots) (.sh .non) (fun _ h => by simp at h)
      | true =>
        rw [hio, if_pos rfl] at hrun
        simp only [Option.map_eq_some_iff] at hrun
        obtain ⟨x, hx, hrun⟩ := hrun
        subst hrun
        obtain ⟨v0, l0, k0, _⟩ := g'.get (join_some hx)
        have k1 := start_get ((h0 hio).symm.trans k0)
        refine c .non H' F' [] e ?_ (.sh .non) (fun _ h => by simp at h)
        rw [hio, if_pos rfl, if_pos rfl]
        have : (vs.take 1).map some = [some v0] := by
          cases vs with
          | nil => cases k1
          | cons y r => simp at k1; subst k1; rfl
        rw [this]
        exact g'.nil.first (join_some hx) k0
    · cases hrun
  refine wpAny_mono (hbody.run [] s1 (L2.start N vs) H _ I hD) (fun fl s' hs => ?_) fun e s' hs => hs
  cases fl with
  | ret u => exact let ⟨_, _, _, J, rv, q⟩ := hs; fin J rv q
  | next => exact let ⟨_, _, J, q⟩ := hs; fin (v := V.non) (u := Value.none) J rfl q
  | brk => exact let ⟨_, _, _, q⟩ := hs; q.elim
  | cont => exact let ⟨_, _, _, q⟩ := hs; q.elim
end
end Vx

/-! Vx, part L: the law's own def, called on the script. -/
namespace Vx
open PySem L2 RZ PySem.Spec PyProof.Rows
section
variable {P : Program} {w : World} {K : PySem.W.Frag} {mg mb : Str → Option Value} {fn : Fn}
/-- the law's def, called -/
theorem law_g {k : Nat} {fa a : Addr} {fd : FuncData} {x f : Str} {s₁ : Shared} {vs : List Value} {ns : List Int} {s : FnS} (hps : s.ps = [x]) (hio : s.io = false) (hfn : ∃ u, fn f [.scr ns] = some (.sh (.bool true), u))
    (inK : K.In s₁.heap) (gN : s₁.heap.Ns mainGlobals mg) (bN : s₁.heap.Ns builtinsNs mb) (bB : ∀ x : Str, x ≠ "__name__" → mb x = bootBuiltins x) (noL : s₁.heap.NoLimit) (noG : s₁.gens = #[])
    (hobj : s₁.heap.get? a = some { cls := .type "list", data := .seq vs.toArray }) (hints : IntsAre vs ns) (hsz : ns.length ≤ sizeLine) (room : Room k callerA)
    (FF : ∀ base : Heap, K.In base → base.Ns mainGlobals mg → FnG P w K mg base k fa fd s.ps (spF K fn f s)) (bnd : ∀ (h : Shared) (u : Value), BindsTo h fd ⟨[u], []⟩ [(x, u)]) :
    codeAny (model P w) callerA (.call (.ref fa) ⟨[.ref a], []⟩) (fun r s' => r = .ok (.ret (.bool true)) ∧ OldK s₁.heap s'.heap ∧ s'.os = s₁.os ∧ AllBare s'.gens) s₁ := by
  have vv := vals_ints hints
  have vl := hints.length
  obtain ⟨uu, hfn⟩ := hfn
  -- whichever abstract heap: nothing but the script may stand in it, and that only to be read
  have main : ∀ (H : Hp) (Fz : AS), (∀ b, H b = none ∨ ∃ o xs, H b = some (.frz o (.lst xs))) → (∀ b, Fz b → H b ≠ none) → RepO K Fz H (.scr ns) (.ref a) [] → HOk P w H s₁.heap → (∀ b, H b ≠ none → b = a ∧ K.lookup a = none) →
      codeAny (model P w) callerA (.call (.ref fa) ⟨[.ref a], []⟩) (fun r s' => r = .ok (.ret (.bool true)) ∧ OldK s₁.heap s'.heap ∧ s'.os = s₁.os ∧ AllBare s'.gens) s₁ := by
    intro H Fz only al rep hok own
    have dictFree : ∀ {b : Addr} {o : Obj} {es : Array DictEntry} {ep : Nat}, s₁.heap.get? b = some o → o.data = .dict es ep → H b = none := fun {b o es ep} e d => by
      by_cases q : H b = none
      · exact q
      · have := (own b q).1
        subst this
        rw [hobj] at e
        cases e
        cases d
    have nsH : ∀ {b : Addr} {m : Str → Option Value}, s₁.heap.Ns b m → (hidT s₁.heap H).Ns b m := by
      rintro b m ⟨o, es, ep, e, d, r⟩
      exact ⟨o, es, ep, hidT_get e (dictFree e d), d, r⟩
    have kH : K.In (hidT s₁.heap H) := fun b o e => by
      refine hidT_get (inK b o e) ?_
      by_cases q : H b = none
      · exact q
      · obtain ⟨rfl, z⟩ := own b q
        rw [z] at e
        cases e
    have md : Mod K mg (hidT s₁.heap H) := by
      obtain ⟨mc, c1, c2⟩ := noL
      exact ⟨kH, nsH gN, ⟨mb, nsH bN, bB⟩, mc, nsH c1, c2⟩
    have env : Env0 P w K mg (hidT s₁.heap H) callerA [] s₁ H := ⟨rfl, md, fun b o => of_hidT, Nat.le_of_eq (hidT_size _ _), trivial, fun b hb => by simp [frs] at hb, hok, .of_eq noG⟩
    have good : Good K Fz (fun _ => False) H [some (.scr ns)] [some (.ref a)] :=
      Good.cons (l := []) ((Good.empty al (fun _ _ h => h) (fun _ h => h.elim)).nil) rep fun _ h => by simp at h
    have run := (FF _ kH (nsH gN)).run callerA [] s₁ H ⟨[.ref a], []⟩ [.ref a] [.ref a] (fun v _ => v = .bl true) rfl room env (by rw [hps]; exact bnd s₁ (.ref a)) (.cons rfl .nil)
      ⟨Fz, _, [.scr ns], _, good, by rw [hps]; rfl, hfn, fun v H' F' l _ _ r _ => r.bool_.1⟩
    refine codeAny_mono run fun r s' h => ?_
    match r, h with
    | .ok (.ret u), h =>
      obtain ⟨v, H', hos, hbare, un, hok', rv, q⟩ := h
      have q : v = .bl true := q
      subst q
      have rv : u = Value.bool true := rv
      subst rv
      refine ⟨rfl, OldK.of_keep fun b o e => ?_, hos, hbare⟩
      by_cases q : H b = none
      · exact un.keep b o e q (by simp [frs]) (by simp)
      · rcases only b with z | ⟨ob, xs, z⟩
        · exact (q z).elim
        · have t1 := (hok b _ z).1
          have t2 := (hok' b _ (un.frzs b ob _ z)).1
          rw [e] at t1
          cases t1
          exact t2
    | .ok .next, h => exact False.elim h
    | .ok .brk, h => exact False.elim h
    | .ok .cont, h => exact False.elim h
    | .error e, h => exact False.elim h
  by_cases hk : ∃ o, K.lookup a = some o
  · obtain ⟨o, hk⟩ := hk
    have e := inK a o hk
    rw [hobj] at e
    cases e
    exact main (fun _ => none) (fun _ => False) (fun _ => .inl rfl) (fun _ h => h.elim) (.scrK hk rfl rfl rfl (by rw [List.size_toArray, vl]; exact hsz) (by simpa using vv)) (fun b u z => by cases (show (none : Option HO) = some u from z)) fun b z => (z rfl).elim
  · have hk0 : K.lookup a = none := by
      cases q : K.lookup a with
      | none => rfl
      | some o => exact (hk ⟨o, q⟩).elim
    let Hs : Hp := fun b => if b = a then some (.frz { cls := .type "list", data := .seq vs.toArray } (.lst (ns.map V.int))) else none
    have Ha : Hs a = some (.frz { cls := .type "list", data := .seq vs.toArray } (.lst (ns.map V.int))) := if_pos rfl
    have Hn : ∀ b, b ≠ a → Hs b = none := fun b h => if_neg h
    refine main Hs (fun b => b = a) (fun b => ?_) (fun b h => by rw [h, Ha]; simp) (.scr rfl Ha) (fun b u z => ?_) (fun b z => ?_)
    · by_cases hb : b = a
      · rw [hb, Ha]; exact .inr ⟨_, _, rfl⟩
      · exact .inl (Hn b hb)
    · by_cases hb : b = a
      · subst hb
        rw [Ha] at z
        cases z
        exact ⟨hobj, by rw [List.length_map]; exact hsz, vs, _, vv, hobj⟩
      · rw [Hn b hb] at z
        cases z
    · by_cases hb : b = a
      · exact ⟨hb, hk0⟩
      · exact (z (Hn b hb)).elim
end
/-- what k_head leaves, from the defs -/
theorem walk_g {l : PySem.W.OpenLaw} {n k : Nat} {q : Program} {loose : List Str} {XP : (Str → Option Value) → Heap → Prop} {YP : World → Heap → Prop} {d : DefRec} {K : Params → PySem.W.Frag} {x f : Str} {s : FnS} {fn : Fn}
    (hn : l.most = some n) (hn2 : n ≤ sizeLine) (hdf : d.params.defaults = []) (room : Room k callerA) (hps : s.ps = [x]) (hio : s.io = false) (hfn : ∀ ns : List Int, ns.length ≤ n → ∃ u, fn f [.scr ns] = some (.sh (.bool true), u))
    (hY : ∀ (w : World) (h : Heap), YP w h → (K w.params).In h)
    (FF : ∀ (w : World) (mg : Str → Option Value) (fa : Addr) (h : Heap), (K w.params).In h → h.Ns mainGlobals mg → mg d.name = some (.ref fa) →
      ∃ fd : FuncData, (∀ (h : Shared) (u : Value), BindsTo h fd ⟨[u], []⟩ [(x, u)]) ∧ ∀ base : Heap, (K w.params).In base → base.Ns mainGlobals mg → FnG l.prog w (K w.params) mg base k fa fd s.ps (spF (K w.params) fn f s)) :
    PySem.W.WalkO q loose XP YP l.row.toRowW d [] (fun f vs => PySem.call f vs) := by
  refine Att.attach_call hn hdf fun w s₀ s₁ mg mb fa o pm cd doc a vs ns G Y ho hd hcd hmg hobj hints hlen hg => ?_
  have KX := hY w _ Y
  obtain ⟨fd, hb, hF⟩ := FF w mg fa _ KX G.T.g hmg
  exact law_g hps hio (hfn ns hlen) KX G.T.g G.T.b G.T.builtins G.T.nolimit hg hobj hints (Nat.le_trans hlen hn2) room hF hb
end Vx

/-! Vx, part M: all defs of a text. -/
namespace Vx
open PySem L2 RZ
/-- what is said of a def by its text alone -/
structure DefS (T : Tab) (fn : Fn) (g : Str) (t : FnS) (st : Stmt) (nm qual : Str) (N : List Str) (n : Nat) : Prop where
  sc : FnScope N t.ps (defScope st)
  lev : 1 ≤ t.lev
  bnd : ∀ (kV doc pm : Value) (an : Option Addr) (cdv ct : Value) (us : List Value), us.length = t.ps.length → bindArgs (PySem.W.fnOf nm qual (defArgs st) (defBody st) (defScope st) .none kV doc pm an cdv ct) ⟨us, []⟩ = pure (t.ps.zip us)
  kwb : ∀ k ∈ t.kws, ∀ (kV doc pm : Value) (an : Option Addr) (cdv ct : Value) (us ws : List Value), us.length = k.npos → ws.length = k.ks.length → ∃ zs, zs.map some = k.perm.map (fun i => (us ++ ws)[i]?) ∧ zs.length = t.ps.length ∧
    bindArgs (PySem.W.fnOf nm qual (defArgs st) (defBody st) (defScope st) .none kV doc pm an cdv ct) ⟨us, k.ks.zip ws⟩ = pure (t.ps.zip zs)
  ref : ∀ os r, os.length = t.ps.length → fn g os = some r → run fn t.io N.length (cSs T n (seOf N (defScope st) (t.lev - 1)) (defBody st)) os = some r
theorem hv {p q : Prop} (h : p) (k : p → q) : q := k h
/-- a def as it lies in the written part -/
structure DefK (K : PySem.W.Frag) (mg : Str → Option Value) (g : Str) (st : Stmt) (nm qual : Str) : Prop where
  ex : ∃ (a : Addr) (fd : FuncData), mg g = some (.ref a) ∧ L2.Fun K nm qual st a fd
theorem defK_mk {K : PySem.W.Frag} {h : Heap} {mg : Str → Option Value} {g nm qual : Str} {st : Stmt} {f : Addr} {oc : Value} {od an : Option Addr} {osl : Array (Option Value)} {kV doc pm cdv ct : Value} (X : K.In h) (G : h.Ns mainGlobals mg)
    (a : PySem.W.nsIn K mainGlobals g = some (some (.ref f))) (l : K.lookup f = some ⟨oc, od, .func (PySem.W.fnOf nm qual (defArgs st) (defBody st) (defScope st) .none kV doc pm an cdv ct), osl⟩)
    (c : PySem.W.codeIn K cdv qual = true) (k : PySem.W.keepIn K (.ref f) = true) : DefK K mg g st nm qual := ⟨f, _, PySem.W.mg_of X G a, fun_mk l c k⟩
section
variable {P : Program} {w : World} {K : PySem.W.Frag} {mg : Str → Option Value} {base : Heap} {T : Tab} {fn : Fn}
theorem def_ok {k : Nat} {g nm qual : Str} {t : FnS} {st : Stmt} {N : List Str} {n : Nat} {a : Addr} {fd : FuncData} (GL : Glob T mg) (S : DefS T fn g t st nm qual N n) (Fu : L2.Fun K nm qual st a fd) (hl : t.lev ≤ k + 1)
    (low : ∀ g' t', T.fns.lookup g' = some t' → t'.lev ≤ k → FnW P w K mg base fn g' t') : FnG P w K mg base t.lev a fd t.ps (spF K fn g t) ∧ (∀ (h : Shared) (us : List Value), us.length = t.ps.length → BindsTo h fd ⟨us, []⟩ (t.ps.zip us)) ∧
    ∀ k ∈ t.kws, ∀ (h : Shared) (us ws : List Value), us.length = k.npos → ws.length = k.ks.length → ∃ zs, zs.map some = k.perm.map (fun i => (us ++ ws)[i]?) ∧ zs.length = t.ps.length ∧ BindsTo h fd ⟨us, k.ks.zip ws⟩ (t.ps.zip zs) := by
  obtain ⟨oc, od, kV, doc, pm, an, cdv, ct, osl, rfl, lk, hcd⟩ := Fu.ex
  have lev := S.lev
  have G := fnG_of (P := P) (w := w) (base := base) lk hcd S.sc GL (k := t.lev - 1) (fun g' t' h' hl' => low g' t' h' (by omega)) (fun os r ho hf => S.ref os r ho hf)
  have e : t.lev - 1 + 1 = t.lev := by omega
  rw [e] at G
  refine ⟨G, fun h us hu => .of_eq (S.bnd _ _ _ _ _ _ us hu), fun k hk h us ws h1 h2 => ?_⟩
  obtain ⟨zs, z1, z2, z3⟩ := S.kwb k hk kV doc pm an cdv ct us ws h1 h2
  exact ⟨zs, z1, z2, .of_eq z3⟩
theorem defs_ok (GL : Glob T mg) (defs : ∀ g t, T.fns.lookup g = some t → ∃ st nm qual N n, DefS T fn g t st nm qual N n ∧ DefK K mg g st nm qual) : ∀ k g t, T.fns.lookup g = some t → t.lev ≤ k → FnW P w K mg base fn g t
  | 0, g, t, h, hl => by
    obtain ⟨st, nm, qual, N, n, S, _⟩ := defs g t h
    exact absurd S.lev (by omega)
  | k + 1, g, t, h, hl => by
    obtain ⟨st, nm, qual, N, n, S, D⟩ := defs g t h
    obtain ⟨a, fd, ha, Fu⟩ := D.ex
    obtain ⟨h1, h2, h3⟩ := def_ok (P := P) (w := w) (base := base) GL S Fu hl (fun g' t' h' hl' => defs_ok GL defs k g' t' h' hl')
    exact ⟨a, fd, ha, Fu.kp, h1, h2, h3⟩
/-- the law's own def, over every base -/
theorem law_ok {g x : Str} {t : FnS} {fa : Addr} (GL : Glob T mg) (defs : ∀ g t, T.fns.lookup g = some t → ∃ st nm qual N n, DefS T fn g t st nm qual N n ∧ DefK K mg g st nm qual) (hg : T.fns.lookup g = some t) (hps : t.ps = [x]) (hfa : mg g = some (.ref fa)) :
    ∃ fd : FuncData, (∀ (h : Shared) (u : Value), BindsTo h fd ⟨[u], []⟩ [(x, u)]) ∧ ∀ base : Heap, FnG P w K mg base t.lev fa fd t.ps (spF K fn g t) := by
  obtain ⟨st, nm, qual, N, n, S, D⟩ := defs g t hg
  obtain ⟨a, fd, ha, Fu⟩ := D.ex
  rw [hfa] at ha
  cases ha
  have key := fun base => def_ok (P := P) (w := w) (base := base) GL S Fu (k := t.lev) (by omega) (fun g' t' h' hl' => defs_ok GL defs t.lev g' t' h' hl')
  refine ⟨fd, fun h u => ?_, fun base => (key base).1⟩
  have := (key default).2.1 h [u] (by rw [hps]; rfl)
  rw [hps] at this
  exact this
end
end Vx

/-! Vx, part N: more known of the defs, more comes out. -/
namespace Vx
open PySem L2
/-- what comes out of the one comes out of the other -/
def Sub {α : Type} (x y : Option α) : Prop := ∀ a, x = some a → y = some a
theorem Sub.rfl {α : Type} {x : Option α} : Sub x x := fun _ h => h
theorem Sub.bind {α β : Type} {x y : Option α} {f g : α → Option β} (h : Sub x y) (k : ∀ a, Sub (f a) (g a)) : Sub (x.bind f) (y.bind g) := fun b e => by
  rw [Option.bind_eq_some_iff] at e ⊢
  obtain ⟨a, h1, h2⟩ := e
  exact ⟨a, h a h1, k a b h2⟩
theorem Sub.map {α β : Type} {x y : Option α} {f : α → β} (h : Sub x y) : Sub (x.map f) (y.map f) := fun b e => by
  rw [Option.map_eq_some_iff] at e ⊢
  obtain ⟨a, h1, h2⟩ := e
  exact ⟨a, h a h1, h2⟩
theorem Sub.none {α : Type} {y : Option α} : Sub Option.none y := fun _ h => by cases h
def FLe (F F' : Fn) : Prop := ∀ f os, Sub (F f os) (F' f os)
theorem compGo_sub {own : List Nat} {tg : Ev → D → Option Ev} {c c' : Ev → Option (Bool × Ev)} {el el' : Ev → Option (O × Ev)} (hc : ∀ ρ, Sub (c ρ) (c' ρ)) (he : ∀ ρ, Sub (el ρ) (el' ρ)) : ∀ (ds : List D) (ρ : Ev) (acc : List D), Sub (compGo own tg c el ds ρ acc) (compGo own tg c' el' ds ρ acc)
  | [], ρ, acc => Sub.rfl
  | d :: ds, ρ, acc => by
    unfold compGo
    refine Sub.bind Sub.rfl fun ρ1 => Sub.bind (hc _) fun r => ?_
    split
    · refine Sub.bind (he _) fun q => Sub.bind Sub.rfl fun x => ?_
      split
      · exact compGo_sub hc he ds _ _
      · exact Sub.rfl
    · exact compGo_sub hc he ds _ _
theorem forGo_sub {tg : Ev → D → Option Ev} {b b' : Ev → Option Out} (hb : ∀ ρ, Sub (b ρ) (b' ρ)) : ∀ (ds : List D) (ρ : Ev), Sub (forGo tg b ds ρ) (forGo tg b' ds ρ)
  | [], ρ => Sub.rfl
  | d :: ds, ρ => by
    unfold forGo
    refine Sub.bind Sub.rfl fun ρ1 => Sub.bind (hb _) fun r => ?_
    cases r with
    | nx ρ => exact forGo_sub hb ds _
    | ct ρ => exact forGo_sub hb ds _
    | bk ρ => exact Sub.rfl
    | rt o ρ => exact Sub.rfl
theorem whileGo_sub {c c' : Ev → Option (Bool × Ev)} {b b' : Ev → Option Out} (hc : ∀ ρ, Sub (c ρ) (c' ρ)) (hb : ∀ ρ, Sub (b ρ) (b' ρ)) : ∀ (n : Nat) (ρ : Ev), Sub (whileGo c b n ρ) (whileGo c' b' n ρ)
  | 0, ρ => Sub.rfl
  | n + 1, ρ => by
    unfold whileGo
    refine Sub.bind (hc _) fun q => ?_
    split
    · refine Sub.bind (hb _) fun r => ?_
      cases r with
      | nx ρ => exact whileGo_sub hc hb n _
      | ct ρ => exact whileGo_sub hc hb n _
      | bk ρ => exact Sub.rfl
      | rt o ρ => exact Sub.rfl
    · exact Sub.rfl
section
variable {F F' : Fn}
mutual
theorem evE_sub (h : FLe F F') : ∀ (e : E) (ρ : Ev), Sub (evE F e ρ) (evE F' e ρ)
  | .con d, ρ => by simp only [evE]; exact Sub.rfl
  | .var i, ρ => by simp only [evE]; exact Sub.rfl
  | .mv i, ρ => by simp only [evE]; exact Sub.rfl
  | .op1 p a, ρ => by simp only [evE]; exact Sub.bind (evA_sub h a ρ) fun _ => Sub.rfl
  | .op2 p a b, ρ => by simp only [evE]; exact Sub.bind (evA_sub h a ρ) fun _ => Sub.bind (evA_sub h b _) fun _ => Sub.rfl
  | .slice a lo hi, ρ => by simp only [evE]; exact Sub.bind (evA_sub h a ρ) fun _ => Sub.bind (evOE_sub h lo _) fun _ => Sub.bind (evOE_sub h hi _) fun _ => Sub.rfl
  | .tup es, ρ => by simp only [evE]; exact Sub.bind (evL_sub h es ρ) fun _ => Sub.rfl
  | .lst es, ρ => by simp only [evE]; exact Sub.bind (evL_sub h es ρ) fun _ => Sub.rfl
  | .call f es, ρ => by simp only [evE]; exact Sub.bind (evL_sub h es ρ) fun _ => Sub.map (h _ _)
  | .callK f p es ks, ρ => by simp only [evE]; exact Sub.bind (evL_sub h es ρ) fun _ => Sub.bind (evL_sub h ks _) fun _ => Sub.bind Sub.rfl fun _ => Sub.map (h _ _)
  | .callIO f i es, ρ => by
    simp only [evE]
    split
    · exact Sub.bind (evL_sub h es ρ) fun _ => Sub.bind Sub.rfl fun _ => Sub.map (h _ _)
    · exact Sub.rfl
  | .ite c a b, ρ => by
    simp only [evE]
    refine Sub.bind (evT_sub h c ρ) fun r => ?_
    split
    · exact evE_sub h a _
    · exact evE_sub h b _
  | .andV a b, ρ => by
    simp only [evE]
    refine Sub.bind (evE_sub h a ρ) fun r => ?_
    split
    · split
      · exact evE_sub h b _
      · exact Sub.rfl
    · exact Sub.rfl
  | .orV a b, ρ => by
    simp only [evE]
    refine Sub.bind (evE_sub h a ρ) fun r => ?_
    split
    · split
      · exact Sub.rfl
      · exact evE_sub h b _
    · exact Sub.rfl
  | .comp own g it c e, ρ => by
    simp only [evE]
    exact Sub.bind (evI_sub h it ρ) fun r => Sub.map (compGo_sub (fun ρ => evT_sub h c ρ) (fun ρ => evE_sub h e ρ) _ _ _)
  | .chain p q a b c, ρ => by
    simp only [evE]
    refine Sub.bind (evA_sub h a ρ) fun _ => Sub.bind (evA_sub h b _) fun _ => Sub.bind Sub.rfl fun _ => Sub.bind Sub.rfl fun _ => Sub.bind Sub.rfl fun r => ?_
    split
    · split
      · exact Sub.bind (evA_sub h c _) fun _ => Sub.rfl
      · exact Sub.rfl
    · exact Sub.rfl
  | .dnew, ρ => by simp only [evE]; exact Sub.rfl
  | .dget i k e, ρ => by
    simp only [evE]
    split
    · exact Sub.bind (evE_sub h k ρ) fun _ => Sub.bind (evE_sub h e _) fun _ => Sub.rfl
    · exact Sub.rfl
  | .index i e, ρ => by
    simp only [evE]
    split
    · exact Sub.bind (evE_sub h e ρ) fun _ => Sub.rfl
    · exact Sub.rfl
  | .lock i e, ρ => by
    simp only [evE]
    refine Sub.bind Sub.rfl fun x => ?_
    split
    · exact Sub.bind (evE_sub h e _) fun _ => Sub.rfl
    · exact Sub.rfl
theorem evA_sub (h : FLe F F') : ∀ (a : A) (ρ : Ev), Sub (evA F a ρ) (evA F' a ρ)
  | .pk i, ρ => by simp only [evA]; exact Sub.rfl
  | .ex e, ρ => by simp only [evA]; exact Sub.map (evE_sub h e ρ)
theorem evL_sub (h : FLe F F') : ∀ (es : EL) (ρ : Ev), Sub (evL F es ρ) (evL F' es ρ)
  | .nil, ρ => by simp only [evL]; exact Sub.rfl
  | .cons e r, ρ => by simp only [evL]; exact Sub.bind (evE_sub h e ρ) fun _ => Sub.map (evL_sub h r _)
theorem evOE_sub (h : FLe F F') : ∀ (o : OE) (ρ : Ev), Sub (evOE F o ρ) (evOE F' o ρ)
  | .no, ρ => by simp only [evOE]; exact Sub.rfl
  | .yes e, ρ => by simp only [evOE]; exact Sub.bind (evE_sub h e ρ) fun _ => Sub.rfl
theorem evT_sub (h : FLe F F') : ∀ (t : T) (ρ : Ev), Sub (evT F t ρ) (evT F' t ρ)
  | .yes, ρ => by simp only [evT]; exact Sub.rfl
  | .val a, ρ => by simp only [evT]; exact Sub.bind (evA_sub h a ρ) fun _ => Sub.rfl
  | .cmp p a b, ρ => by simp only [evT]; exact Sub.bind (evA_sub h a ρ) fun _ => Sub.bind (evA_sub h b _) fun _ => Sub.rfl
  | .chain p q a b c, ρ => by
    simp only [evT]
    refine Sub.bind (evA_sub h a ρ) fun _ => Sub.bind (evA_sub h b _) fun _ => Sub.bind Sub.rfl fun _ => Sub.bind Sub.rfl fun _ => Sub.bind Sub.rfl fun r => ?_
    split
    · split
      · exact Sub.bind (evA_sub h c _) fun _ => Sub.rfl
      · exact Sub.rfl
    · exact Sub.rfl
  | .not a, ρ => by simp only [evT]; exact Sub.map (evT_sub h a ρ)
  | .and a b, ρ => by
    simp only [evT]
    refine Sub.bind (evT_sub h a ρ) fun r => ?_
    split
    · exact evT_sub h b _
    · exact Sub.rfl
  | .or a b, ρ => by
    simp only [evT]
    refine Sub.bind (evT_sub h a ρ) fun r => ?_
    split
    · exact Sub.rfl
    · exact evT_sub h b _
theorem evI_sub (h : FLe F F') : ∀ (i : I) (ρ : Ev), Sub (evI F i ρ) (evI F' i ρ)
  | .seq a, ρ => by simp only [evI]; exact Sub.bind (evE_sub h a ρ) fun _ => Sub.rfl
  | .range1 a, ρ => by simp only [evI]; exact Sub.bind (evE_sub h a ρ) fun _ => Sub.rfl
  | .range2 a b, ρ => by simp only [evI]; exact Sub.bind (evE_sub h a ρ) fun _ => Sub.bind (evE_sub h b _) fun _ => Sub.rfl
  | .zip a b, ρ => by simp only [evI]; exact Sub.bind (evE_sub h a ρ) fun _ => Sub.bind (evE_sub h b _) fun _ => Sub.rfl
  | .enum a, ρ => by simp only [evI]; exact Sub.bind (evE_sub h a ρ) fun _ => Sub.rfl
  | .items i, ρ => by simp only [evI]; exact Sub.rfl
end
variable {io : Bool}
mutual
theorem evTg_sub (h : FLe F F') : ∀ (t : Tg) (d : D) (ρ : Ev), Sub (evTg F io t d ρ) (evTg F' io t d ρ)
  | .nm i, d, ρ => by simp only [evTg]; exact Sub.rfl
  | .ix i k, d, ρ => by
    simp only [evTg]
    split
    · exact Sub.bind (evE_sub h k ρ) fun _ => Sub.rfl
    · exact Sub.rfl
  | .tp ts, d, ρ => by
    cases d <;> simp only [evTg] <;> first | exact Sub.rfl | exact evTgs_sub h ts _ _
theorem evTgs_sub (h : FLe F F') : ∀ (t : TgL) (ds : List D) (ρ : Ev), Sub (evTgs F io t ds ρ) (evTgs F' io t ds ρ)
  | .nil, ds, ρ => by cases ds <;> simp only [evTgs] <;> exact Sub.rfl
  | .cons t r, ds, ρ => by
    cases ds <;> simp only [evTgs]
    · exact Sub.rfl
    · exact Sub.bind (evTg_sub h t _ ρ) fun _ => evTgs_sub h r _ _
end
mutual
theorem evS_sub (h : FLe F F') : ∀ (s : S) (ρ : Ev), Sub (evS F io s ρ) (evS F' io s ρ)
  | .pass, ρ => by simp only [evS]; exact Sub.rfl
  | .asg i e, ρ => by
    simp only [evS]
    split
    · exact Sub.map (evE_sub h e ρ)
    · exact Sub.rfl
  | .asgG t e, ρ => by simp only [evS]; exact Sub.bind (evE_sub h e ρ) fun _ => Sub.bind Sub.rfl fun _ => Sub.map (evTg_sub h t _ _)
  | .par i j a b, ρ => by
    simp only [evS]
    split
    · exact Sub.bind (evE_sub h a ρ) fun _ => Sub.map (evE_sub h b _)
    · exact Sub.rfl
  | .par3 i j k a b c, ρ => by
    simp only [evS]
    split
    · exact Sub.bind (evE_sub h a ρ) fun _ => Sub.bind (evE_sub h b _) fun _ => Sub.map (evE_sub h c _)
    · exact Sub.rfl
  | .aug i p e, ρ => by
    simp only [evS]
    split
    · exact Sub.bind (evE_sub h e ρ) fun _ => Sub.rfl
    · exact Sub.rfl
  | .append i e, ρ => by
    simp only [evS]
    split
    · exact Sub.bind (evE_sub h e ρ) fun _ => Sub.rfl
    · exact Sub.rfl
  | .lock i s, ρ => by
    simp only [evS]
    refine Sub.bind Sub.rfl fun x => ?_
    split
    · exact Sub.bind (evS_sub h s _) fun _ => Sub.rfl
    · exact Sub.rfl
  | .extend i e, ρ => by
    simp only [evS]
    split
    · exact Sub.bind (evE_sub h e ρ) fun _ => Sub.rfl
    · exact Sub.rfl
  | .insert i k e, ρ => by
    simp only [evS]
    split
    · exact Sub.bind (evE_sub h k ρ) fun _ => Sub.bind (evE_sub h e _) fun _ => Sub.rfl
    · exact Sub.rfl
  | .pop i, ρ => by simp only [evS]; exact Sub.rfl
  | .expr e, ρ => by simp only [evS]; exact Sub.map (evE_sub h e ρ)
  | .ite c a b, ρ => by
    simp only [evS]
    refine Sub.bind (evT_sub h c ρ) fun r => ?_
    split
    · exact evSs_sub h a _
    · exact evSs_sub h b _
  | .for g it b, ρ => by
    simp only [evS]
    refine Sub.bind (evI_sub h it ρ) fun r => ?_
    split
    · exact forGo_sub (fun ρ => evSs_sub h b ρ) _ _
    · exact Sub.rfl
  | .while c b, ρ => by simp only [evS]; exact whileGo_sub (fun ρ => evT_sub h c ρ) (fun ρ => evSs_sub h b ρ) _ _
  | .ret e, ρ => by simp only [evS]; exact Sub.map (evE_sub h e ρ)
  | .brk, ρ => by simp only [evS]; exact Sub.rfl
  | .cont, ρ => by simp only [evS]; exact Sub.rfl
  | .never, ρ => by simp only [evS]; exact Sub.rfl
theorem evSs_sub (h : FLe F F') : ∀ (s : SL) (ρ : Ev), Sub (evSs F io s ρ) (evSs F' io s ρ)
  | .nil, ρ => by simp only [evSs]; exact Sub.rfl
  | .cons s r, ρ => by
    simp only [evSs]
    refine Sub.bind (evS_sub h s ρ) fun o => ?_
    cases o <;> first | exact Sub.rfl | exact evSs_sub h r _
end
theorem run_sub (h : FLe F F') (io : Bool) (n : Nat) (b : SL) (os : List O) : Sub (run F io n b os) (run F' io n b os) := by
  intro r e
  unfold run at e ⊢
  split at e
  · rename_i o ρ q
    rw [evSs_sub h b _ _ q]
    exact e
  · rename_i ρ q
    rw [evSs_sub h b _ _ q]
    exact e
  · cases e
end
/-- the defs by levels, from their texts -/
abbrev Code := List (Str × (Bool × Nat × SL))
def fnL (c : Code) : Nat → Fn
  | 0 => fun _ _ => none
  | k + 1 => fun f os => (c.lookup f).bind fun x => run (fnL c k) x.1 x.2.1 x.2.2 os
theorem fnL_step (c : Code) : ∀ k, FLe (fnL c k) (fnL c (k + 1))
  | 0 => fun _ _ => Sub.none
  | k + 1 => fun f os => by
    show Sub ((c.lookup f).bind _) ((c.lookup f).bind _)
    exact Sub.bind Sub.rfl fun x => run_sub (fnL_step c k) _ _ _ _
/-- so each def does as its text says -/
theorem fnL_ref {c : Code} {k : Nat} {f : Str} {x : Bool × Nat × SL} (hx : c.lookup f = some x) (os : List O) (r : O × O) (h : fnL c (k + 1) f os = some r) : run (fnL c (k + 1)) x.1 x.2.1 x.2.2 os = some r := by
  have h : ((c.lookup f).bind fun x => run (fnL c k) x.1 x.2.1 x.2.2 os) = some r := h
  rw [hx] at h
  exact run_sub (fnL_step c k) _ _ _ _ _ h
theorem fnL_eq {c : Code} {k : Nat} {f : Str} {x : Bool × Nat × SL} (hx : c.lookup f = some x) (os : List O) : fnL c (k + 1) f os = run (fnL c k) x.1 x.2.1 x.2.2 os := by
  show ((c.lookup f).bind fun x => run (fnL c k) x.1 x.2.1 x.2.2 os) = _
  rw [hx]
  rfl
end Vx

/-! Vx, part Q: for the plain part: repr, ranges, loops. -/
namespace Vx
open PySem L2

/-! ### repr -/
mutual
/-- data whose text is short enough to count -/
def fine : PyData → Bool
  | .none => true
  | .bool _ => true
  | .int i => decide (i.natAbs < 10 ^ 40)
  | .list xs => fineL xs
  | .tuple xs => fineL xs
  | _ => false
def fineL : List PyData → Bool
  | [] => true
  | x :: r => fine x && fineL r
end
mutual
def szD : PyData → Nat
  | .list xs => szL xs + 3
  | .tuple xs => szL xs + 3
  | _ => 42
def szL : List PyData → Nat
  | [] => 0
  | x :: r => szD x + 2 + szL r
end
theorem listText_le (ts : List Str) : (listText ts).length ≤ piled ts + 2 := by
  cases ts with
  | nil => show 2 ≤ _; omega
  | cons t r =>
    have e : (listText (t :: r)) = textFrom 1 ((("[" : String) : Str) ++ (("" : String) : Str) ++ t) r ++ (("]" : String) : Str) := rfl
    rw [e, strLen_append, textFrom_length_pos _ _ _ (by decide), strLen_append, strLen_append, piled_cons]
    have e1 : (("[" : String) : Str).length = 1 := rfl
    have e2 : (("" : String) : Str).length = 0 := rfl
    have e3 : (("]" : String) : Str).length = 1 := rfl
    omega
theorem tupleText_le (ts : List Str) : (tupleText ts).length ≤ piled ts + 3 := by
  unfold tupleText
  rw [strLen_append, strLen_append]
  have e1 : (("(" : String) : Str).length = 1 := rfl
  have e3 : (((if ts.length == 1 then ",)" else ")" : String) : Str)).length ≤ 2 := by split <;> decide
  rw [e1]
  by_cases h : ts = []
  · subst h
    have : (Str.join ", " ([] : List Str)).length = 0 := rfl
    omega
  · have := join_length_add ts h
    omega
mutual
theorem fine_len : ∀ d : PyData, fine d = true → d.shown.length ≤ szD d
  | .none, _ => by rw [PyData.shown.eq_1]; decide
  | .bool b, _ => by rw [PyData.shown.eq_2]; cases b <;> decide
  | .int i, h => by
    rw [PyData.shown.eq_3, ofString_length]
    have := int_text_length_le10 (a := i) (k := 40) (by decide) (of_decide_eq_true (by simpa only [fine] using h))
    show _ ≤ 42
    omega
  | .list xs, h => by
    rw [PyData.shown.eq_5]
    have := fine_lenL xs (by simpa only [fine] using h)
    have := listText_le (PyData.shownAll xs)
    simp only [szD]
    omega
  | .tuple xs, h => by
    rw [PyData.shown.eq_6]
    have := fine_lenL xs (by simpa only [fine] using h)
    have := tupleText_le (PyData.shownAll xs)
    simp only [szD]
    omega
  | .str _, h => by simp [fine] at h
  | .dict _, h => by simp [fine] at h
theorem fine_lenL : ∀ ds : List PyData, fineL ds = true → piled (PyData.shownAll ds) ≤ szL ds
  | [], _ => by rw [PyData.shownAll.eq_1]; exact Nat.le_refl _
  | d :: r, h => by
    simp only [fineL, Bool.and_eq_true] at h
    rw [PyData.shownAll.eq_2, piled_cons]
    have := fine_len d h.1
    have := fine_lenL r h.2
    simp only [szL]
    omega
end
mutual
theorem fine_lay : ∀ d : PyData, fine d = true → d.canLay0 = true ∧ d.showable = true
  | .none, _ => ⟨rfl, rfl⟩
  | .bool b, _ => ⟨rfl, rfl⟩
  | .int i, h => by
    refine ⟨rfl, ?_⟩
    rw [PyData.showable.eq_4]
    have h : i.natAbs < 10 ^ 40 := of_decide_eq_true (by simpa only [fine] using h)
    refine decide_eq_true ?_
    by_cases h0 : i.natAbs = 0
    · rw [h0]; decide
    · exact (Nat.log2_lt h0).mpr (Nat.lt_of_lt_of_le h (by decide +kernel))
  | .list xs, h => by
    rw [PyData.canLay0.eq_5, PyData.showable.eq_5]
    exact fine_layL xs (by simpa only [fine] using h)
  | .tuple xs, h => by
    rw [PyData.canLay0.eq_6, PyData.showable.eq_6]
    exact fine_layL xs (by simpa only [fine] using h)
  | .str _, h => by simp [fine] at h
  | .dict _, h => by simp [fine] at h
theorem fine_layL : ∀ ds : List PyData, fineL ds = true → PyData.canLayAll0 ds = true ∧ PyData.showableAll ds = true
  | [], _ => ⟨rfl, rfl⟩
  | d :: r, h => by
    simp only [fineL, Bool.and_eq_true] at h
    obtain ⟨a1, a2⟩ := fine_lay d h.1
    obtain ⟨b1, b2⟩ := fine_layL r h.2
    rw [PyData.canLayAll0.eq_2, PyData.showableAll.eq_2, a1, a2, b1, b2]
    exact ⟨rfl, rfl⟩
end
theorem fineL_all {ds : List PyData} (h : ∀ d ∈ ds, fine d = true) : fineL ds = true := by
  induction ds with
  | nil => rfl
  | cons d r ih => simp only [fineL, Bool.and_eq_true]; exact ⟨h d (List.mem_cons_self ..), ih fun x hx => h x (List.mem_cons_of_mem _ hx)⟩
theorem szL_le {B : Nat} {ds : List PyData} (h : ∀ d ∈ ds, szD d ≤ B) : szL ds ≤ ds.length * (B + 2) := by
  induction ds with
  | nil => simp [szL]
  | cons d r ih =>
    have h1 := h d (List.mem_cons_self ..)
    have h2 := ih fun x hx => h x (List.mem_cons_of_mem _ hx)
    simp only [szL, List.length_cons, Nat.add_mul, Nat.one_mul]
    omega
theorem depL_le {B : Nat} {ds : List PyData} (h : ∀ d ∈ ds, d.depth ≤ B) : PyData.depthAll ds ≤ B := by
  induction ds with
  | nil => rw [PyData.depthAll.eq_1]; omega
  | cons d r ih =>
    rw [PyData.depthAll.eq_2]
    exact Nat.max_le.mpr ⟨h d (List.mem_cons_self ..), ih fun x hx => h x (List.mem_cons_of_mem _ hx)⟩
/-- repr of such data -/
theorem pRepr_ok {o : O} {d : PyData} (h : o.data = some d) (hf : fine d = true) (hd : d.depth ≤ 64) (hz : szD d ≤ 16777216) : pRepr o = some (.sh (.str d.shown)) := by
  obtain ⟨a1, a2⟩ := fine_lay d hf
  have a3 := fine_len d hf
  unfold pRepr
  rw [h]
  have e : lineOk d.shown.length = true := decide_eq_true (by rw [show sizeLine = 16777216 from by decide +kernel]; omega)
  simp only [Option.bind_some, a1, a2, decide_eq_true hd, e, Bool.and_self, if_true]

/-! ### sizes -/
theorem big_of {i : Int} (h1 : -(10 ^ 60) < i) (h2 : i < 10 ^ 60) : bigOk i = true := by
  have h : i.natAbs < 10 ^ 60 := by omega
  exact decide_eq_true (Nat.lt_of_lt_of_le h (by decide +kernel))
theorem line_of {n : Nat} (h : n ≤ 16777216) : lineOk n = true := decide_eq_true (by rw [show sizeLine = 16777216 from by decide +kernel]; exact h)
theorem line_lt {n : Nat} (h : n < 16777216) : decide (n < sizeLine) = true := decide_eq_true (by rw [show sizeLine = 16777216 from by decide +kernel]; exact h)
theorem i62_of {i : Int} (h1 : -(2 ^ 62) ≤ i) (h2 : i < 2 ^ 62) : i62 i = true := by
  unfold i62
  rw [decide_eq_true h1, decide_eq_true h2]
  rfl

/-! ### ranges -/
def ri (i j : Int) : List Int := (List.range (j - i).toNat).map fun n => i + (n : Nat)
theorem rangeD_ri (i j : Int) : rangeD i j = (ri i j).map PyData.int := by
  unfold rangeD ri
  rw [List.map_map]
  rfl
theorem mem_ri {i j k : Int} : k ∈ ri i j ↔ i ≤ k ∧ k < j := by
  unfold ri
  rw [List.mem_map]
  constructor
  · rintro ⟨n, hn, rfl⟩
    rw [List.mem_range] at hn
    omega
  · rintro ⟨h1, h2⟩
    exact ⟨(k - i).toNat, List.mem_range.mpr (by omega), by omega⟩
theorem ri_len (i j : Int) : (ri i j).length = (j - i).toNat := by simp [ri]
theorem ri_nil {i j : Int} (h : j ≤ i) : ri i j = [] := by
  unfold ri
  rw [show (j - i).toNat = 0 by omega]
  rfl
theorem ri_cons {i j : Int} (h : i < j) : ri i j = i :: ri (i + 1) j := by
  unfold ri
  rw [show (j - i).toNat = (j - (i + 1)).toNat + 1 by omega, List.range_succ_eq_map, List.map_cons, List.map_map]
  refine congr (congrArg _ (by omega)) ?_
  refine List.map_congr_left fun n _ => ?_
  show i + ((n + 1 : Nat) : Int) = i + 1 + (n : Int)
  omega
theorem ri_sorted (i j : Int) : (ri i j).Pairwise (· < ·) := by
  unfold ri
  rw [List.pairwise_map]
  exact List.Pairwise.imp (fun {a b} (h : a < b) => by show i + (a : Int) < i + (b : Int); omega) List.pairwise_lt_range
/-- two lists in order with the same members are one -/
theorem sorted_ext {a b : List Int} (ha : a.Pairwise (· < ·)) (hb : b.Pairwise (· < ·)) (h : ∀ x, x ∈ a ↔ x ∈ b) : a = b := by
  induction a generalizing b with
  | nil =>
    cases b with
    | nil => rfl
    | cons y r => exact absurd ((h y).mpr (List.mem_cons_self ..)) (by simp)
  | cons x r ih =>
    cases b with
    | nil => exact absurd ((h x).mp (List.mem_cons_self ..)) (by simp)
    | cons y q =>
      obtain ⟨a1, a2⟩ := List.pairwise_cons.mp ha
      obtain ⟨b1, b2⟩ := List.pairwise_cons.mp hb
      have hx : x = y := by
        rcases List.mem_cons.mp ((h x).mp (List.mem_cons_self ..)) with e | e
        · exact e
        · rcases List.mem_cons.mp ((h y).mpr (List.mem_cons_self ..)) with e' | e'
          · exact e'.symm
          · have := b1 x e
            have := a1 y e'
            omega
      subst hx
      rw [ih a2 b2 fun z => ?_]
      constructor
      · intro hz
        rcases List.mem_cons.mp ((h z).mp (List.mem_cons_of_mem _ hz)) with e | e
        · subst e
          have := a1 z hz
          omega
        · exact e
      · intro hz
        rcases List.mem_cons.mp ((h z).mpr (List.mem_cons_of_mem _ hz)) with e | e
        · subst e
          have := b1 z hz
          omega
        · exact e
theorem pair_filter {α : Type} {R : α → α → Prop} {p : α → Bool} {l : List α} (h : l.Pairwise R) : (l.filter p).Pairwise R := h.sublist List.filter_sublist
theorem ri_filter (i j a b : Int) : ((ri i j).filter fun k => decide (a ≤ k) && decide (k < b)) = ri (if a ≤ i then i else a) (if b ≤ j then b else j) := by
  refine sorted_ext (pair_filter (ri_sorted i j)) (ri_sorted _ _) fun k => ?_
  rw [List.mem_filter, mem_ri, mem_ri]
  simp only [Bool.and_eq_true, decide_eq_true_eq]
  split <;> split <;> omega

/-! ### loops -/
/-- a loop that only goes on: an invariant -/
theorem forGo_inv {tg : Ev → D → Option Ev} {b : Ev → Option Out} (P : List D → Ev → Prop) : ∀ (ds done : List D) (ρ : Ev), P done ρ → (∀ done d ρ, d ∈ ds → P done ρ → ∃ ρ1 ρ2, tg ρ d = some ρ1 ∧ (b ρ1 = some (.nx ρ2) ∨ b ρ1 = some (.ct ρ2)) ∧ P (done ++ [d]) ρ2) →
    ∃ ρ', forGo tg b ds ρ = some (.nx ρ') ∧ P (done ++ ds) ρ'
  | [], done, ρ, h, _ => ⟨ρ, rfl, by simpa using h⟩
  | d :: ds, done, ρ, h, st => by
    obtain ⟨ρ1, ρ2, e1, e2, h2⟩ := st done d ρ (List.mem_cons_self ..) h
    obtain ⟨ρ', e3, h3⟩ := forGo_inv P ds (done ++ [d]) ρ2 h2 fun done d ρ hd => st done d ρ (List.mem_cons_of_mem _ hd)
    refine ⟨ρ', ?_, by simpa using h3⟩
    unfold forGo
    rw [e1]
    rcases e2 with e2 | e2 <;> simp only [Option.bind_some, e2, e3]
/-- a comprehension without a test, the slots as they were -/
theorem compGo_map {own : List Nat} {tg : Ev → D → Option Ev} {c : Ev → Option (Bool × Ev)} {el : Ev → Option (O × Ev)} {ρ : Ev} (f : D → D) : ∀ (ds acc : List D), acc.length + ds.length ≤ 16777216 →
    (∀ d ∈ ds, ∃ ρ1 ρ2 ρ3 o, tg ρ d = some ρ1 ∧ c ρ1 = some (true, ρ2) ∧ el ρ2 = some (o, ρ3) ∧ o.fz = some (f d) ∧ wipeEv ρ3 own = ρ) → compGo own tg c el ds ρ acc = some (acc ++ ds.map f, ρ)
  | [], acc, _, _ => by simp [compGo]
  | d :: ds, acc, hl, st => by
    obtain ⟨ρ1, ρ2, ρ3, o, e1, e2, e3, e4, e5⟩ := st d (List.mem_cons_self ..)
    have hl' : acc.length + (ds.length + 1) ≤ 16777216 := hl
    have ih := compGo_map f ds (acc ++ [f d]) (by simp; omega) fun x hx => st x (List.mem_cons_of_mem _ hx)
    unfold compGo
    simp only [e1, e2, e3, e4, Option.bind_some, if_true, line_lt (show acc.length < 16777216 by omega), e5, ih]
    simp
/-- one with a test -/
theorem compGo_filter {own : List Nat} {tg : Ev → D → Option Ev} {c : Ev → Option (Bool × Ev)} {el : Ev → Option (O × Ev)} {ρ : Ev} (p : D → Bool) (f : D → D) : ∀ (ds acc : List D), acc.length + ds.length ≤ 16777216 →
    (∀ d ∈ ds, ∃ ρ1 ρ2, tg ρ d = some ρ1 ∧ c ρ1 = some (p d, ρ2) ∧ (p d = true → ∃ ρ3 o, el ρ2 = some (o, ρ3) ∧ o.fz = some (f d) ∧ wipeEv ρ3 own = ρ) ∧ (p d = false → wipeEv ρ2 own = ρ)) → compGo own tg c el ds ρ acc = some (acc ++ (ds.filter p).map f, ρ)
  | [], acc, _, _ => by simp [compGo]
  | d :: ds, acc, hl, st => by
    obtain ⟨ρ1, ρ2, e1, e2, e3, e4⟩ := st d (List.mem_cons_self ..)
    have hl' : acc.length + (ds.length + 1) ≤ 16777216 := hl
    unfold compGo
    simp only [e1, e2, Option.bind_some]
    cases hp : p d with
    | true =>
      obtain ⟨ρ3, o, e5, e6, e7⟩ := e3 hp
      have ih := compGo_filter p f ds (acc ++ [f d]) (by simp; omega) fun x hx => st x (List.mem_cons_of_mem _ hx)
      simp only [if_true, e5, e6, Option.bind_some, line_lt (show acc.length < 16777216 by omega), e7, ih, List.filter_cons, hp]
      simp
    | false =>
      have ih := compGo_filter p f ds acc (by omega) fun x hx => st x (List.mem_cons_of_mem _ hx)
      simp only [Bool.false_eq_true, if_false, e4 hp, ih, List.filter_cons, hp]
/-- one whose turns change the slots: an invariant -/
theorem compGo_inv {own : List Nat} {tg : Ev → D → Option Ev} {c : Ev → Option (Bool × Ev)} {el : Ev → Option (O × Ev)} (P : List D → Ev → Prop) : ∀ (ds acc : List D) (ρ : Ev), acc.length + ds.length ≤ 16777216 → P acc ρ →
    (∀ acc d ρ, d ∈ ds → P acc ρ → ∃ ρ1 ρ2 ρ3 o x, tg ρ d = some ρ1 ∧ c ρ1 = some (true, ρ2) ∧ el ρ2 = some (o, ρ3) ∧ o.fz = some x ∧ P (acc ++ [x]) (wipeEv ρ3 own)) → ∃ xs ρ', compGo own tg c el ds ρ acc = some (xs, ρ') ∧ P xs ρ' ∧ xs.length = acc.length + ds.length
  | [], acc, ρ, _, h, _ => ⟨acc, ρ, rfl, h, rfl⟩
  | d :: ds, acc, ρ, hl, h, st => by
    obtain ⟨ρ1, ρ2, ρ3, o, x, e1, e2, e3, e4, h5⟩ := st acc d ρ (List.mem_cons_self ..) h
    have hl' : acc.length + (ds.length + 1) ≤ 16777216 := hl
    obtain ⟨xs, ρ', e6, h6, l6⟩ := compGo_inv P ds (acc ++ [x]) _ (by simp; omega) h5 fun acc d ρ hd => st acc d ρ (List.mem_cons_of_mem _ hd)
    refine ⟨xs, ρ', ?_, h6, by rw [l6]; simp; omega⟩
    unfold compGo
    simp only [e1, e2, e3, e4, Option.bind_some, if_true, line_lt (show acc.length < 16777216 by omega), e6]
/-- a while whose measure falls -/
theorem whileGo_inv {c : Ev → Option (Bool × Ev)} {b : Ev → Option Out} (P : Nat → Ev → Prop) (R : Ev → Prop) : ∀ (n : Nat) (m : Nat) (ρ : Ev), m < n → P m ρ →
    (∀ m ρ, P m ρ → (∃ ρ1, c ρ = some (false, ρ1) ∧ R ρ1) ∨ (∃ ρ1 ρ2 m', c ρ = some (true, ρ1) ∧ (b ρ1 = some (.nx ρ2) ∨ b ρ1 = some (.ct ρ2)) ∧ m' < m ∧ P m' ρ2)) → ∃ ρ', whileGo c b n ρ = some (.nx ρ') ∧ R ρ'
  | 0, m, ρ, h, _, _ => by omega
  | n + 1, m, ρ, h, hp, st => by
    rcases st m ρ hp with ⟨ρ1, e1, h1⟩ | ⟨ρ1, ρ2, m', e1, e2, hm, h2⟩
    · exact ⟨ρ1, by unfold whileGo; simp [e1], h1⟩
    · obtain ⟨ρ', e3, h3⟩ := whileGo_inv P R n m' ρ2 (by omega) h2 st
      refine ⟨ρ', ?_, h3⟩
      unfold whileGo
      rcases e2 with e2 | e2 <;> simp [e1, e2, e3]
end Vx

/-! Vx, part R: small facts for evaluating by hand. -/
namespace Vx
open PySem L2
theorem atI_0 {α : Type} (a : α) (r : List α) : atI (a :: r) 0 = some a := by
  have : ixN (a :: r).length 0 = some 0 := by
    unfold ixN
    rw [if_pos (by decide), if_pos (by simp only [List.length_cons]; omega)]
    rfl
  unfold atI
  rw [this]
  rfl
theorem atI_1 {α : Type} (a b : α) (r : List α) : atI (a :: b :: r) 1 = some b := by
  have : ixN (a :: b :: r).length 1 = some 1 := by
    unfold ixN
    rw [if_pos (by decide), if_pos (by simp only [List.length_cons]; omega)]
    rfl
  unfold atI
  rw [this]
  rfl
theorem atI_get {α : Type} {xs : List α} {i : Int} (h0 : 0 ≤ i) (h1 : i < xs.length) : atI xs i = some (xs[i.toNat]'(by omega)) := by
  unfold atI ixN
  rw [if_pos h0, if_pos h1]
  simp
theorem ixN_0 (n : Nat) (h : 0 < n) : ixN n 0 = some 0 := by
  unfold ixN
  rw [if_pos (by decide), if_pos (by omega)]
  rfl
theorem ixN_1 (n : Nat) (h : 1 < n) : ixN n 1 = some 1 := by
  unfold ixN
  rw [if_pos (by decide), if_pos (by omega)]
  rfl
theorem free_f (i : Nat) : free false i = true := rfl
theorem free_t (i : Nat) : free true (i + 1) = true := rfl
theorem line_s (n : Nat) (h : n ≤ 1000) : lineOk n = true := line_of (by omega)
def mx (i j : Int) : Int := if j > i then j else i
def mn (i j : Int) : Int := if j < i then j else i
def ab (i : Int) : Int := if i < 0 then -i else i
theorem pMax2_i (i j : Int) : pMax2 (.sh (.int i)) (.sh (.int j)) = some (.sh (.int (mx i j))) := rfl
theorem pMin2_i (i j : Int) : pMin2 (.sh (.int i)) (.sh (.int j)) = some (.sh (.int (mn i j))) := rfl
theorem pAbs_i (i : Int) : pAbs (.sh (.int i)) = some (.sh (.int (ab i))) := rfl
theorem line_l (n : Nat) (h : n ≤ 1000) : decide (n < sizeLine) = true := line_lt (by omega)
def gg (a b : Int) : Int := (Nat.gcd a.natAbs b.natAbs : Nat)
theorem pGcd_i (i j : Int) : pGcd (.sh (.int i)) (.sh (.int j)) = some (.sh (.int (gg i j))) := rfl
theorem seq_nx {F : Fn} {io : Bool} {s : S} {r : SL} {ρ ρ1 : Ev} (h : evS F io s ρ = some (.nx ρ1)) : evSs F io (.cons s r) ρ = evSs F io r ρ1 := by
  simp only [evSs, h, Option.bind_some]
theorem seq_rt {F : Fn} {io : Bool} {s : S} {r : SL} {ρ ρ1 : Ev} {o : O} (h : evS F io s ρ = some (.rt o ρ1)) : evSs F io (.cons s r) ρ = some (.rt o ρ1) := by
  simp only [evSs, h, Option.bind_some]
theorem big_i {i : Int} (h1 : -(10 ^ 60) < i) (h2 : i < 10 ^ 60) : bigOk i = true := big_of h1 h2
theorem gg_pos {a b : Int} (hb : 0 < b) : 0 < gg a b := by
  have : 0 < Nat.gcd a.natAbs b.natAbs := Nat.gcd_pos_of_pos_right _ (by omega)
  unfold gg
  omega
theorem gg_le {a b : Int} (hb : 0 < b) : gg a b ≤ b := by
  have : Nat.gcd a.natAbs b.natAbs ≤ b.natAbs := Nat.gcd_le_right _ (by omega)
  unfold gg
  omega
theorem run_f {F : Fn} {n : Nat} {b : SL} {os : List O} {o : O} {ρ : Ev} (h : evSs F false b (os.map some ++ List.replicate (n - os.length) none) = some (.rt o ρ)) : Vx.run F false n b os = some (o, .sh .none) := by
  unfold Vx.run
  rw [h]
  rfl
theorem run_n {F : Fn} {n : Nat} {b : SL} {os : List O} {ρ : Ev} (h : evSs F false b (os.map some ++ List.replicate (n - os.length) none) = some (.nx ρ)) : Vx.run F false n b os = some (.sh .none, .sh .none) := by
  unfold Vx.run
  rw [h]
  rfl
theorem run_t {F : Fn} {n : Nat} {b : SL} {os : List O} {o x : O} {ρ : Ev} (h : evSs F true b (os.map some ++ List.replicate (n - os.length) none) = some (.rt o (some x :: ρ))) : Vx.run F true n b os = some (o, x) := by
  unfold Vx.run
  rw [h]
  rfl
theorem while_ev {F : Fn} {io : Bool} {c : T} {b : SL} {ρ : Ev} {r : Option Out} (h : whileGo (evT F c) (evSs F io b) fuel ρ = r) : evS F io (.while c b) ρ = r := by
  simp only [evS]
  exact h
theorem for_ev {F : Fn} {io : Bool} {g : G} {it : I} {b : SL} {ρ ρ1 : Ev} {ds : List D} {r : Option Out} (hi : evI F it ρ = some (ds, ρ1)) (hf : g.free io = true) (h : forGo (bindG g) (evSs F io b) ds ρ1 = r) : evS F io (.for g it b) ρ = r := by
  simp only [evS, hi, Option.bind_some, hf, if_true]
  exact h
theorem comp_ev {F : Fn} {own : List Nat} {g : G} {it : I} {c : T} {e : E} {ρ ρ1 ρ2 : Ev} {ds xs : List D} (hi : evI F it ρ = some (ds, ρ1)) (h : compGo own (bindG g) (evT F c) (evE F e) ds (wipeEv ρ1 own) [] = some (xs, ρ2)) : evE F (.comp own g it c e) ρ = some (.lst xs, ρ2) := by
  simp only [evE, hi, Option.bind_some, h, Option.map_some]
/-- a statement of a block; a loop's block -/
def SL.nth : SL → Nat → S
  | .nil, _ => .pass
  | .cons s _, 0 => s
  | .cons _ r, n + 1 => SL.nth r n
def S.body : S → SL
  | .for _ _ b => b
  | .while _ b => b
  | .ite _ a _ => a
  | _ => .nil
theorem ret_ev {F : Fn} {io : Bool} {e : E} {ρ ρ1 : Ev} {o : O} (h : evE F e ρ = some (o, ρ1)) : evS F io (.ret e) ρ = some (.rt o ρ1) := by
  simp only [evS, h, Option.map_some]
theorem asg_ev {F : Fn} {io : Bool} {i : Nat} {e : E} {ρ ρ1 : Ev} {o : O} (h : evE F e ρ = some (o, ρ1)) (hf : free io i = true) : evS F io (.asg i e) ρ = some (.nx (ρ1.set i (some o))) := by
  simp only [evS, h, Option.map_some, hf, if_true]
theorem ite_f {F : Fn} {io : Bool} {c : T} {a b : SL} {ρ ρ1 : Ev} (h : evT F c ρ = some (false, ρ1)) : evS F io (.ite c a b) ρ = evSs F io b ρ1 := by
  simp only [evS, h, Option.bind_some, Bool.false_eq_true, if_false]
theorem ite_t {F : Fn} {io : Bool} {c : T} {a b : SL} {ρ ρ1 : Ev} (h : evT F c ρ = some (true, ρ1)) : evS F io (.ite c a b) ρ = evSs F io a ρ1 := by
  simp only [evS, h, Option.bind_some, if_true]
theorem boolsOf_true {α : Type} (l : List α) : boolsOf (l.map fun _ => PyData.bool true) = some (l.map fun _ => true) := by
  induction l with
  | nil => rfl
  | cons a r ih => simp only [List.map_cons, boolsOf, ih, Option.map_some]
theorem all_true {α : Type} (l : List α) : (l.map fun _ => true).all id = true := by
  induction l with
  | nil => rfl
  | cons a r ih => simp only [List.map_cons, List.all_cons, ih, id, Bool.and_true]
theorem pAll_true {α : Type} (l : List α) : pAll (.lst (l.map fun _ => PyData.bool true)) = some (.sh (.bool true)) := by
  unfold pAll
  simp only [O.asL, Option.bind_some, boolsOf_true, all_true]
  rfl
theorem forGo_nx {tg : Ev → D → Option Ev} {b : Ev → Option Out} {d : D} {ds : List D} {ρ ρ1 ρ2 : Ev} (h1 : tg ρ d = some ρ1) (h2 : b ρ1 = some (.nx ρ2)) : forGo tg b (d :: ds) ρ = forGo tg b ds ρ2 := by
  simp only [forGo, h1, h2, Option.bind_some]
/-- no locked dict -/
def nf : Option O → Bool
  | some (.fdct _) => false
  | _ => true
theorem noFd_nil : noFd [] = true := rfl
theorem noFd_cons (x : Option O) (r : Ev) : noFd (x :: r) = (nf x && noFd r) := by
  unfold noFd
  rw [List.all_cons]
  rfl
def isFdO : O → Bool
  | .fdct _ => true
  | _ => false
theorem lock_ev {F : Fn} {i : Nat} {e : E} {ρ ρ1 ρ2 : Ev} {kvs : List (Key × D)} {o : O} (h0 : (ρ[i]?).join = some (.dct kvs)) (h1 : evE F e (ρ.set i (some (.fdct kvs))) = some (o, ρ1)) (hf : isFdO o = false) (h2 : unlock i ρ1 = some ρ2) : evE F (.lock i e) ρ = some (o, ρ2) := by
  simp only [evE, h0, Option.bind_some, h1]
  cases o <;> first | (cases hf; done) | (show Option.map _ (unlock i ρ1) = _; rw [h2]; rfl)
theorem unlock_ev {i : Nat} {ρ : Ev} {kvs : List (Key × D)} (h0 : (ρ[i]?).join = some (.fdct kvs)) (h : noFd (ρ.set i none) = true) : unlock i ρ = some (ρ.set i (some (.dct kvs))) := by
  unfold unlock
  rw [h0]
  simp only [h, if_true]
end Vx

namespace K82
open PySem L2 Vx
def top (i : Nat) : Stmt := PySem.Challenge.pw_evenmarks_k82_whole_sums_of_teeth.main.body.getD i (.Pass ⟨0, 0, 0, 0⟩)
abbrev st_is_list : Stmt := top 2
def N_is_list : List Str := ["value"]
def F_is_list : FnS := ⟨["value"], 1, false, []⟩
abbrev st_is_integer : Stmt := top 3
def N_is_integer : List Str := ["value"]
def F_is_integer : FnS := ⟨["value"], 1, false, []⟩
abbrev st_made : Stmt := top 12
def N_made : List Str := ["top", "bottom", "part"]
def F_made : FnS := ⟨["top", "bottom"], 1, false, []⟩
abbrev st_r_less : Stmt := top 14
def N_r_less : List Str := ["one", "other"]
def F_r_less : FnS := ⟨["one", "other"], 1, false, []⟩
abbrev st_size_of : Stmt := top 20
def N_size_of : List Str := ["number"]
def F_size_of : FnS := ⟨["number"], 1, false, []⟩
abbrev st_l_pot : Stmt := top 32
def N_l_pot : List Str := ["script", "k", "cell", "mixed"]
def F_l_pot : FnS := ⟨["script", "k"], 1, false, []⟩
abbrev st_l_draw : Stmt := top 33
def N_l_draw : List Str := ["pot", "many", "digit"]
def F_l_draw : FnS := ⟨["pot", "many"], 1, true, []⟩
abbrev st_l_low : Stmt := top 36
def N_l_low : List Str := ["top", "bottom", "sign", "one", "other"]
def F_l_low : FnS := ⟨["top", "bottom"], 1, false, []⟩
abbrev st_l_below : Stmt := top 37
def N_l_below : List Str := ["one", "other"]
def F_l_below : FnS := ⟨["one", "other"], 1, false, []⟩
abbrev st_l_pairs : Stmt := top 41
def N_l_pairs : List Str := ["limits", "found", "one", "other"]
def F_l_pairs : FnS := ⟨["limits"], 1, false, []⟩
abbrev st_ratio_is_right_basics : Stmt := top 4
def N_ratio_is_right_basics : List Str := ["value", "one"]
def F_ratio_is_right_basics : FnS := ⟨["value"], 2, false, []⟩
abbrev st_r_minus : Stmt := top 13
def N_r_minus : List Str := ["one", "other"]
def F_r_minus : FnS := ⟨["one", "other"], 2, false, []⟩
abbrev st_greater_of : Stmt := top 22
def N_greater_of : List Str := ["best", "one"]
def F_greater_of : FnS := ⟨["best", "one"], 2, false, []⟩
abbrev st_are_teeth : Stmt := top 24
def N_are_teeth : List Str := ["value"]
def F_are_teeth : FnS := ⟨["value"], 2, false, []⟩
abbrev st_l_pick : Stmt := top 34
def N_l_pick : List Str := ["pot", "some"]
def F_l_pick : FnS := ⟨["pot", "some"], 2, true, []⟩
abbrev st_l_less : Stmt := top 38
def N_l_less : List Str := ["one", "other"]
def F_l_less : FnS := ⟨["one", "other"], 2, false, []⟩
abbrev st_l_limits : Stmt := top 40
def N_l_limits : List Str := ["pot", "wide", "low"]
def F_l_limits : FnS := ⟨["pot", "wide"], 2, true, []⟩
abbrev st_l_worth : Stmt := top 43
def N_l_worth : List Str := ["train", "top", "bottom", "one", "other"]
def F_l_worth : FnS := ⟨["train"], 2, false, []⟩
abbrev st_is_ratio : Stmt := top 15
def N_is_ratio : List Str := ["value"]
def F_is_ratio : FnS := ⟨["value"], 3, false, []⟩
abbrev st_apart : Stmt := top 21
def N_apart : List Str := ["one", "other"]
def F_apart : FnS := ⟨["one", "other"], 3, false, []⟩
abbrev st_pair_is_right : Stmt := top 25
def N_pair_is_right : List Str := ["value", "one"]
def F_pair_is_right : FnS := ⟨["value"], 3, false, []⟩
abbrev st_l_any_ratio : Stmt := top 45
def N_l_any_ratio : List Str := ["pot", "limits"]
def F_l_any_ratio : FnS := ⟨["pot", "limits"], 3, true, []⟩
abbrev st_l_off : Stmt := top 46
def N_l_off : List Str := ["one", "other", "found"]
def F_l_off : FnS := ⟨["one", "other"], 3, false, []⟩
abbrev st_sums_nearest : Stmt := top 23
def N_sums_nearest : List Str := ["ratio", "total", "limits", "near", "some", "offs", "first", "last", "one"]
def F_sums_nearest : FnS := ⟨["ratio", "total", "limits"], 4, false, []⟩
abbrev st_ratio_is_right_trains : Stmt := top 26
def N_ratio_is_right_trains : List Str := ["value"]
def F_ratio_is_right_trains : FnS := ⟨["value"], 4, false, []⟩
abbrev st_check_limits : Stmt := top 28
def N_check_limits : List Str := ["limits"]
def F_check_limits : FnS := ⟨["limits"], 4, false, []⟩
abbrev st_l_sum_error : Stmt := top 47
def N_l_sum_error : List Str := ["numbers", "pairs", "most", "ratio", "least", "pair", "off"]
def F_l_sum_error : FnS := ⟨["numbers", "pairs"], 4, false, []⟩
abbrev st_pairs_of_sum : Stmt := top 29
def N_pairs_of_sum : List Str := ["total", "limits", "first", "last", "one"]
def F_pairs_of_sum : FnS := ⟨["total", "limits"], 5, false, [⟨0, ["limits", "total"], [1, 0]⟩]⟩
abbrev st_best_sum : Stmt := top 30
def N_best_sum : List Str := ["numbers", "limits", "total", "best", "found", "worst", "ratio", "one"]
def F_best_sum : FnS := ⟨["numbers", "limits"], 5, false, [⟨0, ["limits", "numbers"], [1, 0]⟩]⟩
abbrev st_l_right : Stmt := top 48
def N_l_right : List Str := ["pot", "limits", "sums", "pair", "total", "numbers", "least", "due", "told", "shown", "best", "much", "turn", "pairs", "one"]
def F_l_right : FnS := ⟨["pot"], 6, true, []⟩
abbrev st_law : Stmt := top 49
def N_law : List Str := ["script", "pot", "time"]
def F_law : FnS := ⟨["script"], 7, false, []⟩
def tab : Tab := ⟨[("is_list", F_is_list), ("is_integer", F_is_integer), ("made", F_made), ("r_less", F_r_less), ("size_of", F_size_of), ("_law_pot", F_l_pot), ("_law_draw", F_l_draw), ("_law_low", F_l_low), ("_law_below", F_l_below), ("_law_pairs", F_l_pairs), ("ratio_is_right_basics", F_ratio_is_right_basics), ("r_minus", F_r_minus), ("greater_of", F_greater_of), ("are_teeth", F_are_teeth), ("_law_pick", F_l_pick), ("_law_less", F_l_less), ("_law_limits", F_l_limits), ("_law_worth", F_l_worth), ("is_ratio", F_is_ratio), ("apart", F_apart), ("pair_is_right", F_pair_is_right), ("_law_any_ratio", F_l_any_ratio), ("_law_off", F_l_off), ("sums_nearest", F_sums_nearest), ("ratio_is_right_trains", F_ratio_is_right_trains), ("check_limits", F_check_limits), ("_law_sum_error", F_l_sum_error), ("pairs_of_sum", F_pairs_of_sum), ("best_sum", F_best_sum), ("_law_right", F_l_right), ("law", F_law)], [("LEAST_TEETH", 6), ("MOST_TEETH", 120), ("MOST_NUMBER", 1000000000)], true⟩
def ir_is_list : SL := (.cons (.ret (.op1 .isSeq (.pk 0))) .nil)
theorem irq_is_list : cSs tab 60 (seOf N_is_list (defScope st_is_list) 0) (defBody st_is_list) = ir_is_list := by kernel_rfl
theorem sc_is_list : FnScope N_is_list F_is_list.ps (defScope st_is_list) := ⟨rfl, rfl, rfl, by decide +kernel, rfl, by decide +kernel, by decide +kernel⟩
theorem bnd_is_list : ∀ (kV doc pm : Value) (an : Option Addr) (cdv ct : Value) (us : List Value), us.length = F_is_list.ps.length → bindArgs (PySem.W.fnOf "is_list" "is_list" (defArgs st_is_list) (defBody st_is_list) (defScope st_is_list) .none kV doc pm an cdv ct) ⟨us, []⟩ = pure (F_is_list.ps.zip us) := fun _ _ _ _ _ _ us hl => match us, hl with | [_], _ => rfl
def ir_is_integer : SL := (.cons (.ret (.andV (.op1 .isInt (.pk 0)) (.op1 .not (.ex (.op1 .isBool (.pk 0)))))) .nil)
theorem irq_is_integer : cSs tab 60 (seOf N_is_integer (defScope st_is_integer) 0) (defBody st_is_integer) = ir_is_integer := by kernel_rfl
theorem sc_is_integer : FnScope N_is_integer F_is_integer.ps (defScope st_is_integer) := ⟨rfl, rfl, rfl, by decide +kernel, rfl, by decide +kernel, by decide +kernel⟩
theorem bnd_is_integer : ∀ (kV doc pm : Value) (an : Option Addr) (cdv ct : Value) (us : List Value), us.length = F_is_integer.ps.length → bindArgs (PySem.W.fnOf "is_integer" "is_integer" (defArgs st_is_integer) (defBody st_is_integer) (defScope st_is_integer) .none kV doc pm an cdv ct) ⟨us, []⟩ = pure (F_is_integer.ps.zip us) := fun _ _ _ _ _ _ us hl => match us, hl with | [_], _ => rfl
def ir_made : SL := (.cons (.asg 2 (.op2 .mul (.ex (.op2 .gcd (.pk 0) (.pk 1))) (.ex (.ite (.cmp .gt (.pk 1) (.ex (.con (.int 0)))) (.con (.int 1)) (.op1 .neg (.ex (.con (.int 1)))))))) (.cons (.ret (.tup (.cons (.op2 .fdiv (.pk 0) (.pk 2)) (.cons (.op2 .fdiv (.pk 1) (.pk 2)) .nil)))) .nil))
theorem irq_made : cSs tab 60 (seOf N_made (defScope st_made) 0) (defBody st_made) = ir_made := by kernel_rfl
theorem sc_made : FnScope N_made F_made.ps (defScope st_made) := ⟨rfl, rfl, rfl, by decide +kernel, rfl, by decide +kernel, by decide +kernel⟩
theorem bnd_made : ∀ (kV doc pm : Value) (an : Option Addr) (cdv ct : Value) (us : List Value), us.length = F_made.ps.length → bindArgs (PySem.W.fnOf "made" "made" (defArgs st_made) (defBody st_made) (defScope st_made) .none kV doc pm an cdv ct) ⟨us, []⟩ = pure (F_made.ps.zip us) := fun _ _ _ _ _ _ us hl => match us, hl with | [_, _], _ => rfl
def ir_r_less : SL := (.cons (.ret (.op2 .lt (.ex (.op2 .mul (.ex (.op2 .ix (.pk 0) (.ex (.con (.int 0))))) (.ex (.op2 .ix (.pk 1) (.ex (.con (.int 1))))))) (.ex (.op2 .mul (.ex (.op2 .ix (.pk 1) (.ex (.con (.int 0))))) (.ex (.op2 .ix (.pk 0) (.ex (.con (.int 1))))))))) .nil)
theorem irq_r_less : cSs tab 60 (seOf N_r_less (defScope st_r_less) 0) (defBody st_r_less) = ir_r_less := by kernel_rfl
theorem sc_r_less : FnScope N_r_less F_r_less.ps (defScope st_r_less) := ⟨rfl, rfl, rfl, by decide +kernel, rfl, by decide +kernel, by decide +kernel⟩
theorem bnd_r_less : ∀ (kV doc pm : Value) (an : Option Addr) (cdv ct : Value) (us : List Value), us.length = F_r_less.ps.length → bindArgs (PySem.W.fnOf "r_less" "r_less" (defArgs st_r_less) (defBody st_r_less) (defScope st_r_less) .none kV doc pm an cdv ct) ⟨us, []⟩ = pure (F_r_less.ps.zip us) := fun _ _ _ _ _ _ us hl => match us, hl with | [_, _], _ => rfl
def ir_size_of : SL := (.cons (.ret (.tup (.cons (.op1 .abs (.ex (.op2 .ix (.pk 0) (.ex (.con (.int 0)))))) (.cons (.op2 .ix (.pk 0) (.ex (.con (.int 1)))) .nil)))) .nil)
theorem irq_size_of : cSs tab 60 (seOf N_size_of (defScope st_size_of) 0) (defBody st_size_of) = ir_size_of := by kernel_rfl
theorem sc_size_of : FnScope N_size_of F_size_of.ps (defScope st_size_of) := ⟨rfl, rfl, rfl, by decide +kernel, rfl, by decide +kernel, by decide +kernel⟩
theorem bnd_size_of : ∀ (kV doc pm : Value) (an : Option Addr) (cdv ct : Value) (us : List Value), us.length = F_size_of.ps.length → bindArgs (PySem.W.fnOf "size_of" "size_of" (defArgs st_size_of) (defBody st_size_of) (defScope st_size_of) .none kV doc pm an cdv ct) ⟨us, []⟩ = pure (F_size_of.ps.zip us) := fun _ _ _ _ _ _ us hl => match us, hl with | [_], _ => rfl
def ir_l_pot : SL := (.cons (.asg 2 (.ite (.cmp .lt (.pk 1) (.ex (.op1 .len (.pk 0)))) (.op1 .abs (.ex (.op2 .ix (.pk 0) (.pk 1)))) (.op2 .add (.ex (.op2 .mul (.ex (.con (.int 739))) (.pk 1))) (.ex (.con (.int 1009)))))) (.cons (.asg 3 (.op2 .add (.ex (.op2 .mod (.ex (.op1 .int (.ex (.op2 .add (.ex (.op2 .add (.ex (.op2 .mul (.ex (.op2 .mod (.ex (.op1 .int (.pk 2))) (.ex (.con (.int 2147483549))))) (.ex (.con (.int 39373))))) (.ex (.op2 .mul (.ex (.con (.int 4261))) (.pk 1))))) (.ex (.con (.int 163))))))) (.ex (.con (.int 2147483563))))) (.ex (.con (.int 1))))) (.cons (.ret (.lst (.cons (.op2 .max2 (.ex (.con (.int 0))) (.ex (.op2 .sub (.pk 2) (.ex (.op2 .pow (.ex (.con (.int 10))) (.ex (.con (.int 18)))))))) (.cons (.var 3) .nil)))) .nil)))
theorem irq_l_pot : cSs tab 60 (seOf N_l_pot (defScope st_l_pot) 0) (defBody st_l_pot) = ir_l_pot := by kernel_rfl
theorem sc_l_pot : FnScope N_l_pot F_l_pot.ps (defScope st_l_pot) := ⟨rfl, rfl, rfl, by decide +kernel, rfl, by decide +kernel, by decide +kernel⟩
theorem bnd_l_pot : ∀ (kV doc pm : Value) (an : Option Addr) (cdv ct : Value) (us : List Value), us.length = F_l_pot.ps.length → bindArgs (PySem.W.fnOf "_law_pot" "_law_pot" (defArgs st_l_pot) (defBody st_l_pot) (defScope st_l_pot) .none kV doc pm an cdv ct) ⟨us, []⟩ = pure (F_l_pot.ps.zip us) := fun _ _ _ _ _ _ us hl => match us, hl with | [_, _], _ => rfl
def ir_l_draw : SL := (.cons (.ite (.cmp .gt (.ex (.op2 .ix (.pk 0) (.ex (.con (.int 0))))) (.ex (.con (.int 0)))) (.cons (.asg 2 (.op2 .mod (.ex (.op1 .int (.ex (.op2 .ix (.pk 0) (.ex (.con (.int 0))))))) (.pk 1))) (.cons (.asgG (.ix 0 (.con (.int 0))) (.op2 .fdiv (.ex (.op1 .int (.ex (.op2 .ix (.pk 0) (.ex (.con (.int 0))))))) (.pk 1))) (.cons (.ret (.mv 2)) .nil))) .nil) (.cons (.asgG (.ix 0 (.con (.int 1))) (.op2 .mod (.ex (.op1 .int (.ex (.op2 .add (.ex (.op2 .mul (.ex (.op2 .ix (.pk 0) (.ex (.con (.int 1))))) (.ex (.con (.int 39373))))) (.ex (.con (.int 4261))))))) (.ex (.con (.int 2147483549))))) (.cons (.ret (.op2 .mod (.ex (.op1 .int (.ex (.op2 .fdiv (.ex (.op2 .mod (.ex (.op1 .int (.ex (.op2 .mul (.ex (.op2 .ix (.pk 0) (.ex (.con (.int 1))))) (.ex (.op2 .ix (.pk 0) (.ex (.con (.int 1))))))))) (.ex (.con (.int 2147483563))))) (.ex (.con (.int 19))))))) (.pk 1))) .nil)))
theorem irq_l_draw : cSs tab 60 (seOf N_l_draw (defScope st_l_draw) 0) (defBody st_l_draw) = ir_l_draw := by kernel_rfl
theorem sc_l_draw : FnScope N_l_draw F_l_draw.ps (defScope st_l_draw) := ⟨rfl, rfl, rfl, by decide +kernel, rfl, by decide +kernel, by decide +kernel⟩
theorem bnd_l_draw : ∀ (kV doc pm : Value) (an : Option Addr) (cdv ct : Value) (us : List Value), us.length = F_l_draw.ps.length → bindArgs (PySem.W.fnOf "_law_draw" "_law_draw" (defArgs st_l_draw) (defBody st_l_draw) (defScope st_l_draw) .none kV doc pm an cdv ct) ⟨us, []⟩ = pure (F_l_draw.ps.zip us) := fun _ _ _ _ _ _ us hl => match us, hl with | [_, _], _ => rfl
def ir_l_low : SL := (.cons (.par 3 4 (.op1 .abs (.pk 0)) (.op1 .abs (.pk 1))) (.cons (.while (.cmp .gt (.pk 4) (.ex (.con (.int 0)))) (.cons (.par 3 4 (.var 4) (.op2 .mod (.ex (.op1 .int (.pk 3))) (.pk 4))) .nil)) (.cons (.asg 2 (.ite (.cmp .gt (.pk 1) (.ex (.con (.int 0)))) (.con (.int 1)) (.op1 .neg (.ex (.con (.int 1)))))) (.cons (.ret (.tup (.cons (.op2 .fdiv (.ex (.op2 .mul (.pk 2) (.pk 0))) (.pk 3)) (.cons (.op2 .fdiv (.ex (.op1 .abs (.pk 1))) (.pk 3)) .nil)))) .nil))))
theorem irq_l_low : cSs tab 60 (seOf N_l_low (defScope st_l_low) 0) (defBody st_l_low) = ir_l_low := by kernel_rfl
theorem sc_l_low : FnScope N_l_low F_l_low.ps (defScope st_l_low) := ⟨rfl, rfl, rfl, by decide +kernel, rfl, by decide +kernel, by decide +kernel⟩
theorem bnd_l_low : ∀ (kV doc pm : Value) (an : Option Addr) (cdv ct : Value) (us : List Value), us.length = F_l_low.ps.length → bindArgs (PySem.W.fnOf "_law_low" "_law_low" (defArgs st_l_low) (defBody st_l_low) (defScope st_l_low) .none kV doc pm an cdv ct) ⟨us, []⟩ = pure (F_l_low.ps.zip us) := fun _ _ _ _ _ _ us hl => match us, hl with | [_, _], _ => rfl
def ir_l_below : SL := (.cons (.ret (.op2 .lt (.ex (.op2 .mul (.ex (.op2 .ix (.pk 0) (.ex (.con (.int 0))))) (.ex (.op2 .ix (.pk 1) (.ex (.con (.int 1))))))) (.ex (.op2 .mul (.ex (.op2 .ix (.pk 1) (.ex (.con (.int 0))))) (.ex (.op2 .ix (.pk 0) (.ex (.con (.int 1))))))))) .nil)
theorem irq_l_below : cSs tab 60 (seOf N_l_below (defScope st_l_below) 0) (defBody st_l_below) = ir_l_below := by kernel_rfl
theorem sc_l_below : FnScope N_l_below F_l_below.ps (defScope st_l_below) := ⟨rfl, rfl, rfl, by decide +kernel, rfl, by decide +kernel, by decide +kernel⟩
theorem bnd_l_below : ∀ (kV doc pm : Value) (an : Option Addr) (cdv ct : Value) (us : List Value), us.length = F_l_below.ps.length → bindArgs (PySem.W.fnOf "_law_below" "_law_below" (defArgs st_l_below) (defBody st_l_below) (defScope st_l_below) .none kV doc pm an cdv ct) ⟨us, []⟩ = pure (F_l_below.ps.zip us) := fun _ _ _ _ _ _ us hl => match us, hl with | [_, _], _ => rfl
def ir_l_pairs : SL := (.cons (.asg 1 (.lst .nil)) (.cons (.for (.nm 2) (.range2 (.op2 .ix (.pk 0) (.ex (.con (.int 0)))) (.op2 .add (.ex (.op2 .ix (.pk 0) (.ex (.con (.int 1))))) (.ex (.con (.int 1))))) (.cons (.extend 1 (.comp [3] (.nm 3) (.range2 (.op2 .ix (.pk 0) (.ex (.con (.int 0)))) (.op2 .add (.ex (.op2 .ix (.pk 0) (.ex (.con (.int 1))))) (.ex (.con (.int 1))))) .yes (.tup (.cons (.var 2) (.cons (.var 3) .nil))))) .nil)) (.cons (.ret (.mv 1)) .nil)))
theorem irq_l_pairs : cSs tab 60 (seOf N_l_pairs (defScope st_l_pairs) 0) (defBody st_l_pairs) = ir_l_pairs := by kernel_rfl
theorem sc_l_pairs : FnScope N_l_pairs F_l_pairs.ps (defScope st_l_pairs) := ⟨rfl, rfl, rfl, by decide +kernel, rfl, by decide +kernel, by decide +kernel⟩
theorem bnd_l_pairs : ∀ (kV doc pm : Value) (an : Option Addr) (cdv ct : Value) (us : List Value), us.length = F_l_pairs.ps.length → bindArgs (PySem.W.fnOf "_law_pairs" "_law_pairs" (defArgs st_l_pairs) (defBody st_l_pairs) (defScope st_l_pairs) .none kV doc pm an cdv ct) ⟨us, []⟩ = pure (F_l_pairs.ps.zip us) := fun _ _ _ _ _ _ us hl => match us, hl with | [_], _ => rfl
def ir_ratio_is_right_basics : SL := (.cons (.ite (.or (.not (.val (.ex (.op1 .isTup (.pk 0))))) (.or (.cmp .ne (.ex (.op1 .len (.pk 0))) (.ex (.con (.int 2)))) (.not (.val (.ex (.op1 .all (.ex (.comp [1] (.nm 1) (.seq (.var 0)) .yes (.call "is_integer" (.cons (.var 1) .nil)))))))))) (.cons (.ret (.con (.bool false))) .nil) .nil) (.cons (.ret (.andV (.op2 .ge (.ex (.op2 .ix (.pk 0) (.ex (.con (.int 1))))) (.ex (.con (.int 1)))) (.op2 .eq (.ex (.op2 .gcd (.ex (.op2 .ix (.pk 0) (.ex (.con (.int 0))))) (.ex (.op2 .ix (.pk 0) (.ex (.con (.int 1))))))) (.ex (.con (.int 1)))))) .nil))
theorem irq_ratio_is_right_basics : cSs tab 60 (seOf N_ratio_is_right_basics (defScope st_ratio_is_right_basics) 1) (defBody st_ratio_is_right_basics) = ir_ratio_is_right_basics := by kernel_rfl
theorem sc_ratio_is_right_basics : FnScope N_ratio_is_right_basics F_ratio_is_right_basics.ps (defScope st_ratio_is_right_basics) := ⟨rfl, rfl, rfl, by decide +kernel, rfl, by decide +kernel, by decide +kernel⟩
theorem bnd_ratio_is_right_basics : ∀ (kV doc pm : Value) (an : Option Addr) (cdv ct : Value) (us : List Value), us.length = F_ratio_is_right_basics.ps.length → bindArgs (PySem.W.fnOf "ratio_is_right" "ratio_is_right" (defArgs st_ratio_is_right_basics) (defBody st_ratio_is_right_basics) (defScope st_ratio_is_right_basics) .none kV doc pm an cdv ct) ⟨us, []⟩ = pure (F_ratio_is_right_basics.ps.zip us) := fun _ _ _ _ _ _ us hl => match us, hl with | [_], _ => rfl
def ir_r_minus : SL := (.cons (.ret (.call "made" (.cons (.op2 .sub (.ex (.op2 .mul (.ex (.op2 .ix (.pk 0) (.ex (.con (.int 0))))) (.ex (.op2 .ix (.pk 1) (.ex (.con (.int 1))))))) (.ex (.op2 .mul (.ex (.op2 .ix (.pk 1) (.ex (.con (.int 0))))) (.ex (.op2 .ix (.pk 0) (.ex (.con (.int 1)))))))) (.cons (.op2 .mul (.ex (.op2 .ix (.pk 0) (.ex (.con (.int 1))))) (.ex (.op2 .ix (.pk 1) (.ex (.con (.int 1)))))) .nil)))) .nil)
theorem irq_r_minus : cSs tab 60 (seOf N_r_minus (defScope st_r_minus) 1) (defBody st_r_minus) = ir_r_minus := by kernel_rfl
theorem sc_r_minus : FnScope N_r_minus F_r_minus.ps (defScope st_r_minus) := ⟨rfl, rfl, rfl, by decide +kernel, rfl, by decide +kernel, by decide +kernel⟩
theorem bnd_r_minus : ∀ (kV doc pm : Value) (an : Option Addr) (cdv ct : Value) (us : List Value), us.length = F_r_minus.ps.length → bindArgs (PySem.W.fnOf "r_minus" "r_minus" (defArgs st_r_minus) (defBody st_r_minus) (defScope st_r_minus) .none kV doc pm an cdv ct) ⟨us, []⟩ = pure (F_r_minus.ps.zip us) := fun _ _ _ _ _ _ us hl => match us, hl with | [_, _], _ => rfl
def ir_greater_of : SL := (.cons (.ret (.ite (.or (.cmp .is (.pk 0) (.ex (.con .none))) (.val (.ex (.call "r_less" (.cons (.var 0) (.cons (.var 1) .nil)))))) (.var 1) (.var 0))) .nil)
theorem irq_greater_of : cSs tab 60 (seOf N_greater_of (defScope st_greater_of) 1) (defBody st_greater_of) = ir_greater_of := by kernel_rfl
theorem sc_greater_of : FnScope N_greater_of F_greater_of.ps (defScope st_greater_of) := ⟨rfl, rfl, rfl, by decide +kernel, rfl, by decide +kernel, by decide +kernel⟩
theorem bnd_greater_of : ∀ (kV doc pm : Value) (an : Option Addr) (cdv ct : Value) (us : List Value), us.length = F_greater_of.ps.length → bindArgs (PySem.W.fnOf "greater_of" "greater_of" (defArgs st_greater_of) (defBody st_greater_of) (defScope st_greater_of) .none kV doc pm an cdv ct) ⟨us, []⟩ = pure (F_greater_of.ps.zip us) := fun _ _ _ _ _ _ us hl => match us, hl with | [_, _], _ => rfl
def ir_are_teeth : SL := (.cons (.ret (.andV (.call "is_integer" (.cons (.var 0) .nil)) (.chain .le .le (.ex (.con (.int 6))) (.pk 0) (.ex (.con (.int 120)))))) .nil)
theorem irq_are_teeth : cSs tab 60 (seOf N_are_teeth (defScope st_are_teeth) 1) (defBody st_are_teeth) = ir_are_teeth := by kernel_rfl
theorem sc_are_teeth : FnScope N_are_teeth F_are_teeth.ps (defScope st_are_teeth) := ⟨rfl, rfl, rfl, by decide +kernel, rfl, by decide +kernel, by decide +kernel⟩
theorem bnd_are_teeth : ∀ (kV doc pm : Value) (an : Option Addr) (cdv ct : Value) (us : List Value), us.length = F_are_teeth.ps.length → bindArgs (PySem.W.fnOf "are_teeth" "are_teeth" (defArgs st_are_teeth) (defBody st_are_teeth) (defScope st_are_teeth) .none kV doc pm an cdv ct) ⟨us, []⟩ = pure (F_are_teeth.ps.zip us) := fun _ _ _ _ _ _ us hl => match us, hl with | [_], _ => rfl
def ir_l_pick : SL := (.cons (.ret (.op2 .ix (.pk 1) (.ex (.callIO "_law_draw" 0 (.cons (.op1 .len (.pk 1)) .nil))))) .nil)
theorem irq_l_pick : cSs tab 60 (seOf N_l_pick (defScope st_l_pick) 1) (defBody st_l_pick) = ir_l_pick := by kernel_rfl
theorem sc_l_pick : FnScope N_l_pick F_l_pick.ps (defScope st_l_pick) := ⟨rfl, rfl, rfl, by decide +kernel, rfl, by decide +kernel, by decide +kernel⟩
theorem bnd_l_pick : ∀ (kV doc pm : Value) (an : Option Addr) (cdv ct : Value) (us : List Value), us.length = F_l_pick.ps.length → bindArgs (PySem.W.fnOf "_law_pick" "_law_pick" (defArgs st_l_pick) (defBody st_l_pick) (defScope st_l_pick) .none kV doc pm an cdv ct) ⟨us, []⟩ = pure (F_l_pick.ps.zip us) := fun _ _ _ _ _ _ us hl => match us, hl with | [_, _], _ => rfl
def ir_l_less : SL := (.cons (.ret (.call "_law_low" (.cons (.op2 .sub (.ex (.op2 .mul (.ex (.op2 .ix (.pk 0) (.ex (.con (.int 0))))) (.ex (.op2 .ix (.pk 1) (.ex (.con (.int 1))))))) (.ex (.op2 .mul (.ex (.op2 .ix (.pk 1) (.ex (.con (.int 0))))) (.ex (.op2 .ix (.pk 0) (.ex (.con (.int 1)))))))) (.cons (.op2 .mul (.ex (.op2 .ix (.pk 0) (.ex (.con (.int 1))))) (.ex (.op2 .ix (.pk 1) (.ex (.con (.int 1)))))) .nil)))) .nil)
theorem irq_l_less : cSs tab 60 (seOf N_l_less (defScope st_l_less) 1) (defBody st_l_less) = ir_l_less := by kernel_rfl
theorem sc_l_less : FnScope N_l_less F_l_less.ps (defScope st_l_less) := ⟨rfl, rfl, rfl, by decide +kernel, rfl, by decide +kernel, by decide +kernel⟩
theorem bnd_l_less : ∀ (kV doc pm : Value) (an : Option Addr) (cdv ct : Value) (us : List Value), us.length = F_l_less.ps.length → bindArgs (PySem.W.fnOf "_law_less" "_law_less" (defArgs st_l_less) (defBody st_l_less) (defScope st_l_less) .none kV doc pm an cdv ct) ⟨us, []⟩ = pure (F_l_less.ps.zip us) := fun _ _ _ _ _ _ us hl => match us, hl with | [_, _], _ => rfl
def ir_l_limits : SL := (.cons (.asg 2 (.op2 .add (.ex (.con (.int 6))) (.ex (.callIO "_law_draw" 0 (.cons (.con (.int 6)) .nil))))) (.cons (.ret (.tup (.cons (.var 2) (.cons (.op2 .add (.pk 2) (.ex (.callIO "_law_draw" 0 (.cons (.op2 .add (.pk 1) (.ex (.con (.int 1)))) .nil)))) .nil)))) .nil))
theorem irq_l_limits : cSs tab 60 (seOf N_l_limits (defScope st_l_limits) 1) (defBody st_l_limits) = ir_l_limits := by kernel_rfl
theorem sc_l_limits : FnScope N_l_limits F_l_limits.ps (defScope st_l_limits) := ⟨rfl, rfl, rfl, by decide +kernel, rfl, by decide +kernel, by decide +kernel⟩
theorem bnd_l_limits : ∀ (kV doc pm : Value) (an : Option Addr) (cdv ct : Value) (us : List Value), us.length = F_l_limits.ps.length → bindArgs (PySem.W.fnOf "_law_limits" "_law_limits" (defArgs st_l_limits) (defBody st_l_limits) (defScope st_l_limits) .none kV doc pm an cdv ct) ⟨us, []⟩ = pure (F_l_limits.ps.zip us) := fun _ _ _ _ _ _ us hl => match us, hl with | [_, _], _ => rfl
def ir_l_worth : SL := (.cons (.asgG (.tp (.cons (.nm 1) (.cons (.nm 2) .nil))) (.tup (.cons (.con (.int 1)) (.cons (.con (.int 1)) .nil)))) (.cons (.for (.tp [3, 4]) (.seq (.var 0)) (.cons (.par 1 2 (.op2 .mul (.pk 1) (.pk 3)) (.op2 .mul (.pk 2) (.pk 4))) .nil)) (.cons (.ret (.call "_law_low" (.cons (.var 1) (.cons (.var 2) .nil)))) .nil)))
theorem irq_l_worth : cSs tab 60 (seOf N_l_worth (defScope st_l_worth) 1) (defBody st_l_worth) = ir_l_worth := by kernel_rfl
theorem sc_l_worth : FnScope N_l_worth F_l_worth.ps (defScope st_l_worth) := ⟨rfl, rfl, rfl, by decide +kernel, rfl, by decide +kernel, by decide +kernel⟩
theorem bnd_l_worth : ∀ (kV doc pm : Value) (an : Option Addr) (cdv ct : Value) (us : List Value), us.length = F_l_worth.ps.length → bindArgs (PySem.W.fnOf "_law_worth" "_law_worth" (defArgs st_l_worth) (defBody st_l_worth) (defScope st_l_worth) .none kV doc pm an cdv ct) ⟨us, []⟩ = pure (F_l_worth.ps.zip us) := fun _ _ _ _ _ _ us hl => match us, hl with | [_], _ => rfl
def ir_is_ratio : SL := (.cons (.ret (.call "ratio_is_right_basics" (.cons (.var 0) .nil))) .nil)
theorem irq_is_ratio : cSs tab 60 (seOf N_is_ratio (defScope st_is_ratio) 2) (defBody st_is_ratio) = ir_is_ratio := by kernel_rfl
theorem sc_is_ratio : FnScope N_is_ratio F_is_ratio.ps (defScope st_is_ratio) := ⟨rfl, rfl, rfl, by decide +kernel, rfl, by decide +kernel, by decide +kernel⟩
theorem bnd_is_ratio : ∀ (kV doc pm : Value) (an : Option Addr) (cdv ct : Value) (us : List Value), us.length = F_is_ratio.ps.length → bindArgs (PySem.W.fnOf "is_ratio" "is_ratio" (defArgs st_is_ratio) (defBody st_is_ratio) (defScope st_is_ratio) .none kV doc pm an cdv ct) ⟨us, []⟩ = pure (F_is_ratio.ps.zip us) := fun _ _ _ _ _ _ us hl => match us, hl with | [_], _ => rfl
def ir_apart : SL := (.cons (.ret (.call "size_of" (.cons (.call "r_minus" (.cons (.var 0) (.cons (.var 1) .nil))) .nil))) .nil)
theorem irq_apart : cSs tab 60 (seOf N_apart (defScope st_apart) 2) (defBody st_apart) = ir_apart := by kernel_rfl
theorem sc_apart : FnScope N_apart F_apart.ps (defScope st_apart) := ⟨rfl, rfl, rfl, by decide +kernel, rfl, by decide +kernel, by decide +kernel⟩
theorem bnd_apart : ∀ (kV doc pm : Value) (an : Option Addr) (cdv ct : Value) (us : List Value), us.length = F_apart.ps.length → bindArgs (PySem.W.fnOf "apart" "apart" (defArgs st_apart) (defBody st_apart) (defScope st_apart) .none kV doc pm an cdv ct) ⟨us, []⟩ = pure (F_apart.ps.zip us) := fun _ _ _ _ _ _ us hl => match us, hl with | [_, _], _ => rfl
def ir_pair_is_right : SL := (.cons (.ret (.andV (.op1 .isTup (.pk 0)) (.andV (.op2 .eq (.ex (.op1 .len (.pk 0))) (.ex (.con (.int 2)))) (.op1 .all (.ex (.comp [1] (.nm 1) (.seq (.var 0)) .yes (.call "are_teeth" (.cons (.var 1) .nil)))))))) .nil)
theorem irq_pair_is_right : cSs tab 60 (seOf N_pair_is_right (defScope st_pair_is_right) 2) (defBody st_pair_is_right) = ir_pair_is_right := by kernel_rfl
theorem sc_pair_is_right : FnScope N_pair_is_right F_pair_is_right.ps (defScope st_pair_is_right) := ⟨rfl, rfl, rfl, by decide +kernel, rfl, by decide +kernel, by decide +kernel⟩
theorem bnd_pair_is_right : ∀ (kV doc pm : Value) (an : Option Addr) (cdv ct : Value) (us : List Value), us.length = F_pair_is_right.ps.length → bindArgs (PySem.W.fnOf "pair_is_right" "pair_is_right" (defArgs st_pair_is_right) (defBody st_pair_is_right) (defScope st_pair_is_right) .none kV doc pm an cdv ct) ⟨us, []⟩ = pure (F_pair_is_right.ps.zip us) := fun _ _ _ _ _ _ us hl => match us, hl with | [_], _ => rfl
def ir_l_any_ratio : SL := (.cons (.ite (.cmp .eq (.ex (.callIO "_law_draw" 0 (.cons (.con (.int 3)) .nil))) (.ex (.con (.int 0)))) (.cons (.ret (.call "_law_worth" (.cons (.tup (.cons (.callIO "_law_pick" 0 (.cons (.call "_law_pairs" (.cons (.var 1) .nil)) .nil)) (.cons (.callIO "_law_pick" 0 (.cons (.call "_law_pairs" (.cons (.var 1) .nil)) .nil)) .nil))) .nil))) .nil) .nil) (.cons (.ite (.cmp .eq (.ex (.callIO "_law_draw" 0 (.cons (.con (.int 3)) .nil))) (.ex (.con (.int 0)))) (.cons (.ret (.call "_law_worth" (.cons (.tup (.cons (.callIO "_law_pick" 0 (.cons (.call "_law_pairs" (.cons (.var 1) .nil)) .nil)) .nil)) .nil))) .nil) .nil) (.cons (.ret (.call "_law_low" (.cons (.op2 .add (.ex (.con (.int 1))) (.ex (.callIO "_law_draw" 0 (.cons (.con (.int 40)) .nil)))) (.cons (.op2 .add (.ex (.con (.int 1))) (.ex (.callIO "_law_draw" 0 (.cons (.con (.int 40)) .nil)))) .nil)))) .nil)))
theorem irq_l_any_ratio : cSs tab 60 (seOf N_l_any_ratio (defScope st_l_any_ratio) 2) (defBody st_l_any_ratio) = ir_l_any_ratio := by kernel_rfl
theorem sc_l_any_ratio : FnScope N_l_any_ratio F_l_any_ratio.ps (defScope st_l_any_ratio) := ⟨rfl, rfl, rfl, by decide +kernel, rfl, by decide +kernel, by decide +kernel⟩
theorem bnd_l_any_ratio : ∀ (kV doc pm : Value) (an : Option Addr) (cdv ct : Value) (us : List Value), us.length = F_l_any_ratio.ps.length → bindArgs (PySem.W.fnOf "_law_any_ratio" "_law_any_ratio" (defArgs st_l_any_ratio) (defBody st_l_any_ratio) (defScope st_l_any_ratio) .none kV doc pm an cdv ct) ⟨us, []⟩ = pure (F_l_any_ratio.ps.zip us) := fun _ _ _ _ _ _ us hl => match us, hl with | [_, _], _ => rfl
def ir_l_off : SL := (.cons (.asg 2 (.call "_law_less" (.cons (.var 0) (.cons (.var 1) .nil)))) (.cons (.ret (.tup (.cons (.op1 .abs (.ex (.op2 .ix (.pk 2) (.ex (.con (.int 0)))))) (.cons (.op2 .ix (.pk 2) (.ex (.con (.int 1)))) .nil)))) .nil))
theorem irq_l_off : cSs tab 60 (seOf N_l_off (defScope st_l_off) 2) (defBody st_l_off) = ir_l_off := by kernel_rfl
theorem sc_l_off : FnScope N_l_off F_l_off.ps (defScope st_l_off) := ⟨rfl, rfl, rfl, by decide +kernel, rfl, by decide +kernel, by decide +kernel⟩
theorem bnd_l_off : ∀ (kV doc pm : Value) (an : Option Addr) (cdv ct : Value) (us : List Value), us.length = F_l_off.ps.length → bindArgs (PySem.W.fnOf "_law_off" "_law_off" (defArgs st_l_off) (defBody st_l_off) (defScope st_l_off) .none kV doc pm an cdv ct) ⟨us, []⟩ = pure (F_l_off.ps.zip us) := fun _ _ _ _ _ _ us hl => match us, hl with | [_, _], _ => rfl
def ir_sums_nearest : SL := (.cons (.asgG (.tp (.cons (.nm 6) (.cons (.nm 7) .nil))) (.tup (.cons (.op2 .max2 (.ex (.op2 .ix (.pk 2) (.ex (.con (.int 0))))) (.ex (.op2 .sub (.pk 1) (.ex (.op2 .ix (.pk 2) (.ex (.con (.int 1)))))))) (.cons (.op2 .min2 (.ex (.op2 .ix (.pk 2) (.ex (.con (.int 1))))) (.ex (.op2 .sub (.pk 1) (.ex (.op2 .ix (.pk 2) (.ex (.con (.int 0)))))))) .nil)))) (.cons (.asg 3 (.op2 .fdiv (.ex (.op2 .mul (.pk 1) (.ex (.op2 .ix (.pk 0) (.ex (.con (.int 0))))))) (.ex (.op2 .add (.ex (.op2 .ix (.pk 0) (.ex (.con (.int 0))))) (.ex (.op2 .ix (.pk 0) (.ex (.con (.int 1))))))))) (.cons (.asg 4 (.comp [8] (.nm 8) (.seq (.tup (.cons (.var 3) (.cons (.op2 .add (.pk 3) (.ex (.con (.int 1)))) .nil)))) .yes (.op2 .min2 (.ex (.op2 .max2 (.pk 8) (.pk 6))) (.pk 7)))) (.cons (.asg 5 (.comp [8] (.nm 8) (.seq (.var 4)) .yes (.call "apart" (.cons (.call "made" (.cons (.var 8) (.cons (.op2 .sub (.pk 1) (.pk 8)) .nil))) (.cons (.var 0) .nil))))) (.cons (.ret (.ite (.val (.ex (.call "r_less" (.cons (.op2 .ix (.pk 5) (.ex (.con (.int 1)))) (.cons (.op2 .ix (.pk 5) (.ex (.con (.int 0)))) .nil))))) (.op2 .ix (.pk 5) (.ex (.con (.int 1)))) (.op2 .ix (.pk 5) (.ex (.con (.int 0)))))) .nil)))))
theorem irq_sums_nearest : cSs tab 60 (seOf N_sums_nearest (defScope st_sums_nearest) 3) (defBody st_sums_nearest) = ir_sums_nearest := by kernel_rfl
theorem sc_sums_nearest : FnScope N_sums_nearest F_sums_nearest.ps (defScope st_sums_nearest) := ⟨rfl, rfl, rfl, by decide +kernel, rfl, by decide +kernel, by decide +kernel⟩
theorem bnd_sums_nearest : ∀ (kV doc pm : Value) (an : Option Addr) (cdv ct : Value) (us : List Value), us.length = F_sums_nearest.ps.length → bindArgs (PySem.W.fnOf "sums_nearest" "sums_nearest" (defArgs st_sums_nearest) (defBody st_sums_nearest) (defScope st_sums_nearest) .none kV doc pm an cdv ct) ⟨us, []⟩ = pure (F_sums_nearest.ps.zip us) := fun _ _ _ _ _ _ us hl => match us, hl with | [_, _, _], _ => rfl
def ir_ratio_is_right_trains : SL := (.cons (.ret (.andV (.call "is_ratio" (.cons (.var 0) .nil)) (.andV (.chain .lt .le (.ex (.con (.int 0))) (.ex (.op2 .ix (.pk 0) (.ex (.con (.int 0))))) (.ex (.con (.int 1000000000)))) (.op2 .le (.ex (.op2 .ix (.pk 0) (.ex (.con (.int 1))))) (.ex (.con (.int 1000000000))))))) .nil)
theorem irq_ratio_is_right_trains : cSs tab 60 (seOf N_ratio_is_right_trains (defScope st_ratio_is_right_trains) 3) (defBody st_ratio_is_right_trains) = ir_ratio_is_right_trains := by kernel_rfl
theorem sc_ratio_is_right_trains : FnScope N_ratio_is_right_trains F_ratio_is_right_trains.ps (defScope st_ratio_is_right_trains) := ⟨rfl, rfl, rfl, by decide +kernel, rfl, by decide +kernel, by decide +kernel⟩
theorem bnd_ratio_is_right_trains : ∀ (kV doc pm : Value) (an : Option Addr) (cdv ct : Value) (us : List Value), us.length = F_ratio_is_right_trains.ps.length → bindArgs (PySem.W.fnOf "ratio_is_right" "ratio_is_right" (defArgs st_ratio_is_right_trains) (defBody st_ratio_is_right_trains) (defScope st_ratio_is_right_trains) .none kV doc pm an cdv ct) ⟨us, []⟩ = pure (F_ratio_is_right_trains.ps.zip us) := fun _ _ _ _ _ _ us hl => match us, hl with | [_], _ => rfl
def ir_check_limits : SL := (.cons (.ite (.or (.not (.val (.ex (.call "pair_is_right" (.cons (.var 0) .nil))))) (.cmp .gt (.ex (.op2 .ix (.pk 0) (.ex (.con (.int 0))))) (.ex (.op2 .ix (.pk 0) (.ex (.con (.int 1))))))) (.cons .never .nil) .nil) .nil)
theorem irq_check_limits : cSs tab 60 (seOf N_check_limits (defScope st_check_limits) 3) (defBody st_check_limits) = ir_check_limits := by kernel_rfl
theorem sc_check_limits : FnScope N_check_limits F_check_limits.ps (defScope st_check_limits) := ⟨rfl, rfl, rfl, by decide +kernel, rfl, by decide +kernel, by decide +kernel⟩
theorem bnd_check_limits : ∀ (kV doc pm : Value) (an : Option Addr) (cdv ct : Value) (us : List Value), us.length = F_check_limits.ps.length → bindArgs (PySem.W.fnOf "check_limits" "check_limits" (defArgs st_check_limits) (defBody st_check_limits) (defScope st_check_limits) .none kV doc pm an cdv ct) ⟨us, []⟩ = pure (F_check_limits.ps.zip us) := fun _ _ _ _ _ _ us hl => match us, hl with | [_], _ => rfl
def ir_l_sum_error : SL := (.cons (.asg 2 (.tup (.cons (.con (.int 0)) (.cons (.con (.int 1)) .nil)))) (.cons (.for (.nm 3) (.seq (.var 0)) (.cons (.asg 4 (.con .none)) (.cons (.for (.nm 5) (.seq (.var 1)) (.cons (.asg 6 (.call "_law_off" (.cons (.call "_law_worth" (.cons (.tup (.cons (.var 5) .nil)) .nil)) (.cons (.var 3) .nil)))) (.cons (.asg 4 (.ite (.or (.cmp .is (.pk 4) (.ex (.con .none))) (.val (.ex (.call "_law_below" (.cons (.var 6) (.cons (.var 4) .nil)))))) (.var 6) (.var 4))) .nil))) (.cons (.asg 2 (.ite (.val (.ex (.call "_law_below" (.cons (.var 2) (.cons (.var 4) .nil))))) (.var 4) (.var 2))) .nil)))) (.cons (.ret (.mv 2)) .nil)))
theorem irq_l_sum_error : cSs tab 60 (seOf N_l_sum_error (defScope st_l_sum_error) 3) (defBody st_l_sum_error) = ir_l_sum_error := by kernel_rfl
theorem sc_l_sum_error : FnScope N_l_sum_error F_l_sum_error.ps (defScope st_l_sum_error) := ⟨rfl, rfl, rfl, by decide +kernel, rfl, by decide +kernel, by decide +kernel⟩
theorem bnd_l_sum_error : ∀ (kV doc pm : Value) (an : Option Addr) (cdv ct : Value) (us : List Value), us.length = F_l_sum_error.ps.length → bindArgs (PySem.W.fnOf "_law_sum_error" "_law_sum_error" (defArgs st_l_sum_error) (defBody st_l_sum_error) (defScope st_l_sum_error) .none kV doc pm an cdv ct) ⟨us, []⟩ = pure (F_l_sum_error.ps.zip us) := fun _ _ _ _ _ _ us hl => match us, hl with | [_, _], _ => rfl
def ir_pairs_of_sum : SL := (.cons (.ite (.not (.val (.ex (.call "is_integer" (.cons (.var 0) .nil))))) (.cons .never .nil) .nil) (.cons (.expr (.call "check_limits" (.cons (.var 1) .nil))) (.cons (.par 2 3 (.op2 .max2 (.ex (.op2 .ix (.pk 1) (.ex (.con (.int 0))))) (.ex (.op2 .sub (.pk 0) (.ex (.op2 .ix (.pk 1) (.ex (.con (.int 1)))))))) (.op2 .min2 (.ex (.op2 .ix (.pk 1) (.ex (.con (.int 1))))) (.ex (.op2 .sub (.pk 0) (.ex (.op2 .ix (.pk 1) (.ex (.con (.int 0))))))))) (.cons (.ret (.comp [4] (.nm 4) (.range2 (.var 2) (.op2 .add (.pk 3) (.ex (.con (.int 1))))) .yes (.tup (.cons (.var 4) (.cons (.op2 .sub (.pk 0) (.pk 4)) .nil))))) .nil))))
theorem irq_pairs_of_sum : cSs tab 60 (seOf N_pairs_of_sum (defScope st_pairs_of_sum) 4) (defBody st_pairs_of_sum) = ir_pairs_of_sum := by kernel_rfl
theorem sc_pairs_of_sum : FnScope N_pairs_of_sum F_pairs_of_sum.ps (defScope st_pairs_of_sum) := ⟨rfl, rfl, rfl, by decide +kernel, rfl, by decide +kernel, by decide +kernel⟩
theorem bnd_pairs_of_sum : ∀ (kV doc pm : Value) (an : Option Addr) (cdv ct : Value) (us : List Value), us.length = F_pairs_of_sum.ps.length → bindArgs (PySem.W.fnOf "pairs_of_sum" "pairs_of_sum" (defArgs st_pairs_of_sum) (defBody st_pairs_of_sum) (defScope st_pairs_of_sum) .none kV doc pm an cdv ct) ⟨us, []⟩ = pure (F_pairs_of_sum.ps.zip us) := fun _ _ _ _ _ _ us hl => match us, hl with | [_, _], _ => rfl
def ir_best_sum : SL := (.cons (.ite (.or (.not (.val (.ex (.call "is_list" (.cons (.var 0) .nil))))) (.or (.not (.chain .le .le (.ex (.con (.int 1))) (.ex (.op1 .len (.pk 0))) (.ex (.con (.int 5))))) (.not (.val (.ex (.op1 .all (.ex (.comp [7] (.nm 7) (.seq (.var 0)) .yes (.call "ratio_is_right_trains" (.cons (.var 7) .nil)))))))))) (.cons .never .nil) .nil) (.cons (.expr (.call "check_limits" (.cons (.var 1) .nil))) (.cons (.asgG (.tp (.cons (.nm 3) (.cons (.nm 4) .nil))) (.tup (.cons (.con .none) (.cons (.con .none) .nil)))) (.cons (.for (.nm 2) (.range2 (.op2 .mul (.ex (.con (.int 2))) (.ex (.op2 .ix (.pk 1) (.ex (.con (.int 0)))))) (.op2 .add (.ex (.op2 .mul (.ex (.con (.int 2))) (.ex (.op2 .ix (.pk 1) (.ex (.con (.int 1))))))) (.ex (.con (.int 1))))) (.cons (.asg 5 (.tup (.cons (.con (.int 0)) (.cons (.con (.int 1)) .nil)))) (.cons (.for (.nm 6) (.seq (.var 0)) (.cons (.asg 5 (.call "greater_of" (.cons (.var 5) (.cons (.call "sums_nearest" (.cons (.var 6) (.cons (.var 2) (.cons (.var 1) .nil)))) .nil)))) .nil)) (.cons (.ite (.or (.cmp .is (.pk 3) (.ex (.con .none))) (.val (.ex (.call "r_less" (.cons (.var 5) (.cons (.var 3) .nil)))))) (.cons (.par 3 4 (.var 5) (.var 2)) .nil) .nil) .nil)))) (.cons (.ret (.mv 4)) .nil)))))
theorem irq_best_sum : cSs tab 60 (seOf N_best_sum (defScope st_best_sum) 4) (defBody st_best_sum) = ir_best_sum := by kernel_rfl
theorem sc_best_sum : FnScope N_best_sum F_best_sum.ps (defScope st_best_sum) := ⟨rfl, rfl, rfl, by decide +kernel, rfl, by decide +kernel, by decide +kernel⟩
theorem bnd_best_sum : ∀ (kV doc pm : Value) (an : Option Addr) (cdv ct : Value) (us : List Value), us.length = F_best_sum.ps.length → bindArgs (PySem.W.fnOf "best_sum" "best_sum" (defArgs st_best_sum) (defBody st_best_sum) (defScope st_best_sum) .none kV doc pm an cdv ct) ⟨us, []⟩ = pure (F_best_sum.ps.zip us) := fun _ _ _ _ _ _ us hl => match us, hl with | [_, _], _ => rfl
def ir_l_right : SL := (.cons (.asg 1 (.callIO "_law_limits" 0 (.cons (.con (.int 14)) .nil))) (.cons (.asg 2 .dnew) (.cons (.for (.nm 3) (.seq (.call "_law_pairs" (.cons (.var 1) .nil))) (.cons (.asgG (.ix 2 (.op1 .sum (.pk 3))) (.op2 .add (.ex (.dget 2 (.op1 .sum (.pk 3)) (.lst .nil))) (.ex (.lst (.cons (.var 3) .nil))))) .nil)) (.cons (.for (.nm 4) (.seq (.lst (.cons (.callIO "_law_draw" 0 (.cons (.con (.int 80)) .nil)) (.cons (.op2 .mul (.ex (.con (.int 2))) (.ex (.op2 .ix (.pk 1) (.ex (.con (.int 0)))))) (.cons (.op2 .mul (.ex (.con (.int 2))) (.ex (.op2 .ix (.pk 1) (.ex (.con (.int 1)))))) (.cons (.op2 .add (.ex (.op2 .ix (.pk 1) (.ex (.con (.int 0))))) (.ex (.op2 .ix (.pk 1) (.ex (.con (.int 1)))))) (.cons (.op2 .sub (.ex (.op2 .mul (.ex (.con (.int 2))) (.ex (.op2 .ix (.pk 1) (.ex (.con (.int 0))))))) (.ex (.con (.int 1)))) (.cons (.con (.int 0)) (.cons (.op1 .neg (.ex (.con (.int 3)))) .nil))))))))) (.cons (.asg 7 (.op1 .sorted (.ex (.dget 2 (.var 4) (.lst .nil))))) (.cons (.asg 8 (.call "pairs_of_sum" (.cons (.var 4) (.cons (.var 1) .nil)))) (.cons (.ite (.cmp .ne (.ex (.op1 .repr (.pk 8))) (.ex (.op1 .repr (.pk 7)))) (.cons (.ret (.con (.bool false))) .nil) .nil) (.cons (.append 8 (.con .none)) (.cons (.ite (.cmp .ne (.ex (.op1 .repr (.ex (.callK "pairs_of_sum" [1, 0] .nil (.cons (.var 1) (.cons (.var 4) .nil)))))) (.ex (.op1 .repr (.pk 7)))) (.cons (.ret (.con (.bool false))) .nil) .nil) .nil)))))) (.cons (.asg 5 (.comp [12] (.nm 12) (.range1 (.op2 .add (.ex (.con (.int 1))) (.ex (.callIO "_law_draw" 0 (.cons (.con (.int 5)) .nil))))) .yes (.callIO "_law_any_ratio" 0 (.cons (.var 1) .nil)))) (.cons (.par 9 10 (.op1 .repr (.pk 5)) (.con .none)) (.cons (.for (.nm 4) (.seq (.op1 .sorted (.pk 2))) (.cons (.asg 11 (.call "_law_sum_error" (.cons (.var 5) (.cons (.op2 .ix (.pk 2) (.pk 4)) .nil)))) (.cons (.asg 10 (.ite (.or (.cmp .is (.pk 10) (.ex (.con .none))) (.val (.ex (.call "_law_below" (.cons (.var 11) (.cons (.op2 .ix (.pk 10) (.ex (.con (.int 0)))) .nil)))))) (.tup (.cons (.var 11) (.cons (.var 4) .nil))) (.var 10))) .nil))) (.cons (.ite (.or (.cmp .ne (.ex (.op1 .repr (.ex (.lst (.cons (.call "best_sum" (.cons (.var 5) (.cons (.var 1) .nil))) (.cons (.callK "best_sum" [1, 0] .nil (.cons (.var 1) (.cons (.op1 .tuple (.pk 5)) .nil))) .nil)))))) (.ex (.op1 .repr (.ex (.op2 .mul (.ex (.lst (.cons (.op2 .ix (.pk 10) (.ex (.con (.int 1)))) .nil))) (.ex (.con (.int 2)))))))) (.cmp .ne (.ex (.op1 .repr (.pk 5))) (.pk 9))) (.cons (.ret (.con (.bool false))) .nil) .nil) (.cons (.asg 3 (.callIO "_law_pick" 0 (.cons (.call "_law_pairs" (.cons (.var 1) .nil)) .nil))) (.cons (.asg 6 (.op1 .min (.ex (.lock 2 (.comp [4, 13] (.tp [4, 13]) (.items 2) (.cmp .isin (.ex (.call "_law_worth" (.cons (.tup (.cons (.var 3) .nil)) .nil))) (.ex (.comp [14] (.nm 14) (.seq (.var 13)) .yes (.call "_law_worth" (.cons (.tup (.cons (.var 14) .nil)) .nil))))) (.var 4)))))) (.cons (.ret (.op2 .eq (.ex (.call "best_sum" (.cons (.lst (.cons (.call "_law_worth" (.cons (.tup (.cons (.var 3) .nil)) .nil)) .nil)) (.cons (.var 1) .nil)))) (.pk 6))) .nil)))))))))))
theorem irq_l_right : cSs tab 60 (seOf N_l_right (defScope st_l_right) 5) (defBody st_l_right) = ir_l_right := by kernel_rfl
theorem sc_l_right : FnScope N_l_right F_l_right.ps (defScope st_l_right) := ⟨rfl, rfl, rfl, by decide +kernel, rfl, by decide +kernel, by decide +kernel⟩
theorem bnd_l_right : ∀ (kV doc pm : Value) (an : Option Addr) (cdv ct : Value) (us : List Value), us.length = F_l_right.ps.length → bindArgs (PySem.W.fnOf "_law_right" "_law_right" (defArgs st_l_right) (defBody st_l_right) (defScope st_l_right) .none kV doc pm an cdv ct) ⟨us, []⟩ = pure (F_l_right.ps.zip us) := fun _ _ _ _ _ _ us hl => match us, hl with | [_], _ => rfl
def ir_law : SL := (.cons (.asg 1 (.call "_law_pot" (.cons (.var 0) (.cons (.con (.int 0)) .nil)))) (.cons (.ret (.op1 .all (.ex (.comp [2] (.nm 2) (.range1 (.con (.int 2))) .yes (.callIO "_law_right" 1 .nil))))) .nil))
theorem irq_law : cSs tab 60 (seOf N_law (defScope st_law) 6) (defBody st_law) = ir_law := by kernel_rfl
theorem sc_law : FnScope N_law F_law.ps (defScope st_law) := ⟨rfl, rfl, rfl, by decide +kernel, rfl, by decide +kernel, by decide +kernel⟩
theorem bnd_law : ∀ (kV doc pm : Value) (an : Option Addr) (cdv ct : Value) (us : List Value), us.length = F_law.ps.length → bindArgs (PySem.W.fnOf "law" "law" (defArgs st_law) (defBody st_law) (defScope st_law) .none kV doc pm an cdv ct) ⟨us, []⟩ = pure (F_law.ps.zip us) := fun _ _ _ _ _ _ us hl => match us, hl with | [_], _ => rfl
end K82

namespace K82
open PySem L2 Vx
def code : Vx.Code := [("is_list", (false, 1, ir_is_list)), ("is_integer", (false, 1, ir_is_integer)), ("made", (false, 3, ir_made)), ("r_less", (false, 2, ir_r_less)), ("size_of", (false, 1, ir_size_of)), ("_law_pot", (false, 4, ir_l_pot)), ("_law_draw", (true, 3, ir_l_draw)), ("_law_low", (false, 5, ir_l_low)), ("_law_below", (false, 2, ir_l_below)), ("_law_pairs", (false, 4, ir_l_pairs)), ("ratio_is_right_basics", (false, 2, ir_ratio_is_right_basics)), ("r_minus", (false, 2, ir_r_minus)), ("greater_of", (false, 2, ir_greater_of)), ("are_teeth", (false, 1, ir_are_teeth)), ("_law_pick", (true, 2, ir_l_pick)), ("_law_less", (false, 2, ir_l_less)), ("_law_limits", (true, 3, ir_l_limits)), ("_law_worth", (false, 5, ir_l_worth)), ("is_ratio", (false, 1, ir_is_ratio)), ("apart", (false, 2, ir_apart)), ("pair_is_right", (false, 2, ir_pair_is_right)), ("_law_any_ratio", (true, 2, ir_l_any_ratio)), ("_law_off", (false, 3, ir_l_off)), ("sums_nearest", (false, 9, ir_sums_nearest)), ("ratio_is_right_trains", (false, 1, ir_ratio_is_right_trains)), ("check_limits", (false, 1, ir_check_limits)), ("_law_sum_error", (false, 7, ir_l_sum_error)), ("pairs_of_sum", (false, 5, ir_pairs_of_sum)), ("best_sum", (false, 8, ir_best_sum)), ("_law_right", (true, 15, ir_l_right)), ("law", (false, 3, ir_law))]
theorem cl_is_list : List.lookup ("is_list" : Str) code = some (false, 1, ir_is_list) := by kernel_rfl
theorem cl_is_integer : List.lookup ("is_integer" : Str) code = some (false, 1, ir_is_integer) := by kernel_rfl
theorem cl_made : List.lookup ("made" : Str) code = some (false, 3, ir_made) := by kernel_rfl
theorem cl_r_less : List.lookup ("r_less" : Str) code = some (false, 2, ir_r_less) := by kernel_rfl
theorem cl_size_of : List.lookup ("size_of" : Str) code = some (false, 1, ir_size_of) := by kernel_rfl
theorem cl_l_pot : List.lookup ("_law_pot" : Str) code = some (false, 4, ir_l_pot) := by kernel_rfl
theorem cl_l_draw : List.lookup ("_law_draw" : Str) code = some (true, 3, ir_l_draw) := by kernel_rfl
theorem cl_l_low : List.lookup ("_law_low" : Str) code = some (false, 5, ir_l_low) := by kernel_rfl
theorem cl_l_below : List.lookup ("_law_below" : Str) code = some (false, 2, ir_l_below) := by kernel_rfl
theorem cl_l_pairs : List.lookup ("_law_pairs" : Str) code = some (false, 4, ir_l_pairs) := by kernel_rfl
theorem cl_ratio_is_right_basics : List.lookup ("ratio_is_right_basics" : Str) code = some (false, 2, ir_ratio_is_right_basics) := by kernel_rfl
theorem cl_r_minus : List.lookup ("r_minus" : Str) code = some (false, 2, ir_r_minus) := by kernel_rfl
theorem cl_greater_of : List.lookup ("greater_of" : Str) code = some (false, 2, ir_greater_of) := by kernel_rfl
theorem cl_are_teeth : List.lookup ("are_teeth" : Str) code = some (false, 1, ir_are_teeth) := by kernel_rfl
theorem cl_l_pick : List.lookup ("_law_pick" : Str) code = some (true, 2, ir_l_pick) := by kernel_rfl
theorem cl_l_less : List.lookup ("_law_less" : Str) code = some (false, 2, ir_l_less) := by kernel_rfl
theorem cl_l_limits : List.lookup ("_law_limits" : Str) code = some (true, 3, ir_l_limits) := by kernel_rfl
theorem cl_l_worth : List.lookup ("_law_worth" : Str) code = some (false, 5, ir_l_worth) := by kernel_rfl
theorem cl_is_ratio : List.lookup ("is_ratio" : Str) code = some (false, 1, ir_is_ratio) := by kernel_rfl
theorem cl_apart : List.lookup ("apart" : Str) code = some (false, 2, ir_apart) := by kernel_rfl
theorem cl_pair_is_right : List.lookup ("pair_is_right" : Str) code = some (false, 2, ir_pair_is_right) := by kernel_rfl
theorem cl_l_any_ratio : List.lookup ("_law_any_ratio" : Str) code = some (true, 2, ir_l_any_ratio) := by kernel_rfl
theorem cl_l_off : List.lookup ("_law_off" : Str) code = some (false, 3, ir_l_off) := by kernel_rfl
theorem cl_sums_nearest : List.lookup ("sums_nearest" : Str) code = some (false, 9, ir_sums_nearest) := by kernel_rfl
theorem cl_ratio_is_right_trains : List.lookup ("ratio_is_right_trains" : Str) code = some (false, 1, ir_ratio_is_right_trains) := by kernel_rfl
theorem cl_check_limits : List.lookup ("check_limits" : Str) code = some (false, 1, ir_check_limits) := by kernel_rfl
theorem cl_l_sum_error : List.lookup ("_law_sum_error" : Str) code = some (false, 7, ir_l_sum_error) := by kernel_rfl
theorem cl_pairs_of_sum : List.lookup ("pairs_of_sum" : Str) code = some (false, 5, ir_pairs_of_sum) := by kernel_rfl
theorem cl_best_sum : List.lookup ("best_sum" : Str) code = some (false, 8, ir_best_sum) := by kernel_rfl
theorem cl_l_right : List.lookup ("_law_right" : Str) code = some (true, 15, ir_l_right) := by kernel_rfl
theorem cl_law : List.lookup ("law" : Str) code = some (false, 3, ir_law) := by kernel_rfl
def fn : Fn := fnL code 7
theorem rf_is_list : ∀ os r, os.length = F_is_list.ps.length → fn "is_list" os = some r → run fn F_is_list.io N_is_list.length ir_is_list os = some r := fun os r _ h => fnL_ref cl_is_list os r h
theorem rf_is_integer : ∀ os r, os.length = F_is_integer.ps.length → fn "is_integer" os = some r → run fn F_is_integer.io N_is_integer.length ir_is_integer os = some r := fun os r _ h => fnL_ref cl_is_integer os r h
theorem rf_made : ∀ os r, os.length = F_made.ps.length → fn "made" os = some r → run fn F_made.io N_made.length ir_made os = some r := fun os r _ h => fnL_ref cl_made os r h
theorem rf_r_less : ∀ os r, os.length = F_r_less.ps.length → fn "r_less" os = some r → run fn F_r_less.io N_r_less.length ir_r_less os = some r := fun os r _ h => fnL_ref cl_r_less os r h
theorem rf_size_of : ∀ os r, os.length = F_size_of.ps.length → fn "size_of" os = some r → run fn F_size_of.io N_size_of.length ir_size_of os = some r := fun os r _ h => fnL_ref cl_size_of os r h
theorem rf_l_pot : ∀ os r, os.length = F_l_pot.ps.length → fn "_law_pot" os = some r → run fn F_l_pot.io N_l_pot.length ir_l_pot os = some r := fun os r _ h => fnL_ref cl_l_pot os r h
theorem rf_l_draw : ∀ os r, os.length = F_l_draw.ps.length → fn "_law_draw" os = some r → run fn F_l_draw.io N_l_draw.length ir_l_draw os = some r := fun os r _ h => fnL_ref cl_l_draw os r h
theorem rf_l_low : ∀ os r, os.length = F_l_low.ps.length → fn "_law_low" os = some r → run fn F_l_low.io N_l_low.length ir_l_low os = some r := fun os r _ h => fnL_ref cl_l_low os r h
theorem rf_l_below : ∀ os r, os.length = F_l_below.ps.length → fn "_law_below" os = some r → run fn F_l_below.io N_l_below.length ir_l_below os = some r := fun os r _ h => fnL_ref cl_l_below os r h
theorem rf_l_pairs : ∀ os r, os.length = F_l_pairs.ps.length → fn "_law_pairs" os = some r → run fn F_l_pairs.io N_l_pairs.length ir_l_pairs os = some r := fun os r _ h => fnL_ref cl_l_pairs os r h
theorem rf_ratio_is_right_basics : ∀ os r, os.length = F_ratio_is_right_basics.ps.length → fn "ratio_is_right_basics" os = some r → run fn F_ratio_is_right_basics.io N_ratio_is_right_basics.length ir_ratio_is_right_basics os = some r := fun os r _ h => fnL_ref cl_ratio_is_right_basics os r h
theorem rf_r_minus : ∀ os r, os.length = F_r_minus.ps.length → fn "r_minus" os = some r → run fn F_r_minus.io N_r_minus.length ir_r_minus os = some r := fun os r _ h => fnL_ref cl_r_minus os r h
theorem rf_greater_of : ∀ os r, os.length = F_greater_of.ps.length → fn "greater_of" os = some r → run fn F_greater_of.io N_greater_of.length ir_greater_of os = some r := fun os r _ h => fnL_ref cl_greater_of os r h
theorem rf_are_teeth : ∀ os r, os.length = F_are_teeth.ps.length → fn "are_teeth" os = some r → run fn F_are_teeth.io N_are_teeth.length ir_are_teeth os = some r := fun os r _ h => fnL_ref cl_are_teeth os r h
theorem rf_l_pick : ∀ os r, os.length = F_l_pick.ps.length → fn "_law_pick" os = some r → run fn F_l_pick.io N_l_pick.length ir_l_pick os = some r := fun os r _ h => fnL_ref cl_l_pick os r h
theorem rf_l_less : ∀ os r, os.length = F_l_less.ps.length → fn "_law_less" os = some r → run fn F_l_less.io N_l_less.length ir_l_less os = some r := fun os r _ h => fnL_ref cl_l_less os r h
theorem rf_l_limits : ∀ os r, os.length = F_l_limits.ps.length → fn "_law_limits" os = some r → run fn F_l_limits.io N_l_limits.length ir_l_limits os = some r := fun os r _ h => fnL_ref cl_l_limits os r h
theorem rf_l_worth : ∀ os r, os.length = F_l_worth.ps.length → fn "_law_worth" os = some r → run fn F_l_worth.io N_l_worth.length ir_l_worth os = some r := fun os r _ h => fnL_ref cl_l_worth os r h
theorem rf_is_ratio : ∀ os r, os.length = F_is_ratio.ps.length → fn "is_ratio" os = some r → run fn F_is_ratio.io N_is_ratio.length ir_is_ratio os = some r := fun os r _ h => fnL_ref cl_is_ratio os r h
theorem rf_apart : ∀ os r, os.length = F_apart.ps.length → fn "apart" os = some r → run fn F_apart.io N_apart.length ir_apart os = some r := fun os r _ h => fnL_ref cl_apart os r h
theorem rf_pair_is_right : ∀ os r, os.length = F_pair_is_right.ps.length → fn "pair_is_right" os = some r → run fn F_pair_is_right.io N_pair_is_right.length ir_pair_is_right os = some r := fun os r _ h => fnL_ref cl_pair_is_right os r h
theorem rf_l_any_ratio : ∀ os r, os.length = F_l_any_ratio.ps.length → fn "_law_any_ratio" os = some r → run fn F_l_any_ratio.io N_l_any_ratio.length ir_l_any_ratio os = some r := fun os r _ h => fnL_ref cl_l_any_ratio os r h
theorem rf_l_off : ∀ os r, os.length = F_l_off.ps.length → fn "_law_off" os = some r → run fn F_l_off.io N_l_off.length ir_l_off os = some r := fun os r _ h => fnL_ref cl_l_off os r h
theorem rf_sums_nearest : ∀ os r, os.length = F_sums_nearest.ps.length → fn "sums_nearest" os = some r → run fn F_sums_nearest.io N_sums_nearest.length ir_sums_nearest os = some r := fun os r _ h => fnL_ref cl_sums_nearest os r h
theorem rf_ratio_is_right_trains : ∀ os r, os.length = F_ratio_is_right_trains.ps.length → fn "ratio_is_right_trains" os = some r → run fn F_ratio_is_right_trains.io N_ratio_is_right_trains.length ir_ratio_is_right_trains os = some r := fun os r _ h => fnL_ref cl_ratio_is_right_trains os r h
theorem rf_check_limits : ∀ os r, os.length = F_check_limits.ps.length → fn "check_limits" os = some r → run fn F_check_limits.io N_check_limits.length ir_check_limits os = some r := fun os r _ h => fnL_ref cl_check_limits os r h
theorem rf_l_sum_error : ∀ os r, os.length = F_l_sum_error.ps.length → fn "_law_sum_error" os = some r → run fn F_l_sum_error.io N_l_sum_error.length ir_l_sum_error os = some r := fun os r _ h => fnL_ref cl_l_sum_error os r h
theorem rf_pairs_of_sum : ∀ os r, os.length = F_pairs_of_sum.ps.length → fn "pairs_of_sum" os = some r → run fn F_pairs_of_sum.io N_pairs_of_sum.length ir_pairs_of_sum os = some r := fun os r _ h => fnL_ref cl_pairs_of_sum os r h
theorem rf_best_sum : ∀ os r, os.length = F_best_sum.ps.length → fn "best_sum" os = some r → run fn F_best_sum.io N_best_sum.length ir_best_sum os = some r := fun os r _ h => fnL_ref cl_best_sum os r h
theorem rf_l_right : ∀ os r, os.length = F_l_right.ps.length → fn "_law_right" os = some r → run fn F_l_right.io N_l_right.length ir_l_right os = some r := fun os r _ h => fnL_ref cl_l_right os r h
theorem rf_law : ∀ os r, os.length = F_law.ps.length → fn "law" os = some r → run fn F_law.io N_law.length ir_law os = some r := fun os r _ h => fnL_ref cl_law os r h
end K82

namespace K82
open PySem L2 Vx
local macro_rules | `(tactic| trivial) => `(tactic| simp only [Vx.run, evSs, evS, evE, evA, evL, evOE, evT, evI, evTg, evTgs, Arg.get, p1, p2, pNeg, pNot, pAbs_i, pInt, pLen, pList, pTuple, pSum, pMax, pMin, pAll, pAny, pIs, pAdd, pSub, pMul, pFdiv, pMod, pPow, pLt, pLe, pGt, pGe, pEq, pNe, pIsN, pNotN, isNoneD, pIx, pMax2_i, pMin2_i, pGcd_i, pDivmod, inD, isIntD, isBoolD, isTupD, isSeqD, isStrD, isListD, eqD, O.asQ, O.asL, O.asLs, O.asT, O.fz, O.data, fzAll, perms, truthO, truthD, si, sb, List.length_cons, List.length_nil, List.map_cons, List.map_nil, List.cons_append, List.nil_append, List.append_nil, List.replicate_succ, List.replicate_zero, List.getElem?_cons_zero, List.getElem?_cons_succ, List.set_cons_zero, List.set_cons_succ, Option.join_some, Option.bind_some, Option.map_some, Option.bind_none, Option.map_none, Option.isSome_some, free_f, free_t, G.free, bindG, setAll, wipeEv, atI_0, atI_1, ixN_0, ixN_1, if_true, if_false, Bool.false_eq_true, Bool.and_true, Bool.true_and, Bool.and_self, Bool.not_true, Bool.not_false, Bool.or_false, Bool.false_or, Bool.or_true, Bool.true_or, Bool.false_and, Bool.and_false, Nat.zero_add, line_s, line_l, compGo, forGo, Int.mul_one, Int.one_mul, and_true, true_and, and_self, Nat.reduceLeDiff, Nat.reduceAdd, Nat.reduceSub, decide_true, decide_false, isLst, isDct, reduceCtorEq, List.all_cons, List.all_nil, ne_eq, not_false_eq_true, not_true_eq_false, Option.some.injEq, Prod.mk.injEq, *])
abbrev I (i : Int) : O := .sh (.int i)
abbrev N0 : O := .sh .none
abbrev rat (n m : Int) : D := .tuple [.int n, .int m]
def red (t b : Int) : D := rat (t.fdiv (gg t b)) (b.fdiv (gg t b))
/-- small numbers -/
structure Sm (i : Int) : Prop where
  lo : -(10 ^ 20) < i
  hi : i < 10 ^ 20
theorem Sm.big {i : Int} (h : Sm i) : bigOk i = true := big_i (by have := h.lo; omega) (by have := h.hi; omega)
theorem made_ev (k : Nat) (t b : Int) (hb : 0 < b) (hb2 : b < 10 ^ 60) : fnL code (k + 1) "made" [I t, I b] = some (.sh (red t b), N0) := by
  rw [fnL_eq cl_made]
  have h0 := gg_pos (a := t) hb
  have h1 : bigOk (gg t b) = true := big_i (by omega) (by have := gg_le (a := t) hb; omega)
  have h2 : gg t b ≠ 0 := by omega
  have h3 : bigOk 1 = true := big_i (by decide) (by decide)
  simp only [ir_made, red]
  trivial
theorem gg_step {x y : Int} (hx : 0 ≤ x) (hy : 0 < y) : gg y (x.fmod y) = gg x y := by
  unfold gg
  rw [Int.fmod_eq_emod_of_nonneg _ (by omega)]
  have : (x % y).natAbs = x.natAbs % y.natAbs := by
    obtain ⟨a, rfl⟩ := Int.eq_ofNat_of_zero_le hx
    obtain ⟨c, rfl⟩ := Int.eq_ofNat_of_zero_le (show 0 ≤ y by omega)
    rfl
  rw [this, Nat.gcd_comm, ← Nat.gcd_rec, Nat.gcd_comm]
theorem gg_zero (x : Int) (hx : 0 ≤ x) : gg x 0 = x := by
  unfold gg
  simp only [Int.natAbs_zero, Nat.gcd_zero_right]
  omega
theorem low_ev (k : Nat) (t b : Int) (hb : 0 < b) (hb2 : b < 2 ^ 60) (ht : bigOk t = true) : fnL code (k + 1) "_law_low" [I t, I b] = some (.sh (red t b), N0) := by
  rw [fnL_eq cl_l_low]
  have h0 := gg_pos (a := t) hb
  have h1 : bigOk (gg t b) = true := big_i (by omega) (by have := gg_le (a := t) hb; omega)
  have h2 : gg t b ≠ 0 := by omega
  have h3 : bigOk 1 = true := big_i (by decide) (by decide)
  have hab : ab b = b := by unfold ab; rw [if_neg (by omega)]
  have hgab : gg (ab t) (ab b) = gg t b := by unfold gg ab; split <;> split <;> simp only [Int.natAbs_neg]
  have hat : 0 ≤ ab t := by unfold ab; split <;> omega
  have hw : whileGo (evT (fnL code k) (.cmp .gt (.pk 4) (.ex (.con (.int 0))))) (evSs (fnL code k) false (.cons (.par 3 4 (.var 4) (.op2 .mod (.ex (.op1 .int (.pk 3))) (.pk 4))) .nil)) fuel [some (I t), some (I b), none, some (I (ab t)), some (I (ab b))] =
      some (.nx [some (I t), some (I b), none, some (I (gg t b)), some (I 0)]) := by
    obtain ⟨ρ', hw, hρ⟩ := whileGo_inv (c := evT (fnL code k) (.cmp .gt (.pk 4) (.ex (.con (.int 0))))) (b := evSs (fnL code k) false (.cons (.par 3 4 (.var 4) (.op2 .mod (.ex (.op1 .int (.pk 3))) (.pk 4))) .nil))
      (fun m ρ => ∃ x y : Int, ρ = [some (I t), some (I b), none, some (I x), some (I y)] ∧ 0 ≤ x ∧ 0 ≤ y ∧ gg x y = gg t b ∧ m = y.toNat) (fun ρ => ρ = [some (I t), some (I b), none, some (I (gg t b)), some (I 0)])
      fuel (ab b).toNat [some (I t), some (I b), none, some (I (ab t)), some (I (ab b))] (by rw [hab]; unfold fuel; omega) ⟨ab t, ab b, rfl, hat, by rw [hab]; omega, hgab, rfl⟩ (by
        rintro m ρ ⟨x, y, rfl, hx, hy, hg, rfl⟩
        by_cases h : 0 < y
        · have hy0 : y ≠ 0 := by omega
          have e1 : evT (fnL code k) (.cmp .gt (.pk 4) (.ex (.con (.int 0)))) [some (I t), some (I b), none, some (I x), some (I y)] = some (true, [some (I t), some (I b), none, some (I x), some (I y)]) := by trivial
          have e2 : evSs (fnL code k) false (.cons (.par 3 4 (.var 4) (.op2 .mod (.ex (.op1 .int (.pk 3))) (.pk 4))) .nil) [some (I t), some (I b), none, some (I x), some (I y)] = some (.nx [some (I t), some (I b), none, some (I y), some (I (x.fmod y))]) := by trivial
          have l1 := Int.fmod_lt_of_pos x h
          have l2 := Int.fmod_nonneg_of_pos x h
          exact .inr ⟨_, _, (x.fmod y).toNat, e1, .inl e2, by omega, y, x.fmod y, rfl, hy, l2, by rw [gg_step hx h, hg], rfl⟩
        · have : y = 0 := by omega
          subst this
          rw [gg_zero x hx] at hg
          subst hg
          have e1 : evT (fnL code k) (.cmp .gt (.pk 4) (.ex (.con (.int 0)))) [some (I t), some (I b), none, some (I (gg t b)), some (I 0)] = some (false, [some (I t), some (I b), none, some (I (gg t b)), some (I 0)]) := by trivial
          exact .inl ⟨_, e1, rfl⟩)
    subst hρ
    exact hw
  refine run_f (ρ := [some (I t), some (I b), some (I 1), some (I (gg t b)), some (I 0)]) ?_
  show evSs _ _ ir_l_low [some (I t), some (I b), none, none, none] = _
  unfold ir_l_low
  refine (seq_nx (ρ1 := [some (I t), some (I b), none, some (I (ab t)), some (I (ab b))]) (by trivial)).trans ?_
  refine (seq_nx (while_ev hw)).trans ?_
  refine (seq_nx (ρ1 := [some (I t), some (I b), some (I 1), some (I (gg t b)), some (I 0)]) (by trivial)).trans ?_
  refine seq_rt ?_
  simp only [red]
  trivial
end K82

namespace K82
open PySem L2 Vx
local macro_rules | `(tactic| trivial) => `(tactic| simp only [Vx.run, evSs, evS, evE, evA, evL, evOE, evT, evI, evTg, evTgs, Arg.get, p1, p2, pNeg, pNot, pAbs_i, pInt, pLen, pList, pTuple, pSum, pMax, pMin, pAll, pAny, pIs, pAdd, pSub, pMul, pFdiv, pMod, pPow, pLt, pLe, pGt, pGe, pEq, pNe, pIsN, pNotN, isNoneD, pIx, pMax2_i, pMin2_i, pGcd_i, pDivmod, inD, isIntD, isBoolD, isTupD, isSeqD, isStrD, isListD, eqD, O.asQ, O.asL, O.asLs, O.asT, O.fz, O.data, fzAll, perms, truthO, truthD, si, sb, List.length_cons, List.length_nil, List.map_cons, List.map_nil, List.cons_append, List.nil_append, List.append_nil, List.replicate_succ, List.replicate_zero, List.getElem?_cons_zero, List.getElem?_cons_succ, List.set_cons_zero, List.set_cons_succ, Option.join_some, Option.bind_some, Option.map_some, Option.bind_none, Option.map_none, Option.isSome_some, free_f, free_t, G.free, bindG, setAll, wipeEv, atI_0, atI_1, ixN_0, ixN_1, if_true, if_false, Bool.false_eq_true, Bool.and_true, Bool.true_and, Bool.and_self, Bool.not_true, Bool.not_false, Bool.or_false, Bool.false_or, Bool.or_true, Bool.true_or, Bool.false_and, Bool.and_false, Nat.zero_add, line_s, line_l, compGo, forGo, Int.mul_one, Int.one_mul, and_true, true_and, and_self, Nat.reduceLeDiff, Nat.reduceAdd, Nat.reduceSub, decide_true, decide_false, isLst, isDct, reduceCtorEq, List.all_cons, List.all_nil, ne_eq, not_false_eq_true, not_true_eq_false, Option.some.injEq, Prod.mk.injEq, *])
/-! ### ratios -/
def lessD : D → D → Bool
  | .tuple [.int n, .int m], .tuple [.int p, .int q] => decide (n * q < p * m)
  | _, _ => false
/-- a ratio not below 0, in small numbers -/
structure RV (d : D) : Prop where
  ex : ∃ n m : Int, d = rat n m ∧ 0 ≤ n ∧ n < 10 ^ 20 ∧ 0 < m ∧ m < 10 ^ 20
theorem RV.mk' {n m : Int} (h1 : 0 ≤ n) (h2 : n < 10 ^ 20) (h3 : 0 < m) (h4 : m < 10 ^ 20) : RV (rat n m) := ⟨n, m, rfl, h1, h2, h3, h4⟩
theorem bigs {i : Int} (h1 : 0 ≤ i) (h2 : i < 10 ^ 20) : bigOk i = true := big_i (by omega) (by omega)
theorem r_less_ev (k : Nat) {d e : D} (hd : RV d) (he : RV e) : fnL code (k + 1) "r_less" [.sh d, .sh e] = some (.sh (.bool (lessD d e)), N0) := by
  obtain ⟨n, m, rfl, a1, a2, a3, a4⟩ := hd
  obtain ⟨p, q, rfl, b1, b2, b3, b4⟩ := he
  rw [fnL_eq cl_r_less]
  have h1 := bigs a1 a2
  have h2 := bigs (by omega) a4
  have h3 := bigs b1 b2
  have h4 := bigs (by omega) b4
  simp only [ir_r_less, lessD]
  trivial
theorem l_below_ev (k : Nat) {d e : D} (hd : RV d) (he : RV e) : fnL code (k + 1) "_law_below" [.sh d, .sh e] = some (.sh (.bool (lessD d e)), N0) := by
  obtain ⟨n, m, rfl, a1, a2, a3, a4⟩ := hd
  obtain ⟨p, q, rfl, b1, b2, b3, b4⟩ := he
  rw [fnL_eq cl_l_below]
  have h1 := bigs a1 a2
  have h2 := bigs (by omega) a4
  have h3 := bigs b1 b2
  have h4 := bigs (by omega) b4
  simp only [ir_l_below, lessD]
  trivial
theorem greater_ev (k : Nat) {d e : D} (hd : RV d) (he : RV e) : fnL code (k + 2) "greater_of" [.sh d, .sh e] = some (.sh (if lessD d e then e else d), N0) := by
  have h := r_less_ev k hd he
  rw [fnL_eq cl_greater_of]
  obtain ⟨n, m, rfl, a1, a2, a3, a4⟩ := hd
  simp only [ir_greater_of]
  cases hl : lessD (rat n m) e <;> rw [hl] at h <;> trivial
/-- how far off, as it is told -/
def offD (n m p q : Int) : D := rat (ab ((n * q - p * m).fdiv (gg (n * q - p * m) (m * q)))) ((m * q).fdiv (gg (n * q - p * m) (m * q)))
theorem mul_lt60 {a b : Int} (h1 : 0 ≤ a) (h2 : a < 10 ^ 20) (h3 : 0 ≤ b) (h4 : b < 10 ^ 20) : 0 ≤ a * b ∧ a * b < 10 ^ 40 := by
  refine ⟨Int.mul_nonneg h1 h3, ?_⟩
  have : a * b ≤ a * 10 ^ 20 := Int.mul_le_mul_of_nonneg_left (by omega) h1
  have : a * 10 ^ 20 < 10 ^ 20 * 10 ^ 20 := Int.mul_lt_mul_of_pos_right h2 (by decide)
  have : (10 : Int) ^ 20 * 10 ^ 20 = 10 ^ 40 := by decide
  omega
theorem r_minus_ev (k : Nat) {n m p q : Int} (a1 : 0 ≤ n) (a2 : n < 10 ^ 20) (a3 : 0 < m) (a4 : m < 10 ^ 20) (b1 : 0 ≤ p) (b2 : p < 10 ^ 20) (b3 : 0 < q) (b4 : q < 10 ^ 20) :
    fnL code (k + 2) "r_minus" [.sh (rat n m), .sh (rat p q)] = some (.sh (red (n * q - p * m) (m * q)), N0) := by
  have e1 := mul_lt60 (by omega) a4 (by omega) b4
  have hm := made_ev k (n * q - p * m) (m * q) (Int.mul_pos a3 b3) (by omega)
  rw [fnL_eq cl_r_minus]
  have h1 := bigs a1 a2
  have h2 := bigs (by omega) a4
  have h3 := bigs b1 b2
  have h4 := bigs (by omega) b4
  simp only [ir_r_minus]
  trivial
theorem apart_ev (k : Nat) {n m p q : Int} (a1 : 0 ≤ n) (a2 : n < 10 ^ 20) (a3 : 0 < m) (a4 : m < 10 ^ 20) (b1 : 0 ≤ p) (b2 : p < 10 ^ 20) (b3 : 0 < q) (b4 : q < 10 ^ 20) :
    fnL code (k + 3) "apart" [.sh (rat n m), .sh (rat p q)] = some (.sh (offD n m p q), N0) := by
  have hm := r_minus_ev k a1 a2 a3 a4 b1 b2 b3 b4
  have hs : fnL code (k + 2) "size_of" [.sh (red (n * q - p * m) (m * q))] = some (.sh (offD n m p q), N0) := by
    rw [fnL_eq cl_size_of]
    simp only [ir_size_of, red, offD]
    trivial
  rw [fnL_eq cl_apart]
  simp only [ir_apart]
  trivial
theorem l_off_ev (k : Nat) {n m p q : Int} (a1 : 0 ≤ n) (a2 : n < 10 ^ 8) (a3 : 0 < m) (a4 : m < 10 ^ 8) (b1 : 0 ≤ p) (b2 : p < 10 ^ 8) (b3 : 0 < q) (b4 : q < 10 ^ 8) :
    fnL code (k + 3) "_law_off" [.sh (rat n m), .sh (rat p q)] = some (.sh (offD n m p q), N0) := by
  have mul8 : ∀ {a b : Int}, 0 ≤ a → a < 10 ^ 8 → 0 ≤ b → b < 10 ^ 8 → 0 ≤ a * b ∧ a * b < 10 ^ 16 := fun {a b} h1 h2 h3 h4 => by
    refine ⟨Int.mul_nonneg h1 h3, ?_⟩
    have : a * b ≤ a * 10 ^ 8 := Int.mul_le_mul_of_nonneg_left (by omega) h1
    have : a * 10 ^ 8 < 10 ^ 8 * 10 ^ 8 := Int.mul_lt_mul_of_pos_right h2 (by decide)
    have : (10 : Int) ^ 8 * 10 ^ 8 = 10 ^ 16 := by decide
    omega
  have e1 := mul8 (by omega) a4 (by omega) b4
  have e2 := mul8 a1 a2 (by omega) b4
  have e3 := mul8 b1 b2 (by omega) a4
  have hm := low_ev k (n * q - p * m) (m * q) (Int.mul_pos a3 b3) (by omega) (big_i (by omega) (by omega))
  have h1 := bigs a1 (by omega)
  have h2 := bigs (show 0 ≤ m by omega) (by omega)
  have h3 := bigs b1 (by omega)
  have h4 := bigs (show 0 ≤ q by omega) (by omega)
  have hl : fnL code (k + 2) "_law_less" [.sh (rat n m), .sh (rat p q)] = some (.sh (red (n * q - p * m) (m * q)), N0) := by
    rw [fnL_eq cl_l_less]
    simp only [ir_l_less]
    trivial
  rw [fnL_eq cl_l_off]
  simp only [ir_l_off]
  simp only [red] at hl
  simp only [offD]
  trivial
end K82

namespace K82
open PySem L2 Vx
local macro_rules | `(tactic| trivial) => `(tactic| simp only [Vx.run, evSs, evS, evE, evA, evL, evOE, evT, evI, evTg, evTgs, Arg.get, p1, p2, pNeg, pNot, pAbs_i, pInt, pLen, pList, pTuple, pSum, pMax, pMin, pAll, pAny, pIs, pAdd, pSub, pMul, pFdiv, pMod, pPow, pLt, pLe, pGt, pGe, pEq, pNe, pIsN, pNotN, isNoneD, pIx, pMax2_i, pMin2_i, pGcd_i, pDivmod, inD, isIntD, isBoolD, isTupD, isSeqD, isStrD, isListD, eqD, O.asQ, O.asL, O.asLs, O.asT, O.fz, O.data, fzAll, perms, truthO, truthD, si, sb, List.length_cons, List.length_nil, List.map_cons, List.map_nil, List.cons_append, List.nil_append, List.append_nil, List.replicate_succ, List.replicate_zero, List.getElem?_cons_zero, List.getElem?_cons_succ, List.set_cons_zero, List.set_cons_succ, Option.join_some, Option.bind_some, Option.map_some, Option.bind_none, Option.map_none, Option.isSome_some, free_f, free_t, G.free, bindG, setAll, wipeEv, atI_0, atI_1, ixN_0, ixN_1, if_true, if_false, Bool.false_eq_true, Bool.and_true, Bool.true_and, Bool.and_self, Bool.not_true, Bool.not_false, Bool.or_false, Bool.false_or, Bool.or_true, Bool.true_or, Bool.false_and, Bool.and_false, Nat.zero_add, line_s, line_l, compGo, forGo, Int.cast_ofNat_Int, Int.natCast_one, Int.natCast_zero, Int.mul_one, Int.one_mul, and_true, true_and, and_self, Nat.reduceLeDiff, Nat.reduceAdd, Nat.reduceSub, decide_true, decide_false, isLst, isDct, reduceCtorEq, List.all_cons, List.all_nil, ne_eq, not_false_eq_true, not_true_eq_false, Option.some.injEq, Prod.mk.injEq, *])
/-! ### what the limits are -/
structure Lim (lo hi : Int) : Prop where
  a : 6 ≤ lo
  b : lo ≤ hi
  c : hi ≤ 40
  d : hi ≤ lo + 14
theorem is_int_ev (k : Nat) (i : Int) : fnL code (k + 1) "is_integer" [I i] = some (.sh (.bool true), N0) := by
  rw [fnL_eq cl_is_integer]
  simp only [ir_is_integer]
  trivial
theorem teeth_ev (k : Nat) {i : Int} (h1 : 6 ≤ i) (h2 : i ≤ 120) : fnL code (k + 2) "are_teeth" [I i] = some (.sh (.bool true), N0) := by
  have h := is_int_ev k i
  rw [fnL_eq cl_are_teeth]
  simp only [ir_are_teeth]
  trivial
theorem pair_ev (k : Nat) {a b : Int} (h1 : 6 ≤ a) (h2 : a ≤ 120) (h3 : 6 ≤ b) (h4 : b ≤ 120) : fnL code (k + 3) "pair_is_right" [.sh (rat a b)] = some (.sh (.bool true), N0) := by
  have e1 := teeth_ev k h1 h2
  have e2 := teeth_ev k h3 h4
  rw [fnL_eq cl_pair_is_right]
  simp only [ir_pair_is_right]
  have q : boolsOf [.bool true, .bool true] = some [true, true] := rfl
  have q2 : [true, true].all id = true := rfl
  trivial
theorem lim_ev (k : Nat) {lo hi : Int} (L : Lim lo hi) : fnL code (k + 4) "check_limits" [.sh (rat lo hi)] = some (N0, N0) := by
  have := L.a
  have := L.b
  have := L.c
  have e := pair_ev k (a := lo) (b := hi) (by omega) (by omega) (by omega) (by omega)
  have hn : decide (hi < lo) = false := decide_eq_false (by omega)
  rw [fnL_eq cl_check_limits]
  refine run_n (ρ := [some (.sh (rat lo hi))]) ?_
  show evSs _ _ ir_check_limits [some (.sh (rat lo hi))] = _
  unfold ir_check_limits
  refine (seq_nx (ρ1 := [some (.sh (rat lo hi))]) ?_).trans rfl
  trivial
/-- a ratio as it is let -/
structure Rt (p q : Int) : Prop where
  p0 : 0 < p
  q0 : 0 < q
  p1 : p ≤ 10 ^ 6
  q1 : q ≤ 10 ^ 6
  g : gg p q = 1
theorem ratio_ev (k : Nat) {p q : Int} (R : Rt p q) : fnL code (k + 4) "ratio_is_right_trains" [.sh (rat p q)] = some (.sh (.bool true), N0) := by
  have b1 := is_int_ev k p
  have b2 := is_int_ev k q
  have q1 : boolsOf [.bool true, .bool true] = some [true, true] := rfl
  have q2 : [true, true].all id = true := rfl
  have h1 := R.p0
  have h2 := R.q0
  have h3 := R.p1
  have h4 := R.q1
  have h5 : 1 ≤ q := by omega
  have h6 : p ≤ 1000000000 := by omega
  have h7 : q ≤ 1000000000 := by omega
  have hg := R.g
  have e1 : fnL code (k + 2) "ratio_is_right_basics" [.sh (rat p q)] = some (.sh (.bool true), N0) := by
    rw [fnL_eq cl_ratio_is_right_basics]
    simp only [ir_ratio_is_right_basics]
    trivial
  have e2 : fnL code (k + 3) "is_ratio" [.sh (rat p q)] = some (.sh (.bool true), N0) := by
    rw [fnL_eq cl_is_ratio]
    simp only [ir_is_ratio]
    trivial
  rw [fnL_eq cl_ratio_is_right_trains]
  simp only [ir_ratio_is_right_trains]
  trivial
/-- the pairs of a sum -/
def fst (T lo hi : Int) : Int := mx lo (T - hi)
def lst (T lo hi : Int) : Int := mn hi (T - lo)
def sumPairs (T lo hi : Int) : List D := (ri (fst T lo hi) (lst T lo hi + 1)).map fun a => rat a (T - a)
theorem mx_le {a b c : Int} (h : mx a b ≤ c) : a ≤ c ∧ b ≤ c := by
  unfold mx at h
  split at h <;> omega
theorem pairs_ev (k : Nat) {T lo hi : Int} (L : Lim lo hi) (t1 : -1000 ≤ T) (t2 : T ≤ 1000) : fnL code (k + 5) "pairs_of_sum" [I T, .sh (rat lo hi)] = some (.lst (sumPairs T lo hi), N0) := by
  have e1 := is_int_ev (k + 3) T
  have e2 := lim_ev k L
  have := L.a
  have := L.b
  have := L.c
  have f1 : -1000 ≤ fst T lo hi ∧ fst T lo hi ≤ 1000 := by unfold fst mx; split <;> omega
  have f2 : -1100 ≤ lst T lo hi ∧ lst T lo hi ≤ 40 := by unfold lst mn; split <;> omega
  have i1 : i62 (fst T lo hi) = true := i62_of (by omega) (by omega)
  have i2 : i62 (lst T lo hi + 1) = true := i62_of (by omega) (by omega)
  rw [fnL_eq cl_pairs_of_sum]
  refine run_f (ρ := [some (I T), some (.sh (rat lo hi)), some (I (fst T lo hi)), some (I (lst T lo hi)), none]) ?_
  show evSs _ _ ir_pairs_of_sum [some (I T), some (.sh (rat lo hi)), none, none, none] = _
  unfold ir_pairs_of_sum
  refine (seq_nx (ρ1 := [some (I T), some (.sh (rat lo hi)), none, none, none]) (by trivial)).trans ?_
  refine (seq_nx (ρ1 := [some (I T), some (.sh (rat lo hi)), none, none, none]) (by trivial)).trans ?_
  refine (seq_nx (ρ1 := [some (I T), some (.sh (rat lo hi)), some (I (fst T lo hi)), some (I (lst T lo hi)), none]) (by simp only [fst, lst]; trivial)).trans ?_
  refine seq_rt (ret_ev (comp_ev (ds := rangeD (fst T lo hi) (lst T lo hi + 1)) (ρ1 := [some (I T), some (.sh (rat lo hi)), some (I (fst T lo hi)), some (I (lst T lo hi)), none]) (by trivial) ?_))
  rw [rangeD_ri]
  have key := compGo_map (own := [4]) (tg := bindG (.nm 4)) (c := evT (fnL code (k + 4)) .yes) (el := evE (fnL code (k + 4)) (.tup (.cons (.var 4) (.cons (.op2 .sub (.pk 0) (.pk 4)) .nil)))) (ρ := [some (I T), some (.sh (rat lo hi)), some (I (fst T lo hi)), some (I (lst T lo hi)), none])
    (fun d => match d with | .int a => rat a (T - a) | _ => .none) ((ri (fst T lo hi) (lst T lo hi + 1)).map PyData.int) [] (by
      rw [List.length_map, ri_len]
      simp only [List.length_nil]
      omega) (fun d hd => by
      obtain ⟨a, _, rfl⟩ := List.mem_map.mp hd
      refine ⟨[some (I T), some (.sh (rat lo hi)), some (I (fst T lo hi)), some (I (lst T lo hi)), some (I a)], [some (I T), some (.sh (rat lo hi)), some (I (fst T lo hi)), some (I (lst T lo hi)), some (I a)], [some (I T), some (.sh (rat lo hi)), some (I (fst T lo hi)), some (I (lst T lo hi)), some (I a)], .sh (rat a (T - a)), rfl, rfl, ?_, rfl, rfl⟩
      trivial)
  rw [List.map_map] at key
  exact key
end K82

namespace K82
open PySem L2 Vx
local macro_rules | `(tactic| trivial) => `(tactic| simp only [Vx.run, evSs, evS, evE, evA, evL, evOE, evT, evI, evTg, evTgs, Arg.get, p1, p2, pNeg, pNot, pAbs_i, pInt, pLen, pList, pTuple, pSum, pMax, pMin, pAll, pAny, pIs, pAdd, pSub, pMul, pFdiv, pMod, pPow, pLt, pLe, pGt, pGe, pEq, pNe, pIsN, pNotN, isNoneD, pIx, pMax2_i, pMin2_i, pGcd_i, pDivmod, inD, isIntD, isBoolD, isTupD, isSeqD, isStrD, isListD, eqD, O.asQ, O.asL, O.asLs, O.asT, O.fz, O.data, fzAll, perms, truthO, truthD, si, sb, List.length_cons, List.length_nil, List.map_cons, List.map_nil, List.cons_append, List.nil_append, List.append_nil, List.replicate_succ, List.replicate_zero, List.getElem?_cons_zero, List.getElem?_cons_succ, List.set_cons_zero, List.set_cons_succ, Option.join_some, Option.bind_some, Option.map_some, Option.bind_none, Option.map_none, Option.isSome_some, free_f, free_t, G.free, bindG, setAll, wipeEv, atI_0, atI_1, ixN_0, ixN_1, if_true, if_false, Bool.false_eq_true, Bool.and_true, Bool.true_and, Bool.and_self, Bool.not_true, Bool.not_false, Bool.or_false, Bool.false_or, Bool.or_true, Bool.true_or, Bool.false_and, Bool.and_false, Nat.zero_add, line_s, line_l, compGo, forGo, Int.cast_ofNat_Int, Int.natCast_one, Int.natCast_zero, Int.mul_one, Int.one_mul, and_true, true_and, and_self, Nat.reduceLeDiff, Nat.reduceAdd, Nat.reduceSub, decide_true, decide_false, isLst, isDct, reduceCtorEq, List.all_cons, List.all_nil, ne_eq, not_false_eq_true, not_true_eq_false, Option.some.injEq, Prod.mk.injEq, *])
/-! ### how far a pair is off -/
theorem gg_dvd_l (a b : Int) : gg a b ∣ a := by
  unfold gg
  exact Int.ofNat_dvd_left.mpr (Nat.gcd_dvd_left _ _)
theorem gg_dvd_r (a b : Int) : gg a b ∣ b := by
  unfold gg
  exact Int.ofNat_dvd_left.mpr (Nat.gcd_dvd_right _ _)
theorem fdiv_mul {x g : Int} (hg : 0 < g) (h : g ∣ x) : x.fdiv g * g = x := by
  rw [Int.fdiv_eq_ediv_of_nonneg _ (by omega)]
  exact Int.ediv_mul_cancel h
theorem gg_fdiv {a b : Int} (hb : 0 < b) : gg (a.fdiv (gg a b)) (b.fdiv (gg a b)) = 1 := by
  have h0 := gg_pos (a := a) hb
  have h1 := fdiv_mul h0 (gg_dvd_l a b)
  have h2 := fdiv_mul h0 (gg_dvd_r a b)
  generalize hx : a.fdiv (gg a b) = x at *
  generalize hy : b.fdiv (gg a b) = y at *
  generalize hg : gg a b = g at *
  have e : gg (x * g) (y * g) = gg x y * g := by
    unfold gg
    rw [Int.natAbs_mul, Int.natAbs_mul, Nat.gcd_mul_right]
    have : (g.natAbs : Int) = g := by omega
    rw [Int.natCast_mul, this]
  rw [h1, h2, hg] at e
  have : (gg x y - 1) * g = 0 := by grind
  rcases Int.mul_eq_zero.mp this with h | h <;> omega
theorem gg_ab (a b : Int) : gg (ab a) b = gg a b := by
  unfold gg ab
  split <;> simp only [Int.natAbs_neg]
/-- how far the pair a, b is off the ratio p, q -/
def EE (p q a b : Int) : D := offD (a.fdiv (gg a b)) (b.fdiv (gg a b)) p q
/-- as a number: u over v, in lowest terms; scaled it is |aq - pb| over bq -/
theorem EE_val {p q a b : Int} (ha : 0 < a) (hb : 0 < b) (hp : 0 < p) (hq : 0 < q) : ∃ u v s : Int, EE p q a b = rat u v ∧ 0 ≤ u ∧ 0 < v ∧ 0 < s ∧ u * s = ab (a * q - p * b) ∧ v * s = b * q ∧ gg u v = 1 := by
  have g0 := gg_pos (a := a) hb
  have h1 := fdiv_mul g0 (gg_dvd_l a b)
  have h2 := fdiv_mul g0 (gg_dvd_r a b)
  unfold EE offD
  generalize a.fdiv (gg a b) = n at *
  generalize b.fdiv (gg a b) = m at *
  generalize gg a b = g at *
  have hm : 0 < m := by
    rcases Int.lt_trichotomy m 0 with h | h | h
    · have := Int.mul_neg_of_neg_of_pos h g0
      omega
    · subst h; simp at h2; omega
    · exact h
  have hy : 0 < m * q := Int.mul_pos hm hq
  have g20 := gg_pos (a := n * q - p * m) hy
  have k1 := fdiv_mul g20 (gg_dvd_l (n * q - p * m) (m * q))
  have k2 := fdiv_mul g20 (gg_dvd_r (n * q - p * m) (m * q))
  have k3 := gg_fdiv (a := n * q - p * m) hy
  generalize hx : (n * q - p * m).fdiv (gg (n * q - p * m) (m * q)) = x at *
  generalize hv : (m * q).fdiv (gg (n * q - p * m) (m * q)) = v at *
  generalize gg (n * q - p * m) (m * q) = g2 at *
  have hv0 : 0 < v := by
    rcases Int.lt_trichotomy v 0 with h | h | h
    · have := Int.mul_neg_of_neg_of_pos h g20
      omega
    · subst h; simp at k2; omega
    · exact h
  have hs : 0 < g * g2 := Int.mul_pos g0 g20
  refine ⟨ab x, v, g * g2, rfl, by unfold ab; split <;> omega, hv0, hs, ?_, by rw [← h2]; grind, by rw [gg_ab]; exact k3⟩
  have e : a * q - p * b = x * (g * g2) := by rw [← h1, ← h2]; grind
  rw [e]
  unfold ab
  by_cases hx0 : x < 0
  · rw [if_pos hx0, if_pos (Int.mul_neg_of_neg_of_pos hx0 hs), Int.neg_mul]
  · rw [if_neg hx0, if_neg (by have := Int.mul_nonneg (show 0 ≤ x by omega) (show 0 ≤ g * g2 by omega); omega)]
theorem ab_nn (x : Int) : 0 ≤ ab x := by unfold ab; split <;> omega
theorem ab_le {x c : Int} (h1 : -c ≤ x) (h2 : x ≤ c) : ab x ≤ c := by unfold ab; split <;> omega
theorem EE_rv {p q a b : Int} (ha : 0 < a) (hb : 0 < b) (ha1 : a ≤ 10 ^ 6) (hb1 : b ≤ 10 ^ 6) (R : Rt p q) : RV (EE p q a b) := by
  obtain ⟨u, v, s, e, h1, h2, h3, h4, h5, _⟩ := EE_val ha hb R.p0 R.q0
  have R3 := R.p1
  have R4 := R.q1
  have R1 := R.p0
  have R2 := R.q0
  have m1 : b * q ≤ 10 ^ 6 * 10 ^ 6 := Int.mul_le_mul hb1 R4 (by omega) (by decide)
  have m2 : a * q ≤ 10 ^ 6 * 10 ^ 6 := Int.mul_le_mul ha1 R4 (by omega) (by decide)
  have m3 : p * b ≤ 10 ^ 6 * 10 ^ 6 := Int.mul_le_mul R3 hb1 (by omega) (by decide)
  have m4 : 0 ≤ a * q := Int.mul_nonneg (by omega) (by omega)
  have m5 : 0 ≤ p * b := Int.mul_nonneg (by omega) (by omega)
  have m6 : (10 : Int) ^ 6 * 10 ^ 6 = 10 ^ 12 := by decide
  have c1 : ab (a * q - p * b) ≤ 10 ^ 12 := ab_le (by omega) (by omega)
  have c2 : u * 1 ≤ u * s := Int.mul_le_mul_of_nonneg_left (by omega) h1
  have c3 : v * 1 ≤ v * s := Int.mul_le_mul_of_nonneg_left (by omega) (by omega)
  rw [e]
  exact RV.mk' h1 (by omega) h2 (by omega)
/-- below, told without the common parts -/
theorem EE_less {p q a b c d : Int} (ha : 0 < a) (hb : 0 < b) (hc : 0 < c) (hd : 0 < d) (hp : 0 < p) (hq : 0 < q) : lessD (EE p q a b) (EE p q c d) = decide (ab (a * q - p * b) * d < ab (c * q - p * d) * b) := by
  obtain ⟨u, v, s, e, h1, h2, h3, h4, h5, _⟩ := EE_val ha hb hp hq
  obtain ⟨u', v', s', e', h1', h2', h3', h4', h5', _⟩ := EE_val hc hd hp hq
  rw [e, e']
  simp only [lessD]
  refine decide_eq_decide.mpr ?_
  have hs : 0 < s * s' := Int.mul_pos h3 h3'
  have i1 : u * v' * (s * s') = ab (a * q - p * b) * d * q := by
    have : u * v' * (s * s') = (u * s) * (v' * s') := by grind
    rw [this, h4, h5']; grind
  have i2 : u' * v * (s * s') = ab (c * q - p * d) * b * q := by
    have : u' * v * (s * s') = (u' * s') * (v * s) := by grind
    rw [this, h4', h5]; grind
  constructor
  · intro h
    have : u * v' * (s * s') < u' * v * (s * s') := Int.mul_lt_mul_of_pos_right h hs
    rw [i1, i2] at this
    exact Int.lt_of_mul_lt_mul_right this (by omega)
  · intro h
    have : ab (a * q - p * b) * d * q < ab (c * q - p * d) * b * q := Int.mul_lt_mul_of_pos_right h hq
    rw [← i1, ← i2] at this
    exact Int.lt_of_mul_lt_mul_right this (by omega)
/-- neither below the other: the same ratio -/
theorem EE_same {p q a b c d : Int} (ha : 0 < a) (hb : 0 < b) (hc : 0 < c) (hd : 0 < d) (hp : 0 < p) (hq : 0 < q) (h1 : lessD (EE p q a b) (EE p q c d) = false) (h2 : lessD (EE p q c d) (EE p q a b) = false) : EE p q a b = EE p q c d := by
  obtain ⟨u, v, s, e, u0, v0, _, _, _, g1⟩ := EE_val ha hb hp hq
  obtain ⟨u', v', s', e', u0', v0', _, _, _, g2⟩ := EE_val hc hd hp hq
  rw [e, e'] at h1 h2 ⊢
  simp only [lessD, decide_eq_false_iff_not] at h1 h2
  have h : u * v' = u' * v := by omega
  -- lowest terms
  have d1 : v ∣ v' := by
    have : v ∣ u * v' := ⟨u', by rw [h]; grind⟩
    have cop : v.natAbs.Coprime u.natAbs := by
      unfold gg at g1
      have : Nat.gcd u.natAbs v.natAbs = 1 := by omega
      rwa [Nat.Coprime, Nat.gcd_comm]
    have k : v.natAbs ∣ u.natAbs * v'.natAbs := by
      have := Int.natAbs_dvd_natAbs.mpr this
      rwa [Int.natAbs_mul] at this
    exact Int.natAbs_dvd_natAbs.mp (cop.dvd_of_dvd_mul_left k)
  have d2 : v' ∣ v := by
    have : v' ∣ u' * v := ⟨u, by rw [← h]; grind⟩
    have cop : v'.natAbs.Coprime u'.natAbs := by
      unfold gg at g2
      have : Nat.gcd u'.natAbs v'.natAbs = 1 := by omega
      rwa [Nat.Coprime, Nat.gcd_comm]
    have k : v'.natAbs ∣ u'.natAbs * v.natAbs := by
      have := Int.natAbs_dvd_natAbs.mpr this
      rwa [Int.natAbs_mul] at this
    exact Int.natAbs_dvd_natAbs.mp (cop.dvd_of_dvd_mul_left k)
  have ev : v = v' := by
    have := Int.le_of_dvd v0' d1
    have := Int.le_of_dvd v0 d2
    omega
  subst ev
  have eu : u = u' := Int.eq_of_mul_eq_mul_right (by omega) h
  rw [eu]
/-- the nearest of a sum, as it is told -/
def pick2 (d e : D) : D := if lessD e d then e else d
def nearD (p q T lo hi : Int) : D := pick2 (EE p q (mn (mx ((T * p).fdiv (p + q)) (fst T lo hi)) (lst T lo hi)) (T - mn (mx ((T * p).fdiv (p + q)) (fst T lo hi)) (lst T lo hi)))
  (EE p q (mn (mx ((T * p).fdiv (p + q) + 1) (fst T lo hi)) (lst T lo hi)) (T - mn (mx ((T * p).fdiv (p + q) + 1) (fst T lo hi)) (lst T lo hi)))
theorem clamp {x f l : Int} (h : f ≤ l) : f ≤ mn (mx x f) l ∧ mn (mx x f) l ≤ l := by
  unfold mn mx
  split <;> split <;> omega
/-- it is one of the pairs', and none is nearer -/
theorem near_ok {p q T lo hi : Int} (L : Lim lo hi) (R : Rt p q) (h1 : 2 * lo ≤ T) (h2 : T ≤ 2 * hi) : (∃ c, fst T lo hi ≤ c ∧ c ≤ lst T lo hi ∧ nearD p q T lo hi = EE p q c (T - c)) ∧
    ∀ a, fst T lo hi ≤ a → a ≤ lst T lo hi → lessD (EE p q a (T - a)) (nearD p q T lo hi) = false := by
  have hL := L.a
  have hL2 := L.b
  have R1 := R.p0
  have R2 := R.q0
  have f0 : 0 < fst T lo hi ∧ fst T lo hi ≤ lst T lo hi ∧ lst T lo hi < T := by
    unfold fst lst mx mn
    split <;> split <;> omega
  obtain ⟨f1, f2, f3⟩ := f0
  unfold nearD
  generalize fst T lo hi = f at *
  generalize lst T lo hi = l at *
  generalize hn : (T * p).fdiv (p + q) = n
  have hn1 : n * (p + q) ≤ T * p := by
    rw [← hn, Int.fdiv_eq_ediv_of_nonneg _ (by omega)]
    exact Int.ediv_mul_le _ (by omega)
  have hn2 : T * p < (n + 1) * (p + q) := by
    rw [← hn, Int.fdiv_eq_ediv_of_nonneg _ (by omega)]
    exact Int.lt_ediv_add_one_mul_self _ (by omega)
  have hT : 0 < T := by omega
  obtain ⟨a1, a2⟩ := clamp (x := n) f2
  obtain ⟨b1, b2⟩ := clamp (x := n + 1) f2
  have c1 : ∀ a, f ≤ a → a ≤ n → a ≤ l → a ≤ mn (mx n f) l ∧ mn (mx n f) l ≤ n := by
    intro a h1 h2 h3
    unfold mn mx
    split <;> split <;> omega
  have c2 : ∀ a, f ≤ a → n < a → a ≤ l → mn (mx (n + 1) f) l ≤ a ∧ n < mn (mx (n + 1) f) l := by
    intro a h1 h2 h3
    unfold mn mx
    split <;> split <;> omega
  generalize mn (mx n f) l = x0 at *
  generalize mn (mx (n + 1) f) l = x1 at *
  -- the distances
  have hx : ∀ x, x * q - p * (T - x) = x * (p + q) - T * p := fun x => by grind
  have low : ∀ x, x ≤ n → ab (x * q - p * (T - x)) = T * p - x * (p + q) := fun x h => by
    rw [hx]
    have : x * (p + q) ≤ n * (p + q) := Int.mul_le_mul_of_nonneg_right h (by omega)
    unfold ab
    split <;> omega
  have up : ∀ x, n < x → ab (x * q - p * (T - x)) = x * (p + q) - T * p := fun x h => by
    rw [hx]
    have : (n + 1) * (p + q) ≤ x * (p + q) := Int.mul_le_mul_of_nonneg_right (by omega) (by omega)
    unfold ab
    rw [if_neg (by omega)]
  have lt : ∀ a c, f ≤ a → a ≤ l → f ≤ c → c ≤ l → lessD (EE p q a (T - a)) (EE p q c (T - c)) = decide (ab (a * q - p * (T - a)) * (T - c) < ab (c * q - p * (T - c)) * (T - a)) := fun a c h1 h2 h3 h4 => EE_less (by omega) (by omega) (by omega) (by omega) R1 R2
  have best : ∀ a, f ≤ a → a ≤ l → lessD (EE p q a (T - a)) (EE p q x0 (T - x0)) = false ∨ lessD (EE p q a (T - a)) (EE p q x1 (T - x1)) = false := by
    intro a h1 h2
    by_cases h : a ≤ n
    · left
      obtain ⟨k1, k2⟩ := c1 a h1 h h2
      rw [lt a x0 h1 h2 a1 a2, low a h, low x0 k2]
      refine decide_eq_false ?_
      have e : (T * p - x0 * (p + q)) * (T - a) - (T * p - a * (p + q)) * (T - x0) = -(q * T * (x0 - a)) := by grind
      have : 0 ≤ q * T * (x0 - a) := Int.mul_nonneg (Int.mul_nonneg (by omega) (by omega)) (by omega)
      omega
    · right
      obtain ⟨k1, k2⟩ := c2 a h1 (by omega) h2
      rw [lt a x1 h1 h2 b1 b2, up a (by omega), up x1 k2]
      refine decide_eq_false ?_
      have e : (x1 * (p + q) - T * p) * (T - a) - (a * (p + q) - T * p) * (T - x1) = -(q * T * (a - x1)) := by grind
      have : 0 ≤ q * T * (a - x1) := Int.mul_nonneg (Int.mul_nonneg (by omega) (by omega)) (by omega)
      omega
  -- below is carried over
  have tr : ∀ a c d, f ≤ a → a ≤ l → f ≤ c → c ≤ l → f ≤ d → d ≤ l → lessD (EE p q a (T - a)) (EE p q c (T - c)) = false → lessD (EE p q c (T - c)) (EE p q d (T - d)) = false → lessD (EE p q a (T - a)) (EE p q d (T - d)) = false := by
    intro a c d h1 h2 h3 h4 h5 h6 k1 k2
    rw [lt a c h1 h2 h3 h4, decide_eq_false_iff_not] at k1
    rw [lt c d h3 h4 h5 h6, decide_eq_false_iff_not] at k2
    rw [lt a d h1 h2 h5 h6, decide_eq_false_iff_not]
    generalize ab (a * q - p * (T - a)) = A at *
    generalize ab (c * q - p * (T - c)) = C at *
    generalize ab (d * q - p * (T - d)) = Dd at *
    intro k3
    have p1 : C * (T - a) * (T - d) ≤ A * (T - c) * (T - d) := Int.mul_le_mul_of_nonneg_right (by omega) (by omega)
    have p2 : Dd * (T - c) * (T - a) ≤ C * (T - d) * (T - a) := Int.mul_le_mul_of_nonneg_right (by omega) (by omega)
    have p3 : A * (T - d) * (T - c) < Dd * (T - a) * (T - c) := Int.mul_lt_mul_of_pos_right k3 (by omega)
    have e1 : C * (T - a) * (T - d) = C * (T - d) * (T - a) := by grind
    have e2 : A * (T - c) * (T - d) = A * (T - d) * (T - c) := by grind
    have e3 : Dd * (T - c) * (T - a) = Dd * (T - a) * (T - c) := by grind
    omega
  unfold pick2
  cases hl : lessD (EE p q x1 (T - x1)) (EE p q x0 (T - x0)) with
  | true =>
    rw [if_pos rfl]
    refine ⟨⟨x1, b1, b2, rfl⟩, fun a h1 h2 => ?_⟩
    rcases best a h1 h2 with h | h
    · have k : lessD (EE p q x0 (T - x0)) (EE p q x1 (T - x1)) = false := by
        rw [lt x0 x1 a1 a2 b1 b2, decide_eq_false_iff_not]
        rw [lt x1 x0 b1 b2 a1 a2, decide_eq_true_eq] at hl
        omega
      exact tr a x0 x1 h1 h2 a1 a2 b1 b2 h k
    · exact h
  | false =>
    rw [if_neg Bool.false_ne_true]
    refine ⟨⟨x0, a1, a2, rfl⟩, fun a h1 h2 => ?_⟩
    rcases best a h1 h2 with h | h
    · exact h
    · exact tr a x1 x0 h1 h2 b1 b2 a1 a2 h hl
end K82

namespace K82
open PySem L2 Vx
local macro_rules | `(tactic| trivial) => `(tactic| simp only [Vx.run, evSs, evS, evE, evA, evL, evOE, evT, evI, evTg, evTgs, Arg.get, p1, p2, pNeg, pNot, pAbs_i, pInt, pLen, pList, pTuple, pSum, pMax, pMin, pAll, pAny, pIs, pAdd, pSub, pMul, pFdiv, pMod, pPow, pLt, pLe, pGt, pGe, pEq, pNe, pIsN, pNotN, isNoneD, pIx, pMax2_i, pMin2_i, pGcd_i, pDivmod, inD, isIntD, isBoolD, isTupD, isSeqD, isStrD, isListD, eqD, O.asQ, O.asL, O.asLs, O.asT, O.fz, O.data, fzAll, perms, truthO, truthD, si, sb, List.length_cons, List.length_nil, List.map_cons, List.map_nil, List.cons_append, List.nil_append, List.append_nil, List.replicate_succ, List.replicate_zero, List.getElem?_cons_zero, List.getElem?_cons_succ, List.set_cons_zero, List.set_cons_succ, Option.join_some, Option.bind_some, Option.map_some, Option.bind_none, Option.map_none, Option.isSome_some, free_f, free_t, G.free, bindG, setAll, wipeEv, atI_0, atI_1, ixN_0, ixN_1, if_true, if_false, Bool.false_eq_true, Bool.and_true, Bool.true_and, Bool.and_self, Bool.not_true, Bool.not_false, Bool.or_false, Bool.false_or, Bool.or_true, Bool.true_or, Bool.false_and, Bool.and_false, Nat.zero_add, line_s, line_l, compGo, forGo, Int.cast_ofNat_Int, Int.natCast_one, Int.natCast_zero, Int.mul_one, Int.one_mul, and_true, true_and, and_self, Nat.reduceLeDiff, Nat.reduceAdd, Nat.reduceSub, decide_true, decide_false, isLst, isDct, reduceCtorEq, List.all_cons, List.all_nil, ne_eq, not_false_eq_true, not_true_eq_false, Option.some.injEq, Prod.mk.injEq, *])
theorem nearest_ev (k : Nat) {p q T lo hi : Int} (L : Lim lo hi) (R : Rt p q) (h1 : 2 * lo ≤ T) (h2 : T ≤ 2 * hi) : fnL code (k + 4) "sums_nearest" [.sh (rat p q), I T, .sh (rat lo hi)] = some (.sh (nearD p q T lo hi), N0) := by
  have hL := L.a
  have hL2 := L.b
  have hL3 := L.c
  have R1 := R.p0
  have R2 := R.q0
  have R3 := R.p1
  have R4 := R.q1
  have f0 : 6 ≤ fst T lo hi ∧ fst T lo hi ≤ lst T lo hi ∧ lst T lo hi ≤ T - 6 := by
    unfold fst lst mx mn
    split <;> split <;> omega
  have rv : ∀ c, fst T lo hi ≤ c → c ≤ lst T lo hi → RV (EE p q c (T - c)) := fun c h1 h2 => EE_rv (by omega) (by omega) (by omega) (by omega) R
  have mk : ∀ c, fst T lo hi ≤ c → c ≤ lst T lo hi → fnL code (k + 3) "made" [I c, I (T - c)] = some (.sh (red c (T - c)), N0) := fun c h1 h2 => made_ev (k + 2) c (T - c) (by omega) (by omega)
  have ap : ∀ c, fst T lo hi ≤ c → c ≤ lst T lo hi → fnL code (k + 3) "apart" [.sh (red c (T - c)), .sh (rat p q)] = some (.sh (EE p q c (T - c)), N0) := fun c h1 h2 => by
    have g0 := gg_pos (a := c) (show 0 < T - c by omega)
    have b1 : 0 ≤ c.fdiv (gg c (T - c)) ∧ c.fdiv (gg c (T - c)) ≤ c := by
      rw [Int.fdiv_eq_ediv_of_nonneg _ (by omega)]
      exact ⟨Int.ediv_nonneg (by omega) (by omega), Int.ediv_le_self _ (by omega)⟩
    have b2 : (T - c).fdiv (gg c (T - c)) ≤ T - c := by
      rw [Int.fdiv_eq_ediv_of_nonneg _ (by omega)]
      exact Int.ediv_le_self _ (by omega)
    have b3 : 0 < (T - c).fdiv (gg c (T - c)) := by
      have h2 := fdiv_mul g0 (gg_dvd_r c (T - c))
      rcases Int.lt_trichotomy ((T - c).fdiv (gg c (T - c))) 0 with h | h | h
      · have := Int.mul_neg_of_neg_of_pos h g0
        omega
      · rw [h] at h2; omega
      · exact h
    exact apart_ev k b1.1 (by omega) b3 (by omega) (by omega) (by omega) R2 (by omega)
  obtain ⟨a1, a2⟩ := clamp (x := (T * p).fdiv (p + q)) f0.2.1
  obtain ⟨b1, b2⟩ := clamp (x := (T * p).fdiv (p + q) + 1) f0.2.1
  have m0 := mk _ a1 a2
  have m1 := mk _ b1 b2
  have p0 := ap _ a1 a2
  have p1 := ap _ b1 b2
  have ls := r_less_ev (k + 2) (rv _ b1 b2) (rv _ a1 a2)
  have g1 : bigOk T = true := big_i (by omega) (by omega)
  have g2 : bigOk p = true := big_i (by omega) (by omega)
  have g3 : bigOk (p + q) = true := big_i (by omega) (by omega)
  have g4 : p + q ≠ 0 := by omega
  rw [fnL_eq cl_sums_nearest]
  unfold nearD pick2
  clear mk ap rv
  generalize hf : fst T lo hi = f at *
  generalize hl : lst T lo hi = l at *
  have hf' : mx lo (T - hi) = f := hf
  have hl' : mn hi (T - lo) = l := hl
  generalize hn : (T * p).fdiv (p + q) = n at *
  generalize hx0 : mn (mx n f) l = x0 at *
  generalize hx1 : mn (mx (n + 1) f) l = x1 at *
  clear hf hl a1 a2 b1 b2 f0
  refine run_f (ρ := [some (.sh (rat p q)), some (I T), some (.sh (rat lo hi)), some (I n), some (.sh (.list [.int x0, .int x1])), some (.lst [EE p q x0 (T - x0), EE p q x1 (T - x1)]), some (I f), some (I l), none]) ?_
  show evSs _ _ ir_sums_nearest [some (.sh (rat p q)), some (I T), some (.sh (rat lo hi)), none, none, none, none, none, none] = _
  unfold ir_sums_nearest
  refine (seq_nx (ρ1 := [some (.sh (rat p q)), some (I T), some (.sh (rat lo hi)), none, none, none, some (I f), some (I l), none]) (by trivial)).trans ?_
  refine (seq_nx (ρ1 := [some (.sh (rat p q)), some (I T), some (.sh (rat lo hi)), some (I n), none, none, some (I f), some (I l), none]) (by trivial)).trans ?_
  refine (seq_nx (ρ1 := [some (.sh (rat p q)), some (I T), some (.sh (rat lo hi)), some (I n), some (.lst [.int x0, .int x1]), none, some (I f), some (I l), none]) (by trivial)).trans ?_
  refine (seq_nx (ρ1 := [some (.sh (rat p q)), some (I T), some (.sh (rat lo hi)), some (I n), some (.sh (.list [.int x0, .int x1])), some (.lst [EE p q x0 (T - x0), EE p q x1 (T - x1)]), some (I f), some (I l), none]) (by trivial)).trans ?_
  refine seq_rt ?_
  cases hh : lessD (EE p q x1 (T - x1)) (EE p q x0 (T - x0)) <;> rw [hh] at ls <;> trivial
end K82

namespace K82
open PySem L2 Vx
local macro_rules | `(tactic| trivial) => `(tactic| simp only [Vx.run, evSs, evS, evE, evA, evL, evOE, evT, evI, evTg, evTgs, Arg.get, p1, p2, pNeg, pNot, pAbs_i, pInt, pLen, pList, pTuple, pSum, pMax, pMin, pAll, pAny, pIs, pAdd, pSub, pMul, pFdiv, pMod, pPow, pLt, pLe, pGt, pGe, pEq, pNe, pIsN, pNotN, isNoneD, pIx, pMax2_i, pMin2_i, pGcd_i, pDivmod, inD, isIntD, isBoolD, isTupD, isSeqD, isStrD, isListD, eqD, O.asQ, O.asL, O.asLs, O.asT, O.fz, O.data, fzAll, perms, truthO, truthD, si, sb, List.length_cons, List.length_nil, List.map_cons, List.map_nil, List.cons_append, List.nil_append, List.append_nil, List.replicate_succ, List.replicate_zero, List.getElem?_cons_zero, List.getElem?_cons_succ, List.set_cons_zero, List.set_cons_succ, Option.join_some, Option.bind_some, Option.map_some, Option.bind_none, Option.map_none, Option.isSome_some, free_f, free_t, G.free, bindG, setAll, wipeEv, atI_0, atI_1, ixN_0, ixN_1, if_true, if_false, Bool.false_eq_true, Bool.and_true, Bool.true_and, Bool.and_self, Bool.not_true, Bool.not_false, Bool.or_false, Bool.false_or, Bool.or_true, Bool.true_or, Bool.false_and, Bool.and_false, Nat.zero_add, line_s, line_l, compGo, forGo, Int.cast_ofNat_Int, Int.natCast_one, Int.natCast_zero, Int.mul_one, Int.one_mul, and_true, true_and, and_self, Nat.reduceLeDiff, Nat.reduceAdd, Nat.reduceSub, decide_true, decide_false, isLst, isDct, reduceCtorEq, List.all_cons, List.all_nil, ne_eq, not_false_eq_true, not_true_eq_false, Option.some.injEq, Prod.mk.injEq, *])
def rats (rs : List (Int × Int)) : List D := rs.map fun r => rat r.1 r.2
def wstep (lo hi T : Int) (w : D) (r : Int × Int) : D := if lessD w (nearD r.1 r.2 T lo hi) then nearD r.1 r.2 T lo hi else w
def worst (lo hi : Int) (rs : List (Int × Int)) (T : Int) : D := rs.foldl (wstep lo hi T) (rat 0 1)
def bstep (W : Int → D) (st : Option (D × Int)) (T : Int) : Option (D × Int) := match st with
  | none => some (W T, T)
  | some x => if lessD (W T) x.1 then some (W T, T) else some x
def en1 : Option (D × Int) → D
  | none => .none
  | some x => x.1
def en2 : Option (D × Int) → D
  | none => .none
  | some x => .int x.2
def bestF (W : Int → D) (Ts : List Int) : Option (D × Int) := Ts.foldl (bstep W) none
theorem near_rv {p q T lo hi : Int} (L : Lim lo hi) (R : Rt p q) (h1 : 2 * lo ≤ T) (h2 : T ≤ 2 * hi) : RV (nearD p q T lo hi) := by
  obtain ⟨⟨c, c1, c2, e⟩, _⟩ := near_ok L R h1 h2
  have hL := L.a
  have hL2 := L.b
  have hL3 := L.c
  have f0 : 6 ≤ fst T lo hi ∧ lst T lo hi ≤ T - 6 := by
    unfold fst lst mx mn
    split <;> split <;> omega
  rw [e]
  exact EE_rv (by omega) (by omega) (by omega) (by omega) R
theorem wstep_rv {lo hi T : Int} {w : D} {r : Int × Int} (hw : RV w) (hn : RV (nearD r.1 r.2 T lo hi)) : RV (wstep lo hi T w r) := by
  unfold wstep
  split
  · exact hn
  · exact hw
theorem foldl_rv {lo hi T : Int} : ∀ {rs : List (Int × Int)} {w : D}, RV w → (∀ r ∈ rs, RV (nearD r.1 r.2 T lo hi)) → RV (rs.foldl (wstep lo hi T) w)
  | [], _, h, _ => h
  | r :: rs, w, h, hn => by
    rw [List.foldl_cons]
    exact foldl_rv (wstep_rv h (hn r (List.mem_cons_self ..))) fun x hx => hn x (List.mem_cons_of_mem _ hx)
theorem rv01 : RV (rat 0 1) := RV.mk' (by decide) (by decide) (by decide) (by decide)
/-- the inner loop of best_sum: one sum -/
theorem best_inner (k : Nat) {lo hi T : Int} (L : Lim lo hi) (h1 : 2 * lo ≤ T) (h2 : T ≤ 2 * hi) {q s3 s4 : D} (rs : List (Int × Int)) (hR : ∀ r ∈ rs, Rt r.1 r.2) (w0 : D) (hw0 : RV w0) (s6 : Option O) : ∃ s6', forGo (bindG (.nm 6)) (evSs (fnL code (k + 4)) false (S.body (SL.nth (S.body (SL.nth ir_best_sum 3)) 1))) (rats rs) [some (.sh q), some (.sh (rat lo hi)), some (I T), some (.sh s3), some (.sh s4), some (.sh w0), s6, none] =
    some (.nx [some (.sh q), some (.sh (rat lo hi)), some (I T), some (.sh s3), some (.sh s4), some (.sh (rs.foldl (wstep lo hi T) w0)), s6', none]) := by
  induction rs generalizing w0 s6 with
  | nil => exact ⟨s6, rfl⟩
  | cons r rs ih =>
    have R := hR r (List.mem_cons_self ..)
    have hn := near_rv L R h1 h2
    have e1 := nearest_ev k L R h1 h2
    have e2 := greater_ev (k + 2) hw0 hn
    obtain ⟨s6', e3⟩ := ih (fun x hx => hR x (List.mem_cons_of_mem _ hx)) (wstep lo hi T w0 r) (wstep_rv hw0 hn) (some (.sh (rat r.1 r.2)))
    refine ⟨s6', ?_⟩
    rw [List.foldl_cons, ← e3]
    have st : evSs (fnL code (k + 4)) false (S.body (SL.nth (S.body (SL.nth ir_best_sum 3)) 1)) [some (.sh q), some (.sh (rat lo hi)), some (I T), some (.sh s3), some (.sh s4), some (.sh w0), some (.sh (rat r.1 r.2)), none] =
        some (.nx [some (.sh q), some (.sh (rat lo hi)), some (I T), some (.sh s3), some (.sh s4), some (.sh (wstep lo hi T w0 r)), some (.sh (rat r.1 r.2)), none]) := by
      simp only [SL.nth, S.body, ir_best_sum]
      replace e2 : fnL code (k + 4) "greater_of" [.sh w0, .sh (nearD r.1 r.2 T lo hi)] = some (.sh (wstep lo hi T w0 r), N0) := e2
      clear e3 ih hR
      generalize rat r.1 r.2 = rr at *
      generalize nearD r.1 r.2 T lo hi = nn at *
      trivial
    exact forGo_nx rfl st
/-- one sum, weighed -/
theorem best_one (k : Nat) {lo hi T : Int} (L : Lim lo hi) (h1 : 2 * lo ≤ T) (h2 : T ≤ 2 * hi) {q : D} (rs : List (Int × Int)) (hR : ∀ r ∈ rs, Rt r.1 r.2) (hq : q = .list (rats rs) ∨ q = .tuple (rats rs)) (st : Option (D × Int)) (hst : ∀ x, st = some x → RV x.1) (s5 s6 : Option O) :
    ∃ s5' s6', evSs (fnL code (k + 4)) false (S.body (SL.nth ir_best_sum 3)) [some (.sh q), some (.sh (rat lo hi)), some (I T), some (.sh (en1 st)), some (.sh (en2 st)), s5, s6, none] =
      some (.nx [some (.sh q), some (.sh (rat lo hi)), some (I T), some (.sh (en1 (bstep (worst lo hi rs) st T))), some (.sh (en2 (bstep (worst lo hi rs) st T))), s5', s6', none]) := by
  have hw : RV (worst lo hi rs T) := foldl_rv rv01 fun r hr => near_rv L (hR r hr) h1 h2
  obtain ⟨s6', e1⟩ := best_inner k L h1 h2 (q := q) (s3 := en1 st) (s4 := en2 st) rs hR (rat 0 1) rv01 s6
  refine ⟨some (.sh (worst lo hi rs T)), s6', ?_⟩
  replace e1 : evS (fnL code (k + 4)) false (SL.nth (S.body (SL.nth ir_best_sum 3)) 1) [some (.sh q), some (.sh (rat lo hi)), some (I T), some (.sh (en1 st)), some (.sh (en2 st)), some (.sh (rat 0 1)), s6, none] =
      some (.nx [some (.sh q), some (.sh (rat lo hi)), some (I T), some (.sh (en1 st)), some (.sh (en2 st)), some (.sh (worst lo hi rs T)), s6', none]) := by
    refine for_ev (ds := rats rs) (ρ1 := [some (.sh q), some (.sh (rat lo hi)), some (I T), some (.sh (en1 st)), some (.sh (en2 st)), some (.sh (rat 0 1)), s6, none]) ?_ rfl e1
    rcases hq with rfl | rfl <;> trivial
  show evSs _ _ (.cons _ (.cons (SL.nth (S.body (SL.nth ir_best_sum 3)) 1) _)) _ = _
  refine (seq_nx (ρ1 := [some (.sh q), some (.sh (rat lo hi)), some (I T), some (.sh (en1 st)), some (.sh (en2 st)), some (.sh (rat 0 1)), s6, none]) (by trivial)).trans ?_
  refine (seq_nx e1).trans ?_
  clear e1
  cases st with
  | none =>
    simp only [bstep, en1, en2]
    generalize worst lo hi rs T = w at *
    trivial
  | some x =>
    obtain ⟨b, f⟩ := x
    have hb : RV b := hst (b, f) rfl
    have e2 := r_less_ev (k + 3) hw hb
    clear hst
    obtain ⟨n, m, hb, _⟩ := hb.ex
    subst hb
    simp only [bstep, en1, en2]
    generalize worst lo hi rs T = w at *
    cases hl : lessD w (rat n m) <;> rw [hl] at e2 <;> trivial
end K82

namespace K82
open PySem L2 Vx
local macro_rules | `(tactic| trivial) => `(tactic| simp only [Vx.run, evSs, evS, evE, evA, evL, evOE, evT, evI, evTg, evTgs, Arg.get, p1, p2, pNeg, pNot, pAbs_i, pInt, pLen, pList, pTuple, pSum, pMax, pMin, pAll, pAny, pIs, pAdd, pSub, pMul, pFdiv, pMod, pPow, pLt, pLe, pGt, pGe, pEq, pNe, pIsN, pNotN, isNoneD, pIx, pMax2_i, pMin2_i, pGcd_i, pDivmod, inD, isIntD, isBoolD, isTupD, isSeqD, isStrD, isListD, eqD, O.asQ, O.asL, O.asLs, O.asT, O.fz, O.data, fzAll, perms, truthO, truthD, si, sb, List.length_cons, List.length_nil, List.map_cons, List.map_nil, List.cons_append, List.nil_append, List.append_nil, List.replicate_succ, List.replicate_zero, List.getElem?_cons_zero, List.getElem?_cons_succ, List.set_cons_zero, List.set_cons_succ, Option.join_some, Option.bind_some, Option.map_some, Option.bind_none, Option.map_none, Option.isSome_some, free_f, free_t, G.free, bindG, setAll, wipeEv, atI_0, atI_1, ixN_0, ixN_1, if_true, if_false, Bool.false_eq_true, Bool.and_true, Bool.true_and, Bool.and_self, Bool.not_true, Bool.not_false, Bool.or_false, Bool.false_or, Bool.or_true, Bool.true_or, Bool.false_and, Bool.and_false, Nat.zero_add, line_s, line_l, compGo, forGo, Int.cast_ofNat_Int, Int.natCast_one, Int.natCast_zero, Int.mul_one, Int.one_mul, and_true, true_and, and_self, Nat.reduceLeDiff, Nat.reduceAdd, Nat.reduceSub, decide_true, decide_false, isLst, isDct, reduceCtorEq, List.all_cons, List.all_nil, ne_eq, not_false_eq_true, not_true_eq_false, Option.some.injEq, Prod.mk.injEq, *])
theorem bstep_rv {W : Int → D} {st : Option (D × Int)} {T : Int} (hW : RV (W T)) (hst : ∀ x, st = some x → RV x.1) : ∀ x, bstep W st T = some x → RV x.1 := by
  intro x h
  cases st with
  | none => simp only [bstep, Option.some.injEq] at h; subst h; exact hW
  | some y =>
    simp only [bstep] at h
    split at h
    · cases h; exact hW
    · cases h; exact hst _ rfl
theorem best_loop (k : Nat) {lo hi : Int} (L : Lim lo hi) {q : D} (rs : List (Int × Int)) (hR : ∀ r ∈ rs, Rt r.1 r.2) (hq : q = .list (rats rs) ∨ q = .tuple (rats rs)) : ∀ (Ts : List Int), (∀ T ∈ Ts, 2 * lo ≤ T ∧ T ≤ 2 * hi) → ∀ (st : Option (D × Int)), (∀ x, st = some x → RV x.1) → ∀ (s2 s5 s6 : Option O),
    ∃ s2' s5' s6', forGo (bindG (.nm 2)) (evSs (fnL code (k + 4)) false (S.body (SL.nth ir_best_sum 3))) (Ts.map PyData.int) [some (.sh q), some (.sh (rat lo hi)), s2, some (.sh (en1 st)), some (.sh (en2 st)), s5, s6, none] =
      some (.nx [some (.sh q), some (.sh (rat lo hi)), s2', some (.sh (en1 (Ts.foldl (bstep (worst lo hi rs)) st))), some (.sh (en2 (Ts.foldl (bstep (worst lo hi rs)) st))), s5', s6', none])
  | [], _, st, _, s2, s5, s6 => ⟨s2, s5, s6, rfl⟩
  | T :: Ts, hT, st, hst, s2, s5, s6 => by
    obtain ⟨h1, h2⟩ := hT T (List.mem_cons_self ..)
    obtain ⟨s5', s6', e1⟩ := best_one k L h1 h2 rs hR hq st hst s5 s6
    obtain ⟨t2, t5, t6, e2⟩ := best_loop k L rs hR hq Ts (fun x hx => hT x (List.mem_cons_of_mem _ hx)) (bstep (worst lo hi rs) st T) (bstep_rv (foldl_rv rv01 fun r hr => near_rv L (hR r hr) h1 h2) hst) (some (I T)) s5' s6'
    refine ⟨t2, t5, t6, ?_⟩
    rw [List.map_cons, List.foldl_cons, ← e2]
    exact forGo_nx rfl e1
theorem is_list_ev (k : Nat) {q : D} {ds : List D} (hq : q = .list ds ∨ q = .tuple ds) : fnL code (k + 1) "is_list" [.sh q] = some (.sh (.bool true), N0) := by
  rw [fnL_eq cl_is_list]
  simp only [ir_is_list]
  rcases hq with rfl | rfl <;> trivial
theorem best_sum_ev (k : Nat) {lo hi : Int} (L : Lim lo hi) (rs : List (Int × Int)) (hR : ∀ r ∈ rs, Rt r.1 r.2) (hl1 : 1 ≤ rs.length) (hl5 : rs.length ≤ 5) {o : O} (ho : o = .sh (.list (rats rs)) ∨ o = .sh (.tuple (rats rs)) ∨ o = .lst (rats rs)) :
    fnL code (k + 5) "best_sum" [o, .sh (rat lo hi)] = some (.sh (en2 (bestF (worst lo hi rs) (ri (2 * lo) (2 * hi + 1)))), N0) := by
  have hLa := L.a
  have hLb := L.b
  have hLc := L.c
  have len : (rats rs).length = rs.length := by unfold rats; rw [List.length_map]
  have go : ∀ q : D, q = .list (rats rs) ∨ q = .tuple (rats rs) → evS (fnL code (k + 4)) false (SL.nth ir_best_sum 0) [some o, some (.sh (rat lo hi)), none, none, none, none, none, none] = some (.nx [some (.sh q), some (.sh (rat lo hi)), none, none, none, none, none, none]) →
      fnL code (k + 5) "best_sum" [o, .sh (rat lo hi)] = some (.sh (en2 (bestF (worst lo hi rs) (ri (2 * lo) (2 * hi + 1)))), N0) := by
    intro q hq e0
    have e1 := lim_ev k L
    obtain ⟨s2, s5, s6, e2⟩ := best_loop k L rs hR hq (ri (2 * lo) (2 * hi + 1)) (fun T hT => by rw [mem_ri] at hT; omega) none (fun x h => by cases h) none none none
    have i1 : i62 (2 * lo) = true := i62_of (by omega) (by omega)
    have i2 : i62 (2 * hi + 1) = true := i62_of (by omega) (by omega)
    have b1 : bigOk 2 = true := big_i (by decide) (by decide)
    have b2 : bigOk lo = true := big_i (by omega) (by omega)
    have b3 : bigOk hi = true := big_i (by omega) (by omega)
    rw [fnL_eq cl_best_sum]
    refine run_f ?_ (ρ := [some (.sh q), some (.sh (rat lo hi)), s2, some (.sh (en1 (bestF (worst lo hi rs) (ri (2 * lo) (2 * hi + 1))))), none, s5, s6, none])
    show evSs _ _ (.cons (SL.nth ir_best_sum 0) (.cons _ (.cons _ (.cons _ _)))) [some o, some (.sh (rat lo hi)), none, none, none, none, none, none] = _
    refine (seq_nx e0).trans ?_
    refine (seq_nx (ρ1 := [some (.sh q), some (.sh (rat lo hi)), none, none, none, none, none, none]) (by trivial)).trans ?_
    refine (seq_nx (ρ1 := [some (.sh q), some (.sh (rat lo hi)), none, some (.sh .none), some (.sh .none), none, none, none]) (by trivial)).trans ?_
    rw [← rangeD_ri] at e2
    refine (seq_nx (for_ev (ds := rangeD (2 * lo) (2 * hi + 1)) (ρ1 := [some (.sh q), some (.sh (rat lo hi)), none, some (.sh .none), some (.sh .none), none, none, none]) (by trivial) rfl e2)).trans ?_
    refine seq_rt ?_
    unfold bestF
    trivial
  have first : ∀ q : D, q = .list (rats rs) ∨ q = .tuple (rats rs) → (o = .sh q ∨ (o = .lst (rats rs) ∧ q = .list (rats rs))) → evS (fnL code (k + 4)) false (SL.nth ir_best_sum 0) [some o, some (.sh (rat lo hi)), none, none, none, none, none, none] = some (.nx [some (.sh q), some (.sh (rat lo hi)), none, none, none, none, none, none]) := by
    intro q hq hoq
    have e1 := is_list_ev (k + 3) hq
    have hcomp : evE (fnL code (k + 4)) (.comp [7] (.nm 7) (.seq (.var 0)) .yes (.call "ratio_is_right_trains" (.cons (.var 7) .nil))) [some (.sh q), some (.sh (rat lo hi)), none, none, none, none, none, none] =
        some (.lst (rs.map fun _ => PyData.bool true), [some (.sh q), some (.sh (rat lo hi)), none, none, none, none, none, none]) := by
      refine comp_ev (ds := rats rs) (ρ1 := [some (.sh q), some (.sh (rat lo hi)), none, none, none, none, none, none]) ?_ ?_
      · rcases hq with rfl | rfl <;> trivial
      · have key := compGo_map (own := [7]) (tg := bindG (.nm 7)) (c := evT (fnL code (k + 4)) .yes) (el := evE (fnL code (k + 4)) (.call "ratio_is_right_trains" (.cons (.var 7) .nil))) (ρ := [some (.sh q), some (.sh (rat lo hi)), none, none, none, none, none, none]) (fun _ => PyData.bool true) (rats rs) [] (by rw [len]; simp only [List.length_nil]; omega) (fun d hd => by
          obtain ⟨r, hr, rfl⟩ := List.mem_map.mp hd
          have er := ratio_ev k (hR r hr)
          refine ⟨[some (.sh q), some (.sh (rat lo hi)), none, none, none, none, none, some (.sh (rat r.1 r.2))], [some (.sh q), some (.sh (rat lo hi)), none, none, none, none, none, some (.sh (rat r.1 r.2))], [some (.sh q), some (.sh (rat lo hi)), none, none, none, none, none, some (.sh (rat r.1 r.2))], .sh (.bool true), rfl, rfl, ?_, rfl, rfl⟩
          clear hoq
          generalize rat r.1 r.2 = rr at *
          trivial)
        have e : (rats rs).map (fun _ => PyData.bool true) = rs.map fun _ => PyData.bool true := by unfold rats; rw [List.map_map]; rfl
        rw [e] at key
        exact key
    have hall := pAll_true rs
    have l1 : decide ((1 : Int) ≤ ((rats rs).length : Nat)) = true := decide_eq_true (by rw [len]; omega)
    have l2 : decide (((rats rs).length : Nat) ≤ (5 : Int)) = true := decide_eq_true (by rw [len]; omega)
    have hln : pLen (.sh q) = some (.sh (.int ((rats rs).length : Nat))) := by rcases hq with rfl | rfl <;> rfl
    clear hR hl1 hl5 len
    generalize ((rats rs).length : Int) = ln at *
    have e0 : ∀ x : Option O, evE (fnL code (k + 4)) (.var 0) [x, some (.sh (rat lo hi)), none, none, none, none, none, none] = some (.sh q, [some (.sh q), some (.sh (rat lo hi)), none, none, none, none, none, none]) → evT (fnL code (k + 4)) (.or (.not (.val (.ex (.call "is_list" (.cons (.var 0) .nil))))) (.or (.not (.chain .le .le (.ex (.con (.int 1))) (.ex (.op1 .len (.pk 0))) (.ex (.con (.int 5))))) (.not (.val (.ex (.op1 .all (.ex (.comp [7] (.nm 7) (.seq (.var 0)) .yes (.call "ratio_is_right_trains" (.cons (.var 7) .nil)))))))))) [x, some (.sh (rat lo hi)), none, none, none, none, none, none] =
        some (false, [some (.sh q), some (.sh (rat lo hi)), none, none, none, none, none, none]) := by
      intro x hx
      have h1 : evT (fnL code (k + 4)) (.not (.val (.ex (.call "is_list" (.cons (.var 0) .nil))))) [x, some (.sh (rat lo hi)), none, none, none, none, none, none] = some (false, [some (.sh q), some (.sh (rat lo hi)), none, none, none, none, none, none]) := by
        simp only [evT, evA, evE, evL] at hx ⊢
        rw [hx]
        trivial
      have h2 : evT (fnL code (k + 4)) (.not (.chain .le .le (.ex (.con (.int 1))) (.ex (.op1 .len (.pk 0))) (.ex (.con (.int 5))))) [some (.sh q), some (.sh (rat lo hi)), none, none, none, none, none, none] = some (false, [some (.sh q), some (.sh (rat lo hi)), none, none, none, none, none, none]) := by
        clear hoq hx hall hcomp
        simp only [evT, evA, evE, Option.map_some, Option.bind_some, Arg.get, List.getElem?_cons_zero, Option.join_some, p1, hln]
        trivial
      have h3 : evT (fnL code (k + 4)) (.not (.val (.ex (.op1 .all (.ex (.comp [7] (.nm 7) (.seq (.var 0)) .yes (.call "ratio_is_right_trains" (.cons (.var 7) .nil)))))))) [some (.sh q), some (.sh (rat lo hi)), none, none, none, none, none, none] = some (false, [some (.sh q), some (.sh (rat lo hi)), none, none, none, none, none, none]) := by
        generalize E.comp [7] (.nm 7) (.seq (.var 0)) .yes (.call "ratio_is_right_trains" (.cons (.var 7) .nil)) = c at *
        simp only [evT, evA, evE, hcomp, Option.map_some, Option.bind_some, Arg.get, p1, hall, truthO, truthD, O.data, Bool.not_true]
      simp only [evT, Bool.false_eq_true, if_false] at h1 h2 h3 ⊢
      rw [h1]
      simp only [Option.bind_some, Bool.false_eq_true, if_false]
      rw [h2]
      simp only [Option.bind_some, Bool.false_eq_true, if_false]
      exact h3
    show evS _ _ (.ite _ _ .nil) _ = _
    refine (ite_f (e0 (some o) ?_)).trans rfl
    rcases hoq with rfl | ⟨rfl, rfl⟩ <;> trivial
  rcases ho with rfl | rfl | rfl
  · exact go _ (.inl rfl) (first _ (.inl rfl) (.inl rfl))
  · exact go _ (.inr rfl) (first _ (.inr rfl) (.inl rfl))
  · exact go _ (.inl rfl) (first _ (.inl rfl) (.inr ⟨rfl, rfl⟩))
end K82

namespace K82
open PySem L2 Vx
local macro_rules | `(tactic| trivial) => `(tactic| simp only [Vx.run, evSs, evS, evE, evA, evL, evOE, evT, evI, evTg, evTgs, Arg.get, p1, p2, pNeg, pNot, pAbs_i, pInt, pLen, pList, pTuple, pSum, pMax, pMin, pAll, pAny, pIs, pAdd, pSub, pMul, pFdiv, pMod, pPow, pLt, pLe, pGt, pGe, pEq, pNe, pIsN, pNotN, isNoneD, pIx, pMax2_i, pMin2_i, pGcd_i, pDivmod, inD, isIntD, isBoolD, isTupD, isSeqD, isStrD, isListD, eqD, O.asQ, O.asL, O.asLs, O.asT, O.fz, O.data, fzAll, perms, truthO, truthD, si, sb, List.length_cons, List.length_nil, List.map_cons, List.map_nil, List.cons_append, List.nil_append, List.append_nil, List.replicate_succ, List.replicate_zero, List.getElem?_cons_zero, List.getElem?_cons_succ, List.set_cons_zero, List.set_cons_succ, Option.join_some, Option.bind_some, Option.map_some, Option.bind_none, Option.map_none, Option.isSome_some, free_f, free_t, G.free, bindG, setAll, wipeEv, atI_0, atI_1, ixN_0, ixN_1, if_true, if_false, Bool.false_eq_true, Bool.and_true, Bool.true_and, Bool.and_self, Bool.not_true, Bool.not_false, Bool.or_false, Bool.false_or, Bool.or_true, Bool.true_or, Bool.false_and, Bool.and_false, Nat.zero_add, line_s, line_l, compGo, forGo, Nat.reduceLT, Int.reduceEq, Int.reduceNe, Int.reduceLT, Int.reduceLE, Int.cast_ofNat_Int, Int.natCast_one, Int.natCast_zero, Int.mul_one, Int.one_mul, and_true, true_and, and_self, Nat.reduceLeDiff, Nat.reduceAdd, Nat.reduceSub, decide_true, decide_false, isLst, isDct, reduceCtorEq, List.all_cons, List.all_nil, ne_eq, not_false_eq_true, not_true_eq_false, Option.some.injEq, Prod.mk.injEq, *])
/-! ### the law's own defs -/
structure Pot (a c : Int) : Prop where
  a0 : 0 ≤ a
  c0 : 0 ≤ c
  c1 : c ≤ 2147483563
abbrev potO (a c : Int) : O := .lst [.int a, .int c]
theorem fm {x m : Int} (h : 0 < m) : 0 ≤ x.fmod m ∧ x.fmod m < m := ⟨Int.fmod_nonneg_of_pos x h, Int.fmod_lt_of_pos x h⟩
theorem pot_go (k : Nat) (ns : List Int) (cell : Int) (hc : 0 ≤ cell) (h1 : evS (fnL code k) false (SL.nth ir_l_pot 0) [some (.scr ns), some (I 0), none, none] = some (.nx [some (.scr ns), some (I 0), some (I cell), none])) :
    ∃ a c, Pot a c ∧ fnL code (k + 1) "_law_pot" [.scr ns, I 0] = some (potO a c, N0) := by
  have m1 := fm (x := cell) (m := 2147483549) (by decide)
  have b1 : bigOk (cell.fmod 2147483549) = true := big_i (by omega) (by omega)
  have b2 : bigOk 39373 = true := big_i (by decide) (by decide)
  have b3 : bigOk 4261 = true := big_i (by decide) (by decide)
  have b4 : bigOk 0 = true := big_i (by decide) (by decide)
  have m2 := fm (x := cell.fmod 2147483549 * 39373 + 4261 * 0 + 163) (m := 2147483563) (by decide)
  have d1 : decide ((0 : Int) ≤ 18) = true := by decide
  have d2 : decide ((18 : Int) ≤ 1000) = true := by decide
  have d3 : decide (Int.natAbs 10 < 2 ^ 60) = true := by decide
  refine ⟨mx 0 (cell - 10 ^ (18 : Int).toNat), (cell.fmod 2147483549 * 39373 + 4261 * 0 + 163).fmod 2147483563 + 1, ⟨by unfold mx; split <;> omega, by omega, by omega⟩, ?_⟩
  rw [fnL_eq cl_l_pot]
  refine run_f (ρ := [some (.scr ns), some (I 0), some (I cell), some (I ((cell.fmod 2147483549 * 39373 + 4261 * 0 + 163).fmod 2147483563 + 1))]) ?_
  show evSs _ _ (.cons (SL.nth ir_l_pot 0) (.cons _ (.cons _ _))) [some (.scr ns), some (I 0), none, none] = _
  refine (seq_nx h1).trans ?_
  refine (seq_nx (ρ1 := [some (.scr ns), some (I 0), some (I cell), some (I ((cell.fmod 2147483549 * 39373 + 4261 * 0 + 163).fmod 2147483563 + 1))]) ?_).trans ?_
  · generalize hx : cell.fmod 2147483549 = x at *
    clear h1
    trivial
  · refine seq_rt ?_
    clear h1 m1 m2
    generalize (cell.fmod 2147483549 * 39373 + 4261 * 0 + 163).fmod 2147483563 + 1 = y at *
    trivial
theorem pot_ev (k : Nat) (ns : List Int) : ∃ a c, Pot a c ∧ fnL code (k + 1) "_law_pot" [.scr ns, I 0] = some (potO a c, N0) := by
  have b1 : bigOk 739 = true := big_i (by decide) (by decide)
  have b4 : bigOk 0 = true := big_i (by decide) (by decide)
  cases ns with
  | nil =>
    refine pot_go k [] (739 * 0 + 1009) (by decide) ?_
    simp only [SL.nth, ir_l_pot]
    have l : decide ((0 : Int) < 0) = false := by decide
    trivial
  | cons n r =>
    refine pot_go k (n :: r) (ab n) (ab_nn n) ?_
    simp only [SL.nth, ir_l_pot]
    have l : ∀ x : Nat, decide ((0 : Int) < ((x + 1 : Nat) : Int)) = true := fun x => decide_eq_true (by omega)
    trivial
theorem draw_ev (k : Nat) {a c m : Int} (P : Pot a c) (h1 : 1 ≤ m) (h2 : m ≤ 10 ^ 9) : ∃ a' c' d, Pot a' c' ∧ 0 ≤ d ∧ d < m ∧ fnL code (k + 1) "_law_draw" [potO a c, I m] = some (I d, potO a' c') := by
  have p1 := P.a0
  have p2 := P.c0
  have p3 := P.c1
  have b0 : bigOk m = true := big_i (by omega) (by omega)
  have hm : m ≠ 0 := by omega
  have m1 := fm (x := a) (m := m) (by omega)
  by_cases h : 0 < a
  · refine ⟨a.fdiv m, c, a.fmod m, ⟨by rw [Int.fdiv_eq_ediv_of_nonneg _ (by omega)]; exact Int.ediv_nonneg (by omega) (by omega), p2, p3⟩, m1.1, m1.2, ?_⟩
    rw [fnL_eq cl_l_draw]
    refine run_t (ρ := [some (I m), none]) ?_
    show evSs _ _ ir_l_draw [some (potO a c), some (I m), none] = _
    unfold ir_l_draw
    refine seq_rt ?_
    have h' : decide (0 < a) = true := decide_eq_true h
    trivial
  · have b1 : bigOk c = true := big_i (by omega) (by omega)
    have b2 : bigOk 39373 = true := big_i (by decide) (by decide)
    have m2 := fm (x := c * 39373 + 4261) (m := 2147483549) (by decide)
    have m3 := fm (x := (((c * 39373 + 4261).fmod 2147483549 * (c * 39373 + 4261).fmod 2147483549).fmod 2147483563).fdiv 19) (m := m) (by omega)
    have b3 : bigOk ((c * 39373 + 4261).fmod 2147483549) = true := big_i (by omega) (by omega)
    have b4 : bigOk 19 = true := big_i (by decide) (by decide)
    refine ⟨a, (c * 39373 + 4261).fmod 2147483549, _, ⟨p1, by omega, by omega⟩, m3.1, m3.2, ?_⟩
    rw [fnL_eq cl_l_draw]
    have h' : decide (0 < a) = false := decide_eq_false h
    generalize hc' : (c * 39373 + 4261).fmod 2147483549 = c' at *
    clear m1 m2 m3 p1 p2 p3 h
    refine run_t (ρ := [some (I m), none]) ?_
    show evSs _ _ ir_l_draw [some (potO a c), some (I m), none] = _
    unfold ir_l_draw
    refine (seq_nx (ρ1 := [some (potO a c), some (I m), none]) (by trivial)).trans ?_
    refine (seq_nx (ρ1 := [some (potO a c'), some (I m), none]) (by trivial)).trans ?_
    refine seq_rt ?_
    trivial
theorem pick_ev (k : Nat) {a c : Int} (P : Pot a c) {ds : List D} {o : O} (ho : o = .sh (.list ds) ∨ o = .lst ds) (h1 : 1 ≤ ds.length) (h2 : ds.length ≤ 10 ^ 9) : ∃ a' c' d, Pot a' c' ∧ d ∈ ds ∧ fnL code (k + 2) "_law_pick" [potO a c, o] = some (.sh d, potO a' c') := by
  obtain ⟨a', c', i, P', i1, i2, e⟩ := draw_ev k P (m := (ds.length : Nat)) (by omega) (by omega)
  have g := atI_get (xs := ds) i1 i2
  refine ⟨a', c', ds[i.toNat]'(by omega), P', List.getElem_mem _, ?_⟩
  generalize ds[i.toNat]'(by omega) = d at *
  rw [fnL_eq cl_l_pick]
  refine run_t (ρ := [some o]) ?_
  show evSs _ _ ir_l_pick [some (potO a c), some o] = _
  unfold ir_l_pick
  refine seq_rt ?_
  rcases ho with rfl | rfl <;> trivial
theorem limits_ev (k : Nat) {a c : Int} (P : Pot a c) : ∃ a' c' lo hi, Pot a' c' ∧ Lim lo hi ∧ fnL code (k + 2) "_law_limits" [potO a c, I 14] = some (.sh (rat lo hi), potO a' c') := by
  obtain ⟨a1, c1, x, P1, x1, x2, e1⟩ := draw_ev k P (m := 6) (by decide) (by decide)
  obtain ⟨a2, c2, y, P2, y1, y2, e2⟩ := draw_ev k P1 (m := 14 + 1) (by decide) (by decide)
  refine ⟨a2, c2, 6 + x, 6 + x + y, P2, ⟨by omega, by omega, by omega, by omega⟩, ?_⟩
  rw [fnL_eq cl_l_limits]
  refine run_t (ρ := [some (I 14), some (I (6 + x))]) ?_
  show evSs _ _ ir_l_limits [some (potO a c), some (I 14), none] = _
  unfold ir_l_limits
  refine (seq_nx (ρ1 := [some (potO a1 c1), some (I 14), some (I (6 + x))]) (by trivial)).trans ?_
  refine seq_rt ?_
  trivial
end K82

namespace K82
open PySem L2 Vx
local macro_rules | `(tactic| trivial) => `(tactic| simp only [Vx.run, evSs, evS, evE, evA, evL, evOE, evT, evI, evTg, evTgs, Arg.get, p1, p2, pNeg, pNot, pAbs_i, pInt, pLen, pList, pTuple, pSum, pMax, pMin, pAll, pAny, pIs, pAdd, pSub, pMul, pFdiv, pMod, pPow, pLt, pLe, pGt, pGe, pEq, pNe, pIsN, pNotN, isNoneD, pIx, pMax2_i, pMin2_i, pGcd_i, pDivmod, inD, isIntD, isBoolD, isTupD, isSeqD, isStrD, isListD, eqD, O.asQ, O.asL, O.asLs, O.asT, O.fz, O.data, fzAll, perms, truthO, truthD, si, sb, List.length_cons, List.length_nil, List.map_cons, List.map_nil, List.cons_append, List.nil_append, List.append_nil, List.replicate_succ, List.replicate_zero, List.getElem?_cons_zero, List.getElem?_cons_succ, List.set_cons_zero, List.set_cons_succ, Option.join_some, Option.bind_some, Option.map_some, Option.bind_none, Option.map_none, Option.isSome_some, free_f, free_t, G.free, bindG, setAll, wipeEv, atI_0, atI_1, ixN_0, ixN_1, if_true, if_false, Bool.false_eq_true, Bool.and_true, Bool.true_and, Bool.and_self, Bool.not_true, Bool.not_false, Bool.or_false, Bool.false_or, Bool.or_true, Bool.true_or, Bool.false_and, Bool.and_false, Nat.zero_add, line_s, line_l, compGo, forGo, Nat.reduceLT, Int.reduceEq, Int.reduceNe, Int.reduceLT, Int.reduceLE, Int.cast_ofNat_Int, Int.natCast_one, Int.natCast_zero, Int.mul_one, Int.one_mul, and_true, true_and, and_self, Nat.reduceLeDiff, Nat.reduceAdd, Nat.reduceSub, decide_true, decide_false, isLst, isDct, reduceCtorEq, List.all_cons, List.all_nil, ne_eq, not_false_eq_true, not_true_eq_false, Option.some.injEq, Prod.mk.injEq, *])
/-! ### all pairs -/
def prow (lo hi a : Int) : List D := (ri lo (hi + 1)).map fun b => rat a b
def allPairs (lo hi : Int) : List D := (ri lo (hi + 1)).flatMap (prow lo hi)
theorem pairs_row (k : Nat) {lo hi : Int} (L : Lim lo hi) (a : Int) (acc : List D) (hacc : acc.length ≤ 10 ^ 6) (s3 : Option O) :
    evSs (fnL code k) false (S.body (SL.nth ir_l_pairs 1)) [some (.sh (rat lo hi)), some (.lst acc), some (I a), s3] = some (.nx [some (.sh (rat lo hi)), some (.lst (acc ++ prow lo hi a)), some (I a), none]) := by
  have hLa := L.a
  have hLb := L.b
  have hLc := L.c
  have i1 : i62 lo = true := i62_of (by omega) (by omega)
  have i2 : i62 (hi + 1) = true := i62_of (by omega) (by omega)
  have len : (prow lo hi a).length ≤ 40 := by unfold prow; rw [List.length_map, ri_len]; omega
  have hcomp : evE (fnL code k) (.comp [3] (.nm 3) (.range2 (.op2 .ix (.pk 0) (.ex (.con (.int 0)))) (.op2 .add (.ex (.op2 .ix (.pk 0) (.ex (.con (.int 1))))) (.ex (.con (.int 1))))) .yes (.tup (.cons (.var 2) (.cons (.var 3) .nil)))) [some (.sh (rat lo hi)), some (.lst acc), some (I a), s3] =
      some (.lst (prow lo hi a), [some (.sh (rat lo hi)), some (.lst acc), some (I a), none]) := by
    refine comp_ev (ds := rangeD lo (hi + 1)) (ρ1 := [some (.sh (rat lo hi)), some (.lst acc), some (I a), s3]) (by trivial) ?_
    rw [rangeD_ri]
    have key := compGo_map (own := [3]) (tg := bindG (.nm 3)) (c := evT (fnL code k) .yes) (el := evE (fnL code k) (.tup (.cons (.var 2) (.cons (.var 3) .nil)))) (ρ := [some (.sh (rat lo hi)), some (.lst acc), some (I a), none])
      (fun d => match d with | .int b => rat a b | _ => .none) ((ri lo (hi + 1)).map PyData.int) [] (by rw [List.length_map, ri_len]; simp only [List.length_nil]; omega) (fun d hd => by
        obtain ⟨b, _, rfl⟩ := List.mem_map.mp hd
        refine ⟨[some (.sh (rat lo hi)), some (.lst acc), some (I a), some (I b)], [some (.sh (rat lo hi)), some (.lst acc), some (I a), some (I b)], [some (.sh (rat lo hi)), some (.lst acc), some (I a), some (I b)], .sh (rat a b), rfl, rfl, ?_, rfl, rfl⟩
        trivial)
    rw [List.map_map] at key
    exact key
  have hz : lineOk (acc.length + (prow lo hi a).length) = true := line_of (by omega)
  simp only [SL.nth, S.body, ir_l_pairs]
  clear i1 i2 len L hLa hLb hLc hacc
  generalize prow lo hi a = pr at *
  refine (seq_nx (ρ1 := [some (.sh (rat lo hi)), some (.lst (acc ++ pr)), some (I a), none]) ?_).trans rfl
  generalize E.comp [3] (.nm 3) (.range2 (.op2 .ix (.pk 0) (.ex (.con (.int 0)))) (.op2 .add (.ex (.op2 .ix (.pk 0) (.ex (.con (.int 1))))) (.ex (.con (.int 1))))) .yes (.tup (.cons (.var 2) (.cons (.var 3) .nil))) = c at *
  trivial
theorem pairs_loop (k : Nat) {lo hi : Int} (L : Lim lo hi) : ∀ (As : List Int) (acc : List D) (s2 s3 : Option O), acc.length + 40 * As.length ≤ 10 ^ 6 → ∃ s2' s3', forGo (bindG (.nm 2)) (evSs (fnL code k) false (S.body (SL.nth ir_l_pairs 1))) (As.map PyData.int) [some (.sh (rat lo hi)), some (.lst acc), s2, s3] =
    some (.nx [some (.sh (rat lo hi)), some (.lst (acc ++ As.flatMap (prow lo hi))), s2', s3'])
  | [], acc, s2, s3, _ => ⟨s2, s3, by simp [forGo]⟩
  | a :: As, acc, s2, s3, h => by
    have hl : (prow lo hi a).length ≤ 40 := by
      have := L.a
      have := L.c
      unfold prow; rw [List.length_map, ri_len]; omega
    simp only [List.length_cons] at h
    have e1 := pairs_row k L a acc (by omega) s3
    obtain ⟨t2, t3, e2⟩ := pairs_loop k L As (acc ++ prow lo hi a) (some (I a)) none (by rw [List.length_append]; omega)
    refine ⟨t2, t3, ?_⟩
    rw [List.map_cons, List.flatMap_cons, ← List.append_assoc, ← e2]
    exact forGo_nx rfl e1
theorem l_pairs_ev (k : Nat) {lo hi : Int} (L : Lim lo hi) : fnL code (k + 1) "_law_pairs" [.sh (rat lo hi)] = some (.lst (allPairs lo hi), N0) := by
  have hLa := L.a
  have hLb := L.b
  have hLc := L.c
  have i1 : i62 lo = true := i62_of (by omega) (by omega)
  have i2 : i62 (hi + 1) = true := i62_of (by omega) (by omega)
  obtain ⟨s2, s3, e⟩ := pairs_loop k L (ri lo (hi + 1)) [] none none (by rw [ri_len]; simp only [List.length_nil]; omega)
  rw [← rangeD_ri, List.nil_append] at e
  rw [fnL_eq cl_l_pairs]
  refine run_f (ρ := [some (.sh (rat lo hi)), none, s2, s3]) ?_
  show evSs _ _ (.cons _ (.cons _ (.cons _ _))) [some (.sh (rat lo hi)), none, none, none] = _
  refine (seq_nx (ρ1 := [some (.sh (rat lo hi)), some (.lst []), none, none]) (by trivial)).trans ?_
  refine (seq_nx (for_ev (ds := rangeD lo (hi + 1)) (ρ1 := [some (.sh (rat lo hi)), some (.lst []), none, none]) (by trivial) rfl e)).trans ?_
  refine seq_rt ?_
  unfold allPairs
  generalize List.flatMap (prow lo hi) (ri lo (hi + 1)) = x at *
  trivial
/-! ### worths -/
theorem worth1_ev (k : Nat) {a b : Int} (ha : 0 < a) (hb : 0 < b) (ha1 : a < 10 ^ 6) (hb1 : b < 10 ^ 6) : fnL code (k + 2) "_law_worth" [.sh (.tuple [rat a b])] = some (.sh (red a b), N0) := by
  have b1 : bigOk a = true := big_i (by omega) (by omega)
  have b2 : bigOk b = true := big_i (by omega) (by omega)
  have b3 : bigOk 1 = true := big_i (by decide) (by decide)
  have e := low_ev k a b hb (by omega) b1
  rw [fnL_eq cl_l_worth]
  refine run_f (ρ := [some (.sh (.tuple [rat a b])), some (I a), some (I b), some (I a), some (I b)]) ?_
  show evSs _ _ ir_l_worth [some (.sh (.tuple [rat a b])), none, none, none, none] = _
  unfold ir_l_worth
  refine (seq_nx (ρ1 := [some (.sh (.tuple [rat a b])), some (I 1), some (I 1), none, none]) (by trivial)).trans ?_
  refine (seq_nx (ρ1 := [some (.sh (.tuple [rat a b])), some (I a), some (I b), some (I a), some (I b)]) (by trivial)).trans ?_
  refine seq_rt ?_
  trivial
theorem worth2_ev (k : Nat) {a b c d : Int} (ha : 0 < a) (hb : 0 < b) (hc : 0 < c) (hd : 0 < d) (ha1 : a < 10 ^ 3) (hb1 : b < 10 ^ 3) (hc1 : c < 10 ^ 3) (hd1 : d < 10 ^ 3) : fnL code (k + 2) "_law_worth" [.sh (.tuple [rat a b, rat c d])] = some (.sh (red (a * c) (b * d)), N0) := by
  have b1 : bigOk a = true := big_i (by omega) (by omega)
  have b2 : bigOk b = true := big_i (by omega) (by omega)
  have b3 : bigOk 1 = true := big_i (by decide) (by decide)
  have b4 : bigOk c = true := big_i (by omega) (by omega)
  have b5 : bigOk d = true := big_i (by omega) (by omega)
  have m0 : 0 < b * d := Int.mul_pos hb hd
  have m1 : b * d ≤ 10 ^ 3 * 10 ^ 3 := Int.mul_le_mul (by omega) (by omega) (by omega) (by decide)
  have m2 : 0 < a * c := Int.mul_pos ha hc
  have m3 : a * c ≤ 10 ^ 3 * 10 ^ 3 := Int.mul_le_mul (by omega) (by omega) (by omega) (by decide)
  have m4 : (10 : Int) ^ 3 * 10 ^ 3 = 10 ^ 6 := by decide
  have e := low_ev k (a * c) (b * d) m0 (by omega) (big_i (by omega) (by omega))
  clear m0 m1 m2 m3 m4
  rw [fnL_eq cl_l_worth]
  refine run_f (ρ := [some (.sh (.tuple [rat a b, rat c d])), some (I (a * c)), some (I (b * d)), some (I c), some (I d)]) ?_
  show evSs _ _ ir_l_worth [some (.sh (.tuple [rat a b, rat c d])), none, none, none, none] = _
  unfold ir_l_worth
  refine (seq_nx (ρ1 := [some (.sh (.tuple [rat a b, rat c d])), some (I 1), some (I 1), none, none]) (by trivial)).trans ?_
  refine (seq_nx (ρ1 := [some (.sh (.tuple [rat a b, rat c d])), some (I (a * c)), some (I (b * d)), some (I c), some (I d)]) (by trivial)).trans ?_
  refine seq_rt ?_
  trivial
theorem red_rt {a b : Int} (ha : 0 < a) (hb : 0 < b) (ha1 : a ≤ 10 ^ 6) (hb1 : b ≤ 10 ^ 6) : ∃ p q, red a b = rat p q ∧ Rt p q ∧ p * b = a * q ∧ p ≤ a ∧ q ≤ b := by
  have g0 := gg_pos (a := a) hb
  have h1 := fdiv_mul g0 (gg_dvd_l a b)
  have h2 := fdiv_mul g0 (gg_dvd_r a b)
  have h3 := gg_fdiv (a := a) hb
  have l1 : a.fdiv (gg a b) ≤ a := by
    rw [Int.fdiv_eq_ediv_of_nonneg _ (by omega)]
    exact Int.ediv_le_self _ (by omega)
  have l2 : b.fdiv (gg a b) ≤ b := by
    rw [Int.fdiv_eq_ediv_of_nonneg _ (by omega)]
    exact Int.ediv_le_self _ (by omega)
  refine ⟨_, _, rfl, ?_, ?_, l1, l2⟩
  · generalize a.fdiv (gg a b) = x at *
    generalize b.fdiv (gg a b) = y at *
    generalize gg a b = g at *
    have hx : 0 < x := by
      rcases Int.lt_trichotomy x 0 with h | h | h
      · have := Int.mul_neg_of_neg_of_pos h g0
        omega
      · subst h; simp at h1; omega
      · exact h
    have hy : 0 < y := by
      rcases Int.lt_trichotomy y 0 with h | h | h
      · have := Int.mul_neg_of_neg_of_pos h g0
        omega
      · subst h; simp at h2; omega
      · exact h
    exact ⟨hx, hy, by omega, by omega, h3⟩
  · generalize a.fdiv (gg a b) = x at *
    generalize b.fdiv (gg a b) = y at *
    generalize gg a b = g at *
    rw [← h1, ← h2]
    grind
theorem mem_all {lo hi : Int} {d : D} : d ∈ allPairs lo hi ↔ ∃ a b, d = rat a b ∧ lo ≤ a ∧ a ≤ hi ∧ lo ≤ b ∧ b ≤ hi := by
  unfold allPairs prow
  rw [List.mem_flatMap]
  constructor
  · rintro ⟨a, ha, hd⟩
    obtain ⟨b, hb, rfl⟩ := List.mem_map.mp hd
    rw [mem_ri] at ha hb
    exact ⟨a, b, rfl, by omega, by omega, by omega, by omega⟩
  · rintro ⟨a, b, rfl, h1, h2, h3, h4⟩
    exact ⟨a, mem_ri.mpr (by omega), List.mem_map.mpr ⟨b, mem_ri.mpr (by omega), rfl⟩⟩
theorem all_len {lo hi : Int} (L : Lim lo hi) : 1 ≤ (allPairs lo hi).length ∧ (allPairs lo hi).length ≤ 1600 := by
  have hLa := L.a
  have hLb := L.b
  have hLc := L.c
  have : (allPairs lo hi).length = (hi + 1 - lo).toNat * (hi + 1 - lo).toNat := by
    unfold allPairs prow
    rw [List.length_flatMap]
    simp only [List.length_map, ri_len]
    have : ∀ l : List Int, (l.map fun _ => (hi + 1 - lo).toNat).sum = l.length * (hi + 1 - lo).toNat := by
      intro l
      induction l with
      | nil => simp
      | cons x r ih => simp only [List.map_cons, List.sum_cons, ih, List.length_cons, Nat.add_mul, Nat.one_mul]; omega
    rw [this, ri_len]
  rw [this]
  have h1 : 1 ≤ (hi + 1 - lo).toNat := by omega
  have h2 : (hi + 1 - lo).toNat ≤ 40 := by omega
  exact ⟨Nat.mul_le_mul h1 h1, Nat.mul_le_mul h2 h2⟩
theorem pickp_ev (k : Nat) {a c lo hi : Int} (P : Pot a c) (L : Lim lo hi) : ∃ a' c' x y, Pot a' c' ∧ lo ≤ x ∧ x ≤ hi ∧ lo ≤ y ∧ y ≤ hi ∧ fnL code (k + 2) "_law_pick" [potO a c, .lst (allPairs lo hi)] = some (.sh (rat x y), potO a' c') := by
  obtain ⟨h1, h2⟩ := all_len L
  obtain ⟨a', c', d, P', hd, e⟩ := pick_ev k P (.inr rfl) h1 (by omega)
  obtain ⟨x, y, rfl, x1, x2, y1, y2⟩ := mem_all.mp hd
  exact ⟨a', c', x, y, P', x1, x2, y1, y2, e⟩
end K82

namespace K82
open PySem L2 Vx
local macro_rules | `(tactic| trivial) => `(tactic| simp only [Vx.run, evSs, evS, evE, evA, evL, evOE, evT, evI, evTg, evTgs, Arg.get, p1, p2, pNeg, pNot, pAbs_i, pInt, pLen, pList, pTuple, pSum, pMax, pMin, pAll, pAny, pIs, pAdd, pSub, pMul, pFdiv, pMod, pPow, pLt, pLe, pGt, pGe, pEq, pNe, pIsN, pNotN, isNoneD, pIx, pMax2_i, pMin2_i, pGcd_i, pDivmod, inD, isIntD, isBoolD, isTupD, isSeqD, isStrD, isListD, eqD, O.asQ, O.asL, O.asLs, O.asT, O.fz, O.data, fzAll, perms, truthO, truthD, si, sb, List.length_cons, List.length_nil, List.map_cons, List.map_nil, List.cons_append, List.nil_append, List.append_nil, List.replicate_succ, List.replicate_zero, List.getElem?_cons_zero, List.getElem?_cons_succ, List.set_cons_zero, List.set_cons_succ, Option.join_some, Option.bind_some, Option.map_some, Option.bind_none, Option.map_none, Option.isSome_some, free_f, free_t, G.free, bindG, setAll, wipeEv, atI_0, atI_1, ixN_0, ixN_1, if_true, if_false, Bool.false_eq_true, Bool.and_true, Bool.true_and, Bool.and_self, Bool.not_true, Bool.not_false, Bool.or_false, Bool.false_or, Bool.or_true, Bool.true_or, Bool.false_and, Bool.and_false, Nat.zero_add, line_s, line_l, compGo, forGo, Nat.reduceLT, Int.reduceEq, Int.reduceNe, Int.reduceLT, Int.reduceLE, Int.cast_ofNat_Int, Int.natCast_one, Int.natCast_zero, Int.mul_one, Int.one_mul, and_true, true_and, and_self, Nat.reduceLeDiff, Nat.reduceAdd, Nat.reduceSub, decide_true, decide_false, isLst, isDct, reduceCtorEq, List.all_cons, List.all_nil, ne_eq, not_false_eq_true, not_true_eq_false, Option.some.injEq, Prod.mk.injEq, *])
theorem any_ev (k : Nat) {a c lo hi : Int} (P : Pot a c) (L : Lim lo hi) : ∃ a' c' p q, Pot a' c' ∧ Rt p q ∧ fnL code (k + 3) "_law_any_ratio" [potO a c, .sh (rat lo hi)] = some (.sh (rat p q), potO a' c') := by
  have hLa := L.a
  have hLb := L.b
  have hLc := L.c
  have ep := l_pairs_ev (k + 1) L
  obtain ⟨a1, c1, d1, P1, x1, x2, e1⟩ := draw_ev (k + 1) P (m := 3) (by decide) (by decide)
  by_cases h : d1 = 0
  · subst h
    obtain ⟨a2, c2, x, y, P2, g1, g2, g3, g4, e2⟩ := pickp_ev k P1 L
    obtain ⟨a3, c3, z, w, P3, g5, g6, g7, g8, e3⟩ := pickp_ev k P2 L
    have e4 := worth2_ev k (a := x) (b := y) (c := z) (d := w) (by omega) (by omega) (by omega) (by omega) (by omega) (by omega) (by omega) (by omega)
    have m0 : 0 < x * z := Int.mul_pos (by omega) (by omega)
    have m1 : x * z ≤ 40 * 40 := Int.mul_le_mul (by omega) (by omega) (by omega) (by decide)
    have m2 : 0 < y * w := Int.mul_pos (by omega) (by omega)
    have m3 : y * w ≤ 40 * 40 := Int.mul_le_mul (by omega) (by omega) (by omega) (by decide)
    obtain ⟨p, q, er, R, _⟩ := red_rt m0 m2 (by omega) (by omega)
    refine ⟨a3, c3, p, q, P3, R, ?_⟩
    rw [er] at e4
    clear m0 m1 m2 m3 er g1 g2 g3 g4 g5 g6 g7 g8 hLa hLb hLc x1 x2
    rw [fnL_eq cl_l_any_ratio]
    refine run_t (ρ := [some (.sh (rat lo hi))]) ?_
    show evSs _ _ ir_l_any_ratio [some (potO a c), some (.sh (rat lo hi))] = _
    unfold ir_l_any_ratio
    refine seq_rt ?_
    generalize allPairs lo hi = ap at *
    trivial
  · obtain ⟨a2, c2, d2, P2, y1, y2, e2⟩ := draw_ev (k + 1) P1 (m := 3) (by decide) (by decide)
    by_cases h2 : d2 = 0
    · subst h2
      obtain ⟨a3, c3, x, y, P3, g1, g2, g3, g4, e3⟩ := pickp_ev k P2 L
      have e4 := worth1_ev k (a := x) (b := y) (by omega) (by omega) (by omega) (by omega)
      obtain ⟨p, q, er, R, _⟩ := red_rt (a := x) (b := y) (by omega) (by omega) (by omega) (by omega)
      refine ⟨a3, c3, p, q, P3, R, ?_⟩
      rw [er] at e4
      clear er g1 g2 g3 g4 hLa hLb hLc x1 x2 y1 y2
      rw [fnL_eq cl_l_any_ratio]
      refine run_t (ρ := [some (.sh (rat lo hi))]) ?_
      show evSs _ _ ir_l_any_ratio [some (potO a c), some (.sh (rat lo hi))] = _
      unfold ir_l_any_ratio
      generalize allPairs lo hi = ap at *
      refine (seq_nx (ρ1 := [some (potO a1 c1), some (.sh (rat lo hi))]) (by trivial)).trans ?_
      refine seq_rt ?_
      trivial
    · obtain ⟨a3, c3, d3, P3, z1, z2, e3⟩ := draw_ev (k + 1) P2 (m := 40) (by decide) (by decide)
      obtain ⟨a4, c4, d4, P4, w1, w2, e4⟩ := draw_ev (k + 1) P3 (m := 40) (by decide) (by decide)
      have e5 := low_ev (k + 1) (1 + d3) (1 + d4) (by omega) (by omega) (big_i (by omega) (by omega))
      obtain ⟨p, q, er, R, _⟩ := red_rt (a := 1 + d3) (b := 1 + d4) (by omega) (by omega) (by omega) (by omega)
      refine ⟨a4, c4, p, q, P4, R, ?_⟩
      rw [er] at e5
      clear er hLa hLb hLc x1 x2 y1 y2 z1 z2 w1 w2
      rw [fnL_eq cl_l_any_ratio]
      refine run_t (ρ := [some (.sh (rat lo hi))]) ?_
      show evSs _ _ ir_l_any_ratio [some (potO a c), some (.sh (rat lo hi))] = _
      unfold ir_l_any_ratio
      refine (seq_nx (ρ1 := [some (potO a1 c1), some (.sh (rat lo hi))]) (by trivial)).trans ?_
      refine (seq_nx (ρ1 := [some (potO a2 c2), some (.sh (rat lo hi))]) (by trivial)).trans ?_
      refine seq_rt ?_
      trivial
/-! ### the least of a sum, by all its pairs -/
def en0 : Option D → D
  | none => .none
  | some d => d
def lstep (p q T : Int) (l : Option D) (a : Int) : Option D := match l with
  | none => some (EE p q a (T - a))
  | some x => if lessD (EE p q a (T - a)) x then some (EE p q a (T - a)) else some x
theorem lstep_rv {p q T : Int} {l : Option D} {a : Int} (hn : RV (EE p q a (T - a))) (hl : ∀ x, l = some x → RV x) : ∀ x, lstep p q T l a = some x → RV x := by
  intro x h
  cases l with
  | none => simp only [lstep, Option.some.injEq] at h; subst h; exact hn
  | some y =>
    simp only [lstep] at h
    split at h
    · cases h; exact hn
    · cases h; exact hl _ rfl
theorem err_one (k : Nat) {p q T a : Int} (R : Rt p q) (ha : 0 < a) (hb : 0 < T - a) (ha1 : a ≤ 1000) (hb1 : T - a ≤ 1000) {s0 s1 : O} {w : D} (l : Option D) (hl : ∀ x, l = some x → RV x) (s6 : Option O) :
    ∃ s6', evSs (fnL code (k + 3)) false (S.body (SL.nth (S.body (SL.nth ir_l_sum_error 1)) 1)) [some s0, some s1, some (.sh w), some (.sh (rat p q)), some (.sh (en0 l)), some (.sh (rat a (T - a))), s6] =
      some (.nx [some s0, some s1, some (.sh w), some (.sh (rat p q)), some (.sh (en0 (lstep p q T l a))), some (.sh (rat a (T - a))), s6']) := by
  have R1 := R.p0
  have R2 := R.q0
  have R3 := R.p1
  have R4 := R.q1
  have e1 := worth1_ev (k + 1) ha hb (by omega) (by omega)
  have e2 : fnL code (k + 3) "_law_off" [.sh (red a (T - a)), .sh (rat p q)] = some (.sh (EE p q a (T - a)), N0) := by
    obtain ⟨n, m, er, R', _, n1, m1⟩ := red_rt ha hb (by omega) (by omega)
    have r1 := R'.p0
    have r2 := R'.q0
    have e := l_off_ev k (n := n) (m := m) (p := p) (q := q) (by omega) (by omega) r2 (by omega) (by omega) (by omega) R2 (by omega)
    unfold EE
    have er' : rat (a.fdiv (gg a (T - a))) ((T - a).fdiv (gg a (T - a))) = rat n m := er
    have f1 : a.fdiv (gg a (T - a)) = n := by injection er' with h; injection h with h1 h2; injection h1
    have f2 : (T - a).fdiv (gg a (T - a)) = m := by injection er' with h; injection h with h1 h2; injection h2 with h3 h4; injection h3
    rw [er, f1, f2]
    exact e
  have hn : RV (EE p q a (T - a)) := EE_rv ha hb (by omega) (by omega) R
  refine ⟨some (.sh (EE p q a (T - a))), ?_⟩
  simp only [SL.nth, S.body, ir_l_sum_error]
  refine (seq_nx (ρ1 := [some s0, some s1, some (.sh w), some (.sh (rat p q)), some (.sh (en0 l)), some (.sh (rat a (T - a))), some (.sh (EE p q a (T - a)))]) ?_).trans ?_
  · generalize red a (T - a) = rr at *
    generalize EE p q a (T - a) = ee at *
    clear R1 R2 R3 R4 ha hb ha1 hb1 hl
    generalize en0 l = ll
    trivial
  · cases l with
    | none =>
      simp only [lstep, en0]
      generalize EE p q a (T - a) = ee at *
      clear R1 R2 R3 R4 ha hb ha1 hb1 hl e1 e2
      trivial
    | some x =>
      have hx := hl x rfl
      have e3 := l_below_ev (k + 2) hn hx
      obtain ⟨n, m, hxx, _⟩ := hx.ex
      subst hxx
      simp only [lstep, en0]
      generalize EE p q a (T - a) = ee at *
      clear R1 R2 R3 R4 ha hb ha1 hb1 hl e1 e2
      cases hh : lessD ee (rat n m) <;> rw [hh] at e3 <;> trivial
theorem err_inner (k : Nat) {p q T : Int} (R : Rt p q) {s0 s1 : O} {w : D} : ∀ (As : List Int), (∀ a ∈ As, 0 < a ∧ 0 < T - a ∧ a ≤ 1000 ∧ T - a ≤ 1000) → ∀ (l : Option D), (∀ x, l = some x → RV x) → ∀ (s5 s6 : Option O),
    ∃ s5' s6', forGo (bindG (.nm 5)) (evSs (fnL code (k + 3)) false (S.body (SL.nth (S.body (SL.nth ir_l_sum_error 1)) 1))) (As.map fun a => rat a (T - a)) [some s0, some s1, some (.sh w), some (.sh (rat p q)), some (.sh (en0 l)), s5, s6] =
      some (.nx [some s0, some s1, some (.sh w), some (.sh (rat p q)), some (.sh (en0 (As.foldl (lstep p q T) l))), s5', s6'])
  | [], _, l, _, s5, s6 => ⟨s5, s6, rfl⟩
  | a :: As, hA, l, hl, s5, s6 => by
    obtain ⟨h1, h2, h3, h4⟩ := hA a (List.mem_cons_self ..)
    obtain ⟨t6, e1⟩ := err_one k R h1 h2 h3 h4 (s0 := s0) (s1 := s1) (w := w) l hl s6
    obtain ⟨u5, u6, e2⟩ := err_inner k R As (fun x hx => hA x (List.mem_cons_of_mem _ hx)) (lstep p q T l a) (lstep_rv (EE_rv h1 h2 (by omega) (by omega) R) hl) (some (.sh (rat a (T - a)))) t6
    refine ⟨u5, u6, ?_⟩
    rw [List.map_cons, List.foldl_cons, ← e2]
    exact forGo_nx rfl e1
/-- the least is the nearest -/
theorem least_inv {p q T : Int} {f l : Int} (lt : ∀ a c, f ≤ a → a ≤ l → f ≤ c → c ≤ l → (lessD (EE p q a (T - a)) (EE p q c (T - c)) = false → lessD (EE p q c (T - c)) (EE p q a (T - a)) = true ∨ lessD (EE p q c (T - c)) (EE p q a (T - a)) = false))
    (tr : ∀ a c d, f ≤ a → a ≤ l → f ≤ c → c ≤ l → f ≤ d → d ≤ l → lessD (EE p q a (T - a)) (EE p q c (T - c)) = false → lessD (EE p q c (T - c)) (EE p q d (T - d)) = false → lessD (EE p q a (T - a)) (EE p q d (T - d)) = false)
    (as : ∀ a c, f ≤ a → a ≤ l → f ≤ c → c ≤ l → lessD (EE p q a (T - a)) (EE p q c (T - c)) = true → lessD (EE p q c (T - c)) (EE p q a (T - a)) = false) : ∀ (As : List Int), (∀ a ∈ As, f ≤ a ∧ a ≤ l) → ∀ (c : Int) (done : List Int), f ≤ c → c ≤ l → (∀ a ∈ done, f ≤ a ∧ a ≤ l) → (∀ a ∈ done, lessD (EE p q a (T - a)) (EE p q c (T - c)) = false) →
    ∃ c', f ≤ c' ∧ c' ≤ l ∧ As.foldl (lstep p q T) (some (EE p q c (T - c))) = some (EE p q c' (T - c')) ∧ ∀ a ∈ done ++ As, lessD (EE p q a (T - a)) (EE p q c' (T - c')) = false
  | [], _, c, done, h1, h2, _, h => ⟨c, h1, h2, rfl, by simpa using h⟩
  | a :: As, hA, c, done, h1, h2, hd, h => by
    obtain ⟨a1, a2⟩ := hA a (List.mem_cons_self ..)
    have hA' : ∀ x ∈ As, f ≤ x ∧ x ≤ l := fun x hx => hA x (List.mem_cons_of_mem _ hx)
    have hd' : ∀ x ∈ done ++ [a], f ≤ x ∧ x ≤ l := fun x hx => by
      rcases List.mem_append.mp hx with hx | hx
      · exact hd x hx
      · simp at hx; subst hx; exact ⟨a1, a2⟩
    rw [List.foldl_cons]
    cases hh : lessD (EE p q a (T - a)) (EE p q c (T - c)) with
    | true =>
      have e : lstep p q T (some (EE p q c (T - c))) a = some (EE p q a (T - a)) := by simp only [lstep, hh, if_true]
      rw [e]
      have hca := as a c a1 a2 h1 h2 hh
      have irr : lessD (EE p q a (T - a)) (EE p q a (T - a)) = false := by
        cases hx : lessD (EE p q a (T - a)) (EE p q a (T - a)) with
        | false => rfl
        | true => have := as a a a1 a2 a1 a2 hx; rw [hx] at this; exact this
      obtain ⟨c', k1, k2, k3, k4⟩ := least_inv lt tr as As hA' a (done ++ [a]) a1 a2 hd' fun x hx => by
        rcases List.mem_append.mp hx with hx | hx
        · exact tr x c a (hd x hx).1 (hd x hx).2 h1 h2 a1 a2 (h x hx) hca
        · simp at hx; subst hx; exact irr
      exact ⟨c', k1, k2, k3, by rw [List.append_cons]; exact k4⟩
    | false =>
      have e : lstep p q T (some (EE p q c (T - c))) a = some (EE p q c (T - c)) := by simp only [lstep, hh, Bool.false_eq_true, if_false]
      rw [e]
      obtain ⟨c', k1, k2, k3, k4⟩ := least_inv lt tr as As hA' c (done ++ [a]) h1 h2 hd' fun x hx => by
        rcases List.mem_append.mp hx with hx | hx
        · exact h x hx
        · simp at hx; subst hx; exact hh
      exact ⟨c', k1, k2, k3, by rw [List.append_cons]; exact k4⟩
theorem least_near {p q T lo hi : Int} (L : Lim lo hi) (R : Rt p q) (h1 : 2 * lo ≤ T) (h2 : T ≤ 2 * hi) : (ri (fst T lo hi) (lst T lo hi + 1)).foldl (lstep p q T) none = some (nearD p q T lo hi) := by
  have hL := L.a
  have hL2 := L.b
  have R1 := R.p0
  have R2 := R.q0
  have f0 : 0 < fst T lo hi ∧ fst T lo hi ≤ lst T lo hi ∧ lst T lo hi < T := by
    unfold fst lst mx mn
    split <;> split <;> omega
  obtain ⟨⟨n, n1, n2, en⟩, hn⟩ := near_ok L R h1 h2
  obtain ⟨f1, f2, f3⟩ := f0
  rw [en] at hn ⊢
  generalize fst T lo hi = f at *
  generalize lst T lo hi = l at *
  have lt : ∀ a c, f ≤ a → a ≤ l → f ≤ c → c ≤ l → lessD (EE p q a (T - a)) (EE p q c (T - c)) = decide (ab (a * q - p * (T - a)) * (T - c) < ab (c * q - p * (T - c)) * (T - a)) := fun a c h1 h2 h3 h4 => EE_less (by omega) (by omega) (by omega) (by omega) R1 R2
  have as : ∀ a c, f ≤ a → a ≤ l → f ≤ c → c ≤ l → lessD (EE p q a (T - a)) (EE p q c (T - c)) = true → lessD (EE p q c (T - c)) (EE p q a (T - a)) = false := by
    intro a c h1 h2 h3 h4 h
    rw [lt a c h1 h2 h3 h4, decide_eq_true_eq] at h
    rw [lt c a h3 h4 h1 h2, decide_eq_false_iff_not]
    omega
  have tr : ∀ a c d, f ≤ a → a ≤ l → f ≤ c → c ≤ l → f ≤ d → d ≤ l → lessD (EE p q a (T - a)) (EE p q c (T - c)) = false → lessD (EE p q c (T - c)) (EE p q d (T - d)) = false → lessD (EE p q a (T - a)) (EE p q d (T - d)) = false := by
    intro a c d h1 h2 h3 h4 h5 h6 k1 k2
    rw [lt a c h1 h2 h3 h4, decide_eq_false_iff_not] at k1
    rw [lt c d h3 h4 h5 h6, decide_eq_false_iff_not] at k2
    rw [lt a d h1 h2 h5 h6, decide_eq_false_iff_not]
    generalize ab (a * q - p * (T - a)) = A at *
    generalize ab (c * q - p * (T - c)) = C at *
    generalize ab (d * q - p * (T - d)) = Dd at *
    intro k3
    have p1 : C * (T - a) * (T - d) ≤ A * (T - c) * (T - d) := Int.mul_le_mul_of_nonneg_right (by omega) (by omega)
    have p2 : Dd * (T - c) * (T - a) ≤ C * (T - d) * (T - a) := Int.mul_le_mul_of_nonneg_right (by omega) (by omega)
    have p3 : A * (T - d) * (T - c) < Dd * (T - a) * (T - c) := Int.mul_lt_mul_of_pos_right k3 (by omega)
    have e1 : C * (T - a) * (T - d) = C * (T - d) * (T - a) := by grind
    have e2 : A * (T - c) * (T - d) = A * (T - d) * (T - c) := by grind
    have e3 : Dd * (T - c) * (T - a) = Dd * (T - a) * (T - c) := by grind
    omega
  rw [ri_cons (by omega), List.foldl_cons]
  have irr : lessD (EE p q f (T - f)) (EE p q f (T - f)) = false := by
    cases hx : lessD (EE p q f (T - f)) (EE p q f (T - f)) with
    | false => rfl
    | true => have := as f f (by omega) f2 (by omega) f2 hx; rw [hx] at this; exact this
  obtain ⟨c', k1, k2, k3, k4⟩ := least_inv (p := p) (q := q) (T := T) (f := f) (l := l) (fun a c _ _ _ _ _ => by cases lessD (EE p q c (T - c)) (EE p q a (T - a)) <;> simp) tr as (ri (f + 1) (l + 1)) (fun a ha => by rw [mem_ri] at ha; omega) f [f] (by omega) f2 (fun a ha => by simp at ha; omega) (fun a ha => by simp at ha; subst ha; exact irr)
  show (ri (f + 1) (l + 1)).foldl (lstep p q T) (some (EE p q f (T - f))) = _
  rw [k3]
  congr 1
  refine EE_same (by omega) (by omega) (by omega) (by omega) R1 R2 (hn c' k1 k2) (k4 n ?_)
  by_cases hnf : n = f
  · subst hnf; simp
  · exact List.mem_append_right _ (mem_ri.mpr (by omega))
end K82

namespace K82
open PySem L2 Vx
local macro_rules | `(tactic| trivial) => `(tactic| simp only [Vx.run, evSs, evS, evE, evA, evL, evOE, evT, evI, evTg, evTgs, Arg.get, p1, p2, pNeg, pNot, pAbs_i, pInt, pLen, pList, pTuple, pSum, intsOf, List.sum_cons, List.sum_nil, Int.add_zero, eq_self, dKey, pMax, pMin, pAll, pAny, pIs, pAdd, pSub, pMul, pFdiv, pMod, pPow, pLt, pLe, pGt, pGe, pEq, pNe, pIsN, pNotN, isNoneD, pIx, pMax2_i, pMin2_i, pGcd_i, pDivmod, inD, isIntD, isBoolD, isTupD, isSeqD, isStrD, isListD, eqD, O.asQ, O.asL, O.asLs, O.asT, O.fz, O.data, fzAll, perms, truthO, truthD, si, sb, List.length_cons, List.length_nil, List.map_cons, List.map_nil, List.cons_append, List.nil_append, List.append_nil, List.replicate_succ, List.replicate_zero, List.getElem?_cons_zero, List.getElem?_cons_succ, List.set_cons_zero, List.set_cons_succ, Option.join_some, Option.bind_some, Option.map_some, Option.bind_none, Option.map_none, Option.isSome_some, free_f, free_t, G.free, bindG, setAll, wipeEv, atI_0, atI_1, ixN_0, ixN_1, if_true, if_false, Bool.false_eq_true, Bool.and_true, Bool.true_and, Bool.and_self, Bool.not_true, Bool.not_false, Bool.or_false, Bool.false_or, Bool.or_true, Bool.true_or, Bool.false_and, Bool.and_false, Nat.zero_add, line_s, line_l, compGo, forGo, Nat.reduceLT, Int.reduceEq, Int.reduceNe, Int.reduceLT, Int.reduceLE, Int.cast_ofNat_Int, Int.natCast_one, Int.natCast_zero, Int.mul_one, Int.one_mul, and_true, true_and, and_self, Nat.reduceLeDiff, Nat.reduceAdd, Nat.reduceSub, decide_true, decide_false, isLst, isDct, reduceCtorEq, List.all_cons, List.all_nil, ne_eq, not_false_eq_true, not_true_eq_false, Option.some.injEq, Prod.mk.injEq, *])
theorem err_outer (k : Nat) {lo hi T : Int} (L : Lim lo hi) (h1 : 2 * lo ≤ T) (h2 : T ≤ 2 * hi) {s0 : O} : ∀ (rs : List (Int × Int)), (∀ r ∈ rs, Rt r.1 r.2) → ∀ (w : D), RV w → ∀ (s3 s4 s5 s6 : Option O),
    ∃ s3' s4' s5' s6', forGo (bindG (.nm 3)) (evSs (fnL code (k + 3)) false (S.body (SL.nth ir_l_sum_error 1))) (rats rs) [some s0, some (.sh (.list (sumPairs T lo hi))), some (.sh w), s3, s4, s5, s6] =
      some (.nx [some s0, some (.sh (.list (sumPairs T lo hi))), some (.sh (rs.foldl (wstep lo hi T) w)), s3', s4', s5', s6'])
  | [], _, w, _, s3, s4, s5, s6 => ⟨s3, s4, s5, s6, rfl⟩
  | r :: rs, hR, w, hw, s3, s4, s5, s6 => by
    have R := hR r (List.mem_cons_self ..)
    have hLa := L.a
    have hLb := L.b
    have hLc := L.c
    have f0 : 6 ≤ fst T lo hi ∧ lst T lo hi ≤ T - 6 := by
      unfold fst lst mx mn
      split <;> split <;> omega
    have hn := near_rv L R h1 h2
    obtain ⟨t5, t6, e1⟩ := err_inner k R (T := T) (s0 := s0) (s1 := .sh (.list (sumPairs T lo hi))) (w := w) (ri (fst T lo hi) (lst T lo hi + 1)) (fun a ha => by rw [mem_ri] at ha; omega) none (fun x h => by cases h) s5 s6
    rw [least_near L R h1 h2] at e1
    have e2 : evS (fnL code (k + 3)) false (SL.nth (S.body (SL.nth ir_l_sum_error 1)) 1) [some s0, some (.sh (.list (sumPairs T lo hi))), some (.sh w), some (.sh (rat r.1 r.2)), some (.sh .none), s5, s6] =
        some (.nx [some s0, some (.sh (.list (sumPairs T lo hi))), some (.sh w), some (.sh (rat r.1 r.2)), some (.sh (nearD r.1 r.2 T lo hi)), t5, t6]) := by
      refine for_ev (ds := sumPairs T lo hi) (ρ1 := [some s0, some (.sh (.list (sumPairs T lo hi))), some (.sh w), some (.sh (rat r.1 r.2)), some (.sh .none), s5, s6]) ?_ rfl e1
      generalize sumPairs T lo hi = sp
      trivial
    have e3 := l_below_ev (k + 2) hw hn
    obtain ⟨u3, u4, u5, u6, e4⟩ := err_outer k L h1 h2 (s0 := s0) rs (fun x hx => hR x (List.mem_cons_of_mem _ hx)) (wstep lo hi T w r) (wstep_rv hw hn) (some (.sh (rat r.1 r.2))) (some (.sh (nearD r.1 r.2 T lo hi))) t5 t6
    refine ⟨u3, u4, u5, u6, ?_⟩
    rw [List.foldl_cons, ← e4]
    refine forGo_nx (ρ1 := [some s0, some (.sh (.list (sumPairs T lo hi))), some (.sh w), some (.sh (rat r.1 r.2)), s4, s5, s6]) rfl ?_
    show evSs _ _ (.cons _ (.cons (SL.nth (S.body (SL.nth ir_l_sum_error 1)) 1) (.cons _ _))) _ = _
    refine (seq_nx (ρ1 := [some s0, some (.sh (.list (sumPairs T lo hi))), some (.sh w), some (.sh (rat r.1 r.2)), some (.sh .none), s5, s6]) (by trivial)).trans ?_
    refine (seq_nx e2).trans ?_
    unfold wstep
    clear e1 e2 e4 hR f0
    generalize nearD r.1 r.2 T lo hi = nn at *
    generalize sumPairs T lo hi = sp at *
    generalize rat r.1 r.2 = rr at *
    refine (seq_nx (ρ1 := [some s0, some (.sh (.list sp)), some (.sh (if lessD w nn = true then nn else w)), some (.sh rr), some (.sh nn), t5, t6]) ?_).trans rfl
    cases hh : lessD w nn <;> rw [hh] at e3 <;> trivial
theorem err_ev (k : Nat) {lo hi T : Int} (L : Lim lo hi) (h1 : 2 * lo ≤ T) (h2 : T ≤ 2 * hi) (rs : List (Int × Int)) (hR : ∀ r ∈ rs, Rt r.1 r.2) :
    fnL code (k + 4) "_law_sum_error" [.sh (.list (rats rs)), .sh (.list (sumPairs T lo hi))] = some (.sh (worst lo hi rs T), N0) := by
  obtain ⟨s3, s4, s5, s6, e⟩ := err_outer k L h1 h2 (s0 := .sh (.list (rats rs))) rs hR (rat 0 1) rv01 none none none none
  rw [fnL_eq cl_l_sum_error]
  refine run_f (ρ := [some (.sh (.list (rats rs))), some (.sh (.list (sumPairs T lo hi))), none, s3, s4, s5, s6]) ?_
  show evSs _ _ (.cons _ (.cons (SL.nth ir_l_sum_error 1) (.cons _ _))) [some (.sh (.list (rats rs))), some (.sh (.list (sumPairs T lo hi))), none, none, none, none, none] = _
  refine (seq_nx (ρ1 := [some (.sh (.list (rats rs))), some (.sh (.list (sumPairs T lo hi))), some (.sh (rat 0 1)), none, none, none, none]) ?_).trans ?_
  · generalize rats rs = rr
    generalize sumPairs T lo hi = sp
    trivial
  refine (seq_nx (for_ev (ds := rats rs) (ρ1 := [some (.sh (.list (rats rs))), some (.sh (.list (sumPairs T lo hi))), some (.sh (rat 0 1)), none, none, none, none]) ?_ rfl e)).trans ?_
  · generalize rats rs = rr
    generalize sumPairs T lo hi = sp
    trivial
  refine seq_rt ?_
  unfold worst
  clear e
  generalize rats rs = rr
  generalize sumPairs T lo hi = sp
  trivial

/-! ### the pairs by their sums -/
def filt (T : Int) (xs : List (Int × Int)) : List D := (xs.filter fun x => decide (x.1 + x.2 = T)).map fun x => rat x.1 x.2
def prevL (kvs : List (Key × D)) (T : Int) : List D := match valD kvs (.inl T) with
  | some (.list l) => l
  | _ => []
def gstep (kvs : List (Key × D)) (x : Int × Int) : List (Key × D) := putD kvs (.inl (x.1 + x.2)) (.list (prevL kvs (x.1 + x.2) ++ [rat x.1 x.2]))
structure Grp (kvs : List (Key × D)) (xs : List (Int × Int)) : Prop where
  nd : (kvs.map (·.1)).Nodup
  val : ∀ T, valD kvs (.inl T) = if filt T xs = [] then none else some (.list (filt T xs))
  kin : ∀ p ∈ kvs, ∃ T d, p = (.inl T, d)
  len : kvs.length ≤ xs.length
theorem valD_put (kvs : List (Key × D)) (k j : Key) (d : D) : valD (putD kvs k d) j = if j = k then some d else valD kvs j := by
  unfold putD
  by_cases h : (kvs.any fun p => decide (p.1 = k)) = true
  · rw [if_pos h]
    induction kvs with
    | nil => simp at h
    | cons p r ih =>
      by_cases e : p.1 = k
      · subst e
        by_cases hj : j = p.1
        · subst hj
          simp [valD, List.find?_cons]
        · have : ¬ p.1 = j := fun q => hj q.symm
          simp only [List.map_cons, if_true, valD, List.find?_cons, this, decide_false, if_neg hj]
          by_cases hr : (r.any fun q => decide (q.1 = p.1)) = true
          · have := ih hr
            simpa only [valD, if_neg hj] using this
          · have : r.map (fun q => if q.1 = p.1 then (q.1, d) else q) = r := by
              rw [List.map_congr_left (g := id)]
              · simp
              · intro q hq
                have : ¬ q.1 = p.1 := fun hh => hr (List.any_eq_true.mpr ⟨q, hq, decide_eq_true hh⟩)
                simp [this]
            rw [this]
      · have hr : (r.any fun q => decide (q.1 = k)) = true := by simpa [e] using h
        have := ih hr
        simp only [List.map_cons, if_neg e, valD, List.find?_cons]
        by_cases hj : p.1 = j
        · subst hj
          simp [e]
        · simp only [hj, decide_false]
          simpa only [valD] using this
  · rw [if_neg h]
    have hk : ∀ p ∈ kvs, ¬ p.1 = k := fun p hp e => h (List.any_eq_true.mpr ⟨p, hp, decide_eq_true e⟩)
    clear h
    induction kvs with
    | nil =>
      by_cases hj : j = k
      · subst hj; simp [valD]
      · have : ¬ k = j := fun q => hj q.symm
        simp [valD, this, hj]
    | cons p r ih =>
      have := ih fun q hq => hk q (List.mem_cons_of_mem _ hq)
      have hp := hk p (List.mem_cons_self ..)
      by_cases hj : p.1 = j
      · subst hj
        simp [valD, List.find?_cons, hp]
      · simp only [List.cons_append, valD, List.find?_cons, hj, decide_false] at this ⊢
        exact this
theorem putD_keys (kvs : List (Key × D)) (k : Key) (d : D) : (putD kvs k d).map (·.1) = if (kvs.any fun p => decide (p.1 = k)) = true then kvs.map (·.1) else kvs.map (·.1) ++ [k] := by
  unfold putD
  split
  · rw [List.map_map]
    refine List.map_congr_left fun p _ => ?_
    show (if p.1 = k then (p.1, d) else p).1 = p.1
    split <;> rfl
  · simp
theorem gstep_ok {kvs : List (Key × D)} {xs : List (Int × Int)} (G : Grp kvs xs) (x : Int × Int) : prevL kvs (x.1 + x.2) = filt (x.1 + x.2) xs ∧ Grp (gstep kvs x) (xs ++ [x]) := by
  have hp : prevL kvs (x.1 + x.2) = filt (x.1 + x.2) xs := by
    unfold prevL
    rw [G.val]
    by_cases h : filt (x.1 + x.2) xs = []
    · rw [if_pos h, h]
    · rw [if_neg h]
  have hf : ∀ T, filt T (xs ++ [x]) = if x.1 + x.2 = T then filt T xs ++ [rat x.1 x.2] else filt T xs := by
    intro T
    unfold filt
    rw [List.filter_append, List.map_append]
    by_cases h : x.1 + x.2 = T
    · rw [if_pos h]
      simp [h]
    · rw [if_neg h]
      simp [h]
  refine ⟨hp, ?_, fun T => ?_, fun p hpm => ?_, ?_⟩
  · unfold gstep
    rw [putD_keys]
    split
    · exact G.nd
    · rename_i h
      rw [List.nodup_append]
      refine ⟨G.nd, by simp, fun a ha b hb => ?_⟩
      simp only [List.mem_singleton] at hb
      subst hb
      rintro rfl
      obtain ⟨p, hp1, hp2⟩ := List.mem_map.mp ha
      exact h (List.any_eq_true.mpr ⟨p, hp1, decide_eq_true hp2⟩)
  · unfold gstep
    rw [valD_put, hp, hf]
    by_cases h : x.1 + x.2 = T
    · subst h
      simp
    · have : ¬ (Sum.inl T : Key) = Sum.inl (x.1 + x.2) := fun e => h (by injection e with e; exact e.symm)
      rw [if_neg this, if_neg h]
      exact G.val T
  · unfold gstep putD at hpm
    split at hpm
    · obtain ⟨q, hq, rfl⟩ := List.mem_map.mp hpm
      obtain ⟨T, d, rfl⟩ := G.kin q hq
      dsimp only
      split
      · exact ⟨_, _, rfl⟩
      · exact ⟨_, _, rfl⟩
    · rcases List.mem_append.mp hpm with h | h
      · exact G.kin p h
      · simp only [List.mem_singleton] at h
        exact ⟨_, _, h⟩
  · have l := G.len
    unfold gstep putD
    split
    · simp only [List.length_map, List.length_append, List.length_singleton]; omega
    · simp only [List.length_append, List.length_singleton]; omega
end K82

namespace K82
open PySem L2 Vx
def pairsI (lo hi : Int) : List (Int × Int) := (ri lo (hi + 1)).flatMap fun a => (ri lo (hi + 1)).map fun b => (a, b)
theorem all_pairsI (lo hi : Int) : allPairs lo hi = (pairsI lo hi).map fun x => rat x.1 x.2 := by
  unfold allPairs pairsI prow
  rw [List.map_flatMap]
  congr 1
  funext a
  rw [List.map_map]
  rfl
theorem flat_if {α β : Type} (p : α → Bool) (f : α → β) : ∀ l : List α, (l.flatMap fun a => if p a then [f a] else []) = (l.filter p).map f
  | [] => rfl
  | a :: l => by
    rw [List.flatMap_cons, flat_if p f l]
    cases h : p a <;> simp [h]
theorem inner_filter (lo hi a T : Int) : ((ri lo (hi + 1)).filter fun b => decide (a + b = T)) = if (decide (lo ≤ T - a) && decide (T - a ≤ hi)) = true then [T - a] else [] := by
  refine sorted_ext (pair_filter (ri_sorted _ _)) ?_ fun b => ?_
  · split
    · exact List.pairwise_singleton _ _
    · exact List.Pairwise.nil
  · rw [List.mem_filter, mem_ri, decide_eq_true_eq]
    split
    · rename_i h
      simp only [Bool.and_eq_true, decide_eq_true_eq] at h
      simp only [List.mem_singleton]
      omega
    · rename_i h
      simp only [Bool.and_eq_true, decide_eq_true_eq] at h
      simp only [List.not_mem_nil, iff_false]
      omega
theorem filt_all (lo hi T : Int) : filt T (pairsI lo hi) = sumPairs T lo hi := by
  unfold filt pairsI sumPairs
  rw [List.filter_flatMap]
  have e : (fun a : Int => ((ri lo (hi + 1)).map fun b => (a, b)).filter fun x => decide (x.1 + x.2 = T)) = fun a => if (decide (T - hi ≤ a) && decide (a < T - lo + 1)) = true then [(a, T - a)] else [] := by
    funext a
    rw [List.filter_map]
    have : ((fun x : Int × Int => decide (x.1 + x.2 = T)) ∘ fun b => (a, b)) = fun b => decide (a + b = T) := rfl
    rw [this, inner_filter]
    by_cases h : lo ≤ T - a ∧ T - a ≤ hi
    · rw [if_pos (by simp only [Bool.and_eq_true, decide_eq_true_eq]; omega), if_pos (by simp only [Bool.and_eq_true, decide_eq_true_eq]; omega)]
      rfl
    · rw [if_neg (by simp only [Bool.and_eq_true, decide_eq_true_eq]; omega), if_neg (by simp only [Bool.and_eq_true, decide_eq_true_eq]; omega)]
      rfl
  rw [e, flat_if (fun a => decide (T - hi ≤ a) && decide (a < T - lo + 1)) (fun a => (a, T - a)), ri_filter, List.map_map]
  have e1 : (if T - hi ≤ lo then lo else T - hi) = fst T lo hi := by
    unfold fst mx
    split <;> split <;> omega
  have e2 : (if T - lo + 1 ≤ hi + 1 then T - lo + 1 else hi + 1) = lst T lo hi + 1 := by
    unfold lst mn
    split <;> split <;> omega
  rw [e1, e2]
  rfl
theorem sum_nil {T lo hi : Int} (h : lo ≤ hi) : sumPairs T lo hi = [] ↔ ¬ (2 * lo ≤ T ∧ T ≤ 2 * hi) := by
  unfold sumPairs
  rw [List.map_eq_nil_iff]
  constructor
  · intro e hT
    have : fst T lo hi ∈ ri (fst T lo hi) (lst T lo hi + 1) := mem_ri.mpr ⟨Int.le_refl _, by unfold fst lst mx mn; split <;> split <;> omega⟩
    rw [e] at this
    simp at this
  · intro hT
    refine ri_nil ?_
    unfold fst lst mx mn
    split <;> split <;> omega
/-- the law's own dict of sums -/
def grp (lo hi : Int) : List (Key × D) := (pairsI lo hi).foldl gstep []
theorem grp_fold : ∀ (ys xs : List (Int × Int)) (kvs : List (Key × D)), Grp kvs xs → Grp (ys.foldl gstep kvs) (xs ++ ys)
  | [], xs, kvs, G => by simpa using G
  | y :: ys, xs, kvs, G => by
    rw [List.foldl_cons, List.append_cons]
    exact grp_fold ys (xs ++ [y]) _ (gstep_ok G y).2
theorem grp_nil : Grp [] [] := ⟨List.nodup_nil, fun T => rfl, fun p h => by simp at h, Nat.le_refl _⟩
theorem grp_ok (lo hi : Int) : Grp (grp lo hi) (pairsI lo hi) := by
  have := grp_fold (pairsI lo hi) [] [] grp_nil
  rw [List.nil_append] at this
  exact this
theorem grp_val {lo hi : Int} (h : lo ≤ hi) (T : Int) : valD (grp lo hi) (.inl T) = if 2 * lo ≤ T ∧ T ≤ 2 * hi then some (.list (sumPairs T lo hi)) else none := by
  rw [(grp_ok lo hi).val, filt_all]
  by_cases hT : 2 * lo ≤ T ∧ T ≤ 2 * hi
  · rw [if_pos hT, if_neg fun e => (sum_nil h).mp e hT]
  · rw [if_neg hT, if_pos ((sum_nil h).mpr hT)]
theorem valD_mem {kvs : List (Key × D)} (nd : (kvs.map (·.1)).Nodup) {k : Key} {d : D} : (k, d) ∈ kvs ↔ valD kvs k = some d := by
  induction kvs with
  | nil => simp [valD]
  | cons p r ih =>
    rw [List.map_cons, List.nodup_cons] at nd
    have ih := ih nd.2
    obtain ⟨j, e⟩ := p
    by_cases h : j = k
    · subst h
      simp only [valD, List.find?_cons, decide_true, Option.map_some, Option.some.injEq, List.mem_cons, Prod.mk.injEq, true_and]
      constructor
      · rintro (h | h)
        · exact h.symm
        · exact absurd (List.mem_map.mpr ⟨_, h, rfl⟩) nd.1
      · intro h; exact .inl h.symm
    · simp only [valD, List.find?_cons, h, decide_false, List.mem_cons, Prod.mk.injEq] at ih ⊢
      rw [← ih]
      constructor
      · rintro (⟨h', _⟩ | h')
        · exact absurd h'.symm h
        · exact h'
      · exact .inr
theorem grp_mem {lo hi : Int} (h : lo ≤ hi) {p : Key × D} : p ∈ grp lo hi ↔ ∃ T, 2 * lo ≤ T ∧ T ≤ 2 * hi ∧ p = (.inl T, .list (sumPairs T lo hi)) := by
  obtain ⟨k, d⟩ := p
  constructor
  · intro hp
    obtain ⟨T, d', e⟩ := (grp_ok lo hi).kin _ hp
    cases e
    have := (valD_mem (grp_ok lo hi).nd).mp hp
    rw [grp_val h] at this
    split at this
    · rename_i hT
      cases this
      exact ⟨T, hT.1, hT.2, rfl⟩
    · cases this
  · rintro ⟨T, h1, h2, e⟩
    cases e
    rw [valD_mem (grp_ok lo hi).nd, grp_val h, if_pos ⟨h1, h2⟩]
theorem keyInts_ok : ∀ {kvs : List (Key × D)}, (∀ p ∈ kvs, ∃ T d, p = (.inl T, d)) → ∃ ns, keyInts kvs = some ns ∧ kvs.map (·.1) = ns.map Sum.inl
  | [], _ => ⟨[], rfl, rfl⟩
  | p :: r, h => by
    obtain ⟨T, d, rfl⟩ := h p (List.mem_cons_self ..)
    obtain ⟨ns, e1, e2⟩ := keyInts_ok (kvs := r) fun q hq => h q (List.mem_cons_of_mem _ hq)
    refine ⟨T :: ns, ?_, ?_⟩
    · simp only [keyInts, e1, Option.map_some]
    · simp only [List.map_cons, e2]
theorem nodup_of_map {α β : Type} {f : α → β} : ∀ {l : List α}, (l.map f).Nodup → l.Nodup
  | [], _ => List.nodup_nil
  | a :: l, h => by
    rw [List.map_cons, List.nodup_cons] at h
    exact List.nodup_cons.mpr ⟨fun m => h.1 (List.mem_map.mpr ⟨a, m, rfl⟩), nodup_of_map h.2⟩
theorem sortI_strict {ns : List Int} (h : ns.Nodup) : (sortI ns).Pairwise (· < ·) := by
  have h1 := sortI_sorted ns
  have h2 : (sortI ns).Nodup := (sortI_perm ns).nodup_iff.mpr h
  exact (List.pairwise_and_iff.mpr ⟨h1, h2⟩).imp fun {a b} ⟨x, y⟩ => by omega
theorem grp_sorted {lo hi : Int} (L : Lim lo hi) : pSorted (.dct (grp lo hi)) = some (.lst ((ri (2 * lo) (2 * hi + 1)).map PyData.int)) := by
  have hLb := L.b
  have hLd := L.d
  obtain ⟨ns, e1, e2⟩ := keyInts_ok (grp_ok lo hi).kin
  have nd : ns.Nodup := by
    have := (grp_ok lo hi).nd
    rw [e2] at this
    exact nodup_of_map this
  have mem : ∀ T, T ∈ ns ↔ 2 * lo ≤ T ∧ T ≤ 2 * hi := by
    intro T
    have : (Sum.inl T : Key) ∈ (grp lo hi).map (·.1) ↔ T ∈ ns := by
      rw [e2]
      constructor
      · intro h
        obtain ⟨x, hx, e⟩ := List.mem_map.mp h
        cases e
        exact hx
      · intro h
        exact List.mem_map.mpr ⟨T, h, rfl⟩
    rw [← this]
    constructor
    · intro h
      obtain ⟨p, hp, e⟩ := List.mem_map.mp h
      obtain ⟨T', h1, h2, rfl⟩ := (grp_mem hLb).mp hp
      cases e
      exact ⟨h1, h2⟩
    · rintro ⟨h1, h2⟩
      exact List.mem_map.mpr ⟨_, (grp_mem hLb).mpr ⟨T, h1, h2, rfl⟩, rfl⟩
  have es : sortI ns = ri (2 * lo) (2 * hi + 1) := by
    refine sorted_ext (sortI_strict nd) (ri_sorted _ _) fun x => ?_
    rw [(sortI_perm ns).mem_iff, mem, mem_ri]
    omega
  have len : ns.length < 64 := by
    rw [← (sortI_perm ns).length_eq, es, ri_len]
    omega
  simp only [pSorted, e1, Option.bind_some, decide_eq_true len, if_true, es]
/-- pairs in order stay so -/
theorem sortT_id : ∀ {l : List D}, l.Pairwise (fun a b => codeT a ≤ codeT b) → sortT l = l
  | [], _ => rfl
  | x :: r, h => by
    obtain ⟨h1, h2⟩ := List.pairwise_cons.mp h
    show insT x (sortT r) = x :: r
    rw [sortT_id h2]
    cases r with
    | nil => rfl
    | cons y r =>
      unfold insT
      rw [if_pos (h1 y (List.mem_cons_self ..))]
theorem codeT_rat (a b : Int) : codeT (rat a b) = TS.code bigT [a, b] := rfl
theorem sum_bd {T lo hi a : Int} (L : Lim lo hi) (h : a ∈ ri (fst T lo hi) (lst T lo hi + 1)) : 6 ≤ a ∧ a ≤ 40 ∧ 6 ≤ T - a ∧ T - a ≤ 40 := by
  have h1 := L.a
  have h2 := L.b
  have h3 := L.c
  rw [mem_ri] at h
  have f : lo ≤ fst T lo hi ∧ T - hi ≤ fst T lo hi ∧ lst T lo hi ≤ hi ∧ lst T lo hi ≤ T - lo := by
    unfold fst lst mx mn
    split <;> split <;> omega
  omega
theorem sum_sorted {T lo hi : Int} (L : Lim lo hi) : pSorted (.lst (sumPairs T lo hi)) = some (.lst (sumPairs T lo hi)) := by
  have hLa := L.a
  have hLb := L.b
  have hLc := L.c
  have len : (sumPairs T lo hi).length < 64 := by
    unfold sumPairs
    rw [List.length_map, ri_len]
    have : lo ≤ fst T lo hi ∧ lst T lo hi ≤ hi := by unfold fst lst mx mn; split <;> split <;> omega
    omega
  have fit : ∀ d ∈ sumPairs T lo hi, tupFit 2 d = true := by
    intro d hd
    obtain ⟨a, ha, rfl⟩ := List.mem_map.mp hd
    have := sum_bd L ha
    have b1 : decide (a < bigT) = true := decide_eq_true (by unfold bigT; omega)
    have b2 : decide (T - a < bigT) = true := decide_eq_true (by unfold bigT; omega)
    have b3 : decide (0 ≤ a) = true := decide_eq_true (by omega)
    have b4 : decide (0 ≤ T - a) = true := decide_eq_true (by omega)
    simp only [tupFit, tupNs, intsOf, Option.map_some, List.length_cons, List.length_nil, List.all_cons, List.all_nil, b1, b2, b3, b4, Bool.and_self, Bool.and_true, decide_true]
  have so : (sumPairs T lo hi).Pairwise (fun a b => codeT a ≤ codeT b) := by
    unfold sumPairs
    rw [List.pairwise_map]
    have := ri_sorted (fst T lo hi) (lst T lo hi + 1)
    refine List.Pairwise.imp_of_mem (fun {a b} ha hb h => ?_) this
    have h1 := sum_bd L ha
    have h2 := sum_bd L hb
    rw [codeT_rat, codeT_rat]
    have := TS.code_lt (B := bigT) (d := a) (e := b) (r := [T - a]) (q := [T - b]) rfl (fun m hm => by simp at hm; subst hm; unfold bigT; omega) (fun m hm => by simp at hm; subst hm; unfold bigT; omega) h
    omega
  cases hs : sumPairs T lo hi with
  | nil => rfl
  | cons x r =>
    rw [hs] at len fit so
    have hx : x ∈ sumPairs T lo hi := by rw [hs]; exact List.mem_cons_self ..
    obtain ⟨a, ha, rfl⟩ := List.mem_map.mp hx
    have e1 : intsOf (rat a (T - a) :: r) = none := rfl
    have e2 : lenT (rat a (T - a) :: r) = 2 := rfl
    have e3 : (rat a (T - a) :: r).all (tupFit 2) = true := List.all_eq_true.mpr fit
    simp only [pSorted, O.asL, Option.bind_some, e1, e2, e3, decide_eq_true len, sortT_id so, Bool.and_self, Bool.and_true]
    rfl
end K82

namespace K82
open PySem L2 Vx
local macro_rules | `(tactic| trivial) => `(tactic| simp only [Vx.run, evSs, evS, evE, evA, evL, evOE, evT, evI, evTg, evTgs, Arg.get, p1, p2, pNeg, pNot, pAbs_i, pInt, pLen, pList, pTuple, pSum, intsOf, List.sum_cons, List.sum_nil, Int.add_zero, eq_self, dKey, pMax, pMin, pAll, pAny, pIs, pAdd, pSub, pMul, pFdiv, pMod, pPow, pLt, pLe, pGt, pGe, pEq, pNe, pIsN, pNotN, isNoneD, pIx, pMax2_i, pMin2_i, pGcd_i, pDivmod, inD, isIntD, isBoolD, isTupD, isSeqD, isStrD, isListD, eqD, O.asQ, O.asL, O.asLs, O.asT, O.fz, O.data, fzAll, perms, truthO, truthD, si, sb, List.length_cons, List.length_nil, List.map_cons, List.map_nil, List.cons_append, List.nil_append, List.append_nil, List.replicate_succ, List.replicate_zero, List.getElem?_cons_zero, List.getElem?_cons_succ, List.set_cons_zero, List.set_cons_succ, Option.join_some, Option.bind_some, Option.map_some, Option.bind_none, Option.map_none, Option.isSome_some, free_f, free_t, G.free, bindG, setAll, wipeEv, atI_0, atI_1, ixN_0, ixN_1, if_true, if_false, Bool.false_eq_true, Bool.and_true, Bool.true_and, Bool.and_self, Bool.not_true, Bool.not_false, Bool.or_false, Bool.false_or, Bool.or_true, Bool.true_or, Bool.false_and, Bool.and_false, Nat.zero_add, line_s, line_l, compGo, forGo, Nat.reduceLT, Int.reduceEq, Int.reduceNe, Int.reduceLT, Int.reduceLE, Int.cast_ofNat_Int, Int.natCast_one, Int.natCast_zero, Int.mul_one, Int.one_mul, and_true, true_and, and_self, Nat.reduceLeDiff, Nat.reduceAdd, Nat.reduceSub, decide_true, decide_false, isLst, isDct, reduceCtorEq, List.all_cons, List.all_nil, ne_eq, not_false_eq_true, not_true_eq_false, Option.some.injEq, Prod.mk.injEq, *])
/-! ### one round of the law: the dict of sums -/
theorem filt_len (T : Int) (xs : List (Int × Int)) : (filt T xs).length ≤ xs.length := by
  unfold filt
  rw [List.length_map]
  exact List.length_filter_le _ _
theorem dict_one (k : Nat) {kvs : List (Key × D)} {xs : List (Int × Int)} (G : Grp kvs xs) (hx : xs.length ≤ 10 ^ 5) (a b : Int) {p l : O} (s4 s5 s6 s7 s8 s9 s10 s11 s12 s13 s14 : Option O) :
    evSs (fnL code k) true (S.body (SL.nth ir_l_right 2)) [some p, some l, some (.dct kvs), some (.sh (rat a b)), s4, s5, s6, s7, s8, s9, s10, s11, s12, s13, s14] =
      some (.nx [some p, some l, some (.dct (gstep kvs (a, b))), some (.sh (rat a b)), s4, s5, s6, s7, s8, s9, s10, s11, s12, s13, s14]) := by
  have hp := (gstep_ok G (a, b)).1
  have hv := G.val (a + b)
  have hl := filt_len (a + b) xs
  have hk := G.len
  have z1 : decide (kvs.length < sizeLine) = true := line_lt (by omega)
  have z2 : lineOk ((filt (a + b) xs).length + 1) = true := line_of (by omega)
  simp only [SL.nth, S.body, ir_l_right]
  unfold gstep
  simp only at hp
  rw [hp]
  clear hp hl hk hx G
  by_cases h : filt (a + b) xs = []
  · rw [if_pos h] at hv
    rw [h] at z2 ⊢
    clear h
    trivial
  · rw [if_neg h] at hv
    clear h
    generalize filt (a + b) xs = f at *
    trivial
theorem dict_loop (k : Nat) {p l : O} (s4 s5 s6 s7 s8 s9 s10 s11 s12 s13 s14 : Option O) : ∀ (ys xs : List (Int × Int)) (kvs : List (Key × D)) (s3 : Option O), Grp kvs xs → xs.length + ys.length ≤ 10 ^ 5 → ∃ s3',
    forGo (bindG (.nm 3)) (evSs (fnL code k) true (S.body (SL.nth ir_l_right 2))) (ys.map fun x => rat x.1 x.2) [some p, some l, some (.dct kvs), s3, s4, s5, s6, s7, s8, s9, s10, s11, s12, s13, s14] =
      some (.nx [some p, some l, some (.dct (ys.foldl gstep kvs)), s3', s4, s5, s6, s7, s8, s9, s10, s11, s12, s13, s14])
  | [], xs, kvs, s3, _, _ => ⟨s3, rfl⟩
  | y :: ys, xs, kvs, s3, G, h => by
    simp only [List.length_cons] at h
    have e1 := dict_one k G (by omega) y.1 y.2 (p := p) (l := l) s4 s5 s6 s7 s8 s9 s10 s11 s12 s13 s14
    obtain ⟨s3', e2⟩ := dict_loop k s4 s5 s6 s7 s8 s9 s10 s11 s12 s13 s14 ys (xs ++ [y]) (gstep kvs y) (some (.sh (rat y.1 y.2))) (gstep_ok G y).2 (by rw [List.length_append, List.length_singleton]; omega)
    refine ⟨s3', ?_⟩
    rw [List.map_cons, List.foldl_cons, ← e2]
    exact forGo_nx rfl e1
/-! ### the sums looked at -/
theorem fine_rat {a b : Int} (h1 : -(10 ^ 20) < a) (h2 : a < 10 ^ 20) (h3 : -(10 ^ 20) < b) (h4 : b < 10 ^ 20) : fine (rat a b) = true := by
  have e1 : decide (a.natAbs < 10 ^ 40) = true := decide_eq_true (by omega)
  have e2 : decide (b.natAbs < 10 ^ 40) = true := decide_eq_true (by omega)
  simp only [fine, fineL, e1, e2, Bool.and_self]
theorem dep_rat (a b : Int) : (rat a b).depth ≤ 1 := by
  have : (rat a b).depth = 1 := rfl
  omega
theorem sz_rat (a b : Int) : szD (rat a b) ≤ 91 := by
  have : szD (rat a b) = 91 := rfl
  omega
theorem repr_rats {o : O} {ds : List D} (ho : o.data = some (.list ds)) (h : ∀ d ∈ ds, fine d = true ∧ d.depth ≤ 1 ∧ szD d ≤ 91) (hl : ds.length ≤ 10 ^ 4) : pRepr o = some (.sh (.str (PyData.list ds).shown)) := by
  refine pRepr_ok ho ?_ ?_ ?_
  · simp only [fine]
    exact fineL_all fun d hd => (h d hd).1
  · rw [PyData.depth.eq_1]
    have := depL_le (B := 1) fun d hd => (h d hd).2.1
    omega
  · have := szL_le (B := 91) fun d hd => (h d hd).2.2
    simp only [szD]
    have : ds.length * 93 ≤ 10 ^ 4 * 93 := Nat.mul_le_mul_right _ hl
    omega
theorem sum_len {T lo hi : Int} (L : Lim lo hi) : (sumPairs T lo hi).length ≤ 40 := by
  have := L.a
  have := L.c
  unfold sumPairs
  rw [List.length_map, ri_len]
  have : lo ≤ fst T lo hi ∧ lst T lo hi ≤ hi := by unfold fst lst mx mn; split <;> split <;> omega
  omega
theorem repr_sum {T lo hi : Int} (L : Lim lo hi) : pRepr (.lst (sumPairs T lo hi)) = some (.sh (.str (PyData.list (sumPairs T lo hi)).shown)) := by
  refine repr_rats rfl (fun d hd => ?_) (by have := sum_len (T := T) L; omega)
  obtain ⟨a, ha, rfl⟩ := List.mem_map.mp hd
  have := sum_bd L ha
  exact ⟨fine_rat (by omega) (by omega) (by omega) (by omega), dep_rat _ _, sz_rat _ _⟩
theorem sums_one (k : Nat) {lo hi T : Int} (L : Lim lo hi) (t1 : -1000 ≤ T) (t2 : T ≤ 1000) {p : O} (s3 s5 s6 s7 s8 s9 s10 s11 s12 s13 s14 : Option O) :
    ∃ s7' s8', nf s7' = true ∧ nf s8' = true ∧ evSs (fnL code (k + 5)) true (S.body (SL.nth ir_l_right 3)) [some p, some (.sh (rat lo hi)), some (.dct (grp lo hi)), s3, some (I T), s5, s6, s7, s8, s9, s10, s11, s12, s13, s14] =
      some (.nx [some p, some (.sh (rat lo hi)), some (.dct (grp lo hi)), s3, some (I T), s5, s6, s7', s8', s9, s10, s11, s12, s13, s14]) := by
  have hLb := L.b
  have e1 := pairs_ev k L t1 t2
  have e2 := repr_sum (T := T) L
  have e3 := sum_sorted (T := T) L
  have e4 := grp_val hLb T
  have z : decide ((sumPairs T lo hi).length < sizeLine) = true := line_lt (by have := sum_len (T := T) L; omega)
  refine ⟨some (.lst (sumPairs T lo hi)), some (.lst (sumPairs T lo hi ++ [.none])), rfl, rfl, ?_⟩
  have st1 : evE (fnL code (k + 5)) (.op1 .sorted (.ex (.dget 2 (.var 4) (.lst .nil)))) [some p, some (.sh (rat lo hi)), some (.dct (grp lo hi)), s3, some (I T), s5, s6, s7, s8, s9, s10, s11, s12, s13, s14] =
      some (.lst (sumPairs T lo hi), [some p, some (.sh (rat lo hi)), some (.dct (grp lo hi)), s3, some (I T), s5, s6, s7, s8, s9, s10, s11, s12, s13, s14]) := by
    by_cases h : 2 * lo ≤ T ∧ T ≤ 2 * hi
    · rw [if_pos h] at e4
      have e3' : pSorted (.sh (.list (sumPairs T lo hi))) = some (.lst (sumPairs T lo hi)) := e3
      clear e1 e2 e3 z h
      generalize sumPairs T lo hi = sp at *
      trivial
    · rw [if_neg h] at e4
      have hn := (sum_nil hLb).mpr h
      rw [hn] at e3 ⊢
      clear e1 e2 z h hn
      trivial
  simp only [SL.nth, S.body, ir_l_right]
  refine (seq_nx (asg_ev st1 rfl)).trans ?_
  clear st1 e3 e4
  generalize sumPairs T lo hi = sp at *
  generalize grp lo hi = gr at *
  generalize (PyData.list sp).shown = sh at *
  refine (seq_nx (ρ1 := [some p, some (.sh (rat lo hi)), some (.dct gr), s3, some (I T), s5, s6, some (.lst sp), some (.lst sp), s9, s10, s11, s12, s13, s14]) (by trivial)).trans ?_
  refine (seq_nx (ρ1 := [some p, some (.sh (rat lo hi)), some (.dct gr), s3, some (I T), s5, s6, some (.lst sp), some (.lst sp), s9, s10, s11, s12, s13, s14]) (by trivial)).trans ?_
  refine (seq_nx (ρ1 := [some p, some (.sh (rat lo hi)), some (.dct gr), s3, some (I T), s5, s6, some (.lst sp), some (.lst (sp ++ [.none])), s9, s10, s11, s12, s13, s14]) (by trivial)).trans ?_
  refine (seq_nx (ρ1 := [some p, some (.sh (rat lo hi)), some (.dct gr), s3, some (I T), s5, s6, some (.lst sp), some (.lst (sp ++ [.none])), s9, s10, s11, s12, s13, s14]) (by trivial)).trans ?_
  trivial
theorem sums_loop (k : Nat) {lo hi : Int} (L : Lim lo hi) {p : O} (s3 s5 s6 s9 s10 s11 s12 s13 s14 : Option O) : ∀ (Ts : List Int), (∀ T ∈ Ts, -1000 ≤ T ∧ T ≤ 1000) → ∀ (s4 s7 s8 : Option O), nf s7 = true → nf s8 = true → ∃ s4' s7' s8', nf s7' = true ∧ nf s8' = true ∧
    forGo (bindG (.nm 4)) (evSs (fnL code (k + 5)) true (S.body (SL.nth ir_l_right 3))) (Ts.map PyData.int) [some p, some (.sh (rat lo hi)), some (.dct (grp lo hi)), s3, s4, s5, s6, s7, s8, s9, s10, s11, s12, s13, s14] =
      some (.nx [some p, some (.sh (rat lo hi)), some (.dct (grp lo hi)), s3, s4', s5, s6, s7', s8', s9, s10, s11, s12, s13, s14])
  | [], _, s4, s7, s8, n7, n8 => ⟨s4, s7, s8, n7, n8, rfl⟩
  | T :: Ts, h, s4, s7, s8, _, _ => by
    obtain ⟨h1, h2⟩ := h T (List.mem_cons_self ..)
    obtain ⟨t7, t8, m7, m8, e1⟩ := sums_one k L h1 h2 (p := p) s3 s5 s6 s7 s8 s9 s10 s11 s12 s13 s14
    obtain ⟨u4, u7, u8, q7, q8, e2⟩ := sums_loop k L s3 s5 s6 s9 s10 s11 s12 s13 s14 Ts (fun x hx => h x (List.mem_cons_of_mem _ hx)) (some (I T)) t7 t8 m7 m8
    refine ⟨u4, u7, u8, q7, q8, ?_⟩
    rw [List.map_cons, ← e2]
    exact forGo_nx rfl e1
end K82

namespace K82
open PySem L2 Vx
local macro_rules | `(tactic| trivial) => `(tactic| simp only [Vx.run, evSs, evS, evE, evA, evL, evOE, evT, evI, evTg, evTgs, Arg.get, p1, p2, pNeg, pNot, pAbs_i, pInt, pLen, pList, pTuple, pSum, intsOf, List.sum_cons, List.sum_nil, Int.add_zero, eq_self, dKey, pMax, pMin, pAll, pAny, pIs, pAdd, pSub, pMul, pFdiv, pMod, pPow, pLt, pLe, pGt, pGe, pEq, pNe, pIsN, pNotN, isNoneD, pIx, pMax2_i, pMin2_i, pGcd_i, pDivmod, inD, isIntD, isBoolD, isTupD, isSeqD, isStrD, isListD, eqD, O.asQ, O.asL, O.asLs, O.asT, O.fz, O.data, fzAll, perms, truthO, truthD, si, sb, List.length_cons, List.length_nil, List.map_cons, List.map_nil, List.cons_append, List.nil_append, List.append_nil, List.replicate_succ, List.replicate_zero, List.getElem?_cons_zero, List.getElem?_cons_succ, List.set_cons_zero, List.set_cons_succ, Option.join_some, Option.bind_some, Option.map_some, Option.bind_none, Option.map_none, Option.isSome_some, free_f, free_t, G.free, bindG, setAll, wipeEv, atI_0, atI_1, ixN_0, ixN_1, if_true, if_false, Bool.false_eq_true, Bool.and_true, Bool.true_and, Bool.and_self, Bool.not_true, Bool.not_false, Bool.or_false, Bool.false_or, Bool.or_true, Bool.true_or, Bool.false_and, Bool.and_false, Nat.zero_add, line_s, line_l, compGo, forGo, Nat.reduceLT, Int.reduceEq, Int.reduceNe, Int.reduceLT, Int.reduceLE, Int.cast_ofNat_Int, Int.natCast_one, Int.natCast_zero, Int.mul_one, Int.one_mul, and_true, true_and, and_self, Nat.reduceLeDiff, Nat.reduceAdd, Nat.reduceSub, decide_true, decide_false, isLst, isDct, reduceCtorEq, List.all_cons, List.all_nil, ne_eq, not_false_eq_true, not_true_eq_false, Option.some.injEq, Prod.mk.injEq, *])
theorem rats_len (rs : List (Int × Int)) : (rats rs).length = rs.length := by unfold rats; rw [List.length_map]
theorem nums_ev (k : Nat) {a c lo hi : Int} (P : Pot a c) (L : Lim lo hi) (s2 s3 s4 s5 s6 s7 s8 s9 s10 s11 s12 s13 s14 : Option O) :
    ∃ a' c' rs, Pot a' c' ∧ (∀ r ∈ rs, Rt r.1 r.2) ∧ 1 ≤ rs.length ∧ rs.length ≤ 5 ∧ evS (fnL code (k + 5)) true (SL.nth ir_l_right 4) [some (potO a c), some (.sh (rat lo hi)), s2, s3, s4, s5, s6, s7, s8, s9, s10, s11, s12, s13, s14] =
      some (.nx [some (potO a' c'), some (.sh (rat lo hi)), s2, s3, s4, some (.lst (rats rs)), s6, s7, s8, s9, s10, s11, none, s13, s14]) := by
  obtain ⟨a1, c1, d, P1, d1, d2, e1⟩ := draw_ev (k + 4) P (m := 5) (by decide) (by decide)
  have i1 : i62 (1 + d) = true := i62_of (by omega) (by omega)
  have hI : evI (fnL code (k + 5)) (.range1 (.op2 .add (.ex (.con (.int 1))) (.ex (.callIO "_law_draw" 0 (.cons (.con (.int 5)) .nil))))) [some (potO a c), some (.sh (rat lo hi)), s2, s3, s4, s5, s6, s7, s8, s9, s10, s11, s12, s13, s14] =
      some (rangeD 0 (1 + d), [some (potO a1 c1), some (.sh (rat lo hi)), s2, s3, s4, s5, s6, s7, s8, s9, s10, s11, s12, s13, s14]) := by trivial
  obtain ⟨xs, ρ', e2, ⟨a2, c2, rs, P2, rfl, hR, rfl⟩, hl⟩ := compGo_inv (own := [12]) (tg := bindG (.nm 12)) (c := evT (fnL code (k + 5)) .yes) (el := evE (fnL code (k + 5)) (.callIO "_law_any_ratio" 0 (.cons (.var 1) .nil)))
    (fun acc ρ => ∃ a c rs, Pot a c ∧ acc = rats rs ∧ (∀ r ∈ rs, Rt r.1 r.2) ∧ ρ = [some (potO a c), some (.sh (rat lo hi)), s2, s3, s4, s5, s6, s7, s8, s9, s10, s11, none, s13, s14]) (rangeD 0 (1 + d)) [] (wipeEv [some (potO a1 c1), some (.sh (rat lo hi)), s2, s3, s4, s5, s6, s7, s8, s9, s10, s11, s12, s13, s14] [12]) (by
      rw [rangeD_ri, List.length_map, ri_len]
      simp only [List.length_nil]
      omega) ⟨a1, c1, [], P1, rfl, fun r h => by simp at h, rfl⟩ (by
      rintro acc x ρ hx ⟨b, e, rs, Pb, rfl, hR, rfl⟩
      obtain ⟨b', e', p, q, Pb', R, ev⟩ := any_ev (k + 2) Pb L
      refine ⟨[some (potO b e), some (.sh (rat lo hi)), s2, s3, s4, s5, s6, s7, s8, s9, s10, s11, some (.sh x), s13, s14], [some (potO b e), some (.sh (rat lo hi)), s2, s3, s4, s5, s6, s7, s8, s9, s10, s11, some (.sh x), s13, s14], [some (potO b' e'), some (.sh (rat lo hi)), s2, s3, s4, s5, s6, s7, s8, s9, s10, s11, some (.sh x), s13, s14], .sh (rat p q), rat p q, rfl, rfl, ?_, rfl, b', e', rs ++ [(p, q)], Pb', ?_, ?_, rfl⟩
      · clear hI e1 P P1 Pb Pb' hR R hx i1
        trivial
      · unfold rats
        rw [List.map_append]
        rfl
      · intro r hr
        rcases List.mem_append.mp hr with hr | hr
        · exact hR r hr
        · simp only [List.mem_singleton] at hr
          subst hr
          exact R)
  rw [rangeD_ri, List.length_map, ri_len, rats_len] at hl
  simp only [List.length_nil] at hl
  refine ⟨a2, c2, rs, P2, hR, by omega, by omega, ?_⟩
  exact asg_ev (comp_ev hI e2) rfl
/-! ### the best sum, by all sums -/
def en3 : Option (D × Int) → D
  | none => .none
  | some x => .tuple [x.1, .int x.2]
theorem best2_one (k : Nat) {lo hi T : Int} (L : Lim lo hi) (h1 : 2 * lo ≤ T) (h2 : T ≤ 2 * hi) (rs : List (Int × Int)) (hR : ∀ r ∈ rs, Rt r.1 r.2) {p o5 : O} (ho : o5 = .sh (.list (rats rs)) ∨ o5 = .lst (rats rs)) (st : Option (D × Int)) (hst : ∀ x, st = some x → RV x.1) (s3 s6 s7 s8 s9 s11 s12 s13 s14 : Option O) :
    ∃ s11', nf s11' = true ∧ evSs (fnL code (k + 5)) true (S.body (SL.nth ir_l_right 6)) [some p, some (.sh (rat lo hi)), some (.dct (grp lo hi)), s3, some (I T), some o5, s6, s7, s8, s9, some (.sh (en3 st)), s11, s12, s13, s14] =
      some (.nx [some p, some (.sh (rat lo hi)), some (.dct (grp lo hi)), s3, some (I T), some (.sh (.list (rats rs))), s6, s7, s8, s9, some (.sh (en3 (bstep (worst lo hi rs) st T))), s11', s12, s13, s14]) := by
  have e1 := err_ev (k + 1) L h1 h2 rs hR
  have e2 := grp_val L.b T
  rw [if_pos ⟨h1, h2⟩] at e2
  have hw : RV (worst lo hi rs T) := foldl_rv rv01 fun r hr => near_rv L (hR r hr) h1 h2
  refine ⟨some (.sh (worst lo hi rs T)), rfl, ?_⟩
  simp only [SL.nth, S.body, ir_l_right]
  refine (seq_nx (ρ1 := [some p, some (.sh (rat lo hi)), some (.dct (grp lo hi)), s3, some (I T), some (.sh (.list (rats rs))), s6, s7, s8, s9, some (.sh (en3 st)), some (.sh (worst lo hi rs T)), s12, s13, s14]) ?_).trans ?_
  · generalize en3 st = ss
    clear hst hw hR
    generalize worst lo hi rs T = w at *
    generalize rats rs = rr at *
    generalize sumPairs T lo hi = sp at *
    generalize grp lo hi = gr at *
    rcases ho with rfl | rfl <;> trivial
  · clear e1 e2 ho
    generalize rats rs = rr at *
    generalize grp lo hi = gr at *
    cases st with
    | none =>
      simp only [bstep, en3]
      generalize worst lo hi rs T = w at *
      clear hst hR hw
      trivial
    | some x =>
      obtain ⟨b, f⟩ := x
      have hb : RV b := hst (b, f) rfl
      have e3 := l_below_ev (k + 4) hw hb
      clear hst hR
      simp only [bstep, en3]
      generalize worst lo hi rs T = w at *
      cases hh : lessD w b <;> rw [hh] at e3 <;> trivial
theorem best2_loop (k : Nat) {lo hi : Int} (L : Lim lo hi) (rs : List (Int × Int)) (hR : ∀ r ∈ rs, Rt r.1 r.2) {p : O} (s3 s6 s7 s8 s9 s12 s13 s14 : Option O) : ∀ (Ts : List Int), (∀ T ∈ Ts, 2 * lo ≤ T ∧ T ≤ 2 * hi) → ∀ (st : Option (D × Int)), (∀ x, st = some x → RV x.1) → ∀ (o5 : O), (o5 = .sh (.list (rats rs)) ∨ o5 = .lst (rats rs)) → ∀ (s4 s11 : Option O), nf s11 = true → ∃ s4' o5' s11', nf s11' = true ∧ (o5' = .sh (.list (rats rs)) ∨ o5' = .lst (rats rs)) ∧
    forGo (bindG (.nm 4)) (evSs (fnL code (k + 5)) true (S.body (SL.nth ir_l_right 6))) (Ts.map PyData.int) [some p, some (.sh (rat lo hi)), some (.dct (grp lo hi)), s3, s4, some o5, s6, s7, s8, s9, some (.sh (en3 st)), s11, s12, s13, s14] =
      some (.nx [some p, some (.sh (rat lo hi)), some (.dct (grp lo hi)), s3, s4', some o5', s6, s7, s8, s9, some (.sh (en3 (Ts.foldl (bstep (worst lo hi rs)) st))), s11', s12, s13, s14])
  | [], _, st, _, o5, ho, s4, s11, n11 => ⟨s4, o5, s11, n11, ho, rfl⟩
  | T :: Ts, h, st, hst, o5, ho, s4, s11, _ => by
    obtain ⟨h1, h2⟩ := h T (List.mem_cons_self ..)
    obtain ⟨t11, m11, e1⟩ := best2_one k L h1 h2 rs hR (p := p) ho st hst s3 s6 s7 s8 s9 s11 s12 s13 s14
    obtain ⟨u4, u5, u11, v11, hu, e2⟩ := best2_loop k L rs hR s3 s6 s7 s8 s9 s12 s13 s14 Ts (fun x hx => h x (List.mem_cons_of_mem _ hx)) (bstep (worst lo hi rs) st T) (bstep_rv (foldl_rv rv01 fun r hr => near_rv L (hR r hr) h1 h2) hst) (.sh (.list (rats rs))) (.inl rfl) (some (I T)) t11 m11
    refine ⟨u4, u5, u11, v11, hu, ?_⟩
    rw [List.map_cons, List.foldl_cons, ← e2]
    exact forGo_nx rfl e1
theorem bestF_some {W : Int → D} : ∀ (Ts : List Int) (st : Option (D × Int)), (st ≠ none ∨ Ts ≠ []) → ∃ b f, Ts.foldl (bstep W) st = some (b, f) ∧ (f ∈ Ts ∨ ∃ b', st = some (b', f))
  | [], st, h => by
    cases st with
    | none => rcases h with h | h <;> exact absurd rfl h
    | some x => exact ⟨x.1, x.2, rfl, .inr ⟨x.1, rfl⟩⟩
  | T :: Ts, st, _ => by
    rw [List.foldl_cons]
    obtain ⟨b, f, e, h⟩ := bestF_some (W := W) Ts (bstep W st T) (.inl (by
      cases st with
      | none => simp [bstep]
      | some x => simp only [bstep]; split <;> simp))
    refine ⟨b, f, e, ?_⟩
    rcases h with h | ⟨b', h⟩
    · exact .inl (List.mem_cons_of_mem _ h)
    · cases st with
      | none => simp only [bstep, Option.some.injEq, Prod.mk.injEq] at h; exact .inl (by rw [← h.2]; exact List.mem_cons_self ..)
      | some x =>
        simp only [bstep] at h
        split at h
        · simp only [Option.some.injEq, Prod.mk.injEq] at h; exact .inl (by rw [← h.2]; exact List.mem_cons_self ..)
        · simp only [Option.some.injEq] at h; subst h; exact .inr ⟨b', rfl⟩
end K82

namespace K82
open PySem L2 Vx
local macro_rules | `(tactic| trivial) => `(tactic| simp only [Vx.run, evSs, evS, evE, evA, evL, evOE, evT, evI, evTg, evTgs, Arg.get, p1, p2, pNeg, pNot, pAbs_i, pInt, pLen, pList, pTuple, pSum, intsOf, List.sum_cons, List.sum_nil, Int.add_zero, eq_self, dKey, pMax, pMin, pAll, pAny, pIs, pAdd, pSub, pMul, pFdiv, pMod, pPow, pLt, pLe, pGt, pGe, pEq, pNe, pIsN, pNotN, isNoneD, pIx, pMax2_i, pMin2_i, pGcd_i, pDivmod, inD, isIntD, isBoolD, isTupD, isSeqD, isStrD, isListD, eqD, O.asQ, O.asL, O.asLs, O.asT, O.fz, O.data, fzAll, perms, truthO, truthD, si, sb, List.length_cons, List.length_nil, List.map_cons, List.map_nil, List.cons_append, List.nil_append, List.append_nil, List.replicate_succ, List.replicate_zero, List.getElem?_cons_zero, List.getElem?_cons_succ, List.set_cons_zero, List.set_cons_succ, Option.join_some, Option.bind_some, Option.map_some, Option.bind_none, Option.map_none, Option.isSome_some, free_f, free_t, G.free, bindG, setAll, wipeEv, atI_0, atI_1, ixN_0, ixN_1, if_true, if_false, Bool.false_eq_true, Bool.and_true, Bool.true_and, Bool.and_self, Bool.not_true, Bool.not_false, Bool.or_false, Bool.false_or, Bool.or_true, Bool.true_or, Bool.false_and, Bool.and_false, Nat.zero_add, line_s, line_l, compGo, forGo, Nat.reduceLT, Int.reduceEq, Int.reduceNe, Int.reduceLT, Int.reduceLE, Int.cast_ofNat_Int, Int.natCast_one, Int.natCast_zero, Int.mul_one, Int.one_mul, and_true, true_and, and_self, Nat.reduceLeDiff, Nat.reduceAdd, Nat.reduceSub, decide_true, decide_false, isLst, isDct, reduceCtorEq, List.all_cons, List.all_nil, ne_eq, not_false_eq_true, not_true_eq_false, Option.some.injEq, Prod.mk.injEq, *])
/-! ### one ratio of a pair -/
theorem cop_eq {u v u' v' : Int} (v0 : 0 < v) (v0' : 0 < v') (g1 : gg u v = 1) (g2 : gg u' v' = 1) (h : u * v' = u' * v) : u = u' ∧ v = v' := by
  have d1 : v ∣ v' := by
    have : v ∣ u * v' := ⟨u', by rw [h]; grind⟩
    have cop : v.natAbs.Coprime u.natAbs := by
      unfold gg at g1
      have : Nat.gcd u.natAbs v.natAbs = 1 := by omega
      rwa [Nat.Coprime, Nat.gcd_comm]
    have k : v.natAbs ∣ u.natAbs * v'.natAbs := by
      have := Int.natAbs_dvd_natAbs.mpr this
      rwa [Int.natAbs_mul] at this
    exact Int.natAbs_dvd_natAbs.mp (cop.dvd_of_dvd_mul_left k)
  have d2 : v' ∣ v := by
    have : v' ∣ u' * v := ⟨u, by rw [← h]; grind⟩
    have cop : v'.natAbs.Coprime u'.natAbs := by
      unfold gg at g2
      have : Nat.gcd u'.natAbs v'.natAbs = 1 := by omega
      rwa [Nat.Coprime, Nat.gcd_comm]
    have k : v'.natAbs ∣ u'.natAbs * v.natAbs := by
      have := Int.natAbs_dvd_natAbs.mpr this
      rwa [Int.natAbs_mul] at this
    exact Int.natAbs_dvd_natAbs.mp (cop.dvd_of_dvd_mul_left k)
  have ev : v = v' := by
    have := Int.le_of_dvd v0' d1
    have := Int.le_of_dvd v0 d2
    omega
  subst ev
  exact ⟨Int.eq_of_mul_eq_mul_right (by omega) h, rfl⟩
def redL (T lo hi : Int) : List D := (ri (fst T lo hi) (lst T lo hi + 1)).map fun a => red a (T - a)
def hit (p q lo hi T : Int) : Bool := (redL T lo hi).any fun z => PyData.eqv z (rat p q)
theorem eqv_rat (a b c d : Int) : PyData.eqv (rat a b) (rat c d) = decide (a = c ∧ b = d) := by
  have : PyData.eqv (rat a b) (rat c d) = ((a == c) && ((b == d) && true)) := rfl
  rw [this, Bool.and_true]
  by_cases h1 : a = c <;> by_cases h2 : b = d <;> simp [h1, h2]
theorem hit_iff {p q lo hi T : Int} (L : Lim lo hi) (R : Rt p q) : hit p q lo hi T = true ↔ ∃ a, a ∈ ri (fst T lo hi) (lst T lo hi + 1) ∧ a * q = p * (T - a) := by
  unfold hit redL
  rw [List.any_eq_true]
  have key : ∀ a, a ∈ ri (fst T lo hi) (lst T lo hi + 1) → (PyData.eqv (red a (T - a)) (rat p q) = true ↔ a * q = p * (T - a)) := by
    intro a ha
    have := sum_bd L ha
    obtain ⟨p', q', e, R', h, _⟩ := red_rt (a := a) (b := T - a) (by omega) (by omega) (by omega) (by omega)
    rw [e, eqv_rat, decide_eq_true_eq]
    constructor
    · rintro ⟨rfl, rfl⟩
      exact h.symm
    · intro hh
      have hb : (T - a) ≠ 0 := by omega
      have : p' * q = p * q' := by
        have e1 : p' * q * (T - a) = p * q' * (T - a) := by
          have : p' * q * (T - a) = (p' * (T - a)) * q := by grind
          rw [this, h]
          have : a * q' * q = (a * q) * q' := by grind
          rw [this, hh]
          grind
        exact Int.eq_of_mul_eq_mul_right hb e1
      exact cop_eq R'.q0 R.q0 R'.g R.g this
  constructor
  · rintro ⟨z, hz, h⟩
    obtain ⟨a, ha, rfl⟩ := List.mem_map.mp hz
    exact ⟨a, ha, (key a ha).mp h⟩
  · rintro ⟨a, ha, h⟩
    exact ⟨_, List.mem_map.mpr ⟨a, ha, rfl⟩, (key a ha).mpr h⟩
theorem worst1 {p q lo hi T : Int} (L : Lim lo hi) (R : Rt p q) (h1 : 2 * lo ≤ T) (h2 : T ≤ 2 * hi) : ∃ u v : Int, worst lo hi [(p, q)] T = rat u v ∧ 0 ≤ u ∧ 0 < v ∧ (hit p q lo hi T = true → u = 0 ∧ v = 1) ∧ (hit p q lo hi T = false → 0 < u) := by
  obtain ⟨⟨c, c1, c2, e⟩, hn⟩ := near_ok L R h1 h2
  have hc := sum_bd (T := T) L (a := c) (mem_ri.mpr (by omega))
  obtain ⟨u, v, s, eu, u0, v0, s0, e1, e2, g⟩ := EE_val (p := p) (q := q) (a := c) (b := T - c) (by omega) (by omega) R.p0 R.q0
  have ew : worst lo hi [(p, q)] T = if 0 < u then rat u v else rat 0 1 := by
    show wstep lo hi T (rat 0 1) (p, q) = _
    unfold wstep
    simp only
    rw [e, eu]
    have : lessD (rat 0 1) (rat u v) = decide (0 < u) := by
      simp only [lessD]
      refine decide_eq_decide.mpr ?_
      omega
    rw [this]
    by_cases h : 0 < u
    · rw [if_pos (decide_eq_true h), if_pos h]
    · rw [if_neg (by simpa using h), if_neg h]
  have iff : hit p q lo hi T = true ↔ u = 0 := by
    rw [hit_iff L R]
    constructor
    · rintro ⟨a, ha, h⟩
      have ba := sum_bd L ha
      rw [mem_ri] at ha
      obtain ⟨u', v', s', eu', u0', v0', s0', e1', e2', _⟩ := EE_val (p := p) (q := q) (a := a) (b := T - a) (by omega) (by omega) R.p0 R.q0
      have z : u' = 0 := by
        have : a * q - p * (T - a) = 0 := by omega
        rw [this] at e1'
        have : u' * s' = 0 := by rw [e1']; rfl
        rcases Int.mul_eq_zero.mp this with h | h <;> omega
      have := hn a (by omega) (by omega)
      rw [e, eu', eu, z] at this
      simp only [lessD, decide_eq_false_iff_not] at this
      have := Int.mul_nonneg u0 (show 0 ≤ v' by omega)
      have : u * v' = 0 := by omega
      rcases Int.mul_eq_zero.mp this with h | h <;> omega
    · intro hu
      refine ⟨c, mem_ri.mpr (by omega), ?_⟩
      rw [hu, Int.zero_mul] at e1
      unfold ab at e1
      split at e1 <;> omega
  rw [ew]
  by_cases h : 0 < u
  · rw [if_pos h]
    exact ⟨u, v, rfl, u0, v0, fun hh => by have := iff.mp hh; omega, fun _ => h⟩
  · rw [if_neg h]
    have : hit p q lo hi T = true := iff.mpr (by omega)
    exact ⟨0, 1, rfl, by decide, by decide, fun _ => ⟨rfl, rfl⟩, fun hh => by rw [this] at hh; cases hh⟩
/-- once at 0 it stays -/
theorem best_stay {W : Int → D} {m : Int} : ∀ (Ts : List Int), (∀ T ∈ Ts, ∃ u v : Int, W T = rat u v ∧ 0 ≤ u ∧ 0 < v) → Ts.foldl (bstep W) (some (rat 0 1, m)) = some (rat 0 1, m)
  | [], _ => rfl
  | T :: Ts, h => by
    obtain ⟨u, v, e, u0, v0⟩ := h T (List.mem_cons_self ..)
    have : bstep W (some (rat 0 1, m)) T = some (rat 0 1, m) := by
      simp only [bstep, e, lessD]
      rw [if_neg]
      simp only [decide_eq_true_eq]
      omega
    rw [List.foldl_cons, this]
    exact best_stay Ts fun x hx => h x (List.mem_cons_of_mem _ hx)
theorem best_first {W : Int → D} {H : Int → Bool} : ∀ (Ts : List Int) (st : Option (D × Int)), Ts.Pairwise (· < ·) → (∀ T ∈ Ts, ∃ u v : Int, W T = rat u v ∧ 0 ≤ u ∧ 0 < v ∧ (H T = true → u = 0 ∧ v = 1) ∧ (H T = false → 0 < u)) → (∀ x, st = some x → ∃ u v : Int, x.1 = rat u v ∧ 0 < u ∧ 0 < v) → (∃ T ∈ Ts, H T = true) →
    ∃ m ∈ Ts, H m = true ∧ (∀ T ∈ Ts, H T = true → m ≤ T) ∧ Ts.foldl (bstep W) st = some (rat 0 1, m)
  | [], _, _, _, _, h => by obtain ⟨T, h, _⟩ := h; simp at h
  | T :: Ts, st, so, hW, hst, hex => by
    obtain ⟨s1, s2⟩ := List.pairwise_cons.mp so
    obtain ⟨u, v, e, u0, v0, k1, k2⟩ := hW T (List.mem_cons_self ..)
    have hW' : ∀ x ∈ Ts, ∃ u v : Int, W x = rat u v ∧ 0 ≤ u ∧ 0 < v ∧ (H x = true → u = 0 ∧ v = 1) ∧ (H x = false → 0 < u) := fun x hx => hW x (List.mem_cons_of_mem _ hx)
    rw [List.foldl_cons]
    cases hT : H T with
    | true =>
      obtain ⟨rfl, rfl⟩ := k1 hT
      have : bstep W st T = some (rat 0 1, T) := by
        cases st with
        | none => simp only [bstep, e]
        | some x =>
          obtain ⟨u', v', e', u0', v0'⟩ := hst x rfl
          simp only [bstep, e, e', lessD]
          rw [if_pos]
          simp only [decide_eq_true_eq]
          omega
      rw [this]
      refine ⟨T, List.mem_cons_self .., hT, fun x hx _ => ?_, best_stay Ts fun x hx => ?_⟩
      · rcases List.mem_cons.mp hx with rfl | hx
        · exact Int.le_refl _
        · have := s1 x hx; omega
      · obtain ⟨u, v, e, u0, v0, _⟩ := hW' x hx
        exact ⟨u, v, e, u0, v0⟩
    | false =>
      have hu := k2 hT
      obtain ⟨m, hm, h1, h2, h3⟩ := best_first Ts (bstep W st T) s2 hW' (fun x hx => by
        cases st with
        | none => simp only [bstep, Option.some.injEq] at hx; subst hx; exact ⟨u, v, e, hu, v0⟩
        | some y =>
          simp only [bstep] at hx
          split at hx
          · cases hx; exact ⟨u, v, e, hu, v0⟩
          · cases hx; exact hst _ rfl) (by
        obtain ⟨x, hx, hh⟩ := hex
        rcases List.mem_cons.mp hx with rfl | hx
        · rw [hT] at hh; cases hh
        · exact ⟨x, hx, hh⟩)
      refine ⟨m, List.mem_cons_of_mem _ hm, h1, fun x hx hh => ?_, h3⟩
      rcases List.mem_cons.mp hx with rfl | hx
      · rw [hT] at hh; cases hh
      · exact h2 x hx hh
end K82

namespace K82
open PySem L2 Vx
local macro_rules | `(tactic| trivial) => `(tactic| simp only [Vx.run, evSs, evS, evE, evA, evL, evOE, evT, evI, evTg, evTgs, Arg.get, p1, p2, pNeg, pNot, pAbs_i, pInt, pLen, pList, pTuple, pSum, intsOf, List.sum_cons, List.sum_nil, Int.add_zero, eq_self, dKey, pMax, pMin, pAll, pAny, pIs, pAdd, pSub, pMul, pFdiv, pMod, pPow, pLt, pLe, pGt, pGe, pEq, pNe, pIsN, pNotN, isNoneD, pIx, pMax2_i, pMin2_i, pGcd_i, pDivmod, inD, isIntD, isBoolD, isTupD, isSeqD, isStrD, isListD, eqD, O.asQ, O.asL, O.asLs, O.asT, O.fz, O.data, fzAll, perms, truthO, truthD, si, sb, List.length_cons, List.length_nil, List.map_cons, List.map_nil, List.cons_append, List.nil_append, List.append_nil, List.replicate_succ, List.replicate_zero, List.getElem?_cons_zero, List.getElem?_cons_succ, List.set_cons_zero, List.set_cons_succ, Option.join_some, Option.bind_some, Option.map_some, Option.bind_none, Option.map_none, Option.isSome_some, free_f, free_t, G.free, bindG, setAll, wipeEv, atI_0, atI_1, ixN_0, ixN_1, if_true, if_false, Bool.false_eq_true, Bool.and_true, Bool.true_and, Bool.and_self, Bool.not_true, Bool.not_false, Bool.or_false, Bool.false_or, Bool.or_true, Bool.true_or, Bool.false_and, Bool.and_false, Nat.zero_add, line_s, line_l, compGo, forGo, Nat.reduceLT, Int.reduceEq, Int.reduceNe, Int.reduceLT, Int.reduceLE, Int.cast_ofNat_Int, Int.natCast_one, Int.natCast_zero, Int.mul_one, Int.one_mul, and_true, true_and, and_self, Nat.reduceLeDiff, Nat.reduceAdd, Nat.reduceSub, decide_true, decide_false, isLst, isDct, reduceCtorEq, List.all_cons, List.all_nil, ne_eq, not_false_eq_true, not_true_eq_false, Option.some.injEq, Prod.mk.injEq, *])
def kT : Key × D → Int
  | (.inl T, _) => T
  | _ => 0
def hits (p q lo hi : Int) : List Int := ((grp lo hi).filter fun x => hit p q lo hi (kT x)).map kT
theorem hits_mem {p q lo hi : Int} (h : lo ≤ hi) {T : Int} : T ∈ hits p q lo hi ↔ (2 * lo ≤ T ∧ T ≤ 2 * hi) ∧ hit p q lo hi T = true := by
  unfold hits
  rw [List.mem_map]
  constructor
  · rintro ⟨x, hx, rfl⟩
    rw [List.mem_filter] at hx
    obtain ⟨T, h1, h2, rfl⟩ := (grp_mem h).mp hx.1
    exact ⟨⟨h1, h2⟩, hx.2⟩
  · rintro ⟨⟨h1, h2⟩, h3⟩
    exact ⟨(.inl T, .list (sumPairs T lo hi)), List.mem_filter.mpr ⟨(grp_mem h).mpr ⟨T, h1, h2, rfl⟩, h3⟩, rfl⟩
theorem intsOf_map : ∀ ns : List Int, intsOf (ns.map PyData.int) = some ns
  | [] => rfl
  | n :: r => by simp only [List.map_cons, intsOf, intsOf_map r, Option.map_some]
theorem pMin_hits {m : Int} {ns : List Int} (h1 : m ∈ ns) (h2 : ∀ T ∈ ns, m ≤ T) : pMin (.lst (ns.map PyData.int)) = some (I m) := by
  unfold pMin
  simp only [O.asL, Option.bind_some, intsOf_map]
  cases ns with
  | nil => simp at h1
  | cons n r =>
    show si (minL n r) = _
    rw [minL_ok r n m h1 h2]
    rfl
def isHit (p q lo hi : Int) : D → Bool
  | .tuple [.int T, _] => hit p q lo hi T
  | _ => false
def fstD : D → D
  | .tuple [x, _] => x
  | _ => .none
theorem items_hits {p q lo hi : Int} (h : lo ≤ hi) : (((grp lo hi).map fun x => PyData.tuple [kD x.1, x.2]).filter (isHit p q lo hi)).map fstD = (hits p q lo hi).map PyData.int := by
  unfold hits
  rw [List.filter_map, List.map_map, List.map_map]
  have e1 : (grp lo hi).filter (isHit p q lo hi ∘ fun x => PyData.tuple [kD x.1, x.2]) = (grp lo hi).filter fun x => hit p q lo hi (kT x) := by
    refine List.filter_congr fun x hx => ?_
    obtain ⟨T, _, _, rfl⟩ := (grp_mem h).mp hx
    rfl
  rw [e1]
  refine List.map_congr_left fun x hx => ?_
  obtain ⟨T, _, _, rfl⟩ := (grp_mem h).mp (List.mem_filter.mp hx).1
  rfl
theorem shaped_rat (a b : Int) : SeqAt.shaped (rat a b) = true := rfl
theorem redL_shaped {T lo hi : Int} (L : Lim lo hi) : SeqAt.shaped (.list (redL T lo hi)) = true := by
  have h : ∀ d ∈ redL T lo hi, fine d = true ∧ d.depth ≤ 1 := fun d hd => by
    obtain ⟨a, ha, rfl⟩ := List.mem_map.mp hd
    have := sum_bd L ha
    obtain ⟨p', q', e, R', _⟩ := red_rt (a := a) (b := T - a) (by omega) (by omega) (by omega) (by omega)
    have r1 := R'.p0
    have r2 := R'.q0
    have r3 := R'.p1
    have r4 := R'.q1
    rw [e]
    exact ⟨fine_rat (by omega) (by omega) (by omega) (by omega), dep_rat _ _⟩
  unfold SeqAt.shaped
  rw [PyData.canLay0.eq_5, (fine_layL _ (fineL_all fun d hd => (h d hd).1)).1, PyData.depth.eq_1, decide_eq_true (by have := depL_le (B := 1) fun d hd => (h d hd).2; omega)]
  rfl
theorem least_ev (k : Nat) {lo hi x y p q m : Int} (L : Lim lo hi) (R : Rt p q) (hx : lo ≤ x ∧ x ≤ hi) (hy : lo ≤ y ∧ y ≤ hi) (er : red x y = rat p q) (hm1 : m ∈ hits p q lo hi) (hm2 : ∀ T ∈ hits p q lo hi, m ≤ T) {s0 s1 : O} (s4 s5 s6 s7 s8 s9 s10 s11 s12 : Option O) (n0 : isFdO s0 = false) (n1 : isFdO s1 = false) (n5 : nf s5 = true) (n6 : nf s6 = true) (n7 : nf s7 = true) (n8 : nf s8 = true) (n9 : nf s9 = true) (n10 : nf s10 = true) (n11 : nf s11 = true) (n12 : nf s12 = true) :
    evS (fnL code (k + 5)) true (SL.nth ir_l_right 9) [some s0, some s1, some (.dct (grp lo hi)), some (.sh (rat x y)), s4, s5, s6, s7, s8, s9, s10, s11, s12, none, none] =
      some (.nx [some s0, some s1, some (.dct (grp lo hi)), some (.sh (rat x y)), none, s5, some (I m), s7, s8, s9, s10, s11, s12, none, none]) := by
  have hLa := L.a
  have hLc := L.c
  have hw : fnL code (k + 5) "_law_worth" [.sh (.tuple [rat x y])] = some (.sh (rat p q), N0) := by
    rw [← er]
    exact worth1_ev (k + 3) (by omega) (by omega) (by omega) (by omega)
  -- one sum's own worths
  have inner : ∀ T : Int, evE (fnL code (k + 5)) (.comp [14] (.nm 14) (.seq (.var 13)) .yes (.call "_law_worth" (.cons (.tup (.cons (.var 14) .nil)) .nil))) [some s0, some s1, some (.fdct (grp lo hi)), some (.sh (rat x y)), some (I T), s5, s6, s7, s8, s9, s10, s11, s12, some (.sh (.list (sumPairs T lo hi))), none] =
      some (.lst (redL T lo hi), [some s0, some s1, some (.fdct (grp lo hi)), some (.sh (rat x y)), some (I T), s5, s6, s7, s8, s9, s10, s11, s12, some (.sh (.list (sumPairs T lo hi))), none]) := by
    intro T
    refine comp_ev (ds := sumPairs T lo hi) (ρ1 := [some s0, some s1, some (.fdct (grp lo hi)), some (.sh (rat x y)), some (I T), s5, s6, s7, s8, s9, s10, s11, s12, some (.sh (.list (sumPairs T lo hi))), none]) ?_ ?_
    · generalize sumPairs T lo hi = sp
      generalize grp lo hi = gr
      clear hw hm1 hm2 n0 n1 n5 n6 n7 n8 n9 n10 n11 n12
      trivial
    · have key := compGo_map (own := [14]) (tg := bindG (.nm 14)) (c := evT (fnL code (k + 5)) .yes) (el := evE (fnL code (k + 5)) (.call "_law_worth" (.cons (.tup (.cons (.var 14) .nil)) .nil))) (ρ := [some s0, some s1, some (.fdct (grp lo hi)), some (.sh (rat x y)), some (I T), s5, s6, s7, s8, s9, s10, s11, s12, some (.sh (.list (sumPairs T lo hi))), none])
        (fun d => match d with | .tuple [.int a, .int b] => red a b | _ => .none) (sumPairs T lo hi) [] (by have := sum_len (T := T) L; simp only [List.length_nil]; omega) (fun d hd => by
          obtain ⟨a, ha, rfl⟩ := List.mem_map.mp hd
          have bd := sum_bd L ha
          have e := worth1_ev (k + 3) (a := a) (b := T - a) (by omega) (by omega) (by omega) (by omega)
          refine ⟨[some s0, some s1, some (.fdct (grp lo hi)), some (.sh (rat x y)), some (I T), s5, s6, s7, s8, s9, s10, s11, s12, some (.sh (.list (sumPairs T lo hi))), some (.sh (rat a (T - a)))], [some s0, some s1, some (.fdct (grp lo hi)), some (.sh (rat x y)), some (I T), s5, s6, s7, s8, s9, s10, s11, s12, some (.sh (.list (sumPairs T lo hi))), some (.sh (rat a (T - a)))], [some s0, some s1, some (.fdct (grp lo hi)), some (.sh (rat x y)), some (I T), s5, s6, s7, s8, s9, s10, s11, s12, some (.sh (.list (sumPairs T lo hi))), some (.sh (rat a (T - a)))], .sh (red a (T - a)), rfl, rfl, ?_, rfl, rfl⟩
          clear hw hm1 hm2 n0 n1 n5 n6 n7 n8 n9 n10 n11 n12 bd hd ha
          generalize sumPairs T lo hi = sp at *
          generalize grp lo hi = gr at *
          generalize red a (T - a) = rr at *
          generalize rat a (T - a) = ra at *
          trivial)
      have e : (sumPairs T lo hi).map (fun d => match d with | .tuple [.int a, .int b] => red a b | _ => .none) = redL T lo hi := by
        unfold sumPairs redL
        rw [List.map_map]
        rfl
      rw [e] at key
      exact key
  have comp : evE (fnL code (k + 5)) (.comp [4, 13] (.tp [4, 13]) (.items 2) (.cmp .isin (.ex (.call "_law_worth" (.cons (.tup (.cons (.var 3) .nil)) .nil))) (.ex (.comp [14] (.nm 14) (.seq (.var 13)) .yes (.call "_law_worth" (.cons (.tup (.cons (.var 14) .nil)) .nil))))) (.var 4)) [some s0, some s1, some (.fdct (grp lo hi)), some (.sh (rat x y)), s4, s5, s6, s7, s8, s9, s10, s11, s12, none, none] =
      some (.lst ((hits p q lo hi).map PyData.int), [some s0, some s1, some (.fdct (grp lo hi)), some (.sh (rat x y)), none, s5, s6, s7, s8, s9, s10, s11, s12, none, none]) := by
    refine comp_ev (ds := (grp lo hi).map fun x => PyData.tuple [kD x.1, x.2]) (ρ1 := [some s0, some s1, some (.fdct (grp lo hi)), some (.sh (rat x y)), s4, s5, s6, s7, s8, s9, s10, s11, s12, none, none]) rfl ?_
    generalize hcc : E.comp [14] (.nm 14) (.seq (.var 13)) .yes (.call "_law_worth" (.cons (.tup (.cons (.var 14) .nil)) .nil)) = cc at *
    have key := compGo_filter (own := [4, 13]) (tg := bindG (.tp [4, 13])) (c := evT (fnL code (k + 5)) (.cmp .isin (.ex (.call "_law_worth" (.cons (.tup (.cons (.var 3) .nil)) .nil))) (.ex cc))) (el := evE (fnL code (k + 5)) (.var 4)) (ρ := [some s0, some s1, some (.fdct (grp lo hi)), some (.sh (rat x y)), none, s5, s6, s7, s8, s9, s10, s11, s12, none, none])
      (isHit p q lo hi) fstD ((grp lo hi).map fun x => PyData.tuple [kD x.1, x.2]) [] (by
        have := (grp_ok lo hi).len
        have h2 := (all_len L).2
        rw [all_pairsI, List.length_map] at h2
        rw [List.length_map]
        simp only [List.length_nil]
        omega) (fun d hd => by
        obtain ⟨z, hz, rfl⟩ := List.mem_map.mp hd
        obtain ⟨T, h1, h2, rfl⟩ := (grp_mem L.b).mp hz
        have i1 := inner T
        have i2 := redL_shaped (T := T) L
        have i3 := shaped_rat p q
        have i4 : (redL T lo hi).any (fun z => PyData.eqv z (rat p q)) = hit p q lo hi T := rfl
        refine ⟨[some s0, some s1, some (.fdct (grp lo hi)), some (.sh (rat x y)), some (I T), s5, s6, s7, s8, s9, s10, s11, s12, some (.sh (.list (sumPairs T lo hi))), none], [some s0, some s1, some (.fdct (grp lo hi)), some (.sh (rat x y)), some (I T), s5, s6, s7, s8, s9, s10, s11, s12, some (.sh (.list (sumPairs T lo hi))), none], rfl, ?_, fun _ => ⟨[some s0, some s1, some (.fdct (grp lo hi)), some (.sh (rat x y)), some (I T), s5, s6, s7, s8, s9, s10, s11, s12, some (.sh (.list (sumPairs T lo hi))), none], I T, ?_, rfl, rfl⟩, fun _ => rfl⟩
        · show _ = some (hit p q lo hi T, _)
          rw [← i4]
          clear i4 hm1 hm2 n0 n1 n5 n6 n7 n8 n9 n10 n11 n12 hz hd hcc
          generalize redL T lo hi = rl at *
          generalize sumPairs T lo hi = sp at *
          generalize grp lo hi = gr at *
          generalize rat p q = pq at *
          generalize rat x y = xy at *
          have bf : ∀ b : Bool, (false ^^ b) = b := fun b => by cases b <;> rfl
          trivial
        · rfl)
    rw [items_hits L.b] at key
    exact key
  refine asg_ev (ρ1 := [some s0, some s1, some (.dct (grp lo hi)), some (.sh (rat x y)), none, s5, s6, s7, s8, s9, s10, s11, s12, none, none]) (o := I m) ?_ rfl
  have lk : evE (fnL code (k + 5)) (.lock 2 (.comp [4, 13] (.tp [4, 13]) (.items 2) (.cmp .isin (.ex (.call "_law_worth" (.cons (.tup (.cons (.var 3) .nil)) .nil))) (.ex (.comp [14] (.nm 14) (.seq (.var 13)) .yes (.call "_law_worth" (.cons (.tup (.cons (.var 14) .nil)) .nil))))) (.var 4))) [some s0, some s1, some (.dct (grp lo hi)), some (.sh (rat x y)), s4, s5, s6, s7, s8, s9, s10, s11, s12, none, none] =
      some (.lst ((hits p q lo hi).map PyData.int), [some s0, some s1, some (.dct (grp lo hi)), some (.sh (rat x y)), none, s5, s6, s7, s8, s9, s10, s11, s12, none, none]) := by
    refine lock_ev rfl comp rfl (unlock_ev (kvs := grp lo hi) rfl ?_)
    have n0' : nf (some s0) = true := by cases s0 <;> first | rfl | cases n0
    have n1' : nf (some s1) = true := by cases s1 <;> first | rfl | cases n1
    have n3 : nf (some (O.sh (rat x y))) = true := rfl
    have nn : nf none = true := rfl
    simp only [List.set_cons_succ, List.set_cons_zero, noFd_cons, noFd_nil, n0', n1', n3, nn, n5, n6, n7, n8, n9, n10, n11, n12, Bool.and_self, Bool.and_true]
  have mn := pMin_hits hm1 hm2
  show evE _ (.op1 .min (.ex (.lock 2 _))) _ = _
  simp only [evE, evA] at lk ⊢
  rw [lk]
  simp only [Option.map_some, Option.bind_some, Arg.get, p1, mn]
end K82

namespace K82
open PySem L2 Vx
local macro_rules | `(tactic| trivial) => `(tactic| simp only [Vx.run, evSs, evS, evE, evA, evL, evOE, evT, evI, evTg, evTgs, Arg.get, p1, p2, pNeg, pNot, pAbs_i, pInt, pLen, pList, pTuple, pSum, intsOf, List.sum_cons, List.sum_nil, Int.add_zero, eq_self, dKey, pMax, pMin, pAll, pAny, pIs, pAdd, pSub, pMul, pFdiv, pMod, pPow, pLt, pLe, pGt, pGe, pEq, pNe, pIsN, pNotN, isNoneD, pIx, pMax2_i, pMin2_i, pGcd_i, pDivmod, inD, isIntD, isBoolD, isTupD, isSeqD, isStrD, isListD, eqD, O.asQ, O.asL, O.asLs, O.asT, O.fz, O.data, fzAll, perms, truthO, truthD, si, sb, List.length_cons, List.length_nil, List.map_cons, List.map_nil, List.cons_append, List.nil_append, List.append_nil, List.replicate_succ, List.replicate_zero, List.getElem?_cons_zero, List.getElem?_cons_succ, List.set_cons_zero, List.set_cons_succ, Option.join_some, Option.bind_some, Option.map_some, Option.bind_none, Option.map_none, Option.isSome_some, free_f, free_t, G.free, bindG, setAll, wipeEv, atI_0, atI_1, ixN_0, ixN_1, if_true, if_false, Bool.false_eq_true, Bool.and_true, Bool.true_and, Bool.and_self, Bool.not_true, Bool.not_false, Bool.or_false, Bool.false_or, Bool.or_true, Bool.true_or, Bool.false_and, Bool.and_false, Nat.zero_add, line_s, line_l, compGo, forGo, Nat.reduceLT, Int.reduceEq, Int.reduceNe, Int.reduceLT, Int.reduceLE, Int.cast_ofNat_Int, Int.natCast_one, Int.natCast_zero, Int.mul_one, Int.one_mul, and_true, true_and, and_self, Nat.reduceLeDiff, Nat.reduceAdd, Nat.reduceSub, decide_true, decide_false, isLst, isDct, reduceCtorEq, List.all_cons, List.all_nil, ne_eq, not_false_eq_true, not_true_eq_false, Option.some.injEq, Prod.mk.injEq, *])
theorem repr_nums {o : O} {rs : List (Int × Int)} (ho : o = .sh (.list (rats rs)) ∨ o = .lst (rats rs)) (hR : ∀ r ∈ rs, Rt r.1 r.2) (hl : rs.length ≤ 5) : pRepr o = some (.sh (.str (PyData.list (rats rs)).shown)) := by
  refine repr_rats (by rcases ho with rfl | rfl <;> rfl) (fun d hd => ?_) (by rw [rats_len]; omega)
  obtain ⟨r, hr, rfl⟩ := List.mem_map.mp hd
  have R := hR r hr
  have r1 := R.p0
  have r2 := R.q0
  have r3 := R.p1
  have r4 := R.q1
  exact ⟨fine_rat (by omega) (by omega) (by omega) (by omega), dep_rat _ _, sz_rat _ _⟩
theorem repr_two {f : Int} (h1 : -(10 ^ 20) < f) (h2 : f < 10 ^ 20) : pRepr (.lst [.int f, .int f]) = some (.sh (.str (PyData.list [.int f, .int f]).shown)) := by
  refine repr_rats rfl (fun d hd => ?_) (by simp only [List.length_cons, List.length_nil]; omega)
  have : d = .int f := by simpa using hd
  subst this
  have e1 : decide (f.natAbs < 10 ^ 40) = true := decide_eq_true (by omega)
  exact ⟨by simp only [fine, e1], by rw [PyData.depth.eq_6]; omega, by show 42 ≤ 91; omega⟩
theorem right_ev (k : Nat) {a c : Int} (P : Pot a c) : ∃ a' c', Pot a' c' ∧ fnL code (k + 6) "_law_right" [potO a c] = some (.sh (.bool true), potO a' c') := by
  obtain ⟨a1, c1, lo, hi, P1, L, e1⟩ := limits_ev (k + 3) P
  have hLa := L.a
  have hLb := L.b
  have hLc := L.c
  have ep := l_pairs_ev (k + 4) L
  obtain ⟨a2, c2, d, P2, d1, d2, e2⟩ := draw_ev (k + 4) P1 (m := 80) (by decide) (by decide)
  -- the dict
  obtain ⟨s3, e3⟩ := dict_loop (k + 5) (p := potO a1 c1) (l := .sh (rat lo hi)) none none none none none none none none none none none (pairsI lo hi) [] [] none grp_nil (by
    have := (all_len L).2
    rw [all_pairsI, List.length_map] at this
    simp only [List.length_nil]
    omega)
  rw [← all_pairsI] at e3
  -- the sums
  obtain ⟨s4, s7, s8, n7, n8, e4⟩ := sums_loop k L (p := potO a2 c2) s3 none none none none none none none none [d, 2 * lo, 2 * hi, lo + hi, 2 * lo - 1, 0, -3] (by
    intro T hT
    simp only [List.mem_cons, List.not_mem_nil, or_false] at hT
    rcases hT with rfl | rfl | rfl | rfl | rfl | rfl | rfl <;> omega) none none none rfl rfl
  -- the numbers
  obtain ⟨a3, c3, rs, P3, hR, l1, l5, e5⟩ := nums_ev k P2 L (some (.dct (grp lo hi))) s3 s4 none none s7 s8 none none none none none none
  have e6 := repr_nums (o := .lst (rats rs)) (.inr rfl) hR l5
  -- the best
  obtain ⟨t4, o5, s11, n11, ho5, e7⟩ := best2_loop k L rs hR (p := potO a3 c3) s3 none s7 s8 (some (.sh (.str (PyData.list (rats rs)).shown))) none none none (ri (2 * lo) (2 * hi + 1)) (fun T hT => by rw [mem_ri] at hT; omega) none (fun x h => by cases h) (.lst (rats rs)) (.inr rfl) s4 none rfl
  obtain ⟨b, f, ef, hf⟩ := bestF_some (W := worst lo hi rs) (ri (2 * lo) (2 * hi + 1)) none (.inr (by rw [ri_cons (by omega)]; simp))
  have hfr : 2 * lo ≤ f ∧ f ≤ 2 * hi := by
    rcases hf with hf | ⟨b', hf⟩
    · rw [mem_ri] at hf; omega
    · cases hf
  have e8 := repr_two (f := f) (by omega) (by omega)
  have e9 := best_sum_ev k L rs hR l1 l5 (o := .sh (.list (rats rs))) (.inl rfl)
  have e10 := best_sum_ev k L rs hR l1 l5 (o := .sh (.tuple (rats rs))) (.inr (.inl rfl))
  have e11 := repr_nums (o := .sh (.list (rats rs))) (.inl rfl) hR l5
  rw [ef] at e7
  unfold bestF at e9 e10
  rw [ef] at e9 e10
  replace e9 : fnL code (k + 5) "best_sum" [.sh (.list (rats rs)), .sh (rat lo hi)] = some (I f, N0) := e9
  replace e10 : fnL code (k + 5) "best_sum" [.sh (.tuple (rats rs)), .sh (rat lo hi)] = some (I f, N0) := e10
  -- the pair
  obtain ⟨a4, c4, x, y, P4, x1, x2, y1, y2, e12⟩ := pickp_ev (k + 3) P3 L
  obtain ⟨p, q, er, R, hpq, _⟩ := red_rt (a := x) (b := y) (by omega) (by omega) (by omega) (by omega)
  have hxy : hit p q lo hi (x + y) = true := by
    rw [hit_iff L R]
    refine ⟨x, mem_ri.mpr ?_, by rw [show x + y - x = y by omega, hpq]⟩
    unfold fst lst mx mn
    constructor <;> split <;> omega
  obtain ⟨m, hm, hm1, hm2, em⟩ := best_first (W := worst lo hi [(p, q)]) (H := hit p q lo hi) (ri (2 * lo) (2 * hi + 1)) none (ri_sorted _ _) (fun T hT => by rw [mem_ri] at hT; exact worst1 L R (by omega) (by omega)) (fun x h => by cases h) ⟨x + y, mem_ri.mpr (by omega), hxy⟩
  rw [mem_ri] at hm
  have e13 := best_sum_ev k L [(p, q)] (fun r hr => by simp at hr; subst hr; exact R) (by simp) (by simp) (o := .lst (rats [(p, q)])) (.inr (.inr rfl))
  unfold bestF at e13
  rw [em] at e13
  replace e13 : fnL code (k + 5) "best_sum" [.lst [rat p q], .sh (rat lo hi)] = some (I m, N0) := e13
  have e14 := worth1_ev (k + 3) (a := x) (b := y) (by omega) (by omega) (by omega) (by omega)
  rw [er] at e14
  have e15 := least_ev k L R ⟨x1, x2⟩ ⟨y1, y2⟩ er (m := m) ((hits_mem L.b).mpr ⟨by omega, hm1⟩) (fun T hT => by
    obtain ⟨h1, h2⟩ := (hits_mem L.b).mp hT
    exact hm2 T (mem_ri.mpr (by omega)) h2) (s0 := potO a4 c4) (s1 := .sh (rat lo hi)) t4 (some (.sh (.list (rats rs)))) none s7 s8 (some (.sh (.str (PyData.list (rats rs)).shown))) (some (.sh (.tuple [b, .int f]))) s11 none rfl rfl rfl rfl n7 n8 rfl rfl n11 rfl
  have g1 : bigOk 2 = true := big_i (by decide) (by decide)
  have g2 : bigOk lo = true := big_i (by omega) (by omega)
  have g3 : bigOk hi = true := big_i (by omega) (by omega)
  have gs := grp_sorted L
  refine ⟨a4, c4, P4, ?_⟩
  rw [fnL_eq cl_l_right]
  refine run_t (ρ := [some (.sh (rat lo hi)), some (.dct (grp lo hi)), some (.sh (rat x y)), none, some (.sh (.list (rats rs))), some (I m), s7, s8, some (.sh (.str (PyData.list (rats rs)).shown)), some (.sh (.tuple [b, .int f])), s11, none, none, none]) ?_
  show evSs _ _ (.cons _ (.cons _ (.cons (SL.nth ir_l_right 2) (.cons (SL.nth ir_l_right 3) (.cons (SL.nth ir_l_right 4) (.cons _ (.cons (SL.nth ir_l_right 6) (.cons _ (.cons _ (.cons (SL.nth ir_l_right 9) (.cons _ _))))))))))) [some (potO a c), none, none, none, none, none, none, none, none, none, none, none, none, none, none] = _
  refine (seq_nx (ρ1 := [some (potO a1 c1), some (.sh (rat lo hi)), none, none, none, none, none, none, none, none, none, none, none, none, none]) ?_).trans ?_
  · clear e2 e3 e4 e5 e6 e7 e8 e9 e10 e11 e12 e13 e14 e15 gs ep
    trivial
  refine (seq_nx (ρ1 := [some (potO a1 c1), some (.sh (rat lo hi)), some (.dct []), none, none, none, none, none, none, none, none, none, none, none, none]) ?_).trans ?_
  · clear e1 e2 e3 e4 e5 e6 e7 e8 e9 e10 e11 e12 e13 e14 e15 gs ep
    trivial
  refine (seq_nx (for_ev (ds := allPairs lo hi) (ρ1 := [some (potO a1 c1), some (.sh (rat lo hi)), some (.dct []), none, none, none, none, none, none, none, none, none, none, none, none]) ?_ rfl e3)).trans ?_
  · clear e1 e2 e3 e4 e5 e6 e7 e8 e9 e10 e11 e12 e13 e14 e15 gs
    generalize allPairs lo hi = ap at *
    trivial
  refine (seq_nx (for_ev (ds := [.int d, .int (2 * lo), .int (2 * hi), .int (lo + hi), .int (2 * lo - 1), .int 0, .int (-3)]) (ρ1 := [some (potO a2 c2), some (.sh (rat lo hi)), some (.dct (grp lo hi)), s3, none, none, none, none, none, none, none, none, none, none, none]) ?_ rfl e4)).trans ?_
  · show evI _ _ [some (potO a1 c1), some (.sh (rat lo hi)), some (.dct (grp lo hi)), s3, none, none, none, none, none, none, none, none, none, none, none] = _
    clear e1 e3 e4 e5 e6 e7 e8 e9 e10 e11 e12 e13 e14 e15 gs ep
    generalize grp lo hi = gr at *
    trivial
  refine (seq_nx e5).trans ?_
  refine (seq_nx (ρ1 := [some (potO a3 c3), some (.sh (rat lo hi)), some (.dct (grp lo hi)), s3, s4, some (.lst (rats rs)), none, s7, s8, some (.sh (.str (PyData.list (rats rs)).shown)), some (.sh .none), none, none, none, none]) ?_).trans ?_
  · clear e1 e2 e3 e4 e5 e7 e8 e9 e10 e11 e12 e13 e14 e15 gs ep
    generalize grp lo hi = gr at *
    generalize (PyData.list (rats rs)).shown = sh at *
    generalize rats rs = rr at *
    trivial
  refine (seq_nx (for_ev (ds := (ri (2 * lo) (2 * hi + 1)).map PyData.int) (ρ1 := [some (potO a3 c3), some (.sh (rat lo hi)), some (.dct (grp lo hi)), s3, s4, some (.lst (rats rs)), none, s7, s8, some (.sh (.str (PyData.list (rats rs)).shown)), some (.sh .none), none, none, none, none]) ?_ rfl e7)).trans ?_
  · clear e1 e2 e3 e4 e5 e6 e7 e8 e9 e10 e11 e12 e13 e14 e15 ep
    generalize (ri (2 * lo) (2 * hi + 1)).map PyData.int = rg at *
    generalize grp lo hi = gr at *
    generalize (PyData.list (rats rs)).shown = sh at *
    generalize rats rs = rr at *
    trivial
  refine (seq_nx (ρ1 := [some (potO a3 c3), some (.sh (rat lo hi)), some (.dct (grp lo hi)), s3, t4, some (.sh (.list (rats rs))), none, s7, s8, some (.sh (.str (PyData.list (rats rs)).shown)), some (.sh (.tuple [b, .int f])), s11, none, none, none]) ?_).trans ?_
  · have i2 : i62 2 = true := i62_of (by decide) (by decide)
    have fl : (List.replicate (2 : Int).toNat [PyData.int f]).flatten = [.int f, .int f] := rfl
    have ln : lineOk ([PyData.int f].length * (2 : Int).toNat) = true := line_of (show 1 * 2 ≤ 16777216 by decide)
    show evS _ _ _ [some (potO a3 c3), some (.sh (rat lo hi)), some (.dct (grp lo hi)), s3, t4, some o5, none, s7, s8, some (.sh (.str (PyData.list (rats rs)).shown)), some (.sh (.tuple [b, .int f])), s11, none, none, none] = _
    clear e1 e2 e3 e4 e5 e6 e7 e12 e13 e14 e15 ep gs hR hf
    generalize grp lo hi = gr at *
    generalize (PyData.list (rats rs)).shown = sh at *
    generalize (PyData.list [PyData.int f, PyData.int f]).shown = sh2 at *
    generalize rats rs = rr at *
    simp only [List.length_cons, List.length_nil, Nat.zero_add] at ln
    rcases ho5 with rfl | rfl <;> trivial
  refine (seq_nx (ρ1 := [some (potO a4 c4), some (.sh (rat lo hi)), some (.dct (grp lo hi)), some (.sh (rat x y)), t4, some (.sh (.list (rats rs))), none, s7, s8, some (.sh (.str (PyData.list (rats rs)).shown)), some (.sh (.tuple [b, .int f])), s11, none, none, none]) ?_).trans ?_
  · clear e1 e2 e3 e4 e5 e6 e7 e8 e9 e10 e11 e13 e14 e15 gs hR hf
    generalize allPairs lo hi = ap at *
    generalize grp lo hi = gr at *
    generalize (PyData.list (rats rs)).shown = sh at *
    generalize rats rs = rr at *
    trivial
  refine (seq_nx e15).trans ?_
  refine seq_rt ?_
  clear e1 e2 e3 e4 e5 e6 e7 e8 e9 e10 e11 e12 e15 gs hR hf ep
  generalize grp lo hi = gr at *
  generalize (PyData.list (rats rs)).shown = sh at *
  generalize rats rs = rr at *
  trivial
end K82

namespace K82
open PySem L2 Vx
local macro_rules | `(tactic| trivial) => `(tactic| simp only [Vx.run, evSs, evS, evE, evA, evL, evOE, evT, evI, evTg, evTgs, Arg.get, p1, p2, pNeg, pNot, pAbs_i, pInt, pLen, pList, pTuple, pSum, intsOf, List.sum_cons, List.sum_nil, Int.add_zero, eq_self, dKey, pMax, pMin, pAll, pAny, pIs, pAdd, pSub, pMul, pFdiv, pMod, pPow, pLt, pLe, pGt, pGe, pEq, pNe, pIsN, pNotN, isNoneD, pIx, pMax2_i, pMin2_i, pGcd_i, pDivmod, inD, isIntD, isBoolD, isTupD, isSeqD, isStrD, isListD, eqD, O.asQ, O.asL, O.asLs, O.asT, O.fz, O.data, fzAll, perms, truthO, truthD, si, sb, List.length_cons, List.length_nil, List.map_cons, List.map_nil, List.cons_append, List.nil_append, List.append_nil, List.replicate_succ, List.replicate_zero, List.getElem?_cons_zero, List.getElem?_cons_succ, List.set_cons_zero, List.set_cons_succ, Option.join_some, Option.bind_some, Option.map_some, Option.bind_none, Option.map_none, Option.isSome_some, free_f, free_t, G.free, bindG, setAll, wipeEv, atI_0, atI_1, ixN_0, ixN_1, if_true, if_false, Bool.false_eq_true, Bool.and_true, Bool.true_and, Bool.and_self, Bool.not_true, Bool.not_false, Bool.or_false, Bool.false_or, Bool.or_true, Bool.true_or, Bool.false_and, Bool.and_false, Nat.zero_add, line_s, line_l, compGo, forGo, Nat.reduceLT, Int.reduceEq, Int.reduceNe, Int.reduceLT, Int.reduceLE, Int.cast_ofNat_Int, Int.natCast_one, Int.natCast_zero, Int.mul_one, Int.one_mul, and_true, true_and, and_self, Nat.reduceLeDiff, Nat.reduceAdd, Nat.reduceSub, decide_true, decide_false, isLst, isDct, reduceCtorEq, List.all_cons, List.all_nil, ne_eq, not_false_eq_true, not_true_eq_false, Option.some.injEq, Prod.mk.injEq, *])
theorem plain : ∀ ns : List Int, ns.length ≤ 63 → ∃ u, fn "law" [.scr ns] = some (.sh (.bool true), u) := by
  intro ns _
  obtain ⟨a, c, P, e0⟩ := pot_ev 5 ns
  obtain ⟨a1, c1, P1, e1⟩ := right_ev 0 P
  obtain ⟨a2, c2, P2, e2⟩ := right_ev 0 P1
  have i1 : i62 2 = true := i62_of (by decide) (by decide)
  have rg : rangeD 0 2 = [.int 0, .int 1] := rfl
  have q1 : boolsOf [.bool true, .bool true] = some [true, true] := rfl
  have q2 : [true, true].all id = true := rfl
  replace e0 : fnL code 6 "_law_pot" [.scr ns, I 0] = some (potO a c, N0) := e0
  replace e1 : fnL code 6 "_law_right" [potO a c] = some (.sh (.bool true), potO a1 c1) := e1
  replace e2 : fnL code 6 "_law_right" [potO a1 c1] = some (.sh (.bool true), potO a2 c2) := e2
  refine ⟨N0, ?_⟩
  show fnL code (6 + 1) "law" [.scr ns] = _
  rw [fnL_eq cl_law]
  refine run_f (ρ := [some (.scr ns), some (potO a2 c2), none]) ?_
  show evSs _ _ ir_law [some (.scr ns), none, none] = _
  unfold ir_law
  refine (seq_nx (ρ1 := [some (.scr ns), some (potO a c), none]) (by trivial)).trans ?_
  refine seq_rt ?_
  trivial
end K82

namespace K82
open PySem L2 Vx
theorem kwb_is_list : ∀ k ∈ F_is_list.kws, ∀ (kV doc pm : Value) (an : Option Addr) (cdv ct : Value) (us ws : List Value), us.length = k.npos → ws.length = k.ks.length → ∃ zs, zs.map some = k.perm.map (fun i => (us ++ ws)[i]?) ∧ zs.length = F_is_list.ps.length ∧ bindArgs (PySem.W.fnOf "is_list" "is_list" (defArgs st_is_list) (defBody st_is_list) (defScope st_is_list) .none kV doc pm an cdv ct) ⟨us, k.ks.zip ws⟩ = pure (F_is_list.ps.zip zs) := by
  intro k hk
  cases hk
theorem kwb_is_integer : ∀ k ∈ F_is_integer.kws, ∀ (kV doc pm : Value) (an : Option Addr) (cdv ct : Value) (us ws : List Value), us.length = k.npos → ws.length = k.ks.length → ∃ zs, zs.map some = k.perm.map (fun i => (us ++ ws)[i]?) ∧ zs.length = F_is_integer.ps.length ∧ bindArgs (PySem.W.fnOf "is_integer" "is_integer" (defArgs st_is_integer) (defBody st_is_integer) (defScope st_is_integer) .none kV doc pm an cdv ct) ⟨us, k.ks.zip ws⟩ = pure (F_is_integer.ps.zip zs) := by
  intro k hk
  cases hk
theorem kwb_made : ∀ k ∈ F_made.kws, ∀ (kV doc pm : Value) (an : Option Addr) (cdv ct : Value) (us ws : List Value), us.length = k.npos → ws.length = k.ks.length → ∃ zs, zs.map some = k.perm.map (fun i => (us ++ ws)[i]?) ∧ zs.length = F_made.ps.length ∧ bindArgs (PySem.W.fnOf "made" "made" (defArgs st_made) (defBody st_made) (defScope st_made) .none kV doc pm an cdv ct) ⟨us, k.ks.zip ws⟩ = pure (F_made.ps.zip zs) := by
  intro k hk
  cases hk
theorem kwb_r_less : ∀ k ∈ F_r_less.kws, ∀ (kV doc pm : Value) (an : Option Addr) (cdv ct : Value) (us ws : List Value), us.length = k.npos → ws.length = k.ks.length → ∃ zs, zs.map some = k.perm.map (fun i => (us ++ ws)[i]?) ∧ zs.length = F_r_less.ps.length ∧ bindArgs (PySem.W.fnOf "r_less" "r_less" (defArgs st_r_less) (defBody st_r_less) (defScope st_r_less) .none kV doc pm an cdv ct) ⟨us, k.ks.zip ws⟩ = pure (F_r_less.ps.zip zs) := by
  intro k hk
  cases hk
theorem kwb_size_of : ∀ k ∈ F_size_of.kws, ∀ (kV doc pm : Value) (an : Option Addr) (cdv ct : Value) (us ws : List Value), us.length = k.npos → ws.length = k.ks.length → ∃ zs, zs.map some = k.perm.map (fun i => (us ++ ws)[i]?) ∧ zs.length = F_size_of.ps.length ∧ bindArgs (PySem.W.fnOf "size_of" "size_of" (defArgs st_size_of) (defBody st_size_of) (defScope st_size_of) .none kV doc pm an cdv ct) ⟨us, k.ks.zip ws⟩ = pure (F_size_of.ps.zip zs) := by
  intro k hk
  cases hk
theorem kwb_l_pot : ∀ k ∈ F_l_pot.kws, ∀ (kV doc pm : Value) (an : Option Addr) (cdv ct : Value) (us ws : List Value), us.length = k.npos → ws.length = k.ks.length → ∃ zs, zs.map some = k.perm.map (fun i => (us ++ ws)[i]?) ∧ zs.length = F_l_pot.ps.length ∧ bindArgs (PySem.W.fnOf "_law_pot" "_law_pot" (defArgs st_l_pot) (defBody st_l_pot) (defScope st_l_pot) .none kV doc pm an cdv ct) ⟨us, k.ks.zip ws⟩ = pure (F_l_pot.ps.zip zs) := by
  intro k hk
  cases hk
theorem kwb_l_draw : ∀ k ∈ F_l_draw.kws, ∀ (kV doc pm : Value) (an : Option Addr) (cdv ct : Value) (us ws : List Value), us.length = k.npos → ws.length = k.ks.length → ∃ zs, zs.map some = k.perm.map (fun i => (us ++ ws)[i]?) ∧ zs.length = F_l_draw.ps.length ∧ bindArgs (PySem.W.fnOf "_law_draw" "_law_draw" (defArgs st_l_draw) (defBody st_l_draw) (defScope st_l_draw) .none kV doc pm an cdv ct) ⟨us, k.ks.zip ws⟩ = pure (F_l_draw.ps.zip zs) := by
  intro k hk
  cases hk
theorem kwb_l_low : ∀ k ∈ F_l_low.kws, ∀ (kV doc pm : Value) (an : Option Addr) (cdv ct : Value) (us ws : List Value), us.length = k.npos → ws.length = k.ks.length → ∃ zs, zs.map some = k.perm.map (fun i => (us ++ ws)[i]?) ∧ zs.length = F_l_low.ps.length ∧ bindArgs (PySem.W.fnOf "_law_low" "_law_low" (defArgs st_l_low) (defBody st_l_low) (defScope st_l_low) .none kV doc pm an cdv ct) ⟨us, k.ks.zip ws⟩ = pure (F_l_low.ps.zip zs) := by
  intro k hk
  cases hk
theorem kwb_l_below : ∀ k ∈ F_l_below.kws, ∀ (kV doc pm : Value) (an : Option Addr) (cdv ct : Value) (us ws : List Value), us.length = k.npos → ws.length = k.ks.length → ∃ zs, zs.map some = k.perm.map (fun i => (us ++ ws)[i]?) ∧ zs.length = F_l_below.ps.length ∧ bindArgs (PySem.W.fnOf "_law_below" "_law_below" (defArgs st_l_below) (defBody st_l_below) (defScope st_l_below) .none kV doc pm an cdv ct) ⟨us, k.ks.zip ws⟩ = pure (F_l_below.ps.zip zs) := by
  intro k hk
  cases hk
theorem kwb_l_pairs : ∀ k ∈ F_l_pairs.kws, ∀ (kV doc pm : Value) (an : Option Addr) (cdv ct : Value) (us ws : List Value), us.length = k.npos → ws.length = k.ks.length → ∃ zs, zs.map some = k.perm.map (fun i => (us ++ ws)[i]?) ∧ zs.length = F_l_pairs.ps.length ∧ bindArgs (PySem.W.fnOf "_law_pairs" "_law_pairs" (defArgs st_l_pairs) (defBody st_l_pairs) (defScope st_l_pairs) .none kV doc pm an cdv ct) ⟨us, k.ks.zip ws⟩ = pure (F_l_pairs.ps.zip zs) := by
  intro k hk
  cases hk
theorem kwb_ratio_is_right_basics : ∀ k ∈ F_ratio_is_right_basics.kws, ∀ (kV doc pm : Value) (an : Option Addr) (cdv ct : Value) (us ws : List Value), us.length = k.npos → ws.length = k.ks.length → ∃ zs, zs.map some = k.perm.map (fun i => (us ++ ws)[i]?) ∧ zs.length = F_ratio_is_right_basics.ps.length ∧ bindArgs (PySem.W.fnOf "ratio_is_right" "ratio_is_right" (defArgs st_ratio_is_right_basics) (defBody st_ratio_is_right_basics) (defScope st_ratio_is_right_basics) .none kV doc pm an cdv ct) ⟨us, k.ks.zip ws⟩ = pure (F_ratio_is_right_basics.ps.zip zs) := by
  intro k hk
  cases hk
theorem kwb_r_minus : ∀ k ∈ F_r_minus.kws, ∀ (kV doc pm : Value) (an : Option Addr) (cdv ct : Value) (us ws : List Value), us.length = k.npos → ws.length = k.ks.length → ∃ zs, zs.map some = k.perm.map (fun i => (us ++ ws)[i]?) ∧ zs.length = F_r_minus.ps.length ∧ bindArgs (PySem.W.fnOf "r_minus" "r_minus" (defArgs st_r_minus) (defBody st_r_minus) (defScope st_r_minus) .none kV doc pm an cdv ct) ⟨us, k.ks.zip ws⟩ = pure (F_r_minus.ps.zip zs) := by
  intro k hk
  cases hk
theorem kwb_greater_of : ∀ k ∈ F_greater_of.kws, ∀ (kV doc pm : Value) (an : Option Addr) (cdv ct : Value) (us ws : List Value), us.length = k.npos → ws.length = k.ks.length → ∃ zs, zs.map some = k.perm.map (fun i => (us ++ ws)[i]?) ∧ zs.length = F_greater_of.ps.length ∧ bindArgs (PySem.W.fnOf "greater_of" "greater_of" (defArgs st_greater_of) (defBody st_greater_of) (defScope st_greater_of) .none kV doc pm an cdv ct) ⟨us, k.ks.zip ws⟩ = pure (F_greater_of.ps.zip zs) := by
  intro k hk
  cases hk
theorem kwb_are_teeth : ∀ k ∈ F_are_teeth.kws, ∀ (kV doc pm : Value) (an : Option Addr) (cdv ct : Value) (us ws : List Value), us.length = k.npos → ws.length = k.ks.length → ∃ zs, zs.map some = k.perm.map (fun i => (us ++ ws)[i]?) ∧ zs.length = F_are_teeth.ps.length ∧ bindArgs (PySem.W.fnOf "are_teeth" "are_teeth" (defArgs st_are_teeth) (defBody st_are_teeth) (defScope st_are_teeth) .none kV doc pm an cdv ct) ⟨us, k.ks.zip ws⟩ = pure (F_are_teeth.ps.zip zs) := by
  intro k hk
  cases hk
theorem kwb_l_pick : ∀ k ∈ F_l_pick.kws, ∀ (kV doc pm : Value) (an : Option Addr) (cdv ct : Value) (us ws : List Value), us.length = k.npos → ws.length = k.ks.length → ∃ zs, zs.map some = k.perm.map (fun i => (us ++ ws)[i]?) ∧ zs.length = F_l_pick.ps.length ∧ bindArgs (PySem.W.fnOf "_law_pick" "_law_pick" (defArgs st_l_pick) (defBody st_l_pick) (defScope st_l_pick) .none kV doc pm an cdv ct) ⟨us, k.ks.zip ws⟩ = pure (F_l_pick.ps.zip zs) := by
  intro k hk
  cases hk
theorem kwb_l_less : ∀ k ∈ F_l_less.kws, ∀ (kV doc pm : Value) (an : Option Addr) (cdv ct : Value) (us ws : List Value), us.length = k.npos → ws.length = k.ks.length → ∃ zs, zs.map some = k.perm.map (fun i => (us ++ ws)[i]?) ∧ zs.length = F_l_less.ps.length ∧ bindArgs (PySem.W.fnOf "_law_less" "_law_less" (defArgs st_l_less) (defBody st_l_less) (defScope st_l_less) .none kV doc pm an cdv ct) ⟨us, k.ks.zip ws⟩ = pure (F_l_less.ps.zip zs) := by
  intro k hk
  cases hk
theorem kwb_l_limits : ∀ k ∈ F_l_limits.kws, ∀ (kV doc pm : Value) (an : Option Addr) (cdv ct : Value) (us ws : List Value), us.length = k.npos → ws.length = k.ks.length → ∃ zs, zs.map some = k.perm.map (fun i => (us ++ ws)[i]?) ∧ zs.length = F_l_limits.ps.length ∧ bindArgs (PySem.W.fnOf "_law_limits" "_law_limits" (defArgs st_l_limits) (defBody st_l_limits) (defScope st_l_limits) .none kV doc pm an cdv ct) ⟨us, k.ks.zip ws⟩ = pure (F_l_limits.ps.zip zs) := by
  intro k hk
  cases hk
theorem kwb_l_worth : ∀ k ∈ F_l_worth.kws, ∀ (kV doc pm : Value) (an : Option Addr) (cdv ct : Value) (us ws : List Value), us.length = k.npos → ws.length = k.ks.length → ∃ zs, zs.map some = k.perm.map (fun i => (us ++ ws)[i]?) ∧ zs.length = F_l_worth.ps.length ∧ bindArgs (PySem.W.fnOf "_law_worth" "_law_worth" (defArgs st_l_worth) (defBody st_l_worth) (defScope st_l_worth) .none kV doc pm an cdv ct) ⟨us, k.ks.zip ws⟩ = pure (F_l_worth.ps.zip zs) := by
  intro k hk
  cases hk
theorem kwb_is_ratio : ∀ k ∈ F_is_ratio.kws, ∀ (kV doc pm : Value) (an : Option Addr) (cdv ct : Value) (us ws : List Value), us.length = k.npos → ws.length = k.ks.length → ∃ zs, zs.map some = k.perm.map (fun i => (us ++ ws)[i]?) ∧ zs.length = F_is_ratio.ps.length ∧ bindArgs (PySem.W.fnOf "is_ratio" "is_ratio" (defArgs st_is_ratio) (defBody st_is_ratio) (defScope st_is_ratio) .none kV doc pm an cdv ct) ⟨us, k.ks.zip ws⟩ = pure (F_is_ratio.ps.zip zs) := by
  intro k hk
  cases hk
theorem kwb_apart : ∀ k ∈ F_apart.kws, ∀ (kV doc pm : Value) (an : Option Addr) (cdv ct : Value) (us ws : List Value), us.length = k.npos → ws.length = k.ks.length → ∃ zs, zs.map some = k.perm.map (fun i => (us ++ ws)[i]?) ∧ zs.length = F_apart.ps.length ∧ bindArgs (PySem.W.fnOf "apart" "apart" (defArgs st_apart) (defBody st_apart) (defScope st_apart) .none kV doc pm an cdv ct) ⟨us, k.ks.zip ws⟩ = pure (F_apart.ps.zip zs) := by
  intro k hk
  cases hk
theorem kwb_pair_is_right : ∀ k ∈ F_pair_is_right.kws, ∀ (kV doc pm : Value) (an : Option Addr) (cdv ct : Value) (us ws : List Value), us.length = k.npos → ws.length = k.ks.length → ∃ zs, zs.map some = k.perm.map (fun i => (us ++ ws)[i]?) ∧ zs.length = F_pair_is_right.ps.length ∧ bindArgs (PySem.W.fnOf "pair_is_right" "pair_is_right" (defArgs st_pair_is_right) (defBody st_pair_is_right) (defScope st_pair_is_right) .none kV doc pm an cdv ct) ⟨us, k.ks.zip ws⟩ = pure (F_pair_is_right.ps.zip zs) := by
  intro k hk
  cases hk
theorem kwb_l_any_ratio : ∀ k ∈ F_l_any_ratio.kws, ∀ (kV doc pm : Value) (an : Option Addr) (cdv ct : Value) (us ws : List Value), us.length = k.npos → ws.length = k.ks.length → ∃ zs, zs.map some = k.perm.map (fun i => (us ++ ws)[i]?) ∧ zs.length = F_l_any_ratio.ps.length ∧ bindArgs (PySem.W.fnOf "_law_any_ratio" "_law_any_ratio" (defArgs st_l_any_ratio) (defBody st_l_any_ratio) (defScope st_l_any_ratio) .none kV doc pm an cdv ct) ⟨us, k.ks.zip ws⟩ = pure (F_l_any_ratio.ps.zip zs) := by
  intro k hk
  cases hk
theorem kwb_l_off : ∀ k ∈ F_l_off.kws, ∀ (kV doc pm : Value) (an : Option Addr) (cdv ct : Value) (us ws : List Value), us.length = k.npos → ws.length = k.ks.length → ∃ zs, zs.map some = k.perm.map (fun i => (us ++ ws)[i]?) ∧ zs.length = F_l_off.ps.length ∧ bindArgs (PySem.W.fnOf "_law_off" "_law_off" (defArgs st_l_off) (defBody st_l_off) (defScope st_l_off) .none kV doc pm an cdv ct) ⟨us, k.ks.zip ws⟩ = pure (F_l_off.ps.zip zs) := by
  intro k hk
  cases hk
theorem kwb_sums_nearest : ∀ k ∈ F_sums_nearest.kws, ∀ (kV doc pm : Value) (an : Option Addr) (cdv ct : Value) (us ws : List Value), us.length = k.npos → ws.length = k.ks.length → ∃ zs, zs.map some = k.perm.map (fun i => (us ++ ws)[i]?) ∧ zs.length = F_sums_nearest.ps.length ∧ bindArgs (PySem.W.fnOf "sums_nearest" "sums_nearest" (defArgs st_sums_nearest) (defBody st_sums_nearest) (defScope st_sums_nearest) .none kV doc pm an cdv ct) ⟨us, k.ks.zip ws⟩ = pure (F_sums_nearest.ps.zip zs) := by
  intro k hk
  cases hk
theorem kwb_ratio_is_right_trains : ∀ k ∈ F_ratio_is_right_trains.kws, ∀ (kV doc pm : Value) (an : Option Addr) (cdv ct : Value) (us ws : List Value), us.length = k.npos → ws.length = k.ks.length → ∃ zs, zs.map some = k.perm.map (fun i => (us ++ ws)[i]?) ∧ zs.length = F_ratio_is_right_trains.ps.length ∧ bindArgs (PySem.W.fnOf "ratio_is_right" "ratio_is_right" (defArgs st_ratio_is_right_trains) (defBody st_ratio_is_right_trains) (defScope st_ratio_is_right_trains) .none kV doc pm an cdv ct) ⟨us, k.ks.zip ws⟩ = pure (F_ratio_is_right_trains.ps.zip zs) := by
  intro k hk
  cases hk
theorem kwb_check_limits : ∀ k ∈ F_check_limits.kws, ∀ (kV doc pm : Value) (an : Option Addr) (cdv ct : Value) (us ws : List Value), us.length = k.npos → ws.length = k.ks.length → ∃ zs, zs.map some = k.perm.map (fun i => (us ++ ws)[i]?) ∧ zs.length = F_check_limits.ps.length ∧ bindArgs (PySem.W.fnOf "check_limits" "check_limits" (defArgs st_check_limits) (defBody st_check_limits) (defScope st_check_limits) .none kV doc pm an cdv ct) ⟨us, k.ks.zip ws⟩ = pure (F_check_limits.ps.zip zs) := by
  intro k hk
  cases hk
theorem kwb_l_sum_error : ∀ k ∈ F_l_sum_error.kws, ∀ (kV doc pm : Value) (an : Option Addr) (cdv ct : Value) (us ws : List Value), us.length = k.npos → ws.length = k.ks.length → ∃ zs, zs.map some = k.perm.map (fun i => (us ++ ws)[i]?) ∧ zs.length = F_l_sum_error.ps.length ∧ bindArgs (PySem.W.fnOf "_law_sum_error" "_law_sum_error" (defArgs st_l_sum_error) (defBody st_l_sum_error) (defScope st_l_sum_error) .none kV doc pm an cdv ct) ⟨us, k.ks.zip ws⟩ = pure (F_l_sum_error.ps.zip zs) := by
  intro k hk
  cases hk
theorem kwb_pairs_of_sum : ∀ k ∈ F_pairs_of_sum.kws, ∀ (kV doc pm : Value) (an : Option Addr) (cdv ct : Value) (us ws : List Value), us.length = k.npos → ws.length = k.ks.length → ∃ zs, zs.map some = k.perm.map (fun i => (us ++ ws)[i]?) ∧ zs.length = F_pairs_of_sum.ps.length ∧ bindArgs (PySem.W.fnOf "pairs_of_sum" "pairs_of_sum" (defArgs st_pairs_of_sum) (defBody st_pairs_of_sum) (defScope st_pairs_of_sum) .none kV doc pm an cdv ct) ⟨us, k.ks.zip ws⟩ = pure (F_pairs_of_sum.ps.zip zs) := by
  intro k hk kV doc pm an cdv ct us ws h1 h2
  simp only [F_pairs_of_sum, List.mem_cons, List.not_mem_nil, or_false] at hk
  rcases hk with rfl
  · match us, ws, h1, h2 with
    | [], [a0, a1], _, _ => exact ⟨[a1, a0], rfl, rfl, rfl⟩
theorem kwb_best_sum : ∀ k ∈ F_best_sum.kws, ∀ (kV doc pm : Value) (an : Option Addr) (cdv ct : Value) (us ws : List Value), us.length = k.npos → ws.length = k.ks.length → ∃ zs, zs.map some = k.perm.map (fun i => (us ++ ws)[i]?) ∧ zs.length = F_best_sum.ps.length ∧ bindArgs (PySem.W.fnOf "best_sum" "best_sum" (defArgs st_best_sum) (defBody st_best_sum) (defScope st_best_sum) .none kV doc pm an cdv ct) ⟨us, k.ks.zip ws⟩ = pure (F_best_sum.ps.zip zs) := by
  intro k hk kV doc pm an cdv ct us ws h1 h2
  simp only [F_best_sum, List.mem_cons, List.not_mem_nil, or_false] at hk
  rcases hk with rfl
  · match us, ws, h1, h2 with
    | [], [a0, a1], _, _ => exact ⟨[a1, a0], rfl, rfl, rfl⟩
theorem kwb_l_right : ∀ k ∈ F_l_right.kws, ∀ (kV doc pm : Value) (an : Option Addr) (cdv ct : Value) (us ws : List Value), us.length = k.npos → ws.length = k.ks.length → ∃ zs, zs.map some = k.perm.map (fun i => (us ++ ws)[i]?) ∧ zs.length = F_l_right.ps.length ∧ bindArgs (PySem.W.fnOf "_law_right" "_law_right" (defArgs st_l_right) (defBody st_l_right) (defScope st_l_right) .none kV doc pm an cdv ct) ⟨us, k.ks.zip ws⟩ = pure (F_l_right.ps.zip zs) := by
  intro k hk
  cases hk
theorem kwb_law : ∀ k ∈ F_law.kws, ∀ (kV doc pm : Value) (an : Option Addr) (cdv ct : Value) (us ws : List Value), us.length = k.npos → ws.length = k.ks.length → ∃ zs, zs.map some = k.perm.map (fun i => (us ++ ws)[i]?) ∧ zs.length = F_law.ps.length ∧ bindArgs (PySem.W.fnOf "law" "law" (defArgs st_law) (defBody st_law) (defScope st_law) .none kV doc pm an cdv ct) ⟨us, k.ks.zip ws⟩ = pure (F_law.ps.zip zs) := by
  intro k hk
  cases hk
theorem S_is_list : DefS tab fn "is_list" F_is_list st_is_list "is_list" "is_list" N_is_list 60 := ⟨sc_is_list, by decide, bnd_is_list, kwb_is_list, fun os r hl h => by
  rw [show F_is_list.lev - 1 = 0 from rfl, irq_is_list]
  exact rf_is_list os r hl h⟩
theorem S_is_integer : DefS tab fn "is_integer" F_is_integer st_is_integer "is_integer" "is_integer" N_is_integer 60 := ⟨sc_is_integer, by decide, bnd_is_integer, kwb_is_integer, fun os r hl h => by
  rw [show F_is_integer.lev - 1 = 0 from rfl, irq_is_integer]
  exact rf_is_integer os r hl h⟩
theorem S_made : DefS tab fn "made" F_made st_made "made" "made" N_made 60 := ⟨sc_made, by decide, bnd_made, kwb_made, fun os r hl h => by
  rw [show F_made.lev - 1 = 0 from rfl, irq_made]
  exact rf_made os r hl h⟩
theorem S_r_less : DefS tab fn "r_less" F_r_less st_r_less "r_less" "r_less" N_r_less 60 := ⟨sc_r_less, by decide, bnd_r_less, kwb_r_less, fun os r hl h => by
  rw [show F_r_less.lev - 1 = 0 from rfl, irq_r_less]
  exact rf_r_less os r hl h⟩
theorem S_size_of : DefS tab fn "size_of" F_size_of st_size_of "size_of" "size_of" N_size_of 60 := ⟨sc_size_of, by decide, bnd_size_of, kwb_size_of, fun os r hl h => by
  rw [show F_size_of.lev - 1 = 0 from rfl, irq_size_of]
  exact rf_size_of os r hl h⟩
theorem S_l_pot : DefS tab fn "_law_pot" F_l_pot st_l_pot "_law_pot" "_law_pot" N_l_pot 60 := ⟨sc_l_pot, by decide, bnd_l_pot, kwb_l_pot, fun os r hl h => by
  rw [show F_l_pot.lev - 1 = 0 from rfl, irq_l_pot]
  exact rf_l_pot os r hl h⟩
theorem S_l_draw : DefS tab fn "_law_draw" F_l_draw st_l_draw "_law_draw" "_law_draw" N_l_draw 60 := ⟨sc_l_draw, by decide, bnd_l_draw, kwb_l_draw, fun os r hl h => by
  rw [show F_l_draw.lev - 1 = 0 from rfl, irq_l_draw]
  exact rf_l_draw os r hl h⟩
theorem S_l_low : DefS tab fn "_law_low" F_l_low st_l_low "_law_low" "_law_low" N_l_low 60 := ⟨sc_l_low, by decide, bnd_l_low, kwb_l_low, fun os r hl h => by
  rw [show F_l_low.lev - 1 = 0 from rfl, irq_l_low]
  exact rf_l_low os r hl h⟩
theorem S_l_below : DefS tab fn "_law_below" F_l_below st_l_below "_law_below" "_law_below" N_l_below 60 := ⟨sc_l_below, by decide, bnd_l_below, kwb_l_below, fun os r hl h => by
  rw [show F_l_below.lev - 1 = 0 from rfl, irq_l_below]
  exact rf_l_below os r hl h⟩
theorem S_l_pairs : DefS tab fn "_law_pairs" F_l_pairs st_l_pairs "_law_pairs" "_law_pairs" N_l_pairs 60 := ⟨sc_l_pairs, by decide, bnd_l_pairs, kwb_l_pairs, fun os r hl h => by
  rw [show F_l_pairs.lev - 1 = 0 from rfl, irq_l_pairs]
  exact rf_l_pairs os r hl h⟩
theorem S_ratio_is_right_basics : DefS tab fn "ratio_is_right_basics" F_ratio_is_right_basics st_ratio_is_right_basics "ratio_is_right" "ratio_is_right" N_ratio_is_right_basics 60 := ⟨sc_ratio_is_right_basics, by decide, bnd_ratio_is_right_basics, kwb_ratio_is_right_basics, fun os r hl h => by
  rw [show F_ratio_is_right_basics.lev - 1 = 1 from rfl, irq_ratio_is_right_basics]
  exact rf_ratio_is_right_basics os r hl h⟩
theorem S_r_minus : DefS tab fn "r_minus" F_r_minus st_r_minus "r_minus" "r_minus" N_r_minus 60 := ⟨sc_r_minus, by decide, bnd_r_minus, kwb_r_minus, fun os r hl h => by
  rw [show F_r_minus.lev - 1 = 1 from rfl, irq_r_minus]
  exact rf_r_minus os r hl h⟩
theorem S_greater_of : DefS tab fn "greater_of" F_greater_of st_greater_of "greater_of" "greater_of" N_greater_of 60 := ⟨sc_greater_of, by decide, bnd_greater_of, kwb_greater_of, fun os r hl h => by
  rw [show F_greater_of.lev - 1 = 1 from rfl, irq_greater_of]
  exact rf_greater_of os r hl h⟩
theorem S_are_teeth : DefS tab fn "are_teeth" F_are_teeth st_are_teeth "are_teeth" "are_teeth" N_are_teeth 60 := ⟨sc_are_teeth, by decide, bnd_are_teeth, kwb_are_teeth, fun os r hl h => by
  rw [show F_are_teeth.lev - 1 = 1 from rfl, irq_are_teeth]
  exact rf_are_teeth os r hl h⟩
theorem S_l_pick : DefS tab fn "_law_pick" F_l_pick st_l_pick "_law_pick" "_law_pick" N_l_pick 60 := ⟨sc_l_pick, by decide, bnd_l_pick, kwb_l_pick, fun os r hl h => by
  rw [show F_l_pick.lev - 1 = 1 from rfl, irq_l_pick]
  exact rf_l_pick os r hl h⟩
theorem S_l_less : DefS tab fn "_law_less" F_l_less st_l_less "_law_less" "_law_less" N_l_less 60 := ⟨sc_l_less, by decide, bnd_l_less, kwb_l_less, fun os r hl h => by
  rw [show F_l_less.lev - 1 = 1 from rfl, irq_l_less]
  exact rf_l_less os r hl h⟩
theorem S_l_limits : DefS tab fn "_law_limits" F_l_limits st_l_limits "_law_limits" "_law_limits" N_l_limits 60 := ⟨sc_l_limits, by decide, bnd_l_limits, kwb_l_limits, fun os r hl h => by
  rw [show F_l_limits.lev - 1 = 1 from rfl, irq_l_limits]
  exact rf_l_limits os r hl h⟩
theorem S_l_worth : DefS tab fn "_law_worth" F_l_worth st_l_worth "_law_worth" "_law_worth" N_l_worth 60 := ⟨sc_l_worth, by decide, bnd_l_worth, kwb_l_worth, fun os r hl h => by
  rw [show F_l_worth.lev - 1 = 1 from rfl, irq_l_worth]
  exact rf_l_worth os r hl h⟩
theorem S_is_ratio : DefS tab fn "is_ratio" F_is_ratio st_is_ratio "is_ratio" "is_ratio" N_is_ratio 60 := ⟨sc_is_ratio, by decide, bnd_is_ratio, kwb_is_ratio, fun os r hl h => by
  rw [show F_is_ratio.lev - 1 = 2 from rfl, irq_is_ratio]
  exact rf_is_ratio os r hl h⟩
theorem S_apart : DefS tab fn "apart" F_apart st_apart "apart" "apart" N_apart 60 := ⟨sc_apart, by decide, bnd_apart, kwb_apart, fun os r hl h => by
  rw [show F_apart.lev - 1 = 2 from rfl, irq_apart]
  exact rf_apart os r hl h⟩
theorem S_pair_is_right : DefS tab fn "pair_is_right" F_pair_is_right st_pair_is_right "pair_is_right" "pair_is_right" N_pair_is_right 60 := ⟨sc_pair_is_right, by decide, bnd_pair_is_right, kwb_pair_is_right, fun os r hl h => by
  rw [show F_pair_is_right.lev - 1 = 2 from rfl, irq_pair_is_right]
  exact rf_pair_is_right os r hl h⟩
theorem S_l_any_ratio : DefS tab fn "_law_any_ratio" F_l_any_ratio st_l_any_ratio "_law_any_ratio" "_law_any_ratio" N_l_any_ratio 60 := ⟨sc_l_any_ratio, by decide, bnd_l_any_ratio, kwb_l_any_ratio, fun os r hl h => by
  rw [show F_l_any_ratio.lev - 1 = 2 from rfl, irq_l_any_ratio]
  exact rf_l_any_ratio os r hl h⟩
theorem S_l_off : DefS tab fn "_law_off" F_l_off st_l_off "_law_off" "_law_off" N_l_off 60 := ⟨sc_l_off, by decide, bnd_l_off, kwb_l_off, fun os r hl h => by
  rw [show F_l_off.lev - 1 = 2 from rfl, irq_l_off]
  exact rf_l_off os r hl h⟩
theorem S_sums_nearest : DefS tab fn "sums_nearest" F_sums_nearest st_sums_nearest "sums_nearest" "sums_nearest" N_sums_nearest 60 := ⟨sc_sums_nearest, by decide, bnd_sums_nearest, kwb_sums_nearest, fun os r hl h => by
  rw [show F_sums_nearest.lev - 1 = 3 from rfl, irq_sums_nearest]
  exact rf_sums_nearest os r hl h⟩
theorem S_ratio_is_right_trains : DefS tab fn "ratio_is_right_trains" F_ratio_is_right_trains st_ratio_is_right_trains "ratio_is_right" "ratio_is_right" N_ratio_is_right_trains 60 := ⟨sc_ratio_is_right_trains, by decide, bnd_ratio_is_right_trains, kwb_ratio_is_right_trains, fun os r hl h => by
  rw [show F_ratio_is_right_trains.lev - 1 = 3 from rfl, irq_ratio_is_right_trains]
  exact rf_ratio_is_right_trains os r hl h⟩
theorem S_check_limits : DefS tab fn "check_limits" F_check_limits st_check_limits "check_limits" "check_limits" N_check_limits 60 := ⟨sc_check_limits, by decide, bnd_check_limits, kwb_check_limits, fun os r hl h => by
  rw [show F_check_limits.lev - 1 = 3 from rfl, irq_check_limits]
  exact rf_check_limits os r hl h⟩
theorem S_l_sum_error : DefS tab fn "_law_sum_error" F_l_sum_error st_l_sum_error "_law_sum_error" "_law_sum_error" N_l_sum_error 60 := ⟨sc_l_sum_error, by decide, bnd_l_sum_error, kwb_l_sum_error, fun os r hl h => by
  rw [show F_l_sum_error.lev - 1 = 3 from rfl, irq_l_sum_error]
  exact rf_l_sum_error os r hl h⟩
theorem S_pairs_of_sum : DefS tab fn "pairs_of_sum" F_pairs_of_sum st_pairs_of_sum "pairs_of_sum" "pairs_of_sum" N_pairs_of_sum 60 := ⟨sc_pairs_of_sum, by decide, bnd_pairs_of_sum, kwb_pairs_of_sum, fun os r hl h => by
  rw [show F_pairs_of_sum.lev - 1 = 4 from rfl, irq_pairs_of_sum]
  exact rf_pairs_of_sum os r hl h⟩
theorem S_best_sum : DefS tab fn "best_sum" F_best_sum st_best_sum "best_sum" "best_sum" N_best_sum 60 := ⟨sc_best_sum, by decide, bnd_best_sum, kwb_best_sum, fun os r hl h => by
  rw [show F_best_sum.lev - 1 = 4 from rfl, irq_best_sum]
  exact rf_best_sum os r hl h⟩
theorem S_l_right : DefS tab fn "_law_right" F_l_right st_l_right "_law_right" "_law_right" N_l_right 60 := ⟨sc_l_right, by decide, bnd_l_right, kwb_l_right, fun os r hl h => by
  rw [show F_l_right.lev - 1 = 5 from rfl, irq_l_right]
  exact rf_l_right os r hl h⟩
theorem S_law : DefS tab fn "law" F_law st_law "law" "law" N_law 60 := ⟨sc_law, by decide, bnd_law, kwb_law, fun os r hl h => by
  rw [show F_law.lev - 1 = 6 from rfl, irq_law]
  exact rf_law os r hl h⟩
theorem all_defs {K : PySem.W.Frag} {mg : Str → Option Value} (d_is_list : DefK K mg "is_list" st_is_list "is_list" "is_list") (d_is_integer : DefK K mg "is_integer" st_is_integer "is_integer" "is_integer") (d_made : DefK K mg "made" st_made "made" "made") (d_r_less : DefK K mg "r_less" st_r_less "r_less" "r_less") (d_size_of : DefK K mg "size_of" st_size_of "size_of" "size_of") (d_l_pot : DefK K mg "_law_pot" st_l_pot "_law_pot" "_law_pot") (d_l_draw : DefK K mg "_law_draw" st_l_draw "_law_draw" "_law_draw") (d_l_low : DefK K mg "_law_low" st_l_low "_law_low" "_law_low") (d_l_below : DefK K mg "_law_below" st_l_below "_law_below" "_law_below") (d_l_pairs : DefK K mg "_law_pairs" st_l_pairs "_law_pairs" "_law_pairs") (d_ratio_is_right_basics : DefK K mg "ratio_is_right_basics" st_ratio_is_right_basics "ratio_is_right" "ratio_is_right") (d_r_minus : DefK K mg "r_minus" st_r_minus "r_minus" "r_minus") (d_greater_of : DefK K mg "greater_of" st_greater_of "greater_of" "greater_of") (d_are_teeth : DefK K mg "are_teeth" st_are_teeth "are_teeth" "are_teeth") (d_l_pick : DefK K mg "_law_pick" st_l_pick "_law_pick" "_law_pick") (d_l_less : DefK K mg "_law_less" st_l_less "_law_less" "_law_less") (d_l_limits : DefK K mg "_law_limits" st_l_limits "_law_limits" "_law_limits") (d_l_worth : DefK K mg "_law_worth" st_l_worth "_law_worth" "_law_worth") (d_is_ratio : DefK K mg "is_ratio" st_is_ratio "is_ratio" "is_ratio") (d_apart : DefK K mg "apart" st_apart "apart" "apart") (d_pair_is_right : DefK K mg "pair_is_right" st_pair_is_right "pair_is_right" "pair_is_right") (d_l_any_ratio : DefK K mg "_law_any_ratio" st_l_any_ratio "_law_any_ratio" "_law_any_ratio") (d_l_off : DefK K mg "_law_off" st_l_off "_law_off" "_law_off") (d_sums_nearest : DefK K mg "sums_nearest" st_sums_nearest "sums_nearest" "sums_nearest") (d_ratio_is_right_trains : DefK K mg "ratio_is_right_trains" st_ratio_is_right_trains "ratio_is_right" "ratio_is_right") (d_check_limits : DefK K mg "check_limits" st_check_limits "check_limits" "check_limits") (d_l_sum_error : DefK K mg "_law_sum_error" st_l_sum_error "_law_sum_error" "_law_sum_error") (d_pairs_of_sum : DefK K mg "pairs_of_sum" st_pairs_of_sum "pairs_of_sum" "pairs_of_sum") (d_best_sum : DefK K mg "best_sum" st_best_sum "best_sum" "best_sum") (d_l_right : DefK K mg "_law_right" st_l_right "_law_right" "_law_right") (d_law : DefK K mg "law" st_law "law" "law") : ∀ g t, tab.fns.lookup g = some t → ∃ st nm qual N n, DefS tab fn g t st nm qual N n ∧ DefK K mg g st nm qual := by
  intro g t h
  have hm := PySem.mem_of_lookup h
  simp only [tab, List.mem_cons, Prod.mk.injEq, List.not_mem_nil, or_false] at hm
  rcases hm with ⟨rfl, rfl⟩ | ⟨rfl, rfl⟩ | ⟨rfl, rfl⟩ | ⟨rfl, rfl⟩ | ⟨rfl, rfl⟩ | ⟨rfl, rfl⟩ | ⟨rfl, rfl⟩ | ⟨rfl, rfl⟩ | ⟨rfl, rfl⟩ | ⟨rfl, rfl⟩ | ⟨rfl, rfl⟩ | ⟨rfl, rfl⟩ | ⟨rfl, rfl⟩ | ⟨rfl, rfl⟩ | ⟨rfl, rfl⟩ | ⟨rfl, rfl⟩ | ⟨rfl, rfl⟩ | ⟨rfl, rfl⟩ | ⟨rfl, rfl⟩ | ⟨rfl, rfl⟩ | ⟨rfl, rfl⟩ | ⟨rfl, rfl⟩ | ⟨rfl, rfl⟩ | ⟨rfl, rfl⟩ | ⟨rfl, rfl⟩ | ⟨rfl, rfl⟩ | ⟨rfl, rfl⟩ | ⟨rfl, rfl⟩ | ⟨rfl, rfl⟩ | ⟨rfl, rfl⟩ | ⟨rfl, rfl⟩
  · exact ⟨_, _, _, _, _, S_is_list, d_is_list⟩
  · exact ⟨_, _, _, _, _, S_is_integer, d_is_integer⟩
  · exact ⟨_, _, _, _, _, S_made, d_made⟩
  · exact ⟨_, _, _, _, _, S_r_less, d_r_less⟩
  · exact ⟨_, _, _, _, _, S_size_of, d_size_of⟩
  · exact ⟨_, _, _, _, _, S_l_pot, d_l_pot⟩
  · exact ⟨_, _, _, _, _, S_l_draw, d_l_draw⟩
  · exact ⟨_, _, _, _, _, S_l_low, d_l_low⟩
  · exact ⟨_, _, _, _, _, S_l_below, d_l_below⟩
  · exact ⟨_, _, _, _, _, S_l_pairs, d_l_pairs⟩
  · exact ⟨_, _, _, _, _, S_ratio_is_right_basics, d_ratio_is_right_basics⟩
  · exact ⟨_, _, _, _, _, S_r_minus, d_r_minus⟩
  · exact ⟨_, _, _, _, _, S_greater_of, d_greater_of⟩
  · exact ⟨_, _, _, _, _, S_are_teeth, d_are_teeth⟩
  · exact ⟨_, _, _, _, _, S_l_pick, d_l_pick⟩
  · exact ⟨_, _, _, _, _, S_l_less, d_l_less⟩
  · exact ⟨_, _, _, _, _, S_l_limits, d_l_limits⟩
  · exact ⟨_, _, _, _, _, S_l_worth, d_l_worth⟩
  · exact ⟨_, _, _, _, _, S_is_ratio, d_is_ratio⟩
  · exact ⟨_, _, _, _, _, S_apart, d_apart⟩
  · exact ⟨_, _, _, _, _, S_pair_is_right, d_pair_is_right⟩
  · exact ⟨_, _, _, _, _, S_l_any_ratio, d_l_any_ratio⟩
  · exact ⟨_, _, _, _, _, S_l_off, d_l_off⟩
  · exact ⟨_, _, _, _, _, S_sums_nearest, d_sums_nearest⟩
  · exact ⟨_, _, _, _, _, S_ratio_is_right_trains, d_ratio_is_right_trains⟩
  · exact ⟨_, _, _, _, _, S_check_limits, d_check_limits⟩
  · exact ⟨_, _, _, _, _, S_l_sum_error, d_l_sum_error⟩
  · exact ⟨_, _, _, _, _, S_pairs_of_sum, d_pairs_of_sum⟩
  · exact ⟨_, _, _, _, _, S_best_sum, d_best_sum⟩
  · exact ⟨_, _, _, _, _, S_l_right, d_l_right⟩
  · exact ⟨_, _, _, _, _, S_law, d_law⟩
theorem glob {mg : Str → Option Value} (z_len : mg "len" = none) (z_abs : mg "abs" = none) (z_int : mg "int" = none) (z_str : mg "str" = none) (z_list : mg "list" = none) (z_tuple : mg "tuple" = none) (z_sum : mg "sum" = none) (z_max : mg "max" = none) (z_min : mg "min" = none) (z_all : mg "all" = none) (z_any : mg "any" = none) (z_sorted : mg "sorted" = none) (z_repr : mg "repr" = none) (z_isinstance : mg "isinstance" = none) (z_divmod : mg "divmod" = none) (z_range : mg "range" = none) (z_zip : mg "zip" = none) (z_enumerate : mg "enumerate" = none) (z_bool : mg "bool" = none) (z_gcd : mg "gcd" = some (.builtin "math.gcd")) (c_0 : ∃ t, mg "LEAST_TEETH" = some (.int 6 t)) (c_1 : ∃ t, mg "MOST_TEETH" = some (.int 120 t)) (c_2 : ∃ t, mg "MOST_NUMBER" = some (.int 1000000000 t)) : Glob tab mg := by
  refine ⟨by kernel_rfl, fun x hx => ?_, fun h => z_gcd, fun x i h => ?_⟩
  · simp only [bnames, List.mem_cons, List.not_mem_nil, or_false] at hx
    rcases hx with rfl | rfl | rfl | rfl | rfl | rfl | rfl | rfl | rfl | rfl | rfl | rfl | rfl | rfl | rfl | rfl | rfl | rfl | rfl
    · exact z_len
    · exact z_abs
    · exact z_int
    · exact z_str
    · exact z_list
    · exact z_tuple
    · exact z_sum
    · exact z_max
    · exact z_min
    · exact z_all
    · exact z_any
    · exact z_sorted
    · exact z_repr
    · exact z_isinstance
    · exact z_divmod
    · exact z_range
    · exact z_zip
    · exact z_enumerate
    · exact z_bool
  · have hm := PySem.mem_of_lookup h
    simp only [tab, List.mem_cons, Prod.mk.injEq, List.not_mem_nil, or_false] at hm
    rcases hm with ⟨rfl, rfl⟩ | ⟨rfl, rfl⟩ | ⟨rfl, rfl⟩
    · exact c_0
    · exact c_1
    · exact c_2
end K82

open PySem PySem.W PyProof.Rows in
set_option maxRecDepth 100000 in
set_option maxHeartbeats 0 in
theorem PySem.Challenge.cw_evenmarks_k82_whole_sums_of_teeth_holds : PySem.Challenge.rw_evenmarks_k82_whole_sums_of_teeth.Holds := by
  w_on; o_law; k_head; (case hw => w_witness2)
  k_fill
  refine Vx.walk_g (l := PySem.Challenge.rw_evenmarks_k82_whole_sums_of_teeth) (k := 7) (x := "script") (f := "law") (s := K82.F_law) (fn := K82.fn) rfl (by decide) rfl ⟨rfl, by decide, by decide⟩ rfl rfl K82.plain (fun w h Y => PySem.W.kIn_of Y) ?F
  case F =>
    intro w mg fa h KX G hmg
    refine' Vx.hv (Vx.defK_mk (g := "is_list") (st := K82.st_is_list) (nm := "is_list") (qual := "is_list") KX G ?a ?l ?c ?k) fun d_is_list => ?_
    (case a => k_is)
    (case l => k_is)
    (case c => k_is)
    (case k => k_is)
    refine' Vx.hv (Vx.defK_mk (g := "is_integer") (st := K82.st_is_integer) (nm := "is_integer") (qual := "is_integer") KX G ?a ?l ?c ?k) fun d_is_integer => ?_
    (case a => k_is)
    (case l => k_is)
    (case c => k_is)
    (case k => k_is)
    refine' Vx.hv (Vx.defK_mk (g := "made") (st := K82.st_made) (nm := "made") (qual := "made") KX G ?a ?l ?c ?k) fun d_made => ?_
    (case a => k_is)
    (case l => k_is)
    (case c => k_is)
    (case k => k_is)
    refine' Vx.hv (Vx.defK_mk (g := "r_less") (st := K82.st_r_less) (nm := "r_less") (qual := "r_less") KX G ?a ?l ?c ?k) fun d_r_less => ?_
    (case a => k_is)
    (case l => k_is)
    (case c => k_is)
    (case k => k_is)
    refine' Vx.hv (Vx.defK_mk (g := "size_of") (st := K82.st_size_of) (nm := "size_of") (qual := "size_of") KX G ?a ?l ?c ?k) fun d_size_of => ?_
    (case a => k_is)
    (case l => k_is)
    (case c => k_is)
    (case k => k_is)
    refine' Vx.hv (Vx.defK_mk (g := "_law_pot") (st := K82.st_l_pot) (nm := "_law_pot") (qual := "_law_pot") KX G ?a ?l ?c ?k) fun d_l_pot => ?_
    (case a => k_is)
    (case l => k_is)
    (case c => k_is)
    (case k => k_is)
    refine' Vx.hv (Vx.defK_mk (g := "_law_draw") (st := K82.st_l_draw) (nm := "_law_draw") (qual := "_law_draw") KX G ?a ?l ?c ?k) fun d_l_draw => ?_
    (case a => k_is)
    (case l => k_is)
    (case c => k_is)
    (case k => k_is)
    refine' Vx.hv (Vx.defK_mk (g := "_law_low") (st := K82.st_l_low) (nm := "_law_low") (qual := "_law_low") KX G ?a ?l ?c ?k) fun d_l_low => ?_
    (case a => k_is)
    (case l => k_is)
    (case c => k_is)
    (case k => k_is)
    refine' Vx.hv (Vx.defK_mk (g := "_law_below") (st := K82.st_l_below) (nm := "_law_below") (qual := "_law_below") KX G ?a ?l ?c ?k) fun d_l_below => ?_
    (case a => k_is)
    (case l => k_is)
    (case c => k_is)
    (case k => k_is)
    refine' Vx.hv (Vx.defK_mk (g := "_law_pairs") (st := K82.st_l_pairs) (nm := "_law_pairs") (qual := "_law_pairs") KX G ?a ?l ?c ?k) fun d_l_pairs => ?_
    (case a => k_is)
    (case l => k_is)
    (case c => k_is)
    (case k => k_is)
    refine' Vx.hv (Vx.defK_mk (g := "ratio_is_right_basics") (st := K82.st_ratio_is_right_basics) (nm := "ratio_is_right") (qual := "ratio_is_right") KX G ?a ?l ?c ?k) fun d_ratio_is_right_basics => ?_
    (case a => k_is)
    (case l => k_is)
    (case c => k_is)
    (case k => k_is)
    refine' Vx.hv (Vx.defK_mk (g := "r_minus") (st := K82.st_r_minus) (nm := "r_minus") (qual := "r_minus") KX G ?a ?l ?c ?k) fun d_r_minus => ?_
    (case a => k_is)
    (case l => k_is)
    (case c => k_is)
    (case k => k_is)
    refine' Vx.hv (Vx.defK_mk (g := "greater_of") (st := K82.st_greater_of) (nm := "greater_of") (qual := "greater_of") KX G ?a ?l ?c ?k) fun d_greater_of => ?_
    (case a => k_is)
    (case l => k_is)
    (case c => k_is)
    (case k => k_is)
    refine' Vx.hv (Vx.defK_mk (g := "are_teeth") (st := K82.st_are_teeth) (nm := "are_teeth") (qual := "are_teeth") KX G ?a ?l ?c ?k) fun d_are_teeth => ?_
    (case a => k_is)
    (case l => k_is)
    (case c => k_is)
    (case k => k_is)
    refine' Vx.hv (Vx.defK_mk (g := "_law_pick") (st := K82.st_l_pick) (nm := "_law_pick") (qual := "_law_pick") KX G ?a ?l ?c ?k) fun d_l_pick => ?_
    (case a => k_is)
    (case l => k_is)
    (case c => k_is)
    (case k => k_is)
    refine' Vx.hv (Vx.defK_mk (g := "_law_less") (st := K82.st_l_less) (nm := "_law_less") (qual := "_law_less") KX G ?a ?l ?c ?k) fun d_l_less => ?_
    (case a => k_is)
    (case l => k_is)
    (case c => k_is)
    (case k => k_is)
    refine' Vx.hv (Vx.defK_mk (g := "_law_limits") (st := K82.st_l_limits) (nm := "_law_limits") (qual := "_law_limits") KX G ?a ?l ?c ?k) fun d_l_limits => ?_
    (case a => k_is)
    (case l => k_is)
    (case c => k_is)
    (case k => k_is)
    refine' Vx.hv (Vx.defK_mk (g := "_law_worth") (st := K82.st_l_worth) (nm := "_law_worth") (qual := "_law_worth") KX G ?a ?l ?c ?k) fun d_l_worth => ?_
    (case a => k_is)
    (case l => k_is)
    (case c => k_is)
    (case k => k_is)
    refine' Vx.hv (Vx.defK_mk (g := "is_ratio") (st := K82.st_is_ratio) (nm := "is_ratio") (qual := "is_ratio") KX G ?a ?l ?c ?k) fun d_is_ratio => ?_
    (case a => k_is)
    (case l => k_is)
    (case c => k_is)
    (case k => k_is)
    refine' Vx.hv (Vx.defK_mk (g := "apart") (st := K82.st_apart) (nm := "apart") (qual := "apart") KX G ?a ?l ?c ?k) fun d_apart => ?_
    (case a => k_is)
    (case l => k_is)
    (case c => k_is)
    (case k => k_is)
    refine' Vx.hv (Vx.defK_mk (g := "pair_is_right") (st := K82.st_pair_is_right) (nm := "pair_is_right") (qual := "pair_is_right") KX G ?a ?l ?c ?k) fun d_pair_is_right => ?_
    (case a => k_is)
    (case l => k_is)
    (case c => k_is)
    (case k => k_is)
    refine' Vx.hv (Vx.defK_mk (g := "_law_any_ratio") (st := K82.st_l_any_ratio) (nm := "_law_any_ratio") (qual := "_law_any_ratio") KX G ?a ?l ?c ?k) fun d_l_any_ratio => ?_
    (case a => k_is)
    (case l => k_is)
    (case c => k_is)
    (case k => k_is)
    refine' Vx.hv (Vx.defK_mk (g := "_law_off") (st := K82.st_l_off) (nm := "_law_off") (qual := "_law_off") KX G ?a ?l ?c ?k) fun d_l_off => ?_
    (case a => k_is)
    (case l => k_is)
    (case c => k_is)
    (case k => k_is)
    refine' Vx.hv (Vx.defK_mk (g := "sums_nearest") (st := K82.st_sums_nearest) (nm := "sums_nearest") (qual := "sums_nearest") KX G ?a ?l ?c ?k) fun d_sums_nearest => ?_
    (case a => k_is)
    (case l => k_is)
    (case c => k_is)
    (case k => k_is)
    refine' Vx.hv (Vx.defK_mk (g := "ratio_is_right_trains") (st := K82.st_ratio_is_right_trains) (nm := "ratio_is_right") (qual := "ratio_is_right") KX G ?a ?l ?c ?k) fun d_ratio_is_right_trains => ?_
    (case a => k_is)
    (case l => k_is)
    (case c => k_is)
    (case k => k_is)
    refine' Vx.hv (Vx.defK_mk (g := "check_limits") (st := K82.st_check_limits) (nm := "check_limits") (qual := "check_limits") KX G ?a ?l ?c ?k) fun d_check_limits => ?_
    (case a => k_is)
    (case l => k_is)
    (case c => k_is)
    (case k => k_is)
    refine' Vx.hv (Vx.defK_mk (g := "_law_sum_error") (st := K82.st_l_sum_error) (nm := "_law_sum_error") (qual := "_law_sum_error") KX G ?a ?l ?c ?k) fun d_l_sum_error => ?_
    (case a => k_is)
    (case l => k_is)
    (case c => k_is)
    (case k => k_is)
    refine' Vx.hv (Vx.defK_mk (g := "pairs_of_sum") (st := K82.st_pairs_of_sum) (nm := "pairs_of_sum") (qual := "pairs_of_sum") KX G ?a ?l ?c ?k) fun d_pairs_of_sum => ?_
    (case a => k_is)
    (case l => k_is)
    (case c => k_is)
    (case k => k_is)
    refine' Vx.hv (Vx.defK_mk (g := "best_sum") (st := K82.st_best_sum) (nm := "best_sum") (qual := "best_sum") KX G ?a ?l ?c ?k) fun d_best_sum => ?_
    (case a => k_is)
    (case l => k_is)
    (case c => k_is)
    (case k => k_is)
    refine' Vx.hv (Vx.defK_mk (g := "_law_right") (st := K82.st_l_right) (nm := "_law_right") (qual := "_law_right") KX G ?a ?l ?c ?k) fun d_l_right => ?_
    (case a => k_is)
    (case l => k_is)
    (case c => k_is)
    (case k => k_is)
    refine' Vx.hv (Vx.defK_mk (g := "law") (st := K82.st_law) (nm := "law") (qual := "law") KX G ?a ?l ?c ?k) fun d_law => ?_
    (case a => k_is)
    (case l => k_is)
    (case c => k_is)
    (case k => k_is)
    refine' Vx.hv (PySem.W.mg_none_of (n := "len") KX G ?a) fun z_len => ?_
    (case a => k_is)
    refine' Vx.hv (PySem.W.mg_none_of (n := "abs") KX G ?a) fun z_abs => ?_
    (case a => k_is)
    refine' Vx.hv (PySem.W.mg_none_of (n := "int") KX G ?a) fun z_int => ?_
    (case a => k_is)
    refine' Vx.hv (PySem.W.mg_none_of (n := "str") KX G ?a) fun z_str => ?_
    (case a => k_is)
    refine' Vx.hv (PySem.W.mg_none_of (n := "list") KX G ?a) fun z_list => ?_
    (case a => k_is)
    refine' Vx.hv (PySem.W.mg_none_of (n := "tuple") KX G ?a) fun z_tuple => ?_
    (case a => k_is)
    refine' Vx.hv (PySem.W.mg_none_of (n := "sum") KX G ?a) fun z_sum => ?_
    (case a => k_is)
    refine' Vx.hv (PySem.W.mg_none_of (n := "max") KX G ?a) fun z_max => ?_
    (case a => k_is)
    refine' Vx.hv (PySem.W.mg_none_of (n := "min") KX G ?a) fun z_min => ?_
    (case a => k_is)
    refine' Vx.hv (PySem.W.mg_none_of (n := "all") KX G ?a) fun z_all => ?_
    (case a => k_is)
    refine' Vx.hv (PySem.W.mg_none_of (n := "any") KX G ?a) fun z_any => ?_
    (case a => k_is)
    refine' Vx.hv (PySem.W.mg_none_of (n := "sorted") KX G ?a) fun z_sorted => ?_
    (case a => k_is)
    refine' Vx.hv (PySem.W.mg_none_of (n := "repr") KX G ?a) fun z_repr => ?_
    (case a => k_is)
    refine' Vx.hv (PySem.W.mg_none_of (n := "isinstance") KX G ?a) fun z_isinstance => ?_
    (case a => k_is)
    refine' Vx.hv (PySem.W.mg_none_of (n := "divmod") KX G ?a) fun z_divmod => ?_
    (case a => k_is)
    refine' Vx.hv (PySem.W.mg_none_of (n := "range") KX G ?a) fun z_range => ?_
    (case a => k_is)
    refine' Vx.hv (PySem.W.mg_none_of (n := "zip") KX G ?a) fun z_zip => ?_
    (case a => k_is)
    refine' Vx.hv (PySem.W.mg_none_of (n := "enumerate") KX G ?a) fun z_enumerate => ?_
    (case a => k_is)
    refine' Vx.hv (PySem.W.mg_none_of (n := "bool") KX G ?a) fun z_bool => ?_
    (case a => k_is)
    refine' Vx.hv (PySem.W.mg_of (n := "gcd") (v := .builtin "math.gcd") KX G ?a) fun z_gcd => ?_
    (case a => k_is)
    refine' Vx.hv (PySem.W.mg_of (n := "LEAST_TEETH") KX G ?a) fun c_0 => ?_
    (case a => k_is)
    refine' Vx.hv (PySem.W.mg_of (n := "MOST_TEETH") KX G ?a) fun c_1 => ?_
    (case a => k_is)
    refine' Vx.hv (PySem.W.mg_of (n := "MOST_NUMBER") KX G ?a) fun c_2 => ?_
    (case a => k_is)
    obtain ⟨fd, hb, hF⟩ := Vx.law_ok (P := _) (w := w) (K82.glob z_len z_abs z_int z_str z_list z_tuple z_sum z_max z_min z_all z_any z_sorted z_repr z_isinstance z_divmod z_range z_zip z_enumerate z_bool z_gcd ⟨_, c_0⟩ ⟨_, c_1⟩ ⟨_, c_2⟩) (K82.all_defs d_is_list d_is_integer d_made d_r_less d_size_of d_l_pot d_l_draw d_l_low d_l_below d_l_pairs d_ratio_is_right_basics d_r_minus d_greater_of d_are_teeth d_l_pick d_l_less d_l_limits d_l_worth d_is_ratio d_apart d_pair_is_right d_l_any_ratio d_l_off d_sums_nearest d_ratio_is_right_trains d_check_limits d_l_sum_error d_pairs_of_sum d_best_sum d_l_right d_law) (g := "law") (x := "script") rfl rfl hmg
    exact ⟨fd, hb, fun base _ _ => hF base⟩

