import PyProof.Rows.All
import PySem.PyData
import PyProof.P3Statements
import PyProof.EqLayable
import HandS.ForMost
import HandS.Words
import PySem.Challenge.RW_signsquared_k81_whole_told_squares_and_b
import HandS.Zip
import HandS.TupAny
import HandS.TupMul
import HandS.Conv
import HandS.IsInst
import HandS.Deep
import HandS.Walk
import HandS.Style
import KE.KDictKeyed
import KE.SortData
import KE.KIndexOf
import KE.KTupSum
import KE.KDictPairs
import KE.KDictDisplayH
import HandS.SetFor
import KE.GoesNewDict
import KE.GoesDict
import HandS.Codes
import HandS.Defaults
import HandS.Head0
import HandS.Head1
import HandS.Head2
import HandS.HeadEnd
import HandS.HeadHook1
import HandS.HeadHook2
import HandS.HeadHook4
import HandS.HeadNt
section
set_option Elab.async false
set_option linter.all false
/-! the fragment: its terms, its values, its evaluator (no heap) -/
namespace Sq
open PySem
abbrev D := PyData

inductive O1 where
  | neg | not | isN | notN | len | isiI | isiB | isiT | isiS | all | any | tup | tupRg | int | sum | min | max | abs | sorted | dict | lenSet | sortedSet | rev
inductive O2 where
  | add | sub | mul | fdiv | mod | eq | ne | lt | le | gt | ge | isin | notin | ix | slTo | slFrom | min | max | index
inductive O3 where
  | slice | lstRg | get
mutual
inductive Tg where
  | n (i : Nat) | t (ts : TgL)
inductive TgL where
  | nil | cons (t : Tg) (ts : TgL)
end
mutual
inductive E where
  | v (i : Nat) | cst (d : D) | gc (i : Nat)
  | o1 (o : O1) (a : E) | o2 (o : O2) (a b : E) | o3 (o : O3) (a b c : E)
  | and (es : EL) | or (es : EL)
  | chain (p q : O2) (a b c : E)
  | ite (c a b : E)
  | call (g : Nat) (es : EL)
  | tup (es : EL) | lst (es : EL)
  | dsp (k x : E)
  | lc (own : List Nat) (t : Tg) (it : I) (e : E)
  | lci (own : List Nat) (t : Tg) (it : I) (c e : E)
  | ixv (i : Nat) (b : E) | getv (i : Nat) (k x : E)
inductive EL where
  | nil | cons (e : E) (es : EL)
inductive I where
  | over (e : E) | rng1 (a : E) | rng2 (a b : E) | enum (e : E) | zip (a b : E) | items (e : E)
end
inductive Rh where
  | sh (e : E) | ol (es : EL) | od
mutual
inductive S where
  | set (i : Nat) (r : Rh)
  | par (l : List (Nat × Rh))
  | tgt (t : Tg) (e : E)
  | frz (i : Nat)
  | app (i : Nat) (e : E) | put (i : Nat) (k x : E)
  | ex (e : E)
  | for (t : Tg) (it : I) (b : SL)
  | whl (c : E) (b : SL)
  | ite (c : E) (a b : SL)
  | ret (e : E)
  | never
inductive SL where
  | nil | cons (s : S) (ss : SL)
end

/-! ### values -/
inductive Cl where
  | no | sh (d : D) | ow (d : D)
abbrev Env := List Cl
def Env.at : Env → Nat → Cl
  | [], _ => .no
  | c :: _, 0 => c
  | _ :: r, i + 1 => Env.at r i
def Env.put : Env → Nat → Cl → Env
  | [], _, _ => []
  | _ :: r, 0, c => c :: r
  | a :: r, i + 1, c => a :: Env.put r i c
def Env.wipe (e : Env) : List Nat → Env
  | [] => e
  | i :: r => Env.put (Env.wipe e r) i .no

def isInt : D → Option Int
  | .int i => some i
  | _ => none
def isBool : D → Option Bool
  | .bool b => some b
  | _ => none
def intsO : List D → Option (List Int)
  | [] => some []
  | .int i :: r => match intsO r with
    | some l => some (i :: l)
    | none => none
  | _ :: _ => none
def boolsO : List D → Option (List Bool)
  | [] => some []
  | .bool b :: r => match boolsO r with
    | some l => some (b :: l)
    | none => none
  | _ :: _ => none
def seqOf : D → Option (List D)
  | .list xs => some xs
  | .tuple xs => some xs
  | _ => none

-- equal data of whole numbers in tuples
mutual
def keq : D → D → Bool
  | .int a, .int b => decide (a = b)
  | .tuple xs, .tuple ys => keqL xs ys
  | _, _ => false
def keqL : List D → List D → Bool
  | [], [] => true
  | x :: xs, y :: ys => keq x y && keqL xs ys
  | _, _ => false
end
-- x < y where the shapes are alike
mutual
def lt : D → D → Bool
  | .int a, .int b => decide (a < b)
  | .tuple xs, .tuple ys => ltL xs ys
  | _, _ => false
def ltL : List D → List D → Bool
  | x :: xs, y :: ys => if keq x y then ltL xs ys else lt x y
  | [], _ :: _ => true
  | _, _ => false
end
-- same shape, of tuples and whole numbers
mutual
def like : D → D → Bool
  | .int _, .int _ => true
  | .tuple xs, .tuple ys => likeL xs ys
  | _, _ => false
def likeL : List D → List D → Bool
  | x :: xs, y :: ys => like x y && likeL xs ys
  | [], [] => true
  | _, _ => false
end
def insL (x : D) : List D → List D
  | [] => [x]
  | y :: ys => if lt y x then y :: insL x ys else x :: y :: ys
def isort : List D → List D
  | [] => []
  | x :: xs => insL x (isort xs)
/-- the items are alike to the first one: whole numbers, or tuples with an item -/
def sortable : List D → Bool
  | [] => true
  | .int i :: r => r.all (like (.int i))
  | .tuple (x :: y) :: r => like (.tuple (x :: y)) (.tuple (x :: y)) && Nat.ble (PyData.depth (.tuple (x :: y))) 20 && r.all (like (.tuple (x :: y)))
  | _ => false

/-! ### dicts: keys of whole numbers in tuples -/
mutual
def isKey : D → Bool
  | .int _ => true
  | .tuple xs => isKeyL xs
  | _ => false
def isKeyL : List D → Bool
  | [] => true
  | x :: xs => isKey x && isKeyL xs
end
mutual
def kdep : D → Nat
  | .tuple xs => kdepL xs + 1
  | _ => 0
def kdepL : List D → Nat
  | [] => 0
  | x :: xs => max (kdep x) (kdepL xs)
end
def isTupKey : D → Bool
  | .tuple xs => isKeyL xs && Nat.ble (kdepL xs) 7
  | _ => false
def dget (k : D) : List (D × D) → Option D
  | [] => none
  | (a, x) :: r => if keq a k then some x else dget k r
def dput (k x : D) : List (D × D) → List (D × D)
  | [] => [(k, x)]
  | (a, y) :: r => if keq a k then (a, x) :: r else (a, y) :: dput k x r
def ofPairs : List D → List (D × D) → Option (List (D × D))
  | [], acc => some acc
  | .tuple [k, x] :: r, acc => if isTupKey k then ofPairs r (dput k x acc) else none
  | _ :: _, _ => none

/-! ### operations -/
def ix (n : Nat) (i : Int) : Option Nat := match i with
  | .ofNat j => if j < n then some j else none
  | .negSucc j => if j < n then some (n - (j + 1)) else none
def nth : List D → Nat → Option D
  | [], _ => none
  | x :: _, 0 => some x
  | _ :: r, i + 1 => nth r i
def place (n : Nat) (i : Int) : Nat := match i with
  | .ofNat j => if j ≤ n then j else n
  | .negSucc j => n - (j + 1)
def cut (xs : List D) (lo hi : Option Int) : List D :=
  let n := xs.length
  let a := match lo with
    | none => 0
    | some i => place n i
  let b := match hi with
    | none => n
    | some i => place n i
  (xs.drop a).take (b - a)
def rep : Nat → List D → List D
  | 0, _ => []
  | n + 1, xs => xs ++ rep n xs
def rng (lo : Int) (step : Int) : Nat → List D
  | 0 => []
  | n + 1 => .int lo :: rng (lo + step) step n
def small (i : Int) : Bool := i.natAbs < 1000000
def uniq : List Int → List Int
  | [] => []
  | x :: xs => if xs.contains x then uniq xs else x :: uniq xs
def minL : Int → List Int → Int
  | m, [] => m
  | m, x :: r => minL (if x < m then x else m) r
def maxL : Int → List Int → Int
  | m, [] => m
  | m, x :: r => maxL (if m < x then x else m) r
def sumL : List Int → Int
  | [] => 0
  | x :: r => x + sumL r
def strsO : List D → Option (List Str)
  | [] => some []
  | .str i :: r => match strsO r with
    | some l => some (i :: l)
    | none => none
  | _ :: _ => none

def op1 (o : O1) (a : D) : Option D := match o with
  | .neg => match a with
    | .int i => some (.int (-i))
    | _ => none
  | .not => match a with
    | .bool b => some (.bool (!b))
    | _ => none
  | .isN => match a with
    | .none => some (.bool true)
    | _ => some (.bool false)
  | .notN => match a with
    | .none => some (.bool false)
    | _ => some (.bool true)
  | .len => match seqOf a with
    | some xs => some (.int xs.length)
    | none => none
  | .isiI => match a with
    | .int _ => some (.bool true)
    | .tuple _ => some (.bool false)
    | .str _ => some (.bool false)
    | _ => none
  | .isiB => match a with
    | .int _ => some (.bool false)
    | _ => none
  | .isiT => match a with
    | .tuple _ => some (.bool true)
    | _ => none
  | .isiS => match a with
    | .str _ => some (.bool true)
    | _ => none
  | .all => match a with
    | .list xs => match boolsO xs with
      | some bs => some (.bool (bs.all id))
      | none => none
    | _ => none
  | .any => match a with
    | .list xs => match boolsO xs with
      | some bs => some (.bool (bs.any id))
      | none => none
    | _ => none
  | .tup => match a with
    | .list xs => some (.tuple xs)
    | _ => none
  | .tupRg => match a with
    | .int i => if small i then some (.tuple (rng 0 1 i.toNat)) else none
    | _ => none
  | .int => match a with
    | .int i => some (.int i)
    | .bool b => some (.int (if b then 1 else 0))
    | _ => none
  | .sum => match seqOf a with
    | some xs => match intsO xs with
      | some ns => some (.int (sumL ns))
      | none => none
    | none => none
  | .min => match a with
    | .list xs => match intsO xs with
      | some (n :: ns) => some (.int (minL n ns))
      | _ => none
    | _ => none
  | .max => match a with
    | .list xs => match intsO xs with
      | some (n :: ns) => some (.int (maxL n ns))
      | _ => none
    | _ => none
  | .abs => match a with
    | .int i => some (.int (if i < 0 then -i else i))
    | _ => none
  | .sorted => match a with
    | .list xs => if sortable xs && Nat.ble xs.length 10000 then some (.list (isort xs)) else none
    | .dict kvs => if sortable (kvs.map (·.1)) && Nat.ble kvs.length 10000 then some (.list (isort (kvs.map (·.1)))) else none
    | _ => none
  | .dict => match a with
    | .list xs => match ofPairs xs [] with
      | some kvs => some (.dict kvs)
      | none => none
    | _ => none
  | .lenSet => match seqOf a with
    | some xs => match intsO xs with
      | some ns => if ns.length < 64 then some (.int (uniq ns).length) else none
      | none => none
    | none => none
  | .sortedSet => match a with
    | .list xs => match intsO xs with
      | some ns => if ns.length < 64 then some (.list (isort ((uniq ns).map .int))) else none
      | none => none
    | _ => none
  | .rev => match a with
    | .list xs => some (.list xs.reverse)
    | _ => none

def isIn (a b : D) : Option Bool := match b with
  | .list xs => if SeqAt.shaped a && SeqAt.shaped (.list xs) then some (xs.any fun z => PyData.eqv z a) else none
  | .tuple xs => match a with
    | .int k => match intsO xs with
      | some ns => some (ns.any fun z => decide (z = k))
      | none => none
    | .str k => match strsO xs with
      | some ns => some (ns.any fun z => decide (z = k))
      | none => none
    | _ => none
  | .dict kvs => if isTupKey a then some (dget a kvs).isSome else none
  | _ => none
def op2 (o : O2) (a b : D) : Option D := match o with
  | .add => match a, b with
    | .int i, .int j => some (.int (i + j))
    | .tuple xs, .tuple ys => if xs.length + ys.length < 1000 then some (.tuple (xs ++ ys)) else none
    | .list xs, .list ys => if xs.length + ys.length < 1000 then some (.list (xs ++ ys)) else none
    | _, _ => none
  | .sub => match a, b with
    | .int i, .int j => some (.int (i - j))
    | _, _ => none
  | .mul => match a, b with
    | .int i, .int j => if small i then some (.int (i * j)) else none
    | .tuple (x :: xs), .int (.ofNat k) => if 2 ≤ k && k ≤ 1000 && xs.length < 1000 then some (.tuple (rep k (x :: xs))) else none
    | .list xs, .int (.ofNat k) => if k ≤ 1000 && xs.length < 1000 then some (.list (rep k xs)) else none
    | _, _ => none
  | .fdiv => match a, b with
    | .int i, .int j => if decide (0 < j) && small j then some (.int (i / j)) else none
    | _, _ => none
  | .mod => match a, b with
    | .int i, .int j => if decide (0 < j) then some (.int (i % j)) else none
    | _, _ => none
  | .eq => match a, b with
    | .int i, .int j => some (.bool (decide (i = j)))
    | .str i, .str j => some (.bool (decide (i = j)))
    | _, _ => if SeqAt.shaped a && SeqAt.shaped b then some (.bool (PyData.eqv a b)) else none
  | .ne => match a, b with
    | .int i, .int j => some (.bool (!decide (i = j)))
    | .str i, .str j => some (.bool (!decide (i = j)))
    | _, _ => if SeqAt.shaped a && SeqAt.shaped b then some (.bool (!PyData.eqv a b)) else none
  | .lt => match a, b with
    | .int i, .int j => some (.bool (decide (i < j)))
    | _, _ => none
  | .le => match a, b with
    | .int i, .int j => some (.bool (decide (i ≤ j)))
    | _, _ => none
  | .gt => match a, b with
    | .int i, .int j => some (.bool (decide (j < i)))
    | _, _ => none
  | .ge => match a, b with
    | .int i, .int j => some (.bool (decide (j ≤ i)))
    | _, _ => none
  | .isin => match isIn a b with
    | some r => some (.bool r)
    | none => none
  | .notin => match isIn a b with
    | some r => some (.bool (!r))
    | none => none
  | .ix => match a with
    | .list xs => match b with
      | .int i => match ix xs.length i with
        | some j => nth xs j
        | none => none
      | _ => none
    | .tuple xs => match b with
      | .int i => match ix xs.length i with
        | some j => nth xs j
        | none => none
      | _ => none
    | .dict kvs => if isTupKey b then dget b kvs else none
    | _ => none
  | .slTo => match a, b with
    | .list xs, .int j => some (.list (cut xs none (some j)))
    | .tuple xs, .int j => some (.tuple (cut xs none (some j)))
    | _, _ => none
  | .slFrom => match a, b with
    | .list xs, .int i => some (.list (cut xs (some i) none))
    | .tuple xs, .int i => some (.tuple (cut xs (some i) none))
    | _, _ => none
  | .min => match a, b with
    | .int i, .int j => some (.int (if j < i then j else i))
    | _, _ => none
  | .max => match a, b with
    | .int i, .int j => some (.int (if j > i then j else i))
    | _, _ => none
  | .index => match a, b with
    | .tuple xs, .int k => match intsO xs with
      | some ns => if ns.contains k then some (.int (ns.idxOf k : Nat)) else none
      | none => none
    | _, _ => none

def op3 (o : O3) (a b c : D) : Option D := match o with
  | .slice => match a, b, c with
    | .list xs, .int i, .int j => some (.list (cut xs (some i) (some j)))
    | .tuple xs, .int i, .int j => some (.tuple (cut xs (some i) (some j)))
    | _, _, _ => none
  | .lstRg => match a, b, c with
    | .int i, .int j, .int k => if small i && small j && small k && decide (0 < k) then some (.list (rng i k ((j - i + k - 1) / k).toNat)) else none
    | _, _, _ => none
  | .get => match a with
    | .dict kvs => if isTupKey b then some ((dget b kvs).getD c) else none
    | _ => none

mutual
def asgT : Tg → D → Env → Option Env
  | .n i, d, env => some (env.put i (.sh d))
  | .t ts, .tuple ds, env => asgTL ts ds env
  | .t _, _, _ => none
def asgTL : TgL → List D → Env → Option Env
  | .nil, [], env => some env
  | .cons t ts, d :: ds, env => match asgT t d env with
    | some env1 => asgTL ts ds env1
    | none => none
  | _, _, _ => none
end

-- what an iterator gives: a thing, or a new pair of two things
inductive Yd where
  | one (d : D) | two (a b : D)
def asgY (t : Tg) (y : Yd) (env : Env) : Option Env := match y with
  | .one d => asgT t d env
  | .two a b => match t with
    | .t (.cons p (.cons q .nil)) => match asgT p a env with
      | some env1 => asgT q b env1
      | none => none
    | _ => none
def mapO (f : Yd → Option D) : List Yd → Option (List D)
  | [] => some []
  | d :: ds => match f d with
    | some y => match mapO f ds with
      | some ys => some (y :: ys)
      | none => none
    | none => none
/-- an element where the test says so -/
def mapF (f : Yd → Option (Option D)) : List Yd → Option (List D)
  | [] => some []
  | d :: ds => match f d with
    | some (some y) => match mapF f ds with
      | some ys => some (y :: ys)
      | none => none
    | some none => mapF f ds
    | none => none
def ones : List D → List Yd
  | [] => []
  | d :: ds => .one d :: ones ds
def enumL : Int → List D → List Yd
  | _, [] => []
  | i, d :: ds => .two (.int i) d :: enumL (i + 1) ds
def zipL : List D → List D → List Yd
  | x :: xs, y :: ys => .two x y :: zipL xs ys
  | _, _ => []
def itemsL : List (D × D) → List Yd
  | [] => []
  | (a, b) :: r => .two a b :: itemsL r

section
variable (gcv : Nat → Option Int) (cl : Nat → List D → Option D)
mutual
def ev : E → Env → Option D
  | .v i, env => match env.at i with
    | .sh d => some d
    | _ => none
  | .cst d, _ => some d
  | .gc i, _ => match gcv i with
    | some k => some (.int k)
    | none => none
  | .o1 o a, env => match ev a env with
    | some x => op1 o x
    | none => none
  | .o2 o a b, env => match ev a env with
    | some x => match ev b env with
      | some y => op2 o x y
      | none => none
    | none => none
  | .o3 o a b c, env => match ev a env with
    | some x => match ev b env with
      | some y => match ev c env with
        | some z => op3 o x y z
        | none => none
      | none => none
    | none => none
  | .and es, env => evAnd es env
  | .or es, env => evOr es env
  | .chain p q a b c, env => match ev a env with
    | some x => match ev b env with
      | some y => match op2 p x y with
        | some (.bool true) => match ev c env with
          | some z => op2 q y z
          | none => none
        | some (.bool false) => some (.bool false)
        | _ => none
      | none => none
    | none => none
  | .ite c a b, env => match ev c env with
    | some (.bool true) => ev a env
    | some (.bool false) => ev b env
    | _ => none
  | .call g es, env => match evL es env with
    | some ds => cl g ds
    | none => none
  | .tup es, env => match evL es env with
    | some ds => some (.tuple ds)
    | none => none
  | .lst es, env => match evL es env with
    | some ds => some (.list ds)
    | none => none
  | .dsp k x, env => match ev k env with
    | some d => match ev x env with
      | some y => if isTupKey d then some (.dict [(d, y)]) else none
      | none => none
    | none => none
  | .lc own t it e, env => match evI it env with
    | some ds => match mapO (fun d => match asgY t d (env.wipe own) with
        | some env1 => ev e env1
        | none => none) ds with
      | some ys => if ds.length < 10000 then some (.list ys) else none
      | none => none
    | none => none
  | .lci own t it c e, env => match evI it env with
    | some ds => match mapF (fun d => match asgY t d (env.wipe own) with
        | some env1 => match ev c env1 with
          | some (.bool true) => match ev e env1 with
            | some y => some (some y)
            | none => none
          | some (.bool false) => some none
          | _ => none
        | none => none) ds with
      | some ys => if ds.length < 10000 then some (.list ys) else none
      | none => none
    | none => none
  | .ixv i b, env => match env.at i with
    | .ow d => match ev b env with
      | some y => op2 .ix d y
      | none => none
    | _ => none
  | .getv i k x, env => match env.at i with
    | .ow d => match ev k env with
      | some y => match ev x env with
        | some z => op3 .get d y z
        | none => none
      | none => none
    | _ => none
def evL : EL → Env → Option (List D)
  | .nil, _ => some []
  | .cons e es, env => match ev e env with
    | some d => match evL es env with
      | some ds => some (d :: ds)
      | none => none
    | none => none
def evAnd : EL → Env → Option D
  | .nil, _ => none
  | .cons e .nil, env => ev e env
  | .cons e (.cons f es), env => match ev e env with
    | some (.bool true) => evAnd (.cons f es) env
    | some (.bool false) => some (.bool false)
    | _ => none
def evOr : EL → Env → Option D
  | .nil, _ => none
  | .cons e .nil, env => ev e env
  | .cons e (.cons f es), env => match ev e env with
    | some (.bool false) => evOr (.cons f es) env
    | some (.bool true) => some (.bool true)
    | _ => none
def evI : I → Env → Option (List Yd)
  | .over e, env => match ev e env with
    | some (.list xs) => some (ones xs)
    | some (.tuple xs) => some (ones xs)
    | some (.dict kvs) => some (ones (kvs.map (·.1)))
    | _ => none
  | .rng1 a, env => match ev a env with
    | some (.int i) => if small i then some (ones (rng 0 1 i.toNat)) else none
    | _ => none
  | .rng2 a b, env => match ev a env with
    | some (.int i) => match ev b env with
      | some (.int j) => if small i && small j then some (ones (rng i 1 (j - i).toNat)) else none
      | _ => none
    | _ => none
  | .enum e, env => match ev e env with
    | some (.list xs) => some (enumL 0 xs)
    | some (.tuple xs) => some (enumL 0 xs)
    | _ => none
  | .zip a b, env => match ev a env with
    | some (.list xs) => match ev b env with
      | some (.list ys) => some (zipL xs ys)
      | _ => none
    | some (.tuple xs) => match ev b env with
      | some (.tuple ys) => some (zipL xs ys)
      | _ => none
    | _ => none
  | .items e, env => match ev e env with
    | some (.dict kvs) => some (itemsL kvs)
    | _ => none
end

inductive Fl where
  | nx (env : Env) | rt (d : D)
def forL (asg : Yd → Env → Option Env) (body : Env → Option Fl) : List Yd → Env → Option Fl
  | [], env => some (.nx env)
  | d :: ds, env => match asg d env with
    | some env1 => match body env1 with
      | some (.nx env2) => forL asg body ds env2
      | some (.rt r) => some (.rt r)
      | none => none
    | none => none
def whlL (test : Env → Option D) (body : Env → Option Fl) : Nat → Env → Option Fl
  | 0, _ => none
  | n + 1, env => match test env with
    | some (.bool true) => match body env with
      | some (.nx env2) => whlL test body n env2
      | some (.rt r) => some (.rt r)
      | none => none
    | some (.bool false) => some (.nx env)
    | _ => none
def evR : Rh → Env → Option Cl
  | .sh e, env => match ev gcv cl e env with
    | some d => some (.sh d)
    | none => none
  | .ol es, env => match evL gcv cl es env with
    | some ds => some (.ow (.list ds))
    | none => none
  | .od, _ => some (.ow (.dict []))
def evP : List (Nat × Rh) → Env → Option (List (Nat × Cl))
  | [], _ => some []
  | (i, r) :: l, env => match evR gcv cl r env with
    | some c => match evP l env with
      | some cs => some ((i, c) :: cs)
      | none => none
    | none => none
def Env.puts (env : Env) : List (Nat × Cl) → Env
  | [] => env
  | (i, c) :: l => Env.puts (env.put i c) l
mutual
def ex : S → Env → Option Fl
  | .set i r, env => match evR gcv cl r env with
    | some c => some (.nx (env.put i c))
    | none => none
  | .par l, env => match evP gcv cl l env with
    | some cs => some (.nx (env.puts cs))
    | none => none
  | .tgt t e, env => match ev gcv cl e env with
    | some d => match asgT t d env with
      | some env1 => some (.nx env1)
      | none => none
    | none => none
  | .frz i, env => match env.at i with
    | .ow d => some (.nx (env.put i (.sh d)))
    | _ => some (.nx env)
  | .app i e, env => match env.at i with
    | .ow (.list xs) => match ev gcv cl e env with
      | some d => if xs.length < 10000 then some (.nx (env.put i (.ow (.list (xs ++ [d]))))) else none
      | none => none
    | _ => none
  | .put i k x, env => match env.at i with
    | .ow (.dict kvs) => match ev gcv cl x env with
      | some y => match ev gcv cl k env with
        | some d => if isTupKey d && decide (kvs.length < 10000) then some (.nx (env.put i (.ow (.dict (dput d y kvs))))) else none
        | none => none
      | none => none
    | _ => none
  | .ex e, env => match ev gcv cl e env with
    | some _ => some (.nx env)
    | none => none
  | .for t it b, env => match evI gcv cl it env with
    | some ds => forL (asgY t) (exs b) ds env
    | none => none
  | .whl c b, env => whlL (ev gcv cl c) (exs b) 20 env
  | .ite c a b, env => match ev gcv cl c env with
    | some (.bool true) => exs a env
    | some (.bool false) => exs b env
    | _ => none
  | .ret e, env => match ev gcv cl e env with
    | some d => some (.rt d)
    | none => none
  | .never, _ => none
def exs : SL → Env → Option Fl
  | .nil, env => some (.nx env)
  | .cons s ss, env => match ex s env with
    | some (.nx env1) => exs ss env1
    | some (.rt d) => some (.rt d)
    | none => none
end
end
/-- a def: how many names it has, how many of them are parameters, its body -/
structure Df where
  names : Nat
  pars : Nat
  body : SL
def frame (n : Nat) : List D → Env
  | [] => List.replicate n .no
  | d :: ds => match n with
    | 0 => []
    | m + 1 => .sh d :: frame m ds
def runD (gcv : Nat → Option Int) (cl : Nat → List D → Option D) (f : Df) (ds : List D) : Option D :=
  if ds.length = f.pars then match exs gcv cl f.body (frame f.names ds) with
    | some (.rt d) => some d
    | some (.nx _) => some .none
    | none => none
  else none
/-- n calls deep -/
def evF (gcv : Nat → Option Int) (tab : Nat → Option Df) : Nat → Nat → List D → Option D
  | 0, _, _ => none
  | n + 1, g, ds => match tab g with
    | some f => runD gcv (evF gcv tab n) f ds
    | none => none
end Sq
end

section
set_option Elab.async false
set_option linter.all false
set_option maxRecDepth 100000
namespace Sq
open PySem
def d0 : Df := ⟨3, 3, (.cons (.ret (.and (.cons (.o1 .isiI (.v 0)) (.cons (.o1 .not (.o1 .isiB (.v 0))) (.cons (.chain .le .le (.v 1) (.v 0) (.v 2)) .nil))))) .nil)⟩ /- is_whole -/
def d1 : Df := ⟨3, 1, (.cons (.set 1 (.sh (.cst (.int 0)))) (.cons (.for (.n 2) (.over (.v 0)) (.cons (.set 1 (.sh (.o2 .add (.v 1) (.v 2)))) (.cons (.ite (.o1 .not (.chain .le .le (.cst (.int 0)) (.v 1) (.cst (.int 1)))) (.cons (.ret (.cst (.bool false))) .nil) .nil) .nil))) (.cons (.ret (.o2 .eq (.v 1) (.cst (.int 1)))) .nil)))⟩ /- turns_well -/
def d2 : Df := ⟨3, 2, (.cons (.ret (.and (.cons (.o1 .isiT (.v 0)) (.cons (.o2 .eq (.o1 .len (.v 0)) (.v 1)) (.cons (.o1 .all (.lc [2] (.n 2) (.over (.v 0)) (.call 0 (.cons (.v 2) (.cons (.o1 .neg (.cst (.int 1))) (.cons (.cst (.int 1)) .nil)))))) .nil))))) .nil)⟩ /- fits_line -/
def d3 : Df := ⟨3, 1, (.cons (.ret (.lc [2] (.n 2) (.rng1 (.o1 .len (.v 0))) (.o1 .tup (.lc [1] (.n 1) (.over (.v 0)) (.o2 .ix (.v 1) (.v 2)))))) .nil)⟩ /- columns_of -/
def d4 : Df := ⟨2, 1, (.cons (.ite (.or (.cons (.o1 .not (.o1 .isiT (.v 0))) (.cons (.o1 .not (.chain .le .le (.cst (.int 1)) (.o1 .len (.v 0)) (.gc 0))) .nil))) (.cons (.ret (.cst (.bool false))) .nil) .nil) (.cons (.ite (.o1 .not (.o1 .all (.lc [1] (.n 1) (.over (.v 0)) (.call 2 (.cons (.v 1) (.cons (.o1 .len (.v 0)) .nil)))))) (.cons (.ret (.cst (.bool false))) .nil) .nil) (.cons (.ret (.and (.cons (.o1 .all (.lc [1] (.n 1) (.over (.v 0)) (.call 1 (.cons (.v 1) .nil)))) (.cons (.o1 .all (.lc [1] (.n 1) (.over (.call 3 (.cons (.v 0) .nil))) (.call 1 (.cons (.v 1) .nil)))) .nil)))) .nil)))⟩ /- fits_square -/
def d5 : Df := ⟨2, 1, (.cons (.ite (.or (.cons (.o1 .not (.o1 .isiT (.v 0))) (.cons (.o1 .not (.chain .le .le (.cst (.int 1)) (.o1 .len (.v 0)) (.gc 0))) .nil))) (.cons (.ret (.cst (.bool false))) .nil) .nil) (.cons (.ret (.and (.cons (.o1 .all (.lc [1] (.n 1) (.over (.v 0)) (.call 0 (.cons (.v 1) (.cons (.cst (.int 0)) (.cons (.o2 .sub (.o1 .len (.v 0)) (.cst (.int 1))) .nil)))))) (.cons (.o2 .eq (.o1 .lenSet (.v 0)) (.o1 .len (.v 0))) .nil)))) .nil))⟩ /- fits_order -/
def d6 : Df := ⟨3, 1, (.cons (.ret (.o1 .tup (.lc [2] (.n 2) (.over (.v 0)) (.o1 .tup (.lc [1] (.n 1) (.rng1 (.o1 .len (.v 0))) (.o1 .int (.o2 .eq (.v 1) (.v 2)))))))) .nil)⟩ /- square_of -/
def d7 : Df := ⟨2, 1, (.cons (.ite (.o1 .any (.lc [1] (.n 1) (.over (.v 0)) (.o2 .isin (.o1 .neg (.cst (.int 1))) (.v 1)))) (.cons (.ret (.cst .none)) .nil) .nil) (.cons (.ret (.o1 .tup (.lc [1] (.n 1) (.over (.v 0)) (.o2 .index (.v 1) (.cst (.int 1)))))) .nil))⟩ /- order_of -/
def d8 : Df := ⟨1, 1, (.cons (.ite (.o1 .not (.call 4 (.cons (.v 0) .nil))) (.cons .never .nil) .nil) .nil)⟩ /- need_square -/
def d9 : Df := ⟨1, 1, (.cons (.ite (.o1 .not (.call 0 (.cons (.v 0) (.cons (.cst (.int 1)) (.cons (.gc 0) .nil))))) (.cons .never .nil) .nil) .nil)⟩ /- need_sides -/
def d10 : Df := ⟨1, 1, (.cons (.ite (.o1 .not (.call 5 (.cons (.v 0) .nil))) (.cons .never .nil) .nil) .nil)⟩ /- need_order -/
def d11 : Df := ⟨2, 2, (.cons (.ex (.call 8 (.cons (.v 0) .nil))) (.cons (.ex (.call 8 (.cons (.v 1) .nil))) (.cons (.ite (.o2 .ne (.o1 .len (.v 0)) (.o1 .len (.v 1))) (.cons .never .nil) .nil) .nil)))⟩ /- need_two -/
def d12 : Df := ⟨2, 2, (.cons (.ite (.o2 .gt (.v 0) (.v 1)) (.cons .never .nil) .nil) .nil)⟩ /- need_few -/
def d13 : Df := ⟨1, 1, (.cons (.ex (.call 10 (.cons (.v 0) .nil))) (.cons (.ret (.call 6 (.cons (.v 0) .nil))) .nil))⟩ /- order_square -/
def d14 : Df := ⟨1, 1, (.cons (.ex (.call 9 (.cons (.v 0) .nil))) (.cons (.ret (.call 6 (.cons (.o1 .tupRg (.v 0)) .nil))) .nil))⟩ /- unit_square -/
def d15 : Df := ⟨10, 1, (.cons (.set 1 (.sh (.o1 .len (.v 0)))) (.cons (.par [(2, (.sh (.o2 .mul (.lst (.cons (.cst (.int 0)) .nil)) (.o2 .add (.v 1) (.cst (.int 1)))))), (3, (.ol (.cons (.o1 .tupRg (.o2 .add (.v 1) (.cst (.int 1)))) .nil)))]) (.cons (.for (.t (.cons (.n 4) (.cons (.n 5) .nil))) (.enum (.v 0)) (.cons (.par [(6, (.sh (.cst (.int 0)))), (7, (.ol (.cons (.cst (.int 0)) .nil)))]) (.cons (.for (.t (.cons (.n 8) (.cons (.n 9) .nil))) (.enum (.v 5)) (.cons (.set 6 (.sh (.o2 .add (.v 6) (.v 9)))) (.cons (.app 7 (.o2 .add (.o2 .ix (.v 2) (.o2 .add (.v 8) (.cst (.int 1)))) (.v 6))) .nil))) (.cons (.frz 7) (.cons (.set 2 (.sh (.v 7))) (.cons (.app 3 (.o1 .tup (.lc [8, 9] (.t (.cons (.n 8) (.cons (.n 9) .nil))) (.enum (.v 2)) (.o2 .sub (.o2 .add (.o2 .add (.v 4) (.cst (.int 1))) (.v 8)) (.o2 .mul (.cst (.int 2)) (.v 9)))))) .nil)))))) (.cons (.frz 3) (.cons (.ret (.o1 .tup (.v 3))) .nil)))))⟩ /- heights_of -/
def d16 : Df := ⟨9, 1, (.cons (.par [(1, (.sh (.o2 .sub (.o1 .len (.v 0)) (.cst (.int 1))))), (2, (.ol .nil))]) (.cons (.for (.n 3) (.rng1 (.v 1)) (.cons (.par [(4, (.sh (.o2 .ix (.v 0) (.v 3)))), (5, (.sh (.o2 .ix (.v 0) (.o2 .add (.v 3) (.cst (.int 1))))))]) (.cons (.set 6 (.sh (.lc [7] (.n 7) (.rng1 (.v 1)) (.o2 .sub (.o2 .sub (.o2 .add (.o2 .ix (.v 5) (.v 7)) (.o2 .ix (.v 4) (.o2 .add (.v 7) (.cst (.int 1))))) (.o2 .ix (.v 4) (.v 7))) (.o2 .ix (.v 5) (.o2 .add (.v 7) (.cst (.int 1)))))))) (.cons (.app 2 (.o1 .tup (.lc [8] (.n 8) (.over (.v 6)) (.o2 .fdiv (.v 8) (.cst (.int 2)))))) .nil)))) (.cons (.frz 2) (.cons (.ret (.o1 .tup (.v 2))) .nil))))⟩ /- square_from -/
def d17 : Df := ⟨3, 1, (.cons (.ite (.or (.cons (.o1 .not (.o1 .isiT (.v 0))) (.cons (.o1 .not (.chain .le .le (.cst (.int 2)) (.o1 .len (.v 0)) (.o2 .add (.gc 0) (.cst (.int 1))))) .nil))) (.cons (.ret (.cst (.bool false))) .nil) .nil) (.cons (.ite (.o1 .not (.o1 .all (.lc [1] (.n 1) (.over (.v 0)) (.and (.cons (.o1 .isiT (.v 1)) (.cons (.o2 .eq (.o1 .len (.v 1)) (.o1 .len (.v 0))) .nil)))))) (.cons (.ret (.cst (.bool false))) .nil) .nil) (.cons (.ret (.o1 .all (.lc [1] (.n 1) (.over (.v 0)) (.o1 .all (.lc [2] (.n 2) (.over (.v 1)) (.call 0 (.cons (.v 2) (.cons (.cst (.int 0)) (.cons (.o2 .mul (.cst (.int 2)) (.gc 0)) .nil))))))))) .nil)))⟩ /- fits_table -/
def d18 : Df := ⟨2, 1, (.cons (.ite (.o1 .not (.call 17 (.cons (.v 0) .nil))) (.cons (.ret (.cst (.bool false))) .nil) .nil) (.cons (.set 1 (.sh (.call 16 (.cons (.v 0) .nil)))) (.cons (.ret (.and (.cons (.call 4 (.cons (.v 1) .nil)) (.cons (.o2 .eq (.call 15 (.cons (.v 1) .nil)) (.v 0)) .nil)))) .nil)))⟩ /- fits_heights -/
def d19 : Df := ⟨3, 3, (.cons (.ret (.lst (.cons (.o2 .ix (.o2 .ix (.v 0) (.o2 .sub (.v 1) (.cst (.int 1)))) (.v 2)) (.cons (.o2 .ix (.o2 .ix (.v 0) (.o2 .add (.v 1) (.cst (.int 1)))) (.v 2)) (.cons (.o2 .ix (.o2 .ix (.v 0) (.v 1)) (.o2 .sub (.v 2) (.cst (.int 1)))) (.cons (.o2 .ix (.o2 .ix (.v 0) (.v 1)) (.o2 .add (.v 2) (.cst (.int 1)))) .nil)))))) .nil)⟩ /- neighbours_of -/
def d20 : Df := ⟨5, 2, (.cons (.set 2 (.ol .nil)) (.cons (.for (.n 3) (.rng2 (.cst (.int 1)) (.o2 .sub (.o1 .len (.v 0)) (.cst (.int 1)))) (.cons (.for (.n 4) (.rng2 (.cst (.int 1)) (.o2 .sub (.o1 .len (.v 0)) (.cst (.int 1)))) (.cons (.ite (.o2 .eq (.call 19 (.cons (.v 0) (.cons (.v 3) (.cons (.v 4) .nil)))) (.o2 .mul (.lst (.cons (.o2 .add (.o2 .ix (.o2 .ix (.v 0) (.v 3)) (.v 4)) (.v 1)) .nil)) (.cst (.int 4)))) (.cons (.app 2 (.tup (.cons (.v 3) (.cons (.v 4) .nil)))) .nil) .nil) .nil)) .nil)) (.cons (.frz 2) (.cons (.ret (.v 2)) .nil))))⟩ /- points_by -/
def d21 : Df := ⟨6, 3, (.cons (.tgt (.t (.cons (.n 3) (.cons (.n 4) .nil))) (.v 1)) (.cons (.set 5 (.sh (.o2 .add (.o2 .add (.o2 .slTo (.o2 .ix (.v 0) (.v 3)) (.v 4)) (.tup (.cons (.o2 .add (.o2 .ix (.o2 .ix (.v 0) (.v 3)) (.v 4)) (.v 2)) .nil))) (.o2 .slFrom (.o2 .ix (.v 0) (.v 3)) (.o2 .add (.v 4) (.cst (.int 1))))))) (.cons (.ret (.o2 .add (.o2 .add (.o2 .slTo (.v 0) (.v 3)) (.tup (.cons (.v 5) .nil))) (.o2 .slFrom (.v 0) (.o2 .add (.v 3) (.cst (.int 1)))))) .nil)))⟩ /- with_height -/
def d22 : Df := ⟨1, 1, (.cons (.ex (.call 8 (.cons (.v 0) .nil))) (.cons (.ret (.call 15 (.cons (.v 0) .nil))) .nil))⟩ /- heights -/
def d23 : Df := ⟨4, 2, (.cons (.ite (.or (.cons (.o1 .not (.o1 .isiT (.v 1))) (.cons (.o2 .gt (.o1 .len (.v 1)) (.gc 1)) .nil))) (.cons (.ret (.cst (.bool false))) .nil) .nil) (.cons (.for (.n 2) (.over (.v 1)) (.cons (.ite (.or (.cons (.o1 .not (.o1 .isiT (.v 2))) (.cons (.o2 .ne (.o1 .len (.v 2)) (.cst (.int 3))) (.cons (.o1 .not (.call 0 (.cons (.o2 .ix (.v 2) (.cst (.int 2))) (.cons (.o1 .neg (.gc 2)) (.cons (.gc 2) .nil))))) .nil)))) (.cons (.ret (.cst (.bool false))) .nil) .nil) (.cons (.ite (.o1 .not (.o1 .all (.lc [3] (.n 3) (.over (.o2 .slTo (.v 2) (.cst (.int 2)))) (.call 0 (.cons (.v 3) (.cons (.cst (.int 0)) (.cons (.v 0) .nil))))))) (.cons (.ret (.cst (.bool false))) .nil) .nil) .nil))) (.cons (.ret (.cst (.bool true))) .nil)))⟩ /- fit_bounds -/
def d24 : Df := ⟨2, 2, (.cons (.ite (.o1 .not (.call 23 (.cons (.v 0) (.cons (.v 1) .nil)))) (.cons .never .nil) .nil) .nil)⟩ /- need_bounds -/
def d25 : Df := ⟨2, 2, (.cons (.ret (.o1 .abs (.o2 .sub (.v 0) (.v 1)))) .nil)⟩ /- floor_at -/
def d26 : Df := ⟨3, 3, (.cons (.ret (.o2 .min (.o2 .add (.v 1) (.v 2)) (.o2 .sub (.o2 .sub (.o2 .mul (.cst (.int 2)) (.v 0)) (.v 1)) (.v 2)))) .nil)⟩ /- ceiling_at -/
def d27 : Df := ⟨4, 1, (.cons (.tgt (.t (.cons (.n 1) (.cons (.n 2) (.cons (.n 3) .nil)))) (.v 0)) (.cons (.ret (.o2 .max (.call 25 (.cons (.v 1) (.cons (.v 2) .nil))) (.o2 .add (.v 3) (.o2 .mod (.o2 .add (.o2 .add (.v 1) (.v 2)) (.v 3)) (.cst (.int 2)))))) .nil))⟩ /- lifted -/
def d28 : Df := ⟨5, 2, (.cons (.tgt (.t (.cons (.n 2) (.cons (.n 3) (.cons (.n 4) .nil)))) (.v 1)) (.cons (.ret (.o2 .min (.call 26 (.cons (.v 0) (.cons (.v 2) (.cons (.v 3) .nil)))) (.o2 .sub (.v 4) (.o2 .mod (.o2 .add (.o2 .add (.v 2) (.v 3)) (.v 4)) (.cst (.int 2)))))) .nil))⟩ /- pressed -/
def d29 : Df := ⟨3, 3, (.cons (.ret (.o2 .add (.o1 .abs (.o2 .sub (.o2 .ix (.v 0) (.cst (.int 0))) (.v 1))) (.o1 .abs (.o2 .sub (.o2 .ix (.v 0) (.cst (.int 1))) (.v 2))))) .nil)⟩ /- bound_steps -/
def d30 : Df := ⟨8, 2, (.cons (.set 2 (.sh (.tup .nil))) (.cons (.for (.n 3) (.rng1 (.o2 .add (.v 0) (.cst (.int 1)))) (.cons (.set 4 (.sh (.tup .nil))) (.cons (.for (.n 5) (.rng1 (.o2 .add (.v 0) (.cst (.int 1)))) (.cons (.set 6 (.sh (.lc [7] (.n 7) (.over (.v 1)) (.o2 .sub (.call 27 (.cons (.v 7) .nil)) (.call 29 (.cons (.v 7) (.cons (.v 3) (.cons (.v 5) .nil)))))))) (.cons (.set 4 (.sh (.o2 .add (.v 4) (.tup (.cons (.o1 .max (.o2 .add (.lst (.cons (.call 25 (.cons (.v 3) (.cons (.v 5) .nil))) .nil)) (.v 6))) .nil))))) .nil))) (.cons (.set 2 (.sh (.o2 .add (.v 2) (.tup (.cons (.v 4) .nil))))) .nil)))) (.cons (.ret (.v 2)) .nil)))⟩ /- low_table -/
def d31 : Df := ⟨8, 2, (.cons (.set 2 (.sh (.tup .nil))) (.cons (.for (.n 3) (.rng1 (.o2 .add (.v 0) (.cst (.int 1)))) (.cons (.set 4 (.sh (.tup .nil))) (.cons (.for (.n 5) (.rng1 (.o2 .add (.v 0) (.cst (.int 1)))) (.cons (.set 6 (.sh (.lc [7] (.n 7) (.over (.v 1)) (.o2 .add (.call 28 (.cons (.v 0) (.cons (.v 7) .nil))) (.call 29 (.cons (.v 7) (.cons (.v 3) (.cons (.v 5) .nil)))))))) (.cons (.set 4 (.sh (.o2 .add (.v 4) (.tup (.cons (.o1 .min (.o2 .add (.lst (.cons (.call 26 (.cons (.v 0) (.cons (.v 3) (.cons (.v 5) .nil)))) .nil)) (.v 6))) .nil))))) .nil))) (.cons (.set 2 (.sh (.o2 .add (.v 2) (.tup (.cons (.v 4) .nil))))) .nil)))) (.cons (.ret (.v 2)) .nil)))⟩ /- high_table -/
def d32 : Df := ⟨2, 2, (.cons (.ret (.o2 .gt (.call 27 (.cons (.v 1) .nil)) (.call 26 (.cons (.v 0) (.cons (.o2 .ix (.v 1) (.cst (.int 0))) (.cons (.o2 .ix (.v 1) (.cst (.int 1))) .nil)))))) .nil)⟩ /- too_high -/
def d33 : Df := ⟨2, 2, (.cons (.ret (.o2 .lt (.call 28 (.cons (.v 0) (.cons (.v 1) .nil))) (.call 25 (.cons (.o2 .ix (.v 1) (.cst (.int 0))) (.cons (.o2 .ix (.v 1) (.cst (.int 1))) .nil))))) .nil)⟩ /- too_low -/
def d34 : Df := ⟨8, 3, (.cons (.for (.t (.cons (.n 3) (.cons (.n 4) .nil))) (.enum (.v 1)) (.cons (.ite (.call 32 (.cons (.v 0) (.cons (.v 4) .nil))) (.cons (.ret (.tup (.cons (.v 3) (.cons (.cst .none) .nil)))) .nil) .nil) .nil)) (.cons (.for (.t (.cons (.n 3) (.cons (.n 4) .nil))) (.enum (.v 2)) (.cons (.ite (.call 33 (.cons (.v 0) (.cons (.v 4) .nil))) (.cons (.ret (.tup (.cons (.cst .none) (.cons (.v 3) .nil)))) .nil) .nil) .nil)) (.cons (.for (.t (.cons (.n 3) (.cons (.n 5) .nil))) (.enum (.v 1)) (.cons (.for (.t (.cons (.n 6) (.cons (.n 7) .nil))) (.enum (.v 2)) (.cons (.ite (.o2 .gt (.o2 .sub (.call 27 (.cons (.v 5) .nil)) (.call 29 (.cons (.v 5) (.cons (.o2 .ix (.v 7) (.cst (.int 0))) (.cons (.o2 .ix (.v 7) (.cst (.int 1))) .nil))))) (.call 28 (.cons (.v 0) (.cons (.v 7) .nil)))) (.cons (.ret (.tup (.cons (.v 3) (.cons (.v 6) .nil)))) .nil) .nil) .nil)) .nil)) (.cons (.ret (.cst .none)) .nil))))⟩ /- clash_of -/
def d35 : Df := ⟨3, 3, (.cons (.ex (.call 9 (.cons (.v 0) .nil))) (.cons (.ex (.call 24 (.cons (.v 0) (.cons (.v 1) .nil)))) (.cons (.ex (.call 24 (.cons (.v 0) (.cons (.v 2) .nil)))) .nil)))⟩ /- need_both_bounds -/
def d36 : Df := ⟨3, 2, (.cons (.ex (.call 9 (.cons (.v 0) .nil))) (.cons (.ex (.call 24 (.cons (.v 0) (.cons (.v 1) .nil)))) (.cons (.ite (.o1 .any (.lc [2] (.n 2) (.over (.v 1)) (.call 32 (.cons (.v 0) (.cons (.v 2) .nil))))) (.cons (.ret (.cst .none)) .nil) .nil) (.cons (.ret (.call 16 (.cons (.call 30 (.cons (.v 0) (.cons (.v 1) .nil))) .nil))) .nil))))⟩ /- least_above -/
def d37 : Df := ⟨3, 2, (.cons (.ex (.call 9 (.cons (.v 0) .nil))) (.cons (.ex (.call 24 (.cons (.v 0) (.cons (.v 1) .nil)))) (.cons (.ite (.o1 .any (.lc [2] (.n 2) (.over (.v 1)) (.call 33 (.cons (.v 0) (.cons (.v 2) .nil))))) (.cons (.ret (.cst .none)) .nil) .nil) (.cons (.ret (.call 16 (.cons (.call 31 (.cons (.v 0) (.cons (.v 1) .nil))) .nil))) .nil))))⟩ /- greatest_under -/
def d38 : Df := ⟨3, 3, (.cons (.ex (.call 35 (.cons (.v 0) (.cons (.v 1) (.cons (.v 2) .nil))))) (.cons (.ret (.o1 .isN (.call 34 (.cons (.v 0) (.cons (.v 1) (.cons (.v 2) .nil)))))) .nil))⟩ /- bounds_go -/
def d39 : Df := ⟨7, 2, (.cons (.for (.t (.cons (.n 2) (.cons (.n 3) .nil))) (.enum (.v 0)) (.cons (.set 4 (.sh (.lci [5, 6] (.t (.cons (.n 5) (.cons (.n 6) .nil))) (.enum (.v 3)) (.o2 .gt (.v 6) (.o2 .ix (.o2 .ix (.v 1) (.v 2)) (.v 5))) (.v 5)))) (.cons (.ite (.o2 .ne (.v 4) (.lst .nil)) (.cons (.ret (.tup (.cons (.v 2) (.cons (.o2 .ix (.v 4) (.cst (.int 0))) .nil)))) .nil) .nil) .nil))) (.cons (.ret (.cst .none)) .nil))⟩ /- paper_by -/
def d40 : Df := ⟨8, 3, (.cons (.set 3 (.ol .nil)) (.cons (.for (.t (.cons (.n 4) (.cons (.n 5) .nil))) (.zip (.v 0) (.v 1)) (.cons (.app 3 (.o1 .tup (.lc [6, 7] (.t (.cons (.n 6) (.cons (.n 7) .nil))) (.zip (.v 4) (.v 5)) (.ite (.o2 .gt (.v 2) (.cst (.int 0))) (.o2 .max (.v 6) (.v 7)) (.o2 .min (.v 6) (.v 7)))))) .nil)) (.cons (.frz 3) (.cons (.ret (.o1 .tup (.v 3))) .nil))))⟩ /- by_points -/
def d41 : Df := ⟨3, 2, (.cons (.ret (.lci [2] (.n 2) (.over (.call 20 (.cons (.v 0) (.cons (.cst (.int 1)) .nil)))) (.o2 .lt (.o2 .ix (.o2 .ix (.v 0) (.o2 .ix (.v 2) (.cst (.int 0)))) (.o2 .ix (.v 2) (.cst (.int 1)))) (.o2 .ix (.o2 .ix (.v 1) (.o2 .ix (.v 2) (.cst (.int 0)))) (.o2 .ix (.v 2) (.cst (.int 1))))) (.v 2))) .nil)⟩ /- ups_within -/
def d42 : Df := ⟨8, 2, (.cons (.set 2 (.ol (.cons (.dsp (.v 0) (.cst (.int 1))) .nil))) (.cons (.whl (.o2 .notin (.v 1) (.ixv 2 (.o1 .neg (.cst (.int 1))))) (.cons (.set 3 .od) (.cons (.for (.t (.cons (.n 4) (.cons (.n 5) .nil))) (.items (.ixv 2 (.o1 .neg (.cst (.int 1))))) (.cons (.for (.n 6) (.over (.call 41 (.cons (.v 4) (.cons (.v 1) .nil)))) (.cons (.set 7 (.sh (.call 21 (.cons (.v 4) (.cons (.v 6) (.cons (.cst (.int 2)) .nil)))))) (.cons (.put 3 (.v 7) (.o2 .add (.getv 3 (.v 7) (.cst (.int 0))) (.v 5))) .nil))) .nil)) (.cons (.frz 3) (.cons (.app 2 (.v 3)) .nil))))) (.cons (.frz 2) (.cons (.ret (.v 2)) .nil))))⟩ /- layers_between -/
def d43 : Df := ⟨2, 2, (.cons (.ex (.call 11 (.cons (.v 0) (.cons (.v 1) .nil)))) (.cons (.ret (.o1 .isN (.call 39 (.cons (.call 15 (.cons (.v 0) .nil)) (.cons (.call 15 (.cons (.v 1) .nil)) .nil))))) .nil))⟩ /- is_below -/
def d44 : Df := ⟨2, 2, (.cons (.ex (.call 11 (.cons (.v 0) (.cons (.v 1) .nil)))) (.cons (.ret (.call 16 (.cons (.call 40 (.cons (.call 15 (.cons (.v 0) .nil)) (.cons (.call 15 (.cons (.v 1) .nil)) (.cons (.o1 .neg (.cst (.int 1))) .nil)))) .nil))) .nil))⟩ /- meet -/
def d45 : Df := ⟨2, 2, (.cons (.ex (.call 11 (.cons (.v 0) (.cons (.v 1) .nil)))) (.cons (.ret (.call 16 (.cons (.call 40 (.cons (.call 15 (.cons (.v 0) .nil)) (.cons (.call 15 (.cons (.v 1) .nil)) (.cons (.cst (.int 1)) .nil)))) .nil))) .nil))⟩ /- join -/
def d46 : Df := ⟨7, 2, (.cons (.ex (.call 11 (.cons (.v 0) (.cons (.v 1) .nil)))) (.cons (.ex (.call 12 (.cons (.o1 .len (.v 0)) (.cons (.gc 3) .nil)))) (.cons (.par [(2, (.sh (.call 15 (.cons (.v 0) .nil)))), (3, (.sh (.call 15 (.cons (.v 1) .nil))))]) (.cons (.ite (.o1 .notN (.call 39 (.cons (.v 2) (.cons (.v 3) .nil)))) (.cons (.ret (.lst .nil)) .nil) .nil) (.cons (.set 4 (.sh (.lst .nil))) (.cons (.for (.n 5) (.over (.call 42 (.cons (.v 2) (.cons (.v 3) .nil)))) (.cons (.set 4 (.sh (.o2 .add (.v 4) (.lc [6] (.n 6) (.over (.v 5)) (.call 16 (.cons (.v 6) .nil)))))) .nil)) (.cons (.ret (.o1 .sorted (.v 4))) .nil)))))))⟩ /- squares_between -/
def d47 : Df := ⟨9, 3, (.cons (.tgt (.t (.cons (.n 3) (.cons (.n 4) .nil))) (.v 1)) (.cons (.set 5 (.ol .nil)) (.cons (.for (.n 6) (.rng1 (.o2 .add (.v 0) (.cst (.int 1)))) (.cons (.set 7 (.sh (.lc [8] (.n 8) (.rng1 (.o2 .add (.v 0) (.cst (.int 1)))) (.o2 .max (.o1 .abs (.o2 .sub (.v 6) (.v 8))) (.o2 .sub (.o2 .sub (.v 2) (.o1 .abs (.o2 .sub (.v 6) (.v 3)))) (.o1 .abs (.o2 .sub (.v 8) (.v 4)))))))) (.cons (.app 5 (.o1 .tup (.v 7))) .nil))) (.cons (.frz 5) (.cons (.ret (.o1 .tup (.v 5))) .nil)))))⟩ /- key_table -/
def d48 : Df := ⟨4, 2, (.cons (.tgt (.t (.cons (.n 2) (.cons (.n 3) .nil))) (.v 1)) (.cons (.ret (.o3 .lstRg (.o2 .add (.o1 .abs (.o2 .sub (.v 2) (.v 3))) (.cst (.int 2))) (.o2 .add (.o2 .sub (.v 0) (.o1 .abs (.o2 .sub (.o2 .sub (.v 0) (.v 2)) (.v 3)))) (.cst (.int 1))) (.cst (.int 2)))) .nil))⟩ /- tops_at -/
def d49 : Df := ⟨4, 3, (.cons (.ex (.call 9 (.cons (.v 0) .nil))) (.cons (.ite (.or (.cons (.o1 .not (.o1 .isiT (.v 1))) (.cons (.o2 .ne (.o1 .len (.v 1)) (.cst (.int 2))) (.cons (.o1 .not (.o1 .all (.lc [3] (.n 3) (.over (.v 1)) (.call 0 (.cons (.v 3) (.cons (.cst (.int 1)) (.cons (.o2 .sub (.v 0) (.cst (.int 1))) .nil))))))) .nil)))) (.cons .never .nil) .nil) (.cons (.ite (.or (.cons (.o1 .not (.call 0 (.cons (.v 2) (.cons (.cst (.int 0)) (.cons (.o2 .mul (.cst (.int 2)) (.v 0)) .nil))))) (.cons (.o2 .notin (.v 2) (.call 48 (.cons (.v 0) (.cons (.v 1) .nil)))) .nil))) (.cons .never .nil) .nil) (.cons (.ret (.call 7 (.cons (.call 16 (.cons (.call 47 (.cons (.v 0) (.cons (.v 1) (.cons (.v 2) .nil)))) .nil)) .nil))) .nil))))⟩ /- key_with -/
def d50 : Df := ⟨9, 1, (.cons (.set 1 (.sh (.lst (.cons (.tup (.cons (.tup .nil) (.cons (.tup .nil) (.cons (.cst (.int 0)) .nil)))) .nil)))) (.cons (.for (.n 2) (.over (.v 0)) (.cons (.set 3 (.sh (.lst .nil))) (.cons (.for (.t (.cons (.n 4) (.cons (.n 5) (.cons (.n 6) .nil)))) (.over (.v 1)) (.cons (.set 3 (.sh (.o2 .add (.v 3) (.lc [7] (.n 7) (.over (.tup (.cons (.o1 .neg (.cst (.int 1))) (.cons (.cst (.int 0)) (.cons (.cst (.int 1)) .nil))))) (.tup (.cons (.o2 .add (.v 4) (.tup (.cons (.v 7) .nil))) (.cons (.o2 .add (.v 5) (.tup (.cons (.o2 .add (.v 2) (.v 7)) .nil))) (.cons (.o2 .add (.v 6) (.v 7)) .nil)))))))) .nil)) (.cons (.set 1 (.sh (.lci [8] (.n 8) (.over (.v 3)) (.and (.cons (.chain .le .le (.cst (.int 0)) (.o2 .ix (.o2 .ix (.v 8) (.cst (.int 1))) (.o1 .neg (.cst (.int 1)))) (.cst (.int 1))) (.cons (.chain .le .le (.cst (.int 0)) (.o2 .ix (.v 8) (.cst (.int 2))) (.cst (.int 1))) .nil))) (.v 8)))) .nil)))) (.cons (.ret (.o1 .sorted (.lci [4, 5, 6] (.t (.cons (.n 4) (.cons (.n 5) (.cons (.n 6) .nil)))) (.over (.v 1)) (.o2 .eq (.v 6) (.cst (.int 1))) (.tup (.cons (.v 4) (.cons (.v 5) .nil)))))) .nil)))⟩ /- lines_behind -/
def d51 : Df := ⟨7, 2, (.cons (.ite (.or (.cons (.o1 .not (.o1 .isiT (.v 1))) (.cons (.o2 .ne (.o1 .len (.v 1)) (.cst (.int 4))) (.cons (.o1 .not (.o1 .isiS (.o2 .ix (.v 1) (.cst (.int 0))))) .nil)))) (.cons (.ret (.cst (.bool false))) .nil) .nil) (.cons (.tgt (.t (.cons (.n 2) (.cons (.n 3) (.cons (.n 4) (.cons (.n 5) .nil))))) (.v 1)) (.cons (.set 6 (.sh (.o2 .sub (.v 0) (.cst (.int 1))))) (.cons (.ite (.o2 .eq (.v 2) (.cst (.str ⟨#[99, 101, 108, 108]⟩))) (.cons (.ret (.and (.cons (.call 0 (.cons (.v 3) (.cons (.cst (.int 0)) (.cons (.v 6) .nil)))) (.cons (.call 0 (.cons (.v 4) (.cons (.cst (.int 0)) (.cons (.v 6) .nil)))) (.cons (.call 0 (.cons (.v 5) (.cons (.o1 .neg (.cst (.int 1))) (.cons (.cst (.int 1)) .nil)))) .nil))))) .nil) .nil) (.cons (.ite (.o2 .eq (.v 2) (.cst (.str ⟨#[97, 108, 111, 110, 103]⟩))) (.cons (.ret (.and (.cons (.call 0 (.cons (.v 3) (.cons (.cst (.int 0)) (.cons (.v 6) .nil)))) (.cons (.call 0 (.cons (.v 4) (.cons (.cst (.int 0)) (.cons (.v 0) .nil)))) (.cons (.call 0 (.cons (.v 5) (.cons (.cst (.int 0)) (.cons (.cst (.int 1)) .nil)))) .nil))))) .nil) .nil) (.cons (.ite (.o2 .eq (.v 2) (.cst (.str ⟨#[100, 111, 119, 110]⟩))) (.cons (.ret (.and (.cons (.call 0 (.cons (.v 3) (.cons (.cst (.int 0)) (.cons (.v 0) .nil)))) (.cons (.call 0 (.cons (.v 4) (.cons (.cst (.int 0)) (.cons (.v 6) .nil)))) (.cons (.call 0 (.cons (.v 5) (.cons (.cst (.int 0)) (.cons (.cst (.int 1)) .nil)))) .nil))))) .nil) .nil) (.cons (.ite (.or (.cons (.o1 .not (.call 0 (.cons (.v 3) (.cons (.cst (.int 0)) (.cons (.v 0) .nil))))) (.cons (.o1 .not (.call 0 (.cons (.v 4) (.cons (.cst (.int 0)) (.cons (.v 0) .nil))))) .nil))) (.cons (.ret (.cst (.bool false))) .nil) .nil) (.cons (.ite (.o2 .eq (.v 2) (.cst (.str ⟨#[99, 111, 114, 110, 101, 114]⟩))) (.cons (.ret (.call 0 (.cons (.v 5) (.cons (.cst (.int 0)) (.cons (.cst (.int 12)) .nil))))) .nil) .nil) (.cons (.ret (.and (.cons (.o2 .isin (.v 2) (.tup (.cons (.cst (.str ⟨#[108, 101, 97, 115, 116]⟩)) (.cons (.cst (.str ⟨#[109, 111, 115, 116]⟩)) .nil)))) (.cons (.call 0 (.cons (.v 5) (.cons (.o1 .neg (.gc 7)) (.cons (.gc 7) .nil)))) .nil)))) .nil)))))))))⟩ /- fits_fact -/
def d52 : Df := ⟨3, 2, (.cons (.ret (.and (.cons (.o1 .isiT (.v 1)) (.cons (.o2 .le (.o1 .len (.v 1)) (.gc 4)) (.cons (.o1 .all (.lc [2] (.n 2) (.over (.v 1)) (.call 51 (.cons (.v 0) (.cons (.v 2) .nil))))) .nil))))) .nil)⟩ /- fit_facts -/
def d53 : Df := ⟨2, 2, (.cons (.ite (.o1 .not (.call 52 (.cons (.v 0) (.cons (.v 1) .nil)))) (.cons .never .nil) .nil) .nil)⟩ /- need_facts -/
def d54 : Df := ⟨7, 3, (.cons (.for (.t (.cons (.n 3) (.cons (.n 4) (.cons (.n 5) (.cons (.n 6) .nil))))) (.over (.v 2)) (.cons (.ite (.and (.cons (.o2 .eq (.v 3) (.cst (.str ⟨#[99, 101, 108, 108]⟩))) (.cons (.o2 .eq (.v 4) (.v 1)) (.cons (.o2 .ne (.o2 .ix (.v 0) (.v 5)) (.v 6)) .nil)))) (.cons (.ret (.cst (.bool false))) .nil) .nil) (.cons (.ite (.and (.cons (.o2 .eq (.v 3) (.cst (.str ⟨#[97, 108, 111, 110, 103]⟩))) (.cons (.o2 .eq (.v 4) (.v 1)) (.cons (.o2 .ne (.o1 .sum (.o2 .slTo (.v 0) (.v 5))) (.v 6)) .nil)))) (.cons (.ret (.cst (.bool false))) .nil) .nil) .nil))) (.cons (.ret (.cst (.bool true))) .nil))⟩ /- line_goes -/
def d55 : Df := ⟨9, 3, (.cons (.for (.t (.cons (.n 3) (.cons (.n 4) (.cons (.n 5) (.cons (.n 6) .nil))))) (.over (.v 2)) (.cons (.ite (.and (.cons (.o2 .eq (.v 4) (.v 1)) (.cons (.o2 .eq (.v 3) (.cst (.str ⟨#[100, 111, 119, 110]⟩))) (.cons (.o2 .ne (.o2 .ix (.v 0) (.v 5)) (.v 6)) .nil)))) (.cons (.ret (.cst (.bool false))) .nil) .nil) (.cons (.ite (.and (.cons (.o2 .eq (.v 4) (.v 1)) (.cons (.o2 .notin (.v 3) (.tup (.cons (.cst (.str ⟨#[99, 101, 108, 108]⟩)) (.cons (.cst (.str ⟨#[97, 108, 111, 110, 103]⟩)) (.cons (.cst (.str ⟨#[100, 111, 119, 110]⟩)) .nil))))) .nil))) (.cons (.set 7 (.sh (.o1 .sum (.o2 .slTo (.v 0) (.v 5))))) (.cons (.set 8 (.sh (.o2 .sub (.o2 .add (.v 4) (.v 5)) (.o2 .mul (.cst (.int 2)) (.v 7))))) (.cons (.ite (.or (.cons (.and (.cons (.o2 .eq (.v 3) (.cst (.str ⟨#[99, 111, 114, 110, 101, 114]⟩))) (.cons (.o2 .ne (.v 7) (.v 6)) .nil))) (.cons (.and (.cons (.o2 .eq (.v 3) (.cst (.str ⟨#[108, 101, 97, 115, 116]⟩))) (.cons (.o2 .lt (.v 8) (.v 6)) .nil))) .nil))) (.cons (.ret (.cst (.bool false))) .nil) .nil) (.cons (.ite (.and (.cons (.o2 .eq (.v 3) (.cst (.str ⟨#[109, 111, 115, 116]⟩))) (.cons (.o2 .gt (.v 8) (.v 6)) .nil))) (.cons (.ret (.cst (.bool false))) .nil) .nil) .nil)))) .nil) .nil))) (.cons (.ret (.cst (.bool true))) .nil))⟩ /- state_goes -/
def d56 : Df := ⟨11, 2, (.cons (.set 2 (.sh (.o2 .mul (.tup (.cons (.cst (.int 0)) .nil)) (.v 0)))) (.cons (.par [(3, (.sh (.lst .nil))), (4, (.sh (.ite (.call 55 (.cons (.v 2) (.cons (.cst (.int 0)) (.cons (.v 1) .nil)))) (.lst (.cons (.v 2) .nil)) (.lst .nil))))]) (.cons (.for (.n 5) (.rng1 (.v 0)) (.cons (.par [(6, .od), (7, .od)]) (.cons (.for (.n 8) (.over (.v 4)) (.cons (.put 6 (.v 8) (.lst .nil)) (.cons (.for (.t (.cons (.n 9) (.cons (.n 10) .nil))) (.over (.call 50 (.cons (.v 8) .nil))) (.cons (.ite (.and (.cons (.call 54 (.cons (.v 9) (.cons (.v 5) (.cons (.v 1) .nil)))) (.cons (.call 55 (.cons (.v 10) (.cons (.o2 .add (.v 5) (.cst (.int 1))) (.cons (.v 1) .nil)))) .nil))) (.cons (.put 6 (.v 8) (.o2 .add (.ixv 6 (.v 8)) (.lst (.cons (.tup (.cons (.v 9) (.cons (.v 10) .nil))) .nil)))) (.cons (.put 7 (.v 10) (.cst (.bool true))) .nil)) .nil) .nil)) .nil))) (.cons (.frz 6) (.cons (.frz 7) (.cons (.par [(3, (.sh (.o2 .add (.v 3) (.lst (.cons (.v 6) .nil))))), (4, (.sh (.o1 .sorted (.v 7))))]) .nil)))))) (.cons (.ret (.o2 .add (.v 3) (.lst (.cons (.o1 .dict (.lc [8] (.n 8) (.over (.v 4)) (.tup (.cons (.v 8) (.cons (.lst .nil) .nil))))) .nil)))) .nil))))⟩ /- told_web -/
def d57 : Df := ⟨7, 1, (.cons (.set 1 (.sh (.lst (.cons (.o1 .dict (.lc [2] (.n 2) (.over (.o2 .ix (.v 0) (.o1 .neg (.cst (.int 1))))) (.tup (.cons (.v 2) (.cons (.cst (.int 1)) .nil))))) .nil)))) (.cons (.for (.n 3) (.over (.o1 .rev (.o2 .slTo (.v 0) (.o1 .neg (.cst (.int 1)))))) (.cons (.set 4 .od) (.cons (.for (.n 2) (.over (.v 3)) (.cons (.put 4 (.v 2) (.o1 .sum (.lc [5, 6] (.t (.cons (.n 5) (.cons (.n 6) .nil))) (.over (.o2 .ix (.v 3) (.v 2))) (.o2 .ix (.o2 .ix (.v 1) (.cst (.int 0))) (.v 6))))) .nil)) (.cons (.frz 4) (.cons (.set 1 (.sh (.o2 .add (.lst (.cons (.v 4) .nil)) (.v 1)))) .nil))))) (.cons (.ret (.v 1)) .nil)))⟩ /- told_counts -/
def d58 : Df := ⟨4, 2, (.cons (.ret (.o1 .sum (.lc [2, 3] (.t (.cons (.n 2) (.cons (.n 3) .nil))) (.items (.o2 .ix (.call 57 (.cons (.call 56 (.cons (.v 0) (.cons (.v 1) .nil))) .nil)) (.cst (.int 0)))) (.v 3)))) .nil)⟩ /- told_many -/
def d59 : Df := ⟨13, 3, (.cons (.set 3 (.sh (.call 56 (.cons (.v 0) (.cons (.v 1) .nil))))) (.cons (.par [(4, (.sh (.call 57 (.cons (.v 3) .nil)))), (5, (.sh (.o2 .mul (.tup (.cons (.cst (.int 0)) .nil)) (.v 0)))), (6, (.sh (.tup .nil)))]) (.cons (.for (.n 7) (.rng1 (.v 0)) (.cons (.par [(8, (.sh (.v 2))), (9, (.sh (.cst .none)))]) (.cons (.for (.t (.cons (.n 10) (.cons (.n 11) .nil))) (.over (.o2 .ix (.o2 .ix (.v 3) (.v 7)) (.v 5))) (.cons (.set 12 (.sh (.o2 .ix (.o2 .ix (.v 4) (.o2 .add (.v 7) (.cst (.int 1)))) (.v 11)))) (.cons (.ite (.and (.cons (.o1 .isN (.v 9)) (.cons (.o2 .lt (.v 8) (.v 12)) .nil))) (.cons (.par [(9, (.sh (.tup (.cons (.v 10) (.cons (.v 11) .nil))))), (2, (.sh (.v 8)))]) .nil) .nil) (.cons (.set 8 (.sh (.o2 .sub (.v 8) (.v 12)))) .nil)))) (.cons (.par [(6, (.sh (.o2 .add (.v 6) (.tup (.cons (.o2 .ix (.v 9) (.cst (.int 0))) .nil))))), (5, (.sh (.o2 .ix (.v 9) (.cst (.int 1)))))]) .nil)))) (.cons (.ret (.v 6)) .nil))))⟩ /- told_at -/
def d60 : Df := ⟨12, 2, (.cons (.set 2 (.sh (.call 56 (.cons (.v 0) (.cons (.v 1) .nil))))) (.cons (.set 3 (.sh (.call 57 (.cons (.v 2) .nil)))) (.cons (.set 4 (.sh (.lc [5] (.n 5) (.over (.o2 .ix (.v 2) (.cst (.int 0)))) (.tup (.cons (.tup .nil) (.cons (.v 5) .nil)))))) (.cons (.for (.n 6) (.rng1 (.v 0)) (.cons (.set 7 (.sh (.lst .nil))) (.cons (.for (.t (.cons (.n 8) (.cons (.n 5) .nil))) (.over (.v 4)) (.cons (.set 9 (.sh (.lci [10, 11] (.t (.cons (.n 10) (.cons (.n 11) .nil))) (.over (.o2 .ix (.o2 .ix (.v 2) (.v 6)) (.v 5))) (.o2 .gt (.o2 .ix (.o2 .ix (.v 3) (.o2 .add (.v 6) (.cst (.int 1)))) (.v 11)) (.cst (.int 0))) (.tup (.cons (.v 10) (.cons (.v 11) .nil)))))) (.cons (.set 7 (.sh (.o2 .add (.v 7) (.lc [10, 11] (.t (.cons (.n 10) (.cons (.n 11) .nil))) (.over (.v 9)) (.tup (.cons (.o2 .add (.v 8) (.tup (.cons (.v 10) .nil))) (.cons (.v 11) .nil))))))) .nil))) (.cons (.set 4 (.sh (.v 7))) .nil)))) (.cons (.ret (.lc [8, 5] (.t (.cons (.n 8) (.cons (.n 5) .nil))) (.over (.v 4)) (.v 8))) .nil)))))⟩ /- told_list -/
def d61 : Df := ⟨7, 2, (.cons (.set 2 (.sh (.o2 .mul (.tup (.cons (.cst (.int 0)) .nil)) (.o1 .len (.v 0))))) (.cons (.ite (.o1 .not (.call 55 (.cons (.v 2) (.cons (.cst (.int 0)) (.cons (.v 1) .nil))))) (.cons (.ret (.cst (.bool false))) .nil) .nil) (.cons (.for (.t (.cons (.n 3) (.cons (.n 4) .nil))) (.enum (.v 0)) (.cons (.set 2 (.sh (.o1 .tup (.lc [5, 6] (.t (.cons (.n 5) (.cons (.n 6) .nil))) (.zip (.v 2) (.v 4)) (.o2 .add (.v 5) (.v 6)))))) (.cons (.ite (.or (.cons (.o1 .not (.call 54 (.cons (.v 4) (.cons (.v 3) (.cons (.v 1) .nil))))) (.cons (.o1 .not (.call 55 (.cons (.v 2) (.cons (.o2 .add (.v 3) (.cst (.int 1))) (.cons (.v 1) .nil))))) .nil))) (.cons (.ret (.cst (.bool false))) .nil) .nil) .nil))) (.cons (.ret (.cst (.bool true))) .nil))))⟩ /- does_go -/
def d62 : Df := ⟨3, 3, (.cons (.ex (.call 9 (.cons (.v 0) .nil))) (.cons (.ex (.call 53 (.cons (.v 0) (.cons (.v 1) .nil)))) (.cons (.ex (.call 12 (.cons (.v 0) (.cons (.v 2) .nil)))) .nil)))⟩ /- need_told -/
def d63 : Df := ⟨2, 2, (.cons (.ex (.call 62 (.cons (.v 0) (.cons (.v 1) (.cons (.gc 5) .nil))))) (.cons (.ret (.call 58 (.cons (.v 0) (.cons (.v 1) .nil)))) .nil))⟩ /- count_told -/
def d64 : Df := ⟨2, 2, (.cons (.ex (.call 62 (.cons (.v 0) (.cons (.v 1) (.cons (.gc 5) .nil))))) (.cons (.ret (.ite (.o2 .gt (.call 58 (.cons (.v 0) (.cons (.v 1) .nil))) (.cst (.int 0))) (.call 59 (.cons (.v 0) (.cons (.v 1) (.cons (.cst (.int 0)) .nil)))) (.cst .none))) .nil))⟩ /- first_told -/
def d65 : Df := ⟨3, 2, (.cons (.ex (.call 62 (.cons (.v 0) (.cons (.v 1) (.cons (.gc 5) .nil))))) (.cons (.set 2 (.sh (.call 58 (.cons (.v 0) (.cons (.v 1) .nil))))) (.cons (.ret (.ite (.o2 .gt (.v 2) (.cst (.int 0))) (.call 59 (.cons (.v 0) (.cons (.v 1) (.cons (.o2 .sub (.v 2) (.cst (.int 1))) .nil)))) (.cst .none))) .nil)))⟩ /- last_told -/
def d66 : Df := ⟨2, 2, (.cons (.ex (.call 62 (.cons (.v 0) (.cons (.v 1) (.cons (.gc 6) .nil))))) (.cons (.ret (.call 60 (.cons (.v 0) (.cons (.v 1) .nil)))) .nil))⟩ /- squares_told -/
def d67 : Df := ⟨13, 2, (.cons (.set 2 (.sh (.call 56 (.cons (.v 0) (.cons (.v 1) .nil))))) (.cons (.par [(3, (.sh (.call 57 (.cons (.v 2) .nil)))), (4, (.sh (.lst .nil))), (5, (.sh (.dsp (.o2 .mul (.tup (.cons (.cst (.int 0)) .nil)) (.v 0)) (.cst (.bool true)))))]) (.cons (.for (.n 6) (.rng1 (.v 0)) (.cons (.par [(7, (.sh (.lst .nil))), (8, .od)]) (.cons (.for (.n 9) (.over (.lci [10] (.n 10) (.over (.o2 .ix (.v 2) (.v 6))) (.o2 .isin (.v 10) (.v 5)) (.v 10))) (.cons (.for (.t (.cons (.n 11) (.cons (.n 12) .nil))) (.over (.o2 .ix (.o2 .ix (.v 2) (.v 6)) (.v 9))) (.cons (.ite (.o2 .gt (.o2 .ix (.o2 .ix (.v 3) (.o2 .add (.v 6) (.cst (.int 1)))) (.v 12)) (.cst (.int 0))) (.cons (.set 7 (.sh (.o2 .add (.v 7) (.lst (.cons (.v 11) .nil))))) (.cons (.put 8 (.v 12) (.cst (.bool true))) .nil)) .nil) .nil)) .nil)) (.cons (.frz 8) (.cons (.par [(4, (.sh (.o2 .add (.v 4) (.lst (.cons (.v 7) .nil))))), (5, (.sh (.v 8)))]) .nil))))) (.cons (.ret (.v 4)) .nil))))⟩ /- living_lines -/
def d68 : Df := ⟨6, 2, (.cons (.set 2 (.sh (.call 56 (.cons (.v 0) (.cons (.v 1) .nil))))) (.cons (.set 3 (.sh (.call 57 (.cons (.v 2) .nil)))) (.cons (.ret (.lc [5] (.n 5) (.over (.v 3)) (.lci [4] (.n 4) (.over (.v 5)) (.o2 .gt (.o2 .ix (.v 5) (.v 4)) (.cst (.int 0))) (.v 4)))) .nil)))⟩ /- living_sums -/
def d69 : Df := ⟨8, 2, (.cons (.set 2 (.sh (.lst .nil))) (.cons (.for (.n 3) (.over (.call 67 (.cons (.v 0) (.cons (.v 1) .nil)))) (.cons (.set 4 (.sh (.tup .nil))) (.cons (.for (.n 5) (.rng1 (.v 0)) (.cons (.set 6 (.sh (.o1 .sortedSet (.lc [7] (.n 7) (.over (.v 3)) (.o2 .ix (.v 7) (.v 5)))))) (.cons (.set 4 (.sh (.o2 .add (.v 4) (.tup (.cons (.ite (.o2 .eq (.o1 .len (.v 6)) (.cst (.int 1))) (.o2 .ix (.v 6) (.cst (.int 0))) (.cst .none)) .nil))))) .nil))) (.cons (.set 2 (.sh (.o2 .add (.v 2) (.lst (.cons (.v 4) .nil))))) .nil)))) (.cons (.ret (.o1 .tup (.v 2))) .nil)))⟩ /- sure_in -/
def d70 : Df := ⟨11, 2, (.cons (.par [(2, (.sh (.tup .nil))), (3, (.sh (.tup .nil)))]) (.cons (.for (.t (.cons (.n 4) (.cons (.n 5) .nil))) (.enum (.call 68 (.cons (.v 0) (.cons (.v 1) .nil)))) (.cons (.par [(6, (.sh (.tup .nil))), (7, (.sh (.tup .nil)))]) (.cons (.for (.n 8) (.rng1 (.o2 .add (.v 0) (.cst (.int 1)))) (.cons (.set 9 (.sh (.lc [10] (.n 10) (.over (.v 5)) (.o2 .sub (.o2 .add (.v 4) (.v 8)) (.o2 .mul (.cst (.int 2)) (.o1 .sum (.o2 .slTo (.v 10) (.v 8)))))))) (.cons (.par [(6, (.sh (.o2 .add (.v 6) (.tup (.cons (.o1 .min (.v 9)) .nil))))), (7, (.sh (.o2 .add (.v 7) (.tup (.cons (.o1 .max (.v 9)) .nil)))))]) .nil))) (.cons (.par [(2, (.sh (.o2 .add (.v 2) (.tup (.cons (.v 6) .nil))))), (3, (.sh (.o2 .add (.v 3) (.tup (.cons (.v 7) .nil)))))]) .nil)))) (.cons (.ret (.tup (.cons (.v 2) (.cons (.v 3) .nil)))) .nil)))⟩ /- extremes_of -/
def d71 : Df := ⟨3, 2, (.cons (.ite (.o1 .not (.call 18 (.cons (.v 0) .nil))) (.cons (.ret (.cst .none)) .nil) .nil) (.cons (.set 2 (.sh (.call 16 (.cons (.v 0) .nil)))) (.cons (.ret (.ite (.call 61 (.cons (.v 2) (.cons (.v 1) .nil))) (.v 2) (.cst .none))) .nil)))⟩ /- square_if -/
def d72 : Df := ⟨2, 2, (.cons (.ex (.call 62 (.cons (.v 0) (.cons (.v 1) (.cons (.gc 8) .nil))))) (.cons (.ret (.ite (.o2 .gt (.call 58 (.cons (.v 0) (.cons (.v 1) .nil))) (.cst (.int 0))) (.call 69 (.cons (.v 0) (.cons (.v 1) .nil))) (.cst .none))) .nil))⟩ /- sure_cells -/
def d73 : Df := ⟨2, 2, (.cons (.ex (.call 62 (.cons (.v 0) (.cons (.v 1) (.cons (.gc 8) .nil))))) (.cons (.ret (.ite (.o2 .gt (.call 58 (.cons (.v 0) (.cons (.v 1) .nil))) (.cst (.int 0))) (.call 70 (.cons (.v 0) (.cons (.v 1) .nil))) (.cst .none))) .nil))⟩ /- height_bounds -/
def d74 : Df := ⟨2, 2, (.cons (.ex (.call 62 (.cons (.v 0) (.cons (.v 1) (.cons (.gc 8) .nil))))) (.cons (.ret (.ite (.o2 .gt (.call 58 (.cons (.v 0) (.cons (.v 1) .nil))) (.cst (.int 0))) (.call 71 (.cons (.o2 .ix (.call 70 (.cons (.v 0) (.cons (.v 1) .nil))) (.cst (.int 0))) (.cons (.v 1) .nil))) (.cst .none))) .nil))⟩ /- least_told -/
def d75 : Df := ⟨2, 2, (.cons (.ex (.call 62 (.cons (.v 0) (.cons (.v 1) (.cons (.gc 8) .nil))))) (.cons (.ret (.ite (.o2 .gt (.call 58 (.cons (.v 0) (.cons (.v 1) .nil))) (.cst (.int 0))) (.call 71 (.cons (.o2 .ix (.call 70 (.cons (.v 0) (.cons (.v 1) .nil))) (.cst (.int 1))) (.cons (.v 1) .nil))) (.cst .none))) .nil))⟩ /- greatest_told -/
def d76 : Df := ⟨7, 1, (.cons (.set 1 (.sh (.lst (.cons (.tup (.cons (.tup .nil) (.cons (.cst (.int 0)) .nil))) .nil)))) (.cons (.for (.n 2) (.over (.v 0)) (.cons (.set 3 (.ol .nil)) (.cons (.for (.t (.cons (.n 4) (.cons (.n 5) .nil))) (.over (.v 1)) (.cons (.for (.n 6) (.over (.tup (.cons (.o1 .neg (.cst (.int 1))) (.cons (.cst (.int 0)) (.cons (.cst (.int 1)) .nil))))) (.cons (.ite (.and (.cons (.chain .le .le (.cst (.int 0)) (.o2 .add (.v 2) (.v 6)) (.cst (.int 1))) (.cons (.chain .le .le (.cst (.int 0)) (.o2 .add (.v 5) (.v 6)) (.cst (.int 1))) .nil))) (.cons (.app 3 (.tup (.cons (.o2 .add (.v 4) (.tup (.cons (.v 6) .nil))) (.cons (.o2 .add (.v 5) (.v 6)) .nil)))) .nil) .nil) .nil)) .nil)) (.cons (.frz 3) (.cons (.set 1 (.sh (.v 3))) .nil))))) (.cons (.ret (.o1 .sorted (.lci [4, 5] (.t (.cons (.n 4) (.cons (.n 5) .nil))) (.over (.v 1)) (.o2 .eq (.v 5) (.cst (.int 1))) (.v 4)))) .nil)))⟩ /- _law_rows -/
def d77 : Df := ⟨4, 2, (.cons (.ret (.o1 .tup (.lc [2, 3] (.t (.cons (.n 2) (.cons (.n 3) .nil))) (.zip (.v 0) (.v 1)) (.o2 .add (.v 2) (.v 3))))) .nil)⟩ /- _law_more -/
def d78 : Df := ⟨7, 1, (.cons (.set 1 (.sh (.lst (.cons (.tup (.cons (.tup .nil) (.cons (.o2 .mul (.tup (.cons (.cst (.int 0)) .nil)) (.v 0)) .nil))) .nil)))) (.cons (.for (.n 2) (.rng1 (.v 0)) (.cons (.set 3 (.sh (.lst .nil))) (.cons (.for (.t (.cons (.n 4) (.cons (.n 5) .nil))) (.over (.v 1)) (.cons (.set 3 (.sh (.o2 .add (.v 3) (.lc [6] (.n 6) (.over (.call 76 (.cons (.v 5) .nil))) (.tup (.cons (.o2 .add (.v 4) (.tup (.cons (.v 6) .nil))) (.cons (.call 77 (.cons (.v 5) (.cons (.v 6) .nil))) .nil))))))) .nil)) (.cons (.set 1 (.sh (.v 3))) .nil)))) (.cons (.ret (.lc [4, 5] (.t (.cons (.n 4) (.cons (.n 5) .nil))) (.over (.v 1)) (.v 4))) .nil)))⟩ /- _law_all -/
def d79 : Df := ⟨6, 1, (.cons (.set 1 (.ol .nil)) (.cons (.for (.n 2) (.rng1 (.o2 .add (.o1 .len (.v 0)) (.cst (.int 1)))) (.cons (.set 3 (.ol .nil)) (.cons (.for (.n 4) (.rng1 (.o2 .add (.o1 .len (.v 0)) (.cst (.int 1)))) (.cons (.app 3 (.o2 .sub (.o2 .add (.v 2) (.v 4)) (.o2 .mul (.cst (.int 2)) (.o1 .sum (.lc [5] (.n 5) (.over (.o2 .slTo (.v 0) (.v 2))) (.o1 .sum (.o2 .slTo (.v 5) (.v 4)))))))) .nil)) (.cons (.frz 3) (.cons (.app 1 (.o1 .tup (.v 3))) .nil))))) (.cons (.frz 1) (.cons (.ret (.o1 .tup (.v 1))) .nil))))⟩ /- _law_heights -/
def d80 : Df := ⟨8, 2, (.cons (.par [(2, (.sh (.call 79 (.cons (.v 0) .nil)))), (3, (.sh (.call 79 (.cons (.v 1) .nil))))]) (.cons (.ret (.o2 .eq (.lci [4, 5] (.t (.cons (.n 4) (.cons (.n 5) .nil))) (.zip (.v 2) (.v 3)) (.o2 .ne (.lci [6, 7] (.t (.cons (.n 6) (.cons (.n 7) .nil))) (.zip (.v 4) (.v 5)) (.o2 .gt (.v 6) (.v 7)) (.cst (.int 1))) (.lst .nil)) (.cst (.int 1))) (.lst .nil))) .nil))⟩ /- _law_below -/
def d81 : Df := ⟨6, 2, (.cons (.par [(2, (.sh (.call 79 (.cons (.v 0) .nil)))), (3, (.sh (.tup .nil)))]) (.cons (.for (.n 4) (.rng2 (.cst (.int 1)) (.o1 .len (.v 0))) (.cons (.set 3 (.sh (.o2 .add (.v 3) (.o1 .tup (.lc [5] (.n 5) (.rng2 (.cst (.int 1)) (.o1 .len (.v 0))) (.tup (.cons (.v 1) (.cons (.v 4) (.cons (.v 5) (.cons (.o2 .ix (.o2 .ix (.v 2) (.v 4)) (.v 5)) .nil)))))))))) .nil)) (.cons (.ret (.v 3)) .nil)))⟩ /- _law_facts -/
def d82 : Df := ⟨4, 1, (.cons (.par [(1, (.sh (.o2 .ix (.v 0) (.cst (.int 0))))), (2, (.sh (.o2 .ix (.v 0) (.cst (.int 0)))))]) (.cons (.for (.n 3) (.over (.o2 .slFrom (.v 0) (.cst (.int 1)))) (.cons (.par [(1, (.sh (.call 44 (.cons (.v 1) (.cons (.v 3) .nil))))), (2, (.sh (.call 45 (.cons (.v 2) (.cons (.v 3) .nil)))))]) .nil)) (.cons (.ret (.tup (.cons (.v 1) (.cons (.v 2) .nil)))) .nil)))⟩ /- _law_ends -/
def d83 : Df := ⟨11, 3, (.cons (.ite (.or (.cons (.o2 .ne (.call 66 (.cons (.v 0) (.cons (.v 1) .nil))) (.v 2)) (.cons (.o2 .ne (.call 63 (.cons (.v 0) (.cons (.v 1) .nil))) (.o1 .len (.v 2))) .nil))) (.cons (.ret (.cst (.bool false))) .nil) .nil) (.cons (.ite (.o2 .eq (.v 2) (.lst .nil)) (.cons (.ret (.and (.cons (.o1 .isN (.call 72 (.cons (.v 0) (.cons (.v 1) .nil)))) (.cons (.o1 .isN (.call 73 (.cons (.v 0) (.cons (.v 1) .nil)))) (.cons (.o1 .isN (.call 74 (.cons (.v 0) (.cons (.v 1) .nil)))) .nil))))) .nil) .nil) (.cons (.ite (.o2 .ne (.lst (.cons (.call 64 (.cons (.v 0) (.cons (.v 1) .nil))) (.cons (.call 65 (.cons (.v 0) (.cons (.v 1) .nil))) .nil))) (.lst (.cons (.o2 .ix (.v 2) (.cst (.int 0))) (.cons (.o2 .ix (.v 2) (.o1 .neg (.cst (.int 1)))) .nil)))) (.cons (.ret (.cst (.bool false))) .nil) .nil) (.cons (.tgt (.t (.cons (.n 3) (.cons (.n 4) .nil))) (.call 82 (.cons (.v 2) .nil))) (.cons (.ite (.o2 .ne (.call 73 (.cons (.v 0) (.cons (.v 1) .nil))) (.tup (.cons (.call 22 (.cons (.v 3) .nil)) (.cons (.call 22 (.cons (.v 4) .nil)) .nil)))) (.cons (.ret (.cst (.bool false))) .nil) .nil) (.cons (.ite (.or (.cons (.o2 .ne (.call 74 (.cons (.v 0) (.cons (.v 1) .nil))) (.ite (.o2 .isin (.v 3) (.v 2)) (.v 3) (.cst .none))) (.cons (.o2 .ne (.call 75 (.cons (.v 0) (.cons (.v 1) .nil))) (.ite (.o2 .isin (.v 4) (.v 2)) (.v 4) (.cst .none))) .nil))) (.cons (.ret (.cst (.bool false))) .nil) .nil) (.cons (.for (.t (.cons (.n 5) (.cons (.n 6) .nil))) (.enum (.call 72 (.cons (.v 0) (.cons (.v 1) .nil)))) (.cons (.for (.t (.cons (.n 7) (.cons (.n 8) .nil))) (.enum (.v 6)) (.cons (.set 9 (.sh (.o1 .sortedSet (.lc [10] (.n 10) (.over (.v 2)) (.o2 .ix (.o2 .ix (.v 10) (.v 5)) (.v 7)))))) (.cons (.ite (.o2 .ne (.v 8) (.ite (.o2 .eq (.o1 .len (.v 9)) (.cst (.int 1))) (.o2 .ix (.v 9) (.cst (.int 0))) (.cst .none))) (.cons (.ret (.cst (.bool false))) .nil) .nil) .nil))) .nil)) (.cons (.ret (.cst (.bool true))) .nil))))))))⟩ /- _law_told_right -/
def d84 : Df := ⟨12, 3, (.cons (.tgt (.t (.cons (.n 3) (.cons (.t (.cons (.n 4) (.cons (.n 5) .nil))) .nil))) (.tup (.cons (.o1 .len (.v 1)) (.cons (.v 2) .nil)))) (.cons (.set 6 (.sh (.o2 .ix (.o2 .ix (.call 22 (.cons (.v 1) .nil)) (.v 4)) (.v 5)))) (.cons (.set 7 (.sh (.lci [8] (.n 8) (.over (.v 0)) (.o2 .ge (.o2 .ix (.o2 .ix (.call 22 (.cons (.v 8) .nil)) (.v 4)) (.v 5)) (.v 6)) (.v 8)))) (.cons (.set 9 (.sh (.call 36 (.cons (.v 3) (.cons (.tup (.cons (.tup (.cons (.v 4) (.cons (.v 5) (.cons (.v 6) .nil)))) .nil)) .nil))))) (.cons (.ite (.or (.cons (.o2 .notin (.v 9) (.v 7)) (.cons (.o2 .ne (.lci [8] (.n 8) (.over (.v 7)) (.o1 .not (.call 43 (.cons (.v 9) (.cons (.v 8) .nil)))) (.v 8)) (.lst .nil)) .nil))) (.cons (.ret (.cst (.bool false))) .nil) .nil) (.cons (.ite (.o2 .ne (.v 9) (.ite (.o2 .gt (.v 6) (.o1 .abs (.o2 .sub (.v 4) (.v 5)))) (.call 13 (.cons (.call 49 (.cons (.v 3) (.cons (.v 2) (.cons (.v 6) .nil)))) .nil)) (.call 14 (.cons (.v 3) .nil)))) (.cons (.ret (.cst (.bool false))) .nil) .nil) (.cons (.set 10 (.sh (.call 37 (.cons (.v 3) (.cons (.tup (.cons (.tup (.cons (.v 4) (.cons (.v 5) (.cons (.v 6) .nil)))) .nil)) .nil))))) (.cons (.set 11 (.sh (.lci [8] (.n 8) (.over (.v 0)) (.o2 .le (.o2 .ix (.o2 .ix (.call 22 (.cons (.v 8) .nil)) (.v 4)) (.v 5)) (.v 6)) (.v 8)))) (.cons (.ite (.or (.cons (.o2 .notin (.v 10) (.v 11)) (.cons (.o2 .ne (.lci [8] (.n 8) (.over (.v 11)) (.o1 .not (.call 43 (.cons (.v 8) (.cons (.v 10) .nil)))) (.v 8)) (.lst .nil)) .nil))) (.cons (.ret (.cst (.bool false))) .nil) .nil) (.cons (.ret (.and (.cons (.call 38 (.cons (.v 3) (.cons (.tup (.cons (.tup (.cons (.v 4) (.cons (.v 5) (.cons (.v 6) .nil)))) .nil)) (.cons (.tup (.cons (.tup (.cons (.v 4) (.cons (.v 5) (.cons (.v 6) .nil)))) .nil)) .nil)))) (.cons (.o1 .not (.call 38 (.cons (.v 3) (.cons (.tup (.cons (.tup (.cons (.v 4) (.cons (.v 5) (.cons (.o2 .add (.v 6) (.cst (.int 2))) .nil)))) .nil)) (.cons (.tup (.cons (.tup (.cons (.v 4) (.cons (.v 5) (.cons (.v 6) .nil)))) .nil)) .nil))))) .nil)))) .nil))))))))))⟩ /- _law_bounds_right -/
def tabL : List Df := [d0, d1, d2, d3, d4, d5, d6, d7, d8, d9, d10, d11, d12, d13, d14, d15, d16, d17, d18, d19, d20, d21, d22, d23, d24, d25, d26, d27, d28, d29, d30, d31, d32, d33, d34, d35, d36, d37, d38, d39, d40, d41, d42, d43, d44, d45, d46, d47, d48, d49, d50, d51, d52, d53, d54, d55, d56, d57, d58, d59, d60, d61, d62, d63, d64, d65, d66, d67, d68, d69, d70, d71, d72, d73, d74, d75, d76, d77, d78, d79, d80, d81, d82, d83, d84]
def gcL : List (String × Int) := [("SIDES", 12), ("BOUNDS", 40), ("FAR_bounded", 40), ("BETWEEN", 4), ("FACTS", 40), ("WIDE", 8), ("SHOWN", 5), ("FAR_factlists", 40), ("SURE", 7)]
def nmL : List String := ["is_whole", "turns_well", "fits_line", "columns_of", "fits_square", "fits_order", "square_of", "order_of", "need_square", "need_sides", "need_order", "need_two", "need_few", "order_square", "unit_square", "heights_of", "square_from", "fits_table", "fits_heights", "neighbours_of", "points_by", "with_height", "heights", "fit_bounds", "need_bounds", "floor_at", "ceiling_at", "lifted", "pressed", "bound_steps", "low_table", "high_table", "too_high", "too_low", "clash_of", "need_both_bounds", "least_above", "greatest_under", "bounds_go", "paper_by", "by_points", "ups_within", "layers_between", "is_below", "meet", "join", "squares_between", "key_table", "tops_at", "key_with", "lines_behind", "fits_fact", "fit_facts", "need_facts", "line_goes", "state_goes", "told_web", "told_counts", "told_many", "told_at", "told_list", "does_go", "need_told", "count_told", "first_told", "last_told", "squares_told", "living_lines", "living_sums", "sure_in", "extremes_of", "square_if", "sure_cells", "height_bounds", "least_told", "greatest_told", "_law_rows", "_law_more", "_law_all", "_law_heights", "_law_below", "_law_facts", "_law_ends", "_law_told_right", "_law_bounds_right"]
def slL : List (List String) := [["value", "low", "high"],
  ["line", "total", "one"],
  ["value", "sides", "one"],
  ["square", "line", "at"],
  ["value", "line"],
  ["value", "one"],
  ["order", "at", "one"],
  ["square", "line"],
  ["value"],
  ["value"],
  ["value"],
  ["one", "other"],
  ["many", "limit"],
  ["order"],
  ["sides"],
  ["square", "sides", "sums", "found", "row", "line", "total", "later", "column", "one"],
  ["table", "sides", "found", "row", "above", "below", "some", "at", "one"],
  ["value", "line", "one"],
  ["value", "square"],
  ["table", "row", "column"],
  ["table", "step", "found", "row", "column"],
  ["table", "point", "step", "row", "column", "line"],
  ["square"],
  ["sides", "value", "bound", "one"],
  ["sides", "value"],
  ["row", "column"],
  ["sides", "row", "column"],
  ["bound", "row", "column", "height"],
  ["sides", "bound", "row", "column", "height"],
  ["bound", "row", "column"],
  ["sides", "bounds", "found", "row", "line", "column", "some", "bound"],
  ["sides", "bounds", "found", "row", "line", "column", "some", "bound"],
  ["sides", "bound"],
  ["sides", "bound"],
  ["sides", "lows", "highs", "at", "bound", "low", "spot", "high"],
  ["sides", "lows", "highs"],
  ["sides", "bounds", "bound"],
  ["sides", "bounds", "bound"],
  ["sides", "lows", "highs"],
  ["one", "other", "row", "line", "some", "column", "height"],
  ["one", "other", "pick", "found", "line", "there", "mine", "yours"],
  ["table", "top", "point"],
  ["table", "top", "found", "later", "here", "many", "point", "there"],
  ["one", "other"],
  ["one", "other"],
  ["one", "other"],
  ["one", "other", "table", "top", "found", "layer", "here"],
  ["sides", "point", "height", "row", "column", "found", "here", "line", "at"],
  ["sides", "point", "row", "column"],
  ["sides", "point", "height", "one"],
  ["state", "found", "one", "longer", "line", "later", "total", "sign", "way"],
  ["sides", "value", "word", "row", "column", "number", "last"],
  ["sides", "value", "fact"],
  ["sides", "value"],
  ["line", "at", "facts", "word", "row", "column", "number"],
  ["state", "at", "facts", "word", "row", "column", "number", "total", "height"],
  ["sides", "facts", "start", "levels", "states", "at", "level", "later", "state", "line", "there"],
  ["levels", "counts", "state", "level", "here", "line", "there"],
  ["sides", "facts", "state", "much"],
  ["sides", "facts", "number", "levels", "counts", "state", "square", "at", "spot", "chosen", "line", "there", "much"],
  ["sides", "facts", "levels", "counts", "found", "state", "at", "longer", "square", "some", "line", "there"],
  ["square", "facts", "state", "at", "line", "one", "sign"],
  ["sides", "facts", "limit"],
  ["sides", "facts"],
  ["sides", "facts"],
  ["sides", "facts", "many"],
  ["sides", "facts"],
  ["sides", "facts", "levels", "counts", "found", "states", "at", "lines", "later", "state", "one", "line", "there"],
  ["sides", "facts", "levels", "counts", "state", "count"],
  ["sides", "facts", "found", "lines", "line", "column", "some", "one"],
  ["sides", "facts", "low", "high", "row", "states", "least", "most", "column", "some", "state"],
  ["table", "facts", "square"],
  ["sides", "facts"],
  ["sides", "facts"],
  ["sides", "facts"],
  ["sides", "facts"],
  ["_law_state", "_law_found", "_law_one", "_law_longer", "_law_line", "_law_total", "_law_sign"],
  ["_law_state", "_law_line", "_law_one", "_law_sign"],
  ["_law_sides", "_law_found", "_law_turn", "_law_longer", "_law_some_here", "_law_state", "_law_line"],
  ["_law_square", "_law_found", "_law_row", "_law_line", "_law_column", "_law_some_here"],
  ["_law_one", "_law_other", "_law_mine", "_law_yours", "_law_line", "_law_there", "_law_a", "_law_b"],
  ["_law_square", "_law_word", "_law_table", "_law_found", "_law_row", "_law_column"],
  ["_law_some_here", "_law_low", "_law_high", "_law_square"],
  ["_law_sides", "_law_facts_here", "_law_some_here", "_law_low", "_law_high", "_law_row", "_law_line", "_law_column", "_law_sign", "_law_signs", "_law_square"],
  ["_law_every", "_law_one", "_law_point", "_law_sides", "_law_row", "_law_column", "_law_height", "_law_some_here", "_law_square", "_law_least", "_law_most", "_law_other"]]
def atL : List Nat := [13, 14, 15, 16, 17, 18, 19, 20, 21, 22, 23, 24, 25, 26, 27, 29, 30, 31, 32, 33, 34, 35, 36, 40, 41, 42, 43, 44, 45, 46, 47, 48, 49, 50, 51, 52, 53, 54, 55, 58, 59, 60, 61, 62, 63, 64, 65, 67, 68, 69, 71, 77, 78, 79, 80, 81, 82, 83, 84, 85, 86, 87, 88, 89, 90, 91, 92, 95, 96, 97, 98, 99, 100, 101, 102, 103, 108, 109, 110, 111, 112, 113, 114, 115, 116]

def gcv (i : Nat) : Option Int := (gcL[i]?).map (·.2)
def tab (i : Nat) : Option Df := tabL[i]?
end Sq
end

section
set_option Elab.async false
set_option linter.all false
set_option maxRecDepth 100000
/-! the fragment held against the text -/
namespace Sq
open PySem L2

/-! ### pieces of the text -/
def dName : Expr → Option Str
  | .Name x _ => some x
  | _ => none
def dCon : Expr → Option Const
  | .Constant c _ _ => some c
  | _ => none
def dUn : Expr → Option (UnaryOp × Expr)
  | .UnaryOp op a _ => some (op, a)
  | _ => none
def dBin : Expr → Option (Expr × Operator × Expr)
  | .BinOp a op b _ => some (a, op, b)
  | _ => none
def dBool : Expr → Option (BoolOp × List Expr)
  | .BoolOp op es _ => some (op, es)
  | _ => none
def dCmp : Expr → Option (Expr × List CmpOp × List Expr)
  | .Compare a ops es _ => some (a, ops, es)
  | _ => none
def dIf : Expr → Option (Expr × Expr × Expr)
  | .IfExp c a b _ => some (c, a, b)
  | _ => none
def dTup : Expr → Option (List Expr)
  | .Tuple es _ _ => some es
  | _ => none
def dLst : Expr → Option (List Expr)
  | .List es _ => some es
  | _ => none
def dDict : Expr → Option (List (Option Expr) × List Expr)
  | .Dict ks vs _ => some (ks, vs)
  | _ => none
/-- f(args), f a name, no keywords -/
def dCall : Expr → Option (Str × List Expr)
  | .Call (.Name f _) args [] _ => some (f, args)
  | _ => none
/-- o.m(args) on one line -/
def dMeth : Expr → Option (Expr × Str × List Expr)
  | .Call (.Attribute o m ap) args [] p => if ap.endLine = p.line then some (o, m, args) else none
  | _ => none
def dSub : Expr → Option (Expr × Expr)
  | .Subscript a b _ => some (a, b)
  | _ => none
def dSli : Expr → Option (Option Expr × Option Expr × Option Expr)
  | .Slice a b c _ => some (a, b, c)
  | _ => none
def dLC : Expr → Option (Expr × Expr × Expr × List Expr × Scope)
  | .ListComp elt [⟨tg, iter, ifs, 0⟩] scope _ => some (elt, tg, iter, ifs, scope)
  | _ => none

theorem dName_eq {e : Expr} {x : Str} (h : dName e = some x) : ∃ p, e = .Name x p := by
  unfold dName at h
  split at h
  · cases h; exact ⟨_, rfl⟩
  · cases h
theorem dCon_eq {e : Expr} {c : Const} (h : dCon e = some c) : ∃ k p, e = .Constant c k p := by
  unfold dCon at h
  split at h
  · cases h; exact ⟨_, _, rfl⟩
  · cases h
theorem dUn_eq {e : Expr} {op : UnaryOp} {a : Expr} (h : dUn e = some (op, a)) : ∃ p, e = .UnaryOp op a p := by
  unfold dUn at h
  split at h
  · cases h; exact ⟨_, rfl⟩
  · cases h
theorem dBin_eq {e a b : Expr} {op : Operator} (h : dBin e = some (a, op, b)) : ∃ p, e = .BinOp a op b p := by
  unfold dBin at h
  split at h
  · cases h; exact ⟨_, rfl⟩
  · cases h
theorem dBool_eq {e : Expr} {op : BoolOp} {es : List Expr} (h : dBool e = some (op, es)) : ∃ p, e = .BoolOp op es p := by
  unfold dBool at h
  split at h
  · cases h; exact ⟨_, rfl⟩
  · cases h
theorem dCmp_eq {e a : Expr} {ops : List CmpOp} {es : List Expr} (h : dCmp e = some (a, ops, es)) : ∃ p, e = .Compare a ops es p := by
  unfold dCmp at h
  split at h
  · cases h; exact ⟨_, rfl⟩
  · cases h
theorem dIf_eq {e a b c : Expr} (h : dIf e = some (c, a, b)) : ∃ p, e = .IfExp c a b p := by
  unfold dIf at h
  split at h
  · cases h; exact ⟨_, rfl⟩
  · cases h
theorem dTup_eq {e : Expr} {es : List Expr} (h : dTup e = some es) : ∃ k p, e = .Tuple es k p := by
  unfold dTup at h
  split at h
  · cases h; exact ⟨_, _, rfl⟩
  · cases h
theorem dLst_eq {e : Expr} {es : List Expr} (h : dLst e = some es) : ∃ p, e = .List es p := by
  unfold dLst at h
  split at h
  · cases h; exact ⟨_, rfl⟩
  · cases h
theorem dDict_eq {e : Expr} {ks : List (Option Expr)} {vs : List Expr} (h : dDict e = some (ks, vs)) : ∃ p, e = .Dict ks vs p := by
  unfold dDict at h
  split at h
  · cases h; exact ⟨_, rfl⟩
  · cases h
theorem dCall_eq {e : Expr} {f : Str} {es : List Expr} (h : dCall e = some (f, es)) : ∃ p q, e = .Call (.Name f p) es [] q := by
  unfold dCall at h
  split at h
  · cases h; exact ⟨_, _, rfl⟩
  · cases h
theorem dMeth_eq {e o : Expr} {m : Str} {es : List Expr} (h : dMeth e = some (o, m, es)) : ∃ ap p, e = .Call (.Attribute o m ap) es [] p ∧ ap.endLine = p.line := by
  unfold dMeth at h
  split at h
  · split at h
    · cases h; exact ⟨_, _, rfl, by assumption⟩
    · cases h
  · cases h
theorem dSub_eq {e a b : Expr} (h : dSub e = some (a, b)) : ∃ p, e = .Subscript a b p := by
  unfold dSub at h
  split at h
  · cases h; exact ⟨_, rfl⟩
  · cases h
theorem dSli_eq {e : Expr} {a b c : Option Expr} (h : dSli e = some (a, b, c)) : ∃ p, e = .Slice a b c p := by
  unfold dSli at h
  split at h
  · cases h; exact ⟨_, rfl⟩
  · cases h
theorem dLC_eq {e elt tg iter : Expr} {ifs : List Expr} {scope : Scope} (h : dLC e = some (elt, tg, iter, ifs, scope)) : ∃ p, e = .ListComp elt [⟨tg, iter, ifs, 0⟩] scope p := by
  unfold dLC at h
  split at h
  · cases h; exact ⟨_, rfl⟩
  · cases h

/-! ### names -/
def visB (sc : Scope) (x : Str) : Bool := match sc.names.lookup x with
  | some .local => true
  | some .cell => true
  | some .free => true
  | _ => false
def glB (sc : Scope) (x : Str) : Bool := (match sc.names.lookup x with
  | some .globalImplicit => true
  | _ => false) && !(x == ("__debug__" : Str))
/-- a name that is stored: sc the scope that runs, w the written one -/
def locB (sc w : Scope) (x : Str) : Bool := match sc.names.lookup x, w.names.lookup x with
  | some .local, some .local => true
  | some .cell, some .cell => true
  | _, _ => false
theorem visB_ok {sc : Scope} {x : Str} (h : visB sc x = true) : Vis sc x := by
  unfold visB at h
  unfold Vis
  split at h
  · next e => exact .inl e
  · next e => exact .inr (.inl e)
  · next e => exact .inr (.inr e)
  · cases h
theorem glB_ok {sc : Scope} {x : Str} (h : glB sc x = true) : sc.names.lookup x = some .globalImplicit ∧ (x == ("__debug__" : Str)) = false := by
  unfold glB at h
  rw [Bool.and_eq_true] at h
  obtain ⟨h, h2⟩ := h
  split at h
  · next e => exact ⟨e, by simpa using h2⟩
  · cases h

/-! ### the check -/
/-- which built-in function a one-place operation is -/
def bn1 : O1 → Option String
  | .len => some "len"
  | .all => some "all"
  | .any => some "any"
  | .tup => some "tuple"
  | .int => some "int"
  | .sum => some "sum"
  | .min => some "min"
  | .max => some "max"
  | .abs => some "abs"
  | .sorted => some "sorted"
  | .dict => some "dict"
  | _ => none
def bnI : O1 → Option String
  | .isiI => some "int"
  | .isiB => some "bool"
  | .isiT => some "tuple"
  | .isiS => some "str"
  | _ => none
def bin2 : O2 → Option Operator
  | .add => some .Add
  | .sub => some .Sub
  | .mul => some .Mult
  | .fdiv => some .FloorDiv
  | .mod => some .Mod
  | _ => none
def cmp2 : O2 → Option CmpOp
  | .eq => some .Eq
  | .ne => some .NotEq
  | .lt => some .Lt
  | .le => some .LtE
  | .gt => some .Gt
  | .ge => some .GtE
  | .isin => some .In
  | .notin => some .NotIn
  | _ => none
/-- no set display: the comparison has no mark -/
def noSet : Expr → Bool
  | .Set _ _ _ => false
  | _ => true
def isB (sc : Scope) (f : Str) (n : String) : Bool := f == Str.ofString n && glB sc f
def slots : Tg → List Nat
  | .n i => [i]
  | .t ts => go ts
where go : TgL → List Nat
  | .nil => []
  | .cons t ts => slots t ++ go ts
def ckC : D → Const → Bool
  | .none, .none => true
  | .bool a, .bool b => a == b
  | .int a, .int b => decide (a = b)
  | .str a, .str b => decide (a = b)
  | _, _ => false
/-- tests that the walk knows -/
def tst : E → Bool
  | .v _ => true
  | .o1 .not a => tst a
  | .o1 .neg _ => false
  | .o1 _ _ => true
  | .o2 o _ _ => match bin2 o with
    | some _ => false
    | none => true
  | .o3 _ _ _ _ => true
  | .chain _ _ _ _ _ => true
  | .call _ _ => true
  | .and es => tsts es
  | .or es => tsts es
  | _ => false
where tsts : EL → Bool
  | .nil => true
  | .cons e es => tst e && tsts es
section
variable (N : List Str) (gcN : List Str) (nm : Nat → Option Str)
mutual
def ckT (sc w : Scope) : Tg → Expr → Bool
  | .n i, e => match dName e with
    | some x => decide (N[i]? = some x) && locB sc w x
    | none => false
  | .t ts, e => match dTup e with
    | some es => ckTL sc w ts es
    | none => false
def ckTL (sc w : Scope) : TgL → List Expr → Bool
  | .nil, [] => true
  | .cons t ts, e :: es => ckT sc w t e && ckTL sc w ts es
  | _, _ => false
end
mutual
def ckE (sc : Scope) : E → Expr → Bool
  | .v i, e => match dName e with
    | some x => decide (N[i]? = some x) && visB sc x
    | none => false
  | .cst d, e => match dCon e with
    | some c => ckC d c
    | none => false
  | .gc i, e => match dName e with
    | some x => decide (gcN[i]? = some x) && glB sc x
    | none => false
  | .o1 o a, e => match o with
    | .neg => match dUn e with
      | some (.USub, x) => ckE sc a x
      | _ => false
    | .not => match dUn e with
      | some (.Not, x) => ckE sc a x
      | _ => false
    | .isN => match dCmp e with
      | some (x, [.Is], [y]) => (match dCon y with
        | some .none => true
        | _ => false) && ckE sc a x
      | _ => false
    | .notN => match dCmp e with
      | some (x, [.IsNot], [y]) => (match dCon y with
        | some .none => true
        | _ => false) && ckE sc a x
      | _ => false
    | .tupRg => match dCall e with
      | some (f, [y]) => isB sc f "tuple" && (match dCall y with
        | some (g, [x]) => isB sc g "range" && ckE sc a x
        | _ => false)
      | _ => false
    | .lenSet => match dCall e with
      | some (f, [y]) => isB sc f "len" && (match dCall y with
        | some (g, [x]) => isB sc g "set" && ckE sc a x
        | _ => false)
      | _ => false
    | .sortedSet => match dCall e with
      | some (f, [y]) => isB sc f "sorted" && (match dCall y with
        | some (g, [x]) => isB sc g "set" && ckE sc a x
        | _ => false)
      | _ => false
    | .rev => match dSub e with
      | some (x, y) => (match dSli y with
        | some (none, none, some z) => (match dUn z with
          | some (.USub, c) => (match dCon c with
            | some (.int 1) => true
            | _ => false)
          | _ => false)
        | _ => false) && ckE sc a x
      | _ => false
    | _ => match bn1 o with
      | some n => match dCall e with
        | some (f, [x]) => isB sc f n && ckE sc a x
        | _ => false
      | none => match bnI o with
        | some n => match dCall e with
          | some (f, [x, y]) => isB sc f "isinstance" && (match dName y with
            | some t => isB sc t n
            | none => false) && ckE sc a x
          | _ => false
        | none => false
  | .o2 o a b, e => match bin2 o with
    | some p => match dBin e with
      | some (x, q, y) => decide (p = q) && ckE sc a x && ckE sc b y
      | none => false
    | none => match cmp2 o with
      | some p => match dCmp e with
        | some (x, [q], [y]) => decide (p = q) && noSet y && ckE sc a x && ckE sc b y
        | _ => false
      | none => match o with
        | .ix => match dSub e with
          | some (x, y) => (match dSli y with
            | none => true
            | some _ => false) && ckE sc a x && ckE sc b y
          | none => false
        | .slTo => match dSub e with
          | some (x, y) => match dSli y with
            | some (none, some z, none) => ckE sc a x && ckE sc b z
            | _ => false
          | none => false
        | .slFrom => match dSub e with
          | some (x, y) => match dSli y with
            | some (some z, none, none) => ckE sc a x && ckE sc b z
            | _ => false
          | none => false
        | .min => match dCall e with
          | some (f, [x, y]) => isB sc f "min" && ckE sc a x && ckE sc b y
          | _ => false
        | .max => match dCall e with
          | some (f, [x, y]) => isB sc f "max" && ckE sc a x && ckE sc b y
          | _ => false
        | .index => match dMeth e with
          | some (x, m, [y]) => (m == Str.ofString "index") && ckE sc a x && ckE sc b y
          | _ => false
        | _ => false
  | .o3 o a b c, e => match o with
    | .slice => match dSub e with
      | some (x, y) => match dSli y with
        | some (some z, some u, none) => ckE sc a x && ckE sc b z && ckE sc c u
        | _ => false
      | none => false
    | .lstRg => match dCall e with
      | some (f, [y]) => isB sc f "list" && (match dCall y with
        | some (g, [x, z, u]) => isB sc g "range" && ckE sc a x && ckE sc b z && ckE sc c u
        | _ => false)
      | _ => false
    | .get => match dMeth e with
      | some (x, m, [y, z]) => (m == Str.ofString "get") && ckE sc a x && ckE sc b y && ckE sc c z
      | _ => false
  | .and es, e => match dBool e with
    | some (.And, xs) => ckL sc es xs
    | _ => false
  | .or es, e => match dBool e with
    | some (.Or, xs) => ckL sc es xs
    | _ => false
  | .chain p q a b c, e => match dCmp e with
    | some (x, [r, s], [y, z]) => (match cmp2 p, cmp2 q with
      | some p', some q' => decide (p' = r) && decide (q' = s)
      | _, _ => false) && noSet y && noSet z && ckE sc a x && ckE sc b y && ckE sc c z
    | _ => false
  | .ite c a b, e => match dIf e with
    | some (z, x, y) => tst c && ckE sc c z && ckE sc a x && ckE sc b y
    | none => false
  | .call g es, e => match dCall e with
    | some (f, xs) => decide (nm g = some f) && glB sc f && !xs.isEmpty && ckL sc es xs
    | none => false
  | .tup es, e => match dTup e with
    | some xs => decide (xs.length ≤ 1000) && ckL sc es xs
    | none => false
  | .lst es, e => match dLst e with
    | some xs => decide (xs.length ≤ 1000) && ckL sc es xs
    | none => false
  | .dsp k x, e => match dDict e with
    | some ([some y], [z]) => ckE sc k y && ckE sc x z
    | _ => false
  | .lc own t it el, e => match dLC e with
    | some (x, tg, i, [], scope) => blkC N sc scope (own.map fun j => (N.getD j Str.empty, j)) && ckT N (relS scope sc) scope t tg && decide (∀ j ∈ slots t, j ∈ own) && ckI sc it i tg && ckE (relS scope sc) el x
    | _ => false
  | .lci own t it c el, e => match dLC e with
    | some (x, tg, i, [y], scope) => blkC N sc scope (own.map fun j => (N.getD j Str.empty, j)) && ckT N (relS scope sc) scope t tg && decide (∀ j ∈ slots t, j ∈ own) && ckI sc it i tg && tst c && ckE (relS scope sc) c y && ckE (relS scope sc) el x
    | _ => false
  | .ixv i b, e => match dSub e with
    | some (x, y) => (match dSli y with
      | none => true
      | some _ => false) && (match dName x with
      | some z => decide (N[i]? = some z) && visB sc z
      | none => false) && ckE sc b y
    | none => false
  | .getv i k x, e => match dMeth e with
    | some (o, m, [y, z]) => (m == Str.ofString "get") && (match dName o with
      | some u => decide (N[i]? = some u) && visB sc u
      | none => false) && ckE sc k y && ckE sc x z
    | _ => false
def ckL (sc : Scope) : EL → List Expr → Bool
  | .nil, [] => true
  | .cons e es, x :: xs => ckE sc e x && ckL sc es xs
  | _, _ => false
def ckI (sc : Scope) : I → Expr → Expr → Bool
  | .over e, x, _ => noSet x && ckE sc e x
  | .rng1 a, x, _ => match dCall x with
    | some (f, [y]) => isB sc f "range" && ckE sc a y
    | _ => false
  | .rng2 a b, x, _ => match dCall x with
    | some (f, [y, z]) => isB sc f "range" && ckE sc a y && ckE sc b z
    | _ => false
  | .enum e, x, tg => (dTup tg).isSome && (match dCall x with
    | some (f, [y]) => isB sc f "enumerate" && ckE sc e y
    | _ => false)
  | .zip a b, x, tg => (dTup tg).isSome && (match dCall x with
    | some (f, [y, z]) => isB sc f "zip" && ckE sc a y && ckE sc b z
    | _ => false)
  | .items e, x, tg => (dTup tg).isSome && (match dMeth x with
    | some (o, m, []) => (m == Str.ofString "items") && ckE sc e o
    | _ => false)
end
end
/-! ### statements -/
def dRet : Stmt → Option Expr
  | .Return (some e) _ => some e
  | _ => none
def dAsg : Stmt → Option (Expr × Expr)
  | .Assign [t] e _ => some (t, e)
  | _ => none
def dExp : Stmt → Option Expr
  | .Expr e _ => some e
  | _ => none
def dFor : Stmt → Option (Expr × Expr × List Stmt)
  | .For t i b [] _ => some (t, i, b)
  | _ => none
def dWhl : Stmt → Option (Expr × List Stmt)
  | .While c b [] _ => some (c, b)
  | _ => none
def dIfS : Stmt → Option (Expr × List Stmt × List Stmt)
  | .If c a b _ => some (c, a, b)
  | _ => none
theorem dRet_eq {s : Stmt} {e : Expr} (h : dRet s = some e) : ∃ p, s = .Return (some e) p := by
  unfold dRet at h
  split at h
  · cases h; exact ⟨_, rfl⟩
  · cases h
theorem dAsg_eq {s : Stmt} {t e : Expr} (h : dAsg s = some (t, e)) : ∃ p, s = .Assign [t] e p := by
  unfold dAsg at h
  split at h
  · cases h; exact ⟨_, rfl⟩
  · cases h
theorem dExp_eq {s : Stmt} {e : Expr} (h : dExp s = some e) : ∃ p, s = .Expr e p := by
  unfold dExp at h
  split at h
  · cases h; exact ⟨_, rfl⟩
  · cases h
theorem dFor_eq {s : Stmt} {t i : Expr} {b : List Stmt} (h : dFor s = some (t, i, b)) : ∃ p, s = .For t i b [] p := by
  unfold dFor at h
  split at h
  · cases h; exact ⟨_, rfl⟩
  · cases h
theorem dWhl_eq {s : Stmt} {c : Expr} {b : List Stmt} (h : dWhl s = some (c, b)) : ∃ p, s = .While c b [] p := by
  unfold dWhl at h
  split at h
  · cases h; exact ⟨_, rfl⟩
  · cases h
theorem dIfS_eq {s : Stmt} {c : Expr} {a b : List Stmt} (h : dIfS s = some (c, a, b)) : ∃ p, s = .If c a b p := by
  unfold dIfS at h
  split at h
  · cases h; exact ⟨_, rfl⟩
  · cases h
/-- the stores of a, b = x, y: some true: from the right; some false: as they stand; none: not told -/
def swK (sc : Scope) (ts vs : List Expr) : Option Bool :=
  if (ts.length == 2 || ts.length == 3) && vs.length == ts.length then
    if vs.any fun | .Starred .. => true | _ => false then none
    else if ts.all fun | .Name x p => (sc.names.lookup x == some .local) && p.line == (ts.head?.map (·.pos.line)).getD 0 | _ => false then
      if vs.all (foldedForSure 8) then some false
      else if vs.all (constantsAlone 8) then none
      else some true
    else some false
  else none
section
variable (N : List Str) (gcN : List Str) (nm : Nat → Option Str) (sc : Scope)
def ckR : Rh → Expr → Bool
  | .sh e, x => ckE N gcN nm sc e x
  | .ol es, x => match dLst x with
    | some xs => decide (xs.length ≤ 1000) && ckL N gcN nm sc es xs
    | none => false
  | .od, x => match dDict x with
    | some ([], []) => true
    | _ => false
def ckP : List (Nat × Rh) → List Expr → List Expr → Bool
  | [], [], [] => true
  | (i, r) :: l, t :: ts, v :: vs => (match dName t with
    | some x => decide (N[i]? = some x) && locB sc sc x
    | none => false) && ckR N gcN nm sc r v && ckP l ts vs
  | _, _, _ => false
mutual
def ckS : S → Stmt → Bool
  | .set i r, s => match dAsg s with
    | some (t, e) => (match dName t with
      | some x => decide (N[i]? = some x) && locB sc sc x
      | none => false) && ckR N gcN nm sc r e
    | none => false
  | .par l, s => match dAsg s with
    | some (t, e) => match dTup t, dTup e with
      | some ts, some vs => (swK sc ts vs).isSome && decide ((l.map (·.1)).Nodup) && ckP N gcN nm sc l ts vs
      | _, _ => false
    | none => false
  | .tgt t e, s => match dAsg s with
    | some (tg, x) => (dTup tg).isSome && (match dTup x, dTup tg with
      | none, _ => true
      | some _, some ts => ts.any fun y => (dName y).isNone
      | _, _ => false) && ckT N sc sc t tg && ckE N gcN nm sc e x
    | none => false
  | .frz _, _ => false
  | .app i e, s => match dExp s with
    | some y => match dMeth y with
      | some (o, m, [x]) => (m == Str.ofString "append") && (match dName o with
        | some u => decide (N[i]? = some u) && visB sc u
        | none => false) && ckE N gcN nm sc e x
      | _ => false
    | none => false
  | .put i k x, s => match dAsg s with
    | some (t, y) => match dSub t with
      | some (o, z) => (match dSli z with
        | none => true
        | some _ => false) && (match dName o with
        | some u => decide (N[i]? = some u) && visB sc u
        | none => false) && ckE N gcN nm sc k z && ckE N gcN nm sc x y
      | none => false
    | none => false
  | .ex e, s => match dExp s with
    | some x => (dCall x).isSome && ckE N gcN nm sc e x
    | none => false
  | .for t it b, s => match dFor s with
    | some (tg, i, bs) => ckT N sc sc t tg && ckI N gcN nm sc it i tg && cks b bs
    | none => false
  | .whl c b, s => match dWhl s with
    | some (x, bs) => tst c && ckE N gcN nm sc c x && cks b bs
    | none => false
  | .ite c a b, s => match dIfS s with
    | some (x, as, bs) => tst c && ckE N gcN nm sc c x && cks a as && cks b bs
    | none => false
  | .ret e, s => match dRet s with
    | some x => ckE N gcN nm sc e x
    | none => false
  | .never, _ => true
def cks : SL → List Stmt → Bool
  | .nil, [] => true
  | .cons (.frz _) ss, xs => cks ss xs
  | .cons s ss, x :: xs => ckS s x && cks ss xs
  | _, _ => false
end
end
/-- a def of the text: its names, its parameters, its body -/
def ckD (gcN : List Str) (nm : Nat → Option Str) (N : List Str) (f : Df) (st : Stmt) : Bool :=
  decide (f.names = N.length) && decide (N.Nodup) && decide (f.pars ≤ N.length) && (N.all fun x => !(x == ("__debug__" : Str)) && !(x == ("__classdict__" : Str))) && cks N gcN nm (defScope st) f.body (defBody st)
end Sq
end

section
set_option Elab.async false
set_option linter.all false
set_option maxRecDepth 100000
namespace Sq
open PySem L2
def topS (i : Nat) : Stmt := PySem.Challenge.pw_signsquared_k81_whole_told_squares_and_b.main.body.getD i (.Pass ⟨0, 0, 0, 0⟩)
def gcN : List Str := gcL.map fun p => Str.ofString p.1
def nm (g : Nat) : Option Str := (nmL[g]?).map Str.ofString
def slN (g : Nat) : List Str := ((slL[g]?).getD []).map Str.ofString
def ckG (g : Nat) : Bool := match tab g with
  | some f => ckD gcN nm (slN g) f (topS (atL.getD g 0))
  | none => false
end Sq
end

section
set_option Elab.async false
set_option linter.all false
set_option maxRecDepth 100000
namespace Sq
open PySem L2
theorem ck_all85 : ((List.range 85).filter fun g => !ckG g) = [] := by decide +kernel
end Sq
end

section
set_option Elab.async false
set_option linter.all false
set_option maxRecDepth 100000
/-! what a value of the heap is worth as data -/
namespace Sq
open PySem L2 PyProof.Rows

/-! ### heaps with some places hidden -/
def hide (O : List Addr) (H : Hp) : Hp := fun a => if a ∈ O then none else H a
theorem hide_some {O : List Addr} {H : Hp} {a : Addr} {o : HO} (h : hide O H a = some o) : H a = some o ∧ a ∉ O := by
  unfold hide at h
  split at h
  · cases h
  · exact ⟨h, by assumption⟩
theorem hide_of {O : List Addr} {H : Hp} {a : Addr} {o : HO} (h : H a = some o) (n : a ∉ O) : hide O H a = some o := by
  unfold hide
  rw [if_neg n]
  exact h
theorem same_hide {O : List Addr} {H H' : Hp} (e : Same H H') : Same (hide O H) (hide O H') := fun a o h => by
  obtain ⟨h1, h2⟩ := hide_some h
  exact hide_of (e a o h1) h2
theorem hide_sub {O B : List Addr} {H : Hp} (h : ∀ a, a ∈ B → a ∈ O) : Same (hide O H) (hide B H) := fun a o q => by
  obtain ⟨h1, h2⟩ := hide_some q
  exact hide_of h1 fun z => h2 (h a z)
theorem hide_le {O : List Addr} {H : Hp} : Same (hide O H) H := fun a o h => (hide_some h).1
theorem same_new {H : Hp} {p : Addr} {o : HO} (h : H p = none) : Same H (upd H p o) := fun b x e => by
  rw [upd_ne (ne_of_none e h)]
  exact e

/-! ### keys -/
mutual
def toKey : D → Option NestedKey
  | .int i => some (.num i)
  | .tuple xs => match toKeys xs with
    | some ks => some (.tup ks)
    | none => none
  | _ => none
def toKeys : List D → Option (List NestedKey)
  | [] => some []
  | x :: xs => match toKey x with
    | some k => match toKeys xs with
      | some ks => some (k :: ks)
      | none => none
    | none => none
end
mutual
theorem toKey_of : ∀ (d : D), isKey d = true → ∃ k, toKey d = some k ∧ k.depth = kdep d
  | .int i, _ => ⟨.num i, rfl, rfl⟩
  | .tuple xs, h => by
    obtain ⟨ks, e, q⟩ := toKeys_of xs h
    refine ⟨.tup ks, ?_, ?_⟩
    · simp only [toKey, e]
    · simp only [NestedKey.depth, kdep, q]
  | .none, h => by simp [isKey] at h
  | .bool _, h => by simp [isKey] at h
  | .str _, h => by simp [isKey] at h
  | .list _, h => by simp [isKey] at h
  | .dict _, h => by simp [isKey] at h
theorem toKeys_of : ∀ (ds : List D), isKeyL ds = true → ∃ ks, toKeys ds = some ks ∧ NestedKey.depthAll ks = kdepL ds
  | [], _ => ⟨[], rfl, rfl⟩
  | d :: ds, h => by
    have h' : (isKey d && isKeyL ds) = true := h
    rw [Bool.and_eq_true] at h'
    obtain ⟨k, e, q⟩ := toKey_of d h'.1
    obtain ⟨ks, e2, q2⟩ := toKeys_of ds h'.2
    refine ⟨k :: ks, ?_, ?_⟩
    · simp only [toKeys, e, e2]
    · simp only [NestedKey.depthAll, kdepL, q, q2]
end
mutual
theorem keq_key : ∀ (a b : D) (k j : NestedKey), toKey a = some k → toKey b = some j → keq a b = decide (k = j)
  | .int a, .int b, k, j, h1, h2 => by
    cases h1
    cases h2
    simp [keq]
  | .tuple xs, .tuple ys, k, j, h1, h2 => by
    simp only [toKey] at h1 h2
    cases e1 : toKeys xs with
    | none => rw [e1] at h1; cases h1
    | some ks =>
      cases e2 : toKeys ys with
      | none => rw [e2] at h2; cases h2
      | some js =>
        rw [e1] at h1
        rw [e2] at h2
        cases h1
        cases h2
        simp only [keq, keq_keys xs ys ks js e1 e2, NestedKey.tup.injEq]
  | .int a, .tuple ys, k, j, h1, h2 => by
    simp only [toKey] at h2
    split at h2
    · cases h1
      cases h2
      simp [keq]
    · cases h2
  | .tuple xs, .int b, k, j, h1, h2 => by
    simp only [toKey] at h1
    split at h1
    · cases h1
      cases h2
      simp [keq]
    · cases h1
  | .none, _, _, _, h1, _ => by simp [toKey] at h1
  | .bool _, _, _, _, h1, _ => by simp [toKey] at h1
  | .str _, _, _, _, h1, _ => by simp [toKey] at h1
  | .list _, _, _, _, h1, _ => by simp [toKey] at h1
  | .dict _, _, _, _, h1, _ => by simp [toKey] at h1
  | .int _, .none, _, _, _, h2 => by simp [toKey] at h2
  | .int _, .bool _, _, _, _, h2 => by simp [toKey] at h2
  | .int _, .str _, _, _, _, h2 => by simp [toKey] at h2
  | .int _, .list _, _, _, _, h2 => by simp [toKey] at h2
  | .int _, .dict _, _, _, _, h2 => by simp [toKey] at h2
  | .tuple _, .none, _, _, _, h2 => by simp [toKey] at h2
  | .tuple _, .bool _, _, _, _, h2 => by simp [toKey] at h2
  | .tuple _, .str _, _, _, _, h2 => by simp [toKey] at h2
  | .tuple _, .list _, _, _, _, h2 => by simp [toKey] at h2
  | .tuple _, .dict _, _, _, _, h2 => by simp [toKey] at h2
theorem keq_keys : ∀ (as bs : List D) (ks js : List NestedKey), toKeys as = some ks → toKeys bs = some js → keqL as bs = decide (ks = js)
  | [], [], ks, js, h1, h2 => by
    cases h1
    cases h2
    simp [keqL]
  | a :: as, b :: bs, ks, js, h1, h2 => by
    simp only [toKeys] at h1 h2
    cases e1 : toKey a with
    | none => rw [e1] at h1; cases h1
    | some k =>
      cases e2 : toKeys as with
      | none => rw [e1, e2] at h1; cases h1
      | some kr =>
        cases e3 : toKey b with
        | none => rw [e3] at h2; cases h2
        | some j =>
          cases e4 : toKeys bs with
          | none => rw [e3, e4] at h2; cases h2
          | some jr =>
            rw [e1, e2] at h1
            rw [e3, e4] at h2
            cases h1
            cases h2
            simp only [keqL, keq_key a b k j e1 e3, keq_keys as bs kr jr e2 e4, List.cons.injEq]
            rw [Bool.decide_and]
  | [], b :: bs, ks, js, h1, h2 => by
    simp only [toKeys] at h2
    split at h2
    · split at h2
      · cases h1
        cases h2
        simp [keqL]
      · cases h2
    · cases h2
  | a :: as, [], ks, js, h1, h2 => by
    simp only [toKeys] at h1
    split at h1
    · split at h1
      · cases h1
        cases h2
        simp [keqL]
      · cases h1
    · cases h1
end
theorem tupKey_of {d : D} (h : isTupKey d = true) : ∃ k, toKey d = some k ∧ k.depth ≤ 8 ∧ ∃ xs, d = .tuple xs := by
  cases d with
  | tuple xs =>
    have h' : (isKeyL xs && Nat.ble (kdepL xs) 7) = true := h
    rw [Bool.and_eq_true] at h'
    obtain ⟨ks, e, q⟩ := toKeys_of xs h'.1
    refine ⟨.tup ks, ?_, ?_, xs, rfl⟩
    · simp only [toKey, e]
    · have := Nat.le_of_ble_eq_true h'.2
      simp only [NestedKey.depth, q]
      omega
  | _ => simp [isTupKey] at h

/-! ### the relation -/
/-- the object at p is o -/
def At (p : Addr) (o : Obj) : HO := .ext fun h => h.get? p = some o
structure DObj (P : Program) (w : World) (o : Obj) (xs : List (NestedKey × Addr × Value)) : Prop where
  exact : o.ExactDict
  dat : ∃ es ep, o.data = .dict es ep ∧ es.toList = xs.map (entryOfKey (nestedKind P w))
  nd : (xs.map (·.1)).Nodup
section
variable (P : Program) (w : World)
mutual
inductive Rep (G : Hp) : D → V → Prop where
  | non : Rep G .none .non
  | bl (b : Bool) : Rep G (.bool b) (.bl b)
  | int (i : Int) : Rep G (.int i) (.int i)
  | str (x : Str) : Rep G (.str x) (.str x)
  | lst {a : Addr} {xs : List V} {ds : List D} : G a = some (.lst xs) → RepL G ds xs → Rep G (.list ds) (.ref a)
  | tup {a : Addr} {o : Obj} {xs : List V} {ds : List D} : G a = some (.frz o (.tup xs)) → o.dict = none → RepL G ds xs → Rep G (.tuple ds) (.ref a)
  | dct {a : Addr} {o : Obj} {xs : List (NestedKey × Addr × Value)} {kvs : List (D × D)} : G a = some (At a o) → (a == sysModules) = false → DObj P w o xs → RepK G kvs xs → Rep G (.dict kvs) (.ref a)
inductive RepL (G : Hp) : List D → List V → Prop where
  | nil : RepL G [] []
  | cons {d : D} {v : V} {ds : List D} {vs : List V} : Rep G d v → RepL G ds vs → RepL G (d :: ds) (v :: vs)
inductive RepK (G : Hp) : List (D × D) → List (NestedKey × Addr × Value) → Prop where
  | nil : RepK G [] []
  | cons {k d : D} {nk : NestedKey} {ka : Addr} {u : Value} {v : V} {kvs : List (D × D)} {xs : List (NestedKey × Addr × Value)} :
      toKey k = some nk → nk.depth ≤ 8 → Rep G k (.ref ka) → RelV v u → Rep G d v → RepK G kvs xs → RepK G ((k, d) :: kvs) ((nk, ka, u) :: xs)
end
end
section
variable {P : Program} {w : World} {G G' : Hp}
theorem Rep.mono (e : Same G G') {d : D} {v : V} (h : Rep P w G d v) : Rep P w G' d v :=
  Rep.rec (motive_1 := fun d v _ => Rep P w G' d v) (motive_2 := fun ds vs _ => RepL P w G' ds vs) (motive_3 := fun kvs xs _ => RepK P w G' kvs xs)
    .non .bl .int .str (fun h _ ih => .lst (e _ _ h) ih) (fun h n _ ih => .tup (e _ _ h) n ih) (fun h s o _ ih => .dct (e _ _ h) s o ih) .nil (fun _ _ h1 h2 => .cons h1 h2) .nil (fun k n _ r _ _ h1 h2 h3 => .cons k n h1 r h2 h3) h
theorem RepL.mono (e : Same G G') {ds : List D} {vs : List V} (h : RepL P w G ds vs) : RepL P w G' ds vs := by
  induction ds generalizing vs with
  | nil => cases h; exact .nil
  | cons d ds ih =>
    cases h with
    | cons h1 h2 => exact .cons (h1.mono e) (ih h2)
theorem RepK.mono (e : Same G G') {kvs : List (D × D)} {xs : List (NestedKey × Addr × Value)} (h : RepK P w G kvs xs) : RepK P w G' kvs xs := by
  induction kvs generalizing xs with
  | nil => cases h; exact .nil
  | cons d ds ih =>
    cases h with
    | cons h1 h2 h3 h4 h5 h6 => exact .cons h1 h2 (h3.mono e) h4 (h5.mono e) (ih h6)
theorem RepL.length {ds : List D} {vs : List V} (h : RepL P w G ds vs) : ds.length = vs.length := by
  induction ds generalizing vs with
  | nil => cases h; rfl
  | cons d ds ih =>
    cases h with
    | cons h1 h2 => rw [List.length_cons, List.length_cons, ih h2]
theorem RepK.length {kvs : List (D × D)} {xs : List (NestedKey × Addr × Value)} (h : RepK P w G kvs xs) : kvs.length = xs.length := by
  induction kvs generalizing xs with
  | nil => cases h; rfl
  | cons d ds ih =>
    cases h with
    | cons h1 h2 h3 h4 h5 h6 => rw [List.length_cons, List.length_cons, ih h6]
theorem RepL.app {ds es : List D} {vs us : List V} (h : RepL P w G ds vs) (h' : RepL P w G es us) : RepL P w G (ds ++ es) (vs ++ us) := by
  induction ds generalizing vs with
  | nil => cases h; exact h'
  | cons d ds ih =>
    cases h with
    | cons h1 h2 => exact .cons h1 (ih h2)
theorem RepL.get {ds : List D} {vs : List V} (h : RepL P w G ds vs) : ∀ {i : Nat} {d : D}, ds[i]? = some d → ∃ v, vs[i]? = some v ∧ Rep P w G d v := by
  induction ds generalizing vs with
  | nil => intro i d e; simp at e
  | cons d ds ih =>
    cases h with
    | cons h1 h2 =>
      intro i x e
      cases i with
      | zero => simp at e; subst e; exact ⟨_, rfl, h1⟩
      | succ i =>
        obtain ⟨v, q, r⟩ := ih h2 (i := i) (d := x) (by simpa using e)
        exact ⟨v, by simpa using q, r⟩
theorem RepL.take {ds : List D} {vs : List V} (h : RepL P w G ds vs) (n : Nat) : RepL P w G (ds.take n) (vs.take n) := by
  induction ds generalizing vs n with
  | nil => cases h; simp; exact .nil
  | cons d ds ih =>
    cases h with
    | cons h1 h2 =>
      cases n with
      | zero => exact .nil
      | succ n => exact .cons h1 (ih h2 n)
theorem RepL.drop {ds : List D} {vs : List V} (h : RepL P w G ds vs) (n : Nat) : RepL P w G (ds.drop n) (vs.drop n) := by
  induction ds generalizing vs n with
  | nil => cases h; simp; exact .nil
  | cons d ds ih =>
    cases h with
    | cons h1 h2 =>
      cases n with
      | zero => exact .cons h1 h2
      | succ n => exact ih h2 n
theorem RepL.rev {ds : List D} {vs : List V} (h : RepL P w G ds vs) : RepL P w G ds.reverse vs.reverse := by
  induction ds generalizing vs with
  | nil => cases h; exact .nil
  | cons d ds ih =>
    cases h with
    | cons h1 h2 =>
      rw [List.reverse_cons, List.reverse_cons]
      exact (ih h2).app (.cons h1 .nil)
/-- whole numbers, truth values -/
theorem ints_eq : ∀ {ds : List D} {ns : List Int}, intsO ds = some ns → ds = ns.map .int
  | [], ns, h => by cases h; rfl
  | d :: ds, ns, h => by
    unfold intsO at h
    split at h
    · next h0 => cases h0
    · next i r h0 =>
      cases h0
      split at h
      · next l e =>
        cases h
        rw [ints_eq e]
        rfl
      · cases h
    · cases h
theorem bools_eq : ∀ {ds : List D} {ns : List Bool}, boolsO ds = some ns → ds = ns.map .bool
  | [], ns, h => by cases h; rfl
  | d :: ds, ns, h => by
    unfold boolsO at h
    split at h
    · next h0 => cases h0
    · next i r h0 =>
      cases h0
      split at h
      · next l e =>
        cases h
        rw [bools_eq e]
        rfl
      · cases h
    · cases h
theorem RepL.intsV {ns : List Int} {vs : List V} (h : RepL P w G (ns.map .int) vs) : vs = ns.map V.int := by
  induction ns generalizing vs with
  | nil => cases h; rfl
  | cons n ns ih =>
    cases h with
    | cons h1 h2 =>
      cases h1
      rw [ih h2]
      rfl
theorem RepL.boolsV {ns : List Bool} {vs : List V} (h : RepL P w G (ns.map .bool) vs) : vs = ns.map V.bl := by
  induction ns generalizing vs with
  | nil => cases h; rfl
  | cons n ns ih =>
    cases h with
    | cons h1 h2 =>
      cases h1
      rw [ih h2]
      rfl
theorem RepL.of_ints (ns : List Int) : RepL P w G (ns.map .int) (ns.map V.int) := by
  induction ns with
  | nil => exact .nil
  | cons n ns ih => exact .cons (.int n) ih
end
end Sq
end

section
set_option Elab.async false
set_option linter.all false
set_option maxRecDepth 100000
set_option maxHeartbeats 1000000
/-! the operators, by data -/
namespace Sq
open PySem L2 PyProof.Rows

theorem fits {n : Nat} (h : n ≤ 1000000) : n ≤ sizeLine := Nat.le_trans h (by rw [sizeLine_eq]; decide)
/-! ### weakest readings -/
def wO (X : Cx) (f : Value → Value → Sem Value) : R2 := fun x y H Q => ∀ (pins : List (Addr × Obj)) (s : Shared) (σ : L2.St) (v u : Value), Inv X pins σ H s → RelV x v → RelV y u →
  wpAny (model X.prog X.w) X.A (f v u) (EP X pins σ Q) X.xe s
theorem wO_ok {X : Cx} {f : Value → Value → Sem Value} : OpR X f (wO X f) := fun pins s σ H x y v u Q I rx ry h => h pins s σ v u I rx ry
theorem wO_of {X : Cx} {f : Value → Value → Sem Value} {r : R2} (h : OpR X f r) {x y : V} {H : Hp} {Q : VK} (q : r x y H Q) : wO X f x y H Q := fun pins s σ v u I rx ry => h pins s σ H x y v u Q I rx ry q
def wU (X : Cx) (f : Value → Sem Value) : V → Hp → VK → Prop := fun x H Q => ∀ (pins : List (Addr × Obj)) (s : Shared) (σ : L2.St) (v : Value), Inv X pins σ H s → RelV x v →
  wpAny (model X.prog X.w) X.A (f v) (EP X pins σ Q) X.xe s
theorem wU_ok {X : Cx} {f : Value → Sem Value} : UnR X f (wU X f) := fun pins s σ H x v Q I rx h => h pins s σ v I rx
theorem wU_of {X : Cx} {f : Value → Sem Value} {r : V → Hp → VK → Prop} (h : UnR X f r) {x : V} {H : Hp} {Q : VK} (q : r x H Q) : wU X f x H Q := fun pins s σ v I rx => h pins s σ H x v Q I rx q
def wC (X : Cx) (f : Value) : List V → Hp → VK → Prop := fun xs H Q => ∀ (pins : List (Addr × Obj)) (s : Shared) (σ : L2.St) (us : List Value), Inv X pins σ H s → Vals xs us →
  wpAny (model X.prog X.w) X.A (call f us) (EP X pins σ Q) X.xe s
theorem wC_ok {X : Cx} {f : Value} : CallR X f (wC X f) := fun pins s σ H xs us Q I rx h => h pins s σ us I rx
theorem wC_of {X : Cx} {f : Value} {r : List V → Hp → VK → Prop} (h : CallR X f r) {xs : List V} {H : Hp} {Q : VK} (q : r xs H Q) : wC X f xs H Q := fun pins s σ us I rx => h pins s σ H xs us Q I rx q

/-- every hidden place is tracked -/
def Trk (O : List Addr) (H : Hp) : Prop := ∀ a, a ∈ O → H a ≠ none
theorem Trk.mono {O : List Addr} {H H' : Hp} (t : Trk O H) (e : Same H H') : Trk O H' := fun a h z => by
  cases q : H a with
  | none => exact t a h q
  | some o => rw [e a o q] at z; cases z
theorem Trk.new {O : List Addr} {H : Hp} (t : Trk O H) {p : Addr} (h : H p = none) : p ∉ O := fun z => t p z h
/-- what is wanted of a value that is d -/
def Post (X : Cx) (O : List Addr) (H : Hp) (d : D) (Q : VK) : Prop := ∀ v H', Same H H' → Rep X.prog X.w (hide O H') d v → Q v H'
section
variable {X : Cx} {O : List Addr} {H H' : Hp} {Q : VK} {d : D} {v : V}
theorem Post.here (q : Post X O H d Q) (r : Rep X.prog X.w (hide O H) d v) : Q v H := q v H (Same.refl H) r
theorem Post.mono (q : Post X O H d Q) (e : Same H H') : Post X O H' d Q := fun v H2 e2 r => q v H2 (e.trans e2) r
theorem Post.newL {ds : List D} {xs : List V} (t : Trk O H) (q : Post X O H (.list ds) Q) (r : RepL X.prog X.w (hide O H) ds xs) : ∀ p, H p = none → Q (.ref p) (upd H p (.lst xs)) := fun p hp =>
  q _ _ (same_new hp) (.lst (hide_of upd_same (t.new hp)) (r.mono (same_hide (same_new hp))))
/-- a new tuple that is known to the object -/
abbrev QT (H : Hp) (xs : List V) (Q : VK) : Prop := ∀ (p : Addr) (o : Obj), H p = none → o.dict = none → Q (.ref p) (upd H p (.frz o (.tup xs)))
theorem Post.newT {ds : List D} {xs : List V} (t : Trk O H) (q : Post X O H (.tuple ds) Q) (r : RepL X.prog X.w (hide O H) ds xs) : QT H xs Q := fun p o hp hd =>
  q _ _ (same_new hp) (.tup (hide_of upd_same (t.new hp)) hd (r.mono (same_hide (same_new hp))))
abbrev tupO (its : List Value) : Obj := { cls := .type "tuple", data := .seq its.toArray }
theorem laidT {X : Cx} {pins : List (Addr × Obj)} {σ : L2.St} {H : Hp} {s : Shared} {its : List Value} {xs : List V} (I : Inv X pins σ H s) (r : Vals xs its) (z : xs.length ≤ sizeLine) :
    Inv X pins σ (upd H s.heap.objs.size (.frz (tupO its) (.tup xs))) { s with heap := s.heap.push (tupO its) } :=
  I.laid (t' := s.toks) (o := .frz (tupO its) (.tup xs)) (fun b ob q => Heap.get?_push_of_some _ q) (Nat.le_refl _) ⟨Heap.get?_push_size _ rfl, z, its, r, IsTup.new _ _⟩
/-- the end of a rule that lays a tuple -/
theorem endT {X : Cx} {pins : List (Addr × Obj)} {σ : L2.St} {H : Hp} {s : Shared} {its : List Value} {xs : List V} {Q : VK} (I : Inv X pins σ H s) (r : Vals xs its) (z : xs.length ≤ sizeLine) (q : QT H xs Q) :
    EP X pins σ Q (.ref s.heap.objs.size) { s with heap := s.heap.push (tupO its) } :=
  ⟨.ref s.heap.objs.size, _, laidT I r z, rfl, q _ _ (I.hok.fresh (Nat.le_refl _)) rfl⟩
end
theorem sqL {K : PySem.W.Frag} {O : List Addr} {H : Hp} {a : Addr} {xs : List V} (h : hide O H a = some (.lst xs)) : SqL K H a xs := .inl (.inl (hide_some h).1)
theorem sqT {K : PySem.W.Frag} {O : List Addr} {H : Hp} {a : Addr} {o : Obj} {xs : List V} (h : hide O H a = some (.frz o (.tup xs))) : SqT K H a xs := .inl (.inr ⟨o, (hide_some h).1⟩)

/-! ### tuples made by operators, known to the object -/
section
variable {X : Cx}
def rCatF (K : PySem.W.Frag) : R2 := fun x y H Q => ∃ a b xs ys, x = .ref a ∧ y = .ref b ∧ SqT K H a xs ∧ SqT K H b ys ∧ xs.length + ys.length ≤ sizeLine ∧
  (xs = [] → Q (.ref b) H) ∧ (xs ≠ [] → ys = [] → Q (.ref a) H) ∧ (xs ≠ [] → ys ≠ [] → QT H (xs ++ ys) Q)
theorem op_catF : OpR X (binaryOp .Add) (rCatF X.K) := by
  intro pins s σ H x y v u Q I rx ry h
  obtain ⟨a, b, xs, ys, ex, ey, ha, hb, hz, q0, q1, q2⟩ := h
  subst ex
  subst ey
  cases rx
  cases ry
  obtain ⟨ia, ra, pa, _⟩ := I.tuple ha
  obtain ⟨ib, rb, pb, _⟩ := I.tuple hb
  by_cases hx : xs = []
  · subst hx
    cases ra
    exact cat_tup0 pa pb ⟨.ref b, H, I, rfl, q0 rfl⟩
  · have hl : ia.length + ib.length ≤ sizeLine := by
      rw [← ra.length, ← rb.length]
      exact hz
    refine HT.cat_tup pa pb (fun z => hx (ra.nil_iff.mp z)) (fun z => ?_) (fun z => ?_) hl
    · exact ⟨.ref a, H, I, rfl, q1 hx (rb.nil_iff.mp z)⟩
    · have hzz : (xs ++ ys).length ≤ sizeLine := by
        rw [List.length_append]
        exact hz
      exact endT I (ra.append rb) hzz (q2 hx fun w => z (rb.nil_iff.mpr w))
def rRepF (K : PySem.W.Frag) : R2 := fun x y H Q => ∃ l k xs, x = .ref l ∧ y = .int k ∧ SqT K H l xs ∧ xs ≠ [] ∧ 2 ≤ k ∧ k ≤ 1000 ∧ xs.length ≤ 1000 ∧ QT H (List.replicate k.toNat xs).flatten Q
theorem op_repF : OpR X (binaryOp .Mult) (rRepF X.K) := by
  intro pins s σ H x y v u Q I rx ry h
  obtain ⟨l, k, xs, ex, ey, hT, hne, lo, hi, hz, q⟩ := h
  subst ex
  subst ey
  cases rx
  obtain ⟨t, rfl⟩ := ry
  obtain ⟨its, r, ⟨⟨cls, dd, data, sl⟩, ho, hc, n, hd⟩, _⟩ := I.tuple hT
  simp only at hc hd
  subst hc
  subst hd
  have len := r.length
  have full : its.toArray.isEmpty = false := by
    cases its with
    | nil =>
      cases xs with
      | nil => exact absurd rfl hne
      | cons _ _ => cases len
    | cons _ _ => rfl
  have size : its.toArray.size = xs.length := by rw [List.size_toArray, len]
  have prod : k.toNat * xs.length ≤ 1000 * 1000 := Nat.mul_le_mul (by omega) hz
  have many : ((its.toArray.size : Nat) : Int) * k ≤ 1000000 := by
    rw [size]
    have step : ((xs.length : Nat) : Int) * k ≤ 1000 * k := Int.mul_le_mul_of_nonneg_right (by omega) (by omega)
    omega
  have line : (List.replicate k.toNat its).flatten.length ≤ sizeLine := by
    rw [PyProof.Rows.lm_len_rep_flat, ← len]
    exact fits (by omega)
  have d0 : (decide (k < -(2 ^ 63)) || decide (k ≥ 2 ^ 63)) = false := by
    rw [Bool.or_eq_false_iff]
    exact ⟨decide_eq_false (by omega), decide_eq_false (by omega)⟩
  have d1 : (its.toArray.isEmpty || k == 1) = false := by
    rw [full, Bool.false_or, beq_eq_false_iff_ne]
    omega
  have d2 : (decide (k ≤ 0) || its.toArray.isEmpty) = false := by
    rw [full, Bool.or_false]
    exact decide_eq_false (by omega)
  have d3 : Builtin.Tuple.tupleTooMany (((its.toArray.size : Nat) : Int) * k) = false := by
    unfold Builtin.Tuple.tupleTooMany
    rw [sizeLine_eq]
    exact decide_eq_false (by omega)
  have fin : EP X pins σ Q (.ref s.heap.objs.size) { s with heap := s.heap.push { cls := .type "tuple", data := .seq (List.replicate k.toNat its).flatten.toArray } } := by
    refine endT I (r.rep k.toNat) ?_ q
    rw [PyProof.Rows.lm_len_rep_flat]
    exact fits (by omega)
  rw [← size_rep] at fin
  have body := tuple_mulW l its.toArray n dd sl k t d0 d1 d2 (by omega) d3 (by rw [size_rep, List.size_toArray]; exact line)
  refine wpAny_binaryOp_repeat_ref (T := "tuple") (U := "int") (by decide) ⟨_, ho, rfl⟩ (fun s' => typeIs_int s' k t) noFill_tuple_mul F.fills_int_mul F.slot_int_rmul repeat_tuple F.slot_int_index.lookup ?_
  refine call_meets F.slot_int_rmul (typeIs_int s k t) F.entry_int_rmul (F.args_int_rmul_2 _ _) (int_rmul_tuple k t l its.toArray n dd sl) ⟨ho, rfl, ⟨_, ho, rfl⟩, ?_⟩
  exact call_meets F.slot_tuple_mul ⟨_, ho, rfl⟩ F.entry_tuple_mul (F.args_tuple_mul_2 _ _) body ⟨ho, fin⟩
end

section
variable {X : Cx} {O : List Addr} {H : Hp} {Q : VK} {a b d : D} {x y : V}
abbrev Rp (X : Cx) (O : List Addr) (H : Hp) : D → V → Prop := Rep X.prog X.w (hide O H)

theorem rep_len {n : Nat} {xs : List V} {ds : List D} {G : Hp} (r : RepL X.prog X.w G ds xs) (h : ds.length = n) : xs.length = n := by rw [← r.length]; exact h
theorem repEq : ∀ (k : Nat) (xs : List V), (List.replicate k xs).flatten = Nat.rec [] (fun _ r => xs ++ r) k
  | 0, xs => rfl
  | k + 1, xs => by
    rw [List.replicate_succ, List.flatten_cons, repEq k xs]
theorem rep_rep {G : Hp} {ds : List D} {xs : List V} (r : RepL X.prog X.w G ds xs) : ∀ k : Nat, RepL X.prog X.w G (rep k ds) (List.replicate k xs).flatten
  | 0 => .nil
  | k + 1 => by
    rw [List.replicate_succ, List.flatten_cons]
    exact r.app (rep_rep r k)
theorem small_lt {i : Int} (h : small i = true) : i.natAbs < 1000000 := of_decide_eq_true h

theorem o2_add (t : Trk O H) (h : op2 .add a b = some d) (ra : Rp X O H a x) (rb : Rp X O H b y) (q : Post X O H d Q) : wO X (binaryOp .Add) x y H Q := by
  unfold op2 at h
  simp only at h
  split at h
  · cases h
    cases ra
    cases rb
    exact wO_of op_add ⟨_, _, rfl, rfl, q.here (.int _)⟩
  · split at h
    · next hz =>
      cases h
      cases ra with
      | tup h1 n1 r1 =>
        cases rb with
        | tup h2 n2 r2 =>
          have l1 := r1.length
          have l2 := r2.length
          refine wO_of op_catF ⟨_, _, _, _, rfl, rfl, sqT h1, sqT h2, fits (by omega), fun e => ?_, fun _ e => ?_, fun _ _ => Post.newT t q (r1.app r2)⟩
          · subst e
            cases r1
            exact q.here (.tup h2 n2 r2)
          · subst e
            cases r2
            rw [List.append_nil] at q
            exact q.here (.tup h1 n1 r1)
    · cases h
  · split at h
    · next hz =>
      cases h
      cases ra with
      | lst h1 r1 =>
        cases rb with
        | lst h2 r2 =>
          have l1 := r1.length
          have l2 := r2.length
          exact wO_of op_cat ⟨_, _, _, _, rfl, rfl, (hide_some h1).1, (hide_some h2).1, fits (by omega), Post.newL t q (r1.app r2)⟩
    · cases h
  · cases h
theorem o2_sub (h : op2 .sub a b = some d) (ra : Rp X O H a x) (rb : Rp X O H b y) (q : Post X O H d Q) : wO X (binaryOp .Sub) x y H Q := by
  unfold op2 at h
  simp only at h
  split at h
  · cases h
    cases ra
    cases rb
    exact wO_of op_sub ⟨_, _, rfl, rfl, q.here (.int _)⟩
  · cases h
theorem o2_mul (t : Trk O H) (h : op2 .mul a b = some d) (ra : Rp X O H a x) (rb : Rp X O H b y) (q : Post X O H d Q) : wO X (binaryOp .Mult) x y H Q := by
  unfold op2 at h
  simp only at h
  split at h
  · split at h
    · next i j hs =>
      cases h
      cases ra
      cases rb
      have := small_lt hs
      exact wO_of op_mul ⟨_, _, rfl, rfl, .inl ⟨by omega, by omega⟩, q.here (.int _)⟩
    · cases h
  · split at h
    · next x' xs k hs =>
      cases h
      cases rb
      simp only [Bool.and_eq_true, decide_eq_true_eq] at hs
      cases ra with
      | tup h1 n1 r1 =>
        have l1 := r1.length
        rw [List.length_cons] at l1
        rename_i l o' xs'
        have ne : xs' ≠ [] := fun e => by
          rw [e] at l1
          cases l1
        have k1 : (2 : Int) ≤ Int.ofNat k := by
          show (2 : Int) ≤ ((k : Nat) : Int)
          omega
        have k2 : Int.ofNat k ≤ 1000 := by
          show ((k : Nat) : Int) ≤ 1000
          omega
        have k3 : xs'.length ≤ 1000 := by omega
        exact wO_of op_repF ⟨_, _, _, rfl, rfl, sqT h1, ne, k1, k2, k3, Post.newT t q (rep_rep r1 k)⟩
    · cases h
  · split at h
    · next xs k hs =>
      cases h
      cases rb
      simp only [Bool.and_eq_true, decide_eq_true_eq] at hs
      cases ra with
      | lst h1 r1 =>
        have l1 := r1.length
        refine wO_of op_rep ⟨_, _, _, rfl, rfl, (hide_some h1).1, by show -(2 ^ 63) ≤ ((k : Nat) : Int); omega, by show ((k : Nat) : Int) < 2 ^ 63; omega, fits ?_, Post.newL t q (rep_rep r1 k)⟩
        show _ * k ≤ _
        exact Nat.le_trans (Nat.mul_le_mul (by omega : _ ≤ 1000) hs.1) (by decide)
    · cases h
  · cases h
theorem o2_fdiv (h : op2 .fdiv a b = some d) (ra : Rp X O H a x) (rb : Rp X O H b y) (q : Post X O H d Q) : wO X (binaryOp .FloorDiv) x y H Q := by
  unfold op2 at h
  simp only at h
  split at h
  · split at h
    · next i j hs =>
      cases h
      cases ra
      cases rb
      simp only [Bool.and_eq_true, decide_eq_true_eq] at hs
      have := small_lt hs.2
      exact wO_of op_fdiv ⟨_, _, rfl, rfl, ⟨hs.1, by omega⟩, q.here (.int _)⟩
    · cases h
  · cases h
theorem o2_mod (h : op2 .mod a b = some d) (ra : Rp X O H a x) (rb : Rp X O H b y) (q : Post X O H d Q) : wO X (binaryOp .Mod) x y H Q := by
  unfold op2 at h
  simp only at h
  split at h
  · split at h
    · next i j hs =>
      cases h
      cases ra
      cases rb
      simp only [decide_eq_true_eq] at hs
      exact wO_of op_mod ⟨_, _, rfl, rfl, hs, q.here (.int _)⟩
    · cases h
  · cases h

/-! ### comparisons -/
mutual
theorem rep_dp {K : PySem.W.Frag} : ∀ (d : D) (v : V), d.canLay0 = true → Rep X.prog X.w (hide O H) d v → Dp K H v d
  | .none, _, _, r => by cases r; exact .non
  | .bool b, _, _, r => by cases r; exact .bl b
  | .int i, _, _, r => by cases r; exact .int i
  | .str s, _, _, r => by cases r; exact .str s
  | .list ds, _, h, r => by
    cases r with
    | lst h1 r1 => exact .lst (sqL h1) (repL_dp ds _ (by simpa only [PyData.canLay0] using h) r1)
  | .tuple ds, _, h, r => by
    cases r with
    | tup h1 n1 r1 => exact .tup (sqT h1) (repL_dp ds _ (by simpa only [PyData.canLay0] using h) r1)
  | .dict _, _, h, _ => by simp [PyData.canLay0] at h
theorem repL_dp {K : PySem.W.Frag} : ∀ (ds : List D) (vs : List V), PyData.canLayAll0 ds = true → RepL X.prog X.w (hide O H) ds vs → DpAll K H vs ds
  | [], _, _, r => by cases r; exact .nil
  | d :: ds, _, h, r => by
    rw [PyData.canLayAll0, Bool.and_eq_true] at h
    cases r with
    | cons r1 r2 => exact .cons (rep_dp d _ h.1 r1) (repL_dp ds _ h.2 r2)
end
theorem o2_eq (hu : X.A.units + 64 < cLine) (h : op2 .eq a b = some d) (ra : Rp X O H a x) (rb : Rp X O H b y) (q : Post X O H d Q) : wO X (compareOp .Eq) x y H Q := by
  unfold op2 at h
  simp only at h
  split at h
  · next i j =>
    cases h
    cases ra
    cases rb
    refine wO_of op_eq ⟨rfl, ?_⟩
    have e : decide (V.int i = V.int j) = decide (i = j) := by rw [dec_int, Bool.beq_eq_decide_eq]
    rw [e]
    exact q.here (.bl _)
  · next i j =>
    cases h
    cases ra
    cases rb
    refine wO_of op_eq ⟨rfl, ?_⟩
    have e : decide (V.str i = V.str j) = decide (i = j) := by rw [dec_str, Bool.beq_eq_decide_eq]
    rw [e]
    exact q.here (.bl _)
  · split at h
    · next hs =>
      cases h
      rw [Bool.and_eq_true] at hs
      exact wO_of (op_eqD hu) ⟨a, b, rep_dp a _ (SeqAt.canLay_of_shaped hs.1) ra, rep_dp b _ (SeqAt.canLay_of_shaped hs.2) rb, hs.1, hs.2, q.here (.bl _)⟩
    · cases h
theorem o2_ne (hu : X.A.units + 64 < cLine) (h : op2 .ne a b = some d) (ra : Rp X O H a x) (rb : Rp X O H b y) (q : Post X O H d Q) : wO X (compareOp .NotEq) x y H Q := by
  unfold op2 at h
  simp only at h
  split at h
  · next i j =>
    cases h
    cases ra
    cases rb
    refine wO_of op_ne ⟨rfl, ?_⟩
    have e : decide (V.int i = V.int j) = decide (i = j) := by rw [dec_int, Bool.beq_eq_decide_eq]
    rw [e]
    exact q.here (.bl _)
  · next i j =>
    cases h
    cases ra
    cases rb
    refine wO_of op_ne ⟨rfl, ?_⟩
    have e : decide (V.str i = V.str j) = decide (i = j) := by rw [dec_str, Bool.beq_eq_decide_eq]
    rw [e]
    exact q.here (.bl _)
  · split at h
    · next hs =>
      cases h
      rw [Bool.and_eq_true] at hs
      exact wO_of (op_neD hu) ⟨a, b, rep_dp a _ (SeqAt.canLay_of_shaped hs.1) ra, rep_dp b _ (SeqAt.canLay_of_shaped hs.2) rb, hs.1, hs.2, q.here (.bl _)⟩
    · cases h
theorem o2_lt (h : op2 .lt a b = some d) (ra : Rp X O H a x) (rb : Rp X O H b y) (q : Post X O H d Q) : wO X (compareOp .Lt) x y H Q := by
  unfold op2 at h
  simp only at h
  split at h
  · cases h
    cases ra
    cases rb
    exact wO_of op_lt ⟨_, _, rfl, rfl, q.here (.bl _)⟩
  · cases h
theorem o2_le (h : op2 .le a b = some d) (ra : Rp X O H a x) (rb : Rp X O H b y) (q : Post X O H d Q) : wO X (compareOp .LtE) x y H Q := by
  unfold op2 at h
  simp only at h
  split at h
  · cases h
    cases ra
    cases rb
    exact wO_of op_le ⟨_, _, rfl, rfl, q.here (.bl _)⟩
  · cases h
theorem o2_gt (h : op2 .gt a b = some d) (ra : Rp X O H a x) (rb : Rp X O H b y) (q : Post X O H d Q) : wO X (compareOp .Gt) x y H Q := by
  unfold op2 at h
  simp only at h
  split at h
  · cases h
    cases ra
    cases rb
    exact wO_of op_gt ⟨_, _, rfl, rfl, q.here (.bl _)⟩
  · cases h
theorem o2_ge (h : op2 .ge a b = some d) (ra : Rp X O H a x) (rb : Rp X O H b y) (q : Post X O H d Q) : wO X (compareOp .GtE) x y H Q := by
  unfold op2 at h
  simp only at h
  split at h
  · cases h
    cases ra
    cases rb
    exact wO_of op_ge ⟨_, _, rfl, rfl, q.here (.bl _)⟩
  · cases h
end

/-! ### dicts -/
section
variable {P : Program} {w : World} {G : Hp}
theorem RepK.atKey : ∀ {kvs : List (D × D)} {xs : List (NestedKey × Addr × Value)}, RepK P w G kvs xs → ∀ {k : D} {nk : NestedKey}, toKey k = some nk →
    (match dget k kvs with
      | some d => ∃ p v, PySem.atKey xs nk = some p ∧ RelV v p.2 ∧ Rep P w G d v
      | none => PySem.atKey xs nk = none)
  | [], _, h, k, nk, e => by
    cases h
    rfl
  | (a, x) :: r, _, h, k, nk, e => by
    cases h with
    | cons h1 h2 h3 h4 h5 h6 =>
      rename_i nk' ka u v xs'
      have q := keq_key a k _ _ h1 e
      unfold dget
      rw [q]
      by_cases hk : nk' = nk
      · subst hk
        rw [decide_eq_true rfl, if_pos rfl]
        exact ⟨(ka, u), v, by simp [PySem.atKey], h4, h5⟩
      · rw [decide_eq_false hk, if_neg Bool.false_ne_true]
        have ih := RepK.atKey h6 e
        have e2 : PySem.atKey ((nk', ka, u) :: xs') nk = PySem.atKey xs' nk := by simp [PySem.atKey, List.find?_cons, hk]
        rw [e2]
        exact ih
theorem RepK.mem : ∀ {kvs : List (D × D)} {xs : List (NestedKey × Addr × Value)}, RepK P w G kvs xs → ∀ x, x ∈ xs → ∃ k, toKey k = some x.1 ∧ x.1.depth ≤ 8 ∧ Rep P w G k (.ref x.2.1)
  | [], _, h, x, hx => by
    cases h
    cases hx
  | (a, d) :: r, _, h, x, hx => by
    cases h with
    | cons h1 h2 h3 h4 h5 h6 =>
      rcases List.mem_cons.mp hx with e | hx
      · subst e
        exact ⟨a, h1, h2, h3⟩
      · exact RepK.mem h6 x hx
theorem RepK.keys : ∀ {kvs : List (D × D)} {xs : List (NestedKey × Addr × Value)}, RepK P w G kvs xs → RepL P w G (kvs.map (·.1)) (xs.map fun x => V.ref x.2.1)
  | [], _, h => by
    cases h
    exact .nil
  | (a, d) :: r, _, h => by
    cases h with
    | cons h1 h2 h3 h4 h5 h6 => exact .cons h3 (RepK.keys h6)
theorem dget_mem : ∀ {kvs : List (D × D)} {xs : List (NestedKey × Addr × Value)}, RepK P w G kvs xs → ∀ {k : D} {nk : NestedKey}, toKey k = some nk → dget k kvs = none → ∀ x, x ∈ xs → x.1 ≠ nk
  | [], _, h, k, nk, e, hn, x, hx => by
    cases h
    cases hx
  | (a, d) :: r, _, h, k, nk, e, hn, x, hx => by
    cases h with
    | cons h1 h2 h3 h4 h5 h6 =>
      unfold dget at hn
      rw [keq_key a k _ _ h1 e] at hn
      split at hn
      · cases hn
      · next hk =>
        rcases List.mem_cons.mp hx with e2 | hx
        · subst e2
          exact fun z => hk (decide_eq_true z)
        · exact dget_mem h6 e hn x hx
/-- stored under a key that is new, or not -/
theorem RepK.putAt : ∀ {kvs : List (D × D)} {xs : List (NestedKey × Addr × Value)}, RepK P w G kvs xs → ∀ {k d : D} {nk : NestedKey} {u : Value} {v : V}, toKey k = some nk → RelV v u → Rep P w G d v →
    (dget k kvs).isSome = true → (xs.map (·.1)).Nodup → RepK P w G (dput k d kvs) (xs.map (PySem.putAt nk u))
  | [], _, h, k, d, nk, u, v, e, rv, rd, hs, nd => by simp [dget] at hs
  | (a, x) :: r, _, h, k, d, nk, u, v, e, rv, rd, hs, nd => by
    cases h with
    | cons h1 h2 h3 h4 h5 h6 =>
      rename_i nk' ka u' v' xs'
      have q := keq_key a k _ _ h1 e
      rw [List.map_cons, List.nodup_cons] at nd
      unfold dput
      unfold dget at hs
      rw [q] at hs ⊢
      by_cases hk : nk' = nk
      · subst hk
        rw [decide_eq_true rfl, if_pos rfl]
        have e2 : xs'.map (PySem.putAt nk' u) = xs' := map_putAt_of_not_mem xs' nk' u nd.1
        rw [List.map_cons, e2]
        have e3 : PySem.putAt nk' u (nk', ka, u') = (nk', ka, u) := by simp [PySem.putAt]
        rw [e3]
        exact .cons h1 h2 h3 rv rd h6
      · rw [decide_eq_false hk, if_neg Bool.false_ne_true] at hs ⊢
        have e3 : PySem.putAt nk u (nk', ka, u') = (nk', ka, u') := by simp [PySem.putAt, hk]
        rw [List.map_cons, e3]
        exact .cons h1 h2 h3 h4 h5 (RepK.putAt h6 e rv rd hs nd.2)
theorem RepK.putNew : ∀ {kvs : List (D × D)} {xs : List (NestedKey × Addr × Value)}, RepK P w G kvs xs → ∀ {k d : D} {nk : NestedKey} {ka : Addr} {u : Value} {v : V}, toKey k = some nk → nk.depth ≤ 8 → Rep P w G k (.ref ka) → RelV v u → Rep P w G d v →
    dget k kvs = none → RepK P w G (dput k d kvs) (xs ++ [(nk, ka, u)])
  | [], _, h, k, d, nk, ka, u, v, e, hd, rk, rv, rd, hs => by
    cases h
    exact .cons e hd rk rv rd .nil
  | (a, x) :: r, _, h, k, d, nk, ka, u, v, e, hd, rk, rv, rd, hs => by
    cases h with
    | cons h1 h2 h3 h4 h5 h6 =>
      rename_i nk' ka' u' v' xs'
      have q := keq_key a k _ _ h1 e
      unfold dput
      unfold dget at hs
      rw [q] at hs ⊢
      by_cases hk : nk' = nk
      · subst hk
        rw [decide_eq_true rfl, if_pos rfl] at hs
        cases hs
      · rw [decide_eq_false hk, if_neg Bool.false_ne_true] at hs ⊢
        exact .cons h1 h2 h3 h4 h5 (RepK.putNew h6 e hd rk rv rd hs)
theorem RepK.storedH {kvs : List (D × D)} {xs : List (NestedKey × Addr × Value)} (h : RepK P w G kvs xs) {k d : D} {nk : NestedKey} {ka : Addr} {u : Value} {v : V} (e : toKey k = some nk) (hd : nk.depth ≤ 8) (rk : Rep P w G k (.ref ka)) (rv : RelV v u) (rd : Rep P w G d v)
    (nd : (xs.map (·.1)).Nodup) : RepK P w G (dput k d kvs) (PySem.storedH xs nk ka u) := by
  have q := h.atKey e
  cases hg : dget k kvs with
  | some x =>
    rw [hg] at q
    obtain ⟨p, v', q1, _⟩ := q
    rw [storedH_old q1]
    exact h.putAt e rv rd (by rw [hg]; rfl) nd
  | none =>
    rw [hg] at q
    rw [storedH_new q]
    exact h.putNew e hd rk rv rd hg
end

section
variable {X : Cx} {pins : List (Addr × Obj)} {σ : L2.St} {O : List Addr} {H : Hp} {s : Shared}
mutual
theorem rep_nested (I : Inv X pins σ H s) : ∀ (d : D) (k : NestedKey) (v : V) (u : Value), toKey d = some k → Rep X.prog X.w (hide O H) d v → RelV v u → NestedIs s.heap k u
  | .int i, k, v, u, e, r, rv => by
    cases e
    cases r
    obtain ⟨t, rfl⟩ := rv
    exact .int i t
  | .tuple ds, k, v, u, e, r, rv => by
    simp only [toKey] at e
    split at e
    · next ks eks =>
      cases e
      cases r with
      | tup h1 n1 r1 =>
        cases rv
        obtain ⟨its, rl, ⟨o, ho, hc, n, hd⟩, _⟩ := I.tuple (sqT (K := X.K) h1)
        exact .tup ho hc hd (repL_nested I ds ks _ _ eks r1 (by simpa using rl))
    · cases e
  | .none, k, v, u, e, r, rv => by simp [toKey] at e
  | .bool _, k, v, u, e, r, rv => by simp [toKey] at e
  | .str _, k, v, u, e, r, rv => by simp [toKey] at e
  | .list _, k, v, u, e, r, rv => by simp [toKey] at e
  | .dict _, k, v, u, e, r, rv => by simp [toKey] at e
theorem repL_nested (I : Inv X pins σ H s) : ∀ (ds : List D) (ks : List NestedKey) (vs : List V) (us : List Value), toKeys ds = some ks → RepL X.prog X.w (hide O H) ds vs → Vals vs us → NestedAll s.heap ks us
  | [], ks, vs, us, e, r, rv => by
    cases e
    cases r
    cases rv
    exact .nil
  | d :: ds, ks, vs, us, e, r, rv => by
    simp only [toKeys] at e
    split at e
    · next k e1 =>
      split at e
      · next kr e2 =>
        cases e
        cases r with
        | cons r1 r2 =>
          cases rv with
          | cons q1 q2 => exact .cons (rep_nested I d k _ _ e1 r1 q1) (repL_nested I ds kr _ _ e2 r2 q2)
      · cases e
    · cases e
end
theorem rep_is (I : Inv X pins σ H s) {d : D} {k : NestedKey} {a : Addr} (e : toKey d = some k) (hd : k.depth ≤ 8) (r : Rep X.prog X.w (hide O H) d (.ref a)) : (nestedKind X.prog X.w).is s.heap k a :=
  ⟨rep_nested I d k _ _ e r rfl, hd⟩
theorem at_ok (I : Inv X pins σ H s) {p : Addr} {o : Obj} (h : H p = some (At p o)) : s.heap.get? p = some o := (I.hok p _ h).1
theorem at_mk {P : Program} {w : World} {H : Hp} {h : Heap} {p : Addr} {o : Obj} (e : h.get? p = some o) : ObjOk P w H h p (At p o) := ⟨e, ⟨o, e⟩, fun h1 h2 q k => k o q⟩
theorem dict_of (I : Inv X pins σ H s) {p : Addr} {o : Obj} {xs : List (NestedKey × Addr × Value)} {kvs : List (D × D)} (h : H p = some (At p o)) (dob : DObj X.prog X.w o xs) (r : RepK X.prog X.w (hide O H) kvs xs) :
    s.heap.DictOfH (nestedKind X.prog X.w) p xs := by
  obtain ⟨es, ep, e1, e2⟩ := dob.dat
  exact ⟨o, es, ep, at_ok I h, dob.exact, e1, e2, fun x hx => by
    obtain ⟨k, q1, q2, q3⟩ := r.mem x hx
    exact rep_is I q1 q2 q3, dob.nd⟩
theorem room8 {n : Nat} {A : Around} (hr : Room n A) : (nestedKind X.prog X.w).room A.in1 := by
  have := hr.un
  show A.units + 1 + 8 < cLine
  omega
theorem dobj_of {P : Program} {w : World} {h : Heap} {p : Addr} {xs : List (NestedKey × Addr × Value)} (m : h.DictOfH (nestedKind P w) p xs) : ∃ o, h.get? p = some o ∧ DObj P w o xs := by
  obtain ⟨o, es, ep, e1, e2, e3, e4, _, e5⟩ := m
  exact ⟨o, e1, e2, ⟨es, ep, e3, e4⟩, e5⟩
end

section
variable {X : Cx} {O : List Addr} {H : Hp} {Q : VK} {a b d : D} {x y : V} {n : Nat}
theorem intsV {G : Hp} {ds : List D} {ns : List Int} {vs : List V} (e : intsO ds = some ns) (r : RepL X.prog X.w G ds vs) : vs = ns.map V.int := by
  rw [ints_eq e] at r
  exact r.intsV
theorem strsO_eq : ∀ {ds : List D} {ns : List Str}, strsO ds = some ns → ds = ns.map .str
  | [], ns, h => by cases h; rfl
  | d :: ds, ns, h => by
    unfold strsO at h
    split at h
    · next h0 => cases h0
    · next i r h0 =>
      cases h0
      split at h
      · next l e =>
        cases h
        rw [strsO_eq e]
        rfl
      · cases h
    · cases h
theorem RepL.strsV {P : Program} {w : World} {G : Hp} {ns : List Str} {vs : List V} (h : RepL P w G (ns.map .str) vs) : vs = ns.map V.str := by
  induction ns generalizing vs with
  | nil => cases h; rfl
  | cons n ns ih =>
    cases h with
    | cons h1 h2 =>
      cases h1
      rw [ih h2]
      rfl
theorem any_int (k : Int) : ∀ ns : List Int, inV (.int k) (ns.map V.int) = ns.any fun z => decide (z = k)
  | [] => rfl
  | n :: ns => by
    have ih := any_int k ns
    unfold inV at ih ⊢
    rw [List.map_cons, List.any_cons, List.any_cons, ih]
    show ((n == k) || _) = _
    rw [Bool.beq_eq_decide_eq]
theorem any_str (k : Str) : ∀ ns : List Str, inV (.str k) (ns.map V.str) = ns.any fun z => decide (z = k)
  | [] => rfl
  | n :: ns => by
    have ih := any_str k ns
    unfold inV at ih ⊢
    rw [List.map_cons, List.any_cons, List.any_cons, ih]
    show ((n == k) || _) = _
    rw [Bool.beq_eq_decide_eq]
theorem flat_ints (ns : List Int) : (ns.map V.int).all flatV = true := by
  rw [List.all_map]
  exact List.all_eq_true.mpr fun _ _ => rfl
theorem flat_strsL (ns : List Str) : (ns.map V.str).all flatV = true := by
  rw [List.all_map]
  exact List.all_eq_true.mpr fun _ _ => rfl
theorem o2_in (hr : Room n X.A) {r : Bool} (neg : Bool) (h : isIn a b = some r) (ra : Rp X O H a x) (rb : Rp X O H b y) (q : Post X O H (.bool (if neg then !r else r)) Q) :
    wO X (compareOp (if neg then .NotIn else .In)) x y H Q := by
  have hu65 : X.A.units + 65 < cLine := by have := hr.un; omega
  unfold isIn at h
  split at h
  · next xs =>
    split at h
    · next hs =>
      cases h
      rw [Bool.and_eq_true] at hs
      have c1 := rep_dp (K := X.K) a _ (SeqAt.canLay_of_shaped hs.1) ra
      have c2 := rep_dp (K := X.K) _ _ (SeqAt.canLay_of_shaped hs.2) rb
      cases neg with
      | false => exact wO_of (op_inD hu65) ⟨a, xs, c1, c2, hs.1, hs.2, q.here (.bl _)⟩
      | true => exact wO_of (op_notInD hu65) ⟨a, xs, c1, c2, hs.1, hs.2, q.here (.bl _)⟩
    · cases h
  · next xs =>
    split at h
    · next k =>
      split at h
      · next ns e =>
        cases h
        cases ra
        cases rb with
        | tup h1 n1 r1 =>
          rw [intsV e r1] at h1
          rw [← any_int] at q
          cases neg with
          | false => exact wO_of op_in_seq ⟨_, _, rfl, .inr (sqT h1), rfl, flat_ints ns, q.here (.bl _)⟩
          | true => exact wO_of op_notIn_seq ⟨_, _, rfl, .inr (sqT h1), rfl, flat_ints ns, q.here (.bl _)⟩
      · cases h
    · next k =>
      split at h
      · next ns e =>
        cases h
        cases ra
        cases rb with
        | tup h1 n1 r1 =>
          rw [strsO_eq e] at r1
          rw [r1.strsV] at h1
          rw [← any_str] at q
          cases neg with
          | false => exact wO_of op_in_seq ⟨_, _, rfl, .inr (sqT h1), rfl, flat_strsL ns, q.here (.bl _)⟩
          | true => exact wO_of op_notIn_seq ⟨_, _, rfl, .inr (sqT h1), rfl, flat_strsL ns, q.here (.bl _)⟩
      · cases h
    · cases h
  · next kvs =>
    split at h
    · next hk =>
      cases h
      obtain ⟨k, e1, e2, ts, e3⟩ := tupKey_of hk
      subst e3
      cases ra with
      | tup ha n1 r1 =>
        cases rb with
        | dct h1 hsm dob rk =>
          rename_i ta to txs dp o xs
          have key := rk.atKey e1
          have e : (PySem.atKey xs k).isSome = (dget (.tuple ts) kvs).isSome := by
            cases hg : dget (.tuple ts) kvs with
            | some z =>
              rw [hg] at key
              obtain ⟨p, v, q1, _⟩ := key
              rw [q1]
              rfl
            | none =>
              rw [hg] at key
              rw [key]
              rfl
          intro pins s σ v u I rx ry
          cases rx
          cases ry
          have m := dict_of I (hide_some h1).1 dob rk
          have kis := rep_is I e1 e2 (.tup ha n1 r1)
          cases neg with
          | false =>
            refine wpAny_in_heap (room8 hr) kis hsm m ?_
            rw [e]
            exact ⟨.bl _, H, I.tok _, rfl, q.here (.bl _)⟩
          | true =>
            have m2 : s.heap.DictKeyed (nestedKind X.prog X.w) dp (pairsH xs) := ⟨xs, m, rfl⟩
            refine notIn_keyed (room8 hr) kis hsm m2 ?_
            rw [valueAt_pairsH, Option.isSome_map, e]
            exact ⟨.bl _, H, I.tok _, rfl, q.here (.bl _)⟩
    · cases h
  · cases h
end
end Sq
end

section
set_option Elab.async false
set_option linter.all false
set_option maxRecDepth 100000
set_option maxHeartbeats 1000000
/-! built-in functions, subscripts, slices, methods, by data -/
namespace Sq
open PySem L2 PyProof.Rows

section
variable {X : Cx} {O : List Addr} {H : Hp} {Q : VK} {a b c d : D} {x y z : V} {n : Nat}

theorem seqOf_rep {xs : List D} (h : seqOf a = some xs) (ra : Rp X O H a x) : ∃ p vs, x = .ref p ∧ (SqL X.K H p vs ∨ SqT X.K H p vs) ∧ RepL X.prog X.w (hide O H) xs vs := by
  unfold seqOf at h
  split at h
  · cases h
    cases ra with
    | lst h1 r1 => exact ⟨_, _, rfl, .inl (sqL h1), r1⟩
  · cases h
    cases ra with
    | tup h1 n1 r1 => exact ⟨_, _, rfl, .inr (sqT h1), r1⟩
  · cases h
theorem o1_len (h : op1 .len a = some d) (ra : Rp X O H a x) (q : Post X O H d Q) : wC X (.builtin "len") [x] H Q := by
  unfold op1 at h
  simp only at h
  split at h
  · next xs e =>
    cases h
    obtain ⟨p, vs, rfl, hs, r⟩ := seqOf_rep e ra
    refine wC_of call_len_seq ⟨p, vs, rfl, hs, ?_⟩
    rw [← r.length]
    exact q.here (.int _)
  · cases h
theorem o1_int (h : op1 .int a = some d) (ra : Rp X O H a x) (q : Post X O H d Q) : wC X (.type "int") [x] H Q := by
  unfold op1 at h
  simp only at h
  split at h
  · cases h
    cases ra
    exact wC_of call_int1 (.inl ⟨_, rfl, q.here (.int _)⟩)
  · cases h
    cases ra
    exact wC_of call_int1 (.inr ⟨_, rfl, q.here (.int _)⟩)
  · cases h
theorem o1_abs (h : op1 .abs a = some d) (ra : Rp X O H a x) (q : Post X O H d Q) : wC X (.builtin "abs") [x] H Q := by
  unfold op1 at h
  simp only at h
  split at h
  · cases h
    cases ra
    exact wC_of call_abs ⟨_, rfl, q.here (.int _)⟩
  · cases h
theorem o1_all (hc : X.calm = true) (h : op1 .all a = some d) (ra : Rp X O H a x) (q : Post X O H d Q) : wC X (.builtin "all") [x] H Q := by
  unfold op1 at h
  simp only at h
  split at h
  · split at h
    · next bs e =>
      cases h
      cases ra with
      | lst h1 r1 =>
        rw [bools_eq e] at r1
        rw [r1.boolsV] at h1
        exact wC_of (cr_all hc) ⟨_, bs, rfl, sqL h1, q.here (.bl _)⟩
    · cases h
  · cases h
theorem o1_any (hc : X.calm = true) (h : op1 .any a = some d) (ra : Rp X O H a x) (q : Post X O H d Q) : wC X (.builtin "any") [x] H Q := by
  unfold op1 at h
  simp only at h
  split at h
  · split at h
    · next bs e =>
      cases h
      cases ra with
      | lst h1 r1 =>
        rw [bools_eq e] at r1
        rw [r1.boolsV] at h1
        exact wC_of (cr_any hc) ⟨_, bs, rfl, sqL h1, q.here (.bl _)⟩
    · cases h
  · cases h
theorem sumL_eq : ∀ ns : List Int, sumL ns = ns.sum
  | [] => rfl
  | n :: ns => by
    rw [List.sum_cons, ← sumL_eq ns]
    rfl
theorem o1_sum (hc : X.calm = true) (h : op1 .sum a = some d) (ra : Rp X O H a x) (q : Post X O H d Q) : wC X (.builtin "sum") [x] H Q := by
  unfold op1 at h
  simp only at h
  split at h
  · next xs e =>
    split at h
    · next ns e2 =>
      cases h
      rw [sumL_eq] at q
      obtain ⟨p, vs, rfl, hs, r⟩ := seqOf_rep e ra
      rw [intsV e2 r] at hs
      rcases hs with hs | hs
      · exact wC_of (cr_sum hc) ⟨p, ns, rfl, hs, q.here (.int _)⟩
      · intro pins s σ us I rv
        obtain ⟨u, rfl, ru⟩ := vals1 rv
        cases ru
        obtain ⟨its, r1, tp, _⟩ := I.tuple hs
        have hi := Vals.ints r1
        obtain ⟨zs, ez⟩ := hi.allInts.items
        have hn : numsOf (intItems zs).toList = ns := by
          rw [← ez]
          exact hi.numsOf
        rw [nums_intItems] at hn
        have tp' : s.heap.IsTuple p its.toArray := tp
        rw [ez] at tp'
        refine PySem.W.ktm_sumG (I.ok.hd hc) tp' fun h' tk t' hk => ?_
        rw [preSum_eq, List.take_of_length_le (by simp), hn]
        exact ⟨.int ns.sum, H, I.kept hk, ⟨t', rfl⟩, q.here (.int _)⟩
    · cases h
  · cases h
theorem minL_le : ∀ (ns : List Int) (m : Int), minL m ns ≤ m ∧ (∀ k, k ∈ ns → minL m ns ≤ k) ∧ (minL m ns = m ∨ minL m ns ∈ ns)
  | [], m => ⟨Int.le_refl m, fun _ h => (by cases h), .inl rfl⟩
  | n :: ns, m => by
    obtain ⟨h1, h2, h3⟩ := minL_le ns (if n < m then n else m)
    show minL (if n < m then n else m) ns ≤ m ∧ (∀ k, k ∈ n :: ns → minL (if n < m then n else m) ns ≤ k) ∧ (minL (if n < m then n else m) ns = m ∨ minL (if n < m then n else m) ns ∈ n :: ns)
    by_cases hn : n < m
    · rw [if_pos hn] at *
      refine ⟨by omega, fun k hk => ?_, ?_⟩
      · rcases List.mem_cons.mp hk with e | hk
        · omega
        · exact h2 k hk
      · rcases h3 with h3 | h3
        · exact .inr (by rw [h3]; exact List.mem_cons_self)
        · exact .inr (List.mem_cons_of_mem _ h3)
    · rw [if_neg hn] at *
      refine ⟨h1, fun k hk => ?_, ?_⟩
      · rcases List.mem_cons.mp hk with e | hk
        · omega
        · exact h2 k hk
      · rcases h3 with h3 | h3
        · exact .inl h3
        · exact .inr (List.mem_cons_of_mem _ h3)
theorem maxL_le : ∀ (ns : List Int) (m : Int), m ≤ maxL m ns ∧ (∀ k, k ∈ ns → k ≤ maxL m ns) ∧ (maxL m ns = m ∨ maxL m ns ∈ ns)
  | [], m => ⟨Int.le_refl m, fun _ h => (by cases h), .inl rfl⟩
  | n :: ns, m => by
    obtain ⟨h1, h2, h3⟩ := maxL_le ns (if m < n then n else m)
    show m ≤ maxL (if m < n then n else m) ns ∧ (∀ k, k ∈ n :: ns → k ≤ maxL (if m < n then n else m) ns) ∧ (maxL (if m < n then n else m) ns = m ∨ maxL (if m < n then n else m) ns ∈ n :: ns)
    by_cases hn : m < n
    · rw [if_pos hn] at *
      refine ⟨by omega, fun k hk => ?_, ?_⟩
      · rcases List.mem_cons.mp hk with e | hk
        · omega
        · exact h2 k hk
      · rcases h3 with h3 | h3
        · exact .inr (by rw [h3]; exact List.mem_cons_self)
        · exact .inr (List.mem_cons_of_mem _ h3)
    · rw [if_neg hn] at *
      refine ⟨h1, fun k hk => ?_, ?_⟩
      · rcases List.mem_cons.mp hk with e | hk
        · omega
        · exact h2 k hk
      · rcases h3 with h3 | h3
        · exact .inl h3
        · exact .inr (List.mem_cons_of_mem _ h3)
theorem o1_min (hc : X.calm = true) (h : op1 .min a = some d) (ra : Rp X O H a x) (q : Post X O H d Q) : wC X (.builtin "min") [x] H Q := by
  unfold op1 at h
  simp only at h
  split at h
  · split at h
    · next m ns e =>
      cases h
      cases ra with
      | lst h1 r1 =>
        rw [intsV e r1] at h1
        refine wC_of (cr_min hc) ⟨_, m :: ns, rfl, sqL h1, Nat.succ_pos _, fun k hk hl => ?_⟩
        obtain ⟨q1, q2, q3⟩ := minL_le ns m
        have e1 : minL m ns = k := by
          refine Int.le_antisymm ?_ (hl _ ?_)
          · rcases List.mem_cons.mp hk with e | hk
            · omega
            · exact q2 k hk
          · rcases q3 with q3 | q3
            · rw [q3]; exact List.mem_cons_self
            · exact List.mem_cons_of_mem _ q3
        rw [e1] at q
        exact q.here (.int _)
    · cases h
  · cases h
theorem o1_max (hc : X.calm = true) (h : op1 .max a = some d) (ra : Rp X O H a x) (q : Post X O H d Q) : wC X (.builtin "max") [x] H Q := by
  unfold op1 at h
  simp only at h
  split at h
  · split at h
    · next m ns e =>
      cases h
      cases ra with
      | lst h1 r1 =>
        rw [intsV e r1] at h1
        refine wC_of (cr_max hc) ⟨_, m :: ns, rfl, sqL h1, Nat.succ_pos _, fun k hk hl => ?_⟩
        obtain ⟨q1, q2, q3⟩ := maxL_le ns m
        have e1 : maxL m ns = k := by
          refine Int.le_antisymm (hl _ ?_) ?_
          · rcases q3 with q3 | q3
            · rw [q3]; exact List.mem_cons_self
            · exact List.mem_cons_of_mem _ q3
          · rcases List.mem_cons.mp hk with e | hk
            · omega
            · exact q2 k hk
        rw [e1] at q
        exact q.here (.int _)
    · cases h
  · cases h
theorem o2_min (hc : X.calm = true) (h : op2 .min a b = some d) (ra : Rp X O H a x) (rb : Rp X O H b y) (q : Post X O H d Q) : wC X (.builtin "min") [x, y] H Q := by
  unfold op2 at h
  simp only at h
  split at h
  · cases h
    cases ra
    cases rb
    exact wC_of (call_min2 hc) ⟨_, _, rfl, q.here (.int _)⟩
  · cases h
theorem o2_max (hc : X.calm = true) (h : op2 .max a b = some d) (ra : Rp X O H a x) (rb : Rp X O H b y) (q : Post X O H d Q) : wC X (.builtin "max") [x, y] H Q := by
  unfold op2 at h
  simp only at h
  split at h
  · cases h
    cases ra
    cases rb
    exact wC_of (call_max2 hc) ⟨_, _, rfl, q.here (.int _)⟩
  · cases h
/-- tuple(a list): a new tuple, known to the object -/
theorem o1_tup (t : Trk O H) (h : op1 .tup a = some d) (ra : Rp X O H a x) (q : Post X O H d Q) : wC X (.type "tuple") [x] H Q := by
  unfold op1 at h
  simp only at h
  split at h
  · cases h
    cases ra with
    | lst h1 r1 =>
      intro pins s σ us I rv
      obtain ⟨u, rfl, ru⟩ := vals1 rv
      cases ru
      obtain ⟨its, rl, pl, hz⟩ := I.list (sqL (K := X.K) h1)
      have hl := rl.length
      refine call_tuple_list pl.isList (fun h' kp => ?_) (by rw [List.size_toArray, ← hl]; exact hz)
      exact endT (I.kept (t' := s.toks) kp) rl hz (Post.newT t q r1)
  · cases h
end
end Sq
end

section
set_option Elab.async false
set_option linter.all false
set_option maxRecDepth 100000
set_option maxHeartbeats 1000000
/-! isinstance, subscripts, slices, methods, ranges, by data -/
namespace Sq
open PySem L2 PyProof.Rows
section
variable {X : Cx} {O : List Addr} {H : Hp} {Q : VK} {a b c d : D} {x y z : V} {n : Nat}
theorem o1_isi {o : O1} {T : String} (hT : bnI o = some T) (h : op1 o a = some d) (ra : Rp X O H a x) (q : Post X O H d Q) : wC X (.builtin "isinstance") [x, .ty T] H Q := by
  cases o with
  | isiI =>
    cases hT
    unfold op1 at h
    simp only at h
    split at h
    · cases h
      cases ra
      exact wC_of call_isi ⟨_, _, _, _, true, rfl, .ty _, .base (.int _), kit_ty (by decide +kernel), q.here (.bl _)⟩
    · cases h
      cases ra with
      | tup h1 n1 r1 => exact wC_of call_isi ⟨_, _, _, _, false, rfl, .ty _, .fTuple (hide_some h1).1, kit_ty (by decide +kernel), q.here (.bl _)⟩
    · cases h
      cases ra
      exact wC_of call_isi ⟨_, _, _, _, false, rfl, .ty _, .base (.str _), kit_ty (by decide +kernel), q.here (.bl _)⟩
    · cases h
  | isiB =>
    cases hT
    unfold op1 at h
    simp only at h
    split at h
    · cases h
      cases ra
      exact wC_of call_isi ⟨_, _, _, _, false, rfl, .ty _, .base (.int _), kit_ty (by decide +kernel), q.here (.bl _)⟩
    · cases h
  | isiT =>
    cases hT
    unfold op1 at h
    simp only at h
    split at h
    · cases h
      cases ra with
      | tup h1 n1 r1 => exact wC_of call_isi ⟨_, _, _, _, true, rfl, .ty _, .fTuple (hide_some h1).1, kit_ty (by decide +kernel), q.here (.bl _)⟩
    · cases h
  | isiS =>
    cases hT
    unfold op1 at h
    simp only at h
    split at h
    · cases h
      cases ra
      exact wC_of call_isi ⟨_, _, _, _, true, rfl, .ty _, .base (.str _), kit_ty (by decide +kernel), q.here (.bl _)⟩
    · cases h
  | _ => cases hT

/-! ### subscripts -/
def wIx (X : Cx) : R2 := fun x y H Q => ∀ (value slice : Expr) (pins : List (Addr × Obj)) (s : Shared) (σ : L2.St) (v u : Value), Inv X pins σ H s → RelV x v → RelV y u →
  subscripted slice false v u = operate [v, u] (getItem v u) → wpAny (model X.prog X.w) X.A (subscriptTail value slice v u) (EP X pins σ Q) X.xe s
theorem wIx_ok : IxR X (wIx X) := fun value slice pins s σ H x y v u Q I rx ry h hs => h value slice pins s σ v u I rx ry hs
theorem wIx_of {r : R2} (h : IxR X r) (q : r x y H Q) : wIx X x y H Q := fun value slice pins s σ v u I rx ry hs => h value slice pins s σ H x y v u Q I rx ry q hs
theorem ix_at {α : Type} {xs : List α} {n : Nat} {i : Int} {j : Nat} (hl : xs.length = n) (h : ix n i = some j) {v : α} (hv : xs[j]? = some v) : atI xs i = some v := by
  unfold atI ixN
  unfold ix at h
  split at h
  · next k =>
    split at h
    · next hk =>
      cases h
      have e1 : (0 : Int) ≤ Int.ofNat j := Int.natCast_nonneg _
      have e2 : Int.ofNat j < (xs.length : Int) := by
        show ((j : Nat) : Int) < _
        omega
      rw [if_pos e1, if_pos e2]
      show xs[(Int.ofNat j).toNat]? = _
      exact hv
    · cases h
  · next k =>
    split at h
    · next hk =>
      cases h
      have e1 : ¬ (0 : Int) ≤ Int.negSucc k := by
        rw [Int.negSucc_eq]
        omega
      have e2 : -(xs.length : Int) ≤ Int.negSucc k := by
        rw [Int.negSucc_eq]
        omega
      rw [if_neg e1, if_pos e2]
      have e3 : (Int.negSucc k + (xs.length : Int)).toNat = n - (k + 1) := by
        rw [Int.negSucc_eq]
        omega
      rw [e3]
      exact hv
    · cases h
theorem nth_eq : ∀ (xs : List D) (j : Nat), nth xs j = xs[j]?
  | [], _ => rfl
  | _ :: _, 0 => rfl
  | _ :: r, j + 1 => by
    show nth r j = (_ :: r)[j + 1]?
    rw [nth_eq r j, List.getElem?_cons_succ]
theorem o2_ix (hr : Room n X.A) (h : op2 .ix a b = some d) (ra : Rp X O H a x) (rb : Rp X O H b y) (q : Post X O H d Q) : wIx X x y H Q := by
  unfold op2 at h
  simp only at h
  split at h
  · split at h
    · next xs i =>
      split at h
      · next j e =>
        rw [nth_eq] at h
        cases rb
        cases ra with
        | lst h1 r1 =>
          obtain ⟨v, e1, r2⟩ := r1.get h
          exact wIx_of ix_list ⟨_, _, _, v, rfl, rfl, sqL h1, ix_at r1.length.symm e e1, q.here r2⟩
      · cases h
    · cases h
  · split at h
    · next xs i =>
      split at h
      · next j e =>
        rw [nth_eq] at h
        cases rb
        cases ra with
        | tup h1 n1 r1 =>
          obtain ⟨v, e1, r2⟩ := r1.get h
          exact wIx_of ix_tup ⟨_, _, _, v, rfl, rfl, sqT h1, ix_at r1.length.symm e e1, q.here r2⟩
      · cases h
    · cases h
  · split at h
    · next kvs hk =>
      obtain ⟨k, e1, e2, ts, e3⟩ := tupKey_of hk
      subst e3
      cases rb with
      | tup hb n1 r1 =>
        cases ra with
        | dct h1 hsm dob rk =>
          have key := rk.atKey e1
          rw [h] at key
          obtain ⟨p, v, q1, q2, q3⟩ := key
          intro value slice pins s σ w u I rx ry hs
          cases rx
          cases ry
          have m := dict_of I (hide_some h1).1 dob rk
          exact tail_any m.typeIs PySem.F.slot_dict_getitem.lookup (wpAny_getItem_heap (room8 hr) (rep_is I e1 e2 (.tup hb n1 r1)) m q1 ⟨v, H, I.tok _, q2, q.here q3⟩) hs
    · cases h
  · cases h

/-! ### slices -/
def wSl (X : Cx) : V → Option Int → Option Int → Hp → VK → Prop := fun x lo hi H Q => ∀ (pins : List (Addr × Obj)) (s : Shared) (σ : L2.St) (v vl vu : Value) (sl : Addr), Inv X pins σ H s → RelV x v → s.heap.IsSliceOf sl vl vu .none → IsPart vl lo → IsPart vu hi →
  ∃ T id, typeLookup (.type T) "__getitem__" = pure (some (.builtin id)) ∧ s.TypeIs v T ∧ wpAny (model X.prog X.w) X.A (getItem v (.ref sl)) (EP X pins σ Q) X.xe s
theorem wSl_ok : SlR X (wSl X) := fun pins s σ H x v vl vu lo hi sl Q I rx hs pl pu h => h pins s σ v vl vu sl I rx hs pl pu
theorem place_eq (n d : Nat) (i : Int) : place n i = HT.sIx n d (some i) := by
  show place n i = if i < 0 then (i + (n : Int)).toNat else min i.toNat n
  cases i with
  | ofNat j =>
    have e : ¬ Int.ofNat j < 0 := by
      show ¬ ((j : Nat) : Int) < 0
      omega
    rw [if_neg e]
    show (if j ≤ n then j else n) = min j n
    split <;> omega
  | negSucc j =>
    have e : Int.negSucc j < 0 := Int.negSucc_lt_zero j
    rw [if_pos e, Int.negSucc_eq]
    show n - (j + 1) = _
    omega
theorem cut_eq (xs : List D) (lo hi : Option Int) : cut xs lo hi = (xs.drop (HT.sIx xs.length 0 lo)).take (HT.sIx xs.length xs.length hi - HT.sIx xs.length 0 lo) := by
  cases lo with
  | none =>
    cases hi with
    | none => rfl
    | some j =>
      show List.take (place xs.length j - 0) (List.drop 0 xs) = _
      rw [place_eq xs.length xs.length j] <;> rfl
  | some i =>
    cases hi with
    | none =>
      show List.take (xs.length - place xs.length i) (List.drop (place xs.length i) xs) = _
      rw [place_eq xs.length 0 i] <;> rfl
    | some j =>
      show List.take (place xs.length j - place xs.length i) (List.drop (place xs.length i) xs) = _
      rw [place_eq xs.length 0 i, place_eq xs.length xs.length j] <;> rfl
theorem cut_rep {G : Hp} {xs : List D} {vs : List V} (r : RepL X.prog X.w G xs vs) (lo hi : Option Int) : RepL X.prog X.w G (cut xs lo hi) (cutV vs lo hi) := by
  rw [cut_eq]
  unfold cutV
  rw [r.length]
  exact (r.drop _).take _
/-- a[lo:hi] of a list, of a tuple -/
theorem sl_of (t : Trk O H) {lo hi : Option Int} (ra : Rp X O H a x)
    (h : (∃ xs, a = .list xs ∧ Post X O H (.list (cut xs lo hi)) Q) ∨ ∃ xs, a = .tuple xs ∧ Post X O H (.tuple (cut xs lo hi)) Q) : wSl X x lo hi H Q := by
  rcases h with ⟨xs, rfl, q⟩ | ⟨xs, rfl, q⟩
  · cases ra with
    | lst h1 r1 => exact fun pins s σ v vl vu sl I rx hs pl pu => sl_list pins s σ H _ v vl vu lo hi sl Q I rx hs pl pu ⟨_, _, rfl, sqL h1, Post.newL t q (cut_rep r1 lo hi)⟩
  · cases ra with
    | tup h1 n1 r1 =>
      rename_i p ob vs
      intro pins s σ v vl vu sl I rx hs pl pu
      cases rx
      obtain ⟨its, rl, tp, hz⟩ := I.tuple (sqT (K := X.K) h1)
      have size : its.toArray.size = vs.length := by rw [List.size_toArray, rl.length]
      refine ⟨"tuple", _, PyProof.Rows.slot_tuple_getitem.lookup, tp.typeIs, ?_⟩
      by_cases whole : HT.sIx vs.length 0 lo = 0 ∧ HT.sIx vs.length vs.length hi = vs.length
      · refine getItem_tuple_whole tp hs pl pu (by rw [size]; exact whole) ⟨.ref p, H, I, rfl, ?_⟩
        have e : cut xs lo hi = xs := by
          rw [cut_eq, r1.length, whole.1, whole.2, List.drop_zero, Nat.sub_zero, ← r1.length, List.take_length]
        rw [e] at q
        exact q.here (.tup h1 n1 r1)
      · refine HT.getItem_tuple_cut tp hs pl pu (by rw [size]; exact whole) ?_ (by rw [size]; exact hz)
        rw [size]
        exact endT I ((rl.drop _).take _) (Nat.le_trans (cutV_length vs lo hi) hz) (Post.newT t q (cut_rep r1 lo hi))
theorem o2_slTo (t : Trk O H) {i : Int} (h : op2 .slTo a (.int i) = some d) (ra : Rp X O H a x) (q : Post X O H d Q) : wSl X x none (some i) H Q := by
  unfold op2 at h
  simp only at h
  split at h
  · next e =>
    cases e
    cases h
    exact sl_of t ra (.inl ⟨_, rfl, q⟩)
  · next e =>
    cases e
    cases h
    exact sl_of t ra (.inr ⟨_, rfl, q⟩)
  · cases h
theorem o2_slFrom (t : Trk O H) {i : Int} (h : op2 .slFrom a (.int i) = some d) (ra : Rp X O H a x) (q : Post X O H d Q) : wSl X x (some i) none H Q := by
  unfold op2 at h
  simp only at h
  split at h
  · next e =>
    cases e
    cases h
    exact sl_of t ra (.inl ⟨_, rfl, q⟩)
  · next e =>
    cases e
    cases h
    exact sl_of t ra (.inr ⟨_, rfl, q⟩)
  · cases h
theorem o3_slice (t : Trk O H) {i j : Int} (h : op3 .slice a (.int i) (.int j) = some d) (ra : Rp X O H a x) (q : Post X O H d Q) : wSl X x (some i) (some j) H Q := by
  unfold op3 at h
  simp only at h
  split at h
  · next e1 e2 =>
    cases e1
    cases e2
    cases h
    exact sl_of t ra (.inl ⟨_, rfl, q⟩)
  · next e1 e2 =>
    cases e1
    cases e2
    cases h
    exact sl_of t ra (.inr ⟨_, rfl, q⟩)
  · cases h
theorem slTo_int {d' : D} (h : op2 .slTo a b = some d') : ∃ i, b = .int i := by
  unfold op2 at h
  simp only at h
  split at h
  · exact ⟨_, rfl⟩
  · exact ⟨_, rfl⟩
  · cases h
theorem slFrom_int {d' : D} (h : op2 .slFrom a b = some d') : ∃ i, b = .int i := by
  unfold op2 at h
  simp only at h
  split at h
  · exact ⟨_, rfl⟩
  · exact ⟨_, rfl⟩
  · cases h
theorem slice_int {d' : D} (h : op3 .slice a b c = some d') : ∃ i j, b = .int i ∧ c = .int j := by
  unfold op3 at h
  simp only at h
  split at h
  · exact ⟨_, _, rfl, rfl⟩
  · exact ⟨_, _, rfl, rfl⟩
  · cases h

/-! ### methods -/
/-- the value is of a built-in type and has no dict of its own -/
def TyW (X : Cx) (T : String) (x : V) (H : Hp) : Prop := ∀ (pins : List (Addr × Obj)) (s : Shared) (σ : L2.St) (v : Value), Inv X pins σ H s → RelV x v → s.TypeIs v T ∧ ∀ p, v = .ref p → ∃ ob, s.heap.get? p = some ob ∧ ob.dict = none
/-- a method by values -/
def wM (X : Cx) (id : String) : V → List V → Hp → VK → Prop := fun x xs H Q => ∀ (pins : List (Addr × Obj)) (s : Shared) (σ : L2.St) (v : Value) (us : List Value), Inv X pins σ H s → RelV x v → Vals xs us →
  wpAny (model X.prog X.w) X.A (call (.builtin id) (v :: us)) (EP X pins σ Q) X.xe s
def tMt (X : Cx) (T id : String) (to : TE) (t : TA) : TE := fun σ H Q => to σ H fun x H1 => TyW X T x H1 ∧ t σ H1 fun xs H2 => wM X id x xs H2 Q
theorem pe_mt {o e : Expr} {es : List Expr} {to : TE} {t : TA} {name : Str} {ap cp : Pos} {T id : String} (pa : PlainAttrs T) (slot : Slot T name id) (hty : typeOf (.builtin id) = pure (.type "method_descriptor")) (ho : PE X o to) (ha : PA X (e :: es) t)
    (hb : attributeBase o name X.env (eval o X.env) = eval o X.env)
    (few : ((backTo cp (starEach (e :: es) X.env)).all (fun x => !x.1) && (backToKw cp (keywordEach [] X.env)).all (fun x => x.1.isSome) && decide ((e :: es).length + ([] : List Keyword).length + (if ([] : List Keyword).isEmpty then 0 else 1) < 30)) = true)
    (line : (ap.endLine == cp.line) = true) (hs : starEach (e :: es) X.env = (false, eval e X.env) :: starEach es X.env) (pl : (backTo cp (starEach es X.env)).any (·.1) = false) :
    PE X (.Call (.Attribute o name ap) (e :: es) [] cp) (tMt X T id to t) := by
  refine ⟨fun pins s σ H Q I h => ?_⟩
  refine wpAny_Call_method_late hb few line rfl (thn (ho.run pins s σ H _ I h) fun v s1 ⟨x, H1, I1, r1, ty, q1⟩ => ?_)
  obtain ⟨k1, k2⟩ := ty pins s1 σ v I1 r1
  refine ⟨T, id, pa, slot, hty, k1, k2, ?_⟩
  have run := ha.run cp pins s1 σ H1 _ I1 q1
  rw [hs] at run ⊢
  have none_star : ((false, eval e X.env) :: starEach es X.env |> backTo cp).any (·.1) = false := by
    show (false || (backTo cp (starEach es X.env)).any (·.1)) = false
    rw [pl] <;> rfl
  refine Calls.callWith_builtin none_star (Calls.evalArgs_plain ?_)
  exact thn run fun us s2 ⟨vs, H2, I2, r2, q2⟩ => q2 pins s2 σ v us I2 r1 r2
theorem ty_tup {xs : List D} (ra : Rp X O H (.tuple xs) x) : TyW X "tuple" x H := by
  cases ra with
  | tup h1 n1 r1 =>
    intro pins s σ v I rv
    cases rv
    obtain ⟨ho, _, _, _, ob, ho2, hc, _⟩ := I.hok _ _ (hide_some h1).1
    rw [ho] at ho2
    cases ho2
    exact ⟨⟨_, ho, hc⟩, fun p e => by
      cases e
      exact ⟨_, ho, n1⟩⟩
theorem ty_at {p : Addr} {ob : Obj} {xs : List (NestedKey × Addr × Value)} (h : H p = some (At p ob)) (dob : DObj X.prog X.w ob xs) : TyW X "dict" (.ref p) H := by
  intro pins s σ v I rv
  cases rv
  have e := at_ok I h
  exact ⟨⟨_, e, dob.exact.1⟩, fun a z => by
    cases z
    exact ⟨_, e, dob.exact.2.1⟩⟩
theorem idx_mem {ns : List Int} {k : Int} (h : ns.contains k = true) : k ∈ ns := by simpa using h
theorem o2_index (h : op2 .index a b = some d) (ra : Rp X O H a x) (rb : Rp X O H b y) (q : Post X O H d Q) : TyW X "tuple" x H ∧ wM X "tuple.index" x [y] H Q := by
  unfold op2 at h
  simp only at h
  split at h
  · next xs k =>
    split at h
    · next ns e =>
      split at h
      · next hk =>
        cases h
        refine ⟨ty_tup ra, ?_⟩
        cases rb
        cases ra with
        | tup h1 n1 r1 =>
          rw [intsV e r1] at h1
          intro pins s σ v us I rv ru
          cases rv
          obtain ⟨u, rfl, t, rfl⟩ := vals1 ru
          obtain ⟨its, rl, tp, _⟩ := I.tuple (sqT (K := X.K) h1)
          exact SeqAt.tuple_index_ints tp (Vals.ints rl) (idx_mem hk) ⟨.int _, H, I.tok _, ⟨_, rfl⟩, q.here (.int _)⟩
      · cases h
    · cases h
  · cases h
theorem get_at {p : Addr} {ob : Obj} {xs : List (NestedKey × Addr × Value)} {kvs : List (D × D)} (hr : Room n X.A) (h1 : H p = some (At p ob)) (hsm : (p == sysModules) = false) (dob : DObj X.prog X.w ob xs) (rk : RepK X.prog X.w (hide O H) kvs xs)
    (hk : isTupKey b = true) (rb : Rp X O H b y) (rc : Rp X O H c z) (q : Post X O H ((dget b kvs).getD c) Q) : wM X "dict.get" (.ref p) [y, z] H Q := by
  obtain ⟨k, e1, e2, ts, e3⟩ := tupKey_of hk
  subst e3
  cases rb with
  | tup hb n1 r1 =>
    have key := rk.atKey e1
    intro pins s σ v us I rv ru
    cases rv
    obtain ⟨u, u2, rfl, q1, q2⟩ := vals2 ru
    cases q1
    have m := dict_of I h1 dob rk
    refine getOr_keyed (room8 hr) (rep_is I e1 e2 (.tup hb n1 r1)) hsm ⟨xs, m, rfl⟩ ?_
    rw [valueAt_pairsH]
    cases hg : dget (.tuple ts) kvs with
    | some x' =>
      rw [hg] at key q
      obtain ⟨w, v', k1, k2, k3⟩ := key
      rw [k1]
      exact ⟨v', H, I.tok _, k2, q.here k3⟩
    | none =>
      rw [hg] at key q
      rw [key]
      exact ⟨z, H, I.tok _, q2, q.here rc⟩
theorem o3_get (hr : Room n X.A) (h : op3 .get a b c = some d) (ra : Rp X O H a x) (rb : Rp X O H b y) (rc : Rp X O H c z) (q : Post X O H d Q) : wM X "dict.get" x [y, z] H Q := by
  unfold op3 at h
  simp only at h
  split at h
  · split at h
    · next kvs hk =>
      cases h
      cases ra with
      | dct h1 hsm dob rk => exact get_at hr (hide_some h1).1 hsm dob rk hk rb rc q
    · cases h
  · cases h
theorem get_ty {d' : D} (h : op3 .get a b c = some d') (ra : Rp X O H a x) : TyW X "dict" x H := by
  unfold op3 at h
  simp only at h
  split at h
  · cases ra with
    | dct h1 hsm dob rk => exact ty_at (hide_some h1).1 dob
  · cases h

/-! ### ranges laid out -/
theorem rng_rep {G : Hp} (step : Int) : ∀ (m : Nat) (lo : Int), RepL X.prog X.w G (rng lo step m) ((List.range m).map fun (i : Nat) => V.int (lo + i * step))
  | 0, _ => .nil
  | m + 1, lo => by
    rw [List.range_succ_eq_map, List.map_cons, List.map_map]
    have ih := rng_rep (G := G) step m (lo + step)
    have e : ((fun (i : Nat) => V.int (lo + i * step)) ∘ Nat.succ) = fun (i : Nat) => V.int (lo + step + i * step) := by
      funext i
      show V.int (lo + ((i + 1 : Nat) : Int) * step) = _
      rw [show ((i + 1 : Nat) : Int) = (i : Int) + 1 by omega, Int.add_mul, Int.one_mul]
      congr 1
      omega
    rw [e]
    have e0 : V.int (lo + ((0 : Nat) : Int) * step) = V.int lo := by
      congr 1
      simp
    rw [e0]
    exact .cons (.int lo) ih
/-- tuple(range(k)) -/
def tTR (ta : TE) : TE := fun σ H Q => ta σ H fun x H1 => ∃ k : Int, x = .int k ∧ (0 : Int) = 0 ∧ k.natAbs < 1000000 ∧ QT H1 (rgV 0 k) Q
theorem pe_tr {e : Expr} {te : TE} {p p2 pos pos2 : Pos} (hc : X.calm = true) (g1 : Gl X "tuple") (m1 : X.mg "tuple" = none) (g2 : Gl X "range") (m2 : X.mg "range" = none) (he : PE X e te) (na : starEach [e] X.env = (false, eval e X.env) :: starEach [] X.env) :
    PE X (.Call (.Name "tuple" p) [.Call (.Name "range" p2) [e] [] pos2] [] pos) (tTR te) := by
  refine ⟨fun pins s σ H Q I h' => ?_⟩
  have nb : starEach [Expr.Call (.Name "range" p2) [e] [] pos2] X.env = (false, eval (.Call (.Name "range" p2) [e] [] pos2) X.env) :: starEach [] X.env := rfl
  have made := prg_1 g2 m2 he na (pos := pos2) (p := p2) pins s σ H (fun lo hi H1 => lo = 0 ∧ hi.natAbs < 1000000 ∧ QT H1 (rgV 0 hi) Q) I
  refine Call_ (ld_blt I g1 m1 boot_tuple (PyProof.Rows.callWith_type1 (args_cons (thn (made h') fun u s1 ⟨r, lo, hi, t1, t2, t3, H1, er, hr, I1, e0, e1, q⟩ => args_nil ?_) nb) nb))
  subst er
  subst e0
  refine call_tuple_range (n := (hi - 0).toNat) (I1.ok.hd hc) hr (small_one (by omega) (by omega) (by omega) (by omega)) (rangeSize_nat 0 hi) (by omega) fun h2 tk acc hk hi' => ?_
  have I2 : Inv X pins σ H1 { s1 with heap := h2, toks := tk } := I1.kept hk
  have fin := endT (Q := Q) I2 (vals_rg hi') (by rw [rgV_length]; exact fits (by omega)) q
  unfold tupO at fin
  rw [Array.toArray_toList] at fin
  exact fin
end
end Sq
end

section
set_option Elab.async false
set_option linter.all false
set_option maxRecDepth 100000
set_option maxHeartbeats 1000000
/-! sorting by data -/
namespace Sq
open PySem L2 PyProof.Rows PySem.W

/-! ### the order -/
mutual
theorem like_alike : ∀ (x y : D), like x y = true → alike x y = true
  | .int a, .int b, _ => by simp [alike]
  | .tuple xs, .tuple ys, h => by
    rw [like] at h
    rw [alike]
    exact likeL_alike xs ys h
  | .int _, .none, h => by simp [like] at h
  | .int _, .bool _, h => by simp [like] at h
  | .int _, .str _, h => by simp [like] at h
  | .int _, .list _, h => by simp [like] at h
  | .int _, .tuple _, h => by simp [like] at h
  | .int _, .dict _, h => by simp [like] at h
  | .tuple _, .none, h => by simp [like] at h
  | .tuple _, .bool _, h => by simp [like] at h
  | .tuple _, .int _, h => by simp [like] at h
  | .tuple _, .str _, h => by simp [like] at h
  | .tuple _, .list _, h => by simp [like] at h
  | .tuple _, .dict _, h => by simp [like] at h
  | .none, _, h => by simp [like] at h
  | .bool _, _, h => by simp [like] at h
  | .str _, _, h => by simp [like] at h
  | .list _, _, h => by simp [like] at h
  | .dict _, _, h => by simp [like] at h
theorem likeL_alike : ∀ (xs ys : List D), likeL xs ys = true → alikeAll xs ys = true
  | [], _, _ => by simp [alikeAll]
  | x :: xs, [], _ => by simp [alikeAll]
  | x :: xs, y :: ys, h => by
    rw [likeL, Bool.and_eq_true] at h
    rw [alikeAll, like_alike x y h.1, likeL_alike xs ys h.2]
    rfl
end
mutual
theorem like_symm : ∀ (x y : D), like x y = true → like y x = true
  | .int a, .int b, _ => by simp [like]
  | .tuple xs, .tuple ys, h => by
    rw [like] at h ⊢
    exact likeL_symm xs ys h
  | .int _, .none, h => by simp [like] at h
  | .int _, .bool _, h => by simp [like] at h
  | .int _, .str _, h => by simp [like] at h
  | .int _, .list _, h => by simp [like] at h
  | .int _, .tuple _, h => by simp [like] at h
  | .int _, .dict _, h => by simp [like] at h
  | .tuple _, .none, h => by simp [like] at h
  | .tuple _, .bool _, h => by simp [like] at h
  | .tuple _, .int _, h => by simp [like] at h
  | .tuple _, .str _, h => by simp [like] at h
  | .tuple _, .list _, h => by simp [like] at h
  | .tuple _, .dict _, h => by simp [like] at h
  | .none, _, h => by simp [like] at h
  | .bool _, _, h => by simp [like] at h
  | .str _, _, h => by simp [like] at h
  | .list _, _, h => by simp [like] at h
  | .dict _, _, h => by simp [like] at h
theorem likeL_symm : ∀ (xs ys : List D), likeL xs ys = true → likeL ys xs = true
  | [], [], _ => by simp [likeL]
  | x :: xs, y :: ys, h => by
    rw [likeL, Bool.and_eq_true] at h ⊢
    exact ⟨like_symm x y h.1, likeL_symm xs ys h.2⟩
  | [], _ :: _, h => by simp [likeL] at h
  | _ :: _, [], h => by simp [likeL] at h
end
theorem like_int {a : Int} {y : D} (h : like (.int a) y = true) : ∃ b, y = .int b := by
  cases y with
  | int b => exact ⟨b, rfl⟩
  | _ => simp [like] at h
theorem like_tup {xs : List D} {y : D} (h : like (.tuple xs) y = true) : ∃ ys, y = .tuple ys ∧ likeL xs ys = true := by
  cases y with
  | tuple ys => exact ⟨ys, rfl, by rw [like] at h; exact h⟩
  | _ => simp [like] at h
mutual
theorem like_trans : ∀ (x y z : D), like x y = true → like y z = true → like x z = true
  | .int a, y, z, h1, h2 => by
    obtain ⟨b, rfl⟩ := like_int h1
    obtain ⟨c, rfl⟩ := like_int h2
    rfl
  | .tuple xs, y, z, h1, h2 => by
    obtain ⟨ys, rfl, q1⟩ := like_tup h1
    obtain ⟨zs, rfl, q2⟩ := like_tup h2
    rw [like]
    exact likeL_trans xs ys zs q1 q2
  | .none, _, _, h, _ => by simp [like] at h
  | .bool _, _, _, h, _ => by simp [like] at h
  | .str _, _, _, h, _ => by simp [like] at h
  | .list _, _, _, h, _ => by simp [like] at h
  | .dict _, _, _, h, _ => by simp [like] at h
theorem likeL_trans : ∀ (xs ys zs : List D), likeL xs ys = true → likeL ys zs = true → likeL xs zs = true
  | [], ys, zs, h1, h2 => by
    cases ys with
    | nil => exact h2
    | cons _ _ => simp [likeL] at h1
  | x :: xs, ys, zs, h1, h2 => by
    cases ys with
    | nil => simp [likeL] at h1
    | cons y ys =>
      cases zs with
      | nil => simp [likeL] at h2
      | cons z zs =>
        rw [likeL, Bool.and_eq_true] at h1 h2 ⊢
        exact ⟨like_trans x y z h1.1 h2.1, likeL_trans xs ys zs h1.2 h2.2⟩
end
mutual
theorem like_depth : ∀ (x y : D), like x y = true → PyData.depth x = PyData.depth y
  | .int a, y, h => by
    obtain ⟨b, rfl⟩ := like_int h
    simp [PyData.depth]
  | .tuple xs, y, h => by
    obtain ⟨ys, rfl, q⟩ := like_tup h
    simp only [PyData.depth, likeL_depth xs ys q]
  | .none, _, h => by simp [like] at h
  | .bool _, _, h => by simp [like] at h
  | .str _, _, h => by simp [like] at h
  | .list _, _, h => by simp [like] at h
  | .dict _, _, h => by simp [like] at h
theorem likeL_depth : ∀ (xs ys : List D), likeL xs ys = true → PyData.depthAll xs = PyData.depthAll ys
  | [], [], _ => rfl
  | x :: xs, y :: ys, h => by
    rw [likeL, Bool.and_eq_true] at h
    simp only [PyData.depthAll, like_depth x y h.1, likeL_depth xs ys h.2]
  | [], _ :: _, h => by simp [likeL] at h
  | _ :: _, [], h => by simp [likeL] at h
end
mutual
theorem like_eqv : ∀ (x y : D), like x y = true → PyData.eqv x y = keq x y
  | .int a, y, h => by
    obtain ⟨b, rfl⟩ := like_int h
    simp only [PyData.eqv, keq, Bool.beq_eq_decide_eq]
  | .tuple xs, y, h => by
    obtain ⟨ys, rfl, q⟩ := like_tup h
    simp only [PyData.eqv, keq, likeL_eqv xs ys q]
  | .none, _, h => by simp [like] at h
  | .bool _, _, h => by simp [like] at h
  | .str _, _, h => by simp [like] at h
  | .list _, _, h => by simp [like] at h
  | .dict _, _, h => by simp [like] at h
theorem likeL_eqv : ∀ (xs ys : List D), likeL xs ys = true → PyData.eqvAll xs ys = keqL xs ys
  | [], [], _ => rfl
  | x :: xs, y :: ys, h => by
    rw [likeL, Bool.and_eq_true] at h
    simp only [PyData.eqvAll, keqL, like_eqv x y h.1, likeL_eqv xs ys h.2]
  | [], _ :: _, h => by simp [likeL] at h
  | _ :: _, [], h => by simp [likeL] at h
end
mutual
theorem like_lt : ∀ (x y : D), like x y = true → lt x y = dataLt x y
  | .int a, y, h => by
    obtain ⟨b, rfl⟩ := like_int h
    rw [dataLt_int, lt]
  | .tuple xs, y, h => by
    obtain ⟨ys, rfl, q⟩ := like_tup h
    rw [dataLt_tuple, lt]
    exact likeL_lt xs ys q
  | .none, _, h => by simp [like] at h
  | .bool _, _, h => by simp [like] at h
  | .str _, _, h => by simp [like] at h
  | .list _, _, h => by simp [like] at h
  | .dict _, _, h => by simp [like] at h
theorem likeL_lt : ∀ (xs ys : List D), likeL xs ys = true → ltL xs ys = PyProof.Rows.lexLt itemOrd (keyToksAll xs) (keyToksAll ys)
  | [], [], _ => by
    rw [ltL]
    · exact (lex_irrefl _).symm
    all_goals (intros; simp_all)
  | x :: xs, y :: ys, h => by
    rw [likeL, Bool.and_eq_true] at h
    rw [dataLt_cons (like_alike x y h.1), ltL, like_eqv x y h.1, like_lt x y h.1, likeL_lt xs ys h.2]
  | [], _ :: _, h => by simp [likeL] at h
  | _ :: _, [], h => by simp [likeL] at h
end
mutual
theorem keq_eq : ∀ (x y : D), keq x y = true → x = y
  | .int a, y, h => by
    cases y with
    | int b => simp [keq] at h; rw [h]
    | _ => simp [keq] at h
  | .tuple xs, y, h => by
    cases y with
    | tuple ys =>
      rw [keq] at h
      rw [keqL_eq xs ys h]
    | _ => simp [keq] at h
  | .none, _, h => by simp [keq] at h
  | .bool _, _, h => by simp [keq] at h
  | .str _, _, h => by simp [keq] at h
  | .list _, _, h => by simp [keq] at h
  | .dict _, _, h => by simp [keq] at h
theorem keqL_eq : ∀ (xs ys : List D), keqL xs ys = true → xs = ys
  | [], [], _ => rfl
  | x :: xs, y :: ys, h => by
    rw [keqL, Bool.and_eq_true] at h
    rw [keq_eq x y h.1, keqL_eq xs ys h.2]
  | [], _ :: _, h => by simp [keqL] at h
  | _ :: _, [], h => by simp [keqL] at h
end
mutual
theorem lt_anti : ∀ (x y : D), like x y = true → lt x y = false → lt y x = false → x = y
  | .int a, y, h, h1, h2 => by
    obtain ⟨b, rfl⟩ := like_int h
    simp only [lt, decide_eq_false_iff_not] at h1 h2
    have : a = b := by omega
    rw [this]
  | .tuple xs, y, h, h1, h2 => by
    obtain ⟨ys, rfl, q⟩ := like_tup h
    rw [lt] at h1 h2
    rw [ltL_anti xs ys q h1 h2]
  | .none, _, h, _, _ => by simp [like] at h
  | .bool _, _, h, _, _ => by simp [like] at h
  | .str _, _, h, _, _ => by simp [like] at h
  | .list _, _, h, _, _ => by simp [like] at h
  | .dict _, _, h, _, _ => by simp [like] at h
theorem ltL_anti : ∀ (xs ys : List D), likeL xs ys = true → ltL xs ys = false → ltL ys xs = false → xs = ys
  | [], [], _, _, _ => rfl
  | x :: xs, y :: ys, h, h1, h2 => by
    rw [likeL, Bool.and_eq_true] at h
    rw [ltL] at h1 h2
    by_cases e : keq x y = true
    · have e' : keq y x = true := by
        have := keq_eq x y e
        subst this
        exact e
      rw [if_pos e] at h1
      rw [if_pos e'] at h2
      rw [keq_eq x y e, ltL_anti xs ys h.2 h1 h2]
    · have e' : ¬ keq y x = true := fun z => by
        have := keq_eq y x z
        subst this
        exact e z
      rw [if_neg e] at h1
      rw [if_neg e'] at h2
      have q := lt_anti x y h.1 h1 h2
      subst q
      have s := like_eqv x x h.1
      rw [ltL_anti xs ys h.2 (by
        exact absurd (keq_self x h.1) e) (by exact absurd (keq_self x h.1) e)]
  | [], _ :: _, h, _, _ => by simp [likeL] at h
  | _ :: _, [], h, _, _ => by simp [likeL] at h
theorem keq_self : ∀ (x : D), like x x = true → keq x x = true
  | .int a, _ => by simp [keq]
  | .tuple xs, h => by
    rw [like] at h
    rw [keq]
    exact keqL_self xs h
  | .none, h => by simp [like] at h
  | .bool _, h => by simp [like] at h
  | .str _, h => by simp [like] at h
  | .list _, h => by simp [like] at h
  | .dict _, h => by simp [like] at h
theorem keqL_self : ∀ (xs : List D), likeL xs xs = true → keqL xs xs = true
  | [], _ => rfl
  | x :: xs, h => by
    rw [likeL, Bool.and_eq_true] at h
    rw [keqL, keq_self x h.1, keqL_self xs h.2]
    rfl
end
/-- every two are alike -/
def Likes (ds : List D) : Prop := ∀ x, x ∈ ds → ∀ y, y ∈ ds → like x y = true
theorem likes_of {ds : List D} (h : sortable ds = true) : Likes ds ∧ Sortable ds ∧ ∀ x, x ∈ ds → PyData.depth x ≤ 20 := by
  cases ds with
  | nil => exact ⟨fun x hx => (by cases hx), .inl fun x hx => (by cases hx), fun x hx => (by cases hx)⟩
  | cons x r =>
    have all : ∀ z : D, like z z = true → r.all (like z) = true → Likes (z :: r) := fun z hz hr a ha b hb => by
      have to : ∀ c, c ∈ z :: r → like z c = true := fun c hc => by
        rcases List.mem_cons.mp hc with e | hc
        · rw [e]; exact hz
        · exact List.all_eq_true.mp hr c hc
      exact like_trans a z b (like_symm _ _ (to a ha)) (to b hb)
    cases x with
    | int i =>
      have hr : r.all (like (.int i)) = true := h
      have L := all (.int i) rfl hr
      refine ⟨L, .inr fun d hd => ?_, fun d hd => ?_⟩
      · obtain ⟨b, rfl⟩ := like_int (L (.int i) List.mem_cons_self d hd)
        exact ⟨(fun z => nomatch z), fun xs z => nomatch z⟩
      · obtain ⟨b, rfl⟩ := like_int (L (.int i) List.mem_cons_self d hd)
        simp [PyData.depth]
    | tuple xs =>
      cases xs with
      | nil => simp [sortable] at h
      | cons a as =>
        simp only [sortable, Bool.and_eq_true] at h
        obtain ⟨⟨h1, h2⟩, h3⟩ := h
        have L := all _ h1 h3
        refine ⟨L, .inl fun d hd => ?_, fun d hd => ?_⟩
        · obtain ⟨ys, rfl, q⟩ := like_tup (L _ List.mem_cons_self d hd)
          cases ys with
          | nil => simp [likeL] at q
          | cons y ys => exact ⟨y, ys, rfl⟩
        · rw [← like_depth _ _ (L _ List.mem_cons_self d hd)]
          exact Nat.le_of_ble_eq_true h2
    | _ => simp [sortable] at h
abbrev dle : D → D → Bool := dataLe false fun d => d
theorem dle_eq (a b : D) : dle a b = !dataLt b a := rfl
theorem ins_perm (x : D) : ∀ ys : List D, (insL x ys).Perm (x :: ys)
  | [] => List.Perm.refl _
  | y :: ys => by
    unfold insL
    split
    · exact ((ins_perm x ys).cons y).trans (List.Perm.swap x y ys)
    · exact List.Perm.refl _
theorem isort_perm : ∀ ds : List D, (isort ds).Perm ds
  | [] => List.Perm.refl _
  | x :: xs => (ins_perm x (isort xs)).trans ((isort_perm xs).cons x)
theorem total_le : TotalLe dle := sortLe_total _ _ _
theorem ins_sorted (x : D) : ∀ ys : List D, (∀ y, y ∈ ys → like y x = true) → ys.Pairwise (fun a b => dle a b = true) → (insL x ys).Pairwise fun a b => dle a b = true
  | [], _, _ => List.pairwise_singleton _ _
  | y :: ys, hl, hp => by
    have hy := hl y List.mem_cons_self
    unfold insL
    rw [List.pairwise_cons] at hp
    split
    · next h =>
      rw [List.pairwise_cons]
      refine ⟨fun z hz => ?_, ins_sorted x ys (fun z hz => hl z (List.mem_cons_of_mem _ hz)) hp.2⟩
      rcases List.mem_cons.mp ((ins_perm x ys).mem_iff.mp hz) with e | hz
      · rw [e]
        rcases total_le.total y x with q | q
        · exact q
        · rw [dle_eq, ← like_lt y x hy, h] at q
          cases q
      · exact hp.1 z hz
    · next h =>
      rw [List.pairwise_cons]
      have le : dle x y = true := by
        rw [dle_eq, ← like_lt y x hy]
        simpa using h
      refine ⟨fun z hz => ?_, List.pairwise_cons.mpr hp⟩
      rcases List.mem_cons.mp hz with e | hz
      · rw [e]; exact le
      · exact total_le.trans _ _ _ le (hp.1 z hz)
theorem isort_sorted : ∀ ds : List D, Likes ds → (isort ds).Pairwise fun a b => dle a b = true
  | [], _ => List.Pairwise.nil
  | x :: xs, h => ins_sorted x _ (fun y hy => h y (List.mem_cons_of_mem _ ((isort_perm xs).mem_iff.mp hy)) x List.mem_cons_self) (isort_sorted xs fun a ha b hb => h a (List.mem_cons_of_mem _ ha) b (List.mem_cons_of_mem _ hb))
theorem isort_eq {ds : List D} (h : Likes ds) : ds.mergeSort dle = isort ds := by
  have p1 := List.mergeSort_perm ds dle
  have p2 := isort_perm ds
  refine List.Perm.eq_of_pairwise (le := fun a b => dle a b = true) (fun a b ha hb h1 h2 => ?_) ?_ (isort_sorted ds h) (p1.trans p2.symm)
  · have la := h a (p1.mem_iff.mp ha) b (p2.mem_iff.mp hb)
    rw [dle_eq, ← like_lt b a (like_symm _ _ la)] at h1
    rw [dle_eq, ← like_lt a b la] at h2
    exact lt_anti a b la (by simpa using h2) (by simpa using h1)
  · exact List.pairwise_mergeSort total_le.trans (fun a b => by
      rw [Bool.or_eq_true]
      exact total_le.total a b) ds
end Sq
end

section
set_option Elab.async false
set_option linter.all false
set_option maxRecDepth 100000
set_option maxHeartbeats 1000000
/-! sorted, dict, list(range), by data -/
namespace Sq
open PySem L2 PyProof.Rows PySem.W

mutual
theorem like_lay : ∀ (x y : D), like x y = true → x.canLay0 = true
  | .int _, _, _ => by simp [PyData.canLay0]
  | .tuple xs, y, h => by
    obtain ⟨ys, rfl, q⟩ := like_tup h
    rw [PyData.canLay0]
    exact likeL_lay xs ys q
  | .none, _, h => by simp [like] at h
  | .bool _, _, h => by simp [like] at h
  | .str _, _, h => by simp [like] at h
  | .list _, _, h => by simp [like] at h
  | .dict _, _, h => by simp [like] at h
theorem likeL_lay : ∀ (xs ys : List D), likeL xs ys = true → PyData.canLayAll0 xs = true
  | [], _, _ => by simp [PyData.canLayAll0]
  | x :: xs, [], h => by simp [likeL] at h
  | x :: xs, y :: ys, h => by
    rw [likeL, Bool.and_eq_true] at h
    rw [PyData.canLayAll0, like_lay x y h.1, likeL_lay xs ys h.2]
    rfl
end
/-- a value that stands for the data d in the heap G -/
def Std (X : Cx) (G : Hp) (u : Value) (d : D) : Prop := ∃ v, RelV v u ∧ Rep X.prog X.w G d v
section
variable {X : Cx} {O : List Addr} {H : Hp} {Q : VK} {a b c d : D} {x y z : V} {n : Nat}
theorem each_std {G : Hp} : ∀ {ds : List D} {vs : List V} {us : List Value}, RepL X.prog X.w G ds vs → Vals vs us → EachIs (Std X G) us ds
  | [], _, _, r, rv => by
    cases r
    cases rv
    exact .nil
  | d :: ds, _, _, r, rv => by
    cases r with
    | cons r1 r2 =>
      cases rv with
      | cons q1 q2 => exact .cons ⟨_, q1, r1⟩ (each_std r2 q2)
theorem std_each {G : Hp} : ∀ {us : List Value} {ds : List D}, EachIs (Std X G) us ds → ∃ vs, Vals vs us ∧ RepL X.prog X.w G ds vs
  | _, _, .nil => ⟨[], .nil, .nil⟩
  | _, _, .cons ⟨v, q, r⟩ t => by
    obtain ⟨vs, q2, r2⟩ := std_each t
    exact ⟨v :: vs, .cons q q2, .cons r r2⟩
theorem each_reads {pins : List (Addr × Obj)} {σ : L2.St} {s : Shared} (I : Inv X pins σ H s) : ∀ {us : List Value} {ds : List D}, (∀ d, d ∈ ds → d.canLay0 = true) → EachIs (Std X (hide O H)) us ds → EachIs (fun u d => ∃ as, Reads s.heap u d as) us ds
  | _, _, _, .nil => .nil
  | _, _, h, .cons ⟨v, q, r⟩ t => .cons (Dp.reads I _ _ _ (rep_dp (K := X.K) _ _ (h _ List.mem_cons_self) r) q) (each_reads I (fun d hd => h d (List.mem_cons_of_mem _ hd)) t)
theorem likes_alike {ds : List D} (h : Likes ds) : AllAlike ds := fun x hx y hy => like_alike x y (h x hx y hy)
theorem likes_lay {ds : List D} (h : Likes ds) : ∀ d, d ∈ ds → d.canLay0 = true := fun d hd => like_lay d d (h d hd d hd)
theorem fits' {n : Nat} (h : Nat.ble n 10000 = true) : n ≤ sizeLine := fits (Nat.le_trans (Nat.le_of_ble_eq_true h) (by decide))
theorem room_units (hr : Room n X.A) : X.A.units + 65 < cLine := by have := hr.un; omega
theorem map_id' (ds : List D) : ds.map (fun d => d) = ds := List.map_id' ds
theorem o1_sortedL (t : Trk O H) (hr : Room n X.A) {ds : List D} (hs : sortable ds = true) (hl : Nat.ble ds.length 10000 = true) (ra : Rp X O H (.list ds) x) (q : Post X O H (.list (isort ds)) Q) : wC X (.builtin "sorted") [x] H Q := by
  cases ra with
  | lst h1 r1 =>
    intro pins s σ us I rv
    obtain ⟨u, rfl, ru⟩ := vals1 rv
    cases ru
    obtain ⟨its, rl, pl, hz⟩ := I.list (sqL (K := X.K) h1)
    obtain ⟨L, S, dp⟩ := likes_of hs
    have e := each_std r1 rl
    have hu := room_units hr
    refine sorted_data (enc := fun d => d) pl.isList e (each_reads I (likes_lay L) e) (by rw [map_id']; exact likes_alike L) (by rw [map_id']; exact S) (fits' hl) (fun b hb => by
      have := dp b hb
      omega) fun out ho eo => ?_
    rw [isort_eq L] at eo
    obtain ⟨vs, q1, q2⟩ := std_each eo
    obtain ⟨c, hc⟩ := sortedAll_at s.heap its (List.toArray out)
    have hz2 : vs.length ≤ sizeLine := by
      rw [q1.length, ho]
      exact fits' hl
    exact ⟨.ref (s.heap.objs.size + 1), _, I.laid (t' := s.toks) (o := .lst vs) (fun b ob z => sortedAll_old z) (Nat.le_succ _) ⟨hz2, out, c, q1, hc⟩, rfl, Post.newL t q q2 _ (I.hok.fresh (Nat.le_succ _))⟩
mutual
theorem reads_nil {h : Heap} : ∀ (d e : D) (u : Value) (as : List Addr), like d e = true → Reads h u d as → as = []
  | .int _, _, _, _, _, r => by
    cases r
    rfl
  | .tuple xs, e, _, _, l, r => by
    obtain ⟨ys, rfl, q⟩ := like_tup l
    cases r with
    | tuple h1 h2 h3 h4 => exact readsL_nil xs ys _ _ q h4
  | .none, _, _, _, h, _ => by simp [like] at h
  | .bool _, _, _, _, h, _ => by simp [like] at h
  | .str _, _, _, _, h, _ => by simp [like] at h
  | .list _, _, _, _, h, _ => by simp [like] at h
  | .dict _, _, _, _, h, _ => by simp [like] at h
theorem readsL_nil {h : Heap} : ∀ (ds es : List D) (us : List Value) (as : List Addr), likeL ds es = true → ReadsAll h us ds as → as = []
  | [], _, _, _, _, r => by
    cases r
    rfl
  | d :: ds, [], _, _, l, _ => by simp [likeL] at l
  | d :: ds, e :: es, _, _, l, r => by
    rw [likeL, Bool.and_eq_true] at l
    cases r with
    | cons h1 h2 =>
      rw [reads_nil d e _ _ l.1 h1, readsL_nil ds es _ _ l.2 h2]
      rfl
end
theorem each_apart {h : Heap} {a : Addr} : ∀ {us : List Value} {ds : List D}, (∀ d, d ∈ ds → like d d = true) → EachIs (fun u d => ∃ as, Reads h u d as) us ds → EachIs (fun u d => ∃ as, Reads h u d as ∧ a ∉ as) us ds
  | _, _, _, .nil => .nil
  | _, _, l, .cons ⟨as, r⟩ t => .cons ⟨as, r, by
      rw [reads_nil _ _ _ _ (l _ List.mem_cons_self) r]
      exact List.not_mem_nil⟩ (each_apart (fun d hd => l d (List.mem_cons_of_mem _ hd)) t)
theorem o1_sortedD (hc : X.calm = true) (t : Trk O H) (hr : Room n X.A) {kvs : List (D × D)} (hs : sortable (kvs.map (·.1)) = true) (hl : Nat.ble kvs.length 10000 = true) (ra : Rp X O H (.dict kvs) x) (q : Post X O H (.list (isort (kvs.map (·.1)))) Q) : wC X (.builtin "sorted") [x] H Q := by
  cases ra with
  | dct h1 hsm dob rk =>
    rename_i da ob xs
    intro pins s σ us I rv
    obtain ⟨u, rfl, ru⟩ := vals1 rv
    cases ru
    obtain ⟨es, ep, hd, he⟩ := dob.dat
    have lx : es.size = xs.length := by rw [← Array.length_toList, he, List.length_map]
    have lk := rk.length
    have hz : es.size ≤ sizeLine := by rw [lx, ← lk]; exact fits' hl
    obtain ⟨L, S, dp⟩ := likes_of hs
    have hu := room_units hr
    refine Calls.call_function_entry kind_sorted plain_sorted entry_sorted (args_sorted1 _) ?_
    unfold Builtin.«sorted»
    refine wpAny_bind (m := checkCount "sorted" 1 1 _) (wpAny_pure ?_)
    refine wpAny_bind (kdu_collect (A := X.A.in1) (kdl_raw hsm dob.exact hd) (I.ok.hd hc) (at_ok I (hide_some h1).1) hz fun h' tk acc hk hacc => ?_)
    have ea : acc.toList = xs.map fun x => Value.ref x.2.1 := by
      refine List.ext_getElem? fun j => ?_
      have hsz : acc.size = xs.length := hacc.1.trans lx
      by_cases hj : j < xs.length
      · have ej : acc[j]? = some acc[j] := Array.getElem?_eq_getElem (by omega)
        obtain ⟨en, e1, e2⟩ := hacc.2 j _ ej
        rw [Array.getElem?_toList, ej, e2, List.getElem?_map]
        have e3 : es.toList[j]? = some en := by rw [Array.getElem?_toList]; exact e1
        rw [he, List.getElem?_map] at e3
        cases e4 : xs[j]? with
        | none => rw [e4] at e3; cases e3
        | some b =>
          rw [e4] at e3
          rw [← Option.some.inj e3]
          rfl
      · rw [List.getElem?_eq_none (by rw [Array.length_toList]; omega), List.getElem?_eq_none (by rw [List.length_map]; omega)]
    have I1 : Inv X pins σ H { s with heap := h', toks := tk } := I.kept hk
    have rl : Vals (xs.map fun x => V.ref x.2.1) acc.toList := by
      rw [ea]
      have e2 := vals_refs (xs.map fun x => x.2.1)
      rw [List.map_map, List.map_map] at e2
      exact e2
    have ha : acc.toList.length = (kvs.map (·.1)).length := by rw [ea, List.length_map, List.length_map, lk]
    refine wpAny_bind (wpAny_newList ?_ (by rw [ha, List.length_map]; exact fits' hl))
    have hoL : (h'.push (seqObj "list" acc.toList.toArray 0)).get? h'.objs.size = some (seqObj "list" acc.toList.toArray 0) := Heap.get?_push_size _ rfl
    have I2 : Inv X pins σ H { s with heap := h'.push (seqObj "list" acc.toList.toArray 0), toks := tk } := I1.kept (s := { s with heap := h', toks := tk }) fun b ob z => Heap.get?_push_of_some _ z
    have e := each_std rk.keys rl
    refine wpAny_bind (wpAny_holding (list_sort_data (enc := fun d => d) (s := { s with heap := h'.push (seqObj "list" acc.toList.toArray 0), toks := tk }) hoL e (each_apart (fun d hd => L d hd d hd) (each_reads I2 (likes_lay L) e)) (by rw [map_id']; exact likes_alike L) (by rw [map_id']; exact S)
      (by rw [List.length_map]; exact fits' hl) (fun b hb => by
        have := dp b hb
        show X.A.units + 1 + 1 + _ < _
        omega) fun out ho eo => ?_))
    rw [isort_eq L] at eo
    obtain ⟨vs, q1, q2⟩ := std_each eo
    obtain ⟨c, hc'⟩ := sortedHeap_at (vs := acc.toList) (out := out.toArray) hoL
    have hz2 : vs.length ≤ sizeLine := by
      rw [q1.length, ho, List.length_map]
      exact fits' hl
    refine wpAny_pure ⟨_, rfl, .ref h'.objs.size, _, I1.laid (t' := tk) (o := .lst vs) (fun b ob z => ?_) (Nat.le_refl _) ⟨hz2, out, c, q1, hc'⟩, rfl, Post.newL t q q2 _ (I1.hok.fresh (Nat.le_refl _))⟩
    have hb := Heap.lt_size z
    have step : (h'.push (seqObj "list" acc.toList.toArray 0)).get? b = some ob := Heap.get?_push_of_some _ z
    show (sortedHeap _ _ _ _).get? b = some ob
    rw [sortedHeap_old (Nat.ne_of_lt hb) (by rw [size_push']; exact Nat.lt_succ_of_lt hb)]
    exact step
theorem o1_sorted (hc : X.calm = true) (t : Trk O H) (hr : Room n X.A) (h : op1 .sorted a = some d) (ra : Rp X O H a x) (q : Post X O H d Q) : wC X (.builtin "sorted") [x] H Q := by
  unfold op1 at h
  simp only at h
  split at h
  · split at h
    · next hs =>
      cases h
      rw [Bool.and_eq_true] at hs
      exact o1_sortedL t hr hs.1 hs.2 ra q
    · cases h
  · split at h
    · next hs =>
      cases h
      rw [Bool.and_eq_true] at hs
      exact o1_sortedD hc t hr hs.1 hs.2 ra q
    · cases h
  · cases h
end
end Sq
end

section
set_option Elab.async false
set_option linter.all false
set_option maxRecDepth 100000
set_option maxHeartbeats 1000000
/-! dicts made, by data -/
namespace Sq
open PySem L2 PyProof.Rows PySem.W

section
variable {X : Cx} {O : List Addr} {H : Hp} {Q : VK} {a b c d : D} {x y z : V} {n : Nat}
theorem atKey_none {K : Type} [DecidableEq K] {xs : List (K × Addr × Value)} {k : K} (h : PySem.atKey xs k = none) : k ∉ xs.map (·.1) := by
  intro hm
  obtain ⟨x, hx, e⟩ := List.mem_map.mp hm
  unfold PySem.atKey at h
  rw [Option.map_eq_none_iff, List.find?_eq_none] at h
  exact h x hx (by simpa using e)
theorem storedH_nd {K : Type} [DecidableEq K] {xs : List (K × Addr × Value)} (k : K) (a : Addr) (v : Value) (h : (xs.map (·.1)).Nodup) : ((PySem.storedH xs k a v).map (·.1)).Nodup := by
  cases hk : PySem.atKey xs k with
  | some p =>
    rw [storedH_old hk, keys_map_putAt]
    exact h
  | none =>
    rw [storedH_new hk, List.map_append, List.nodup_append]
    refine ⟨h, by simp, fun u hu w hw e => ?_⟩
    have hw' : w = k := by simpa using hw
    exact atKey_none hk (by rw [← hw', ← e]; exact hu)
/-- the pairs that a list holds -/
structure Prs (X : Cx) (G : Hp) (h : Heap) (ds : List D) (its : List Value) (kvs : List (D × D)) (kvs' : List (D × D)) (as : List Addr) (ps : List (NestedKey × Addr × Value)) : Prop where
  its : its = as.map Value.ref
  len : as.length = ps.length
  tup : ∀ (j : Nat) (p : NestedKey × Addr × Value), ps[j]? = some p → ∃ b, as[j]? = some b ∧ h.IsTuple b #[.ref p.2.1, p.2.2]
  key : ∀ p, p ∈ ps → (nestedKind X.prog X.w).is h p.1 p.2.1
  sto : ∀ acc, RepK X.prog X.w G kvs acc → (acc.map (·.1)).Nodup → RepK X.prog X.w G kvs' (storedAllH acc ps)
theorem prs_of {pins : List (Addr × Obj)} {σ : L2.St} {s : Shared} (I : Inv X pins σ H s) : ∀ {ds : List D} {vs : List V} {its : List Value} {kvs kvs' : List (D × D)}, RepL X.prog X.w (hide O H) ds vs → Vals vs its → ofPairs ds kvs = some kvs' →
    ∃ as ps, Prs X (hide O H) s.heap ds its kvs kvs' as ps
  | [], _, _, kvs, kvs', r, rv, h => by
    cases r
    cases rv
    cases h
    exact ⟨[], [], rfl, rfl, fun j p e => by simp at e, fun p hp => (by cases hp), fun acc r _ => r⟩
  | d :: ds, _, _, kvs, kvs', r, rv, h => by
    cases r with
    | cons r1 r2 =>
      cases rv with
      | cons q1 q2 =>
        unfold ofPairs at h
        split at h
        · next h0 => cases h0
        · next k x r' h0 =>
          cases h0
          split at h
          · next hk =>
            obtain ⟨as, ps, P⟩ := prs_of I r2 q2 h
            obtain ⟨nk, e1, e2, ts, e3⟩ := tupKey_of hk
            cases r1 with
            | tup h1 n1 rr =>
              cases q1
              rename_i ta to txs
              obtain ⟨its, rl, tp, _⟩ := I.tuple (sqT (K := X.K) h1)
              cases rr with
              | cons k1 k2 =>
                cases k2 with
                | cons x1 x2 =>
                  cases x2
                  cases rl with
                  | cons l1 l2 =>
                    cases l2 with
                    | cons m1 m2 =>
                      rename_i bv rest
                      cases m2
                      subst e3
                      cases k1 with
                      | tup g1 g2 g3 =>
                        cases l1
                        rename_i u2 p2 o2 xs2
                        refine ⟨ta :: as, (nk, u2, bv) :: ps, by rw [P.its]; rfl, by rw [List.length_cons, List.length_cons, P.len], fun j p e => ?_, fun p hp => ?_, fun acc ra nd => ?_⟩
                        rotate_left 2
                        · show RepK _ _ _ _ (storedAllH (PySem.storedH acc nk _ _) ps)
                          exact P.sto _ (ra.storedH e1 e2 (.tup g1 g2 g3) m1 x1 nd) (storedH_nd _ _ _ nd)
                        · cases j with
                          | zero =>
                            cases e
                            exact ⟨ta, rfl, tp⟩
                          | succ j =>
                            obtain ⟨b, z1, z2⟩ := P.tup j p e
                            exact ⟨b, z1, z2⟩
                        · rcases List.mem_cons.mp hp with e | hp
                          · subst e
                            exact rep_is I e1 e2 (.tup g1 g2 g3)
                          · exact P.key p hp
          · cases h
        · cases h
/-- a dict laid -/
theorem laidD {pins : List (Addr × Obj)} {σ : L2.St} {s : Shared} {h' : Heap} {tk : Nat} {p : Addr} {xs : List (NestedKey × Addr × Value)} {kvs : List (D × D)} (t : Trk O H) (I : Inv X pins σ H s) (hp : s.heap.objs.size ≤ p) (k : ∀ b o, s.heap.get? b = some o → h'.get? b = some o)
    (m : h'.DictOfH (nestedKind X.prog X.w) p xs) (r : RepK X.prog X.w (hide O H) kvs xs) (q : Post X O H (.dict kvs) Q) : EP X pins σ Q (.ref p) { s with heap := h', toks := tk } := by
  obtain ⟨o, ho, dob⟩ := dobj_of m
  have hn := I.hok.fresh hp
  refine ⟨.ref p, upd H p (At p o), I.laid k hp (at_mk ho), rfl, q _ _ (same_new hn) (.dct (hide_of upd_same (t.new hn)) ?_ dob (r.mono (same_hide (same_new hn))))⟩
  have hb := I.big
  rw [beq_eq_false_iff_ne]
  exact fun e => by
    rw [e] at hp
    exact absurd (Nat.lt_of_lt_of_le hb hp) (Nat.lt_irrefl _)
theorem o1_dict (hc : X.calm = true) (t : Trk O H) (hr : Room n X.A) (h : op1 .dict a = some d) (ra : Rp X O H a x) (q : Post X O H d Q) : wC X (.type "dict") [x] H Q := by
  unfold op1 at h
  simp only at h
  split at h
  · split at h
    · next ds kvs e =>
      cases h
      cases ra with
      | lst h1 r1 =>
        rename_i la vs
        intro pins s σ us I rv
        obtain ⟨u, rfl, ru⟩ := vals1 rv
        cases ru
        obtain ⟨hz, its, nn, rl, ho⟩ := (show ObjOk X.prog X.w H s.heap la (.lst vs) from I.hok _ _ (hide_some h1).1)
        obtain ⟨as, ps, P⟩ := prs_of I r1 rl e
        have lp : its.length = ps.length := by rw [P.its, List.length_map, P.len]
        have item : ∀ (j : Nat) (k v : Value), (ps.map fun p => (Value.ref p.2.1, p.2.2))[j]? = some (k, v) → ∃ p, ps[j]? = some p ∧ k = .ref p.2.1 ∧ v = p.2.2 := fun j k v e => by
          rw [List.getElem?_map] at e
          cases e2 : ps[j]? with
          | none => rw [e2] at e; cases e
          | some p =>
            rw [e2] at e
            have e3 := Option.some.inj e
            exact ⟨p, rfl, (congrArg Prod.fst e3).symm, (congrArg Prod.snd e3).symm⟩
        refine call_dict_pairsH (knd := nestedKind X.prog X.w) (ps := ps) (PairArg.list la its.toArray (fun j => as.getD j 0) (ps.map fun p => (Value.ref p.2.1, p.2.2))) (I.ok.hd hc) ?_ ⟨⟨_, nn, ho, rfl, rfl, rfl⟩, ?_⟩ ?_ ?_ ?_ fun h' tk m k => ?_
        · have := hr.un
          show X.A.units + 1 + 1 + 8 < cLine
          omega
        · refine ⟨by rw [List.size_toArray, List.length_map, lp], fun j k v e => ?_⟩
          obtain ⟨p, e1, e2, e3⟩ := item j k v e
          obtain ⟨b, z1, z2⟩ := P.tup j p e1
          have ed : as.getD j 0 = b := by rw [List.getD_eq_getElem?_getD, z1]; rfl
          show its.toArray[j]? = some (Value.ref (as.getD j 0)) ∧ PairAt s.heap (as.getD j 0) k v
          rw [ed, e2, e3]
          refine ⟨?_, .inl z2⟩
          rw [List.getElem?_toArray, P.its, List.getElem?_map, z1]
          rfl
        · refine ⟨by rw [List.length_map], fun i key v e => ?_⟩
          obtain ⟨p, e1, e2, e3⟩ := item i key v e
          exact ⟨p.1, p.2.1, by rw [e1, e3], e2⟩
        · intro h' kp p hp
          obtain ⟨z1, z2⟩ := P.key p hp
          exact nestedKind_stays.stays (fun b o vs m e _ => kp b o (Nat.ne_of_lt (Heap.lt_size e)) List.not_mem_nil e) ⟨z1, z2⟩
        · rw [List.length_map, ← lp, ← rl.length]
          exact hz
        · exact laidD t I (Nat.le_refl _) (fun b o e => k b o List.not_mem_nil e) m (P.sto [] .nil (by simp)) q
    · cases h
  · cases h
end
end Sq
end

section
set_option Elab.async false
set_option linter.all false
set_option maxRecDepth 100000
set_option maxHeartbeats 3200000
/-! sets of whole numbers -/
namespace Sq
open PySem L2 PyProof.Rows

abbrev emptyS (w : World) : Obj := { cls := .type "set", dict := none, data := .set #[] 0 (.fresh 0 0 (!w.params.followText "set-order")) }
abbrev startI (l : Addr) : Obj := { cls := .type "list_iterator", data := .fields #[.ref l, .int 0 0] }
section
variable {P : Program} {w : World} {A : Around} {E : Value → Shared → Prop} {s : Shared}
/-- what a set made of a list of whole numbers is -/
def MadeS (w : World) (s : Shared) (ns : List Int) (s' : Shared) : Prop := ∃ h' tk c, s' = { s with heap := h', toks := tk } ∧ SetR w h' s.heap.objs.size (fun j => decide (j ∈ ns)) c ∧ c ≤ ns.length ∧ ∀ b o, s.heap.get? b = some o → h'.get? b = some o
theorem set_init_list {l : Addr} {items : Array Value} {ns : List Int} {R : Result → Shared → Prop} (hh : A.handled = none) (hlt : l < s.heap.objs.size) (hl : s.heap.IsList l items) (hit : IntsAre items.toList ns) (hb : ns.length + 1 < scanBound)
    (h : ∀ s', MadeS w s ns s' → R (.ok (.ret .none)) s') :
    codeAny (model P w) A (.builtin "set.update.loop" ⟨[.ref s.heap.objs.size, .ref (s.heap.objs.size + 1)], []⟩) R { s with heap := (s.heap.push (emptyS w)).push (startI l) } := by
  have size := IntsAre.length hit
  rw [Array.length_toList] at size
  have one : (s.heap.push (emptyS w)).objs.size = s.heap.objs.size + 1 := Heap.size_push ..
  have h1 : A.in1.handled = none := by simp [hh]
  have hSf : s.heap.objs.size ∉ [s.heap.objs.size + 1, l] := by
    simp only [List.mem_cons, List.not_mem_nil, or_false, not_or]
    exact ⟨Nat.ne_of_lt (Nat.lt_succ_self _), Nat.ne_of_gt hlt⟩
  have val : ∀ (i : Nat) (v : Value), items[i]? = some v → ∃ k t, ns[i]? = some k ∧ v = .int k t := fun i v hv => by
    have hi : i < ns.length := by
      rw [← size]
      exact (Array.getElem?_eq_some_iff.mp hv).1
    obtain ⟨t, e⟩ := IntsAre.int_at hit i v (by rw [Array.getElem?_toList]; exact hv)
    rw [List.getD_eq_getElem?_getD, List.getElem?_eq_getElem hi] at e
    exact ⟨_, t, List.getElem?_eq_getElem hi, e⟩
  have it0 : ((s.heap.push (emptyS w)).push (startI l)).get? (s.heap.objs.size + 1) = some (startI l) := by
    rw [← one]
    exact Heap.get?_push_size _ rfl
  refine set_update_ints (Walks.list h1 (s.heap.objs.size + 1) l (Nat.ne_of_lt (Nat.lt_succ_of_lt hlt)) items).toS s.heap.objs.size hSf ns size hb val (items.size - 0) 0 _ (by omega) (Nat.zero_le _)
    ⟨⟨_, it0, rfl, rfl⟩, (hl.push _).push _⟩ ⟨0, Nat.le_refl 0, setR_new_at (Heap.get?_push_of_some _ (Heap.get?_push_size _ rfl))⟩ fun s' c' hm hc hS => ?_
  obtain ⟨h', g2, d', tk', os'⟩ := s'
  obtain rfl : g2 = s.gens := hm.gens
  obtain rfl : d' = s.drawn := hm.drawn
  obtain rfl : os' = s.os := hm.os
  refine h _ ⟨h', tk', c', rfl, hS, by rw [← size]; exact hc, fun b o e => ?_⟩
  have hb0 := Heap.lt_size e
  refine hm.heap b o ?_ (Heap.get?_push_of_some _ (Heap.get?_push_of_some _ e))
  simp only [List.mem_cons, List.not_mem_nil, or_false, not_or]
  exact ⟨Nat.ne_of_lt hb0, Nat.ne_of_lt (Nat.lt_succ_of_lt hb0)⟩
theorem call_set_ints {l : Addr} {items : Array Value} {ns : List Int} {Q : Value → Shared → Prop} (hh : A.handled = none) (hl : s.heap.IsList l items) (hit : IntsAre items.toList ns) (hb : ns.length + 1 < scanBound)
    (h : ∀ s', MadeS w s ns s' → Q (.ref s.heap.objs.size) s') : wpAny (model P w) A (call (.type "set") [.ref l]) Q E s := by
  obtain ⟨c, tl, hmro⟩ := F.called_set.mro
  have made := F.called_set.made
  have sub := F.called_set.sub
  refine wpAny_call (codeAny_of_tree ?_)
  show wpAny _ _ (callAny (.type "set") _) _ _ _
  refine wpAny_pure ⟨Code.quiet_builtin _ (by decide +kernel), codeAny_builtin F.entry_type_call ?_⟩
  rw [Around.under_plain (weight_type_call_type "set" [.ref l] []) rfl]
  have nt := F.called_set.notType
  have cc := F.called_set.canCreate
  have ct := F.typeCall_set_1 (.ref l)
  repeat (any_goals (first | assumption | wp_step))
  refine codeAny_mono (code_set_led1 (.ref l) (E := E) (Q₁ := fun obj s₁ => obj = .ref s.heap.objs.size ∧ s₁ = { s with heap := s.heap.push (emptyS w) }) ⟨rfl, rfl⟩) fun r s₁ hr => ?_
  cases r with
  | error e => exact hr
  | ok fl =>
    cases fl with
    | ret obj =>
      obtain ⟨rfl, rfl⟩ := hr
      have hT : Shared.TypeIs { s with heap := s.heap.push (emptyS w) } (.ref s.heap.objs.size) "set" := ⟨_, Heap.get?_push_size _ rfl, rfl⟩
      have li := F.called_set.init.lookup
      have bi := F.called_set.init.bind (.ref s.heap.objs.size)
      repeat (any_goals (first | assumption | wp_step))
      refine codeAny_mono (codeAny_call_builtin (R := wants (fun r s₂ => r = .none ∧ MadeS w s ns s₂) E) F.called_set.init.plain F.entry_set_init (check_set_init_1 hT ?_)) fun r₂ s₂ hr₂ => ?_
      · have hlt : l < s.heap.objs.size := by
          obtain ⟨o, ho, _⟩ := hl
          exact Heap.lt_size ho
        have pl : (s.heap.push (emptyS w)).IsList l items := hl.push _
        obtain ⟨⟨ocls, odict, odata, oslots⟩, ho, hc, nl, hd⟩ := pl
        simp only at hc hd
        subst hc
        subst hd
        have hls := F.sub_list_set
        have hlf := F.sub_list_frozenset
        have hne : (Value.type "list" == Value.type "dict") = false := by decide
        unfold Builtin.«set.__init__» noKeywords Builtin.Frozenset.updateFrom
        generalize hPI : pyIter = PI
        wp_walk
        subst hPI
        refine wpAny_pyIter_list ⟨_, ho, rfl, nl, rfl⟩ ?_
        refine wpAny_bind (wpAny_runValue ?_)
        have e1 : (s.heap.push (emptyS w)).objs.size = s.heap.objs.size + 1 := Heap.size_push ..
        show codeAny _ _ (.builtin "set.update.loop" ⟨[.ref s.heap.objs.size, .ref (s.heap.push (emptyS w)).objs.size], []⟩) _ _
        rw [e1]
        refine set_init_list (by simp [hh]) hlt hl hit hb fun s' m => ?_
        show wpAny _ _ _ _ _ _
        refine wpAny_pure ?_
        show wpAny _ _ (ret Value.none) _ _ _
        exact wpAny_pure ⟨rfl, m⟩
      · cases r₂ with
        | error e => exact hr₂
        | ok fl₂ =>
          cases fl₂ with
          | ret r =>
            obtain ⟨rfl, m⟩ := hr₂
            repeat (any_goals (first | assumption | wp_step))
            exact h _ m
          | _ => exact hr₂.elim
    | _ => exact hr.elim
end
end Sq
end

section
set_option Elab.async false
set_option linter.all false
set_option maxRecDepth 100000
set_option maxHeartbeats 1000000
/-! iterators, by data -/
namespace Sq
open PySem L2 PyProof.Rows

def StdP (P : Program) (w : World) (G : Hp) (u : Value) (d : D) : Prop := ∃ v, L2.RelV v u ∧ Rep P w G d v
/-- what is given out, as a value -/
def YV (P : Program) (w : World) (G : Hp) : Yd → Heap → Value → Heap → Prop
  | .one d, _, u, _ => StdP P w G u d
  | .two a b, h0, u, h' => ∃ T u1 u2, u = .ref T ∧ h0.objs.size ≤ T ∧ h'.IsTuple T #[u1, u2] ∧ StdP P w G u1 a ∧ StdP P w G u2 b
/-- .. in the abstract heap -/
def YH (P : Program) (w : World) (G : Hp) : Yd → Hp → V → Hp → Prop
  | .one d, H, x, H' => H' = H ∧ Rep P w G d x
  | .two a b, H, x, H' => ∃ T x1 x2, x = .ref T ∧ H T = none ∧ H' = upd H T (.tup [x1, x2]) ∧ Rep P w G a x1 ∧ Rep P w G b x2
/-- the iterator that gives ys, while what stood in G stands -/
def Jt (P : Program) (w : World) (G : Hp) (ys : List Yd) : It :=
  ⟨fun i H => Same G H ∧ i < ys.length, fun i H x H' => ∃ y, ys[i]? = some y ∧ YH P w G y H x H', fun i H => Same G H ∧ i = ys.length⟩
structure Feeds (P : Program) (w : World) (tg : Expr) (G : Hp) (ys : List Yd) (it : Addr) (own : List Addr) (tn : Nat → Heap → Prop) : Prop where
  mem : it ∈ own
  obj : ∀ i h, tn i h → ∀ b ∈ own, ∃ o, h.get? b = some o ∧ ∀ v, o.data ≠ .cell v
  keep : ∀ i h h', tn i h → (∀ b ∈ own, ∀ o, h.get? b = some o → h'.get? b = some o) → tn i h'
  self : ∀ (A : Around) (i : Nat) (s : Shared) (Q : Value → Shared → Prop) (E : Value → Shared → Prop), tn i s.heap → Q (.ref it) s → wpAny (model P w) A (pyIter (.ref it)) Q E s
  run : ∀ (X : Cx), X.prog = P → X.w = w → X.calm = true → ∀ (pins : List (Addr × Obj)) (s : Shared) (σ : L2.St) (H : Hp), Inv X pins σ H s → Same G H → (∀ b ∈ own, H b = none) →
    ∃ (fp wr : List Addr) (src : Heap → Prop) (Y : Nat → Heap → Value → Heap → Prop), (∀ b ∈ wr, b ∈ own) ∧ GoesN P w X.A tg it fp wr ys.length Y (fun i h => tn i h ∧ src h) ∧ src s.heap ∧
      ∀ i u y h0 h', Y i h0 u h' → ys[i]? = some y → YV P w G y h0 u h'
theorem Feeds.turn {P : Program} {w : World} {K : PySem.W.Frag} {tg : Expr} {G : Hp} {ys : List Yd} {it : Addr} {own : List Addr} {tn : Nat → Heap → Prop} (F : Feeds P w tg G ys it own tn) : Turn P w K tg (Jt P w G ys) own it tn where
  mem := F.mem
  obj := F.obj
  keep := F.keep
  self := F.self
  item := by
    intro X hP hw hK hc i pins s σ H E I hf st hg
    obtain ⟨sg, hi⟩ := hg
    obtain ⟨fp, wr, src, Y, k1, W, k2, k3⟩ := F.run X hP hw hc pins s σ H I sg fun b hb => (hf b hb).1
    have hfw : ∀ b ∈ wr, FpOk X pins H b := fun b hb => hf b (k1 b hb)
    refine W.goes i s _ E hi ⟨st, k2⟩ fun u h' tk hY st' hk htk => ?_
    obtain ⟨y, ey⟩ : ∃ y, ys[i]? = some y := ⟨ys[i], List.getElem?_eq_getElem hi⟩
    have q := k3 i u y _ _ hY ey
    subst hP hw
    cases y with
    | one d =>
      obtain ⟨x, rx, rp⟩ := q
      exact ⟨x, H, I.turnedL (ch := wr) hk hfw, rx, ⟨_, ey, rfl, rp⟩, st'.1, fun b hb => (hf b hb).1⟩
    | two a b =>
      obtain ⟨T, u1, u2, rfl, hT, tp, ⟨x1, r1, p1⟩, ⟨x2, r2, p2⟩⟩ := q
      have new : ObjOk X.prog X.w (upd H T (.tup [x1, x2])) h' T (.tup [x1, x2]) := ⟨by show 2 ≤ sizeLine; decide, [u1, u2], .cons r1 (.cons r2 .nil), tp⟩
      refine ⟨.ref T, _, I.turnedNew (ch := wr) hk hfw hT new, rfl, ⟨_, ey, T, x1, x2, rfl, I.hok.fresh hT, rfl, p1, p2⟩, st'.1, fun b hb => ?_⟩
      obtain ⟨o, ho, _⟩ := F.obj _ _ st b hb
      rw [upd_ne (Nat.ne_of_lt (Nat.lt_of_lt_of_le (Heap.lt_size ho) hT))]
      exact (hf b hb).1
  done := by
    intro X hP hw hK hc i pins s σ H E I hf st hg
    obtain ⟨sg, rfl⟩ := hg
    obtain ⟨fp, wr, src, Y, k1, W, k2, k3⟩ := F.run X hP hw hc pins s σ H I sg fun b hb => (hf b hb).1
    subst hP hw
    exact W.stops s _ E ⟨st, k2⟩ fun h' tk hk htk => I.turnedL (ch := wr) hk fun b hb => hf b (k1 b hb)

/-! ### the kinds -/
section
variable {P : Program} {w : World} {tg : Expr} {G : Hp}
theorem ones_get : ∀ (ds : List D) (i : Nat) (y : Yd), (ones ds)[i]? = some y → ∃ d, y = .one d ∧ ds[i]? = some d
  | [], i, y, e => by simp [ones] at e
  | d :: ds, 0, y, e => by
    simp [ones] at e
    exact ⟨d, e.symm, rfl⟩
  | d :: ds, i + 1, y, e => by
    simp only [ones, List.getElem?_cons_succ] at e ⊢
    exact ones_get ds i y e
theorem ones_len : ∀ ds : List D, (ones ds).length = ds.length
  | [] => rfl
  | d :: ds => by simp [ones, ones_len ds]
theorem std_get {ds : List D} {vs : List V} {its : List Value} (r : RepL P w G ds vs) (rv : Vals vs its) {i : Nat} {d : D} {u : Value} (e : ds[i]? = some d) (eu : its[i]? = some u) : StdP P w G u d := by
  obtain ⟨v, e1, r1⟩ := r.get e
  obtain ⟨u', e2, r2⟩ := rv.get e1
  rw [e2] at eu
  cases eu
  exact ⟨v, r2, r1⟩
theorem feeds_list {l it : Addr} {ds : List D} {vs : List V} (hl : G l = some (.lst vs)) (r : RepL P w G ds vs) : Feeds P w tg G (ones ds) it [it] (fun i h => h.IsListIter it l i) where
  mem := by simp
  obj := (turn_list (P := P) (w := w) (K := ([] : PySem.W.Frag)) (tg := tg) l it).obj
  keep := (turn_list (P := P) (w := w) (K := ([] : PySem.W.Frag)) (tg := tg) l it).keep
  self := (turn_list (P := P) (w := w) (K := ([] : PySem.W.Frag)) (tg := tg) l it).self
  run := fun X hP hw hc pins s σ H I sg hn => by
    subst hP hw
    have hH := sg l _ hl
    obtain ⟨hz, its, n, rv, ho⟩ := I.hok l _ hH
    have hne : l ≠ it := fun e => by
      rw [e, hn it (by simp)] at hH
      cases hH
    have len : (ones ds).length = its.toArray.size := by rw [ones_len, r.length, List.size_toArray, rv.length]
    rw [len]
    refine ⟨_, [it], fun h => h.IsList l its.toArray, _, fun b hb => hb, (Goes.list (I.ok.hd hc) it l hne its.toArray).toN, ⟨_, ho, rfl, n, rfl⟩, fun i u y h0 h' hY ey => ?_⟩
    obtain ⟨d, rfl, ed⟩ := ones_get ds i y ey
    exact std_get r rv ed (by simpa using hY)
theorem feeds_tuple {l it : Addr} {o : Obj} {ds : List D} {vs : List V} (hl : G l = some (.frz o (.tup vs))) (r : RepL P w G ds vs) : Feeds P w tg G (ones ds) it [it] (fun i h => h.IsTupleIter it l i) where
  mem := by simp
  obj := (turn_tuple (P := P) (w := w) (K := ([] : PySem.W.Frag)) (tg := tg) l it).obj
  keep := (turn_tuple (P := P) (w := w) (K := ([] : PySem.W.Frag)) (tg := tg) l it).keep
  self := (turn_tuple (P := P) (w := w) (K := ([] : PySem.W.Frag)) (tg := tg) l it).self
  run := fun X hP hw hc pins s σ H I sg hn => by
    subst hP hw
    have hH := sg l _ hl
    obtain ⟨ho, hz, its, rv, tp⟩ := I.hok l _ hH
    have hne : l ≠ it := fun e => by
      rw [e, hn it (by simp)] at hH
      cases hH
    have len : (ones ds).length = its.toArray.size := by rw [ones_len, r.length, List.size_toArray, rv.length]
    rw [len]
    refine ⟨_, [it], fun h => h.IsTuple l its.toArray, _, fun b hb => hb, (Goes.tuple (I.ok.hd hc) it l hne its.toArray).toN, tp, fun i u y h0 h' hY ey => ?_⟩
    obtain ⟨d, rfl, ed⟩ := ones_get ds i y ey
    exact std_get r rv ed (by simpa using hY)
end
end Sq
end

section
set_option Elab.async false
set_option linter.all false
set_option maxRecDepth 100000
set_option maxHeartbeats 1000000
/-! iterators of other kinds -/
namespace Sq
open PySem L2 PyProof.Rows

section
variable {P : Program} {w : World} {tg : Expr} {G : Hp}
theorem goes_st {A : Around} {I : Addr} {fp wr : List Addr} {n : Nat} {Y : Nat → Heap → Value → Heap → Prop} {St St' : Nat → Heap → Prop} (W : GoesN P w A tg I fp wr n Y St) (h : ∀ i h, St i h ↔ St' i h) : GoesN P w A tg I fp wr n Y St' := by
  have e : St = St' := by
    funext i x
    exact propext (h i x)
  rw [← e]
  exact W
theorem rng_get (step : Int) : ∀ (n : Nat) (lo : Int) (i : Nat) (d : D), (rng lo step n)[i]? = some d → d = .int (lo + i * step)
  | 0, lo, i, d, e => by simp [rng] at e
  | n + 1, lo, 0, d, e => by
    simp [rng] at e
    rw [← e]
    simp
  | n + 1, lo, i + 1, d, e => by
    simp only [rng, List.getElem?_cons_succ] at e
    rw [rng_get step n (lo + step) i d e]
    congr 1
    rw [show ((i + 1 : Nat) : Int) = (i : Int) + 1 by omega, Int.add_mul, Int.one_mul]
    omega
theorem rng_len (step : Int) : ∀ (n : Nat) (lo : Int), (rng lo step n).length = n
  | 0, _ => rfl
  | n + 1, lo => by simp [rng, rng_len step n]
theorem feeds_range {it : Addr} (lo : Int) (n : Nat) : Feeds P w tg G (ones (rng lo 1 n)) it [it] (fun i h => IsRangeIter h it (lo + (i : Nat) * 1) ((n : Int) - (i : Nat)) 1) where
  mem := by simp
  obj := (turn_range (P := P) (w := w) (K := ([] : PySem.W.Frag)) (tg := tg) it lo n).obj
  keep := (turn_range (P := P) (w := w) (K := ([] : PySem.W.Frag)) (tg := tg) it lo n).keep
  self := (turn_range (P := P) (w := w) (K := ([] : PySem.W.Frag)) (tg := tg) it lo n).self
  run := fun X hP hw hc pins s σ H I sg hn => by
    subst hP hw
    have len : (ones (rng lo 1 n)).length = n := by rw [ones_len, rng_len]
    rw [len]
    refine ⟨_, [it], fun _ => True, _, fun b hb => hb, goes_st (Goes.range (I.ok.hd hc) it lo 1 n).toN fun i h => ⟨fun z => ⟨z, trivial⟩, fun z => z.1⟩, trivial, fun i u y h0 h' hY ey => ?_⟩
    obtain ⟨d, rfl, ed⟩ := ones_get _ i y ey
    obtain ⟨t, rfl⟩ := hY
    rw [rng_get 1 n lo i d ed]
    exact ⟨.int (lo + i * 1), ⟨t, rfl⟩, .int _⟩
/-- a dict's entries, by data -/
theorem entry_std {o : Obj} {xs : List (NestedKey × Addr × Value)} {kvs : List (D × D)} {es : Array DictEntry} {ep : Nat} (dob : DObj P w o xs) (hd : o.data = .dict es ep) (r : RepK P w G kvs xs) :
    kvs.length = es.size ∧ ∀ (i : Nat) (hi : i < es.size) (k d : D), kvs[i]? = some (k, d) → StdP P w G es[i].key k ∧ StdP P w G es[i].val d := by
  obtain ⟨es', ep', e1, e2⟩ := dob.dat
  rw [hd] at e1
  cases e1
  have l1 : es.size = xs.length := by rw [← Array.length_toList, e2, List.length_map]
  have l2 := r.length
  refine ⟨by omega, fun i hi k d e => ?_⟩
  have go : ∀ {kvs : List (D × D)} {xs : List (NestedKey × Addr × Value)}, RepK P w G kvs xs → ∀ {i : Nat} {k d : D}, kvs[i]? = some (k, d) → ∃ x, xs[i]? = some x ∧ StdP P w G (.ref x.2.1) k ∧ StdP P w G x.2.2 d := by
    intro kvs
    induction kvs with
    | nil =>
      intro xs r i k d e
      simp at e
    | cons p kvs ih =>
      intro xs r i k d e
      cases r with
      | cons h1 h2 h3 h4 h5 h6 =>
        cases i with
        | zero =>
          simp at e
          obtain ⟨rfl, rfl⟩ := e
          exact ⟨_, rfl, ⟨.ref _, rfl, h3⟩, ⟨_, h4, h5⟩⟩
        | succ i =>
          obtain ⟨x, q1, q2⟩ := ih h6 (i := i) (by simpa using e)
          exact ⟨x, by simpa using q1, q2⟩
  obtain ⟨x, q1, q2, q3⟩ := go r e
  have ee : es.toList[i]? = some (entryOfKey (nestedKind P w) x) := by rw [e2, List.getElem?_map, q1]; rfl
  rw [Array.getElem?_toList, Array.getElem?_eq_getElem hi] at ee
  rw [Option.some.inj ee]
  exact ⟨q2, q3⟩
theorem feeds_keys {d it : Addr} {o : Obj} {xs : List (NestedKey × Addr × Value)} {kvs : List (D × D)} {es : Array DictEntry} {ep : Nat} (hg : G d = some (At d o)) (dob : DObj P w o xs) (hd : o.data = .dict es ep) (r : RepK P w G kvs xs) :
    Feeds P w tg G (ones (kvs.map (·.1))) it [it] (fun i h => h.IsKeyIter it d i es.size ep) where
  mem := by simp
  obj := fun i h st b hb => by
    have e : b = it := by simpa using hb
    subst e
    obtain ⟨oi, e, c, dd⟩ := st
    exact ⟨oi, e, fun v z => by rw [dd] at z; cases z⟩
  keep := fun i h h' st k => st.at fun oi e => k it (by simp) oi e
  self := fun A i s Q E st h => wpAny_pyIter_keyiter st h
  run := fun X hP hw hc pins s σ H I sg hn => by
    subst hP hw
    have hH := sg d _ hg
    have hne : d ≠ it := fun e => by
      rw [e, hn it (by simp)] at hH
      cases hH
    obtain ⟨l1, std⟩ := entry_std dob hd r
    have len : (ones (kvs.map (·.1))).length = es.size := by rw [ones_len, List.length_map, l1]
    rw [len]
    refine ⟨_, [it], fun h => h.DictRaw d es ep, _, fun b hb => hb, (Goes.rawKeys (I.ok.hd hc) it d hne es ep).toN, ⟨o, at_ok I hH, dob.exact, hd⟩, fun i u y h0 h' hY ey => ?_⟩
    obtain ⟨k, rfl, ek⟩ := ones_get _ i y ey
    obtain ⟨hi, rfl⟩ := hY
    rw [List.getElem?_map] at ek
    cases e : kvs[i]? with
    | none => rw [e] at ek; cases ek
    | some p =>
      rw [e] at ek
      cases ek
      exact (std i hi p.1 p.2 e).1
theorem items_get : ∀ (kvs : List (D × D)) (i : Nat) (y : Yd), (itemsL kvs)[i]? = some y → ∃ k d, y = .two k d ∧ kvs[i]? = some (k, d)
  | [], i, y, e => by simp [itemsL] at e
  | (a, b) :: r, 0, y, e => by
    simp [itemsL] at e
    exact ⟨a, b, e.symm, rfl⟩
  | (a, b) :: r, i + 1, y, e => by
    simp only [itemsL, List.getElem?_cons_succ] at e ⊢
    exact items_get r i y e
theorem items_len : ∀ kvs : List (D × D), (itemsL kvs).length = kvs.length
  | [] => rfl
  | (a, b) :: r => by simp [itemsL, items_len r]
theorem feeds_items {d it : Addr} {o : Obj} {xs : List (NestedKey × Addr × Value)} {kvs : List (D × D)} {es : Array DictEntry} {ep : Nat} {elts : List Expr} {x1 : Nat} {pos : Pos} (hg : G d = some (At d o)) (dob : DObj P w o xs) (hd : o.data = .dict es ep) (r : RepK P w G kvs xs) :
    Feeds P w (.Tuple elts x1 pos) G (itemsL kvs) it [it] (fun i h => ∃ ok ov, IsItemIter h it d i es.size ep ok ov) where
  mem := by simp
  obj := fun i h st b hb => by
    have e : b = it := by simpa using hb
    subst e
    obtain ⟨ok, ov, e⟩ := st
    exact ⟨_, e, fun v z => nomatch z⟩
  keep := fun i h h' st k => let ⟨ok, ov, e⟩ := st; ⟨ok, ov, k it (by simp) _ e⟩
  self := fun A i s Q E st h => let ⟨_, _, e⟩ := st; PySem.W.kcp_self e h
  run := fun X hP hw hc pins s σ H I sg hn => by
    subst hP hw
    have hH := sg d _ hg
    have hne : d ≠ it := fun e => by
      rw [e, hn it (by simp)] at hH
      cases hH
    obtain ⟨l1, std⟩ := entry_std dob hd r
    have len : (itemsL kvs).length = es.size := by rw [items_len, l1]
    rw [len]
    refine ⟨_, [it], fun h => h.DictRaw d es ep, _, fun b hb => hb, GoesN.rawItems (I.ok.hd hc) it d hne es ep, ⟨o, at_ok I hH, dob.exact, hd⟩, fun i u y h0 h' hY ey => ?_⟩
    obtain ⟨k, x, rfl, ek⟩ := items_get _ i y ey
    obtain ⟨T, hi, rfl, hT, tp⟩ := hY
    obtain ⟨q1, q2⟩ := std i hi k x ek
    exact ⟨T, _, _, rfl, hT, tp, q1, q2⟩

/-! ### what a list and a tuple have in common -/
structure Drawn (P : Program) (w : World) (G : Hp) (l : Addr) (ds : List D) (ob : Obj) (itr : Heap → Addr → Nat → Prop) : Prop where
  keep : ∀ h h' it i, itr h it i → (∀ o, h.get? it = some o → h'.get? it = some o) → itr h' it i
  obj : ∀ h it i, itr h it i → ∃ o, h.get? it = some o ∧ ∀ v, o.data ≠ .cell v
  new : ∀ h it, h.get? it = some ob → itr h it 0
  here : ∃ o, G l = some o
  draw : ∀ (X : Cx), X.prog = P → X.w = w → ∀ (pins : List (Addr × Obj)) (s : Shared) (σ : L2.St) (H : Hp), Inv X pins σ H s → Same G H →
    ∃ (items : Array Value) (src : Heap → Prop), src s.heap ∧ Begins (.ref l) ob src ∧ (∀ (A : Around) (it : Addr), A.handled = none → l ≠ it → Draws P w A it [it, l] ds.length (fun i v => items[i]? = some v) (fun i h => itr h it i ∧ src h)) ∧
      ∀ (i : Nat) (u : Value) (d : D), items[i]? = some u → ds[i]? = some d → StdP P w G u d
theorem drawn_list {l : Addr} {ds : List D} {vs : List V} (hl : G l = some (.lst vs)) (r : RepL P w G ds vs) : Drawn P w G l ds { cls := .type "list_iterator", data := .fields #[.ref l, .int 0 0] } (fun h it i => h.IsListIter it l i) where
  keep := fun h h' it i st k => st.at k
  obj := fun h it i st => by
    obtain ⟨o, e, c, d⟩ := st
    exact ⟨o, e, fun v z => by rw [d] at z; cases z⟩
  new := fun h it e => ⟨_, e, rfl, rfl⟩
  here := ⟨_, hl⟩
  draw := fun X hP hw pins s σ H I sg => by
    subst hP hw
    obtain ⟨hz, its, n, rv, ho⟩ := I.hok l _ (sg l _ hl)
    have len : ds.length = its.toArray.size := by rw [r.length, List.size_toArray, rv.length]
    rw [len]
    exact ⟨its.toArray, fun h => h.IsList l its.toArray, ⟨_, ho, rfl, n, rfl⟩, begins_list l _, fun A it hh hne => Draws.list hh it l hne _, fun i u d e1 e2 => std_get r rv e2 (by simpa using e1)⟩
theorem drawn_tuple {l : Addr} {o : Obj} {ds : List D} {vs : List V} (hl : G l = some (.frz o (.tup vs))) (r : RepL P w G ds vs) : Drawn P w G l ds { cls := .type "tuple_iterator", data := .fields #[.ref l, .int 0 0] } (fun h it i => h.IsTupleIter it l i) where
  keep := fun h h' it i st k => st.at k
  obj := fun h it i st => by
    obtain ⟨o, e, c, d⟩ := st
    exact ⟨o, e, fun v z => by rw [d] at z; cases z⟩
  new := fun h it e => ⟨_, e, rfl, rfl⟩
  here := ⟨_, hl⟩
  draw := fun X hP hw pins s σ H I sg => by
    subst hP hw
    obtain ⟨ho, hz, its, rv, tp⟩ := I.hok l _ (sg l _ hl)
    have len : ds.length = its.toArray.size := by rw [r.length, List.size_toArray, rv.length]
    rw [len]
    exact ⟨its.toArray, fun h => h.IsTuple l its.toArray, tp, begins_tuple l _, fun A it hh hne => Draws.tuple hh it l hne _, fun i u d e1 e2 => std_get r rv e2 (by simpa using e1)⟩
theorem enum_get : ∀ (ds : List D) (k : Int) (i : Nat) (y : Yd), (enumL k ds)[i]? = some y → ∃ d, y = .two (.int (k + i)) d ∧ ds[i]? = some d
  | [], k, i, y, e => by simp [enumL] at e
  | d :: ds, k, 0, y, e => by
    simp [enumL] at e
    exact ⟨d, by rw [← e]; simp, rfl⟩
  | d :: ds, k, i + 1, y, e => by
    simp only [enumL, List.getElem?_cons_succ] at e ⊢
    obtain ⟨x, e1, e2⟩ := enum_get ds (k + 1) i y e
    refine ⟨x, ?_, e2⟩
    rw [e1, show k + ((i + 1 : Nat) : Int) = k + 1 + (i : Int) by omega]
theorem enum_len : ∀ (ds : List D) (k : Int), (enumL k ds).length = ds.length
  | [], _ => rfl
  | d :: ds, k => by simp [enumL, enum_len ds]
theorem feeds_enum {l e it : Addr} {ds : List D} {ob : Obj} {itr : Heap → Addr → Nat → Prop} {elts : List Expr} {x1 : Nat} {pos : Pos} (S : Drawn P w G l ds ob itr) (hei : e ≠ it) :
    Feeds P w (.Tuple elts x1 pos) G (enumL 0 ds) e [e, it] (fun i h => (∃ old, IsEnum h e it (0 + (i : Int)) old) ∧ itr h it i) where
  mem := by simp
  obj := fun i h st b hb => by
    obtain ⟨⟨old, he⟩, hi⟩ := st
    have e' : b = e ∨ b = it := by simpa using hb
    rcases e' with z | z
    · rw [z]; exact ⟨_, he, fun v q => nomatch q⟩
    · rw [z]; exact S.obj h it i hi
  keep := fun i h h' st k => let ⟨⟨old, he⟩, hi⟩ := st; ⟨⟨old, k e (by simp) _ he⟩, S.keep _ _ _ _ hi fun o q => k it (by simp) o q⟩
  self := fun A i s Q E st h => let ⟨⟨_, he⟩, _⟩ := st; wpAny_pyIter_enum he h
  run := fun X hP hw hc pins s σ H I sg hn => by
    obtain ⟨o, hl⟩ := S.here
    have hH := sg l _ hl
    have ne : ∀ b ∈ [e, it], l ≠ b := fun b hb z => by
      rw [z, hn b hb] at hH
      cases hH
    obtain ⟨items, src, h0, B, D, q⟩ := S.draw X hP hw pins s σ H I sg
    have len : (enumL 0 ds).length = ds.length := enum_len ds 0
    rw [len]
    have hh : X.A.in1.handled = none := by simp [I.ok.hd hc]
    refine ⟨_, [e, it], src, _, fun b hb => hb, goes_st (GoesN.enumFrom 0 (D X.A.in1 it hh (ne it (by simp))) e hei ?_ (by simp)) fun i h => ⟨fun z => ⟨⟨z.1, z.2.1⟩, z.2.2⟩, fun z => ⟨z.1.1, z.1.2, z.2⟩⟩, h0, fun i u y h1 h' hY ey => ?_⟩
    · simp only [List.mem_cons, List.not_mem_nil, or_false, not_or]
      exact ⟨hei, fun z => ne e (by simp) z.symm⟩
    · obtain ⟨d, rfl, ed⟩ := enum_get ds 0 i y ey
      obtain ⟨T, t, x, rfl, hT, hx, tp⟩ := hY
      exact ⟨T, _, _, rfl, hT, tp, ⟨.int _, ⟨t, rfl⟩, .int _⟩, q i x d hx ed⟩
theorem zip_get : ∀ (xs ys : List D) (i : Nat) (y : Yd), (zipL xs ys)[i]? = some y → ∃ a b, y = .two a b ∧ xs[i]? = some a ∧ ys[i]? = some b
  | [], ys, i, y, e => by simp [zipL] at e
  | x :: xs, [], i, y, e => by simp [zipL] at e
  | x :: xs, z :: zs, 0, y, e => by
    simp [zipL] at e
    exact ⟨x, z, e.symm, rfl, rfl⟩
  | x :: xs, z :: zs, i + 1, y, e => by
    simp only [zipL, List.getElem?_cons_succ] at e ⊢
    exact zip_get xs zs i y e
theorem zip_len : ∀ (xs ys : List D), (zipL xs ys).length = min xs.length ys.length
  | [], ys => by simp [zipL]
  | x :: xs, [] => by simp [zipL]
  | x :: xs, z :: zs => by simp [zipL, zip_len xs zs]
theorem feeds_zip {l1 l2 z TI TO i1 i2 : Addr} {xs ys : List D} {o1 o2 : Obj} {it1 it2 : Heap → Addr → Nat → Prop} {elts : List Expr} {x1 : Nat} {pos : Pos} (S1 : Drawn P w G l1 xs o1 it1) (S2 : Drawn P w G l2 ys o2 it2) (Z : PySem.ZipSep2 z TI TO i1 i2 [i1, l1] [i2, l2]) :
    Feeds P w (.Tuple elts x1 pos) G (zipL xs ys) z [z, TI, TO, i1, i2] (fun i h => IsZip h z TI TO .none ∧ PySem.IsTupOf2 h TI (.ref i1) (.ref i2) ∧ (∃ a1 a2, PySem.IsTupOf2 h TO a1 a2) ∧ it1 h i1 i ∧ it2 h i2 i) where
  mem := by simp
  obj := fun i h st b hb => by
    obtain ⟨hz, hT, ⟨a1, a2, hO⟩, h1, h2⟩ := st
    have e' : b = z ∨ b = TI ∨ b = TO ∨ b = i1 ∨ b = i2 := by simpa using hb
    rcases e' with q | q | q | q | q
    · rw [q]; exact ⟨_, hz, fun v q => nomatch q⟩
    · rw [q]; exact ⟨_, hT, fun v q => nomatch q⟩
    · rw [q]; exact ⟨_, hO, fun v q => nomatch q⟩
    · rw [q]; exact S1.obj h i1 i h1
    · rw [q]; exact S2.obj h i2 i h2
  keep := fun i h h' st k => by
    obtain ⟨hz, hT, ⟨a1, a2, hO⟩, h1, h2⟩ := st
    exact ⟨k z (by simp) _ hz, k TI (by simp) _ hT, ⟨a1, a2, k TO (by simp) _ hO⟩, S1.keep _ _ _ _ h1 fun o q => k i1 (by simp) o q, S2.keep _ _ _ _ h2 fun o q => k i2 (by simp) o q⟩
  self := fun A i s Q E st h => wpAny_pyIter_zip st.1 h
  run := fun X hP hw hc pins s σ H I sg hn => by
    obtain ⟨ob1, hl1⟩ := S1.here
    obtain ⟨ob2, hl2⟩ := S2.here
    have hH1 := sg l1 _ hl1
    have hH2 := sg l2 _ hl2
    have ne1 : l1 ≠ i1 := fun q => by
      rw [q, hn i1 (by simp)] at hH1
      cases hH1
    have ne2 : l2 ≠ i2 := fun q => by
      rw [q, hn i2 (by simp)] at hH2
      cases hH2
    obtain ⟨items1, src1, g1, B1, D1, q1⟩ := S1.draw X hP hw pins s σ H I sg
    obtain ⟨items2, src2, g2, B2, D2, q2⟩ := S2.draw X hP hw pins s σ H I sg
    have hh : X.A.in1.handled = none := by simp [I.ok.hd hc]
    rw [zip_len]
    refine ⟨_, [z, TO, i1, i2], fun h => src1 h ∧ src2 h, _, fun b hb => ?_, goes_st (GoesN.zip2 Z (D1 X.A.in1 i1 hh ne1) (D2 X.A.in1 i2 hh ne2)) fun i h => ⟨fun ⟨a, b, c, d, e⟩ => ⟨⟨a, b, c, d.1, e.1⟩, d.2, e.2⟩, fun ⟨⟨a, b, c, d, e⟩, f, g⟩ => ⟨a, b, c, ⟨d, f⟩, e, g⟩⟩, ⟨g1, g2⟩, fun i u y h1 h' hY ey => ?_⟩
    · simp only [List.mem_cons, List.not_mem_nil, or_false] at hb ⊢
      rcases hb with q | q | q | q
      · exact .inl q
      · exact .inr (.inr (.inl q))
      · exact .inr (.inr (.inr (.inl q)))
      · exact .inr (.inr (.inr (.inr q)))
    · obtain ⟨a, b, rfl, ea, eb⟩ := zip_get xs ys i y ey
      obtain ⟨T, u1, u2, rfl, hT, hx, hy, tp⟩ := hY
      exact ⟨T, u1, u2, rfl, hT, tp, q1 i u1 a hx ea, q2 i u2 b hy eb⟩
end
end Sq
end

section
set_option Elab.async false
set_option linter.all false
set_option maxRecDepth 100000
set_option maxHeartbeats 1000000
/-! weakest judgements; where a loop's iterator comes from -/
namespace Sq
open PySem L2 PyProof.Rows

section
variable {X : Cx} {e tg x : Expr} {es : List Expr}
def wE (X : Cx) (e : Expr) : TE := fun σ H Q => ∀ (pins : List (Addr × Obj)) (s : Shared), Inv X pins σ H s → wpAny (model X.prog X.w) X.A (eval e X.env) (EP X pins σ Q) X.xe s
theorem wE_ok : PE X e (wE X e) := ⟨fun pins s σ H Q I h => h pins s I⟩
theorem wE_of {t : TE} {σ : L2.St} {H : Hp} {Q : VK} (h : PE X e t) (q : t σ H Q) : wE X e σ H Q := fun pins s I => h.run pins s σ H Q I q
def wT (X : Cx) (e : Expr) : TT := fun σ H Q => ∀ (pins : List (Addr × Obj)) (s : Shared), Inv X pins σ H s → wpAny (model X.prog X.w) X.A (isTrue e X.env (eval e X.env)) (TP X pins σ Q) X.xe s
theorem wT_ok : PT X e (wT X e) := ⟨fun pins s σ H Q I h => h pins s I⟩
theorem wT_of {t : TT} {σ : L2.St} {H : Hp} {Q : Bool → Hp → Prop} (h : PT X e t) (q : t σ H Q) : wT X e σ H Q := fun pins s I => h.run pins s σ H Q I q
def wW (X : Cx) (e : Expr) : TT := fun σ H Q => ∀ (whole : Sem Value) (pins : List (Addr × Obj)) (s : Shared), Inv X pins σ H s → wpAny (model X.prog X.w) X.A (isTrue e X.env whole) (TP X pins σ Q) X.xe s
theorem wW_ok : PW X e (wW X e) := ⟨fun whole pins s σ H Q I h => h whole pins s I⟩
theorem wW_of {t : TT} {σ : L2.St} {H : Hp} {Q : Bool → Hp → Prop} (h : PW X e t) (q : t σ H Q) : wW X e σ H Q := fun whole pins s I => h.run whole pins s σ H Q I q
def wA (X : Cx) (es : List Expr) : TA := fun σ H Q => ∀ (pos : Pos) (pins : List (Addr × Obj)) (s : Shared), Inv X pins σ H s → wpAny (model X.prog X.w) X.A (spliced (backTo pos (starEach es X.env))) (AP X pins σ Q) X.xe s
theorem wA_ok : PA X es (wA X es) := ⟨fun pos pins s σ H Q I h => h pos pins s I⟩
theorem wA_of {t : TA} {σ : L2.St} {H : Hp} {Q : List V → Hp → Prop} (h : PA X es t) (q : t σ H Q) : wA X es σ H Q := fun pos pins s I => h.run pos pins s σ H Q I q
def wI (X : Cx) (tg x : Expr) : TI := fun σ H R => ∀ (pins : List (Addr × Obj)) (s : Shared), Inv X pins σ H s → wpAny (model X.prog X.w) X.A (eval x X.env) (fun v s1 => wpAny (model X.prog X.w) X.A (pyIter v) (PIE X pins σ tg R) X.xe s1) X.xe s
theorem wI_ok : PI X tg x (wI X tg x) := ⟨fun pins s σ H R I h => h pins s I⟩
def wG (X : Cx) (tg : Expr) : TG := fun v σ H Q => ∀ (pins : List (Addr × Obj)) (s : Shared) (u : Value), Inv X pins σ H s → RelV v u → wpAny (model X.prog X.w) X.A (assign tg X.env u) (fun _ s' => ∃ σ' H', Inv X pins σ' H' s' ∧ Q σ' H') X.xe s
theorem wG_ok : PG X tg (wG X tg) := ⟨fun pins s σ H v u Q I r h => h pins s u I r⟩
theorem wG_of {t : TG} {v : V} {σ : L2.St} {H : Hp} {Q : L2.St → Hp → Prop} (h : PG X tg t) (q : t v σ H Q) : wG X tg v σ H Q := fun pins s u I r => h.run pins s σ H v u Q I r q
end
/-- the value is d -/
abbrev Got (X : Cx) (O : List Addr) (H : Hp) (d : D) : VK := fun v H1 => Same H H1 ∧ Rp X O H1 d v
theorem got_post {X : Cx} {O : List Addr} {H : Hp} {d : D} : Post X O H d (Got X O H d) := fun v H' e r => ⟨e, r⟩
/-- what is wanted of an iterator that gives ys -/
def PostI (X : Cx) (O : List Addr) (H : Hp) (ys : List Yd) (R : It → Hp → Prop) : Prop := ∀ H1, Same H H1 → R (Jt X.prog X.w (hide O H1) ys) H1

section
variable {X : Cx} {O : List Addr} {H : Hp} {σ : L2.St} {tg e e2 : Expr} {R : It → Hp → Prop} {ds : List D}
theorem wi_list (h : wE X e σ H (Got X O H (.list ds))) (q : PostI X O H (ones ds) R) : wI X tg e σ H R := fun pins s I => by
  refine thn (h pins s I) fun u s1 ⟨v, H1, I1, r1, sm, rp⟩ => ?_
  cases rp with
  | lst h1 rl =>
    cases r1
    obtain ⟨its, rv, p, hz⟩ := I1.list (sqL (K := X.K) h1)
    exact wpAny_pyIter_list p.isList (pi_one (tk := s1.toks) I1 _ (feeds_list h1 rl).turn ⟨_, Heap.get?_push_size _ rfl, rfl, rfl⟩ (q H1 sm))
theorem wi_tuple (h : wE X e σ H (Got X O H (.tuple ds))) (q : PostI X O H (ones ds) R) : wI X tg e σ H R := fun pins s I => by
  refine thn (h pins s I) fun u s1 ⟨v, H1, I1, r1, sm, rp⟩ => ?_
  cases rp with
  | tup h1 n1 rl =>
    cases r1
    obtain ⟨its, rv, p, hz⟩ := I1.tuple (sqT (K := X.K) h1)
    exact wpAny_pyIter_tuple (show s1.heap.IsTuple _ its.toArray from p) (pi_one (tk := s1.toks) I1 _ (feeds_tuple h1 rl).turn ⟨_, Heap.get?_push_size _ rfl, rfl, rfl⟩ (q H1 sm))
theorem wi_dict {kvs : List (D × D)} (h : wE X e σ H (Got X O H (.dict kvs))) (q : PostI X O H (ones (kvs.map (·.1))) R) : wI X tg e σ H R := fun pins s I => by
  refine thn (h pins s I) fun u s1 ⟨v, H1, I1, r1, sm, rp⟩ => ?_
  cases rp with
  | dct h1 hsm dob rk =>
    cases r1
    obtain ⟨es, ep, hd, he⟩ := dob.dat
    exact iter_keys hsm (at_ok I1 (hide_some h1).1) dob.exact hd (pi_one (tk := s1.toks) I1 _ (feeds_keys h1 dob hd rk).turn ⟨_, Heap.get?_push_size _ rfl, rfl, rfl⟩ (q H1 sm))
theorem wi_items {elts : List Expr} {kk : Nat} {tpos apos cpos : Pos} {kvs : List (D × D)} (h : wE X e σ H (Got X O H (.dict kvs))) (q : PostI X O H (itemsL kvs) R)
    (hbase : attributeBase e "items" X.env (eval e X.env) = eval e X.env) (hline : (apos.endLine == cpos.line) = true) : wI X (.Tuple elts kk tpos) (.Call (.Attribute e "items" apos) [] [] cpos) σ H R := fun pins s I => by
  refine wpAny_Call_method (T := "dict") (id := "dict.items") hbase rfl hline PySem.F.plainAttrs_dict PySem.F.slot_dict_items PySem.F.type_dict_items (thn (h pins s I) fun u s1 ⟨v, H1, I1, r1, sm, rp⟩ => ?_)
  cases rp with
  | dct h1 hsm dob rk =>
    rename_i d o xs
    cases r1
    obtain ⟨es, ep, hd, he⟩ := dob.dat
    have hget := at_ok I1 (hide_some h1).1
    have raw : s1.heap.DictRaw d es ep := ⟨o, hget, dob.exact, hd⟩
    refine ⟨raw.typeIs, fun p e => by cases e; exact ⟨o, hget, dob.exact.2.1⟩, ?_⟩
    have I2 : Inv X pins σ H1 { s1 with heap := s1.heap.push { cls := .type "dict_items", data := .fields #[.ref d] } } := I1.kept (t' := s1.toks) fun b ob q => Heap.get?_push_of_some _ q
    have fin : wpAny (model X.prog X.w) X.A (pyIter (.ref s1.heap.objs.size)) (PIE X pins σ (.Tuple elts kk tpos) R) X.xe { s1 with heap := s1.heap.push { cls := .type "dict_items", data := .fields #[.ref d] } } :=
      wpAny_pyIter_items_raw (d := d) ⟨_, Heap.get?_push_size _ rfl, rfl, rfl⟩ (raw.at fun ob e => Heap.get?_push_of_some _ e) (pi_one (tk := s1.toks) I2 _ (feeds_items h1 dob hd rk).turn ⟨.none, .none, Heap.get?_push_size _ rfl⟩ (q H1 sm))
    show wpAny _ _ (callWith cpos (.builtin "dict.items") [.ref d] [] []) _ X.xe s1
    exact method_meetsIn PySem.F.slot_dict_items PySem.F.entry_dict_items rfl (PySem.evalArgs_none ⟨rfl, raw.typeIs, PySem.F.args_dict_items_1 _, _, meets_dict_items_raw d hsm, ⟨es, ep, raw⟩, fin⟩)
/-- a range walked -/
theorem range_start {pins : List (Addr × Obj)} {s : Shared} {E : Value → Shared → Prop} {lo hi : Int} {t u v : Tok} {tk : Nat} (I : Inv X pins σ H s) (h1 : lo.natAbs < 1000000) (h2 : hi.natAbs < 1000000) (q : PostI X O H (ones (rng lo 1 (hi - lo).toNat)) R) :
    wpAny (model X.prog X.w) X.A (pyIter (.ref s.heap.objs.size)) (PIE X pins σ tg R) E { s with heap := s.heap.push { cls := .type "range", data := .fields #[.int lo t, .int hi u, .int 1 v] }, toks := tk } := by
  have I1 : Inv X pins σ H { s with heap := s.heap.push { cls := .type "range", data := .fields #[.int lo t, .int hi u, .int 1 v] }, toks := tk } := I.kept fun b o e => Heap.get?_push_of_some _ e
  refine wpAny_pyIter_range (IsRange.new ..) (small_one (by omega) (by omega) (by omega) (by omega)) (pi_one (tk := tk) I1 _ (feeds_range (P := X.prog) (w := X.w) (G := hide O H) lo (hi - lo).toNat).turn ?_ (q H (Same.refl H)))
  have e1 : lo + ((0 : Nat) : Int) * 1 = lo := by simp
  have e2 : (((hi - lo).toNat : Nat) : Int) - ((0 : Nat) : Int) = Builtin.Range.rangeSize lo hi 1 := by rw [rangeSize_one]; split <;> omega
  show IsRangeIter _ _ (lo + ((0 : Nat) : Int) * 1) ((((hi - lo).toNat : Nat) : Int) - ((0 : Nat) : Int)) 1
  rw [e1, e2]
  exact Heap.get?_push_size _ rfl
theorem PostI.mono {ys : List Yd} {H' : Hp} (q : PostI X O H ys R) (e : Same H H') : PostI X O H' ys R := fun H1 e1 => q H1 (e.trans e1)
theorem wi_rng1 {p pos : Pos} {i : Int} (g1 : Gl X "range") (m1 : X.mg "range" = none) (he : wE X e σ H (Got X O H (.int i))) (na : starEach [e] X.env = (false, eval e X.env) :: starEach [] X.env) (hi : i.natAbs < 1000000)
    (q : PostI X O H (ones (rng 0 1 i.toNat)) R) : wI X tg (.Call (.Name "range" p) [e] [] pos) σ H R := fun pins s I => by
  refine Call_ (ld_blt I g1 m1 boot_range (callWith_type1 (args_cons (thn (he pins s I) fun u s1 ⟨v, H1, I1, r1, sm, rp⟩ => args_nil ?_) na) na))
  cases rp
  obtain ⟨t, rfl⟩ := r1
  refine call_range_1 (range_start (O := O) I1 (by decide) hi ?_)
  rw [Int.sub_zero]
  exact q.mono sm
theorem wi_rng2 {p pos : Pos} {i j : Int} (g1 : Gl X "range") (m1 : X.mg "range" = none) (he : wE X e σ H fun v H1 => v = .int i ∧ wE X e2 σ H1 fun u H2 => u = .int j ∧ Same H H2) (na : starEach [e, e2] X.env = (false, eval e X.env) :: starEach [e2] X.env)
    (nb : starEach [e2] X.env = (false, eval e2 X.env) :: starEach [] X.env) (hp : (backTo pos (starEach [e2] X.env)).any (·.1) = false) (hi : i.natAbs < 1000000) (hj : j.natAbs < 1000000)
    (q : PostI X O H (ones (rng i 1 (j - i).toNat)) R) : wI X tg (.Call (.Name "range" p) [e, e2] [] pos) σ H R := fun pins s I => by
  refine Call_ (ld_blt I g1 m1 boot_range (callWith_type1 (args_cons (thn (he pins s I) fun u s1 ⟨v, H1, I1, r1, ev, h2⟩ => args_cons (thn (h2 pins s1 I1) fun u2 s2 ⟨v2, H2, I2, r2, ev2, sm⟩ => args_nil ?_) nb) na) na hp))
  subst ev
  subst ev2
  obtain ⟨t, rfl⟩ := r1
  obtain ⟨t', rfl⟩ := r2
  exact call_range_2 (range_start I2 hi hj (q.mono sm))
set_option maxHeartbeats 4000000 in
theorem meets_enum_one {v : Value} {o : Obj} {Hh : Heap → Prop} (B : Begins v o Hh) :
    Meets (Builtin.«enumerate.__new__» ⟨[.type "enumerate", v], []⟩) (fun _ R s => Hh s.heap ∧
      R (.ok (.ret (.ref (s.heap.push o).objs.size))) { s with heap := (s.heap.push o).push { cls := .type "enumerate", data := .fields #[.none, .bool false, .ref s.heap.objs.size, rawInt 0, .none, .none] } }) :=
  .of_wp fun prog w A R s h => by
    obtain ⟨hp, g, d, tk, os⟩ := s
    obtain ⟨h1, h⟩ := h
    have sub := sub_enumerate
    have step : ∀ {A' : Around} {E : Value → Shared → Prop} {Q : Value → Shared → Prop}, Q (.ref hp.objs.size) ⟨hp.push o, g, d, tk, os⟩ → wpAny (model prog w) A' (pyIter v) Q E ⟨hp, g, d, tk, os⟩ :=
      fun q => B.iter prog w _ _ ⟨hp, g, d, tk, os⟩ _ h1 q
    wp_walk using step
    refine wpAny_stack_any fun st => wpAny_pure ?_
    split
    · rename_i c _ _ _ _ _
      cases (c == Value.type "enumerate")
      all_goals
        wp_walk using step
        exact ⟨_, rfl, h⟩
    · wp_walk using step
      exact ⟨_, rfl, h⟩
end
end Sq
end

section
set_option Elab.async false
set_option linter.all false
set_option maxRecDepth 100000
set_option maxHeartbeats 1000000
/-! enumerate, zip -/
namespace Sq
open PySem L2 PyProof.Rows

section
variable {X : Cx} {O : List Addr} {H : Hp} {σ : L2.St} {tg e e2 : Expr} {R : It → Hp → Prop} {ds : List D}
theorem call_enum_one {P : Program} {w : World} {A : Around} {E : Value → Shared → Prop} {s : Shared} {v : Value} {o : Obj} {Hh : Heap → Prop} {Q : Value → Shared → Prop} (B : Begins v o Hh) (h1 : Hh s.heap)
    (h : ∀ h', IsEnum h' (s.heap.objs.size + 1) s.heap.objs.size 0 .none → h'.get? s.heap.objs.size = some o → (∀ b o, s.heap.get? b = some o → h'.get? b = some o) → Q (.ref (s.heap.objs.size + 1)) { s with heap := h' }) :
    wpAny (model P w) A (call (.type "enumerate") [v]) Q E s := by
  refine callType_new PySem.F.called_enumerate (by decide) (PySem.F.typeCall_enumerate_1 _) (PySem.F.newCall_enumerate_1 _) (fun obj => PySem.F.args_object_init_2 obj _) PySem.F.entry_enumerate_new (meets_enum_one B) ⟨h1, ?_⟩
  have one : (s.heap.push o).objs.size = s.heap.objs.size + 1 := Heap.size_push ..
  have he := Heap.get?_push_size (s.heap.push o) (o := { cls := .type "enumerate", data := .fields #[.none, .bool false, .ref s.heap.objs.size, rawInt 0, .none, .none] }) rfl
  show _ ∧ _
  rw [one] at he ⊢
  exact ⟨⟨_, he, rfl⟩, h _ he (Heap.get?_push_of_some _ (Heap.get?_push_size _ B.free)) fun b ob x => Heap.get?_push_of_some _ (Heap.get?_push_of_some _ x)⟩
/-- what a list's and a tuple's iterator have in common -/
theorem drawn_of {d : D} {v : V} (h : seqOf d = some ds) (rp : Rp X O H d v) : ∃ l ob itr, v = .ref l ∧ Drawn X.prog X.w (hide O H) l ds ob itr := by
  unfold seqOf at h
  split at h
  · cases h
    cases rp with
    | lst h1 rl => exact ⟨_, _, _, rfl, drawn_list h1 rl⟩
  · cases h
    cases rp with
    | tup h1 n1 rl => exact ⟨_, _, _, rfl, drawn_tuple h1 rl⟩
  · cases h
theorem wi_enum {p pos tpos : Pos} {elts : List Expr} {kk : Nat} {d : D} (g1 : Gl X "enumerate") (m1 : X.mg "enumerate" = none) (hd : seqOf d = some ds) (he : wE X e σ H (Got X O H d)) (na : starEach [e] X.env = (false, eval e X.env) :: starEach [] X.env)
    (q : PostI X O H (enumL 0 ds) R) : wI X (.Tuple elts kk tpos) (.Call (.Name "enumerate" p) [e] [] pos) σ H R := fun pins s I => by
  refine Call_ (ld_blt I g1 m1 boot_enumerate (callWith_type1 (args_cons (thn (he pins s I) fun u s1 ⟨v, H1, I1, r1, sm, rp⟩ => args_nil ?_) na) na))
  obtain ⟨l, ob, itr, rfl, S⟩ := drawn_of hd rp
  cases r1
  obtain ⟨items, src, h0, B, D, _⟩ := S.draw X rfl rfl pins s1 σ H1 I1 hide_le
  refine call_enum_one B h0 fun h' ie io hk => wpAny_pyIter_enum ie ?_
  have I2 : Inv X pins σ H1 { s1 with heap := h' } := I1.kept (t' := s1.toks) hk
  have ne : s1.heap.objs.size + 1 ≠ s1.heap.objs.size := Nat.succ_ne_self _
  refine ⟨s1.heap.objs.size + 1, [s1.heap.objs.size + 1, s1.heap.objs.size], _, _, H1, rfl, I2, (feeds_enum S ne).turn, ⟨⟨.none, ?_⟩, S.new _ _ io⟩, fun b hb => ?_, q H1 sm⟩
  · exact ie
  · have e' : b = s1.heap.objs.size + 1 ∨ b = s1.heap.objs.size := by simpa using hb
    have hle : s1.heap.objs.size ≤ b := by
      rcases e' with z | z
      · rw [z]; exact Nat.le_add_right _ _
      · rw [z]; exact Nat.le_refl _
    exact I1.fpOk hle (I1.hok.fresh hle)
theorem wi_zip {p pos tpos : Pos} {elts : List Expr} {kk : Nat} {d d2 : D} {ds2 : List D} (g1 : Gl X "zip") (m1 : X.mg "zip" = none) (hd : seqOf d = some ds) (hd2 : seqOf d2 = some ds2)
    (he : wE X e σ H fun v H1 => Same H H1 ∧ Rp X O H1 d v ∧ wE X e2 σ H1 (Got X O H1 d2)) (na : starEach [e, e2] X.env = (false, eval e X.env) :: starEach [e2] X.env)
    (nb : starEach [e2] X.env = (false, eval e2 X.env) :: starEach [] X.env) (hp : (backTo pos (starEach [e2] X.env)).any (·.1) = false)
    (q : PostI X O H (zipL ds ds2) R) : wI X (.Tuple elts kk tpos) (.Call (.Name "zip" p) [e, e2] [] pos) σ H R := fun pins s I => by
  refine Call_ (ld_blt I g1 m1 boot_zip (callWith_type1 (args_cons (thn (he pins s I) fun u s0 ⟨v, H0, I0, r0, sm0, rp0, h2⟩ => args_cons (thn (h2 pins s0 I0) fun u2 s1 ⟨v2, H1, I1, r1, sm1, rp1⟩ => args_nil ?_) nb) na) na hp))
  obtain ⟨l1, o1, t1, rfl, S1⟩ := drawn_of hd (rp0.mono (same_hide sm1))
  obtain ⟨l2, o2, t2, rfl, S2⟩ := drawn_of hd2 rp1
  cases r0
  cases r1
  obtain ⟨items1, src1, k1, B1, D1, _⟩ := S1.draw X rfl rfl pins s1 σ H1 I1 hide_le
  obtain ⟨items2, src2, k2, B2, D2, _⟩ := S2.draw X rfl rfl pins s1 σ H1 I1 hide_le
  have lt : ∀ {l : Addr} {ds : List D} {ob : Obj} {itr : Heap → Addr → Nat → Prop}, Drawn X.prog X.w (hide O H1) l ds ob itr → l < s1.heap.objs.size := fun S => by
    obtain ⟨o, ho⟩ := S.here
    exact (I1.hok _ _ (hide_some ho).1).lt
  refine zip_begins2 B1 B2 k1 k2 fun h' iz iT iO i1 i2 hsz hk => wpAny_pyIter_zip iz ?_
  have I2 : Inv X pins σ H1 { s1 with heap := h' } := I1.kept (t' := s1.toks) hk
  have Z := zip_sep2 (N := s1.heap.objs.size) (fp1 := [l1]) (fp2 := [l2]) (fun b hb => by
    have e : b = l1 := by simpa using hb
    rw [e]; exact lt S1) (fun b hb => by
    have e : b = l2 := by simpa using hb
    rw [e]; exact lt S2)
  refine ⟨s1.heap.objs.size + 4, [s1.heap.objs.size + 4, s1.heap.objs.size + 2, s1.heap.objs.size + 3, s1.heap.objs.size, s1.heap.objs.size + 1], _, _, H1, rfl, I2, (feeds_zip S1 S2 Z).turn, ⟨iz, iT, ⟨_, _, iO⟩, S1.new _ _ i1, S2.new _ _ i2⟩, fun b hb => ?_, q H1 (sm0.trans sm1)⟩
  have hle : s1.heap.objs.size ≤ b := by
    simp only [List.mem_cons, List.not_mem_nil, or_false] at hb
    rcases hb with z | z | z | z | z <;> rw [z]
    · exact Nat.le_add_right _ _
    · exact Nat.le_add_right _ _
    · exact Nat.le_add_right _ _
    · exact Nat.le_refl _
    · exact Nat.le_add_right _ _
  exact I1.fpOk hle (I1.hok.fresh hle)
end
end Sq
end

section
set_option Elab.async false
set_option linter.all false
set_option maxRecDepth 100000
set_option maxHeartbeats 1000000
/-! what the slots hold, by data; stores -/
namespace Sq
open PySem L2 PyProof.Rows

/-- an object of our own, by data -/
def OwnR (P : Program) (w : World) (O : List Addr) (H : Hp) (p : Addr) : D → Prop
  | .list ds => ∃ vs, H p = some (.lst vs) ∧ RepL P w (hide O H) ds vs
  | .dict kvs => ∃ o xs, H p = some (At p o) ∧ (p == sysModules) = false ∧ DObj P w o xs ∧ RepK P w (hide O H) kvs xs
  | _ => False
def CellR (P : Program) (w : World) (O : List Addr) (H : Hp) (σ : L2.St) (i : Nat) : Cl → Prop
  | .no => True
  | .sh d => ∃ v, σ[i]? = some (some v) ∧ Rep P w (hide O H) d v
  | .ow d => ∃ p, σ[i]? = some (some (.ref p)) ∧ p ∈ O ∧ OwnR P w O H p d
def isOw : Cl → Prop
  | .ow _ => True
  | _ => False
structure EnvR (P : Program) (w : World) (O : List Addr) (env : Env) (σ : L2.St) (H : Hp) : Prop where
  cells : ∀ i, CellR P w O H σ i (env.at i)
  dist : ∀ i j p, i ≠ j → isOw (env.at i) → isOw (env.at j) → σ[i]? = some (some (.ref p)) → σ[j]? = some (some (.ref p)) → False
  len : env.length = σ.length
  trk : Trk O H
theorem at_put_ne : ∀ (env : Env) (i j : Nat) (c : Cl), i ≠ j → (env.put i c).at j = env.at j
  | [], _, _, _, _ => rfl
  | a :: r, 0, 0, c, h => absurd rfl h
  | a :: r, 0, j + 1, c, h => rfl
  | a :: r, i + 1, 0, c, h => rfl
  | a :: r, i + 1, j + 1, c, h => by
    show (Env.put r i c).at j = Env.at r j
    exact at_put_ne r i j c (fun e => h (by rw [e]))
theorem at_put_eq : ∀ (env : Env) (i : Nat) (c : Cl), (env.put i c).at i = if i < env.length then c else .no
  | [], _, _ => rfl
  | a :: r, 0, c => rfl
  | a :: r, i + 1, c => by
    show (Env.put r i c).at i = _
    rw [at_put_eq r i c]
    simp
theorem put_len : ∀ (env : Env) (i : Nat) (c : Cl), (env.put i c).length = env.length
  | [], _, _ => rfl
  | a :: r, 0, c => rfl
  | a :: r, i + 1, c => by
    show (Env.put r i c).length + 1 = _
    rw [put_len r i c]
    rfl
theorem wipeE_len (env : Env) : ∀ l : List Nat, (env.wipe l).length = env.length
  | [] => rfl
  | i :: r => by
    show (Env.put (Env.wipe env r) i .no).length = _
    rw [put_len, wipeE_len env r]
theorem wipeE_at (env : Env) (j : Nat) : ∀ l : List Nat, (j ∈ l ∧ (env.wipe l).at j = .no) ∨ (j ∉ l ∧ (env.wipe l).at j = env.at j)
  | [] => .inr ⟨List.not_mem_nil, rfl⟩
  | i :: r => by
    by_cases h : i = j
    · subst h
      refine .inl ⟨List.mem_cons_self, ?_⟩
      show (Env.put (Env.wipe env r) i .no).at i = _
      rw [at_put_eq]
      split <;> rfl
    · have e : (env.wipe (i :: r)).at j = (env.wipe r).at j := at_put_ne _ _ _ _ h
      rcases wipeE_at env j r with ⟨h1, h2⟩ | ⟨h1, h2⟩
      · exact .inl ⟨List.mem_cons_of_mem _ h1, by rw [e, h2]⟩
      · exact .inr ⟨fun hm => (List.mem_cons.mp hm).elim (fun e => h e.symm) h1, by rw [e, h2]⟩
theorem wipe_set {σ : L2.St} {i : Nat} {x : Option V} : ∀ {vs : List Nat}, i ∈ vs → wipe (σ.set i x) vs = wipe σ vs
  | [], h => absurd h List.not_mem_nil
  | v :: vs, h => by
    unfold wipe
    by_cases hm : i ∈ vs
    · rw [wipe_set hm]
    · have e : v = i := ((List.mem_cons.mp h).resolve_right hm).symm
      subst e
      have out : wipe (σ.set v x) vs = (wipe σ vs).set v x := by
        clear h
        induction vs with
        | nil => rfl
        | cons u us ih =>
          have h1 : v ≠ u := fun e => hm (by rw [e]; exact List.mem_cons_self)
          have h2 : v ∉ us := fun m => hm (List.mem_cons_of_mem _ m)
          unfold wipe
          rw [ih h2, List.set_comm _ _ h1]
      rw [out, List.set_set]
section
variable {P : Program} {w : World} {O O' : List Addr} {H H' : Hp} {env : Env} {σ : L2.St}
/-- the heap grows, more is hidden -/
structure Le (O : List Addr) (H : Hp) (O' : List Addr) (H' : Hp) : Prop where
  same : Same H H'
  vis : Same (hide O H) (hide O' H')
  sub : ∀ a, a ∈ O → a ∈ O'
  trk : Trk O' H'
theorem Le.of (t : Trk O H) (e : Same H H') : Le O H O H' := ⟨e, same_hide e, fun _ h => h, t.mono e⟩
theorem OwnR.mono (l : Le O H O' H') {p : Addr} {d : D} (h : OwnR P w O H p d) : OwnR P w O' H' p d := by
  cases d with
  | list ds =>
    obtain ⟨vs, h1, h2⟩ := h
    exact ⟨vs, l.same p _ h1, h2.mono l.vis⟩
  | dict kvs =>
    obtain ⟨o, xs, h1, h2, h3, h4⟩ := h
    exact ⟨o, xs, l.same p _ h1, h2, h3, h4.mono l.vis⟩
  | _ => exact h.elim
theorem EnvR.mono (l : Le O H O' H') (E : EnvR P w O env σ H) : EnvR P w O' env σ H' where
  cells := fun i => by
    have c := E.cells i
    cases e : env.at i with
    | no => trivial
    | sh d =>
      rw [e] at c
      obtain ⟨v, h1, h2⟩ := c
      exact ⟨v, h1, h2.mono l.vis⟩
    | ow d =>
      rw [e] at c
      obtain ⟨p, h1, h2, h3⟩ := c
      exact ⟨p, h1, l.sub p h2, h3.mono l⟩
  dist := E.dist
  len := E.len
  trk := l.trk
theorem EnvR.same (E : EnvR P w O env σ H) (e : Same H H') : EnvR P w O env σ H' := E.mono (Le.of E.trk e)
theorem EnvR.wipe (E : EnvR P w O env σ H) (own : List Nat) : EnvR P w O (env.wipe own) (L2.wipe σ own) H where
  cells := fun i => by
    rcases wipeE_at env i own with ⟨h1, h2⟩ | ⟨h1, h2⟩
    · rw [h2]; trivial
    · rw [h2]
      have c := E.cells i
      have e : (L2.wipe σ own)[i]? = σ[i]? := wipe_out h1
      cases ee : env.at i with
      | no => trivial
      | sh d =>
        rw [ee] at c
        obtain ⟨v, q1, q2⟩ := c
        exact ⟨v, e.trans q1, q2⟩
      | ow d =>
        rw [ee] at c
        obtain ⟨v, q1, q2, q3⟩ := c
        exact ⟨v, e.trans q1, q2, q3⟩
  dist := fun i j p hne hi hj e1 e2 => by
    have go : ∀ {i : Nat}, isOw ((env.wipe own).at i) → isOw (env.at i) := fun {i} h => by
      rcases wipeE_at env i own with ⟨_, h2⟩ | ⟨_, h2⟩
      · rw [h2] at h; exact h.elim
      · rw [h2] at h; exact h
    exact E.dist i j p hne (go hi) (go hj) (wipe_some e1).1 (wipe_some e2).1
  len := by rw [wipeE_len, wipe_length]; exact E.len
  trk := E.trk
theorem EnvR.sh (E : EnvR P w O env σ H) {d : D} {v : V} (r : Rep P w (hide O H) d v) (i : Nat) : EnvR P w O (env.put i (.sh d)) (σ.set i (some v)) H where
  cells := fun j => by
    by_cases h : i = j
    · subst h
      rw [at_put_eq]
      split
      · next hl => exact ⟨v, List.getElem?_set_self (by rw [← E.len]; exact hl), r⟩
      · trivial
    · rw [at_put_ne _ _ _ _ h]
      have c := E.cells j
      have e : (σ.set i (some v))[j]? = σ[j]? := List.getElem?_set_ne h
      cases ee : env.at j with
      | no => trivial
      | sh d =>
        rw [ee] at c
        obtain ⟨v, q1, q2⟩ := c
        exact ⟨v, e.trans q1, q2⟩
      | ow d =>
        rw [ee] at c
        obtain ⟨v, q1, q2, q3⟩ := c
        exact ⟨v, e.trans q1, q2, q3⟩
  dist := fun a b p hne ha hb e1 e2 => by
    have na : ∀ {a : Nat}, isOw ((env.put i (.sh d)).at a) → i ≠ a := fun {a} h e => by
      subst e
      rw [at_put_eq] at h
      split at h <;> exact h.elim
    have h1 := na ha
    have h2 := na hb
    rw [at_put_ne _ _ _ _ h1] at ha
    rw [at_put_ne _ _ _ _ h2] at hb
    rw [List.getElem?_set_ne h1] at e1
    rw [List.getElem?_set_ne h2] at e2
    exact E.dist a b p hne ha hb e1 e2
  len := by rw [put_len, List.length_set]; exact E.len
  trk := E.trk
/-- a slot that holds an object of our own -/
theorem EnvR.own (E : EnvR P w O env σ H) {i : Nat} {d : D} (h : env.at i = .ow d) : ∃ p, σ[i]? = some (some (.ref p)) ∧ p ∈ O ∧ OwnR P w O H p d := by
  have c := E.cells i
  rw [h] at c
  exact c
theorem EnvR.get (E : EnvR P w O env σ H) {i : Nat} {d : D} (h : env.at i = .sh d) : ∃ v, σ[i]? = some (some v) ∧ Rep P w (hide O H) d v := by
  have c := E.cells i
  rw [h] at c
  exact c
end

/-! ### targets -/
def noStar : Expr → Bool
  | .Starred .. => false
  | _ => true
theorem asg_each {env : PySem.Env} : ∀ (es : List Expr), es.all noStar = true → (assignEach es env).length = es.length ∧ (assignEach es env).findIdx? (·.1) = none
  | [], _ => ⟨rfl, rfl⟩
  | e :: es, h => by
    rw [List.all_cons, Bool.and_eq_true] at h
    obtain ⟨h1, h2⟩ := asg_each (env := env) es h.2
    have eq : assignEach (e :: es) env = (false, assign e env) :: assignEach es env := by
      cases e with
      | Starred a p => exact absurd h.1 (by simp [noStar])
      | _ => rfl
    rw [eq]
    refine ⟨by rw [List.length_cons, List.length_cons, h1], ?_⟩
    rw [List.findIdx?_cons, h2]
    rfl
theorem asg_cons {env : PySem.Env} {e : Expr} {es : List Expr} (h : noStar e = true) : (assignEach (e :: es) env).map (·.2) = assign e env :: (assignEach es env).map (·.2) := by
  cases e with
  | Starred a p => exact absurd h (by simp [noStar])
  | _ => rfl
/-- the names of a context -/
structure Nm (X : Cx) (ws : Scope) : Prop where
  nd : X.N.Nodup
  calm : X.calm = true
  st : ∀ x, X.env.scope.names.lookup x = some .cell → ws.names.lookup x = some .cell → X.fn x = true
theorem loc_of {sc ws : Scope} {x : Str} (h : locB sc ws x = true) : sc.names.lookup x = some .local ∨ (sc.names.lookup x = some .cell ∧ ws.names.lookup x = some .cell) := by
  unfold locB at h
  split at h
  · next e1 e2 => exact .inl e1
  · next e1 e2 => exact .inr ⟨e1, e2⟩
  · cases h
theorem Nm.store {X : Cx} {ws : Scope} (M : Nm X ws) {x : Str} (h : locB X.env.scope ws x = true) : Loc X.env.scope x ∧ (X.fn x = true ∨ X.env.scope.names.lookup x = some .local) := by
  rcases loc_of h with e | ⟨e1, e2⟩
  · exact ⟨.inl e, .inr e⟩
  · exact ⟨.inr e1, .inl (M.st x e1 e2)⟩
def wGs (X : Cx) (ts : List Expr) : TGs := fun vs σ H Q => ∀ (pins : List (Addr × Obj)) (s : Shared) (us : List Value), Inv X pins σ H s → Vals vs us → wpAny (model X.prog X.w) X.A (assignInOrder ((assignEach ts X.env).map (·.2)) us) (fun _ s' => ∃ σ' H', Inv X pins σ' H' s' ∧ Q σ' H') X.xe s
theorem wGs_ok {X : Cx} {ts : List Expr} : PGs X ts (wGs X ts) := ⟨fun pins s σ H vs us Q I r h => h pins s us I r⟩
theorem wGs_of {X : Cx} {ts : List Expr} {t : TGs} {vs : List V} {σ : L2.St} {H : Hp} {Q : L2.St → Hp → Prop} (h : PGs X ts t) (q : t vs σ H Q) : wGs X ts vs σ H Q := fun pins s us I r => h.run pins s σ H vs us Q I r q
theorem ckT_star {N : List Str} {sc ws : Scope} {t : Tg} {x : Expr} (h : ckT N sc ws t x = true) : noStar x = true := by
  cases x with
  | Starred a p => cases t <;> simp [ckT, dName, dTup] at h
  | _ => rfl
theorem ckTL_star {N : List Str} {sc ws : Scope} : ∀ {ts : TgL} {xs : List Expr}, ckTL N sc ws ts xs = true → xs.all noStar = true
  | _, [], _ => rfl
  | .cons t ts, x :: xs, h => by
    rw [ckTL, Bool.and_eq_true] at h
    rw [List.all_cons, ckT_star h.1, ckTL_star h.2]
    rfl
  | .nil, x :: xs, h => by simp [ckTL] at h
section
variable {X : Cx} {ws : Scope} {O : List Addr} {H : Hp}
mutual
theorem sndG (M : Nm X ws) : ∀ (t : Tg) (x : Expr), ckT X.N X.env.scope ws t x = true → ∀ (d : D) (env env1 : Env) (v : V) (σ : L2.St) (Q : L2.St → Hp → Prop), asgT t d env = some env1 → EnvR X.prog X.w O env σ H → Rep X.prog X.w (hide O H) d v →
    (∀ σ2, EnvR X.prog X.w O env1 σ2 H → (∀ vs, (∀ j, j ∈ slots t → j ∈ vs) → wipe σ2 vs = wipe σ vs) → Q σ2 H) → wG X x v σ H Q
  | .n i, x, ck, d, env, env1, v, σ, Q, h, E, r, q => by
    cases h
    unfold ckT at ck
    split at ck
    · next y e =>
      obtain ⟨p, rfl⟩ := dName_eq e
      rw [Bool.and_eq_true, decide_eq_true_eq] at ck
      obtain ⟨hl, hf⟩ := M.store ck.2
      exact wG_of (pg_name M.nd ck.1 hl hf) (q _ (E.sh r i) fun vs hv => wipe_set (hv i (by simp [slots])))
    · cases ck
  | .t ts, x, ck, d, env, env1, v, σ, Q, h, E, r, q => by
    unfold ckT at ck
    split at ck
    · next es e =>
      obtain ⟨k, p, rfl⟩ := dTup_eq e
      cases d with
      | tuple ds =>
        cases r with
        | tup h1 n1 rl =>
          obtain ⟨a1, a2⟩ := asg_each (env := X.env) es (ckTL_star ck)
          obtain ⟨len, hg⟩ := sndGs M ts es ck ds env env1 _ σ Q h E rl q
          exact wG_of (pg_tup M.calm wGs_ok a1 a2) ⟨_, _, rfl, sqT h1, len, hg⟩
      | _ => simp [asgT] at h
    · cases ck
theorem sndGs (M : Nm X ws) : ∀ (ts : TgL) (xs : List Expr), ckTL X.N X.env.scope ws ts xs = true → ∀ (ds : List D) (env env1 : Env) (vs : List V) (σ : L2.St) (Q : L2.St → Hp → Prop), asgTL ts ds env = some env1 → EnvR X.prog X.w O env σ H → RepL X.prog X.w (hide O H) ds vs →
    (∀ σ2, EnvR X.prog X.w O env1 σ2 H → (∀ us, (∀ j, j ∈ slots.go ts → j ∈ us) → wipe σ2 us = wipe σ us) → Q σ2 H) → vs.length = xs.length ∧ wGs X xs vs σ H Q
  | .nil, [], ck, [], env, env1, vs, σ, Q, h, E, r, q => by
    cases h
    cases r
    exact ⟨rfl, wGs_of pgs_nil ⟨rfl, q σ E fun us _ => rfl⟩⟩
  | .cons t ts, x :: xs, ck, d :: ds, env, env1, vs, σ, Q, h, E, r, q => by
    rw [ckTL, Bool.and_eq_true] at ck
    unfold asgTL at h
    split at h
    · next env2 e =>
      cases r with
      | cons r1 r2 =>
        rename_i v vs'
        have hl : vs'.length = xs.length := by
          have := sndLen ts xs ck.2 ds env2 env1 h
          rw [← r2.length, this]
        refine ⟨by rw [List.length_cons, List.length_cons, hl], wGs_of (pgs_cons wG_ok wGs_ok (asg_cons (ckT_star ck.1))) ⟨v, vs', rfl, ?_⟩⟩
        refine sndG M t x ck.1 d env env2 v σ _ e E r1 fun σ2 E2 w2 => ?_
        refine (sndGs M ts xs ck.2 ds env2 env1 vs' σ2 Q h E2 r2 fun σ3 E3 w3 => q σ3 E3 fun us hu => ?_).2
        rw [w3 us fun j hj => hu j (by simp [slots.go, hj]), w2 us fun j hj => hu j (by simp [slots.go, hj])]
    · cases h
  | .nil, x :: xs, ck, _, _, _, _, _, _, _, _, _, _ => by simp [ckTL] at ck
  | .cons _ _, [], ck, _, _, _, _, _, _, _, _, _, _ => by simp [ckTL] at ck
  | .nil, [], ck, d :: ds, _, _, _, _, _, h, _, _, _ => by simp [asgTL] at h
  | .cons _ _, x :: xs, ck, [], _, _, _, _, _, h, _, _, _ => by simp [asgTL] at h
theorem sndLen : ∀ (ts : TgL) (xs : List Expr), ckTL X.N X.env.scope ws ts xs = true → ∀ (ds : List D) (env env1 : Env), asgTL ts ds env = some env1 → ds.length = xs.length
  | .nil, [], ck, [], env, env1, h => rfl
  | .cons t ts, x :: xs, ck, d :: ds, env, env1, h => by
    rw [ckTL, Bool.and_eq_true] at ck
    unfold asgTL at h
    split at h
    · next env2 e => rw [List.length_cons, List.length_cons, sndLen ts xs ck.2 ds env2 env1 h]
    · cases h
  | .nil, x :: xs, ck, _, _, _, _ => by simp [ckTL] at ck
  | .cons _ _, [], ck, _, _, _, _ => by simp [ckTL] at ck
  | .nil, [], ck, d :: ds, _, _, h => by simp [asgTL] at h
  | .cons _ _, x :: xs, ck, [], _, _, h => by simp [asgTL] at h
end
/-- what an iterator gives is stored -/
theorem sndY (M : Nm X ws) {t : Tg} {x : Expr} (ck : ckT X.N X.env.scope ws t x = true) {y : Yd} {G H0 : Hp} {env env1 : Env} {v : V} {σ : L2.St} {Q : L2.St → Hp → Prop} (h : asgY t y env = some env1) (E : EnvR X.prog X.w O env σ H0) (yh : YH X.prog X.w G y H0 v H) (sg : Same G (hide O H0))
    (q : ∀ σ2, Same H0 H → EnvR X.prog X.w O env1 σ2 H → (∀ vs, (∀ j, j ∈ slots t → j ∈ vs) → wipe σ2 vs = wipe σ vs) → Q σ2 H) : wG X x v σ H Q := by
  cases y with
  | one d =>
    obtain ⟨rfl, r⟩ := yh
    exact sndG M t x ck d env env1 v σ Q h E (r.mono sg) fun σ2 => q σ2 (Same.refl _)
  | two a b =>
    obtain ⟨T, x1, x2, rfl, hT, rfl, r1, r2⟩ := yh
    have sm := same_new (o := .tup [x1, x2]) hT
    unfold asgY at h
    simp only at h
    split at h
    · next p p2 =>
      unfold ckT at ck
      split at ck
      · next es e =>
        obtain ⟨k, pos, rfl⟩ := dTup_eq e
        obtain ⟨a1, a2⟩ := asg_each (env := X.env) es (ckTL_star ck)
        have h' : asgTL (.cons p (.cons p2 .nil)) [a, b] env = some env1 := by
          unfold asgTL
          split at h
          · next env2 e2 =>
            unfold asgTL
            rw [h]
            rfl
          · cases h
        have up := sg.trans (same_hide (O := O) sm)
        obtain ⟨len, hg⟩ := sndGs M _ es ck [a, b] env env1 [x1, x2] σ Q h' (E.same sm) (.cons (r1.mono up) (.cons (r2.mono up) .nil)) fun σ2 => q σ2 sm
        exact wG_of (pg_tup M.calm wGs_ok a1 a2) ⟨T, _, rfl, .inl (.inl upd_same), len, hg⟩
      · cases ck
    · cases h
end
end Sq
end

section
set_option Elab.async false
set_option linter.all false
set_option maxRecDepth 100000
set_option maxHeartbeats 1000000
/-! one step of an expression, by data -/
namespace Sq
open PySem L2 PyProof.Rows

/-! ### shapes -/
def shp : Expr → Bool
  | .Starred .. => false
  | .Slice .. => false
  | .Call (.Name _ _) [] [] _ => false
  | _ => true
theorem shp_star {x : Expr} (h : shp x = true) : noStar x = true := by
  cases x with
  | Starred a p => simp [shp] at h
  | _ => rfl
theorem star_of {x : Expr} {es : List Expr} {env : PySem.Env} (h : noStar x = true) : starEach (x :: es) env = (false, eval x env) :: starEach es env := by
  cases x with
  | Starred a p => simp [noStar] at h
  | _ => rfl
theorem any_of {pos : Pos} {env : PySem.Env} : ∀ {es : List Expr}, es.all noStar = true → (backTo pos (starEach es env)).any (·.1) = false
  | [], _ => rfl
  | x :: es, h => by
    rw [List.all_cons, Bool.and_eq_true] at h
    rw [star_of h.1]
    have ih := any_of (pos := pos) (env := env) h.2
    unfold backTo at ih ⊢
    rw [List.map_cons, List.any_cons, ih]
    rfl
theorem base_of {x : Expr} {m : Str} {env : PySem.Env} (h : shp x = true) : attributeBase x m env (eval x env) = eval x env := by
  cases x with
  | Call f args kws p =>
    cases f with
    | Name y q =>
      cases args with
      | nil =>
        cases kws with
        | nil => simp [shp] at h
        | cons _ _ => rfl
      | cons _ _ => rfl
    | _ => rfl
  | _ => rfl
theorem plain_of {x : Expr} (h : shp x = true) : PlainIx x := by
  intro o i
  cases x with
  | Slice a b c p => simp [shp] at h
  | _ => rfl
theorem behind_of {x : Expr} {op : CmpOp} (h : noSet x = true) : behindInMarks op x = false := by
  cases x with
  | Set a b c => simp [noSet] at h
  | _ => rfl
theorem last_of {x y : Expr} {op op2 : CmpOp} (h : noSet y = true) : lastMarks [op, op2] [x, y] = false := by
  show behindInMarks op2 y = false
  exact behind_of h
theorem fold_of {x : Expr} {env : PySem.Env} (h : noSet x = true) (v : Value) : foldedSetIterable x env v = pure v := by
  cases x with
  | Set a b c => simp [noSet] at h
  | _ => rfl
/-- a test that is no more than its value -/
def plainT : Expr → Bool
  | .Name .. => true
  | .Call .. => true
  | .Subscript .. => true
  | _ => false
theorem test_of {x : Expr} {env : PySem.Env} (h : plainT x = true) (whole : Sem Value) : isTrue x env whole = (do let v ← whole; standAt x.pos; holding [v] (truthy v)) := by
  cases x with
  | Name a b => rfl
  | Call a b c d => rfl
  | Subscript a b c => rfl
  | _ => simp [plainT] at h

/-! ### hypotheses on operands -/
section
variable {X : Cx} {O : List Addr} {σ : L2.St} {H : Hp} {n : Nat}
/-- from H on the expression is d -/
def Hy (X : Cx) (O : List Addr) (σ : L2.St) (H : Hp) (x : Expr) (d : D) : Prop := ∀ H1, Same H H1 → ∀ Q, Post X O H1 d Q → wE X x σ H1 Q
def HyL (X : Cx) (O : List Addr) (σ : L2.St) (H : Hp) (xs : List Expr) (ds : List D) : Prop := ∀ H1, Same H H1 → ∀ Q : List V → Hp → Prop, (∀ vs H2, Same H1 H2 → RepL X.prog X.w (hide O H2) ds vs → Q vs H2) → wA X xs σ H1 Q
def HyT (X : Cx) (O : List Addr) (σ : L2.St) (H : Hp) (x : Expr) (b : Bool) : Prop := ∀ H1, Same H H1 → ∀ Q : Bool → Hp → Prop, (∀ H2, Same H1 H2 → Q b H2) → wT X x σ H1 Q
def HyW (X : Cx) (O : List Addr) (σ : L2.St) (H : Hp) (x : Expr) (b : Bool) : Prop := ∀ H1, Same H H1 → ∀ Q : Bool → Hp → Prop, (∀ H2, Same H1 H2 → Q b H2) → wW X x σ H1 Q
def HyI (X : Cx) (O : List Addr) (σ : L2.St) (H : Hp) (tg x : Expr) (ys : List Yd) : Prop := ∀ H1, Same H H1 → ∀ R, PostI X O H1 ys R → wI X tg x σ H1 R
theorem Hy.mono {x : Expr} {d : D} (h : Hy X O σ H x d) {H' : Hp} (e : Same H H') : Hy X O σ H' x d := fun H1 e1 => h H1 (e.trans e1)
theorem HyL.mono {xs : List Expr} {ds : List D} (h : HyL X O σ H xs ds) {H' : Hp} (e : Same H H') : HyL X O σ H' xs ds := fun H1 e1 => h H1 (e.trans e1)
variable {x y z : Expr} {xs : List Expr} {a b c d : D} {ds : List D} {pos : Pos}
theorem hyl_nil : HyL X O σ H [] [] := fun H1 e Q q => wA_of pa_nil (q [] H1 (Same.refl _) .nil)
theorem hyl_cons (hx : Hy X O σ H x a) (hs : HyL X O σ H xs ds) (st : noStar x = true) : HyL X O σ H (x :: xs) (a :: ds) := fun H1 e Q q =>
  wA_of (pa_cons wE_ok wA_ok (star_of st)) (hx H1 e _ fun v H2 e2 r => hs H2 (e.trans e2) _ fun vs H3 e3 rs => q (v :: vs) H3 (e2.trans e3) (.cons (r.mono (same_hide e3)) rs))
theorem hy_op {op : Operator} (t : Trk O H) (ha : Hy X O σ H x a) (hb : Hy X O σ H y b) (ho : ∀ H1 u v Q, Trk O H1 → Rp X O H1 a u → Rp X O H1 b v → Post X O H1 d Q → wO X (binaryOp op) u v H1 Q) : Hy X O σ H (.BinOp x op y pos) d := fun H1 e Q q =>
  wE_of (pe_op wO_ok wE_ok wE_ok) (ha H1 e _ fun u H2 e2 ru => hb H2 (e.trans e2) _ fun v H3 e3 rv => ho H3 u v Q (t.mono (e.trans (e2.trans e3))) (ru.mono (same_hide e3)) rv (q.mono (e2.trans e3)))
abbrev CmpS (X : Cx) (O : List Addr) (op : CmpOp) (a b d : D) : Prop := ∀ H1 u v Q, Rp X O H1 a u → Rp X O H1 b v → Post X O H1 d Q → wO X (compareOp op) u v H1 Q
theorem hy_cmp {op : CmpOp} (ha : Hy X O σ H x a) (hb : Hy X O σ H y b) (ho : CmpS X O op a b d) (ns : noSet y = true) : Hy X O σ H (.Compare x [op] [y] pos) d := fun H1 e Q q =>
  wE_of (pe_cmpR wO_ok wE_ok wE_ok (behind_of ns)) (ha H1 e _ fun u H2 e2 ru => hb H2 (e.trans e2) _ fun v H3 e3 rv => ho H3 u v Q (ru.mono (same_hide e3)) rv (q.mono (e2.trans e3)))
theorem rep_bool {P : Program} {w : World} {G : Hp} {k : Bool} {v : V} (r : Rep P w G (.bool k) v) : v = .bl k := by
  cases r
  rfl
theorem hyt_cmp {op : CmpOp} {k : Bool} (ha : Hy X O σ H x a) (hb : Hy X O σ H y b) (ho : CmpS X O op a b (.bool k)) (ns : noSet y = true) : HyT X O σ H (.Compare x [op] [y] pos) k := fun H1 e Q q =>
  wT_of (pt_cmpR wO_ok wE_ok wE_ok (behind_of ns)) (ha H1 e _ fun u H2 e2 ru => hb H2 (e.trans e2) _ fun v H3 e3 rv => ho H3 u v _ (ru.mono (same_hide e3)) rv fun w H4 e4 rw => ⟨k, rep_bool rw, q H4 ((e2.trans e3).trans e4)⟩)
theorem hyt_val {k : Bool} (hx : Hy X O σ H x (.bool k)) (pt : plainT x = true) : HyT X O σ H x k := fun H1 e Q q =>
  wT_of (pt_val wE_ok fun whole => test_of pt whole) (hx H1 e _ fun v H2 e2 r => ⟨k, rep_bool r, q H2 e2⟩)
theorem hy_chain {op op2 : CmpOp} {k : Bool} (ha : Hy X O σ H x a) (hb : Hy X O σ H y b) (ho : CmpS X O op a b (.bool k)) (hc : if k = true then Hy X O σ H z c ∧ CmpS X O op2 b c d else d = .bool false) (ns : noSet z = true) :
    Hy X O σ H (.Compare x [op, op2] [y, z] pos) d := fun H1 e Q q =>
  wE_of (pe_chain wO_ok wO_ok wE_ok wE_ok wE_ok (last_of ns)) (ha H1 e _ fun u H2 e2 ru => hb H2 (e.trans e2) _ fun v H3 e3 rv => ho H3 u v _ (ru.mono (same_hide e3)) rv fun w H4 e4 rw => ⟨k, rep_bool rw, by
    cases k with
    | true =>
      obtain ⟨h1, h2⟩ := hc
      exact h1 H4 (e.trans (e2.trans (e3.trans e4))) _ fun r H5 e5 rr => h2 H5 v r Q (rv.mono (same_hide (e4.trans e5))) rr (q.mono (e2.trans (e3.trans (e4.trans e5))))
    | false =>
      have hc' : d = .bool false := hc
      subst hc'
      exact q _ H4 (e2.trans (e3.trans e4)) (.bl false)⟩)
theorem hyt_chain {op op2 : CmpOp} {k m : Bool} (ha : Hy X O σ H x a) (hb : Hy X O σ H y b) (ho : CmpS X O op a b (.bool k)) (hc : if k = true then Hy X O σ H z c ∧ CmpS X O op2 b c (.bool m) else m = false) (ns : noSet z = true) :
    HyT X O σ H (.Compare x [op, op2] [y, z] pos) m := fun H1 e Q q =>
  wT_of (pt_chain wO_ok wO_ok wE_ok wE_ok wE_ok (last_of ns)) (ha H1 e _ fun u H2 e2 ru => hb H2 (e.trans e2) _ fun v H3 e3 rv => ho H3 u v _ (ru.mono (same_hide e3)) rv fun w H4 e4 rw => ⟨k, rep_bool rw, by
    cases k with
    | true =>
      obtain ⟨h1, h2⟩ := hc
      exact h1 H4 (e.trans (e2.trans (e3.trans e4))) _ fun r H5 e5 rr => h2 H5 v r _ (rv.mono (same_hide (e4.trans e5))) rr fun w5 H6 e6 r6 => ⟨m, rep_bool r6, q H6 (e2.trans (e3.trans (e4.trans (e5.trans e6))))⟩
    | false =>
      have hc' : m = false := hc
      subst hc'
      exact ⟨false, rfl, q H4 (e2.trans (e3.trans e4))⟩⟩)
theorem hy_if {k : Bool} (hc : HyT X O σ H z k) (hh : if k = true then Hy X O σ H x d else Hy X O σ H y d) : Hy X O σ H (.IfExp z x y pos) d := fun H1 e Q q =>
  wE_of (pe_ifExp wT_ok wE_ok wE_ok) (hc H1 e _ fun H2 e2 => by
    cases k with
    | true => exact hh H2 (e.trans e2) Q (q.mono e2)
    | false => exact hh H2 (e.trans e2) Q (q.mono e2))
theorem hy_not {k : Bool} (hx : Hy X O σ H x (.bool k)) : Hy X O σ H (.UnaryOp .Not x pos) (.bool (!k)) := fun H1 e Q q =>
  wE_of (pe_not wE_ok) (hx H1 e _ fun v H2 e2 r => ⟨k, rep_bool r, q _ H2 e2 (.bl _)⟩)
theorem hyt_not {k : Bool} (hx : HyT X O σ H x k) : HyT X O σ H (.UnaryOp .Not x pos) (!k) := fun H1 e Q q =>
  wT_of (pt_not wT_ok) (hx H1 e _ fun H2 e2 => q H2 e2)
theorem hy_neg {i : Int} (hx : Hy X O σ H x (.int i)) : Hy X O σ H (.UnaryOp .USub x pos) (.int (-i)) := fun H1 e Q q =>
  wE_of (pe_un un_neg wE_ok) (hx H1 e _ fun v H2 e2 r => by
    cases r
    exact ⟨i, rfl, q _ H2 e2 (.int _)⟩)
def isNon : D → Bool
  | .none => true
  | _ => false
theorem dec_non {P : Program} {w : World} {G : Hp} {d : D} {v : V} (r : Rep P w G d v) : decide (v = .non) = isNon d := by
  cases r <;> simp [isNon]
theorem hy_isN {j : Nat} {pos2 : Pos} (hx : Hy X O σ H x a) : Hy X O σ H (.Compare x [.Is] [.Constant .none j pos2] pos) (.bool (isNon a)) := fun H1 e Q q =>
  wE_of (pe_cmp (pc_isN wE_ok)) (hx H1 e _ fun v H2 e2 r => by
    rw [dec_non r]
    exact q _ H2 e2 (.bl _))
theorem hy_notN {j : Nat} {pos2 : Pos} (hx : Hy X O σ H x a) : Hy X O σ H (.Compare x [.IsNot] [.Constant .none j pos2] pos) (.bool (!(isNon a))) := fun H1 e Q q =>
  wE_of (pe_cmp (pc_notN wE_ok)) (hx H1 e _ fun v H2 e2 r => by
    rw [dec_non r]
    exact q _ H2 e2 (.bl _))
theorem hyt_isN {j : Nat} {pos2 : Pos} (hx : Hy X O σ H x a) : HyT X O σ H (.Compare x [.Is] [.Constant .none j pos2] pos) (isNon a) := fun H1 e Q q =>
  wT_of (pt_cmp (pc_isN wE_ok)) (hx H1 e _ fun v H2 e2 r => by
    rw [dec_non r]
    exact ⟨_, rfl, q H2 e2⟩)
theorem hyt_notN {j : Nat} {pos2 : Pos} (hx : Hy X O σ H x a) : HyT X O σ H (.Compare x [.IsNot] [.Constant .none j pos2] pos) (!(isNon a)) := fun H1 e Q q =>
  wT_of (pt_cmp (pc_notN wE_ok)) (hx H1 e _ fun v H2 e2 r => by
    rw [dec_non r]
    exact ⟨_, rfl, q H2 e2⟩)
/-! #### and, or -/
theorem hy_one {op : BoolOp} (hx : Hy X O σ H x d) : Hy X O σ H (.BoolOp op [x] pos) d := fun H1 e Q q => wE_of (pe_one wE_ok) (hx H1 e Q q)
theorem hy_and {k : Bool} (hx : Hy X O σ H x (.bool k)) (hr : if k = true then Hy X O σ H (.BoolOp .And (y :: xs) pos) d else d = .bool false) : Hy X O σ H (.BoolOp .And (x :: y :: xs) pos) d := fun H1 e Q q =>
  wE_of (pe_and wE_ok wE_ok) (hx H1 e _ fun v H2 e2 r => ⟨k, rep_bool r, by
    cases k with
    | true => exact hr H2 (e.trans e2) Q (q.mono e2)
    | false =>
      have hc' : d = .bool false := hr
      subst hc'
      exact q _ H2 e2 (.bl false)⟩)
theorem hy_or {k : Bool} (hx : Hy X O σ H x (.bool k)) (hr : if k = true then d = .bool true else Hy X O σ H (.BoolOp .Or (y :: xs) pos) d) : Hy X O σ H (.BoolOp .Or (x :: y :: xs) pos) d := fun H1 e Q q =>
  wE_of (pe_or wE_ok wE_ok) (hx H1 e _ fun v H2 e2 r => ⟨k, rep_bool r, by
    cases k with
    | false => exact hr H2 (e.trans e2) Q (q.mono e2)
    | true =>
      have hc' : d = .bool true := hr
      subst hc'
      exact q _ H2 e2 (.bl true)⟩)
theorem hyw_and1 {k : Bool} (hx : HyT X O σ H x k) : HyW X O σ H (.BoolOp .And [x] pos) k := fun H1 e Q q => wW_of (pw_and1 wT_ok) (hx H1 e Q q)
theorem hyw_or1 {k : Bool} (hx : HyT X O σ H x k) : HyW X O σ H (.BoolOp .Or [x] pos) k := fun H1 e Q q => wW_of (pw_or1 wT_ok) (hx H1 e Q q)
theorem hyw_and {k m : Bool} (hx : HyT X O σ H x k) (hr : if k = true then HyW X O σ H (.BoolOp .And (y :: xs) pos) m else m = false) : HyW X O σ H (.BoolOp .And (x :: y :: xs) pos) m := fun H1 e Q q =>
  wW_of (pw_and wT_ok wW_ok) (hx H1 e _ fun H2 e2 => by
    cases k with
    | true => exact hr H2 (e.trans e2) Q fun H3 e3 => q H3 (e2.trans e3)
    | false =>
      have hc' : m = false := hr
      subst hc'
      exact q H2 e2)
theorem hyw_or {k m : Bool} (hx : HyT X O σ H x k) (hr : if k = true then m = true else HyW X O σ H (.BoolOp .Or (y :: xs) pos) m) : HyW X O σ H (.BoolOp .Or (x :: y :: xs) pos) m := fun H1 e Q q =>
  wW_of (pw_or wT_ok wW_ok) (hx H1 e _ fun H2 e2 => by
    cases k with
    | false => exact hr H2 (e.trans e2) Q fun H3 e3 => q H3 (e2.trans e3)
    | true =>
      have hc' : m = true := hr
      subst hc'
      exact q H2 e2)
theorem hyt_w {k : Bool} (hx : HyW X O σ H x k) : HyT X O σ H x k := fun H1 e Q q => fun pins s I => hx H1 e Q q _ pins s I
/-! #### displays -/
theorem repL_size {G : Hp} {vs : List V} (r : RepL X.prog X.w G ds vs) (hz : ds.length ≤ 1000000) : vs.length ≤ sizeLine := by
  rw [← r.length]
  exact fits hz
theorem hy_lst (t : Trk O H) (hs : HyL X O σ H xs ds) (hz : ds.length ≤ 1000000) : Hy X O σ H (.List xs pos) (.list ds) := fun H1 e Q q =>
  wE_of (pe_lst wA_ok) (hs H1 e _ fun vs H2 e2 r => ⟨repL_size r hz, Post.newL (t.mono (e.trans e2)) (q.mono e2) r⟩)
theorem hy_tup {k : Nat} (t : Trk O H) (hs : HyL X O σ H xs ds) (hz : ds.length ≤ 1000000) : Hy X O σ H (.Tuple xs k pos) (.tuple ds) := fun H1 e Q q pins s I => by
  refine wpAny_Tuple_spliced (thn (hs H1 e (fun vs H2 => RepL X.prog X.w (hide O H2) ds vs ∧ Same H1 H2) (fun vs H2 e2 r => ⟨r, e2⟩) pos pins s I) fun us s1 ⟨vs, H2, I2, rv, r, e2⟩ => ?_)
  have hz2 := repL_size r hz
  exact ⟨by rw [← rv.length]; exact hz2, endT I2 rv hz2 (Post.newT (t.mono (e.trans e2)) (q.mono e2) r)⟩
/-! #### calls of built-in functions -/
theorem hy_fn {id : String} {f : Str} {p : Pos} (hs : HyL X O σ H (x :: xs) ds) (hc : ∀ H1 vs Q, Same H H1 → RepL X.prog X.w (hide O H1) ds vs → Post X O H1 d Q → wC X (.builtin id) vs H1 Q) (hg : Gl X f) (hm : X.mg f = none) (hv : bootBuiltins f = some (.builtin id))
    (hn : f ≠ "__name__") (hdb : (f == ("__debug__" : Str)) = false) (st : noStar x = true) (st2 : xs.all noStar = true) : Hy X O σ H (.Call (.Name f p) (x :: xs) [] pos) d := fun H1 e Q q =>
  wE_of (pe_callB wC_ok hg hm hv wA_ok hn hdb (star_of st) (any_of st2)) (hs H1 e _ fun vs H2 e2 r => hc H2 vs Q (e.trans e2) r (q.mono e2))
theorem hy_ty {T : String} {f : Str} {p : Pos} (hs : HyL X O σ H (x :: xs) ds) (hc : ∀ H1 vs Q, Same H H1 → RepL X.prog X.w (hide O H1) ds vs → Post X O H1 d Q → wC X (.type T) vs H1 Q) (hg : Gl X f) (hm : X.mg f = none) (hv : bootBuiltins f = some (.type T))
    (hn : f ≠ "__name__") (hdb : (f == ("__debug__" : Str)) = false) (st : noStar x = true) (st2 : xs.all noStar = true) : Hy X O σ H (.Call (.Name f p) (x :: xs) [] pos) d := fun H1 e Q q =>
  wE_of (pe_callTy wC_ok hg hm hv wA_ok hn hdb (star_of st) (any_of st2)) (hs H1 e _ fun vs H2 e2 r => hc H2 vs Q (e.trans e2) r (q.mono e2))
/-! #### subscripts, slices, methods -/
theorem hy_ix (ha : Hy X O σ H x a) (hb : Hy X O σ H y b) (ho : ∀ H1 u v Q, Rp X O H1 a u → Rp X O H1 b v → Post X O H1 d Q → wIx X u v H1 Q) (st : shp y = true) : Hy X O σ H (.Subscript x y pos) d := fun H1 e Q q =>
  wE_of (pe_ix wIx_ok wE_ok wE_ok (plain_of st)) (ha H1 e _ fun u H2 e2 ru => hb H2 (e.trans e2) _ fun v H3 e3 rv => ho H3 u v Q (ru.mono (same_hide e3)) rv (q.mono (e2.trans e3)))
theorem hy_slTo {j : Int} {p2 : Pos} (ha : Hy X O σ H x a) (hb : Hy X O σ H y (.int j)) (ho : ∀ H1 u Q, Same H H1 → Rp X O H1 a u → Post X O H1 d Q → wSl X u none (some j) H1 Q) : Hy X O σ H (.Subscript x (.Slice none (some y) none p2) pos) d := fun H1 e Q q =>
  wE_of (pe_slice wSl_ok wE_ok po_none (po_some wE_ok)) (ha H1 e _ fun u H2 e2 ru => hb H2 (e.trans e2) _ fun v H3 e3 rv => by
    cases rv
    exact ⟨j, rfl, ho H3 u Q (e.trans (e2.trans e3)) (ru.mono (same_hide e3)) (q.mono (e2.trans e3))⟩)
theorem hy_slFrom {j : Int} {p2 : Pos} (ha : Hy X O σ H x a) (hb : Hy X O σ H y (.int j)) (ho : ∀ H1 u Q, Same H H1 → Rp X O H1 a u → Post X O H1 d Q → wSl X u (some j) none H1 Q) : Hy X O σ H (.Subscript x (.Slice (some y) none none p2) pos) d := fun H1 e Q q =>
  wE_of (pe_slice wSl_ok wE_ok (po_some wE_ok) po_none) (ha H1 e _ fun u H2 e2 ru => hb H2 (e.trans e2) _ fun v H3 e3 rv => by
    cases rv
    exact ⟨j, rfl, ho H3 u Q (e.trans (e2.trans e3)) (ru.mono (same_hide e3)) (q.mono (e2.trans e3))⟩)
theorem hy_slice {i j : Int} {p2 : Pos} (ha : Hy X O σ H x a) (hb : Hy X O σ H y (.int i)) (hc : Hy X O σ H z (.int j)) (ho : ∀ H1 u Q, Same H H1 → Rp X O H1 a u → Post X O H1 d Q → wSl X u (some i) (some j) H1 Q) : Hy X O σ H (.Subscript x (.Slice (some y) (some z) none p2) pos) d := fun H1 e Q q =>
  wE_of (pe_slice wSl_ok wE_ok (po_some wE_ok) (po_some wE_ok)) (ha H1 e _ fun u H2 e2 ru => hb H2 (e.trans e2) _ fun v H3 e3 rv => by
    cases rv
    refine ⟨i, rfl, hc H3 (e.trans (e2.trans e3)) _ fun w H4 e4 rw => ?_⟩
    cases rw
    exact ⟨j, rfl, ho H4 u Q (e.trans (e2.trans (e3.trans e4))) (ru.mono (same_hide (e3.trans e4))) (q.mono (e2.trans (e3.trans e4)))⟩)
theorem hy_rev {k : Nat} {p1 p2 p3 : Pos} (t : Trk O H) (hx : Hy X O σ H x (.list ds)) : Hy X O σ H (.Subscript x (.Slice none none (some (.UnaryOp .USub (.Constant (.int 1) k p1) p2)) p3) pos) (.list ds.reverse) := fun H1 e Q q =>
  wE_of (pe_revL wE_ok) (hx H1 e _ fun u H2 e2 ru => by
    cases ru with
    | lst h1 rl => exact ⟨_, _, rfl, sqL h1, Post.newL (t.mono (e.trans e2)) (q.mono e2) rl.rev⟩)
end
end Sq
end

section
set_option Elab.async false
set_option linter.all false
set_option maxRecDepth 100000
set_option maxHeartbeats 2000000
/-! dict displays, sets, ranges laid out, calls, by data -/
namespace Sq
open PySem L2 PyProof.Rows

section
variable {X : Cx} {O : List Addr} {σ : L2.St} {H : Hp} {n : Nat}
def Hyo (X : Cx) (O : List Addr) (σ : L2.St) (H : Hp) (x : Expr) (d : D) : Prop := ∀ O' H1, Le O H O' H1 → ∀ Q, Post X O' H1 d Q → wE X x σ H1 Q
theorem Hyo.hy {x : Expr} {d : D} (t : Trk O H) (h : Hyo X O σ H x d) : Hy X O σ H x d := fun H1 e => h O H1 (Le.of t e)
theorem Hyo.mono {x : Expr} {d : D} (h : Hyo X O σ H x d) {O' : List Addr} {H' : Hp} (e : Le O H O' H') : Hyo X O' σ H' x d := fun O2 H2 e2 => h O2 H2 ⟨e.same.trans e2.same, e.vis.trans e2.vis, fun a ha => e2.sub a (e.sub a ha), e2.trk⟩
/-- a new place is hidden -/
theorem Le.new {O : List Addr} {H : Hp} (t : Trk O H) {p : Addr} {o : HO} (h : H p = none) : Le O H (p :: O) (upd H p o) where
  same := same_new h
  vis := fun a ob e => by
    obtain ⟨e1, e2⟩ := hide_some e
    have ne : a ≠ p := ne_of_none e1 h
    exact hide_of (by rw [upd_ne ne]; exact e1) fun m => (List.mem_cons.mp m).elim ne e2
  sub := fun a ha => List.mem_cons_of_mem _ ha
  trk := fun a ha => by
    rcases List.mem_cons.mp ha with e | ha
    · rw [e, upd_same]
      exact fun z => by cases z
    · rw [upd_ne (fun e => t a ha (by rw [e]; exact h))]
      exact t a ha
variable {x y z : Expr} {xs : List Expr} {a b c d : D} {ds : List D} {pos : Pos}
abbrev emptyD : Obj := { cls := .type "dict", data := .dict #[] }
theorem hy_dsp (t : Trk O H) (hr : Room n X.A) (hk : Hyo X O σ H x a) (hv : Hyo X O σ H y b) (ka : isTupKey a = true) : Hy X O σ H (.Dict [some x] [y] pos) (.dict [(a, b)]) := fun H1 e Q q pins s I => by
  obtain ⟨k, e1, e2, ts, e3⟩ := tupKey_of ka
  subst e3
  rw [arm_eval_Dict]
  have shape : (evalEachOpt [some x] X.env).zip ((evalEach [y] X.env).map fun v => do let x ← v; standAt pos; pure x) = [(eval x X.env, do let x ← eval y X.env; standAt pos; pure x)].map fun p => (some p.1, p.2) := rfl
  rw [shape, dictDisplay_pairs _ (by simp) (by simp)]
  refine wpAny_bind (wpAny_standAt (wpAny_bind (wpAny_subDictH (knd := nestedKind X.prog X.w) (Q := fun p s' => wpAny (model X.prog X.w) X.A (pure (Value.ref p)) (EP X pins σ Q) X.xe s') (by have := hr.un; show X.A.units + 8 < cLine; omega) (by simp) ?_)))
  have t1 := t.mono e
  have fresh := I.hok.fresh (Nat.le_refl s.heap.objs.size)
  have eo : (s.heap.push emptyD).get? s.heap.objs.size = some emptyD := Heap.get?_push_size _ rfl
  have I1 : Inv X pins σ (upd H1 s.heap.objs.size (At s.heap.objs.size emptyD)) { s with heap := s.heap.push emptyD } := I.laid (t' := s.toks) (fun _ _ q => Heap.get?_push_of_some _ q) (Nat.le_refl _) (at_mk eo)
  have L1 := Le.new t1 (o := At s.heap.objs.size emptyD) fresh
  have L0 : Le O H O H1 := Le.of t e
  have hk1 := hk.mono L0 |>.mono L1 _ _ (Le.of L1.trk (Same.refl _))
  have hv1 := hv.mono L0 |>.mono L1
  show wpAny _ _ (eval x X.env >>= fun kv => _) _ _ _
  refine wpAny_bind (thn (hk1 (fun v H2 => Same (upd H1 s.heap.objs.size (At s.heap.objs.size emptyD)) H2 ∧ Rp X (s.heap.objs.size :: O) H2 (.tuple ts) v) (fun v H2 e r => ⟨e, r⟩) pins _ I1) fun u s1 ⟨v, H2, I2, r2, sm2, rp2⟩ => ?_)
  refine wpAny_bind (wpAny_holding (wpAny_bind (thn (hv1 _ _ (Le.of L1.trk sm2) (fun v H3 => Same H2 H3 ∧ Rp X (s.heap.objs.size :: O) H3 b v) (fun v H3 e r => ⟨e, r⟩) pins _ I2) fun u2 s2 ⟨v2, H3, I3, r3, sm3, rp3⟩ => wpAny_bind (wpAny_standAt (wpAny_pure ?_)))))
  show wpAny _ _ (holding _ (evalPairs []) >>= fun r => pure ((u, u2) :: r)) _ _ _
  refine wpAny_bind (wpAny_holding (wpAny_pure (wpAny_pure ?_)))
  have rk := rp2.mono (same_hide sm3)
  cases rk with
  | tup g1 g2 g3 =>
    rename_i ka o vs
    cases r2
    have here : H3 s.heap.objs.size = some (At s.heap.objs.size emptyD) := sm3 _ _ (sm2 _ _ upd_same)
    have m0 : s2.heap.DictOfH (nestedKind X.prog X.w) s.heap.objs.size [] := ⟨emptyD, #[], 0, at_ok I3 here, ⟨rfl, rfl, rfl⟩, rfl, rfl, fun _ h => absurd h List.not_mem_nil, List.nodup_nil⟩
    refine ⟨[(k, ka, u2)], ⟨rfl, rfl, rep_is I3 e1 e2 (.tup g1 g2 g3), trivial⟩, m0, fun h' tk m' sb => wpAny_pure ?_⟩
    obtain ⟨o', ho', dob⟩ := dobj_of m'
    have I4 : Inv X pins σ (upd H3 s.heap.objs.size (At s.heap.objs.size o')) { s2 with heap := h', toks := tk } := I3.write (by rw [here]; trivial) (.inl rfl) (fun b u hb q => (sb.2 b hb).trans q) ⟨_, ho'⟩ (at_mk ho')
    have up : Same (hide (s.heap.objs.size :: O) H3) (hide (s.heap.objs.size :: O) (upd H3 s.heap.objs.size (At s.heap.objs.size o'))) := fun b ob q => by
      obtain ⟨q1, q2⟩ := hide_some q
      exact hide_of (by rw [upd_ne (fun e => q2 (by rw [e]; exact List.mem_cons_self))]; exact q1) q2
    have dn : Same (hide (s.heap.objs.size :: O) (upd H3 s.heap.objs.size (At s.heap.objs.size o'))) (hide O (upd H3 s.heap.objs.size (At s.heap.objs.size o'))) := hide_sub fun b hb => List.mem_cons_of_mem _ hb
    have sm : Same H1 (upd H3 s.heap.objs.size (At s.heap.objs.size o')) := fun b ob q => by
      have ne : b ≠ s.heap.objs.size := ne_of_none q fresh
      rw [upd_ne ne]
      exact sm3 _ _ (sm2 _ _ (by rw [upd_ne ne]; exact q))
    refine ⟨.ref s.heap.objs.size, _, I4, rfl, q _ _ sm (.dct (hide_of upd_same (t1.new fresh)) ?_ dob ?_)⟩
    · have hb := I.big
      rw [beq_eq_false_iff_ne]
      exact fun e => absurd hb (by rw [e]; exact Nat.lt_irrefl _)
    · have rk0 : RepK X.prog X.w (hide (s.heap.objs.size :: O) H3) [(.tuple ts, b)] [(k, ka, u2)] := .cons e1 e2 (.tup g1 g2 g3) r3 rp3 .nil
      exact (rk0.mono up).mono dn
/-! #### sets -/
theorem uniq_mem : ∀ (ns : List Int) (k : Int), k ∈ uniq ns ↔ k ∈ ns
  | [], k => by simp [uniq]
  | m :: ns, k => by
    unfold uniq
    split
    · next h =>
      have hm : m ∈ ns := by simpa using h
      rw [uniq_mem ns k, List.mem_cons]
      exact ⟨.inr, fun h => h.elim (fun e => by rw [e]; exact hm) id⟩
    · rw [List.mem_cons, List.mem_cons, uniq_mem ns k]
theorem uniq_nd : ∀ ns : List Int, (uniq ns).Nodup
  | [] => List.nodup_nil
  | m :: ns => by
    unfold uniq
    split
    · exact uniq_nd ns
    · next h =>
      have hm : m ∉ ns := by simpa using h
      rw [List.nodup_cons, uniq_mem]
      exact ⟨hm, uniq_nd ns⟩
theorem uniq_perm {ns ks : List Int} (nd : ks.Nodup) (h : ∀ k, k ∈ ks ↔ k ∈ ns) : ks.Perm (uniq ns) := (List.perm_ext_iff_of_nodup nd (uniq_nd ns)).mpr fun k => (h k).trans (uniq_mem ns k).symm
/-- set(x), x a list or a tuple of whole numbers -/
theorem set_of {pins : List (Addr × Obj)} {s : Shared} {ns : List Int} {v : V} {u : Value} {Q : Value → Shared → Prop} {E : Value → Shared → Prop} (hc : X.calm = true) (I : Inv X pins σ H s) (hs : seqOf a = some ds) (hn : intsO ds = some ns) (h64 : ns.length < 64) (rp : Rp X O H a v) (rv : RelV v u)
    (h : ∀ s', MadeS X.w s ns s' → Q (.ref s.heap.objs.size) s') : wpAny (model X.prog X.w) X.A (call (.type "set") [u]) Q E s := by
  obtain ⟨p, vs, rfl, hq, r⟩ := seqOf_rep hs rp
  cases rv
  rw [intsV hn r] at hq
  have room : ns.length + 1 < scanBound := by unfold scanBound; omega
  rcases hq with hq | hq
  · obtain ⟨its, rl, pl, hz⟩ := I.list hq
    exact call_set_ints (I.ok.hd hc) pl.isList (by simpa using Vals.ints rl) room h
  · obtain ⟨its, rl, tp, hz⟩ := I.tuple hq
    exact call_set_tupI ns (I.ok.hd hc) tp (by simpa using Vals.ints rl) room fun h' tk c R hc k => h _ ⟨h', tk, c, rfl, R, hc, k⟩
theorem hy_lenSet {p p2 pos2 : Pos} (hc : X.calm = true) (g1 : Gl X "len") (m1 : X.mg "len" = none) (g2 : Gl X "set") (m2 : X.mg "set" = none) (h : op1 .lenSet a = some d) (hx : Hy X O σ H x a) (st : noStar x = true) :
    Hy X O σ H (.Call (.Name "len" p) [.Call (.Name "set" p2) [x] [] pos2] [] pos) d := fun H1 e Q q pins s I => by
  unfold op1 at h
  simp only at h
  split at h
  · next ds hs =>
    split at h
    · next ns hn =>
      split at h
      · next h64 =>
        cases h
        have st2 : starEach [Expr.Call (.Name "set" p2) [x] [] pos2] X.env = (false, eval (.Call (.Name "set" p2) [x] [] pos2) X.env) :: starEach [] X.env := rfl
        refine Call_ (ld_blt I g1 m1 boot_len (callWith_builtin1 (args_cons (Call_ (ld_blt I g2 m2 boot_set (callWith_type1 (args_cons (thn (hx H1 e (fun v H2 => Same H1 H2 ∧ Rp X O H2 a v) (fun v H2 e2 r => ⟨e2, r⟩) pins s I) fun u s1 ⟨v, H2, I2, r2, e2, rp⟩ => args_nil ?_) (star_of st)) (star_of st)))) st2) st2))
        refine set_of hc I2 hs hn h64 rp r2 fun s' ⟨h', tk, c, es', R, hcn, k⟩ => ?_
        subst es'
        have I3 : Inv X pins σ H2 { s1 with heap := h', toks := tk } := I2.kept k
        refine args_nil ?_
        obtain ⟨o, es, ep, tb, ho, hex, hd, _, nd, hm, _, hf, hsz, _, _⟩ := R
        have e3 : es.size = (uniq ns).length := by
          have pm := uniq_perm nd (ns := ns) fun k => by
            rw [← hm k]
            simp
          rw [← pm.length_eq, List.length_map, Array.length_toList]
        refine call_len_set ho hex hd hf (by omega) ⟨.int es.size, H2, I3.tok _, ⟨_, rfl⟩, ?_⟩
        rw [e3]
        exact q _ H2 e2 (.int _)
      · cases h
    · cases h
  · cases h
theorem isort_unique {ds es : List D} (L : Likes ds) (p : es.Perm ds) (s : es.Pairwise fun a b => dle a b = true) : isort ds = es := by
  have p2 := isort_perm ds
  refine List.Perm.eq_of_pairwise (le := fun a b => dle a b = true) (fun a b ha hb h1 h2 => ?_) (isort_sorted ds L) s (p2.trans p.symm)
  have la := L a (p2.mem_iff.mp ha) b (p.mem_iff.mp hb)
  rw [dle_eq, ← like_lt b a (like_symm _ _ la)] at h1
  rw [dle_eq, ← like_lt a b la] at h2
  exact lt_anti a b la (by simpa using h2) (by simpa using h1)
theorem hy_sortedSet {p p2 pos2 : Pos} (t : Trk O H) (hc : X.calm = true) (g1 : Gl X "sorted") (m1 : X.mg "sorted" = none) (g2 : Gl X "set") (m2 : X.mg "set" = none) (h : op1 .sortedSet a = some d) (hx : Hy X O σ H x a) (st : noStar x = true) :
    Hy X O σ H (.Call (.Name "sorted" p) [.Call (.Name "set" p2) [x] [] pos2] [] pos) d := fun H1 e Q q pins s I => by
  unfold op1 at h
  simp only at h
  split at h
  · next xs =>
   split at h
   · next ns hn =>
      split at h
      · next h64 =>
        cases h
        have st2 : starEach [Expr.Call (.Name "set" p2) [x] [] pos2] X.env = (false, eval (.Call (.Name "set" p2) [x] [] pos2) X.env) :: starEach [] X.env := rfl
        refine Call_ (ld_blt I g1 m1 boot_sorted (callWith_builtin1 (args_cons (Call_ (ld_blt I g2 m2 boot_set (callWith_type1 (args_cons (thn (hx H1 e (fun v H2 => Same H1 H2 ∧ Rp X O H2 (.list xs) v) (fun v H2 e2 r => ⟨e2, r⟩) pins s I) fun u s1 ⟨v, H2, I2, r2, e2, rp⟩ => args_nil ?_) (star_of st)) (star_of st)))) st2) st2))
        refine set_of hc I2 (ds := xs) rfl hn h64 rp r2 fun s' ⟨h', tk, c, es', R, hcn, k⟩ => ?_
        subst es'
        have I3 : Inv X pins σ H2 { s1 with heap := h', toks := tk } := I2.kept k
        refine args_nil (sorted_set R (I.ok.hd hc) (by omega) fun s2 p out c2 ks k2 g o2 hp hout hi hlt hm hl => ?_)
        have kall : ∀ b ob, s1.heap.get? b = some ob → s2.heap.get? b = some ob := fun b ob z => k2 b ob (k b ob z)
        have hle : s1.heap.objs.size ≤ p := by
          obtain ⟨o, es, ep, tb, ho, _⟩ := R
          exact Nat.le_trans (Nat.le_of_lt (Heap.lt_size ho)) hp
        have nd : ks.Nodup := hlt.imp fun h => Int.ne_of_lt h
        have pm := uniq_perm nd (ns := ns) fun k => by
          rw [hm k]
          simp
        have e3 : isort ((uniq ns).map .int) = ks.map .int := by
          refine isort_unique (fun x hx y hy => ?_) (pm.map _) ?_
          · obtain ⟨i, _, rfl⟩ := List.mem_map.mp hx
            obtain ⟨j, _, rfl⟩ := List.mem_map.mp hy
            rfl
          · rw [List.pairwise_map]
            refine hlt.imp fun {i j} h => ?_
            rw [dle_eq, ← like_lt (.int j) (.int i) rfl]
            simp only [lt, Bool.not_eq_true', decide_eq_false_iff_not]
            omega
        have rv : Vals (ks.map V.int) out.toList := by
          clear hout hm hl pm e3 nd hlt
          generalize out.toList = us at hi
          induction hi with
          | nil => exact .nil
          | cons k t _ ih => exact .cons ⟨t, rfl⟩ ih
        have new : ObjOk X.prog X.w (upd H2 p (.lst (ks.map V.int))) s2.heap p (.lst (ks.map V.int)) := ⟨by rw [List.length_map]; exact fits (by omega), out.toList, c2, rv, by
          rw [Array.toArray_toList]
          exact hout⟩
        have hn2 := I2.hok.fresh hle
        refine ⟨.ref p, upd H2 p (.lst (ks.map V.int)), I2.call' (ch := []) o2 (Un.laid kall hle hn2) (I2.hok.laid kall hle new) (by rw [g]; exact I2.bare) (fun _ z => absurd z List.not_mem_nil), rfl, ?_⟩
        rw [e3] at q
        exact (Post.newL (t.mono (e.trans e2)) (q.mono e2) (RepL.of_ints ks)) p hn2
      · cases h
   · cases h
  · cases h
/-! #### ranges laid out -/
theorem rgV_rep {G : Hp} (k : Int) : RepL X.prog X.w G (rng 0 1 k.toNat) (rgV 0 k) := by
  have r := rng_rep (X := X) (G := G) 1 k.toNat 0
  unfold rgV
  have e : (fun (i : Nat) => V.int (0 + (i : Int) * 1)) = fun (i : Nat) => V.int (0 + (i : Int)) := by
    funext i
    rw [Int.mul_one]
  rw [e] at r
  rw [Int.sub_zero]
  exact r
theorem hy_tupRg {p p2 pos2 : Pos} (t : Trk O H) (hc : X.calm = true) (g1 : Gl X "tuple") (m1 : X.mg "tuple" = none) (g2 : Gl X "range") (m2 : X.mg "range" = none) (h : op1 .tupRg a = some d) (hx : Hy X O σ H x a) (st : noStar x = true) :
    Hy X O σ H (.Call (.Name "tuple" p) [.Call (.Name "range" p2) [x] [] pos2] [] pos) d := fun H1 e Q q => by
  unfold op1 at h
  simp only at h
  split at h
  · split at h
    · next i hs =>
      cases h
      exact wE_of (pe_tr hc g1 m1 g2 m2 wE_ok (star_of st)) (hx H1 e _ fun v H2 e2 r => by
        cases r
        exact ⟨i, rfl, rfl, small_lt hs, Post.newT (t.mono (e.trans e2)) (q.mono e2) (rgV_rep i)⟩)
    · cases h
  · cases h
theorem size_step {i j k : Int} (hi : i.natAbs < 1000000) (hj : j.natAbs < 1000000) (hk : k.natAbs < 1000000) (h0 : 0 < k) : Builtin.Range.rangeSize i j k = (((j - i + k - 1) / k).toNat : Nat) ∧ ((j - i + k - 1) / k).toNat ≤ 2 ^ 24 := by
  have b : (j - i + k - 1) / k ≤ 2 ^ 24 := by
    refine Int.ediv_le_of_le_mul h0 ?_
    omega
  refine ⟨?_, by omega⟩
  unfold Builtin.Range.rangeSize
  rw [if_pos h0]
  split
  · next hlt =>
    have e : (j - i + k - 1) / k = (j - i - 1) / k + 1 := by
      have e1 : j - i + k - 1 = (j - i - 1) + 1 * k := by omega
      rw [e1, Int.add_mul_ediv_right _ _ (by omega)]
    have nn : 0 ≤ (j - i - 1) / k := Int.ediv_nonneg (by omega) (by omega)
    rw [e]
    omega
  · next hge =>
    have e : (j - i + k - 1) / k ≤ 0 := by
      refine Int.le_of_lt_add_one ?_
      rw [Int.zero_add]
      exact Int.ediv_lt_of_lt_mul h0 (by omega)
    omega
theorem small_step {i j k : Int} (hi : i.natAbs < 1000000) (hj : j.natAbs < 1000000) (hk : k.natAbs < 1000000) (h0 : 0 < k) : Builtin.Range.small i j k = true := by
  obtain ⟨e, b⟩ := size_step hi hj hk h0
  unfold Builtin.Range.small
  rw [e]
  simp only [Builtin.Range.rangeFitsLong, Bool.and_eq_true, Bool.or_eq_true, decide_eq_true_eq, beq_iff_eq, show (k > 0) from h0, if_true]
  omega
/-- list(range(i, j, k)) -/
theorem hy_lstRg {p p2 pos2 : Pos} (t : Trk O H) (hc : X.calm = true) (g1 : Gl X "list") (m1 : X.mg "list" = none) (g2 : Gl X "range") (m2 : X.mg "range" = none) (h : op3 .lstRg a b c = some d) (hx : Hy X O σ H x a) (hy : Hy X O σ H y b) (hz : Hy X O σ H z c)
    (sx : noStar x = true) (sy : noStar y = true) (sz : noStar z = true) : Hy X O σ H (.Call (.Name "list" p) [.Call (.Name "range" p2) [x, y, z] [] pos2] [] pos) d := fun H1 e Q q pins s I => by
  unfold op3 at h
  simp only at h
  split at h
  · next i j k =>
   split at h
   · next hs =>
    cases h
    simp only [Bool.and_eq_true, decide_eq_true_eq] at hs
    obtain ⟨⟨⟨h1, h2⟩, h3⟩, h0⟩ := hs
    have h1 := small_lt h1
    have h2 := small_lt h2
    have h3 := small_lt h3
    have st2 : starEach [Expr.Call (.Name "range" p2) [x, y, z] [] pos2] X.env = (false, eval (.Call (.Name "range" p2) [x, y, z] [] pos2) X.env) :: starEach [] X.env := rfl
    have al : [y, z].all noStar = true := by simp [sy, sz]
    refine Call_ (ld_blt I g1 m1 boot_list (callWith_type1 (args_cons (Call_ (ld_blt I g2 m2 boot_range (callWith_type1 (args_cons (thn (hx H1 e (fun v H2 => Same H1 H2 ∧ v = .int i) (fun v H2 e2 r => ⟨e2, by cases r; rfl⟩) pins s I) fun u s1 ⟨v, H2, I2, r2, e2, ev⟩ =>
      args_cons (thn (hy H2 (e.trans e2) (fun v H3 => Same H2 H3 ∧ v = .int j) (fun v H3 e3 r => ⟨e3, by cases r; rfl⟩) pins s1 I2) fun u2 s2 ⟨v2, H3, I3, r3, e3, ev2⟩ =>
      args_cons (thn (hz H3 (e.trans (e2.trans e3)) (fun v H4 => Same H3 H4 ∧ v = .int k) (fun v H4 e4 r => ⟨e4, by cases r; rfl⟩) pins s2 I3) fun u3 s3 ⟨v3, H4, I4, r4, e4, ev3⟩ => args_nil ?_) (star_of sz)) (star_of sy)) (star_of sx)) (star_of sx) (any_of al)))) st2) st2))
    subst ev
    subst ev2
    subst ev3
    obtain ⟨t1, rfl⟩ := r2
    obtain ⟨t2, rfl⟩ := r3
    obtain ⟨t3, rfl⟩ := r4
    refine call_range_3 (by omega) (args_nil ?_) (.inl (PyProof.noPylong_small (by omega)))
    have I5 : Inv X pins σ H4 { s3 with heap := s3.heap.push { cls := .type "range", data := .fields #[.int i t1, .int j t2, .int k t3] }, toks := s3.toks } := I4.kept fun b o e => Heap.get?_push_of_some _ e
    obtain ⟨sz1, sz2⟩ := size_step h1 h2 h3 h0
    refine call_list_range (s := { s3 with heap := s3.heap.push { cls := .type "range", data := .fields #[.int i t1, .int j t2, .int k t3] }, toks := s3.toks }) (I4.ok.hd hc) (IsRange.new ..) (small_step h1 h2 h3 h0) sz1 sz2 fun h' tk acc c' hk ho hi => ?_
    have rv : Vals ((List.range ((j - i + k - 1) / k).toNat).map fun (m : Nat) => V.int (i + m * k)) acc.toList := by
      have e : acc.toList.length = ((j - i + k - 1) / k).toNat := by rw [Array.length_toList]; exact hi.1
      rw [← e]
      exact vals_of_get _ _ fun m u hu => by
        obtain ⟨t, et⟩ := hi.2 m u (by rw [← Array.getElem?_toList]; exact hu)
        exact ⟨t, et⟩
    have hz : ((List.range ((j - i + k - 1) / k).toNat).map fun (m : Nat) => V.int (i + m * k)).length ≤ sizeLine := by
      rw [List.length_map, List.length_range, sizeLine_eq]
      omega
    have e5 := e2.trans (e3.trans e4)
    exact ⟨.ref _, _, I5.laid (t' := tk) (o := .lst _) hk (Nat.le_refl _) ⟨hz, acc.toList, c', rv, by rw [Array.toArray_toList]; exact ho⟩, rfl, Post.newL (t.mono (e.trans e5)) (q.mono e5) (rng_rep k _ i) _ (I5.hok.fresh (Nat.le_refl _))⟩
   · cases h
  · cases h
end
end Sq
end

section
set_option Elab.async false
set_option linter.all false
set_option maxRecDepth 100000
set_option maxHeartbeats 2000000
/-! list comprehensions, by data -/
namespace Sq
open PySem L2 PyProof.Rows

def wGb (X : Cx) (scope : Scope) (tg : Expr) : TG := fun v σ H Q => ∀ (s : Shared) (H0 : Hp) (C : Addr) (cl : List (Str × Addr)) (fp : List Addr), wG (X.blk s H0 scope (compEnvC scope cl C X.env) fp) tg v σ H Q
def wEb (X : Cx) (scope : Scope) (e : Expr) : TE := fun σ H Q => ∀ (s : Shared) (H0 : Hp) (C : Addr) (cl : List (Str × Addr)) (fp : List Addr), wE (X.blk s H0 scope (compEnvC scope cl C X.env) fp) e σ H Q
def wTb (X : Cx) (scope : Scope) (e : Expr) : TT := fun σ H Q => ∀ (s : Shared) (H0 : Hp) (C : Addr) (cl : List (Str × Addr)) (fp : List Addr), wT (X.blk s H0 scope (compEnvC scope cl C X.env) fp) e σ H Q
section
variable {X : Cx} {O : List Addr} {σ : L2.St} {H : Hp}
theorem mapF_drop {f : Yd → Option (Option D)} : ∀ {ys : List Yd} {i : Nat} {more : List D} {y : Yd}, ys[i]? = some y → mapF f (ys.drop i) = some more →
    (∃ d r, f y = some (some d) ∧ mapF f (ys.drop (i + 1)) = some r ∧ more = d :: r) ∨ (f y = some none ∧ mapF f (ys.drop (i + 1)) = some more)
  | [], i, more, y, e, h => by simp at e
  | z :: ys, 0, more, y, e, h => by
    have ez : z = y := by simpa using e
    subst ez
    have h' : mapF f (z :: ys) = some more := h
    unfold mapF at h'
    split at h'
    · next d e1 =>
      split at h'
      · next r e2 =>
        cases h'
        exact .inl ⟨d, r, e1, e2, rfl⟩
      · cases h'
    · next e1 => exact .inr ⟨e1, h'⟩
    · cases h'
  | z :: ys, i + 1, more, y, e, h => mapF_drop (ys := ys) (i := i) (by simpa using e) h
theorem mapF_of {f : Yd → Option D} : ∀ {ys : List Yd} {ds : List D}, mapO f ys = some ds → mapF (fun y => match f y with
    | some d => some (some d)
    | none => none) ys = some ds
  | [], ds, h => h
  | y :: ys, ds, h => by
    unfold mapO at h
    unfold mapF
    split at h
    · next d e1 =>
      split at h
      · next r e2 =>
        cases h
        simp only [e1, mapF_of e2]
      · cases h
    · cases h
/-- what a comprehension is to the loop's rule -/
def LcT (X : Cx) (O : List Addr) (σ : L2.St) (H : Hp) (elt tg iter : Expr) (ifs : List Expr) (scope : Scope) (own : List Nat) (ds : List D) : Prop :=
  ∃ (tt : TT) (ownp : List (Str × Nat)), (∀ (s : Shared) (H0 : Hp) (C : Addr) (cl : List (Str × Addr)) (fp : List Addr), PTs (X.blk s H0 scope (compEnvC scope cl C X.env) fp) ifs tt) ∧ BlkOk X.N X.env.scope scope ownp ∧ ownp.map (·.2) = own ∧ noSet iter = true ∧
    ∀ H1, Same H H1 → ∀ Q, Post X O H1 (.list ds) Q → tLc (wI X tg iter) (wGb X scope tg) tt (wEb X scope elt) own σ H1 Q
theorem LcT.hy {elt tg iter : Expr} {ifs : List Expr} {scope : Scope} {own : List Nat} {ds : List D} {pos : Pos} (hc : X.calm = true) (nd : X.N.Nodup) (L : LcT X O σ H elt tg iter ifs scope own ds) : Hy X O σ H (.ListComp elt [⟨tg, iter, ifs, 0⟩] scope pos) (.list ds) := fun H1 e Q q => by
  obtain ⟨tt, ownp, pts, ok, eo, ns, go⟩ := L
  have h := go H1 e Q q
  rw [← eo] at h
  exact wE_of (pe_lc (own := ownp) (g := wGb X scope tg) (te := wEb X scope elt) hc nd wI_ok ok (fun s H0 C cl fp => ⟨fun pins s1 σ H v u Q I r h => h s H0 C cl fp pins s1 u I r⟩) pts (fun s H0 C cl fp => ⟨fun pins s1 σ H Q I h => h s H0 C cl fp pins s1 I⟩) (fold_of ns)) h
theorem LcT.set {elt tg iter : Expr} {ifs : List Expr} {scope : Scope} {own : List Nat} {ds : List D} {pos py spos : Pos} {i : Nat} {y : Str} (hc : X.calm = true) (nd : X.N.Nodup) (L : LcT X O σ H elt tg iter ifs scope own ds) (hy : X.N[i]? = some y) (hyl : X.env.scope.names.lookup y = some .local)
    (hsw : swapsWith (.ListComp elt [⟨tg, iter, ifs, 0⟩] scope pos) (some (.Name y py)) spos.line X.env = pure true) :
    ∃ t : TE, PS X (.Assign [.Name y py] (.ListComp elt [⟨tg, iter, ifs, 0⟩] scope pos) spos) (tAsg t (gName i)) ∧ ∀ H1, Same H H1 → ∀ Q, Post X O H1 (.list ds) Q → t σ H1 Q := by
  obtain ⟨tt, ownp, pts, ok, eo, ns, go⟩ := L
  rw [← eo] at go
  exact ⟨_, ps_setLc (own := ownp) (g := wGb X scope tg) (te := wEb X scope elt) hc nd hy hyl hsw wI_ok ok (fun s H0 C cl fp => ⟨fun pins s1 σ H v u Q I r h => h s H0 C cl fp pins s1 u I r⟩) pts (fun s H0 C cl fp => ⟨fun pins s1 σ H Q I h => h s H0 C cl fp pins s1 I⟩) (fold_of ns), go⟩
theorem lcT_G {elt tg iter : Expr} {ifs : List Expr} {scope : Scope} {own : List Nat} {ownp : List (Str × Nat)} {ys : List Yd} {tt : TT} {f : Yd → Option (Option D)} {ds : List D} (hc : X.calm = true) (nd : X.N.Nodup) (t : Trk O H)
    (hi : HyI X O σ H tg iter ys) (ok : BlkOk X.N X.env.scope scope ownp) (eo : ownp.map (·.2) = own) (ns : noSet iter = true) (hf : mapF f ys = some ds) (hl : ys.length < 10000)
    (pts : ∀ (s : Shared) (H0 : Hp) (C : Addr) (cl : List (Str × Addr)) (fp : List Addr), PTs (X.blk s H0 scope (compEnvC scope cl C X.env) fp) ifs tt)
    (turn : ∀ y r, f y = some r → ∀ O' G H0 H' v, Le O H O' H0 → Same G (hide O' H0) → YH X.prog X.w G y H0 v H' → ∀ (Q2 : VK) (Qn : Hp → Prop), (match r with
        | some d => ∀ w H2, Same H0 H2 → Rp X O' H2 d w → Q2 w H2
        | none => ∀ H2, Same H0 H2 → Qn H2) →
      wGb X scope tg v (wipe σ own) H' fun σ2 H2 => wipe σ2 own = wipe σ own ∧ tt σ2 H2 fun b H3 => if b = true then wEb X scope elt σ2 H3 Q2 else Qn H3) :
    LcT X O σ H elt tg iter ifs scope own ds := ⟨tt, ownp, pts, ok, eo, ns, fun H1 e Q q => by
  refine hi H1 e _ fun H2 e2 D hD => ?_
  have t2 : Trk O H2 := t.mono (e.trans e2)
  have dO : D ∉ O := t2.new hD
  have le0 : ∀ {H3 : Hp}, Same H2 H3 → H3 D ≠ none → Le O H (D :: O) H3 := fun {H3} sm h3 => by
    refine ⟨(e.trans e2).trans sm, fun a ob z => ?_, fun a ha => List.mem_cons_of_mem _ ha, fun a ha => ?_⟩
    · obtain ⟨z1, z2⟩ := hide_some z
      have z3 := (e.trans e2) a ob z1
      have ne : a ≠ D := ne_of_none z3 hD
      exact hide_of (sm a ob z3) fun m => (List.mem_cons.mp m).elim ne z2
    · rcases List.mem_cons.mp ha with z | ha
      · rw [z]; exact h3
      · exact (t2.mono sm) a ha
  refine ⟨fun i m H3 => m = ys.length - i ∧ i ≤ ys.length ∧ Same H2 H3 ∧ ∃ zs more acc, ds = zs ++ more ∧ mapF f (ys.drop i) = some more ∧ H3 D = some (.lst acc) ∧ RepL X.prog X.w (hide (D :: O) H3) zs acc ∧ acc.length ≤ i,
    ⟨ys.length, rfl, Nat.zero_le _, same_new hD, [], ds, [], rfl, hf, upd_same, .nil, Nat.le_refl _⟩, fun i m H3 hw => ?_⟩
  obtain ⟨rfl, hi2, sm, zs, more, acc, eds, hm, hacc, racc, lacc⟩ := hw
  have sg : Same (hide O H2) H3 := fun a ob z => sm a ob (hide_some z).1
  by_cases hlt : i < ys.length
  · refine .inr ⟨⟨sg, hlt⟩, fun H4 => Same H2 H4 ∧ ∃ zs more acc, ds = zs ++ more ∧ mapF f (ys.drop (i + 1)) = some more ∧ H4 D = some (.lst acc) ∧ RepL X.prog X.w (hide (D :: O) H4) zs acc ∧ acc.length ≤ i + 1, fun H4 h4 => ⟨ys.length - (i + 1), by omega, rfl, hlt, h4⟩, fun x H4 yl => ?_⟩
    obtain ⟨y, ey, yh⟩ := yl
    have le3 := le0 sm (by rw [hacc]; exact fun z => by cases z)
    have sg3 : Same (hide O H2) (hide (D :: O) H3) := fun a ob z => by
      obtain ⟨z1, z2⟩ := hide_some z
      have ne : a ≠ D := ne_of_none z1 hD
      exact hide_of (sm a ob z1) fun m => (List.mem_cons.mp m).elim ne z2
    rcases mapF_drop ey hm with ⟨d, r, fd, hr, em⟩ | ⟨fn, hr⟩
    · refine turn y (some d) fd (D :: O) _ H3 H4 x le3 sg3 yh _ _ fun w H5 e5 rw5 => ?_
      have hD5 := e5 D _ hacc
      refine ⟨acc, hD5, ?_, ?_⟩
      · have := sizeLine_eq
        omega
      · refine ⟨fun a ob z => ?_, zs ++ [d], r, acc ++ [w], by rw [eds, em]; simp, hr, upd_same, ?_, by rw [List.length_append]; exact Nat.succ_le_succ lacc⟩
        · have ne : a ≠ D := ne_of_none z hD
          rw [upd_ne ne]
          exact e5 a ob (sm a ob z)
        · have up : Same (hide (D :: O) H5) (hide (D :: O) (upd H5 D (.lst (acc ++ [w])))) := fun a ob z => by
            obtain ⟨z1, z2⟩ := hide_some z
            exact hide_of (by rw [upd_ne (fun e => z2 (by rw [e]; exact List.mem_cons_self))]; exact z1) z2
          exact (((racc.mono (same_hide e5)).mono up).app (.cons (rw5.mono up) .nil))
    · refine turn y none fn (D :: O) _ H3 H4 x le3 sg3 yh (fun w H5 => ∃ acc, H5 D = some (.lst acc) ∧ acc.length < sizeLine ∧ Same H2 (upd H5 D (.lst (acc ++ [w]))) ∧ ∃ zs more acc', ds = zs ++ more ∧ mapF f (ys.drop (i + 1)) = some more ∧ (upd H5 D (.lst (acc ++ [w]))) D = some (.lst acc') ∧ RepL X.prog X.w (hide (D :: O) (upd H5 D (.lst (acc ++ [w])))) zs acc' ∧ acc'.length ≤ i + 1)
        (fun H5 => Same H2 H5 ∧ ∃ zs more acc, ds = zs ++ more ∧ mapF f (ys.drop (i + 1)) = some more ∧ H5 D = some (.lst acc) ∧ RepL X.prog X.w (hide (D :: O) H5) zs acc ∧ acc.length ≤ i + 1) fun H5 e5 => ⟨sm.trans e5, zs, more, acc, eds, hr, e5 D _ hacc, racc.mono (same_hide e5), Nat.le_succ_of_le lacc⟩
  · have e3 : i = ys.length := by omega
    subst e3
    rw [List.drop_length] at hm
    cases hm
    rw [List.append_nil] at eds
    subst eds
    exact .inl ⟨⟨sg, rfl⟩, q _ H3 (e2.trans sm) (.lst (hide_of hacc dO) (racc.mono (hide_sub fun a ha => List.mem_cons_of_mem _ ha)))⟩⟩
/-- without a test -/
theorem lcT {elt tg iter : Expr} {scope : Scope} {own : List Nat} {ownp : List (Str × Nat)} {ys : List Yd} {f : Yd → Option D} {ds : List D} (hc : X.calm = true) (nd : X.N.Nodup) (t : Trk O H)
    (hi : HyI X O σ H tg iter ys) (ok : BlkOk X.N X.env.scope scope ownp) (eo : ownp.map (·.2) = own) (ns : noSet iter = true) (hf : mapO f ys = some ds) (hl : ys.length < 10000)
    (turn : ∀ y d, f y = some d → ∀ O' G H0 H' v, Le O H O' H0 → Same G (hide O' H0) → YH X.prog X.w G y H0 v H' → ∀ (Q2 : VK), (∀ w H2, Same H0 H2 → Rp X O' H2 d w → Q2 w H2) →
      wGb X scope tg v (wipe σ own) H' fun σ2 H2 => wipe σ2 own = wipe σ own ∧ wEb X scope elt σ2 H2 Q2) :
    LcT X O σ H elt tg iter [] scope own ds :=
  lcT_G (tt := tYes) hc nd t hi ok eo ns (mapF_of hf) hl (fun s H0 C cl fp => pts_nil) fun y r hr O' G H0 H' v le sg yh Q2 Qn hq => by
    cases e : f y with
    | none => rw [e] at hr; cases hr
    | some d =>
      rw [e] at hr
      cases hr
      exact turn y d e O' G H0 H' v le sg yh Q2 hq
/-- with a test -/
theorem lciT {elt cnd tg iter : Expr} {scope : Scope} {own : List Nat} {ownp : List (Str × Nat)} {ys : List Yd} {f : Yd → Option (Option D)} {ds : List D} (hc : X.calm = true) (nd : X.N.Nodup) (t : Trk O H)
    (hi : HyI X O σ H tg iter ys) (ok : BlkOk X.N X.env.scope scope ownp) (eo : ownp.map (·.2) = own) (ns : noSet iter = true) (hf : mapF f ys = some ds) (hl : ys.length < 10000)
    (turn : ∀ y r, f y = some r → ∀ O' G H0 H' v, Le O H O' H0 → Same G (hide O' H0) → YH X.prog X.w G y H0 v H' → ∀ (Q2 : VK) (Qn : Hp → Prop), (match r with
        | some d => ∀ w H2, Same H0 H2 → Rp X O' H2 d w → Q2 w H2
        | none => ∀ H2, Same H0 H2 → Qn H2) →
      wGb X scope tg v (wipe σ own) H' fun σ2 H2 => wipe σ2 own = wipe σ own ∧ wTb X scope cnd σ2 H2 fun b H3 => if b = true then wEb X scope elt σ2 H3 Q2 else Qn H3) :
    LcT X O σ H elt tg iter [cnd] scope own ds :=
  lcT_G (tt := wTb X scope cnd) hc nd t hi ok eo ns hf hl (fun s H0 C cl fp => pts_one ⟨fun pins s1 σ H Q I h => h s H0 C cl fp pins s1 I⟩) turn
end
end Sq
end

section
set_option Elab.async false
set_option linter.all false
set_option maxRecDepth 100000
set_option maxHeartbeats 4000000
/-! operations of the fragment against the text: one step each -/
namespace Sq
open PySem L2 PyProof.Rows C8

def biL : List String := ["len", "all", "any", "tuple", "int", "sum", "min", "max", "abs", "sorted", "dict", "isinstance", "bool", "str", "range", "list", "set", "enumerate", "zip"]
/-- the promise of a def -/
def spG (P : Program) (w : World) (cl : Nat → List D → Option D) (g : Nat) : Sp := fun vs H Q _ => ∃ ds d O, RepL P w (hide O H) ds vs ∧ Trk O H ∧ cl g ds = some d ∧ ∀ v H', Same H H' → Rep P w (hide O H') d v → Q v H'
structure Ctx (n : Nat) (gcN : List Str) (nm : Nat → Option Str) (gcv : Nat → Option Int) (cl : Nat → List D → Option D) (X : Cx) (ws : Scope) : Prop extends Nm X ws where
  room : Room n X.A
  bi : ∀ b : String, b ∈ biL → X.mg (Str.ofString b) = none
  con : ∀ i k x, gcv i = some k → gcN[i]? = some x → ∃ t, X.mg x = some (.int k t)
  fn : ∀ g f, nm g = some f → ∃ k, k ≤ n ∧ Cal X.prog X.w X.K X.mg X.base k f (spG X.prog X.w cl g) []
  dbg : ∀ x, x ∈ X.N → (x == ("__debug__" : Str)) = false ∧ (x == ("__classdict__" : Str)) = false
theorem Ctx.blk {n : Nat} {gcN : List Str} {nm : Nat → Option Str} {gcv : Nat → Option Int} {cl : Nat → List D → Option D} {X : Cx} {ws : Scope} (C : Ctx n gcN nm gcv cl X ws) (s : Shared) (H0 : Hp) (scope : Scope) (a : Addr) (cells : List (Str × Addr)) (fp : List Addr) :
    Ctx n gcN nm gcv cl (X.blk s H0 scope (compEnvC scope cells a X.env) fp) scope where
  nd := C.nd
  calm := C.calm
  st := fun x _ h => by
    show (scope.names.lookup x == some NameKind.cell) = true
    rw [h]
    rfl
  room := C.room
  bi := C.bi
  con := C.con
  fn := C.fn
  dbg := C.dbg
section
variable {n : Nat} {gcN : List Str} {nm : Nat → Option Str} {gcv : Nat → Option Int} {cl : Nat → List D → Option D} {X : Cx} {ws : Scope} {O : List Addr} {σ : L2.St} {H : Hp} {x : Expr} {a b c : E} {da db dc d : D}
theorem ck_shp {N : List Str} {sc : Scope} {e : E} {x : Expr} (h : ckE N gcN nm sc e x = true) : shp x = true := by
  have no : ∀ {z : Expr}, dName z = none → dCon z = none → dUn z = none → dBin z = none → dBool z = none → dCmp z = none → dIf z = none → dTup z = none → dLst z = none → dDict z = none → (∀ f es, dCall z = some (f, es) → es = []) → dMeth z = none → dSub z = none → dLC z = none → ckE N gcN nm sc e z = false := by
    intro z h1 h2 h3 h4 h5 h6 h7 h8 h9 h10 h11 h12 h13 h14
    have hc : dCall z = none ∨ ∃ f, dCall z = some (f, []) := by
      cases e : dCall z with
      | none => exact .inl rfl
      | some p =>
        obtain ⟨f, es⟩ := p
        rw [h11 f es e]
        exact .inr ⟨f, rfl⟩
    cases e with
    | o1 o a => cases o <;> rcases hc with hc | ⟨f, hc⟩ <;> simp [ckE, h3, h6, h13, hc, bn1, bnI]
    | o2 o a b => cases o <;> rcases hc with hc | ⟨f, hc⟩ <;> simp [ckE, bin2, cmp2, h4, h6, h13, h12, hc]
    | o3 o a b c => cases o <;> rcases hc with hc | ⟨f, hc⟩ <;> simp [ckE, h13, h12, hc]
    | call g es => rcases hc with hc | ⟨f, hc⟩ <;> simp [ckE, hc]
    | _ => simp [ckE, h1, h2, h5, h6, h7, h8, h9, h10, h13, h12, h14]
  cases x with
  | Starred e p => rw [no (by rfl) (by rfl) (by rfl) (by rfl) (by rfl) (by rfl) (by rfl) (by rfl) (by rfl) (by rfl) (by intro f es h; cases h) (by rfl) (by rfl) (by rfl)] at h; cases h
  | Slice a b c p => rw [no (by rfl) (by rfl) (by rfl) (by rfl) (by rfl) (by rfl) (by rfl) (by rfl) (by rfl) (by rfl) (by intro f es h; cases h) (by rfl) (by rfl) (by rfl)] at h; cases h
  | Call f args kws p =>
    cases f with
    | Name y q =>
      cases args with
      | cons _ _ => cases kws <;> rfl
      | nil =>
        cases kws with
        | cons _ _ => rfl
        | nil => rw [no (by rfl) (by rfl) (by rfl) (by rfl) (by rfl) (by rfl) (by rfl) (by rfl) (by rfl) (by rfl) (by intro f es h; cases h; rfl) (by rfl) (by rfl) (by rfl)] at h; cases h
    | _ => rfl
  | _ => rfl
theorem ck_star {N : List Str} {sc : Scope} {e : E} {x : Expr} (h : ckE N gcN nm sc e x = true) : noStar x = true := shp_star (ck_shp h)
theorem ckL_star {N : List Str} {sc : Scope} : ∀ {es : EL} {xs : List Expr}, ckL N gcN nm sc es xs = true → xs.all noStar = true
  | _, [], _ => rfl
  | .cons e es, x :: xs, h => by
    rw [ckL, Bool.and_eq_true] at h
    rw [List.all_cons, ck_star h.1, ckL_star h.2]
    rfl
  | .nil, x :: xs, h => by simp [ckL] at h
theorem Ctx.isb (C : Ctx n gcN nm gcv cl X ws) {f : Str} {s : String} (h : isB X.env.scope f s = true) (hm : s ∈ biL) : f = Str.ofString s ∧ Gl X (Str.ofString s) ∧ X.mg (Str.ofString s) = none := by
  unfold isB at h
  rw [Bool.and_eq_true] at h
  have e : f = Str.ofString s := by simpa using h.1
  subst e
  exact ⟨rfl, (glB_ok h.2).1, C.bi s hm⟩
/-- f(e), f a built-in name -/
theorem ck_c1 {N : List Str} {sc : Scope} {s : String} {e : E} {x : Expr} (h : (match dCall x with
    | some (f, [y]) => isB sc f s && ckE N gcN nm sc e y
    | _ => false) = true) : ∃ f p q y, x = .Call (.Name f p) [y] [] q ∧ isB sc f s = true ∧ ckE N gcN nm sc e y = true := by
  split at h
  · next f y e1 =>
    obtain ⟨p, q, rfl⟩ := dCall_eq e1
    rw [Bool.and_eq_true] at h
    exact ⟨f, p, q, y, rfl, h.1, h.2⟩
  · cases h
theorem ck_none {y : Expr} (h : (match dCon y with
    | some .none => true
    | _ => false) = true) : ∃ k p, y = .Constant .none k p := by
  split at h
  · next e => exact dCon_eq e
  · cases h
theorem repL1 {G : Hp} {vs : List V} (r : RepL X.prog X.w G [da] vs) : ∃ v, vs = [v] ∧ Rep X.prog X.w G da v := by
  cases r with
  | cons r1 r2 =>
    cases r2
    exact ⟨_, rfl, r1⟩
theorem repL2 {G : Hp} {vs : List V} (r : RepL X.prog X.w G [da, db] vs) : ∃ v u, vs = [v, u] ∧ Rep X.prog X.w G da v ∧ Rep X.prog X.w G db u := by
  cases r with
  | cons r1 r2 =>
    cases r2 with
    | cons r2 r3 =>
      cases r3
      exact ⟨_, _, rfl, r1, r2⟩
theorem b_fn1 {id : String} {s : String} {y : Expr} {p q : Pos} (g : Gl X (Str.ofString s)) (m : X.mg (Str.ofString s) = none) (hv : bootBuiltins (Str.ofString s) = some (.builtin id)) (hn : Str.ofString s ≠ "__name__") (hdb : ((Str.ofString s) == ("__debug__" : Str)) = false)
    (hy : Hy X O σ H y da) (st : noStar y = true) (hc : ∀ H1 v Q, Same H H1 → Rp X O H1 da v → Post X O H1 d Q → wC X (.builtin id) [v] H1 Q) : Hy X O σ H (.Call (.Name (Str.ofString s) p) [y] [] q) d :=
  hy_fn (hyl_cons hy hyl_nil st) (fun H1 vs Q e r q => by
    obtain ⟨v, rfl, r1⟩ := repL1 r
    exact hc H1 v Q e r1 q) g m hv hn hdb st rfl
theorem b_ty1 {T : String} {s : String} {y : Expr} {p q : Pos} (g : Gl X (Str.ofString s)) (m : X.mg (Str.ofString s) = none) (hv : bootBuiltins (Str.ofString s) = some (.type T)) (hn : Str.ofString s ≠ "__name__") (hdb : ((Str.ofString s) == ("__debug__" : Str)) = false)
    (hy : Hy X O σ H y da) (st : noStar y = true) (hc : ∀ H1 v Q, Same H H1 → Rp X O H1 da v → Post X O H1 d Q → wC X (.type T) [v] H1 Q) : Hy X O σ H (.Call (.Name (Str.ofString s) p) [y] [] q) d :=
  hy_ty (hyl_cons hy hyl_nil st) (fun H1 vs Q e r q => by
    obtain ⟨v, rfl, r1⟩ := repL1 r
    exact hc H1 v Q e r1 q) g m hv hn hdb st rfl
theorem snd_o1 (C : Ctx n gcN nm gcv cl X ws) {o : O1} (t : Trk O H) (ck : ckE X.N gcN nm X.env.scope (.o1 o a) x = true) (iha : ∀ y, ckE X.N gcN nm X.env.scope a y = true → Hy X O σ H y da) (h : op1 o da = some d) : Hy X O σ H x d := by
  have fn : ∀ {s id : String}, bootBuiltins (Str.ofString s) = some (.builtin id) → Str.ofString s ≠ "__name__" → ((Str.ofString s) == ("__debug__" : Str)) = false → s ∈ biL → (match dCall x with
      | some (f, [y]) => isB X.env.scope f s && ckE X.N gcN nm X.env.scope a y
      | _ => false) = true → (∀ H1 v Q, Same H H1 → Rp X O H1 da v → Post X O H1 d Q → wC X (.builtin id) [v] H1 Q) → Hy X O σ H x d := fun hv hn hdb hm kk hc => by
    obtain ⟨f, p, q, y, rfl, k1, k2⟩ := ck_c1 kk
    obtain ⟨rfl, g, m⟩ := C.isb k1 hm
    exact b_fn1 g m hv hn hdb (iha y k2) (ck_star k2) hc
  have ty : ∀ {s T : String}, bootBuiltins (Str.ofString s) = some (.type T) → Str.ofString s ≠ "__name__" → ((Str.ofString s) == ("__debug__" : Str)) = false → s ∈ biL → (match dCall x with
      | some (f, [y]) => isB X.env.scope f s && ckE X.N gcN nm X.env.scope a y
      | _ => false) = true → (∀ H1 v Q, Same H H1 → Rp X O H1 da v → Post X O H1 d Q → wC X (.type T) [v] H1 Q) → Hy X O σ H x d := fun hv hn hdb hm kk hc => by
    obtain ⟨f, p, q, y, rfl, k1, k2⟩ := ck_c1 kk
    obtain ⟨rfl, g, m⟩ := C.isb k1 hm
    exact b_ty1 g m hv hn hdb (iha y k2) (ck_star k2) hc
  have isi : ∀ {T : String}, bnI o = some T → T ∈ biL → bootBuiltins (Str.ofString T) = some (.type T) → Str.ofString T ≠ "__name__" → ((Str.ofString T) == ("__debug__" : Str)) = false → (match dCall x with
          | some (f, [y, z]) => isB X.env.scope f "isinstance" && (match dName z with
            | some t => isB X.env.scope t T
            | none => false) && ckE X.N gcN nm X.env.scope a y
          | _ => false) = true → Hy X O σ H x d := fun {T} hT hm hv hn hdb kk => by
    split at kk
    · next f y z e1 =>
      obtain ⟨p, q, rfl⟩ := dCall_eq e1
      rw [Bool.and_eq_true, Bool.and_eq_true] at kk
      obtain ⟨⟨k1, k2⟩, k3⟩ := kk
      obtain ⟨rfl, g, m⟩ := C.isb k1 (by decide)
      split at k2
      · next tn e2 =>
        obtain ⟨pz, rfl⟩ := dName_eq e2
        obtain ⟨rfl, g2, m2⟩ := C.isb k2 hm
        have hz : ∀ H1, Same H H1 → ∀ Q : VK, Q (.ty T) H1 → wE X (.Name (Str.ofString T) pz) σ H1 Q := fun H1 e Q q => wE_of (pe_bltn (v := .ty T) g2 m2 hv rfl hn hdb) q
        refine fun H1 e Q q => wE_of (pe_callB (id := "isinstance") wC_ok g m (by decide +kernel) (pa_cons wE_ok (pa_cons (wE_ok (X := X) (e := .Name (Str.ofString T) pz)) pa_nil rfl) (star_of (ck_star k3))) (by decide) (by decide) (star_of (ck_star k3)) (any_of (es := [.Name (Str.ofString T) pz]) rfl)) ?_
        refine iha y k3 H1 e _ fun v H2 e2 r => hz H2 (e.trans e2) _ ?_
        exact o1_isi hT h r (q.mono e2)
      · cases k2
    · cases kk
  have hr := C.room
  have hc := C.calm
  cases o with
  | neg =>
    unfold ckE at ck
    simp only at ck
    split at ck
    · next y e1 =>
      obtain ⟨p, rfl⟩ := dUn_eq e1
      unfold op1 at h
      simp only at h
      split at h
      · cases h
        exact hy_neg (iha y ck)
      · cases h
    · cases ck
  | not =>
    unfold ckE at ck
    simp only at ck
    split at ck
    · next y e1 =>
      obtain ⟨p, rfl⟩ := dUn_eq e1
      unfold op1 at h
      simp only at h
      split at h
      · cases h
        exact hy_not (iha y ck)
      · cases h
    · cases ck
  | isN =>
    unfold ckE at ck
    simp only at ck
    split at ck
    · next y z e1 =>
      obtain ⟨p, rfl⟩ := dCmp_eq e1
      rw [Bool.and_eq_true] at ck
      obtain ⟨k, p2, rfl⟩ := ck_none ck.1
      have e : d = .bool (isNon da) := by
        unfold op1 at h
        simp only at h
        split at h
        · cases h; rfl
        · next hn =>
          cases h
          cases da <;> first | rfl | exact absurd rfl hn
      rw [e]
      exact hy_isN (iha y ck.2)
    · cases ck
  | notN =>
    unfold ckE at ck
    simp only at ck
    split at ck
    · next y z e1 =>
      obtain ⟨p, rfl⟩ := dCmp_eq e1
      rw [Bool.and_eq_true] at ck
      obtain ⟨k, p2, rfl⟩ := ck_none ck.1
      have e : d = .bool (!isNon da) := by
        unfold op1 at h
        simp only at h
        split at h
        · cases h; rfl
        · next hn =>
          cases h
          cases da <;> first | rfl | exact absurd rfl hn
      rw [e]
      exact hy_notN (iha y ck.2)
    · cases ck
  | len => exact fn (s := "len") (by decide +kernel) (by decide) (by decide) (by decide) ck fun H1 v Q e r q => o1_len h r q
  | isiI => exact isi (T := "int") rfl (by decide) (by decide +kernel) (by decide) (by decide) ck
  | isiB => exact isi (T := "bool") rfl (by decide) (by decide +kernel) (by decide) (by decide) ck
  | isiT => exact isi (T := "tuple") rfl (by decide) (by decide +kernel) (by decide) (by decide) ck
  | isiS => exact isi (T := "str") rfl (by decide) (by decide +kernel) (by decide) (by decide) ck
  | all => exact fn (s := "all") (by decide +kernel) (by decide) (by decide) (by decide) ck fun H1 v Q e r q => o1_all hc h r q
  | any => exact fn (s := "any") (by decide +kernel) (by decide) (by decide) (by decide) ck fun H1 v Q e r q => o1_any hc h r q
  | tup => exact ty (s := "tuple") (by decide +kernel) (by decide) (by decide) (by decide) ck fun H1 v Q e r q => o1_tup (t.mono e) h r q
  | tupRg =>
    have kk : (match dCall x with
      | some (f, [y]) => isB X.env.scope f "tuple" && (match dCall y with
        | some (g, [z]) => isB X.env.scope g "range" && ckE X.N gcN nm X.env.scope a z
        | _ => false)
      | _ => false) = true := ck
    clear ck
    split at kk
    · next f y e1 =>
      obtain ⟨p, q, rfl⟩ := dCall_eq e1
      rw [Bool.and_eq_true] at kk
      obtain ⟨k1, k2⟩ := kk
      obtain ⟨rfl, g1, m1⟩ := C.isb k1 (by decide)
      split at k2
      · next g z e2 =>
        obtain ⟨p2, q2, rfl⟩ := dCall_eq e2
        rw [Bool.and_eq_true] at k2
        obtain ⟨k3, k4⟩ := k2
        obtain ⟨rfl, g2, m2⟩ := C.isb k3 (by decide)
        exact hy_tupRg t hc g1 m1 g2 m2 h (iha z k4) (ck_star k4)
      · cases k2
    · cases kk
  | int => exact ty (s := "int") (by decide +kernel) (by decide) (by decide) (by decide) ck fun H1 v Q e r q => o1_int h r q
  | sum => exact fn (s := "sum") (by decide +kernel) (by decide) (by decide) (by decide) ck fun H1 v Q e r q => o1_sum hc h r q
  | min => exact fn (s := "min") (by decide +kernel) (by decide) (by decide) (by decide) ck fun H1 v Q e r q => o1_min hc h r q
  | max => exact fn (s := "max") (by decide +kernel) (by decide) (by decide) (by decide) ck fun H1 v Q e r q => o1_max hc h r q
  | abs => exact fn (s := "abs") (by decide +kernel) (by decide) (by decide) (by decide) ck fun H1 v Q e r q => o1_abs h r q
  | sorted => exact fn (s := "sorted") (by decide +kernel) (by decide) (by decide) (by decide) ck fun H1 v Q e r q => o1_sorted hc (t.mono e) hr h r q
  | dict => exact ty (s := "dict") (by decide +kernel) (by decide) (by decide) (by decide) ck fun H1 v Q e r q => o1_dict hc (t.mono e) hr h r q
  | lenSet =>
    have kk : (match dCall x with
      | some (f, [y]) => isB X.env.scope f "len" && (match dCall y with
        | some (g, [z]) => isB X.env.scope g "set" && ckE X.N gcN nm X.env.scope a z
        | _ => false)
      | _ => false) = true := ck
    clear ck
    split at kk
    · next f y e1 =>
      obtain ⟨p, q, rfl⟩ := dCall_eq e1
      rw [Bool.and_eq_true] at kk
      obtain ⟨k1, k2⟩ := kk
      obtain ⟨rfl, g1, m1⟩ := C.isb k1 (by decide)
      split at k2
      · next g z e2 =>
        obtain ⟨p2, q2, rfl⟩ := dCall_eq e2
        rw [Bool.and_eq_true] at k2
        obtain ⟨k3, k4⟩ := k2
        obtain ⟨rfl, g2, m2⟩ := C.isb k3 (by decide)
        exact hy_lenSet hc g1 m1 g2 m2 h (iha z k4) (ck_star k4)
      · cases k2
    · cases kk
  | sortedSet =>
    have kk : (match dCall x with
      | some (f, [y]) => isB X.env.scope f "sorted" && (match dCall y with
        | some (g, [z]) => isB X.env.scope g "set" && ckE X.N gcN nm X.env.scope a z
        | _ => false)
      | _ => false) = true := ck
    clear ck
    split at kk
    · next f y e1 =>
      obtain ⟨p, q, rfl⟩ := dCall_eq e1
      rw [Bool.and_eq_true] at kk
      obtain ⟨k1, k2⟩ := kk
      obtain ⟨rfl, g1, m1⟩ := C.isb k1 (by decide)
      split at k2
      · next g z e2 =>
        obtain ⟨p2, q2, rfl⟩ := dCall_eq e2
        rw [Bool.and_eq_true] at k2
        obtain ⟨k3, k4⟩ := k2
        obtain ⟨rfl, g2, m2⟩ := C.isb k3 (by decide)
        exact hy_sortedSet t hc g1 m1 g2 m2 h (iha z k4) (ck_star k4)
      · cases k2
    · cases kk
  | rev =>
    have kk : (match dSub x with
      | some (x, y) => (match dSli y with
        | some (none, none, some z) => (match dUn z with
          | some (.USub, c) => (match dCon c with
            | some (.int 1) => true
            | _ => false)
          | _ => false)
        | _ => false) && ckE X.N gcN nm X.env.scope a x
      | _ => false) = true := ck
    clear ck
    split at kk
    · next y z e1 =>
      obtain ⟨p, rfl⟩ := dSub_eq e1
      rw [Bool.and_eq_true] at kk
      obtain ⟨k1, k2⟩ := kk
      split at k1
      · next u e2 =>
        obtain ⟨p2, rfl⟩ := dSli_eq e2
        split at k1
        · next c e3 =>
          obtain ⟨p3, rfl⟩ := dUn_eq e3
          split at k1
          · next e4 =>
            obtain ⟨k, p4, rfl⟩ := dCon_eq e4
            unfold op1 at h
            simp only at h
            split at h
            · cases h
              exact hy_rev t (iha y k2)
            · cases h
          · cases k1
        · cases k1
      · cases k1
    · cases kk
end
end Sq
end

section
set_option Elab.async false
set_option linter.all false
set_option maxRecDepth 100000
set_option maxHeartbeats 4000000
/-! operations of the fragment against the text: two and three places, tests -/
namespace Sq
open PySem L2 PyProof.Rows C8

section
variable {n : Nat} {gcN : List Str} {nm : Nat → Option Str} {gcv : Nat → Option Int} {cl : Nat → List D → Option D} {X : Cx} {ws : Scope} {O : List Addr} {σ : L2.St} {H : Hp} {x : Expr} {a b c : E} {da db dc d : D}
theorem cmp_ok (C : Ctx n gcN nm gcv cl X ws) {o : O2} {p : CmpOp} (hp : cmp2 o = some p) (h : op2 o da db = some d) : CmpS X O p da db d := by
  have hu := C.room.units
  cases o with
  | eq =>
    cases hp
    exact fun H1 u v Q ru rv q => o2_eq hu h ru rv q
  | ne =>
    cases hp
    exact fun H1 u v Q ru rv q => o2_ne hu h ru rv q
  | lt =>
    cases hp
    exact fun H1 u v Q ru rv q => o2_lt h ru rv q
  | le =>
    cases hp
    exact fun H1 u v Q ru rv q => o2_le h ru rv q
  | gt =>
    cases hp
    exact fun H1 u v Q ru rv q => o2_gt h ru rv q
  | ge =>
    cases hp
    exact fun H1 u v Q ru rv q => o2_ge h ru rv q
  | isin =>
    cases hp
    unfold op2 at h
    simp only at h
    split at h
    · next r e =>
      cases h
      exact fun H1 u v Q ru rv q => o2_in C.room false e ru rv q
    · cases h
  | notin =>
    cases hp
    unfold op2 at h
    simp only at h
    split at h
    · next r e =>
      cases h
      exact fun H1 u v Q ru rv q => o2_in C.room true e ru rv q
    · cases h
  | _ => cases hp
/-- the shape of a comparison -/
theorem ck_cmp {N : List Str} {sc : Scope} {o : O2} {p : CmpOp} (hp : cmp2 o = some p) (ck : ckE N gcN nm sc (.o2 o a b) x = true) : ∃ y z pos, x = .Compare y [p] [z] pos ∧ noSet z = true ∧ ckE N gcN nm sc a y = true ∧ ckE N gcN nm sc b z = true := by
  have kk : (match dCmp x with
        | some (x, [q], [y]) => decide (p = q) && noSet y && ckE N gcN nm sc a x && ckE N gcN nm sc b y
        | _ => false) = true := by
    cases o <;> first | cases hp | skip
    all_goals exact ck
  clear ck
  split at kk
  · next y q z e1 =>
    obtain ⟨pos, rfl⟩ := dCmp_eq e1
    simp only [Bool.and_eq_true, decide_eq_true_eq] at kk
    obtain ⟨⟨⟨rfl, k2⟩, k3⟩, k4⟩ := kk
    exact ⟨y, z, pos, rfl, k2, k3, k4⟩
  · cases kk
theorem ck_bin {N : List Str} {sc : Scope} {o : O2} {p : Operator} (hp : bin2 o = some p) (ck : ckE N gcN nm sc (.o2 o a b) x = true) : ∃ y z pos, x = .BinOp y p z pos ∧ ckE N gcN nm sc a y = true ∧ ckE N gcN nm sc b z = true := by
  have kk : (match dBin x with
      | some (x, q, y) => decide (p = q) && ckE N gcN nm sc a x && ckE N gcN nm sc b y
      | none => false) = true := by
    cases o <;> first | cases hp | skip
    all_goals exact ck
  clear ck
  split at kk
  · next y q z e1 =>
    obtain ⟨pos, rfl⟩ := dBin_eq e1
    simp only [Bool.and_eq_true, decide_eq_true_eq] at kk
    obtain ⟨⟨rfl, k3⟩, k4⟩ := kk
    exact ⟨y, z, pos, rfl, k3, k4⟩
  · cases kk
theorem snd_o2 (C : Ctx n gcN nm gcv cl X ws) {o : O2} (t : Trk O H) (ck : ckE X.N gcN nm X.env.scope (.o2 o a b) x = true) (iha : ∀ y, ckE X.N gcN nm X.env.scope a y = true → Hy X O σ H y da) (ihb : ∀ y, ckE X.N gcN nm X.env.scope b y = true → Hy X O σ H y db)
    (h : op2 o da db = some d) : Hy X O σ H x d := by
  have hr := C.room
  have hc := C.calm
  have bin : ∀ {p : Operator}, bin2 o = some p → (∀ H1 u v Q, Trk O H1 → Rp X O H1 da u → Rp X O H1 db v → Post X O H1 d Q → wO X (binaryOp p) u v H1 Q) → Hy X O σ H x d := fun hp ho => by
    obtain ⟨y, z, pos, rfl, k1, k2⟩ := ck_bin hp ck
    exact hy_op t (iha y k1) (ihb z k2) ho
  have cmp : ∀ {p : CmpOp}, cmp2 o = some p → Hy X O σ H x d := fun hp => by
    obtain ⟨y, z, pos, rfl, k1, k2, k3⟩ := ck_cmp hp ck
    exact hy_cmp (iha y k2) (ihb z k3) (cmp_ok C hp h) k1
  cases o with
  | add => exact bin rfl fun H1 u v Q t1 ru rv q => o2_add t1 h ru rv q
  | sub => exact bin rfl fun H1 u v Q t1 ru rv q => o2_sub h ru rv q
  | mul => exact bin rfl fun H1 u v Q t1 ru rv q => o2_mul t1 h ru rv q
  | fdiv => exact bin rfl fun H1 u v Q t1 ru rv q => o2_fdiv h ru rv q
  | mod => exact bin rfl fun H1 u v Q t1 ru rv q => o2_mod h ru rv q
  | eq => exact cmp rfl
  | ne => exact cmp rfl
  | lt => exact cmp rfl
  | le => exact cmp rfl
  | gt => exact cmp rfl
  | ge => exact cmp rfl
  | isin => exact cmp rfl
  | notin => exact cmp rfl
  | ix =>
    have kk : (match dSub x with
          | some (x, y) => (match dSli y with
            | none => true
            | some _ => false) && ckE X.N gcN nm X.env.scope a x && ckE X.N gcN nm X.env.scope b y
          | none => false) = true := ck
    clear ck
    split at kk
    · next y z e1 =>
      obtain ⟨pos, rfl⟩ := dSub_eq e1
      simp only [Bool.and_eq_true] at kk
      obtain ⟨⟨k1, k2⟩, k3⟩ := kk
      exact hy_ix (iha y k2) (ihb z k3) (fun H1 u v Q ru rv q => o2_ix hr h ru rv q) (ck_shp k3)
    · cases kk
  | slTo =>
    have kk : (match dSub x with
          | some (x, y) => match dSli y with
            | some (none, some z, none) => ckE X.N gcN nm X.env.scope a x && ckE X.N gcN nm X.env.scope b z
            | _ => false
          | none => false) = true := ck
    clear ck
    split at kk
    · next y z e1 =>
      obtain ⟨pos, rfl⟩ := dSub_eq e1
      split at kk
      · next u e2 =>
        obtain ⟨p2, rfl⟩ := dSli_eq e2
        rw [Bool.and_eq_true] at kk
        obtain ⟨j, rfl⟩ := slTo_int h
        exact hy_slTo (iha y kk.1) (ihb u kk.2) fun H1 v Q e r q => o2_slTo (t.mono e) h r q
      · cases kk
    · cases kk
  | slFrom =>
    have kk : (match dSub x with
          | some (x, y) => match dSli y with
            | some (some z, none, none) => ckE X.N gcN nm X.env.scope a x && ckE X.N gcN nm X.env.scope b z
            | _ => false
          | none => false) = true := ck
    clear ck
    split at kk
    · next y z e1 =>
      obtain ⟨pos, rfl⟩ := dSub_eq e1
      split at kk
      · next u e2 =>
        obtain ⟨p2, rfl⟩ := dSli_eq e2
        rw [Bool.and_eq_true] at kk
        obtain ⟨j, rfl⟩ := slFrom_int h
        exact hy_slFrom (iha y kk.1) (ihb u kk.2) fun H1 v Q e r q => o2_slFrom (t.mono e) h r q
      · cases kk
    · cases kk
  | min =>
    have kk : (match dCall x with
          | some (f, [x, y]) => isB X.env.scope f "min" && ckE X.N gcN nm X.env.scope a x && ckE X.N gcN nm X.env.scope b y
          | _ => false) = true := ck
    clear ck
    split at kk
    · next f y z e1 =>
      obtain ⟨p, q, rfl⟩ := dCall_eq e1
      simp only [Bool.and_eq_true] at kk
      obtain ⟨⟨k1, k2⟩, k3⟩ := kk
      obtain ⟨rfl, g, m⟩ := C.isb k1 (by decide)
      refine hy_fn (id := "min") (hyl_cons (iha y k2) (hyl_cons (ihb z k3) hyl_nil (ck_star k3)) (ck_star k2)) (fun H1 vs Q e r q => ?_) g m (by decide +kernel) (by decide) (by decide) (ck_star k2) (by simp [ck_star k3])
      obtain ⟨v, u, rfl, r1, r2⟩ := repL2 r
      exact o2_min hc h r1 r2 q
    · cases kk
  | max =>
    have kk : (match dCall x with
          | some (f, [x, y]) => isB X.env.scope f "max" && ckE X.N gcN nm X.env.scope a x && ckE X.N gcN nm X.env.scope b y
          | _ => false) = true := ck
    clear ck
    split at kk
    · next f y z e1 =>
      obtain ⟨p, q, rfl⟩ := dCall_eq e1
      simp only [Bool.and_eq_true] at kk
      obtain ⟨⟨k1, k2⟩, k3⟩ := kk
      obtain ⟨rfl, g, m⟩ := C.isb k1 (by decide)
      refine hy_fn (id := "max") (hyl_cons (iha y k2) (hyl_cons (ihb z k3) hyl_nil (ck_star k3)) (ck_star k2)) (fun H1 vs Q e r q => ?_) g m (by decide +kernel) (by decide) (by decide) (ck_star k2) (by simp [ck_star k3])
      obtain ⟨v, u, rfl, r1, r2⟩ := repL2 r
      exact o2_max hc h r1 r2 q
    · cases kk
  | index =>
    have kk : (match dMeth x with
          | some (x, m, [y]) => (m == Str.ofString "index") && ckE X.N gcN nm X.env.scope a x && ckE X.N gcN nm X.env.scope b y
          | _ => false) = true := ck
    clear ck
    split at kk
    · next y m z e1 =>
      obtain ⟨ap, p, rfl, line⟩ := dMeth_eq e1
      simp only [Bool.and_eq_true, beq_iff_eq] at kk
      obtain ⟨⟨rfl, k2⟩, k3⟩ := kk
      have sz := ck_star k3
      refine fun H1 e Q q => wE_of (pe_mt (T := "tuple") (id := "tuple.index") PySem.F.plainAttrs_tuple PySem.F.slot_tuple_index rfl wE_ok (pa_cons wE_ok pa_nil (star_of sz)) (base_of (ck_shp k2)) ?_ (by simpa using line) (star_of sz) rfl) ?_
      · rw [star_of sz]
        rfl
      · refine iha y k2 H1 e _ fun u H2 e2 ru => ⟨?_, ihb z k3 H2 (e.trans e2) _ fun v H3 e3 rv => ?_⟩
        · unfold op2 at h
          simp only at h
          split at h
          · exact ty_tup ru
          · cases h
        · exact (o2_index h (ru.mono (same_hide e3)) rv (q.mono (e2.trans e3))).2
    · cases kk
theorem any2 {y z : Expr} {pos : Pos} {env : PySem.Env} (sy : noStar y = true) (sz : noStar z = true) : ((backTo pos (starEach [y, z] env)).all (fun x => !x.1) && (backToKw pos (keywordEach [] env)).all (fun x => x.1.isSome) && decide ([y, z].length + ([] : List Keyword).length + (if ([] : List Keyword).isEmpty then 0 else 1) < 30)) = true := by
  rw [star_of sy, star_of sz]
  rfl
theorem snd_get {y u w : Expr} {ap p : Pos} (C : Ctx n gcN nm gcv cl X ws) (line : ap.endLine = p.line) (sy : shp y = true) (su : noStar u = true) (sw : noStar w = true)
    (hy : ∀ H1, Same H H1 → ∀ Q, (∀ v H2, Same H1 H2 → (TyW X "dict" v H2 ∧ ∀ H3 b c Q3, Same H2 H3 → Rp X O H3 db b → Rp X O H3 dc c → Post X O H3 d Q3 → wM X "dict.get" v [b, c] H3 Q3) → Q v H2) → wE X y σ H1 Q) (hb : Hy X O σ H u db) (hc : Hy X O σ H w dc) :
    Hy X O σ H (.Call (.Attribute y (Str.ofString "get") ap) [u, w] [] p) d := fun H1 e Q q =>
  wE_of (pe_mt (T := "dict") (id := "dict.get") PySem.F.plainAttrs_dict PySem.F.slot_dict_get rfl wE_ok (pa_cons wE_ok (pa_cons wE_ok pa_nil (star_of sw)) (star_of su)) (base_of sy) (any2 su sw) (by simpa using line) (star_of su) (by rw [star_of sw]; rfl))
    (hy H1 e _ fun v H2 e2 ⟨ty, go⟩ => ⟨ty, hb H2 (e.trans e2) _ fun b H3 e3 rb => hc H3 (e.trans (e2.trans e3)) _ fun c H4 e4 rc => go H4 b c Q (e3.trans e4) (rb.mono (same_hide e4)) rc (q.mono (e2.trans (e3.trans e4)))⟩)
theorem snd_o3 (C : Ctx n gcN nm gcv cl X ws) {o : O3} (t : Trk O H) (ck : ckE X.N gcN nm X.env.scope (.o3 o a b c) x = true) (iha : ∀ y, ckE X.N gcN nm X.env.scope a y = true → Hy X O σ H y da) (ihb : ∀ y, ckE X.N gcN nm X.env.scope b y = true → Hy X O σ H y db)
    (ihc : ∀ y, ckE X.N gcN nm X.env.scope c y = true → Hy X O σ H y dc) (h : op3 o da db dc = some d) : Hy X O σ H x d := by
  have hr := C.room
  have hc := C.calm
  cases o with
  | slice =>
    have kk : (match dSub x with
      | some (x, y) => match dSli y with
        | some (some z, some u, none) => ckE X.N gcN nm X.env.scope a x && ckE X.N gcN nm X.env.scope b z && ckE X.N gcN nm X.env.scope c u
        | _ => false
      | none => false) = true := ck
    clear ck
    split at kk
    · next y z e1 =>
      obtain ⟨pos, rfl⟩ := dSub_eq e1
      split at kk
      · next u w e2 =>
        obtain ⟨p2, rfl⟩ := dSli_eq e2
        simp only [Bool.and_eq_true] at kk
        obtain ⟨⟨k1, k2⟩, k3⟩ := kk
        obtain ⟨i, j, rfl, rfl⟩ := slice_int h
        exact hy_slice (iha y k1) (ihb u k2) (ihc w k3) fun H1 v Q e r q => o3_slice (t.mono e) h r q
      · cases kk
    · cases kk
  | lstRg =>
    have kk : (match dCall x with
      | some (f, [y]) => isB X.env.scope f "list" && (match dCall y with
        | some (g, [x, z, u]) => isB X.env.scope g "range" && ckE X.N gcN nm X.env.scope a x && ckE X.N gcN nm X.env.scope b z && ckE X.N gcN nm X.env.scope c u
        | _ => false)
      | _ => false) = true := ck
    clear ck
    split at kk
    · next f y e1 =>
      obtain ⟨p, q, rfl⟩ := dCall_eq e1
      rw [Bool.and_eq_true] at kk
      obtain ⟨k1, k2⟩ := kk
      obtain ⟨rfl, g1, m1⟩ := C.isb k1 (by decide)
      split at k2
      · next g u v w e2 =>
        obtain ⟨p2, q2, rfl⟩ := dCall_eq e2
        simp only [Bool.and_eq_true] at k2
        obtain ⟨⟨⟨k3, k4⟩, k5⟩, k6⟩ := k2
        obtain ⟨rfl, g2, m2⟩ := C.isb k3 (by decide)
        exact hy_lstRg t hc g1 m1 g2 m2 h (iha u k4) (ihb v k5) (ihc w k6) (ck_star k4) (ck_star k5) (ck_star k6)
      · cases k2
    · cases kk
  | get =>
    have kk : (match dMeth x with
      | some (x, m, [y, z]) => (m == Str.ofString "get") && ckE X.N gcN nm X.env.scope a x && ckE X.N gcN nm X.env.scope b y && ckE X.N gcN nm X.env.scope c z
      | _ => false) = true := ck
    clear ck
    split at kk
    · next y m u w e1 =>
      obtain ⟨ap, p, rfl, line⟩ := dMeth_eq e1
      simp only [Bool.and_eq_true, beq_iff_eq] at kk
      obtain ⟨⟨⟨rfl, k2⟩, k3⟩, k4⟩ := kk
      exact snd_get C line (ck_shp k2) (ck_star k3) (ck_star k4) (fun H1 e Q hq => iha y k2 H1 e _ fun v H2 e2 r => hq v H2 e2 ⟨get_ty h r, fun H3 b c Q3 e3 rb rc q3 => o3_get hr h (r.mono (same_hide e3)) rb rc q3⟩) (ihb u k3) (ihc w k4)
    · cases kk
/-! ### tests -/
theorem o1_plain {o : O1} (ck : ckE X.N gcN nm X.env.scope (.o1 o a) x = true) (h1 : o ≠ .neg) (h2 : o ≠ .not) (h3 : o ≠ .isN) (h4 : o ≠ .notN) : plainT x = true := by
  cases x with
  | Name _ _ => rfl
  | Call _ _ _ _ => rfl
  | Subscript _ _ _ => rfl
  | _ =>
    exfalso
    cases o <;> first
      | exact h1 rfl
      | exact h2 rfl
      | exact h3 rfl
      | exact h4 rfl
      | simp [ckE, dCall, dSub, bn1, bnI] at ck
theorem o2_plain {o : O2} (ck : ckE X.N gcN nm X.env.scope (.o2 o a b) x = true) (h1 : bin2 o = none) (h2 : cmp2 o = none) : plainT x = true := by
  cases x with
  | Name _ _ => rfl
  | Call _ _ _ _ => rfl
  | Subscript _ _ _ => rfl
  | _ =>
    exfalso
    cases o <;> first
      | (simp [bin2] at h1; done)
      | (simp [cmp2] at h2; done)
      | (simp [ckE, bin2, cmp2, dCall, dSub, dMeth] at ck; done)
theorem o3_plain {o : O3} (ck : ckE X.N gcN nm X.env.scope (.o3 o a b c) x = true) : plainT x = true := by
  cases x with
  | Name _ _ => rfl
  | Call _ _ _ _ => rfl
  | Subscript _ _ _ => rfl
  | _ =>
    exfalso
    cases o <;> simp [ckE, dCall, dSub, dMeth] at ck
theorem snd_o1T (C : Ctx n gcN nm gcv cl X ws) {o : O1} {k : Bool} (t : Trk O H) (ts : tst (.o1 o a) = true) (ck : ckE X.N gcN nm X.env.scope (.o1 o a) x = true) (iha : ∀ y, ckE X.N gcN nm X.env.scope a y = true → Hy X O σ H y da)
    (ihT : tst a = true → ∀ m y, da = .bool m → ckE X.N gcN nm X.env.scope a y = true → HyT X O σ H y m) (h : op1 o da = some (.bool k)) : HyT X O σ H x k := by
  by_cases e1 : o = .neg
  · subst e1
    simp [tst] at ts
  by_cases e2 : o = .not
  · subst e2
    have kk : (match dUn x with
      | some (.Not, x) => ckE X.N gcN nm X.env.scope a x
      | _ => false) = true := ck
    clear ck
    split at kk
    · next y e1 =>
      obtain ⟨p, rfl⟩ := dUn_eq e1
      unfold op1 at h
      simp only at h
      split at h
      · cases h
        exact hyt_not (ihT ts _ y rfl kk)
      · cases h
    · cases kk
  by_cases e3 : o = .isN
  · subst e3
    have kk : (match dCmp x with
      | some (x, [.Is], [y]) => (match dCon y with
        | some .none => true
        | _ => false) && ckE X.N gcN nm X.env.scope a x
      | _ => false) = true := ck
    clear ck
    split at kk
    · next y z e1 =>
      obtain ⟨p, rfl⟩ := dCmp_eq e1
      rw [Bool.and_eq_true] at kk
      obtain ⟨j, p2, rfl⟩ := ck_none kk.1
      have e : k = isNon da := by
        unfold op1 at h
        simp only at h
        split at h
        · cases h; rfl
        · next hn =>
          cases h
          cases da <;> first | rfl | exact absurd rfl hn
      rw [e]
      exact hyt_isN (iha y kk.2)
    · cases kk
  by_cases e4 : o = .notN
  · subst e4
    have kk : (match dCmp x with
      | some (x, [.IsNot], [y]) => (match dCon y with
        | some .none => true
        | _ => false) && ckE X.N gcN nm X.env.scope a x
      | _ => false) = true := ck
    clear ck
    split at kk
    · next y z e1 =>
      obtain ⟨p, rfl⟩ := dCmp_eq e1
      rw [Bool.and_eq_true] at kk
      obtain ⟨j, p2, rfl⟩ := ck_none kk.1
      have e : k = !isNon da := by
        unfold op1 at h
        simp only at h
        split at h
        · cases h; rfl
        · next hn =>
          cases h
          cases da <;> first | rfl | exact absurd rfl hn
      rw [e]
      exact hyt_notN (iha y kk.2)
    · cases kk
  exact hyt_val (snd_o1 C t ck iha h) (o1_plain ck e1 e2 e3 e4)
theorem snd_o2T (C : Ctx n gcN nm gcv cl X ws) {o : O2} {k : Bool} (t : Trk O H) (ts : tst (.o2 o a b) = true) (ck : ckE X.N gcN nm X.env.scope (.o2 o a b) x = true) (iha : ∀ y, ckE X.N gcN nm X.env.scope a y = true → Hy X O σ H y da) (ihb : ∀ y, ckE X.N gcN nm X.env.scope b y = true → Hy X O σ H y db)
    (h : op2 o da db = some (.bool k)) : HyT X O σ H x k := by
  cases hb : bin2 o with
  | some p => simp [tst, hb] at ts
  | none =>
    cases hc : cmp2 o with
    | some p =>
      obtain ⟨y, z, pos, rfl, k1, k2, k3⟩ := ck_cmp hc ck
      exact hyt_cmp (iha y k2) (ihb z k3) (cmp_ok C hc h) k1
    | none => exact hyt_val (snd_o2 C t ck iha ihb h) (o2_plain ck hb hc)
theorem snd_o3T (C : Ctx n gcN nm gcv cl X ws) {o : O3} {k : Bool} (t : Trk O H) (ck : ckE X.N gcN nm X.env.scope (.o3 o a b c) x = true) (iha : ∀ y, ckE X.N gcN nm X.env.scope a y = true → Hy X O σ H y da) (ihb : ∀ y, ckE X.N gcN nm X.env.scope b y = true → Hy X O σ H y db)
    (ihc : ∀ y, ckE X.N gcN nm X.env.scope c y = true → Hy X O σ H y dc) (h : op3 o da db dc = some (.bool k)) : HyT X O σ H x k := hyt_val (snd_o3 C t ck iha ihb ihc h) (o3_plain ck)
end
end Sq
end

section
set_option Elab.async false
set_option linter.all false
set_option maxRecDepth 100000
set_option maxHeartbeats 4000000
/-! expressions of the fragment, by data -/
namespace Sq
open PySem L2 PyProof.Rows C8

section
variable {n : Nat} {gcN : List Str} {nm : Nat → Option Str} {gcv : Nat → Option Int} {cl : Nat → List D → Option D} {X : Cx} {ws : Scope} {O : List Addr} {σ : L2.St} {H : Hp} {x : Expr} {a b c : E} {da db dc d : D} {env : Env}
theorem OwnR.same {p : Addr} (t : Trk O H) (h : OwnR X.prog X.w O H p d) {H' : Hp} (e : Same H H') : OwnR X.prog X.w O H' p d := h.mono (Le.of t e)
theorem own_ix {p : Addr} {y : V} {Q : VK} (hr : Room n X.A) (h : op2 .ix da db = some d) (ow : OwnR X.prog X.w O H p da) (rb : Rp X O H db y) (q : Post X O H d Q) : wIx X (.ref p) y H Q := by
  unfold op2 at h
  simp only at h
  split at h
  · split at h
    · next xs i =>
      split at h
      · next j e =>
        rw [nth_eq] at h
        cases rb
        obtain ⟨vs, h1, r1⟩ := ow
        obtain ⟨v, e1, r2⟩ := r1.get h
        exact wIx_of ix_list ⟨_, _, _, v, rfl, rfl, .inl (.inl h1), ix_at r1.length.symm e e1, q.here r2⟩
      · cases h
    · cases h
  · exact ow.elim
  · split at h
    · next kvs hk =>
      obtain ⟨k, e1, e2, ts, e3⟩ := tupKey_of hk
      subst e3
      cases rb with
      | tup hb n1 r1 =>
        obtain ⟨o, xs, h1, hsm, dob, rk⟩ := ow
        have key := rk.atKey e1
        rw [h] at key
        obtain ⟨pv, v, q1, q2, q3⟩ := key
        intro value slice pins s σ w u I rx ry hs
        cases rx
        cases ry
        have m := dict_of I h1 dob rk
        exact tail_any m.typeIs PySem.F.slot_dict_getitem.lookup (wpAny_getItem_heap (room8 hr) (rep_is I e1 e2 (.tup hb n1 r1)) m q1 ⟨v, H, I.tok _, q2, q.here q3⟩) hs
    · cases h
  · cases h
theorem var_own {i : Nat} {y : Str} {p : Addr} {pos : Pos} (C : Ctx n gcN nm gcv cl X ws) (hN : X.N[i]? = some y) (hv : visB X.env.scope y = true) (e : σ[i]? = some (some (.ref p))) {Q : VK} {H1 : Hp} (q : Q (.ref p) H1) : wE X (.Name y pos) σ H1 Q := by
  obtain ⟨d1, d2⟩ := C.dbg y (List.mem_of_getElem? hN)
  exact wE_of (pe_var hN (visB_ok hv) d1 d2) ⟨_, e, q⟩
theorem hy_ixv {i : Nat} (C : Ctx n gcN nm gcv cl X ws) (E : EnvR X.prog X.w O env σ H) (ck : ckE X.N gcN nm X.env.scope (.ixv i b) x = true) (he : env.at i = .ow da) (ihb : ∀ y, ckE X.N gcN nm X.env.scope b y = true → Hy X O σ H y db) (h : op2 .ix da db = some d) : Hy X O σ H x d := by
  unfold ckE at ck
  split at ck
  · next y z e1 =>
    obtain ⟨pos, rfl⟩ := dSub_eq e1
    simp only [Bool.and_eq_true] at ck
    obtain ⟨⟨k1, k2⟩, k3⟩ := ck
    split at k2
    · next u e2 =>
      obtain ⟨pu, rfl⟩ := dName_eq e2
      rw [Bool.and_eq_true, decide_eq_true_eq] at k2
      obtain ⟨p, e3, hp, ow⟩ := E.own he
      exact fun H1 e Q q => wE_of (pe_ix wIx_ok wE_ok wE_ok (plain_of (ck_shp k3))) (var_own C k2.1 k2.2 e3 (ihb z k3 H1 e _ fun v H2 e2 r => own_ix C.room h (ow.same E.trk (e.trans e2)) r (q.mono e2)))
    · cases k2
  · cases ck
theorem hy_getv {i : Nat} {k v : E} {dk dv : D} (C : Ctx n gcN nm gcv cl X ws) (E : EnvR X.prog X.w O env σ H) (ck : ckE X.N gcN nm X.env.scope (.getv i k v) x = true) (he : env.at i = .ow da) (ihk : ∀ y, ckE X.N gcN nm X.env.scope k y = true → Hy X O σ H y dk)
    (ihv : ∀ y, ckE X.N gcN nm X.env.scope v y = true → Hy X O σ H y dv) (h : op3 .get da dk dv = some d) : Hy X O σ H x d := by
  unfold ckE at ck
  split at ck
  · next o m y z e1 =>
    obtain ⟨ap, p, rfl, line⟩ := dMeth_eq e1
    simp only [Bool.and_eq_true, beq_iff_eq] at ck
    obtain ⟨⟨⟨rfl, k2⟩, k3⟩, k4⟩ := ck
    split at k2
    · next u e2 =>
      obtain ⟨pu, rfl⟩ := dName_eq e2
      rw [Bool.and_eq_true, decide_eq_true_eq] at k2
      obtain ⟨pa, e3, hp, ow⟩ := E.own he
      unfold op3 at h
      simp only at h
      split at h
      · next kvs =>
        split at h
        · next hk =>
          cases h
          refine snd_get C line rfl (ck_star k3) (ck_star k4) (fun H1 e Q hq => var_own C k2.1 k2.2 e3 (hq _ H1 (Same.refl _) ?_)) (ihk y k3) (ihv z k4)
          obtain ⟨ob, xs, h1, hsm, dob, rk⟩ := ow.same E.trk e
          refine ⟨ty_at h1 dob, fun H3 b c Q3 e3 rb rc q3 => ?_⟩
          exact get_at C.room (e3 _ _ h1) hsm dob (rk.mono (same_hide e3)) hk rb rc q3
        · cases h
      · cases h
    · cases k2
  · cases ck
theorem hy_call {g : Nat} {xs : List Expr} {y : Expr} {f : Str} {p pos : Pos} {ds : List D} (C : Ctx n gcN nm gcv cl X ws) (t : Trk O H) (hf : nm g = some f) (gl : glB X.env.scope f = true) (hs : HyL X O σ H (y :: xs) ds) (st : (y :: xs).all noStar = true) (h : cl g ds = some d) :
    Hy X O σ H (.Call (.Name f p) (y :: xs) [] pos) d := fun H1 e Q q => by
  obtain ⟨k, hk, c⟩ := C.fn g f hf
  obtain ⟨g1, g2⟩ := glB_ok gl
  rw [List.all_cons, Bool.and_eq_true] at st
  refine wE_of (pe_c c C.room hk g1 wA_ok g2 (star_of st.1) (any_of st.2)) (hs H1 e _ fun vs H2 e2 r => ⟨ds, d, O, ?_, t.mono (e.trans e2), h, fun v H' e3 r3 => q v H' (e2.trans e3) r3⟩)
  rw [List.append_nil]
  exact r
theorem wipe_sub {own : List Nat} : ∀ {l : List Nat}, (∀ j, j ∈ l → j ∈ own) → wipe (wipe σ l) own = wipe σ own
  | [], _ => rfl
  | v :: l, h => by
    show wipe ((wipe σ l).set v none) own = _
    rw [wipe_set (h v List.mem_cons_self), wipe_sub fun j hj => h j (List.mem_cons_of_mem _ hj)]
theorem ckI_set {N : List Str} {sc : Scope} {i : I} {x tg : Expr} (h : ckI N gcN nm sc i x tg = true) : noSet x = true := by
  cases x with
  | Set a b c => cases i <;> simp [ckI, noSet, dCall, dMeth] at h
  | _ => rfl
theorem own_map (N : List Str) (own : List Nat) : (own.map fun j => (N.getD j Str.empty, j)).map (·.2) = own := by
  rw [List.map_map]
  exact List.map_id' own
theorem ck_const {dd : D} {c : Const} (h : ckC dd c = true) {k : Nat} {p : Pos} (C : Ctx n gcN nm gcv cl X ws) : Hy X O σ H (.Constant c k p) dd := by
  cases dd <;> cases c <;> simp [ckC] at h
  · exact fun H1 e Q q => wE_of pe_non (q.here .non)
  · subst h
    exact fun H1 e Q q => wE_of pe_bl (q.here (.bl _))
  · subst h
    exact fun H1 e Q q => wE_of pe_int (q.here (.int _))
  · subst h
    exact fun H1 e Q q => wE_of pe_str (q.here (.str _))
theorem evL_len {N : List Str} {sc : Scope} : ∀ {es : EL} {xs : List Expr} {ds : List D}, ckL N gcN nm sc es xs = true → evL gcv cl es env = some ds → ds.length = xs.length
  | .nil, [], ds, ck, h => by
    unfold evL at h
    cases h
    rfl
  | .nil, x :: xs, ds, ck, h => by simp [ckL] at ck
  | .cons e es, [], ds, ck, h => by simp [ckL] at ck
  | .cons e es, x :: xs, ds, ck, h => by
    rw [ckL, Bool.and_eq_true] at ck
    unfold evL at h
    split at h
    · split at h
      · next ds' e2 =>
        cases h
        rw [List.length_cons, List.length_cons, evL_len ck.2 e2]
      · cases h
    · cases h
theorem hy_var {i : Nat} (C : Ctx n gcN nm gcv cl X ws) (ck : ckE X.N gcN nm X.env.scope (.v i) x = true) (E : EnvR X.prog X.w O env σ H) (h : ev gcv cl (.v i) env = some d) : Hy X O σ H x d ∧ plainT x = true := by
  unfold ev at h
  split at h
  · next d' e =>
    cases h
    unfold ckE at ck
    split at ck
    · next y e1 =>
      obtain ⟨p, rfl⟩ := dName_eq e1
      rw [Bool.and_eq_true, decide_eq_true_eq] at ck
      obtain ⟨d1, d2⟩ := C.dbg y (List.mem_of_getElem? ck.1)
      obtain ⟨v, e2, r⟩ := E.get e
      exact ⟨fun H1 e3 Q q => wE_of (pe_var ck.1 (visB_ok ck.2) d1 d2) ⟨v, e2, q.here (r.mono (same_hide e3))⟩, rfl⟩
    · cases ck
  · cases h
theorem lc_step {own : List Nat} {t : Tg} {it : I} {el : E} (C : Ctx n gcN nm gcv cl X ws) (E : EnvR X.prog X.w O env σ H) (ck : ckE X.N gcN nm X.env.scope (.lc own t it el) x = true) (h : ev gcv cl (.lc own t it el) env = some d)
    (ihI : ∀ {y tg : Expr} {ys : List Yd}, ckI X.N gcN nm X.env.scope it y tg = true → evI gcv cl it env = some ys → HyI X O σ H tg y ys)
    (ihE : ∀ {X' : Cx} {ws' : Scope} (C' : Ctx n gcN nm gcv cl X' ws') {x' : Expr} {O' : List Addr} {σ' : L2.St} {H' : Hp} {env' : Env} {d' : D}, ckE X'.N gcN nm X'.env.scope el x' = true → EnvR X'.prog X'.w O' env' σ' H' → ev gcv cl el env' = some d' → Hy X' O' σ' H' x' d') :
    ∃ y tg i ifs scope p ds, x = .ListComp y [⟨tg, i, ifs, 0⟩] scope p ∧ d = .list ds ∧ LcT X O σ H y tg i ifs scope own ds := by
  unfold ckE at ck
  split at ck
  · next y tg i scope e1 =>
    obtain ⟨p, rfl⟩ := dLC_eq e1
    simp only [Bool.and_eq_true, decide_eq_true_eq] at ck
    obtain ⟨⟨⟨⟨k1, k2⟩, k3⟩, k4⟩, k5⟩ := ck
    unfold ev at h
    split at h
    · next ys ei =>
      split at h
      · next ds em =>
        split at h
        · next hl =>
          cases h
          refine ⟨y, tg, i, [], scope, p, ds, rfl, rfl, lcT C.calm C.nd E.trk (ihI k4 ei) (blkOk_by k1) (own_map X.N own) (ckI_set k4) em hl fun y d' hf O' G H0 H' v le sg yh Q2 hq s1 H1 C1 c1 f1 => ?_⟩
          have E1 := (E.mono le).wipe own
          split at hf
          · next env1 ea =>
            refine sndY (C.blk s1 H1 scope C1 c1 f1).toNm k2 ea E1 yh sg fun σ2 sm E2 hw => ⟨(hw own k3).trans (wipe_sub fun j hj => hj), fun s2 H2 C2 c2 f2 => ?_⟩
            exact ihE (C.blk s2 H2 scope C2 c2 f2) k5 E2 hf H' (Same.refl _) Q2 fun w H3 e r => hq w H3 (sm.trans e) r
          · cases hf
        · cases h
      · cases h
    · cases h
  · cases ck
theorem lci_step {own : List Nat} {t : Tg} {it : I} {c el : E} (C : Ctx n gcN nm gcv cl X ws) (E : EnvR X.prog X.w O env σ H) (ck : ckE X.N gcN nm X.env.scope (.lci own t it c el) x = true) (h : ev gcv cl (.lci own t it c el) env = some d)
    (ihI : ∀ {y tg : Expr} {ys : List Yd}, ckI X.N gcN nm X.env.scope it y tg = true → evI gcv cl it env = some ys → HyI X O σ H tg y ys)
    (ihT : ∀ {X' : Cx} {ws' : Scope} (C' : Ctx n gcN nm gcv cl X' ws') {x' : Expr} {O' : List Addr} {σ' : L2.St} {H' : Hp} {env' : Env} {k' : Bool}, tst c = true → ckE X'.N gcN nm X'.env.scope c x' = true → EnvR X'.prog X'.w O' env' σ' H' → ev gcv cl c env' = some (.bool k') → HyT X' O' σ' H' x' k')
    (ihE : ∀ {X' : Cx} {ws' : Scope} (C' : Ctx n gcN nm gcv cl X' ws') {x' : Expr} {O' : List Addr} {σ' : L2.St} {H' : Hp} {env' : Env} {d' : D}, ckE X'.N gcN nm X'.env.scope el x' = true → EnvR X'.prog X'.w O' env' σ' H' → ev gcv cl el env' = some d' → Hy X' O' σ' H' x' d') :
    ∃ y tg i ifs scope p ds, x = .ListComp y [⟨tg, i, ifs, 0⟩] scope p ∧ d = .list ds ∧ LcT X O σ H y tg i ifs scope own ds := by
  unfold ckE at ck
  split at ck
  · next y tg i z scope e1 =>
    obtain ⟨p, rfl⟩ := dLC_eq e1
    simp only [Bool.and_eq_true, decide_eq_true_eq] at ck
    obtain ⟨⟨⟨⟨⟨⟨k1, k2⟩, k3⟩, k4⟩, k5⟩, k6⟩, k7⟩ := ck
    unfold ev at h
    split at h
    · next ys ei =>
      split at h
      · next ds em =>
        split at h
        · next hl =>
          cases h
          refine ⟨y, tg, i, [z], scope, p, ds, rfl, rfl, lciT C.calm C.nd E.trk (ihI k4 ei) (blkOk_by k1) (own_map X.N own) (ckI_set k4) em hl fun y r hf O' G H0 H' v le sg yh Q2 Qn hq s1 H1 C1 c1 f1 => ?_⟩
          have E1 := (E.mono le).wipe own
          split at hf
          · next env1 ea =>
            refine sndY (C.blk s1 H1 scope C1 c1 f1).toNm k2 ea E1 yh sg fun σ2 sm E2 hw => ⟨(hw own k3).trans (wipe_sub fun j hj => hj), fun s2 H2 C2 c2 f2 => ?_⟩
            split at hf
            · next ec =>
              split at hf
              · next d' ee =>
                cases hf
                exact ihT (C.blk s2 H2 scope C2 c2 f2) k5 k6 E2 ec H' (Same.refl _) _ fun H4 e4 s3 H3 C3 c3 f3 => ihE (C.blk s3 H3 scope C3 c3 f3) k7 (E2.same e4) ee H4 (Same.refl _) Q2 fun w H5 e r => hq w H5 (sm.trans (e4.trans e)) r
              · cases hf
            · next ec =>
              cases hf
              exact ihT (C.blk s2 H2 scope C2 c2 f2) k5 k6 E2 ec H' (Same.refl _) _ fun H4 e4 => hq H4 (sm.trans e4)
            · cases hf
          · cases hf
        · cases h
      · cases h
    · cases h
  · cases ck
end
end Sq
end

section
set_option Elab.async false
set_option linter.all false
set_option maxRecDepth 100000
set_option maxHeartbeats 8000000
/-! expressions of the fragment: what the evaluator says, holds -/
namespace Sq
open PySem L2 PyProof.Rows C8

section
variable {n : Nat} {gcN : List Str} {nm : Nat → Option Str} {gcv : Nat → Option Int} {cl : Nat → List D → Option D}
mutual
theorem sndE : ∀ (e : E) {X : Cx} {ws : Scope} (C : Ctx n gcN nm gcv cl X ws) {x : Expr} {O : List Addr} {σ : L2.St} {H : Hp} {env : Env} {d : D}, ckE X.N gcN nm X.env.scope e x = true → EnvR X.prog X.w O env σ H → ev gcv cl e env = some d → Hy X O σ H x d
  | .v i, X, ws, C, x, O, σ, H, env, d, ck, E, h => (hy_var C ck E h).1
  | .cst d', X, ws, C, x, O, σ, H, env, d, ck, E, h => by
    unfold ev at h
    cases h
    unfold ckE at ck
    split at ck
    · next c e1 =>
      obtain ⟨k, p, rfl⟩ := dCon_eq e1
      exact ck_const ck C
    · cases ck
  | .gc i, X, ws, C, x, O, σ, H, env, d, ck, E, h => by
    unfold ev at h
    split at h
    · next k e =>
      cases h
      unfold ckE at ck
      split at ck
      · next y e1 =>
        obtain ⟨p, rfl⟩ := dName_eq e1
        rw [Bool.and_eq_true, decide_eq_true_eq] at ck
        obtain ⟨t, e2⟩ := C.con i k y e ck.1
        obtain ⟨g1, g2⟩ := glB_ok ck.2
        exact fun H1 e3 Q q => wE_of (pe_glob (v := .int k) g1 e2 ⟨t, rfl⟩ g2) (q.here (.int k))
      · cases ck
    · cases h
  | .o1 o a, X, ws, C, x, O, σ, H, env, d, ck, E, h => by
    unfold ev at h
    split at h
    · next da e => exact snd_o1 C E.trk ck (fun y ky => sndE a C ky E e) h
    · cases h
  | .o2 o a b, X, ws, C, x, O, σ, H, env, d, ck, E, h => by
    unfold ev at h
    split at h
    · next da e =>
      split at h
      · next db e2 => exact snd_o2 C E.trk ck (fun y ky => sndE a C ky E e) (fun y ky => sndE b C ky E e2) h
      · cases h
    · cases h
  | .o3 o a b c, X, ws, C, x, O, σ, H, env, d, ck, E, h => by
    unfold ev at h
    split at h
    · next da e =>
      split at h
      · next db e2 =>
        split at h
        · next dc e3 => exact snd_o3 C E.trk ck (fun y ky => sndE a C ky E e) (fun y ky => sndE b C ky E e2) (fun y ky => sndE c C ky E e3) h
        · cases h
      · cases h
    · cases h
  | .and es, X, ws, C, x, O, σ, H, env, d, ck, E, h => by
    unfold ev at h
    unfold ckE at ck
    split at ck
    · next xs e1 =>
      obtain ⟨p, rfl⟩ := dBool_eq e1
      exact sndAnd es C ck E h p
    · cases ck
  | .or es, X, ws, C, x, O, σ, H, env, d, ck, E, h => by
    unfold ev at h
    unfold ckE at ck
    split at ck
    · next xs e1 =>
      obtain ⟨p, rfl⟩ := dBool_eq e1
      exact sndOr es C ck E h p
    · cases ck
  | .chain p q a b c, X, ws, C, x, O, σ, H, env, d, ck, E, h => by
    unfold ckE at ck
    split at ck
    · next y r s z u e1 =>
      obtain ⟨pos, rfl⟩ := dCmp_eq e1
      simp only [Bool.and_eq_true] at ck
      obtain ⟨⟨⟨⟨⟨k1, k2⟩, k3⟩, k4⟩, k5⟩, k6⟩ := ck
      split at k1
      · next p' q' e2 e3 =>
        simp only [Bool.and_eq_true, decide_eq_true_eq] at k1
        obtain ⟨rfl, rfl⟩ := k1
        unfold ev at h
        split at h
        · next da ea =>
          split at h
          · next db eb =>
            split at h
            · next ep =>
              split at h
              · next dc ec => exact hy_chain (k := true) (sndE a C k4 E ea) (sndE b C k5 E eb) (cmp_ok C e2 ep) ⟨sndE c C k6 E ec, cmp_ok C e3 h⟩ k3
              · cases h
            · next ep =>
              cases h
              exact hy_chain (op2 := q') (c := .none) (k := false) (sndE a C k4 E ea) (sndE b C k5 E eb) (cmp_ok C e2 ep) rfl k3
            · cases h
          · cases h
        · cases h
      · cases k1
    · cases ck
  | .ite c a b, X, ws, C, x, O, σ, H, env, d, ck, E, h => by
    unfold ckE at ck
    split at ck
    · next z y u e1 =>
      obtain ⟨pos, rfl⟩ := dIf_eq e1
      simp only [Bool.and_eq_true] at ck
      obtain ⟨⟨⟨k1, k2⟩, k3⟩, k4⟩ := ck
      unfold ev at h
      split at h
      · next ec => exact hy_if (k := true) (sndT c C k1 k2 E ec) (sndE a C k3 E h)
      · next ec => exact hy_if (k := false) (sndT c C k1 k2 E ec) (sndE b C k4 E h)
      · cases h
    · cases ck
  | .call g es, X, ws, C, x, O, σ, H, env, d, ck, E, h => by
    unfold ckE at ck
    split at ck
    · next f xs e1 =>
      obtain ⟨p, q, rfl⟩ := dCall_eq e1
      simp only [Bool.and_eq_true, decide_eq_true_eq] at ck
      obtain ⟨⟨⟨k1, k2⟩, k3⟩, k4⟩ := ck
      unfold ev at h
      split at h
      · next ds el =>
        cases xs with
        | nil => simp at k3
        | cons y xs => exact hy_call C E.trk k1 k2 (sndL es C k4 E el) (ckL_star k4) h
      · cases h
    · cases ck
  | .tup es, X, ws, C, x, O, σ, H, env, d, ck, E, h => by
    unfold ckE at ck
    split at ck
    · next xs e1 =>
      obtain ⟨k, p, rfl⟩ := dTup_eq e1
      rw [Bool.and_eq_true, decide_eq_true_eq] at ck
      unfold ev at h
      split at h
      · next ds el =>
        cases h
        exact hy_tup E.trk (sndL es C ck.2 E el) (by rw [evL_len ck.2 el]; omega)
      · cases h
    · cases ck
  | .lst es, X, ws, C, x, O, σ, H, env, d, ck, E, h => by
    unfold ckE at ck
    split at ck
    · next xs e1 =>
      obtain ⟨p, rfl⟩ := dLst_eq e1
      rw [Bool.and_eq_true, decide_eq_true_eq] at ck
      unfold ev at h
      split at h
      · next ds el =>
        cases h
        exact hy_lst E.trk (sndL es C ck.2 E el) (by rw [evL_len ck.2 el]; omega)
      · cases h
    · cases ck
  | .dsp k v, X, ws, C, x, O, σ, H, env, d, ck, E, h => by
    unfold ckE at ck
    split at ck
    · next y z e1 =>
      obtain ⟨p, rfl⟩ := dDict_eq e1
      rw [Bool.and_eq_true] at ck
      unfold ev at h
      split at h
      · next dk ek =>
        split at h
        · next dv ev' =>
          split at h
          · next hk =>
            cases h
            exact hy_dsp E.trk C.room (fun O' H1 le => sndE k C ck.1 (E.mono le) ek H1 (Same.refl _)) (fun O' H1 le => sndE v C ck.2 (E.mono le) ev' H1 (Same.refl _)) hk
          · cases h
        · cases h
      · cases h
    · cases ck
  | .lc own t it el, X, ws, C, x, O, σ, H, env, d, ck, E, h => by
    obtain ⟨y, tg, i, ifs, scope, p, ds, rfl, rfl, L⟩ := lc_step C E ck h (fun ck' h' => sndI it C ck' E h') fun C' => fun ck' E' h' => sndE el C' ck' E' h'
    exact L.hy C.calm C.nd
  | .lci own t it c el, X, ws, C, x, O, σ, H, env, d, ck, E, h => by
    obtain ⟨y, tg, i, ifs, scope, p, ds, rfl, rfl, L⟩ := lci_step C E ck h (fun ck' h' => sndI it C ck' E h') (fun C' => fun ts' ck' E' h' => sndT c C' ts' ck' E' h') fun C' => fun ck' E' h' => sndE el C' ck' E' h'
    exact L.hy C.calm C.nd
  | .ixv i b, X, ws, C, x, O, σ, H, env, d, ck, E, h => by
    unfold ev at h
    split at h
    · next da e =>
      split at h
      · next db e2 => exact hy_ixv C E ck e (fun y ky => sndE b C ky E e2) h
      · cases h
    · cases h
  | .getv i k v, X, ws, C, x, O, σ, H, env, d, ck, E, h => by
    unfold ev at h
    split at h
    · next da e =>
      split at h
      · next dk e2 =>
        split at h
        · next dv e3 => exact hy_getv C E ck e (fun y ky => sndE k C ky E e2) (fun y ky => sndE v C ky E e3) h
        · cases h
      · cases h
    · cases h
theorem sndT : ∀ (e : E) {X : Cx} {ws : Scope} (C : Ctx n gcN nm gcv cl X ws) {x : Expr} {O : List Addr} {σ : L2.St} {H : Hp} {env : Env} {k : Bool}, tst e = true → ckE X.N gcN nm X.env.scope e x = true → EnvR X.prog X.w O env σ H → ev gcv cl e env = some (.bool k) → HyT X O σ H x k
  | .v i, X, ws, C, x, O, σ, H, env, k, ts, ck, E, h => by
    obtain ⟨hv, pt⟩ := hy_var C ck E h
    exact hyt_val hv pt
  | .o1 o a, X, ws, C, x, O, σ, H, env, k, ts, ck, E, h => by
    unfold ev at h
    split at h
    · next da e => exact snd_o1T C E.trk ts ck (fun y ky => sndE a C ky E e) (fun ta m y em ky => sndT a C ta ky E (by rw [← em]; exact e)) h
    · cases h
  | .o2 o a b, X, ws, C, x, O, σ, H, env, k, ts, ck, E, h => by
    unfold ev at h
    split at h
    · next da e =>
      split at h
      · next db e2 => exact snd_o2T C E.trk ts ck (fun y ky => sndE a C ky E e) (fun y ky => sndE b C ky E e2) h
      · cases h
    · cases h
  | .o3 o a b c, X, ws, C, x, O, σ, H, env, k, ts, ck, E, h => by
    unfold ev at h
    split at h
    · next da e =>
      split at h
      · next db e2 =>
        split at h
        · next dc e3 => exact snd_o3T C E.trk ck (fun y ky => sndE a C ky E e) (fun y ky => sndE b C ky E e2) (fun y ky => sndE c C ky E e3) h
        · cases h
      · cases h
    · cases h
  | .and es, X, ws, C, x, O, σ, H, env, k, ts, ck, E, h => by
    unfold ev at h
    unfold ckE at ck
    split at ck
    · next xs e1 =>
      obtain ⟨p, rfl⟩ := dBool_eq e1
      exact hyt_w (sndAndT es C ts ck E h p)
    · cases ck
  | .or es, X, ws, C, x, O, σ, H, env, k, ts, ck, E, h => by
    unfold ev at h
    unfold ckE at ck
    split at ck
    · next xs e1 =>
      obtain ⟨p, rfl⟩ := dBool_eq e1
      exact hyt_w (sndOrT es C ts ck E h p)
    · cases ck
  | .chain p q a b c, X, ws, C, x, O, σ, H, env, k, ts, ck, E, h => by
    unfold ckE at ck
    split at ck
    · next y r s z u e1 =>
      obtain ⟨pos, rfl⟩ := dCmp_eq e1
      simp only [Bool.and_eq_true] at ck
      obtain ⟨⟨⟨⟨⟨k1, k2⟩, k3⟩, k4⟩, k5⟩, k6⟩ := ck
      split at k1
      · next p' q' e2 e3 =>
        simp only [Bool.and_eq_true, decide_eq_true_eq] at k1
        obtain ⟨rfl, rfl⟩ := k1
        unfold ev at h
        split at h
        · next da ea =>
          split at h
          · next db eb =>
            split at h
            · next ep =>
              split at h
              · next dc ec => exact hyt_chain (k := true) (sndE a C k4 E ea) (sndE b C k5 E eb) (cmp_ok C e2 ep) ⟨sndE c C k6 E ec, cmp_ok C e3 h⟩ k3
              · cases h
            · next ep =>
              cases h
              exact hyt_chain (op2 := q') (c := .none) (k := false) (sndE a C k4 E ea) (sndE b C k5 E eb) (cmp_ok C e2 ep) rfl k3
            · cases h
          · cases h
        · cases h
      · cases k1
    · cases ck
  | .call g es, X, ws, C, x, O, σ, H, env, k, ts, ck, E, h => by
    unfold ckE at ck
    split at ck
    · next f xs e1 =>
      obtain ⟨p, q, rfl⟩ := dCall_eq e1
      simp only [Bool.and_eq_true, decide_eq_true_eq] at ck
      obtain ⟨⟨⟨k1, k2⟩, k3⟩, k4⟩ := ck
      unfold ev at h
      split at h
      · next ds el =>
        cases xs with
        | nil => simp at k3
        | cons y xs => exact hyt_val (hy_call C E.trk k1 k2 (sndL es C k4 E el) (ckL_star k4) h) rfl
      · cases h
    · cases ck
  | .cst _, _, _, _, _, _, _, _, _, _, ts, _, _, _ => by simp [tst] at ts
  | .gc _, _, _, _, _, _, _, _, _, _, ts, _, _, _ => by simp [tst] at ts
  | .ite _ _ _, _, _, _, _, _, _, _, _, _, ts, _, _, _ => by simp [tst] at ts
  | .tup _, _, _, _, _, _, _, _, _, _, ts, _, _, _ => by simp [tst] at ts
  | .lst _, _, _, _, _, _, _, _, _, _, ts, _, _, _ => by simp [tst] at ts
  | .dsp _ _, _, _, _, _, _, _, _, _, _, ts, _, _, _ => by simp [tst] at ts
  | .lc _ _ _ _, _, _, _, _, _, _, _, _, _, ts, _, _, _ => by simp [tst] at ts
  | .lci _ _ _ _ _, _, _, _, _, _, _, _, _, _, ts, _, _, _ => by simp [tst] at ts
  | .ixv _ _, _, _, _, _, _, _, _, _, _, ts, _, _, _ => by simp [tst] at ts
  | .getv _ _ _, _, _, _, _, _, _, _, _, _, ts, _, _, _ => by simp [tst] at ts
theorem sndL : ∀ (es : EL) {X : Cx} {ws : Scope} (C : Ctx n gcN nm gcv cl X ws) {xs : List Expr} {O : List Addr} {σ : L2.St} {H : Hp} {env : Env} {ds : List D}, ckL X.N gcN nm X.env.scope es xs = true → EnvR X.prog X.w O env σ H → evL gcv cl es env = some ds → HyL X O σ H xs ds
  | .nil, X, ws, C, [], O, σ, H, env, ds, ck, E, h => by
    unfold evL at h
    cases h
    exact hyl_nil
  | .nil, X, ws, C, x :: xs, O, σ, H, env, ds, ck, E, h => by simp [ckL] at ck
  | .cons e es, X, ws, C, [], O, σ, H, env, ds, ck, E, h => by simp [ckL] at ck
  | .cons e es, X, ws, C, x :: xs, O, σ, H, env, ds, ck, E, h => by
    rw [ckL, Bool.and_eq_true] at ck
    unfold evL at h
    split at h
    · next d e1 =>
      split at h
      · next ds' e2 =>
        cases h
        exact hyl_cons (sndE e C ck.1 E e1) (sndL es C ck.2 E e2) (ck_star ck.1)
      · cases h
    · cases h
theorem sndAnd : ∀ (es : EL) {X : Cx} {ws : Scope} (C : Ctx n gcN nm gcv cl X ws) {xs : List Expr} {O : List Addr} {σ : L2.St} {H : Hp} {env : Env} {d : D}, ckL X.N gcN nm X.env.scope es xs = true → EnvR X.prog X.w O env σ H → evAnd gcv cl es env = some d → ∀ p, Hy X O σ H (.BoolOp .And xs p) d
  | .nil, X, ws, C, xs, O, σ, H, env, d, ck, E, h, p => by simp [evAnd] at h
  | .cons e es, X, ws, C, [], O, σ, H, env, d, ck, E, h, p => by simp [ckL] at ck
  | .cons e .nil, X, ws, C, x :: xs, O, σ, H, env, d, ck, E, h, p => by
    rw [ckL, Bool.and_eq_true] at ck
    cases xs with
    | nil =>
      unfold evAnd at h
      exact hy_one (sndE e C ck.1 E h)
    | cons y ys => simp [ckL] at ck
  | .cons e (.cons f es), X, ws, C, x :: xs, O, σ, H, env, d, ck, E, h, p => by
    rw [ckL, Bool.and_eq_true] at ck
    cases xs with
    | nil => simp [ckL] at ck
    | cons y ys =>
      unfold evAnd at h
      split at h
      · next e1 => exact hy_and (k := true) (sndE e C ck.1 E e1) (sndAnd (.cons f es) C ck.2 E h p)
      · next e1 =>
        cases h
        exact hy_and (k := false) (sndE e C ck.1 E e1) rfl
      · cases h
theorem sndOr : ∀ (es : EL) {X : Cx} {ws : Scope} (C : Ctx n gcN nm gcv cl X ws) {xs : List Expr} {O : List Addr} {σ : L2.St} {H : Hp} {env : Env} {d : D}, ckL X.N gcN nm X.env.scope es xs = true → EnvR X.prog X.w O env σ H → evOr gcv cl es env = some d → ∀ p, Hy X O σ H (.BoolOp .Or xs p) d
  | .nil, X, ws, C, xs, O, σ, H, env, d, ck, E, h, p => by simp [evOr] at h
  | .cons e es, X, ws, C, [], O, σ, H, env, d, ck, E, h, p => by simp [ckL] at ck
  | .cons e .nil, X, ws, C, x :: xs, O, σ, H, env, d, ck, E, h, p => by
    rw [ckL, Bool.and_eq_true] at ck
    cases xs with
    | nil =>
      unfold evOr at h
      exact hy_one (sndE e C ck.1 E h)
    | cons y ys => simp [ckL] at ck
  | .cons e (.cons f es), X, ws, C, x :: xs, O, σ, H, env, d, ck, E, h, p => by
    rw [ckL, Bool.and_eq_true] at ck
    cases xs with
    | nil => simp [ckL] at ck
    | cons y ys =>
      unfold evOr at h
      split at h
      · next e1 => exact hy_or (k := false) (sndE e C ck.1 E e1) (sndOr (.cons f es) C ck.2 E h p)
      · next e1 =>
        cases h
        exact hy_or (k := true) (sndE e C ck.1 E e1) rfl
      · cases h
theorem sndAndT : ∀ (es : EL) {X : Cx} {ws : Scope} (C : Ctx n gcN nm gcv cl X ws) {xs : List Expr} {O : List Addr} {σ : L2.St} {H : Hp} {env : Env} {k : Bool}, tst.tsts es = true → ckL X.N gcN nm X.env.scope es xs = true → EnvR X.prog X.w O env σ H → evAnd gcv cl es env = some (.bool k) → ∀ p, HyW X O σ H (.BoolOp .And xs p) k
  | .nil, X, ws, C, xs, O, σ, H, env, d, ts, ck, E, h, p => by simp [evAnd] at h
  | .cons e es, X, ws, C, [], O, σ, H, env, d, ts, ck, E, h, p => by simp [ckL] at ck
  | .cons e .nil, X, ws, C, x :: xs, O, σ, H, env, d, ts, ck, E, h, p => by
    rw [ckL, Bool.and_eq_true] at ck
    simp only [tst.tsts, Bool.and_eq_true] at ts
    cases xs with
    | nil =>
      unfold evAnd at h
      exact hyw_and1 (sndT e C ts.1 ck.1 E h)
    | cons y ys => simp [ckL] at ck
  | .cons e (.cons f es), X, ws, C, x :: xs, O, σ, H, env, d, ts, ck, E, h, p => by
    rw [ckL, Bool.and_eq_true] at ck
    have ts1 : tst e = true ∧ tst.tsts (.cons f es) = true := by
      rw [tst.tsts, Bool.and_eq_true] at ts
      exact ts
    cases xs with
    | nil => simp [ckL] at ck
    | cons y ys =>
      unfold evAnd at h
      split at h
      · next e1 => exact hyw_and (k := true) (sndT e C ts1.1 ck.1 E e1) (sndAndT (.cons f es) C ts1.2 ck.2 E h p)
      · next e1 =>
        cases h
        exact hyw_and (k := false) (sndT e C ts1.1 ck.1 E e1) rfl
      · cases h
theorem sndOrT : ∀ (es : EL) {X : Cx} {ws : Scope} (C : Ctx n gcN nm gcv cl X ws) {xs : List Expr} {O : List Addr} {σ : L2.St} {H : Hp} {env : Env} {k : Bool}, tst.tsts es = true → ckL X.N gcN nm X.env.scope es xs = true → EnvR X.prog X.w O env σ H → evOr gcv cl es env = some (.bool k) → ∀ p, HyW X O σ H (.BoolOp .Or xs p) k
  | .nil, X, ws, C, xs, O, σ, H, env, d, ts, ck, E, h, p => by simp [evOr] at h
  | .cons e es, X, ws, C, [], O, σ, H, env, d, ts, ck, E, h, p => by simp [ckL] at ck
  | .cons e .nil, X, ws, C, x :: xs, O, σ, H, env, d, ts, ck, E, h, p => by
    rw [ckL, Bool.and_eq_true] at ck
    simp only [tst.tsts, Bool.and_eq_true] at ts
    cases xs with
    | nil =>
      unfold evOr at h
      exact hyw_or1 (sndT e C ts.1 ck.1 E h)
    | cons y ys => simp [ckL] at ck
  | .cons e (.cons f es), X, ws, C, x :: xs, O, σ, H, env, d, ts, ck, E, h, p => by
    rw [ckL, Bool.and_eq_true] at ck
    have ts1 : tst e = true ∧ tst.tsts (.cons f es) = true := by
      rw [tst.tsts, Bool.and_eq_true] at ts
      exact ts
    cases xs with
    | nil => simp [ckL] at ck
    | cons y ys =>
      unfold evOr at h
      split at h
      · next e1 => exact hyw_or (k := false) (sndT e C ts1.1 ck.1 E e1) (sndOrT (.cons f es) C ts1.2 ck.2 E h p)
      · next e1 =>
        cases h
        exact hyw_or (k := true) (sndT e C ts1.1 ck.1 E e1) rfl
      · cases h
theorem sndI : ∀ (it : I) {X : Cx} {ws : Scope} (C : Ctx n gcN nm gcv cl X ws) {x tg : Expr} {O : List Addr} {σ : L2.St} {H : Hp} {env : Env} {ys : List Yd}, ckI X.N gcN nm X.env.scope it x tg = true → EnvR X.prog X.w O env σ H → evI gcv cl it env = some ys → HyI X O σ H tg x ys
  | .over e, X, ws, C, x, tg, O, σ, H, env, ys, ck, E, h => by
    unfold ckI at ck
    rw [Bool.and_eq_true] at ck
    unfold evI at h
    split at h
    · next xs e1 =>
      cases h
      exact fun H1 e2 R q => wi_list (sndE e C ck.2 E e1 H1 e2 _ got_post) q
    · next xs e1 =>
      cases h
      exact fun H1 e2 R q => wi_tuple (sndE e C ck.2 E e1 H1 e2 _ got_post) q
    · next kvs e1 =>
      cases h
      exact fun H1 e2 R q => wi_dict (sndE e C ck.2 E e1 H1 e2 _ got_post) q
    · cases h
  | .rng1 a, X, ws, C, x, tg, O, σ, H, env, ys, ck, E, h => by
    unfold ckI at ck
    split at ck
    · next f y e1 =>
      obtain ⟨p, q, rfl⟩ := dCall_eq e1
      rw [Bool.and_eq_true] at ck
      obtain ⟨rfl, g, m⟩ := C.isb ck.1 (by decide)
      unfold evI at h
      split at h
      · next i ei =>
        split at h
        · next hs =>
          cases h
          exact fun H1 e2 R q => wi_rng1 g m (sndE a C ck.2 E ei H1 e2 _ got_post) (star_of (ck_star ck.2)) (small_lt hs) q
        · cases h
      · cases h
    · cases ck
  | .rng2 a b, X, ws, C, x, tg, O, σ, H, env, ys, ck, E, h => by
    unfold ckI at ck
    split at ck
    · next f y z e1 =>
      obtain ⟨p, q, rfl⟩ := dCall_eq e1
      simp only [Bool.and_eq_true] at ck
      obtain ⟨⟨k1, k2⟩, k3⟩ := ck
      obtain ⟨rfl, g, m⟩ := C.isb k1 (by decide)
      unfold evI at h
      split at h
      · next i ei =>
        split at h
        · next j ej =>
          split at h
          · next hs =>
            cases h
            rw [Bool.and_eq_true] at hs
            exact fun H1 e2 R q => wi_rng2 g m (sndE a C k2 E ei H1 e2 _ fun v H2 e3 r => ⟨by cases r; rfl, sndE b C k3 E ej H2 (e2.trans e3) _ fun u H3 e4 r4 => ⟨by cases r4; rfl, e3.trans e4⟩⟩) (star_of (ck_star k2)) (star_of (ck_star k3)) (any_of (es := [z]) (by simp [ck_star k3])) (small_lt hs.1) (small_lt hs.2) q
          · cases h
        · cases h
      · cases h
    · cases ck
  | .enum e, X, ws, C, x, tg, O, σ, H, env, ys, ck, E, h => by
    unfold ckI at ck
    rw [Bool.and_eq_true] at ck
    obtain ⟨k1, k2⟩ := ck
    obtain ⟨ts, e1⟩ := Option.isSome_iff_exists.mp k1
    obtain ⟨kk, tp, rfl⟩ := dTup_eq e1
    split at k2
    · next f y e2 =>
      obtain ⟨p, q, rfl⟩ := dCall_eq e2
      rw [Bool.and_eq_true] at k2
      obtain ⟨rfl, g, m⟩ := C.isb k2.1 (by decide)
      unfold evI at h
      split at h
      · next xs ei =>
        cases h
        exact fun H1 e3 R q => wi_enum g m (d := .list xs) rfl (sndE e C k2.2 E ei H1 e3 _ got_post) (star_of (ck_star k2.2)) q
      · next xs ei =>
        cases h
        exact fun H1 e3 R q => wi_enum g m (d := .tuple xs) rfl (sndE e C k2.2 E ei H1 e3 _ got_post) (star_of (ck_star k2.2)) q
      · cases h
    · cases k2
  | .zip a b, X, ws, C, x, tg, O, σ, H, env, ys, ck, E, h => by
    unfold ckI at ck
    rw [Bool.and_eq_true] at ck
    obtain ⟨k1, k2⟩ := ck
    obtain ⟨ts, e1⟩ := Option.isSome_iff_exists.mp k1
    obtain ⟨kk, tp, rfl⟩ := dTup_eq e1
    split at k2
    · next f y z e2 =>
      obtain ⟨p, q, rfl⟩ := dCall_eq e2
      simp only [Bool.and_eq_true] at k2
      obtain ⟨⟨k3, k4⟩, k5⟩ := k2
      obtain ⟨rfl, g, m⟩ := C.isb k3 (by decide)
      have go : ∀ {da db : D} {xs zs : List D}, ev gcv cl a env = some da → ev gcv cl b env = some db → seqOf da = some xs → seqOf db = some zs → HyI X O σ H (.Tuple ts kk tp) (.Call (.Name (Str.ofString "zip") p) [y, z] [] q) (zipL xs zs) := fun ea eb s1 s2 H1 e3 R q =>
        wi_zip g m s1 s2 (sndE a C k4 E ea H1 e3 _ fun v H2 e4 r => ⟨e4, r, sndE b C k5 E eb H2 (e3.trans e4) _ got_post⟩) (star_of (ck_star k4)) (star_of (ck_star k5)) (any_of (es := [z]) (by simp [ck_star k5])) q
      unfold evI at h
      split at h
      · next xs ei =>
        split at h
        · next zs ej =>
          cases h
          exact go ei ej rfl rfl
        · cases h
      · next xs ei =>
        split at h
        · next zs ej =>
          cases h
          exact go ei ej rfl rfl
        · cases h
      · cases h
    · cases k2
  | .items e, X, ws, C, x, tg, O, σ, H, env, ys, ck, E, h => by
    unfold ckI at ck
    rw [Bool.and_eq_true] at ck
    obtain ⟨k1, k2⟩ := ck
    obtain ⟨ts, e1⟩ := Option.isSome_iff_exists.mp k1
    obtain ⟨kk, tp, rfl⟩ := dTup_eq e1
    split at k2
    · next o m e2 =>
      obtain ⟨ap, p, rfl, line⟩ := dMeth_eq e2
      simp only [Bool.and_eq_true, beq_iff_eq] at k2
      obtain ⟨rfl, k3⟩ := k2
      unfold evI at h
      split at h
      · next kvs ei =>
        cases h
        exact fun H1 e3 R q => wi_items (sndE e C k3 E ei H1 e3 _ got_post) q (base_of (ck_shp k3)) (by simpa using line)
      · cases h
    · cases k2
end
/-- a comprehension, for a store that takes it up -/
theorem sndLC {X : Cx} {ws : Scope} (C : Ctx n gcN nm gcv cl X ws) {e : E} {y tg i : Expr} {ifs : List Expr} {scope : Scope} {p : Pos} {O : List Addr} {σ : L2.St} {H : Hp} {env : Env} {d : D} (ck : ckE X.N gcN nm X.env.scope e (.ListComp y [⟨tg, i, ifs, 0⟩] scope p) = true)
    (E : EnvR X.prog X.w O env σ H) (h : ev gcv cl e env = some d) : ∃ own ds, d = .list ds ∧ LcT X O σ H y tg i ifs scope own ds := by
  cases e with
  | lc own t it el =>
    obtain ⟨y, tg, i, ifs, scope, p, ds, e1, rfl, L⟩ := lc_step C E ck h (fun ck' h' => sndI it C ck' E h') fun C' => fun ck' E' h' => sndE el C' ck' E' h'
    cases e1
    exact ⟨own, ds, rfl, L⟩
  | lci own t it c el =>
    obtain ⟨y, tg, i, ifs, scope, p, ds, e1, rfl, L⟩ := lci_step C E ck h (fun ck' h' => sndI it C ck' E h') (fun C' => fun ts' ck' E' h' => sndT c C' ts' ck' E' h') fun C' => fun ck' E' h' => sndE el C' ck' E' h'
    cases e1
    exact ⟨own, ds, rfl, L⟩
  | o1 o a => cases o <;> simp [ckE, dUn, dCmp, dCall, dSub, bn1, bnI] at ck
  | o2 o a b => cases o <;> simp [ckE, bin2, cmp2, dBin, dCmp, dCall, dSub, dMeth] at ck
  | o3 o a b c => cases o <;> simp [ckE, dCall, dSub, dMeth] at ck
  | _ => simp [ckE, dName, dCon, dBool, dCmp, dIf, dCall, dTup, dLst, dDict, dSub, dMeth] at ck
end
end Sq
end

section
set_option Elab.async false
set_option linter.all false
set_option maxRecDepth 100000
set_option maxHeartbeats 4000000
/-! stores of several names at once -/
namespace Sq
open PySem L2 PyProof.Rows C8

def isNameL (sc : Scope) (l : Nat) : Expr → Bool
  | .Name x p => (sc.names.lookup x == some .local) && p.line == l
  | _ => false
def starred : Expr → Bool
  | .Starred .. => true
  | _ => false
theorem swK_eq (sc : Scope) (ts vs : List Expr) : swK sc ts vs = (if (ts.length == 2 || ts.length == 3) && vs.length == ts.length then
    if vs.any starred then none
    else if ts.all (isNameL sc ((ts.head?.map (·.pos.line)).getD 0)) then
      if vs.all (foldedForSure 8) then some false
      else if vs.all (constantsAlone 8) then none
      else some true
    else some false
  else none) := by
  unfold swK
  have e1 : (fun (x : Expr) => match x with | .Starred .. => true | _ => false) = starred := by
    funext x
    cases x <;> rfl
  have e2 : (fun (x : Expr) => match x with | .Name x p => (sc.names.lookup x == some .local) && p.line == (ts.head?.map (·.pos.line)).getD 0 | _ => false) = isNameL sc ((ts.head?.map (·.pos.line)).getD 0) := by
    funext x
    cases x <;> rfl
  first
    | rfl
    | (rw [e1, e2])
def nameAt (env : PySem.Env) (l : Nat) : Expr → Option Str
  | .Name id pos => if env.kindOf id == some .local && pos.line == l then some id else none
  | _ => none
theorem stores_key (env : PySem.Env) (ts vs : List Expr) (k k2 : Nat) (p p2 : Pos) : swappedStores [.Tuple ts k p] (.Tuple vs k2 p2) env = (if (!(ts.length == 2 || ts.length == 3) || vs.length != ts.length || env.blockKind != .function) = true then pure none else if vs.any starred = true then pure none else
      if (ts.filterMap (nameAt env ((ts.head?.map (·.pos.line)).getD 0))).length != ts.length || (ts.filterMap (nameAt env ((ts.head?.map (·.pos.line)).getD 0))).eraseDups.length != (ts.filterMap (nameAt env ((ts.head?.map (·.pos.line)).getD 0))).length then pure none
      else if vs.all (foldedForSure 8) then pure none
      else if vs.all (constantsAlone 8) then (do unsupported "assign.tuple-of-constant-expressions:order-of-the-stores"; pure (some (ts.filterMap (nameAt env ((ts.head?.map (·.pos.line)).getD 0)))))
      else pure (some (ts.filterMap (nameAt env ((ts.head?.map (·.pos.line)).getD 0))))) := rfl
theorem filter_lt {f : Expr → Option Str} : ∀ {ts : List Expr} {y : Expr}, y ∈ ts → f y = none → (ts.filterMap f).length < ts.length
  | [], y, h, _ => absurd h List.not_mem_nil
  | t :: ts, y, h, e => by
    have le : (ts.filterMap f).length ≤ ts.length := List.length_filterMap_le _ _
    rcases List.mem_cons.mp h with z | h
    · subst z
      rw [List.filterMap_cons_none e, List.length_cons]
      omega
    · have ih := filter_lt h e
      cases ft : f t with
      | none =>
        rw [List.filterMap_cons_none ft, List.length_cons]
        omega
      | some b =>
        rw [List.filterMap_cons_some ft, List.length_cons, List.length_cons]
        omega
/-- a target that is no plain name: the stores stand as written -/
theorem stores_none {env : PySem.Env} {ts vs : List Expr} {k k2 : Nat} {p p2 : Pos} {y : Expr} (hy : y ∈ ts) (e : nameAt env ((ts.head?.map (·.pos.line)).getD 0) y = none) : swappedStores [.Tuple ts k p] (.Tuple vs k2 p2) env = pure none := by
  rw [stores_key]
  have h := filter_lt hy e
  split
  · rfl
  · split
    · rfl
    · rw [if_pos]
      rw [Bool.or_eq_true, bne_iff_ne]
      exact .inl (by omega)
theorem stores_other {env : PySem.Env} {ts : List Expr} {k : Nat} {p : Pos} {x : Expr} (h : dTup x = none) : swappedStores [.Tuple ts k p] x env = pure none := by
  cases x with
  | Tuple a b c => simp [dTup] at h
  | _ => rfl
theorem stores_folded {env : PySem.Env} {ts vs : List Expr} {k k2 : Nat} {p p2 : Pos} (h : vs.all (foldedForSure 8) = true) : swappedStores [.Tuple ts k p] (.Tuple vs k2 p2) env = pure none := by
  rw [stores_key]
  split
  · rfl
  · split
    · rfl
    · split
      · rfl
      · rfl
theorem nameAt_some {env : PySem.Env} {l : Nat} {y : Expr} (h : isNameL env.scope l y = true) : ∃ x p, y = .Name x p ∧ env.scope.names.lookup x = some .local ∧ nameAt env l y = some x := by
  cases y with
  | Name x p =>
    have h' : (env.scope.names.lookup x == some .local && p.line == l) = true := h
    refine ⟨x, p, rfl, ?_, ?_⟩
    · rw [Bool.and_eq_true] at h'
      simpa using h'.1
    · show (if (env.scope.names.lookup x == some .local && p.line == l) = true then some x else none) = some x
      rw [if_pos h']
  | _ => simp [isNameL] at h
theorem nameAt_none {env : PySem.Env} {l : Nat} {y : Expr} (h : isNameL env.scope l y = false) : nameAt env l y = none := by
  cases y with
  | Name x p =>
    have h' : (env.scope.names.lookup x == some .local && p.line == l) = false := h
    show (if (env.scope.names.lookup x == some .local && p.line == l) = true then some x else none) = none
    rw [if_neg (by rw [h']; exact Bool.false_ne_true)]
  | _ => rfl
theorem sw_false {env : PySem.Env} {ts vs : List Expr} {k k2 : Nat} {p p2 : Pos} (h : swK env.scope ts vs = some false) : swappedStores [.Tuple ts k p] (.Tuple vs k2 p2) env = pure none := by
  rw [swK_eq] at h
  split at h
  · split at h
    · cases h
    · split at h
      · split at h
        · exact stores_folded (by assumption)
        · split at h <;> cases h
      · next hn =>
        have hn' : ts.all (isNameL env.scope ((ts.head?.map (·.pos.line)).getD 0)) = false := by simpa using hn
        rw [List.all_eq_false] at hn'
        obtain ⟨y, hy, e⟩ := hn'
        exact stores_none hy (nameAt_none (by simpa using e))
  · cases h
theorem stores_eq (env : PySem.Env) (ts vs : List Expr) (k k2 : Nat) (p p2 : Pos) (hk : env.blockKind = .function) (h1 : (ts.length == 2 || ts.length == 3) = true) (h2 : vs.length = ts.length) (h3 : vs.any starred = false) :
    swappedStores [.Tuple ts k p] (.Tuple vs k2 p2) env = (
      if (ts.filterMap (nameAt env ((ts.head?.map (·.pos.line)).getD 0))).length != ts.length || (ts.filterMap (nameAt env ((ts.head?.map (·.pos.line)).getD 0))).eraseDups.length != (ts.filterMap (nameAt env ((ts.head?.map (·.pos.line)).getD 0))).length then pure none
      else if vs.all (foldedForSure 8) then pure none
      else if vs.all (constantsAlone 8) then (do unsupported "assign.tuple-of-constant-expressions:order-of-the-stores"; pure (some (ts.filterMap (nameAt env ((ts.head?.map (·.pos.line)).getD 0)))))
      else pure (some (ts.filterMap (nameAt env ((ts.head?.map (·.pos.line)).getD 0))))) := by
  have g1 : (!(ts.length == 2 || ts.length == 3) || vs.length != ts.length || env.blockKind != .function) = false := by
    rw [h1, h2, hk]
    simp
  have key : swappedStores [.Tuple ts k p] (.Tuple vs k2 p2) env = (if (!(ts.length == 2 || ts.length == 3) || vs.length != ts.length || env.blockKind != .function) = true then pure none else if vs.any starred = true then pure none else
      if (ts.filterMap (nameAt env ((ts.head?.map (·.pos.line)).getD 0))).length != ts.length || (ts.filterMap (nameAt env ((ts.head?.map (·.pos.line)).getD 0))).eraseDups.length != (ts.filterMap (nameAt env ((ts.head?.map (·.pos.line)).getD 0))).length then pure none
      else if vs.all (foldedForSure 8) then pure none
      else if vs.all (constantsAlone 8) then (do unsupported "assign.tuple-of-constant-expressions:order-of-the-stores"; pure (some (ts.filterMap (nameAt env ((ts.head?.map (·.pos.line)).getD 0)))))
      else pure (some (ts.filterMap (nameAt env ((ts.head?.map (·.pos.line)).getD 0))))) := rfl
  rw [key, g1, h3]
  rfl
/-- two or three plain names: the stores are swapped -/
theorem sw_true' {env : PySem.Env} (hk : env.scope.kind = .function) {ts vs : List Expr} {k k2 : Nat} {p p2 : Pos} (h : swK env.scope ts vs = some true) :
    (∃ x y px py a b, ts = [.Name x px, .Name y py] ∧ vs = [a, b] ∧ env.scope.names.lookup x = some .local ∧ env.scope.names.lookup y = some .local ∧ (x ≠ y → swappedStores [.Tuple ts k p] (.Tuple vs k2 p2) env = pure (some [x, y]))) ∨
    (∃ x y z px py pz a b c, ts = [.Name x px, .Name y py, .Name z pz] ∧ vs = [a, b, c] ∧ env.scope.names.lookup x = some .local ∧ env.scope.names.lookup y = some .local ∧ env.scope.names.lookup z = some .local ∧ (x ≠ y → x ≠ z → y ≠ z → swappedStores [.Tuple ts k p] (.Tuple vs k2 p2) env = pure (some [x, y, z]))) := by
  have hb : env.blockKind = .function := by
    unfold Env.blockKind
    rw [hk]
    rfl
  rw [swK_eq] at h
  split at h
  · next h1 =>
    rw [Bool.and_eq_true, beq_iff_eq] at h1
    split at h
    · cases h
    · next h3 =>
      split at h
      · next h4 =>
        split at h
        · cases h
        · next h5 =>
          split at h
          · cases h
          · next h6 =>
            have h3' : vs.any starred = false := by simpa using h3
            have eq := stores_eq env ts vs k k2 p p2 hb h1.1 h1.2 h3'
            rw [if_neg h5, if_neg h6] at eq
            rw [List.all_eq_true] at h4
            have h11 := h1.1
            rw [Bool.or_eq_true, beq_iff_eq, beq_iff_eq] at h11
            rcases h11 with l | l
            · match ts, vs, l, h1.2 with
              | [t1, t2], [a, b], _, _ =>
                obtain ⟨x, px, rfl, lx, nx⟩ := nameAt_some (env := env) (h4 t1 (by simp))
                obtain ⟨y, py, rfl, ly, ny⟩ := nameAt_some (env := env) (h4 t2 (by simp))
                refine .inl ⟨x, y, px, py, a, b, rfl, rfl, lx, ly, fun ne => ?_⟩
                rw [eq, List.filterMap_cons_some nx, List.filterMap_cons_some ny]
                have hne : (y == x) = false := beq_eq_false_iff_ne.mpr (fun e => ne e.symm)
                rw [if_neg]
                · rfl
                · simp [List.eraseDups, List.eraseDupsBy, List.eraseDupsBy.loop, hne]
            · match ts, vs, l, h1.2 with
              | [t1, t2, t3], [a, b, c], _, _ =>
                obtain ⟨x, px, rfl, lx, nx⟩ := nameAt_some (env := env) (h4 t1 (by simp))
                obtain ⟨y, py, rfl, ly, ny⟩ := nameAt_some (env := env) (h4 t2 (by simp))
                obtain ⟨z, pz, rfl, lz, nz⟩ := nameAt_some (env := env) (h4 t3 (by simp))
                refine .inr ⟨x, y, z, px, py, pz, a, b, c, rfl, rfl, lx, ly, lz, fun n1 n2 n3 => ?_⟩
                rw [eq, List.filterMap_cons_some nx, List.filterMap_cons_some ny, List.filterMap_cons_some nz]
                have e1 : (y == x) = false := beq_eq_false_iff_ne.mpr (fun e => n1 e.symm)
                have e2 : (z == x) = false := beq_eq_false_iff_ne.mpr (fun e => n2 e.symm)
                have e3 : (z == y) = false := beq_eq_false_iff_ne.mpr (fun e => n3 e.symm)
                rw [if_neg]
                · rfl
                · simp [List.eraseDups, List.eraseDupsBy, List.eraseDupsBy.loop, e1, e2, e3]
      · cases h
  · cases h
end Sq
end

section
set_option Elab.async false
set_option linter.all false
set_option maxRecDepth 100000
set_option maxHeartbeats 2000000
/-! the state of a frame, by data; what statements do to it -/
namespace Sq
open PySem L2 PyProof.Rows C8

section
variable {P : Program} {w : World} {O O' : List Addr} {H H' : Hp} {env : Env} {σ : L2.St}
theorem hide_upd {p : Addr} {o : HO} (h : p ∈ O) : Same (hide O H) (hide O (upd H p o)) := fun a ob z => by
  obtain ⟨z1, z2⟩ := hide_some z
  exact hide_of (by rw [upd_ne (fun e => z2 (by rw [e]; exact h))]; exact z1) z2
theorem trk_upd (t : Trk O H) {p : Addr} {o : HO} : Trk O (upd H p o) := fun a ha => by
  by_cases e : a = p
  · rw [e, upd_same]
    exact fun z => by cases z
  · rw [upd_ne e]
    exact t a ha
theorem OwnR.upd {p q : Addr} {o : HO} {d : D} (hp : p ∈ O) (ne : q ≠ p) (h : OwnR P w O H q d) : OwnR P w O (upd H p o) q d := by
  cases d with
  | list ds =>
    obtain ⟨vs, h1, h2⟩ := h
    exact ⟨vs, by rw [upd_ne ne]; exact h1, h2.mono (hide_upd hp)⟩
  | dict kvs =>
    obtain ⟨ob, xs, h1, h2, h3, h4⟩ := h
    exact ⟨ob, xs, by rw [upd_ne ne]; exact h1, h2, h3, h4.mono (hide_upd hp)⟩
  | _ => exact h.elim
/-- a slot takes an object of our own -/
theorem EnvR.ow (E : EnvR P w O env σ H) {p : Addr} {d : D} (hp : p ∈ O) (r : OwnR P w O H p d) (hd : ∀ j, isOw (env.at j) → σ[j]? = some (some (.ref p)) → False) (i : Nat) : EnvR P w O (env.put i (.ow d)) (σ.set i (some (.ref p))) H where
  cells := fun j => by
    by_cases h : i = j
    · subst h
      rw [at_put_eq]
      split
      · next hl => exact ⟨p, List.getElem?_set_self (by rw [← E.len]; exact hl), hp, r⟩
      · trivial
    · rw [at_put_ne _ _ _ _ h]
      have c := E.cells j
      have e : (σ.set i (some (.ref p)))[j]? = σ[j]? := List.getElem?_set_ne h
      cases ee : env.at j with
      | no => trivial
      | sh d =>
        rw [ee] at c
        obtain ⟨v, q1, q2⟩ := c
        exact ⟨v, e.trans q1, q2⟩
      | ow d =>
        rw [ee] at c
        obtain ⟨v, q1, q2, q3⟩ := c
        exact ⟨v, e.trans q1, q2, q3⟩
  dist := fun a b q hne ha hb e1 e2 => by
    by_cases h1 : i = a
    · by_cases h2 : i = b
      · exact hne (h1.symm.trans h2)
      · subst h1
        rw [at_put_ne _ _ _ _ h2] at hb
        rw [List.getElem?_set_ne h2] at e2
        have hl : i < σ.length := by
          by_cases hl : i < σ.length
          · exact hl
          · rw [List.getElem?_eq_none (by rw [List.length_set]; omega)] at e1
            cases e1
        rw [List.getElem?_set_self hl] at e1
        cases e1
        exact hd b hb e2
    · by_cases h2 : i = b
      · subst h2
        rw [at_put_ne _ _ _ _ h1] at ha
        rw [List.getElem?_set_ne h1] at e1
        have hl : i < σ.length := by
          by_cases hl : i < σ.length
          · exact hl
          · rw [List.getElem?_eq_none (by rw [List.length_set]; omega)] at e2
            cases e2
        rw [List.getElem?_set_self hl] at e2
        cases e2
        exact hd a ha e1
      · rw [at_put_ne _ _ _ _ h1] at ha
        rw [at_put_ne _ _ _ _ h2] at hb
        rw [List.getElem?_set_ne h1] at e1
        rw [List.getElem?_set_ne h2] at e2
        exact E.dist a b q hne ha hb e1 e2
  len := by rw [put_len, List.length_set]; exact E.len
  trk := E.trk
theorem ow_at : ∀ (env : Env) (i : Nat) (d : D), env.at i = .ow d → i < env.length
  | [], i, d, h => nomatch (show Cl.no = Cl.ow d from h)
  | a :: r, 0, d, h => Nat.succ_pos _
  | a :: r, i + 1, d, h => Nat.succ_lt_succ (ow_at r i d h)
theorem ow_lt {i : Nat} {d : D} (h : env.at i = .ow d) : i < env.length := ow_at env i d h
/-- an object of our own is written -/
theorem EnvR.write (E : EnvR P w O env σ H) {i : Nat} {d d' : D} {p : Addr} {o : HO} (h : env.at i = .ow d) (e : σ[i]? = some (some (.ref p))) (hp : p ∈ O) (r : OwnR P w O (upd H p o) p d') : EnvR P w O (env.put i (.ow d')) σ (upd H p o) where
  cells := fun j => by
    by_cases hj : i = j
    · subst hj
      rw [at_put_eq, if_pos (ow_lt h)]
      exact ⟨p, e, hp, r⟩
    · rw [at_put_ne _ _ _ _ hj]
      have c := E.cells j
      cases ee : env.at j with
      | no => trivial
      | sh d =>
        rw [ee] at c
        obtain ⟨v, q1, q2⟩ := c
        exact ⟨v, q1, q2.mono (hide_upd hp)⟩
      | ow d2 =>
        rw [ee] at c
        obtain ⟨q, q1, q2, q3⟩ := c
        have ne : q ≠ p := fun z => by
          subst z
          exact E.dist i j q hj (by rw [h]; trivial) (by rw [ee]; trivial) e q1
        exact ⟨q, q1, q2, q3.upd hp ne⟩
  dist := fun a b q hne ha hb e1 e2 => by
    have go : ∀ {a : Nat}, isOw ((env.put i (.ow d')).at a) → isOw (env.at a) := fun {a} ha => by
      by_cases z : i = a
      · subst z
        rw [h]; trivial
      · rw [at_put_ne _ _ _ _ z] at ha
        exact ha
    exact E.dist a b q hne (go ha) (go hb) e1 e2
  len := by rw [put_len]; exact E.len
  trk := trk_upd E.trk
def drop1 (O : List Addr) (p : Addr) : List Addr := O.filter fun a => decide (a ≠ p)
theorem drop1_mem {p a : Addr} : a ∈ drop1 O p ↔ a ∈ O ∧ a ≠ p := by
  unfold drop1
  rw [List.mem_filter, decide_eq_true_eq]
theorem drop1_vis {p : Addr} : Same (hide O H) (hide (drop1 O p) H) := hide_sub fun a h => (drop1_mem.mp h).1
/-- an object of our own is given up: from now on it stays -/
theorem EnvR.frz (E : EnvR P w O env σ H) {i : Nat} {d : D} {p : Addr} (h : env.at i = .ow d) (e : σ[i]? = some (some (.ref p))) (r : OwnR P w O H p d) : EnvR P w (drop1 O p) (env.put i (.sh d)) σ H where
  cells := fun j => by
    by_cases hj : i = j
    · subst hj
      rw [at_put_eq, if_pos (ow_lt h)]
      refine ⟨.ref p, e, ?_⟩
      have np : p ∉ drop1 O p := fun z => (drop1_mem.mp z).2 rfl
      cases d with
      | list ds =>
        obtain ⟨vs, h1, h2⟩ := r
        exact .lst (hide_of h1 np) (h2.mono drop1_vis)
      | dict kvs =>
        obtain ⟨ob, xs, h1, h2, h3, h4⟩ := r
        exact .dct (hide_of h1 np) h2 h3 (h4.mono drop1_vis)
      | _ => exact r.elim
    · rw [at_put_ne _ _ _ _ hj]
      have c := E.cells j
      cases ee : env.at j with
      | no => trivial
      | sh d =>
        rw [ee] at c
        obtain ⟨v, q1, q2⟩ := c
        exact ⟨v, q1, q2.mono drop1_vis⟩
      | ow d2 =>
        rw [ee] at c
        obtain ⟨q, q1, q2, q3⟩ := c
        have ne : q ≠ p := fun z => by
          subst z
          exact E.dist i j q hj (by rw [h]; trivial) (by rw [ee]; trivial) e q1
        refine ⟨q, q1, drop1_mem.mpr ⟨q2, ne⟩, ?_⟩
        cases d2 with
        | list ds =>
          obtain ⟨vs, h1, h2⟩ := q3
          exact ⟨vs, h1, h2.mono drop1_vis⟩
        | dict kvs =>
          obtain ⟨ob, xs, h1, h2, h3, h4⟩ := q3
          exact ⟨ob, xs, h1, h2, h3, h4.mono drop1_vis⟩
        | _ => exact q3.elim
  dist := fun a b q hne ha hb e1 e2 => by
    have go : ∀ {a : Nat}, isOw ((env.put i (.sh d)).at a) → isOw (env.at a) := fun {a} ha => by
      by_cases z : i = a
      · subst z
        rw [h]; trivial
      · rw [at_put_ne _ _ _ _ z] at ha
        exact ha
    exact E.dist a b q hne (go ha) (go hb) e1 e2
  len := by rw [put_len]; exact E.len
  trk := fun a ha => E.trk a (drop1_mem.mp ha).1

/-! ### a frame: B is hidden by the caller, Hb the heap at the entry -/
structure StR (P : Program) (w : World) (B : List Addr) (Hb : Hp) (O : List Addr) (env : Env) (σ : L2.St) (H : Hp) : Prop where
  E : EnvR P w O env σ H
  same : Same Hb H
  sub : ∀ a, a ∈ B → a ∈ O
  own : ∀ i p, isOw (env.at i) → σ[i]? = some (some (.ref p)) → Hb p = none
  trkB : Trk B Hb
variable {B : List Addr} {Hb : Hp}
/-- the heap grows -/
theorem StR.le (S : StR P w B Hb O env σ H) (l : Le O H O' H') : StR P w B Hb O' env σ H' := ⟨S.E.mono l, S.same.trans l.same, fun a h => l.sub a (S.sub a h), S.own, S.trkB⟩
theorem StR.grow (S : StR P w B Hb O env σ H) (e : Same H H') : StR P w B Hb O env σ H' := S.le (Le.of S.E.trk e)
theorem StR.sh (S : StR P w B Hb O env σ H) {d : D} {v : V} (r : Rep P w (hide O H) d v) (i : Nat) : StR P w B Hb O (env.put i (.sh d)) (σ.set i (some v)) H where
  E := S.E.sh r i
  same := S.same
  sub := S.sub
  trkB := S.trkB
  own := fun j p h e => by
    by_cases z : i = j
    · subst z
      rw [at_put_eq] at h
      split at h <;> exact h.elim
    · rw [at_put_ne _ _ _ _ z] at h
      rw [List.getElem?_set_ne z] at e
      exact S.own j p h e
theorem StR.ow (S : StR P w B Hb O env σ H) {d : D} {p : Addr} (hp : p ∈ O) (hn : Hb p = none) (r : OwnR P w O H p d) (hd : ∀ j, isOw (env.at j) → σ[j]? = some (some (.ref p)) → False) (i : Nat) : StR P w B Hb O (env.put i (.ow d)) (σ.set i (some (.ref p))) H where
  E := S.E.ow hp r hd i
  same := S.same
  sub := S.sub
  trkB := S.trkB
  own := fun j q h e => by
    by_cases z : i = j
    · subst z
      have hl : i < σ.length := by
        by_cases hl : i < σ.length
        · exact hl
        · rw [List.getElem?_eq_none (by rw [List.length_set]; omega)] at e
          cases e
      rw [List.getElem?_set_self hl] at e
      cases e
      exact hn
    · rw [at_put_ne _ _ _ _ z] at h
      rw [List.getElem?_set_ne z] at e
      exact S.own j q h e
theorem StR.write (S : StR P w B Hb O env σ H) {i : Nat} {d d' : D} {p : Addr} {o : HO} (h : env.at i = .ow d) (e : σ[i]? = some (some (.ref p))) (hp : p ∈ O) (r : OwnR P w O (upd H p o) p d') : StR P w B Hb O (env.put i (.ow d')) σ (upd H p o) where
  E := S.E.write h e hp r
  same := fun a ob z => by
    have hn := S.own i p (by rw [h]; trivial) e
    rw [upd_ne (fun q => by rw [q, hn] at z; cases z)]
    exact S.same a ob z
  sub := S.sub
  trkB := S.trkB
  own := fun j q hj e2 => by
    refine S.own j q ?_ e2
    by_cases z : i = j
    · subst z
      rw [h]; trivial
    · rw [at_put_ne _ _ _ _ z] at hj
      exact hj
theorem StR.frz (S : StR P w B Hb O env σ H) {i : Nat} {d : D} {p : Addr} (h : env.at i = .ow d) (e : σ[i]? = some (some (.ref p))) (r : OwnR P w O H p d) : StR P w B Hb (drop1 O p) (env.put i (.sh d)) σ H where
  E := S.E.frz h e r
  same := S.same
  sub := fun a ha => drop1_mem.mpr ⟨S.sub a ha, fun z => by
    have hn := S.own i p (by rw [h]; trivial) e
    rw [← z] at hn
    exact S.trkB a ha hn⟩
  trkB := S.trkB
  own := fun j q hj e2 => by
    refine S.own j q ?_ e2
    by_cases z : i = j
    · subst z
      rw [h]; trivial
    · rw [at_put_ne _ _ _ _ z] at hj
      exact hj

/-! ### what is stored -/
def CellV (P : Program) (w : World) (Hs : Hp) (O : List Addr) (H : Hp) : Cl → V → Prop
  | .no, _ => False
  | .sh d, v => Rep P w (hide O H) d v
  | .ow d, v => ∃ p, v = .ref p ∧ p ∈ O ∧ Hs p = none ∧ OwnR P w O H p d
theorem CellV.mono {Hs : Hp} {c : Cl} {v : V} (l : Le O H O' H') (h : CellV P w Hs O H c v) : CellV P w Hs O' H' c v := by
  cases c with
  | no => exact h.elim
  | sh d => exact Rep.mono l.vis h
  | ow d =>
    obtain ⟨p, e, h1, h2, h3⟩ := h
    exact ⟨p, e, l.sub p h1, h2, h3.mono l⟩
def owns : List Cl → List V → List Addr
  | .ow _ :: cs, .ref p :: vs => p :: owns cs vs
  | _ :: cs, _ :: vs => owns cs vs
  | _, _ => []
def sets (σ : L2.St) : List Nat → List V → L2.St
  | i :: is, v :: vs => sets (σ.set i (some v)) is vs
  | _, _ => σ
theorem owns_new {Hs : Hp} : ∀ {cs : List Cl} {vs : List V}, Paired (CellV P w Hs O H) cs vs → ∀ q, q ∈ owns cs vs → Hs q = none
  | _, _, .nil, q, h => absurd h List.not_mem_nil
  | c :: cs, v :: vs, .cons h1 h2, q, h => by
    cases c with
    | no => exact h1.elim
    | sh d => exact owns_new h2 q (by simpa [owns] using h)
    | ow d =>
      obtain ⟨p, rfl, k1, k2, k3⟩ := h1
      have h' : q ∈ p :: owns cs vs := h
      rcases List.mem_cons.mp h' with z | h'
      · rw [z]; exact k2
      · exact owns_new h2 q h'
theorem StR.puts (hb : Same Hb H) : ∀ {cs : List (Nat × Cl)} {vs : List V} {env : Env} {σ : L2.St}, StR P w B Hb O env σ H → Paired (CellV P w Hb O H) (cs.map (·.2)) vs → (owns (cs.map (·.2)) vs).Nodup → (∀ j q, isOw (env.at j) → σ[j]? = some (some (.ref q)) → q ∉ owns (cs.map (·.2)) vs) →
    StR P w B Hb O (env.puts cs) (sets σ (cs.map (·.1)) vs) H
  | [], vs, env, σ, S, h, nd, ap => by
    cases h
    exact S
  | (i, c) :: cs, vs, env, σ, S, h, nd, ap => by
    cases h with
    | @cons _ v _ vs h1 h2 =>
      cases c with
      | no => exact h1.elim
      | sh d =>
        have nd' : (owns (cs.map (·.2)) vs).Nodup := by simpa [owns] using nd
        have ap' : ∀ j q, isOw (env.at j) → σ[j]? = some (some (.ref q)) → q ∉ owns (cs.map (·.2)) vs := fun j q a b => by simpa [owns] using ap j q a b
        refine StR.puts (cs := cs) hb (S.sh h1 i) h2 nd' fun j q a b => ?_
        by_cases z : i = j
        · subst z
          rw [at_put_eq] at a
          split at a <;> exact a.elim
        · rw [at_put_ne _ _ _ _ z] at a
          rw [List.getElem?_set_ne z] at b
          exact ap' j q a b
      | ow d =>
        obtain ⟨p, rfl, k1, k2, k3⟩ := h1
        have nd2 : (p :: owns (cs.map (·.2)) vs).Nodup := nd
        rw [List.nodup_cons] at nd2
        have ap' : ∀ j q, isOw (env.at j) → σ[j]? = some (some (.ref q)) → q ∉ p :: owns (cs.map (·.2)) vs := ap
        refine StR.puts (cs := cs) hb (S.ow k1 k2 k3 (fun j a b => ap' j p a b List.mem_cons_self) i) h2 nd2.2 fun j q a b => ?_
        by_cases z : i = j
        · subst z
          have hl : i < σ.length := by
            by_cases hl : i < σ.length
            · exact hl
            · rw [List.getElem?_eq_none (by rw [List.length_set]; omega)] at b
              cases b
          rw [List.getElem?_set_self hl] at b
          cases b
          exact nd2.1
        · rw [at_put_ne _ _ _ _ z] at a
          rw [List.getElem?_set_ne z] at b
          exact fun m => ap' j q a b (List.mem_cons_of_mem _ m)
end
end Sq
end

section
set_option Elab.async false
set_option linter.all false
set_option maxRecDepth 100000
set_option maxHeartbeats 4000000
/-! statements of the fragment: one step each -/
namespace Sq
open PySem L2 PyProof.Rows C8

section
variable {n : Nat} {gcN : List Str} {nm : Nat → Option Str} {gcv : Nat → Option Int} {cl : Nat → List D → Option D} {X : Cx} {ws : Scope} {B O : List Addr} {Hb : Hp} {σ : L2.St} {H : Hp} {x : Expr} {d : D} {env : Env}
def HyR (X : Cx) (O : List Addr) (σ : L2.St) (H : Hp) (x : Expr) (c : Cl) : Prop := ∀ O1 H1, Le O H O1 H1 → ∀ Q : VK, (∀ v O2 H2, Le O1 H1 O2 H2 → CellV X.prog X.w H1 O2 H2 c v → Q v H2) → wE X x σ H1 Q
theorem Le.refl (t : Trk O H) : Le O H O H := Le.of t (Same.refl H)
theorem Le.trans {O1 O2 : List Addr} {H1 H2 : Hp} (a : Le O H O1 H1) (b : Le O1 H1 O2 H2) : Le O H O2 H2 := ⟨a.same.trans b.same, a.vis.trans b.vis, fun x h => b.sub x (a.sub x h), b.trk⟩
theorem none_of {H H' : Hp} (e : Same H H') {p : Addr} (h : H' p = none) : H p = none := by
  cases q : H p with
  | none => rfl
  | some o => rw [e p o q] at h; cases h
theorem sndR (C : Ctx n gcN nm gcv cl X ws) {r : Rh} {c : Cl} (ck : ckR X.N gcN nm X.env.scope r x = true) (E : EnvR X.prog X.w O env σ H) (h : evR gcv cl r env = some c) : HyR X O σ H x c := fun O1 H1 l Q q => by
  have E1 := E.mono l
  cases r with
  | sh e =>
    simp only [evR] at h
    split at h
    · next d e1 =>
      cases h
      exact sndE e C ck E1 e1 H1 (Same.refl _) Q fun v H2 e2 r => q v O1 H2 (Le.of E1.trk e2) r
    · cases h
  | ol es =>
    simp only [evR] at h
    split at h
    · next ds e1 =>
      cases h
      simp only [ckR] at ck
      split at ck
      · next xs e2 =>
        obtain ⟨p, rfl⟩ := dLst_eq e2
        rw [Bool.and_eq_true, decide_eq_true_eq] at ck
        refine wE_of (pe_lst wA_ok) (sndL es C ck.2 E1 e1 H1 (Same.refl _) _ fun vs H2 e3 r => ⟨?_, fun p hp => ?_⟩)
        · refine repL_size r ?_
          rw [evL_len ck.2 e1]
          omega
        · have t2 := E1.trk.mono e3
          have l2 := Le.new t2 (o := .lst vs) hp
          exact q _ _ _ ((Le.of E1.trk e3).trans l2) ⟨p, rfl, List.mem_cons_self, none_of e3 hp, vs, upd_same, r.mono l2.vis⟩
      · cases ck
    · cases h
  | od =>
    simp only [evR] at h
    cases h
    simp only [ckR] at ck
    split at ck
    · next e2 =>
      obtain ⟨p, rfl⟩ := dDict_eq e2
      intro pins s I
      have hn := I.hok.fresh (Nat.le_refl s.heap.objs.size)
      have eo : (s.heap.push emptyD).get? s.heap.objs.size = some emptyD := Heap.get?_push_size _ rfl
      have l2 := Le.new E1.trk (o := At s.heap.objs.size emptyD) hn
      refine wpAny_Dict_empty ⟨.ref s.heap.objs.size, _, I.laid (t' := s.toks) (fun _ _ q => Heap.get?_push_of_some _ q) (Nat.le_refl _) (at_mk eo), rfl, q _ _ _ l2 ⟨_, rfl, List.mem_cons_self, hn, emptyD, [], upd_same, ?_, ⟨⟨rfl, rfl, rfl⟩, ⟨#[], 0, rfl, rfl⟩, List.nodup_nil⟩, .nil⟩⟩
      have hb := I.big
      rw [beq_eq_false_iff_ne]
      exact fun e => absurd hb (by rw [e]; exact Nat.lt_irrefl _)
    · cases ck
/-- several at once -/
def HyP (X : Cx) (O : List Addr) (σ : L2.St) (H : Hp) (xs : List Expr) (cs : List Cl) : Prop := ∀ O1 H1, Le O H O1 H1 → ∀ Q : List V → Hp → Prop, (∀ vs O2 H2, Le O1 H1 O2 H2 → Paired (CellV X.prog X.w H1 O2 H2) cs vs → (owns cs vs).Nodup → Q vs H2) → wA X xs σ H1 Q
theorem cells_from {P : Program} {w : World} {Hs Hs' : Hp} (e : Same Hs Hs') {O : List Addr} {H : Hp} : ∀ {cs : List Cl} {vs : List V}, Paired (CellV P w Hs' O H) cs vs → Paired (CellV P w Hs O H) cs vs
  | _, _, .nil => .nil
  | c :: _, _, .cons h t => .cons (by
      cases c with
      | no => exact h.elim
      | sh d => exact h
      | ow d =>
        obtain ⟨p, e1, h1, h2, h3⟩ := h
        exact ⟨p, e1, h1, none_of e h2, h3⟩) (cells_from e t)
theorem ckP_star {N : List Str} {sc : Scope} : ∀ {l : List (Nat × Rh)} {ts vs : List Expr}, ckP N gcN nm sc l ts vs = true → vs.all noStar = true
  | [], [], [], _ => rfl
  | (i, r) :: l, t :: ts, v :: vs, h => by
    unfold ckP at h
    simp only [Bool.and_eq_true] at h
    rw [List.all_cons, ckP_star h.2, Bool.and_true]
    cases r with
    | sh e => exact ck_star h.1.2
    | ol es =>
      have := h.1.2
      simp only [ckR] at this
      split at this
      · next e =>
        obtain ⟨p, rfl⟩ := dLst_eq e
        rfl
      · cases this
    | od =>
      have := h.1.2
      simp only [ckR] at this
      split at this
      · next e =>
        obtain ⟨p, rfl⟩ := dDict_eq e
        rfl
      · cases this
  | [], _ :: _, _, h => by simp [ckP] at h
  | [], [], _ :: _, h => by simp [ckP] at h
  | _ :: _, [], _, h => by simp [ckP] at h
  | _ :: _, _ :: _, [], h => by simp [ckP] at h
theorem sndP (C : Ctx n gcN nm gcv cl X ws) : ∀ {l : List (Nat × Rh)} {ts vs : List Expr} {cs : List (Nat × Cl)} {O : List Addr} {H : Hp}, ckP X.N gcN nm X.env.scope l ts vs = true → EnvR X.prog X.w O env σ H → evP gcv cl l env = some cs → HyP X O σ H vs (cs.map (·.2)) ∧ cs.map (·.1) = l.map (·.1)
  | [], [], [], cs, O, H, ck, E, h => by
    unfold evP at h
    cases h
    exact ⟨fun O1 H1 l Q q => wA_of pa_nil (q [] O1 H1 (Le.refl l.trk) .nil List.nodup_nil), rfl⟩
  | (i, r) :: l, t :: ts, v :: vs, cs, O, H, ck, E, h => by
    have st := ckP_star ck
    rw [List.all_cons, Bool.and_eq_true] at st
    unfold ckP at ck
    simp only [Bool.and_eq_true] at ck
    unfold evP at h
    split at h
    · next c e1 =>
      split at h
      · next cs' e2 =>
        cases h
        refine ⟨fun O1 H1 l1 Q q => wA_of (pa_cons wE_ok wA_ok (star_of st.1)) (sndR C ck.1.2 E e1 O1 H1 l1 _ fun u O2 H2 l2 cv => ?_), by rw [List.map_cons, List.map_cons, (sndP C ck.2 E e2).2]⟩
        refine (sndP C ck.2 (E.mono (l1.trans l2)) e2).1 O2 H2 (Le.refl l2.trk) _ fun us O3 H3 l3 ps nd => ?_
        refine q (u :: us) O3 H3 (l2.trans l3) (.cons (cv.mono l3) (cells_from l2.same ps)) ?_
        cases c with
        | no => exact cv.elim
        | sh d => simpa [owns] using nd
        | ow d =>
          obtain ⟨p, rfl, k1, k2, k3⟩ := cv
          show (p :: owns _ us).Nodup
          rw [List.nodup_cons]
          refine ⟨fun m => ?_, nd⟩
          exact l2.trk p k1 (owns_new ps p m)
      · cases h
    · cases h
  | [], _ :: _, _, cs, O, H, ck, E, h => by simp [ckP] at ck
  | [], [], _ :: _, cs, O, H, ck, E, h => by simp [ckP] at ck
  | _ :: _, [], _, cs, O, H, ck, E, h => by simp [ckP] at ck
  | _ :: _, _ :: _, [], cs, O, H, ck, E, h => by simp [ckP] at ck
end
end Sq
end

section
set_option Elab.async false
set_option linter.all false
set_option maxRecDepth 100000
set_option maxHeartbeats 4000000
/-! statements of the fragment -/
namespace Sq
open PySem L2 PyProof.Rows C8

def wS (X : Cx) (st : Stmt) : TS := fun D σ H => ∀ (pins : List (Addr × Obj)) (s : Shared), Inv X pins σ H s → wpAny (model X.prog X.w) X.A (exec st X.env) (SP X pins D) X.xe s
theorem wS_ok {X : Cx} {st : Stmt} : PS X st (wS X st) := ⟨fun pins s σ H D I h => h pins s I⟩
theorem wS_of {X : Cx} {st : Stmt} {t : TS} {D : Ends} {σ : L2.St} {H : Hp} (h : PS X st t) (q : t D σ H) : wS X st D σ H := fun pins s I => h.run pins s σ H D I q
def wSs (X : Cx) (st : List Stmt) : TS := fun D σ H => ∀ (pins : List (Addr × Obj)) (s : Shared), Inv X pins σ H s → wpAny (model X.prog X.w) X.A (execs st X.env) (SP X pins D) X.xe s
theorem wSs_ok {X : Cx} {st : List Stmt} : PSs X st (wSs X st) := ⟨fun pins s σ H D I h => h pins s I⟩
theorem wSs_of {X : Cx} {st : List Stmt} {t : TS} {D : Ends} {σ : L2.St} {H : Hp} (h : PSs X st t) (q : t D σ H) : wSs X st D σ H := fun pins s I => h.run pins s σ H D I q
/-- what the end has to bear -/
def Fin (P : Program) (w : World) (B : List Addr) (Hb : Hp) (O : List Addr) (H : Hp) (fl : Fl) (D : Ends) : Prop := match fl with
  | .nx env' => ∀ O' σ' H', StR P w B Hb O' env' σ' H' → Same (hide O H) (hide O' H') → D.nx σ' H'
  | .rt d => ∀ v H', Same Hb H' → Rep P w (hide B H') d v → D.rt v H'
theorem Fin.mono {P : Program} {w : World} {B O O1 : List Addr} {Hb H H1 : Hp} {fl : Fl} {D : Ends} (h : Fin P w B Hb O H fl D) (e : Same (hide O H) (hide O1 H1)) : Fin P w B Hb O1 H1 fl D := by
  cases fl with
  | nx env' => exact fun O' σ' H' S z => h O' σ' H' S (e.trans z)
  | rt d => exact h
structure SCtx (n : Nat) (gcN : List Str) (nm : Nat → Option Str) (gcv : Nat → Option Int) (cl : Nat → List D → Option D) (X : Cx) : Prop extends Ctx n gcN nm gcv cl X X.env.scope where
  kind : X.env.scope.kind = .function
  po : PassesOwn (model X.prog X.w) X.A X.env X.xe
section
variable {n : Nat} {gcN : List Str} {nm : Nat → Option Str} {gcv : Nat → Option Int} {cl : Nat → List D → Option D} {X : Cx} {B O : List Addr} {Hb : Hp} {σ : L2.St} {H : Hp} {x : Expr} {d : D} {env : Env} {D : Ends} {fl : Fl}
/-! #### targets and what we own -/
mutual
theorem asg_out : ∀ (t : Tg) (d : Sq.D) (env env1 : Env) (j : Nat), asgT t d env = some env1 → j ∉ slots t → env1.at j = env.at j
  | .n i, d, env, env1, j, h, hj => by
    cases h
    exact at_put_ne _ _ _ _ fun e => hj (by simp [slots, e])
  | .t ts, d, env, env1, j, h, hj => by
    cases d with
    | tuple ds => exact asgs_out ts ds env env1 j h (by simpa [slots] using hj)
    | _ => simp [asgT] at h
theorem asgs_out : ∀ (ts : TgL) (ds : List Sq.D) (env env1 : Env) (j : Nat), asgTL ts ds env = some env1 → j ∉ slots.go ts → env1.at j = env.at j
  | .nil, [], env, env1, j, h, hj => by
    cases h
    rfl
  | .cons t ts, d :: ds, env, env1, j, h, hj => by
    unfold asgTL at h
    simp only [slots.go, List.mem_append, not_or] at hj
    split at h
    · next env2 e => rw [asgs_out ts ds env2 env1 j h hj.2, asg_out t d env env2 j e hj.1]
    · cases h
  | .nil, d :: ds, _, _, _, h, _ => by simp [asgTL] at h
  | .cons _ _, [], _, _, _, h, _ => by simp [asgTL] at h
end
mutual
theorem asg_in : ∀ (t : Tg) (d : Sq.D) (env env1 : Env) (j : Nat), asgT t d env = some env1 → j ∈ slots t → ¬ isOw (env1.at j)
  | .n i, d, env, env1, j, h, hj => by
    cases h
    have e : j = i := by simpa [slots] using hj
    subst e
    rw [at_put_eq]
    split <;> exact fun z => z
  | .t ts, d, env, env1, j, h, hj => by
    cases d with
    | tuple ds => exact asgs_in ts ds env env1 j h (by simpa [slots] using hj)
    | _ => simp [asgT] at h
theorem asgs_in : ∀ (ts : TgL) (ds : List Sq.D) (env env1 : Env) (j : Nat), asgTL ts ds env = some env1 → j ∈ slots.go ts → ¬ isOw (env1.at j)
  | .nil, [], env, env1, j, h, hj => by simp [slots.go] at hj
  | .cons t ts, d :: ds, env, env1, j, h, hj => by
    unfold asgTL at h
    split at h
    · next env2 e =>
      by_cases h2 : j ∈ slots.go ts
      · exact asgs_in ts ds env2 env1 j h h2
      · rw [asgs_out ts ds env2 env1 j h h2]
        exact asg_in t d env env2 j e (by simpa [slots.go, h2] using hj)
    · cases h
  | .nil, d :: ds, _, _, _, h, _ => by simp [asgTL] at h
  | .cons _ _, [], _, _, _, h, _ => by simp [asgTL] at h
end
theorem asgY_both {t : Tg} {y : Yd} {env env1 : Env} {j : Nat} (h : asgY t y env = some env1) : (j ∉ slots t → env1.at j = env.at j) ∧ (j ∈ slots t → ¬ isOw (env1.at j)) := by
  cases y with
  | one d => exact ⟨asg_out t d env env1 j h, asg_in t d env env1 j h⟩
  | two a b =>
    unfold asgY at h
    simp only at h
    split at h
    · next p q =>
      have h' : asgT (.t (.cons p (.cons q .nil))) (.tuple [a, b]) env = some env1 := by
        simp only [asgT, asgTL]
        split at h
        · next env2 e2 =>
          rw [h]
        · cases h
      exact ⟨asg_out _ _ env env1 j h', asg_in _ _ env env1 j h'⟩
    · cases h
theorem StR.asg {P : Program} {w : World} {env1 : Env} {σ2 : L2.St} {H2 : Hp} {l : List Nat} (S : StR P w B Hb O env σ H) (E : EnvR P w O env1 σ2 H2) (sm : Same H H2) (hw : wipe σ2 l = wipe σ l) (ho : ∀ j, (j ∉ l → env1.at j = env.at j) ∧ (j ∈ l → ¬ isOw (env1.at j))) :
    StR P w B Hb O env1 σ2 H2 where
  E := E
  same := S.same.trans sm
  sub := S.sub
  trkB := S.trkB
  own := fun j p h e => by
    by_cases hj : j ∈ l
    · exact absurd h ((ho j).2 hj)
    · rw [(ho j).1 hj] at h
      have e1 : (wipe σ2 l)[j]? = σ2[j]? := wipe_out hj
      have e2 : (wipe σ l)[j]? = σ[j]? := wipe_out hj
      rw [hw, e2] at e1
      exact S.own j p h (e1.trans e)

/-! #### one name -/
theorem cell_set {c : Cl} {v : V} {O2 : List Addr} {H2 : Hp} (S : StR X.prog X.w B Hb O env σ H) (l : Le O H O2 H2) (cv : CellV X.prog X.w H O2 H2 c v) (i : Nat) : StR X.prog X.w B Hb O2 (env.put i c) (σ.set i (some v)) H2 := by
  have S2 := S.le l
  cases c with
  | no => exact cv.elim
  | sh d => exact S2.sh cv i
  | ow d =>
    obtain ⟨p, rfl, h1, h2, h3⟩ := cv
    refine S2.ow h1 (none_of S.same h2) h3 (fun j a b => ?_) i
    have own := S.E.cells j
    cases e : env.at j with
    | ow d2 =>
      obtain ⟨q, q1, q2, _⟩ := S.E.own e
      rw [b] at q1
      cases q1
      exact S.E.trk _ q2 h2
    | no => rw [e] at a; exact a
    | sh _ => rw [e] at a; exact a
def isComp : Expr → Bool
  | .ListComp .. => true
  | .SetComp .. => true
  | .DictComp .. => true
  | _ => false
theorem sw_no {x : Expr} {t : Option Expr} {l : Nat} {e : PySem.Env} (h : isComp x = false) : swapsWith x t l e = pure false := by
  cases x <;> first | rfl | simp [isComp] at h
theorem ck_comp {N : List Str} {sc : Scope} {e : Sq.E} {x : Expr} (h : ckE N gcN nm sc e x = true) (hc : isComp x = true) : ∃ y tg i ifs scope p, x = .ListComp y [⟨tg, i, ifs, 0⟩] scope p := by
  cases hl : dLC x with
  | some q =>
    obtain ⟨y, tg, i, ifs, scope⟩ := q
    obtain ⟨p, rfl⟩ := dLC_eq hl
    exact ⟨y, tg, i, ifs, scope, p, rfl⟩
  | none =>
    exfalso
    have no : ∀ {z : Expr}, isComp z = true → dLC z = none → ckE N gcN nm sc e z = false := by
      intro z h1 h2
      cases z <;> first | (simp [isComp] at h1; done) | skip
      all_goals
        cases e with
        | o1 o a => cases o <;> simp [ckE, dUn, dCmp, dCall, dSub, bn1, bnI]
        | o2 o a b => cases o <;> simp [ckE, bin2, cmp2, dBin, dCmp, dCall, dSub, dMeth]
        | o3 o a b c => cases o <;> simp [ckE, dCall, dSub, dMeth]
        | _ => simp [ckE, dName, dCon, dBool, dCmp, dIf, dCall, dTup, dLst, dDict, dSub, dMeth, h2]
    rw [no hc hl] at h
    cases h
theorem st_set (C : SCtx n gcN nm gcv cl X) {i : Nat} {r : Rh} {s : Stmt} {c : Cl} (ck : ckS X.N gcN nm X.env.scope (.set i r) s = true) (S : StR X.prog X.w B Hb O env σ H) (h : evR gcv cl r env = some c) (f : Fin X.prog X.w B Hb O H (.nx (env.put i c)) D) : wS X s D σ H := by
  have kk : (match dAsg s with
    | some (t, e) => (match dName t with
      | some x => decide (X.N[i]? = some x) && locB X.env.scope X.env.scope x
      | none => false) && ckR X.N gcN nm X.env.scope r e
    | none => false) = true := ck
  clear ck
  split at kk
  · next t e e1 =>
    obtain ⟨pos, rfl⟩ := dAsg_eq e1
    rw [Bool.and_eq_true] at kk
    obtain ⟨k1, k2⟩ := kk
    split at k1
    · next y e2 =>
      obtain ⟨py, rfl⟩ := dName_eq e2
      rw [Bool.and_eq_true, decide_eq_true_eq] at k1
      obtain ⟨hl, hf⟩ := C.store k1.2
      have plain : swapsWith e (some (.Name y py)) pos.line X.env = pure false → wS X (.Assign [.Name y py] e pos) D σ H := fun hs =>
        wS_of (ps_set C.nd k1.1 hl wE_ok hs hf) (sndR C.toCtx k2 S.E h O H (Le.refl S.E.trk) _ fun v O2 H2 l cv => f O2 _ H2 (cell_set S l cv i) l.vis)
      cases hc : isComp e with
      | false => exact plain (sw_no hc)
      | true =>
        cases r with
        | sh e' =>
          obtain ⟨z, tg, it, ifs, scope, p, rfl⟩ := ck_comp k2 hc
          cases hb : (X.env.blockKind == .function && X.env.kindOf y == some .local && py.line == p.line && !(scope.names.any fun (n, k) => n == y && (k == .local || k == .cell))) with
          | false =>
            refine plain ?_
            show (pure (X.env.blockKind == .function && X.env.kindOf y == some .local && py.line == p.line && !(scope.names.any fun (n, k) => n == y && (k == .local || k == .cell))) : Sem Bool) = pure false
            rw [hb]
          | true =>
            simp only [evR] at h
            split at h
            · next d e3 =>
              cases h
              obtain ⟨own, ds, rfl, L⟩ := sndLC C.toCtx k2 S.E e3
              have hy : X.env.scope.names.lookup y = some .local := by
                rw [Bool.and_eq_true, Bool.and_eq_true, Bool.and_eq_true] at hb
                have := hb.1.1.2
                exact by simpa using (show (X.env.scope.names.lookup y == some NameKind.local) = true from this)
              obtain ⟨t, ht, ho⟩ := L.set (pos := p) (py := py) (spos := pos) C.calm C.nd k1.1 hy (by
                show (pure (X.env.blockKind == .function && X.env.kindOf y == some .local && py.line == p.line && !(scope.names.any fun (n, k) => n == y && (k == .local || k == .cell))) : Sem Bool) = pure true
                rw [hb])
              exact wS_of ht (ho H (Same.refl _) _ fun v H2 e4 rv => f O _ H2 (cell_set (c := .sh (.list ds)) S (Le.of S.E.trk e4) rv i) (same_hide e4))
            · cases h
        | ol es =>
          simp only [ckR] at k2
          split at k2
          · next xs e3 =>
            obtain ⟨p, rfl⟩ := dLst_eq e3
            simp [isComp] at hc
          · cases k2
        | od =>
          simp only [ckR] at k2
          split at k2
          · next e3 =>
            obtain ⟨p, rfl⟩ := dDict_eq e3
            simp [isComp] at hc
          · cases k2
    · cases k1
  · cases kk
end
end Sq
end

section
set_option Elab.async false
set_option linter.all false
set_option maxRecDepth 100000
set_option maxHeartbeats 4000000
/-! statements of the fragment: several names, lists and dicts written -/
namespace Sq
open PySem L2 PyProof.Rows C8

section
variable {n : Nat} {gcN : List Str} {nm : Nat → Option Str} {gcv : Nat → Option Int} {cl : Nat → List D → Option D} {X : Cx} {B O : List Addr} {Hb : Hp} {σ : L2.St} {H : Hp} {x : Expr} {d : D} {env : Env} {D : Ends} {fl : Fl}
theorem cells_mono {Hs : Hp} {O1 O2 : List Addr} {H1 H2 : Hp} {P : Program} {w : World} (l : Le O1 H1 O2 H2) : ∀ {cs : List Cl} {vs : List V}, Paired (CellV P w Hs O1 H1) cs vs → Paired (CellV P w Hs O2 H2) cs vs
  | _, _, .nil => .nil
  | _, _, .cons h t => .cons (h.mono l) (cells_mono l t)
theorem puts_of (S : StR X.prog X.w B Hb O env σ H) {O2 : List Addr} {H2 : Hp} (l : Le O H O2 H2) {cs : List (Nat × Cl)} {vs : List V} (ps : Paired (CellV X.prog X.w H O2 H2) (cs.map (·.2)) vs) (nd : (owns (cs.map (·.2)) vs).Nodup) :
    StR X.prog X.w B Hb O2 (env.puts cs) (sets σ (cs.map (·.1)) vs) H2 :=
  StR.puts (S.same.trans l.same) (S.le l) (cells_from S.same ps) nd fun j q a b m => by
    have hn := owns_new ps q m
    cases e : env.at j with
    | ow d2 =>
      obtain ⟨p, q1, q2, _⟩ := S.E.own e
      rw [b] at q1
      cases q1
      exact S.E.trk _ q2 hn
    | no => rw [e] at a; exact a
    | sh _ => rw [e] at a; exact a
/-- names stored one after another -/
theorem names_store (C : SCtx n gcN nm gcv cl X) : ∀ {l : List (Nat × Rh)} {ts es : List Expr} {vs : List V} {σ : L2.St} {Q : L2.St → Hp → Prop}, ckP X.N gcN nm X.env.scope l ts es = true → vs.length = l.length → Q (sets σ (l.map (·.1)) vs) H → wGs X ts vs σ H Q ∧ ts.length = l.length ∧ ts.all noStar = true
  | [], [], [], vs, σ, Q, ck, hl, q => by
    cases vs with
    | nil => exact ⟨wGs_of pgs_nil ⟨rfl, q⟩, rfl, rfl⟩
    | cons _ _ => cases hl
  | (i, r) :: l, t :: ts, e :: es, vs, σ, Q, ck, hl, q => by
    cases vs with
    | nil => cases hl
    | cons v vs =>
      unfold ckP at ck
      simp only [Bool.and_eq_true] at ck
      obtain ⟨⟨k1, k2⟩, k3⟩ := ck
      split at k1
      · next y e2 =>
        obtain ⟨py, rfl⟩ := dName_eq e2
        rw [Bool.and_eq_true, decide_eq_true_eq] at k1
        obtain ⟨hl1, hf⟩ := C.store k1.2
        have hl' : vs.length = l.length := by simpa using hl
        obtain ⟨g, h1, h2⟩ := names_store C (σ := σ.set i (some v)) (Q := Q) k3 hl' q
        exact ⟨wGs_of (pgs_cons (pg_name C.nd k1.1 hl1 hf) wGs_ok rfl) ⟨v, vs, rfl, g⟩, by rw [List.length_cons, List.length_cons, h1], by rw [List.all_cons, h2]; rfl⟩
      · cases k1
  | [], _ :: _, _, _, _, _, ck, _, _ => by simp [ckP] at ck
  | [], [], _ :: _, _, _, _, ck, _, _ => by simp [ckP] at ck
  | _ :: _, [], _, _, _, _, ck, _, _ => by simp [ckP] at ck
  | _ :: _, _ :: _, [], _, _, _, ck, _, _ => by simp [ckP] at ck
theorem paired_len {α β : Type} {F : α → β → Prop} {a : List α} {b : List β} (h : Paired F a b) : a.length = b.length := Paired.length h
theorem ckP_name {N : List Str} {sc : Scope} {i : Nat} {r : Rh} {l : List (Nat × Rh)} {t e : Expr} {ts es : List Expr} {y : Str} {p : Pos} (ht : t = .Name y p) (ck : ckP N gcN nm sc ((i, r) :: l) (t :: ts) (e :: es) = true) : N[i]? = some y ∧ ckP N gcN nm sc l ts es = true := by
  subst ht
  unfold ckP at ck
  simp only [Bool.and_eq_true] at ck
  obtain ⟨⟨k1, k2⟩, k3⟩ := ck
  simp only [dName, Bool.and_eq_true, decide_eq_true_eq] at k1
  exact ⟨k1.1, k3⟩
theorem st_par (C : SCtx n gcN nm gcv cl X) {l : List (Nat × Rh)} {s : Stmt} {cs : List (Nat × Cl)} (ck : ckS X.N gcN nm X.env.scope (.par l) s = true) (S : StR X.prog X.w B Hb O env σ H) (h : evP gcv cl l env = some cs) (f : Fin X.prog X.w B Hb O H (.nx (env.puts cs)) D) : wS X s D σ H := by
  have kk : (match dAsg s with
    | some (t, e) => match dTup t, dTup e with
      | some ts, some vs => (swK X.env.scope ts vs).isSome && decide ((l.map (·.1)).Nodup) && ckP X.N gcN nm X.env.scope l ts vs
      | _, _ => false
    | none => false) = true := ck
  clear ck
  split at kk
  · next t e e1 =>
    obtain ⟨pos, rfl⟩ := dAsg_eq e1
    split at kk
    · next ts vs e2 e3 =>
      obtain ⟨kt, pt, rfl⟩ := dTup_eq e2
      obtain ⟨kv, pv, rfl⟩ := dTup_eq e3
      simp only [Bool.and_eq_true, decide_eq_true_eq] at kk
      obtain ⟨⟨k1, k2⟩, k3⟩ := kk
      obtain ⟨hy, hfst⟩ := sndP C.toCtx k3 S.E h
      obtain ⟨b, hb⟩ := Option.isSome_iff_exists.mp k1
      have len : cs.length = l.length := by
        have := congrArg List.length hfst
        simpa using this
      cases b with
      | false =>
        have tup : PE X (.Tuple vs kv pv) (tTup (wA X vs)) := pe_tup wA_ok
        have all : ts.all noStar = true := by
          obtain ⟨us, hus⟩ : ∃ us : List V, us.length = l.length := ⟨List.replicate l.length .non, List.length_replicate⟩
          exact (names_store C (H := H) (σ := σ) (vs := us) (Q := fun _ _ => True) k3 hus trivial).2.2
        obtain ⟨a1, a2⟩ := asg_each (env := X.env) ts all
        refine wS_of (ps_asg tup (pg_tup C.calm wGs_ok a1 a2) rfl (sw_false hb)) ?_
        refine hy O H (Le.refl S.E.trk) _ fun us O2 H2 l2 ps nd => ⟨?_, fun p hp => ?_⟩
        · rw [← paired_len ps, List.length_map, len]
          have hsz : l.length ≤ 3 := by
            have e4 := (names_store C (H := H) (σ := σ) (vs := us) (Q := fun _ _ => True) k3 (by rw [← paired_len ps, List.length_map, len]) trivial).2.1
            rw [swK_eq] at hb
            split at hb
            · next hh =>
              rw [Bool.and_eq_true, Bool.or_eq_true, beq_iff_eq, beq_iff_eq] at hh
              omega
            · cases hb
          exact fits (by omega)
        · have ul : us.length = l.length := by rw [← paired_len ps, List.length_map, len]
          have e5 := same_new (o := .tup us) hp
          have l3 := Le.of l2.trk e5
          have Sx := puts_of S (l2.trans l3) (cells_mono l3 ps) nd
          rw [hfst] at Sx
          obtain ⟨g, h1, _⟩ := names_store C (H := upd H2 p (.tup us)) (σ := σ) (vs := us) (Q := D.nx) k3 ul (f O2 _ _ Sx (l2.vis.trans l3.vis))
          exact ⟨p, us, rfl, .inl (.inl upd_same), by rw [ul, ← h1], g⟩
      | true =>
        rcases sw_true' (k := kt) (k2 := kv) (p := pt) (p2 := pv) C.kind hb with ⟨y, z, py, pz, a, b, rfl, rfl, ly, lz, hw⟩ | ⟨y, z, u, py, pz, pu, a, b, c, rfl, rfl, ly, lz, lu, hw⟩
        · match l, k2, k3, hfst, len, hy with
          | [(i, r1), (j, r2)], k2, k3, hfst, len, hy =>
            obtain ⟨n1, k4⟩ := ckP_name rfl k3
            obtain ⟨n2, _⟩ := ckP_name rfl k4
            have hij : i ≠ j := by simpa using k2
            have hne : y ≠ z := fun e => hij (nodup_ix C.nd n1 (by rw [e]; exact n2))
            refine wS_of (ps_par C.calm C.nd n1 n2 hij ly lz wA_ok (hw hne)) (hy O H (Le.refl S.E.trk) _ fun us O2 H2 l2 ps nd => ?_)
            have Sx := puts_of S l2 ps nd
            rw [hfst] at Sx
            have ul : us.length = 2 := by rw [← paired_len ps, List.length_map, len]; rfl
            match us, ul, Sx with
            | [v1, v2], _, Sx => exact ⟨v1, v2, rfl, f O2 _ H2 Sx l2.vis⟩
          | [], _, k3, _, _, _ => simp [ckP] at k3
          | [_], _, k3, _, _, _ => simp [ckP] at k3
          | _ :: _ :: _ :: _, _, k3, _, _, _ => simp [ckP] at k3
        · match l, k2, k3, hfst, len, hy with
          | [(i, r1), (j, r2), (m, r3)], k2, k3, hfst, len, hy =>
            obtain ⟨n1, k4⟩ := ckP_name rfl k3
            obtain ⟨n2, k5⟩ := ckP_name rfl k4
            obtain ⟨n3, _⟩ := ckP_name rfl k5
            have hnd : i ≠ j ∧ i ≠ m ∧ j ≠ m := by
              simp at k2
              exact ⟨k2.1.1, k2.1.2, k2.2⟩
            obtain ⟨hij, him, hjm⟩ := hnd
            have w1 : y ≠ z := fun e => hij (nodup_ix C.nd n1 (by rw [e]; exact n2))
            have w2 : y ≠ u := fun e => him (nodup_ix C.nd n1 (by rw [e]; exact n3))
            have w3 : z ≠ u := fun e => hjm (nodup_ix C.nd n2 (by rw [e]; exact n3))
            refine wS_of (ps_par3 C.calm C.nd n1 n2 n3 hij him hjm ly lz lu wA_ok (hw w1 w2 w3)) (hy O H (Le.refl S.E.trk) _ fun us O2 H2 l2 ps nd => ?_)
            have Sx := puts_of S l2 ps nd
            rw [hfst] at Sx
            have ul : us.length = 3 := by rw [← paired_len ps, List.length_map, len]; rfl
            match us, ul, Sx with
            | [v1, v2, v3], _, Sx => exact ⟨v1, v2, v3, rfl, f O2 _ H2 Sx l2.vis⟩
          | [], _, k3, _, _, _ => simp [ckP] at k3
          | [_], _, k3, _, _, _ => simp [ckP] at k3
          | [_, _], _, k3, _, _, _ => simp [ckP] at k3
          | _ :: _ :: _ :: _ :: _, _, k3, _, _, _ => simp [ckP] at k3
    · cases kk
  · cases kk
end
end Sq
end

section
set_option Elab.async false
set_option linter.all false
set_option maxRecDepth 100000
set_option maxHeartbeats 4000000
/-! statements of the fragment: unpacking, lists and dicts written, loops -/
namespace Sq
open PySem L2 PyProof.Rows C8

section
variable {n : Nat} {gcN : List Str} {nm : Nat → Option Str} {gcv : Nat → Option Int} {cl : Nat → List D → Option D} {X : Cx} {B O : List Addr} {Hb : Hp} {σ : L2.St} {H : Hp} {x : Expr} {d : D} {env : Env} {D : Ends} {fl : Fl}
theorem sole_no {t x : Expr} {l : Nat} {e : PySem.Env} (h : ∀ y p, t ≠ .Name y p) : swapsWithSole [t] x l e = pure false := by
  cases t with
  | Name y p => exact absurd rfl (h y p)
  | _ => cases x <;> rfl
theorem st_tgt (C : SCtx n gcN nm gcv cl X) {t : Tg} {e : E} {s : Stmt} {env1 : Env} (ck : ckS X.N gcN nm X.env.scope (.tgt t e) s = true) (S : StR X.prog X.w B Hb O env σ H) (h : ev gcv cl e env = some d) (ha : asgT t d env = some env1) (f : Fin X.prog X.w B Hb O H (.nx env1) D) : wS X s D σ H := by
  have kk : (match dAsg s with
    | some (tg, x) => (dTup tg).isSome && (match dTup x, dTup tg with
      | none, _ => true
      | some _, some ts => ts.any fun y => (dName y).isNone
      | _, _ => false) && ckT X.N X.env.scope X.env.scope t tg && ckE X.N gcN nm X.env.scope e x
    | none => false) = true := ck
  clear ck
  split at kk
  · next tg x e1 =>
    obtain ⟨pos, rfl⟩ := dAsg_eq e1
    simp only [Bool.and_eq_true] at kk
    obtain ⟨⟨⟨k1, k2⟩, k3⟩, k4⟩ := kk
    obtain ⟨ts, e2⟩ := Option.isSome_iff_exists.mp k1
    obtain ⟨kt, pt, rfl⟩ := dTup_eq e2
    have hw : swappedStores [.Tuple ts kt pt] x X.env = pure none := by
      cases e3 : dTup x with
      | none => exact stores_other e3
      | some vs =>
        obtain ⟨k, p, rfl⟩ := dTup_eq e3
        have k2' : (ts.any fun y => (dName y).isNone) = true := k2
        rw [List.any_eq_true] at k2'
        obtain ⟨y, hy, hn⟩ := k2'
        refine stores_none hy ?_
        cases y with
        | Name z pz => simp [dName] at hn
        | _ => rfl
    refine wS_of (ps_asg wE_ok wG_ok (sole_no (by intro y p z; cases z)) hw) ?_
    refine sndE e C.toCtx k4 S.E h H (Same.refl _) _ fun v H2 e3 r => ?_
    refine sndG C.toNm t _ k3 d env env1 v σ _ ha (S.E.same e3) r fun σ2 E2 w2 => ?_
    have ho : ∀ j, (j ∉ slots t → env1.at j = env.at j) ∧ (j ∈ slots t → ¬ isOw (env1.at j)) := fun j => ⟨asg_out t d env env1 j ha, asg_in t d env env1 j ha⟩
    exact f O σ2 H2 (S.asg E2 e3 (w2 (slots t) fun j hj => hj) ho) (same_hide e3)
  · cases kk
theorem ty_lst {p : Addr} {vs : List V} (h : H p = some (.lst vs)) : TyW X "list" (.ref p) H := by
  intro pins s σ v I rv
  cases rv
  obtain ⟨hz, its, n, r, ho⟩ := I.hok p _ h
  exact ⟨⟨_, ho, rfl⟩, fun a z => by
    cases z
    exact ⟨_, ho, rfl⟩⟩
theorem st_app (C : SCtx n gcN nm gcv cl X) {i : Nat} {e : E} {s : Stmt} {xs : List Sq.D} (ck : ckS X.N gcN nm X.env.scope (.app i e) s = true) (S : StR X.prog X.w B Hb O env σ H) (hi : env.at i = .ow (.list xs)) (h : ev gcv cl e env = some d) (hl : xs.length < 10000)
    (f : Fin X.prog X.w B Hb O H (.nx (env.put i (.ow (.list (xs ++ [d]))))) D) : wS X s D σ H := by
  have kk : (match dExp s with
    | some y => match dMeth y with
      | some (o, m, [x]) => (m == Str.ofString "append") && (match dName o with
        | some u => decide (X.N[i]? = some u) && visB X.env.scope u
        | none => false) && ckE X.N gcN nm X.env.scope e x
      | _ => false
    | none => false) = true := ck
  clear ck
  split at kk
  · next y e1 =>
    obtain ⟨pos, rfl⟩ := dExp_eq e1
    split at kk
    · next o m x e2 =>
      obtain ⟨ap, p, rfl, line⟩ := dMeth_eq e2
      simp only [Bool.and_eq_true, beq_iff_eq] at kk
      obtain ⟨⟨rfl, k2⟩, k3⟩ := kk
      split at k2
      · next u e3 =>
        obtain ⟨pu, rfl⟩ := dName_eq e3
        rw [Bool.and_eq_true, decide_eq_true_eq] at k2
        obtain ⟨q, e4, hq, vs, h1, r1⟩ := S.E.own hi
        have sx := ck_star k3
        refine wS_of (ps_expr (pe_mt (T := "list") (id := "list.append") PySem.F.plainAttrs_list PySem.F.slot_list_append PySem.F.type_list_append wE_ok (pa_cons wE_ok pa_nil (star_of sx)) rfl ?_ (by simpa using line) (star_of sx) rfl) rfl) ?_
        · rw [star_of sx]
          rfl
        · refine var_own C.toCtx k2.1 k2.2 e4 ⟨ty_lst h1, ?_⟩
          refine sndE e C.toCtx k3 S.E h H (Same.refl _) _ fun v H2 e5 rv => ?_
          intro pins s1 σ1 w us I rw2 rus
          cases rw2
          obtain ⟨u1, rfl, ru⟩ := vals1 rus
          have h2 := e5 q _ h1
          have len := r1.length
          refine app_ok I h2 (by rw [sizeLine_eq]; omega) ru fun s2 I2 => ⟨.non, _, I2, rfl, ?_⟩
          have S2 := (S.grow e5).write (d' := .list (xs ++ [d])) (o := .lst (vs ++ [v])) hi e4 hq ⟨vs ++ [v], upd_same, ((r1.mono (same_hide e5)).mono (hide_upd hq)).app (.cons (rv.mono (hide_upd hq)) .nil)⟩
          exact f O σ _ S2 ((same_hide e5).trans (hide_upd hq))
      · cases k2
    · cases kk
  · cases kk
/-- o[k] = v, by values -/
def wSet (X : Cx) : TSet := fun o i v H Q => ∀ (pins : List (Addr × Obj)) (s : Shared) (σ : L2.St) (ov iv u : Value), Inv X pins σ H s → RelV o ov → RelV i iv → RelV v u → wpAny (model X.prog X.w) X.A (setItem ov iv u) (fun _ s' => ∃ H', Inv X pins σ H' s' ∧ Q H') X.xe s
theorem wSet_ok {X : Cx} : PSet X (wSet X) := fun pins s σ H o i v ov iv u Q I r1 r2 r3 h => h pins s σ ov iv u I r1 r2 r3
theorem st_put (C : SCtx n gcN nm gcv cl X) {i : Nat} {k x : E} {s : Stmt} {kvs : List (Sq.D × Sq.D)} {dx dk : Sq.D} (ck : ckS X.N gcN nm X.env.scope (.put i k x) s = true) (S : StR X.prog X.w B Hb O env σ H) (hi : env.at i = .ow (.dict kvs)) (hx : ev gcv cl x env = some dx) (hk : ev gcv cl k env = some dk)
    (kd : isTupKey dk = true) (hl : kvs.length < 10000) (f : Fin X.prog X.w B Hb O H (.nx (env.put i (.ow (.dict (dput dk dx kvs))))) D) : wS X s D σ H := by
  have kk : (match dAsg s with
    | some (t, y) => match dSub t with
      | some (o, z) => (match dSli z with
        | none => true
        | some _ => false) && (match dName o with
        | some u => decide (X.N[i]? = some u) && visB X.env.scope u
        | none => false) && ckE X.N gcN nm X.env.scope k z && ckE X.N gcN nm X.env.scope x y
      | none => false
    | none => false) = true := ck
  clear ck
  split at kk
  · next t y e1 =>
    obtain ⟨pos, rfl⟩ := dAsg_eq e1
    split at kk
    · next o z e2 =>
      obtain ⟨ps, rfl⟩ := dSub_eq e2
      simp only [Bool.and_eq_true] at kk
      obtain ⟨⟨⟨k1, k2⟩, k3⟩, k4⟩ := kk
      split at k2
      · next u e3 =>
        obtain ⟨pu, rfl⟩ := dName_eq e3
        rw [Bool.and_eq_true, decide_eq_true_eq] at k2
        obtain ⟨q, e4, hq, o, ys, h1, hsm, dob, rk⟩ := S.E.own hi
        obtain ⟨nk, n1, n2, ts, n3⟩ := tupKey_of kd
        subst n3
        refine wS_of (ps_asg wE_ok (pg_sub (i := z) wE_ok wE_ok wSet_ok ?_) (sole_no (by intro y p z; cases z)) ?_) ?_
        · intro v
          have sz := ck_shp k3
          cases z with
          | Slice a b c p => simp [shp] at sz
          | _ => rfl
        · rfl
        · refine sndE x C.toCtx k4 S.E hx H (Same.refl _) _ fun v H2 e5 rv => ?_
          refine var_own C.toCtx k2.1 k2.2 e4 ?_
          refine sndE k C.toCtx k3 (S.E.same e5) hk H2 (Same.refl _) _ fun w H3 e6 rw3 => ?_
          intro pins s1 σ1 ov iv u1 I r1 r2 r3
          cases r1
          cases rw3 with
          | tup g1 g2 g3 =>
            cases r2
            have h3 := e6 q _ (e5 q _ h1)
            have m := dict_of I h3 dob (rk.mono (same_hide (e5.trans e6)))
            have len := rk.length
            refine wpAny_setItem_heap (room8 C.room) (rep_is I n1 n2 (.tup g1 g2 g3)) m (fun h' m' sb => ?_) (by rw [sizeLine_eq]; omega)
            obtain ⟨o', ho', dob'⟩ := dobj_of m'
            have I2 : Inv X pins σ1 (upd H3 q (At q o')) { s1 with heap := h', toks := s1.toks + (nestedKind X.prog X.w).draws nk } := I.write (by rw [h3]; trivial) (.inl rfl) (fun b u hb q => (sb.2 b hb).trans q) ⟨_, ho'⟩ (at_mk ho')
            refine ⟨_, I2, ?_⟩
            have nd : (ys.map (·.1)).Nodup := dob.nd
            have rk3 := (rk.mono (same_hide (e5.trans e6))).mono (hide_upd (o := At q o') hq)
            have rs := rk3.storedH n1 n2 ((Rep.tup g1 g2 g3).mono (hide_upd hq)) r3 ((rv.mono (same_hide e6)).mono (hide_upd hq)) nd
            have S2 := ((S.grow e5).grow e6).write (d' := .dict (dput (.tuple ts) dx kvs)) (o := At q o') hi e4 hq ⟨o', _, upd_same, hsm, dob', rs⟩
            exact f O σ _ S2 (((same_hide e5).trans (same_hide e6)).trans (hide_upd hq))
      · cases k2
    · cases kk
  · cases kk
theorem st_ex (C : SCtx n gcN nm gcv cl X) {e : E} {s : Stmt} (ck : ckS X.N gcN nm X.env.scope (.ex e) s = true) (S : StR X.prog X.w B Hb O env σ H) (h : ev gcv cl e env = some d) (f : Fin X.prog X.w B Hb O H (.nx env) D) : wS X s D σ H := by
  have kk : (match dExp s with
    | some x => (dCall x).isSome && ckE X.N gcN nm X.env.scope e x
    | none => false) = true := ck
  clear ck
  split at kk
  · next x e1 =>
    obtain ⟨pos, rfl⟩ := dExp_eq e1
    rw [Bool.and_eq_true] at kk
    obtain ⟨q, e2⟩ := Option.isSome_iff_exists.mp kk.1
    obtain ⟨g, es⟩ := q
    obtain ⟨p1, p2, rfl⟩ := dCall_eq e2
    exact wS_of (ps_expr wE_ok rfl) (sndE e C.toCtx kk.2 S.E h H (Same.refl _) _ fun v H2 e3 r => f O σ H2 (S.grow e3) (same_hide e3))
  · cases kk
theorem st_ret (C : SCtx n gcN nm gcv cl X) {e : E} {s : Stmt} (ck : ckS X.N gcN nm X.env.scope (.ret e) s = true) (S : StR X.prog X.w B Hb O env σ H) (h : ev gcv cl e env = some d) (f : Fin X.prog X.w B Hb O H (.rt d) D) : wS X s D σ H := by
  have kk : (match dRet s with
    | some x => ckE X.N gcN nm X.env.scope e x
    | none => false) = true := ck
  clear ck
  split at kk
  · next x e1 =>
    obtain ⟨pos, rfl⟩ := dRet_eq e1
    exact wS_of (ps_ret wE_ok) (sndE e C.toCtx kk S.E h H (Same.refl _) _ fun v H2 e3 r => f v H2 (S.same.trans e3) (Rep.mono (hide_sub S.sub) r))
  · cases kk
/-- what a block does -/
def HyB (X : Cx) (B : List Addr) (Hb : Hp) (b : List Stmt) (run : Env → Option Fl) : Prop := ∀ (O : List Addr) (env : Env) (σ : L2.St) (H : Hp) (fl : Fl) (D : Ends), StR X.prog X.w B Hb O env σ H → run env = some fl → Fin X.prog X.w B Hb O H fl D → wSs X b D σ H
theorem st_ite (C : SCtx n gcN nm gcv cl X) {c : E} {a b : SL} {s : Stmt} (ck : ckS X.N gcN nm X.env.scope (.ite c a b) s = true) (S : StR X.prog X.w B Hb O env σ H) (iha : ∀ as, cks X.N gcN nm X.env.scope a as = true → HyB X B Hb as (exs gcv cl a)) (ihb : ∀ bs, cks X.N gcN nm X.env.scope b bs = true → HyB X B Hb bs (exs gcv cl b))
    {k : Bool} (h : ev gcv cl c env = some (.bool k)) (hr : (if k = true then exs gcv cl a env else exs gcv cl b env) = some fl) (f : Fin X.prog X.w B Hb O H fl D) : wS X s D σ H := by
  have kk : (match dIfS s with
    | some (x, as, bs) => tst c && ckE X.N gcN nm X.env.scope c x && cks X.N gcN nm X.env.scope a as && cks X.N gcN nm X.env.scope b bs
    | none => false) = true := ck
  clear ck
  split at kk
  · next x as bs e1 =>
    obtain ⟨pos, rfl⟩ := dIfS_eq e1
    simp only [Bool.and_eq_true] at kk
    obtain ⟨⟨⟨k1, k2⟩, k3⟩, k4⟩ := kk
    refine wS_of (ps_if wT_ok wSs_ok wSs_ok) (sndT c C.toCtx k1 k2 S.E h H (Same.refl _) _ fun H2 e2 => ?_)
    cases k with
    | true => exact iha as k3 O env σ H2 fl D (S.grow e2) hr (f.mono (same_hide e2))
    | false => exact ihb bs k4 O env σ H2 fl D (S.grow e2) hr (f.mono (same_hide e2))
  · cases kk
theorem st_whl (C : SCtx n gcN nm gcv cl X) {c : E} {b : SL} {s : Stmt} (ck : ckS X.N gcN nm X.env.scope (.whl c b) s = true) (S : StR X.prog X.w B Hb O env σ H) (ihb : ∀ bs, cks X.N gcN nm X.env.scope b bs = true → HyB X B Hb bs (exs gcv cl b))
    {m : Nat} (h : whlL (ev gcv cl c) (exs gcv cl b) m env = some fl) (f : Fin X.prog X.w B Hb O H fl D) : wS X s D σ H := by
  have kk : (match dWhl s with
    | some (x, bs) => tst c && ckE X.N gcN nm X.env.scope c x && cks X.N gcN nm X.env.scope b bs
    | none => false) = true := ck
  clear ck
  split at kk
  · next x bs e1 =>
    obtain ⟨pos, rfl⟩ := dWhl_eq e1
    simp only [Bool.and_eq_true] at kk
    obtain ⟨⟨k1, k2⟩, k3⟩ := kk
    refine wS_of (ps_while C.po wT_ok wSs_ok) ⟨fun m σ' H' => ∃ O' env', StR X.prog X.w B Hb O' env' σ' H' ∧ whlL (ev gcv cl c) (exs gcv cl b) m env' = some fl ∧ Same (hide O H) (hide O' H'), ⟨m, O, env, S, h, Same.refl _⟩, fun m σ' H' ⟨O', env', S', h', vis⟩ => ?_⟩
    cases m with
    | zero => simp [whlL] at h'
    | succ m =>
      unfold whlL at h'
      split at h'
      · next ec =>
        refine sndT c C.toCtx k1 k2 S'.E ec H' (Same.refl _) _ fun H2 e2 => ?_
        rw [if_pos rfl]
        have S2 := S'.grow e2
        have vis2 := vis.trans (same_hide (O := O') e2)
        refine ⟨fun σ3 H3 => ∃ O3 env3, StR X.prog X.w B Hb O3 env3 σ3 H3 ∧ whlL (ev gcv cl c) (exs gcv cl b) m env3 = some fl ∧ Same (hide O H) (hide O3 H3), fun σ3 H3 h3 => ⟨m, Nat.lt_succ_self m, h3⟩, ?_⟩
        split at h'
        · next env2 eb => exact ihb bs k3 O' env' σ' H2 (.nx env2) _ S2 eb fun O3 σ3 H3 S3 v3 => ⟨O3, env2, S3, h', vis2.trans v3⟩
        · next r eb =>
          cases h'
          exact ihb bs k3 O' env' σ' H2 (.rt r) _ S2 eb fun v H3 e3 r3 => f v H3 e3 r3
        · cases h'
      · next ec =>
        cases h'
        refine sndT c C.toCtx k1 k2 S'.E ec H' (Same.refl _) _ fun H2 e2 => ?_
        rw [if_neg Bool.false_ne_true]
        exact f O' σ' H2 (S'.grow e2) (vis.trans (same_hide e2))
      · cases h'
  · cases kk
theorem forL_drop {asg : Yd → Env → Option Env} {body : Env → Option Fl} : ∀ {ys : List Yd} {i : Nat} {y : Yd} {env : Env}, ys[i]? = some y → forL asg body (ys.drop i) env = some fl →
    ∃ env1, asg y env = some env1 ∧ ((∃ env2, body env1 = some (.nx env2) ∧ forL asg body (ys.drop (i + 1)) env2 = some fl) ∨ ∃ d, body env1 = some (.rt d) ∧ fl = .rt d)
  | [], i, y, env, e, h => by simp at e
  | z :: ys, 0, y, env, e, h => by
    have ez : z = y := by simpa using e
    subst ez
    have h' : forL asg body (z :: ys) env = some fl := h
    unfold forL at h'
    split at h'
    · next env1 e1 =>
      split at h'
      · next env2 e2 => exact ⟨env1, e1, .inl ⟨env2, e2, h'⟩⟩
      · next r e2 =>
        cases h'
        exact ⟨env1, e1, .inr ⟨r, e2, rfl⟩⟩
      · cases h'
    · cases h'
  | z :: ys, i + 1, y, env, e, h => forL_drop (ys := ys) (i := i) (by simpa using e) h
theorem st_for (C : SCtx n gcN nm gcv cl X) {t : Tg} {it : I} {b : SL} {s : Stmt} {ys : List Yd} (ck : ckS X.N gcN nm X.env.scope (.for t it b) s = true) (S : StR X.prog X.w B Hb O env σ H) (ihb : ∀ bs, cks X.N gcN nm X.env.scope b bs = true → HyB X B Hb bs (exs gcv cl b))
    (hi : evI gcv cl it env = some ys) (h : forL (asgY t) (exs gcv cl b) ys env = some fl) (f : Fin X.prog X.w B Hb O H fl D) : wS X s D σ H := by
  have kk : (match dFor s with
    | some (tg, i, bs) => ckT X.N X.env.scope X.env.scope t tg && ckI X.N gcN nm X.env.scope it i tg && cks X.N gcN nm X.env.scope b bs
    | none => false) = true := ck
  clear ck
  split at kk
  · next tg i bs e1 =>
    obtain ⟨pos, rfl⟩ := dFor_eq e1
    simp only [Bool.and_eq_true] at kk
    obtain ⟨⟨k1, k2⟩, k3⟩ := kk
    refine wS_of (ps_for C.po C.calm wI_ok wG_ok wSs_ok (fold_of (ckI_set k2))) ?_
    refine sndI it C.toCtx k2 S.E hi H (Same.refl _) _ fun H1 e2 => ?_
    have S1 := S.grow e2
    have v1 : Same (hide O H) (hide O H1) := same_hide e2
    refine ⟨fun i m σ' H' => m = ys.length - i ∧ i ≤ ys.length ∧ ∃ O' env', StR X.prog X.w B Hb O' env' σ' H' ∧ forL (asgY t) (exs gcv cl b) (ys.drop i) env' = some fl ∧ Same (hide O H1) (hide O' H'),
      ⟨ys.length, rfl, Nat.zero_le _, O, env, S1, h, Same.refl _⟩, fun i m σ' H' hw => ?_⟩
    obtain ⟨rfl, hi2, O', env', S', h', vis⟩ := hw
    have sg : Same (hide O H1) H' := vis.trans hide_le
    by_cases hlt : i < ys.length
    · refine .inr ⟨⟨sg, hlt⟩, fun σ3 H3 => ∃ O3 env3, StR X.prog X.w B Hb O3 env3 σ3 H3 ∧ forL (asgY t) (exs gcv cl b) (ys.drop (i + 1)) env3 = some fl ∧ Same (hide O H1) (hide O3 H3), fun σ3 H3 h3 => ⟨ys.length - (i + 1), by omega, rfl, hlt, h3⟩, fun x H2 yl => ?_⟩
      obtain ⟨y, ey, yh⟩ := yl
      obtain ⟨env1, ea, hb⟩ := forL_drop ey h'
      refine sndY C.toNm k1 ea S'.E yh vis fun σ2 sm E2 hw => ?_
      have S2 := S'.asg E2 sm (hw (slots t) fun j hj => hj) fun j => asgY_both ea
      have v2 := vis.trans (same_hide (O := O') sm)
      rcases hb with ⟨env2, eb, hr⟩ | ⟨d, eb, rfl⟩
      · exact ihb bs k3 O' env1 σ2 H2 (.nx env2) _ S2 eb fun O3 σ3 H3 S3 v3 => ⟨O3, env2, S3, hr, v2.trans v3⟩
      · exact ihb bs k3 O' env1 σ2 H2 (.rt d) _ S2 eb fun v H3 e3 r3 => f v H3 e3 r3
    · have e3 : i = ys.length := by omega
      subst e3
      rw [List.drop_length] at h'
      cases h'
      exact .inl ⟨⟨sg, rfl⟩, f O' σ' H' S' (v1.trans vis)⟩
  · cases kk
end
end Sq
end

section
set_option Elab.async false
set_option linter.all false
set_option maxRecDepth 100000
set_option maxHeartbeats 4000000
/-! a body, by data -/
namespace Sq
open PySem L2 PyProof.Rows C8

section
variable {n : Nat} {gcN : List Str} {nm : Nat → Option Str} {gcv : Nat → Option Int} {cl : Nat → List D → Option D} {X : Cx} {B : List Addr} {Hb : Hp}
theorem cks_cons {N : List Str} {sc : Scope} {s : S} {ss : SL} {xs : List Stmt} (hf : ∀ i, s ≠ .frz i) (h : cks N gcN nm sc (.cons s ss) xs = true) : ∃ x xs', xs = x :: xs' ∧ ckS N gcN nm sc s x = true ∧ cks N gcN nm sc ss xs' = true := by
  cases xs with
  | nil => cases s <;> first | (exact absurd rfl (hf _)) | (simp [cks] at h)
  | cons x xs =>
    refine ⟨x, xs, rfl, ?_⟩
    have h' : (ckS N gcN nm sc s x && cks N gcN nm sc ss xs) = true := by
      cases s <;> first | (exact absurd rfl (hf _)) | (exact h)
    rw [Bool.and_eq_true] at h'
    exact h'
mutual
theorem sndS (C : SCtx n gcN nm gcv cl X) : ∀ (s : S) {st : Stmt} {O : List Addr} {env : Env} {σ : L2.St} {H : Hp} {fl : Fl} {D : Ends}, ckS X.N gcN nm X.env.scope s st = true → StR X.prog X.w B Hb O env σ H → ex gcv cl s env = some fl → Fin X.prog X.w B Hb O H fl D → wS X st D σ H
  | .set i r, st, O, env, σ, H, fl, D, ck, S, h, f => by
    unfold ex at h
    split at h
    · next c e =>
      cases h
      exact st_set C ck S e f
    · cases h
  | .par l, st, O, env, σ, H, fl, D, ck, S, h, f => by
    unfold ex at h
    split at h
    · next cs e =>
      cases h
      exact st_par C ck S e f
    · cases h
  | .tgt t e, st, O, env, σ, H, fl, D, ck, S, h, f => by
    unfold ex at h
    split at h
    · next d e1 =>
      split at h
      · next env1 e2 =>
        cases h
        exact st_tgt C ck S e1 e2 f
      · cases h
    · cases h
  | .frz i, st, O, env, σ, H, fl, D, ck, S, h, f => by simp [ckS] at ck
  | .app i e, st, O, env, σ, H, fl, D, ck, S, h, f => by
    unfold ex at h
    split at h
    · next xs e1 =>
      split at h
      · next d e2 =>
        split at h
        · next hl =>
          cases h
          exact st_app C ck S e1 e2 hl f
        · cases h
      · cases h
    · cases h
  | .put i k x, st, O, env, σ, H, fl, D, ck, S, h, f => by
    unfold ex at h
    split at h
    · next kvs e1 =>
      split at h
      · next y e2 =>
        split at h
        · next d e3 =>
          split at h
          · next hl =>
            cases h
            rw [Bool.and_eq_true, decide_eq_true_eq] at hl
            exact st_put C ck S e1 e2 e3 hl.1 hl.2 f
          · cases h
        · cases h
      · cases h
    · cases h
  | .ex e, st, O, env, σ, H, fl, D, ck, S, h, f => by
    unfold ex at h
    split at h
    · next d e1 =>
      cases h
      exact st_ex C ck S e1 f
    · cases h
  | .for t it b, st, O, env, σ, H, fl, D, ck, S, h, f => by
    unfold ex at h
    split at h
    · next ys e1 => exact st_for C ck S (fun bs cb => sndSs C b cb) e1 h f
    · cases h
  | .whl c b, st, O, env, σ, H, fl, D, ck, S, h, f => by
    unfold ex at h
    exact st_whl C ck S (fun bs cb => sndSs C b cb) h f
  | .ite c a b, st, O, env, σ, H, fl, D, ck, S, h, f => by
    unfold ex at h
    split at h
    · next e1 => exact st_ite (k := true) C ck S (fun as ca => sndSs C a ca) (fun bs cb => sndSs C b cb) e1 h f
    · next e1 => exact st_ite (k := false) C ck S (fun as ca => sndSs C a ca) (fun bs cb => sndSs C b cb) e1 h f
    · cases h
  | .ret e, st, O, env, σ, H, fl, D, ck, S, h, f => by
    unfold ex at h
    split at h
    · next d e1 =>
      cases h
      exact st_ret C ck S e1 f
    · cases h
  | .never, st, O, env, σ, H, fl, D, ck, S, h, f => by simp [ex] at h
theorem sndSs (C : SCtx n gcN nm gcv cl X) : ∀ (ss : SL) {xs : List Stmt}, cks X.N gcN nm X.env.scope ss xs = true → HyB X B Hb xs (exs gcv cl ss)
  | .nil, xs, ck => fun O env σ H fl D S h f => by
    cases xs with
    | nil =>
      unfold exs at h
      cases h
      exact wSs_of pss_nil (f O σ H S (Same.refl _))
    | cons _ _ => simp [cks] at ck
  | .cons s ss, xs, ck => fun O env σ H fl D S h f => by
    by_cases hf : ∃ i, s = .frz i
    · obtain ⟨i, rfl⟩ := hf
      have ck' : cks X.N gcN nm X.env.scope ss xs = true := by
        cases xs <;> exact ck
      unfold exs at h
      simp only [ex] at h
      cases hi : env.at i with
      | ow d =>
        simp only [hi] at h
        obtain ⟨p, e1, hp, ow⟩ := S.E.own hi
        exact sndSs C ss ck' _ _ σ H fl D (S.frz hi e1 ow) h (f.mono drop1_vis)
      | no =>
        simp only [hi] at h
        exact sndSs C ss ck' O env σ H fl D S h f
      | sh d =>
        simp only [hi] at h
        exact sndSs C ss ck' O env σ H fl D S h f
    · obtain ⟨x, xs', rfl, k1, k2⟩ := cks_cons (fun i e => hf ⟨i, e⟩) ck
      unfold exs at h
      split at h
      · next env1 e1 =>
        refine wSs_of (pss_cons wS_ok wSs_ok) (sndS C s k1 S e1 fun O' σ' H' S' v => ?_)
        exact sndSs C ss k2 O' env1 σ' H' fl D S' h (f.mono v)
      · next d e1 =>
        cases h
        exact wSs_of (pss_cons wS_ok wSs_ok) (sndS C s k1 S e1 f)
      · cases h
end
end
end Sq
end

section
set_option Elab.async false
set_option linter.all false
set_option maxRecDepth 100000
set_option maxHeartbeats 4000000
/-! the defs, by data -/
namespace Sq
open PySem L2 PyProof.Rows

/-- what is known of the module and of the text's defs -/
structure Facts (K : PySem.W.Frag) (mg : Str → Option Value) (gcN : List Str) (nm : Nat → Option Str) (gcv : Nat → Option Int) (tab : Nat → Option Df) (sl : Nat → List Str) (tp : Nat → Stmt) : Prop where
  df : ∀ g x, nm g = some x → ∃ f' f fd, tab g = some f' ∧ L2.Fun K x x (tp g) f fd ∧ mg x = some (.ref f) ∧ Binds K fd ((sl g).take f'.pars) [] ∧ FnScope (sl g) ((sl g).take f'.pars) (defScope (tp g)) ∧ ckD gcN nm (sl g) f' (tp g) = true
  bi : ∀ b : String, b ∈ biL → mg (Str.ofString b) = none
  con : ∀ i k x, gcv i = some k → gcN[i]? = some x → ∃ t, mg x = some (.int k t)
section
variable {P : Program} {w : World} {K : PySem.W.Frag} {mg : Str → Option Value} {base : Heap} {gcN : List Str} {nm : Nat → Option Str} {gcv : Nat → Option Int} {tab : Nat → Option Df} {sl : Nat → List Str} {tp : Nat → Stmt}
theorem frame_at : ∀ (m : Nat) (ds : List D) (i : Nat), (frame m ds).at i = if i < m then (match ds[i]? with
    | some d => .sh d
    | none => .no) else .no
  | m, [], i => by
    have e : (frame m []).at i = .no := by
      simp only [frame]
      induction m generalizing i with
      | zero => rfl
      | succ m ih =>
        cases i with
        | zero => rfl
        | succ i => exact ih i
    rw [e]
    split <;> rfl
  | 0, d :: ds, i => by
    rw [if_neg (Nat.not_lt_zero _)]
    simp only [frame]
    rfl
  | m + 1, d :: ds, 0 => by
    rw [if_pos (Nat.succ_pos _)]
    simp only [frame]
    rfl
  | m + 1, d :: ds, i + 1 => by
    simp only [frame]
    show (frame m ds).at i = _
    rw [frame_at m ds i, List.getElem?_cons_succ]
    simp
theorem frame_len : ∀ (m : Nat) (ds : List D), (frame m ds).length = m
  | m, [] => by simp [frame]
  | 0, d :: ds => by simp [frame]
  | m + 1, d :: ds => by
    simp only [frame, List.length_cons]
    rw [frame_len m ds]
theorem start_at {N : List Str} {vs : List V} (i : Nat) (v : V) (h : vs[i]? = some v) : (L2.start N vs)[i]? = some (some v) := by
  obtain ⟨hi, e⟩ := List.getElem?_eq_some_iff.mp h
  unfold L2.start
  rw [List.getElem?_append_left (by simpa using hi), List.getElem?_map, h]
  rfl
/-- a frame at its entry -/
theorem frame_env {N : List Str} {ds : List D} {vs : List V} {O : List Addr} {H : Hp} (hl : ds.length ≤ N.length) (r : RepL P w (hide O H) ds vs) (t : Trk O H) : EnvR P w O (frame N.length ds) (L2.start N vs) H where
  cells := fun i => by
    rw [frame_at]
    split
    · cases e : ds[i]? with
      | none => trivial
      | some d =>
        obtain ⟨v, e1, r1⟩ := r.get e
        exact ⟨v, start_at i v e1, r1⟩
    · trivial
  dist := fun i j p _ hi _ _ _ => by
    rw [frame_at] at hi
    split at hi
    · split at hi <;> exact hi.elim
    · exact hi.elim
  len := by
    have := r.length
    rw [frame_len]
    unfold L2.start
    rw [List.length_append, List.length_map, List.length_replicate]
    omega
  trk := t
theorem sp_len {cl : Nat → List D → Option D} {f' : Df} {g : Nat} (hc : ∀ ds d, cl g ds = some d → ds.length = f'.pars) {N : List Str} (hp : f'.pars ≤ N.length) : ∀ vs H Q E, spG P w cl g vs H Q E → vs.length = (N.take f'.pars).length := by
  intro vs H Q E ⟨ds, d, O, r, t, h, q⟩
  rw [← r.length, hc ds d h, List.length_take]
  omega
/-- every def of the text keeps its promise, at any depth -/
theorem cal_all (F : Facts K mg gcN nm gcv tab sl tp) : ∀ (k g : Nat) (x : Str), nm g = some x → C8.Cal P w K mg base k x (spG P w (evF gcv tab k) g) []
  | 0, g, x, hn => by
    obtain ⟨f', f, fd, e1, fn, hm, hb, S, ck⟩ := F.df g x hn
    refine ⟨f, fd, _, [], ⟨fun vs H Q E ⟨ds, d, O, r, t, h, q⟩ => ?_, fun A outer s H args us vs Q E _ _ _ _ ⟨ds, d, O, r, t, h, q⟩ => ?_⟩, hm, fn.kp, hb, .nil⟩
    · simp [evF] at h
    · simp [evF] at h
  | k + 1, g, x, hn => by
    obtain ⟨f', f, fd, e1, fn, hm, hb, S, ck⟩ := F.df g x hn
    unfold ckD at ck
    simp only [Bool.and_eq_true, decide_eq_true_eq] at ck
    obtain ⟨⟨⟨⟨c1, c2⟩, c3⟩, c4⟩, c5⟩ := ck
    have len : ∀ ds d, evF gcv tab (k + 1) g ds = some d → ds.length = f'.pars := fun ds d h => by
      unfold evF at h
      rw [e1] at h
      simp only [runD] at h
      split at h
      · assumption
      · cases h
    refine ⟨f, fd, (sl g).take f'.pars, [], fn.ok S (sp_len len c3) fun cdv A outer s H vs Q E hr sp => ?_, hm, fn.kp, hb, .nil⟩
    obtain ⟨ds, d, O, r, t, h, q⟩ := sp
    refine ⟨wSs _ (defBody (tp g)), wSs_ok, ?_⟩
    have C : SCtx k gcN nm gcv (evF gcv tab k) (cxOf L2.CX0 P w K mg base (sl g) x (defScope (tp g)) f cdv A outer s H E).nox := {
      nd := c2
      calm := rfl
      st := fun _ _ _ => rfl
      room := hr
      bi := F.bi
      con := F.con
      fn := fun g2 x2 h2 => ⟨k, Nat.le_refl k, cal_all F k g2 x2 h2⟩
      dbg := fun y hy => by
        rw [List.all_eq_true] at c4
        have := c4 y hy
        simpa using this
      kind := S.kind
      po := PassesOwn.never }
    have hl := len ds d h
    have S0 : StR P w O H O (frame (sl g).length ds) (L2.start (sl g) vs) H := ⟨frame_env (by omega) r t, Same.refl H, fun _ h => h, fun i p hi e => by
      rw [frame_at] at hi
      split at hi
      · split at hi <;> exact hi.elim
      · exact hi.elim, t⟩
    unfold evF at h
    rw [e1] at h
    simp only [runD] at h
    rw [if_pos hl, c1] at h
    split at h
    · next d' e2 =>
      cases h
      exact sndSs C f'.body c5 O _ _ H (.rt d) _ S0 e2 fun v H' e r => q v H' e r
    · next env' e2 =>
      cases h
      exact sndSs C f'.body c5 O _ _ H (.nx env') _ S0 e2 fun O' σ' H' S' v => q .non H' S'.same .non
    · cases h
end
end Sq
end

section
set_option Elab.async false
set_option linter.all false
set_option maxRecDepth 100000
set_option maxHeartbeats 2000000
/-! the evaluator says no less when its calls say no less; a table of calls -/
namespace Sq
open PySem
section
variable {gcv : Nat → Option Int} {cl cl' : Nat → List D → Option D}
abbrev More (cl cl' : Nat → List D → Option D) : Prop := ∀ g ds r, cl g ds = some r → cl' g ds = some r
theorem mapO_mono {f f' : Yd → Option D} (h : ∀ y d, f y = some d → f' y = some d) : ∀ {ys : List Yd} {ds : List D}, mapO f ys = some ds → mapO f' ys = some ds
  | [], ds, e => e
  | y :: ys, ds, e => by
    unfold mapO at e ⊢
    split at e
    · next d e1 =>
      split at e
      · next r e2 =>
        rw [h y d e1, mapO_mono h e2]
        exact e
      · cases e
    · cases e
theorem mapF_mono {f f' : Yd → Option (Option D)} (h : ∀ y d, f y = some d → f' y = some d) : ∀ {ys : List Yd} {ds : List D}, mapF f ys = some ds → mapF f' ys = some ds
  | [], ds, e => e
  | y :: ys, ds, e => by
    unfold mapF at e ⊢
    split at e
    · next d e1 =>
      split at e
      · next r e2 =>
        rw [h y _ e1]
        simp only [mapF_mono h e2]
        exact e
      · cases e
    · next e1 =>
      rw [h y _ e1]
      exact mapF_mono h e
    · cases e
mutual
theorem ev_mono (m : More cl cl') : ∀ (e : E) (env : Env) (d : D), ev gcv cl e env = some d → ev gcv cl' e env = some d
  | .v i, env, d, h => by
    unfold ev at h ⊢
    exact h
  | .cst _, env, d, h => by
    unfold ev at h ⊢
    exact h
  | .gc i, env, d, h => by
    unfold ev at h ⊢
    exact h
  | .o1 o a, env, d, h => by
    unfold ev at h ⊢
    split at h
    · next x e => simpa only [ev_mono m a env x e] using h
    · cases h
  | .o2 o a b, env, d, h => by
    unfold ev at h ⊢
    split at h
    · next x e =>
      split at h
      · next y e2 => simpa only [ev_mono m a env x e, ev_mono m b env y e2] using h
      · cases h
    · cases h
  | .o3 o a b c, env, d, h => by
    unfold ev at h ⊢
    split at h
    · next x e =>
      split at h
      · next y e2 =>
        split at h
        · next z e3 => simpa only [ev_mono m a env x e, ev_mono m b env y e2, ev_mono m c env z e3] using h
        · cases h
      · cases h
    · cases h
  | .and es, env, d, h => by
    unfold ev at h ⊢
    exact evAnd_mono m es env d h
  | .or es, env, d, h => by
    unfold ev at h ⊢
    exact evOr_mono m es env d h
  | .chain p q a b c, env, d, h => by
    unfold ev at h ⊢
    split at h
    · next x e =>
      split at h
      · next y e2 =>
        split at h
        · next e4 =>
          split at h
          · next z e3 => simpa only [ev_mono m a env x e, ev_mono m b env y e2, e4, ev_mono m c env z e3] using h
          · cases h
        · next e4 => simpa only [ev_mono m a env x e, ev_mono m b env y e2, e4] using h
        · cases h
      · cases h
    · cases h
  | .ite c a b, env, d, h => by
    unfold ev at h ⊢
    split at h
    · next e => simpa only [ev_mono m c env _ e] using ev_mono m a env d h
    · next e => simpa only [ev_mono m c env _ e] using ev_mono m b env d h
    · cases h
  | .call g es, env, d, h => by
    unfold ev at h ⊢
    split at h
    · next ds e => simpa only [evL_mono m es env ds e] using m g ds d h
    · cases h
  | .tup es, env, d, h => by
    unfold ev at h ⊢
    split at h
    · next ds e => simpa only [evL_mono m es env ds e] using h
    · cases h
  | .lst es, env, d, h => by
    unfold ev at h ⊢
    split at h
    · next ds e => simpa only [evL_mono m es env ds e] using h
    · cases h
  | .dsp k x, env, d, h => by
    unfold ev at h ⊢
    split at h
    · next a e =>
      split at h
      · next y e2 => simpa only [ev_mono m k env a e, ev_mono m x env y e2] using h
      · cases h
    · cases h
  | .lc own t it e, env, d, h => by
    unfold ev at h ⊢
    split at h
    · next ys ei =>
      split at h
      · next ds em =>
        have q := mapO_mono (f' := fun d => match asgY t d (env.wipe own) with
          | some env1 => ev gcv cl' e env1
          | none => none) (fun y d hy => by
            split at hy
            · next env1 ea => simpa only [ea] using ev_mono m e env1 d hy
            · cases hy) em
        simp only [evI_mono m it env ys ei]
        split
        · next zs ez =>
          cases (ez.symm.trans q)
          exact h
        · next ez => cases (ez.symm.trans q)
      · cases h
    · cases h
  | .lci own t it c e, env, d, h => by
    unfold ev at h ⊢
    split at h
    · next ys ei =>
      split at h
      · next ds em =>
        have q := mapF_mono (f' := fun d => match asgY t d (env.wipe own) with
          | some env1 => match ev gcv cl' c env1 with
            | some (.bool true) => match ev gcv cl' e env1 with
              | some y => some (some y)
              | none => none
            | some (.bool false) => some none
            | _ => none
          | none => none) (fun y d hy => by
            split at hy
            · next env1 ea =>
              split at hy
              · next ec =>
                split at hy
                · next z ee => simpa only [ea, ev_mono m c env1 _ ec, ev_mono m e env1 z ee] using hy
                · cases hy
              · next ec => simpa only [ea, ev_mono m c env1 _ ec] using hy
              · cases hy
            · cases hy) em
        simp only [evI_mono m it env ys ei]
        split
        · next zs ez =>
          cases (ez.symm.trans q)
          exact h
        · next ez => cases (ez.symm.trans q)
      · cases h
    · cases h
  | .ixv i b, env, d, h => by
    unfold ev at h ⊢
    split at h
    · next a e =>
      split at h
      · next y e2 => simpa only [ev_mono m b env y e2] using h
      · cases h
    · cases h
  | .getv i k x, env, d, h => by
    unfold ev at h ⊢
    split at h
    · next a e =>
      split at h
      · next y e2 =>
        split at h
        · next z e3 => simpa only [ev_mono m k env y e2, ev_mono m x env z e3] using h
        · cases h
      · cases h
    · cases h
theorem evL_mono (m : More cl cl') : ∀ (es : EL) (env : Env) (ds : List D), evL gcv cl es env = some ds → evL gcv cl' es env = some ds
  | .nil, env, ds, h => by
    unfold evL at h ⊢
    exact h
  | .cons e es, env, ds, h => by
    unfold evL at h ⊢
    split at h
    · next d e1 =>
      split at h
      · next r e2 => simpa only [ev_mono m e env d e1, evL_mono m es env r e2] using h
      · cases h
    · cases h
theorem evAnd_mono (m : More cl cl') : ∀ (es : EL) (env : Env) (d : D), evAnd gcv cl es env = some d → evAnd gcv cl' es env = some d
  | .nil, env, d, h => by
    unfold evAnd at h
    cases h
  | .cons e .nil, env, d, h => by
    unfold evAnd at h ⊢
    exact ev_mono m e env d h
  | .cons e (.cons f es), env, d, h => by
    unfold evAnd at h ⊢
    split at h
    · next e1 => simpa only [ev_mono m e env _ e1] using evAnd_mono m (.cons f es) env d h
    · next e1 => simpa only [ev_mono m e env _ e1] using h
    · cases h
theorem evOr_mono (m : More cl cl') : ∀ (es : EL) (env : Env) (d : D), evOr gcv cl es env = some d → evOr gcv cl' es env = some d
  | .nil, env, d, h => by
    unfold evOr at h
    cases h
  | .cons e .nil, env, d, h => by
    unfold evOr at h ⊢
    exact ev_mono m e env d h
  | .cons e (.cons f es), env, d, h => by
    unfold evOr at h ⊢
    split at h
    · next e1 => simpa only [ev_mono m e env _ e1] using evOr_mono m (.cons f es) env d h
    · next e1 => simpa only [ev_mono m e env _ e1] using h
    · cases h
theorem evI_mono (m : More cl cl') : ∀ (it : I) (env : Env) (ys : List Yd), evI gcv cl it env = some ys → evI gcv cl' it env = some ys
  | .over e, env, ys, h => by
    unfold evI at h ⊢
    split at h
    · next xs e1 => simpa only [ev_mono m e env _ e1] using h
    · next xs e1 => simpa only [ev_mono m e env _ e1] using h
    · next xs e1 => simpa only [ev_mono m e env _ e1] using h
    · cases h
  | .rng1 a, env, ys, h => by
    unfold evI at h ⊢
    split at h
    · next i e1 => simpa only [ev_mono m a env _ e1] using h
    · cases h
  | .rng2 a b, env, ys, h => by
    unfold evI at h ⊢
    split at h
    · next i e1 =>
      split at h
      · next j e2 => simpa only [ev_mono m a env _ e1, ev_mono m b env _ e2] using h
      · cases h
    · cases h
  | .enum e, env, ys, h => by
    unfold evI at h ⊢
    split at h
    · next xs e1 => simpa only [ev_mono m e env _ e1] using h
    · next xs e1 => simpa only [ev_mono m e env _ e1] using h
    · cases h
  | .zip a b, env, ys, h => by
    unfold evI at h ⊢
    split at h
    · next xs e1 =>
      split at h
      · next zs e2 => simpa only [ev_mono m a env _ e1, ev_mono m b env _ e2] using h
      · cases h
    · next xs e1 =>
      split at h
      · next zs e2 => simpa only [ev_mono m a env _ e1, ev_mono m b env _ e2] using h
      · cases h
    · cases h
  | .items e, env, ys, h => by
    unfold evI at h ⊢
    split at h
    · next kvs e1 => simpa only [ev_mono m e env _ e1] using h
    · cases h
end
theorem forL_mono {asg : Yd → Env → Option Env} {b b' : Env → Option Fl} (h : ∀ env f, b env = some f → b' env = some f) : ∀ {ys : List Yd} {env : Env} {f : Fl}, forL asg b ys env = some f → forL asg b' ys env = some f
  | [], env, f, e => e
  | y :: ys, env, f, e => by
    unfold forL at e ⊢
    split at e
    · next env1 e1 =>
      split at e
      · next env2 e2 => simpa only [e1, h env1 _ e2] using forL_mono h e
      · next r e2 => simpa only [e1, h env1 _ e2] using e
      · cases e
    · cases e
theorem whlL_mono {t t' : Env → Option D} {b b' : Env → Option Fl} (ht : ∀ env d, t env = some d → t' env = some d) (h : ∀ env f, b env = some f → b' env = some f) : ∀ {n : Nat} {env : Env} {f : Fl}, whlL t b n env = some f → whlL t' b' n env = some f
  | 0, env, f, e => by
    unfold whlL at e
    cases e
  | n + 1, env, f, e => by
    unfold whlL at e ⊢
    split at e
    · next e1 =>
      split at e
      · next env2 e2 => simpa only [ht env _ e1, h env _ e2] using whlL_mono ht h e
      · next r e2 => simpa only [ht env _ e1, h env _ e2] using e
      · cases e
    · next e1 => simpa only [ht env _ e1] using e
    · cases e
theorem evR_mono (m : More cl cl') {r : Rh} {env : Env} {c : Cl} (h : evR gcv cl r env = some c) : evR gcv cl' r env = some c := by
  cases r with
  | sh e =>
    simp only [evR] at h ⊢
    split at h
    · next d e1 => simpa only [ev_mono m e env d e1] using h
    · cases h
  | ol es =>
    simp only [evR] at h ⊢
    split at h
    · next ds e1 => simpa only [evL_mono m es env ds e1] using h
    · cases h
  | od => exact h
theorem evP_mono (m : More cl cl') : ∀ {l : List (Nat × Rh)} {env : Env} {cs : List (Nat × Cl)}, evP gcv cl l env = some cs → evP gcv cl' l env = some cs
  | [], env, cs, h => h
  | (i, r) :: l, env, cs, h => by
    unfold evP at h ⊢
    split at h
    · next c e1 =>
      split at h
      · next cs' e2 => simpa only [evR_mono m e1, evP_mono m e2] using h
      · cases h
    · cases h
mutual
theorem ex_mono (m : More cl cl') : ∀ (s : S) (env : Env) (f : Fl), ex gcv cl s env = some f → ex gcv cl' s env = some f
  | .set i r, env, f, h => by
    unfold ex at h ⊢
    split at h
    · next c e => simpa only [evR_mono m e] using h
    · cases h
  | .par l, env, f, h => by
    unfold ex at h ⊢
    split at h
    · next c e => simpa only [evP_mono m e] using h
    · cases h
  | .tgt t e, env, f, h => by
    unfold ex at h ⊢
    split at h
    · next d e1 => simpa only [ev_mono m e env d e1] using h
    · cases h
  | .frz i, env, f, h => by
    unfold ex at h ⊢
    exact h
  | .app i e, env, f, h => by
    unfold ex at h ⊢
    split at h
    · next xs e1 =>
      split at h
      · next d e2 => simpa only [ev_mono m e env d e2] using h
      · cases h
    · cases h
  | .put i k x, env, f, h => by
    unfold ex at h ⊢
    split at h
    · next kvs e1 =>
      split at h
      · next y e2 =>
        split at h
        · next d e3 => simpa only [ev_mono m x env y e2, ev_mono m k env d e3] using h
        · cases h
      · cases h
    · cases h
  | .ex e, env, f, h => by
    unfold ex at h ⊢
    split at h
    · next d e1 => simpa only [ev_mono m e env d e1] using h
    · cases h
  | .for t it b, env, f, h => by
    unfold ex at h ⊢
    split at h
    · next ys e1 => simpa only [evI_mono m it env ys e1] using forL_mono (exs_mono m b) h
    · cases h
  | .whl c b, env, f, h => by
    unfold ex at h ⊢
    exact whlL_mono (ev_mono m c) (exs_mono m b) h
  | .ite c a b, env, f, h => by
    unfold ex at h ⊢
    split at h
    · next e => simpa only [ev_mono m c env _ e] using exs_mono m a env f h
    · next e => simpa only [ev_mono m c env _ e] using exs_mono m b env f h
    · cases h
  | .ret e, env, f, h => by
    unfold ex at h ⊢
    split at h
    · next d e1 => simpa only [ev_mono m e env d e1] using h
    · cases h
  | .never, env, f, h => by
    unfold ex at h
    cases h
theorem exs_mono (m : More cl cl') : ∀ (ss : SL) (env : Env) (f : Fl), exs gcv cl ss env = some f → exs gcv cl' ss env = some f
  | .nil, env, f, h => by
    unfold exs at h ⊢
    exact h
  | .cons s ss, env, f, h => by
    unfold exs at h ⊢
    split at h
    · next env1 e => simpa only [ex_mono m s env _ e] using exs_mono m ss env1 f h
    · next d e => simpa only [ex_mono m s env _ e] using h
    · cases h
end
theorem runD_mono (m : More cl cl') {f : Df} {ds : List D} {d : D} (h : runD gcv cl f ds = some d) : runD gcv cl' f ds = some d := by
  unfold runD at h ⊢
  split at h
  · next hl =>
    rw [if_pos hl]
    split at h
    · next e => simpa only [exs_mono m f.body _ _ e] using h
    · next e => simpa only [exs_mono m f.body _ _ e] using h
    · cases h
  · cases h
variable {tab : Nat → Option Df}
theorem evF_succ : ∀ (k : Nat), More (evF gcv tab k) (evF gcv tab (k + 1))
  | 0, g, ds, r, h => by simp [evF] at h
  | k + 1, g, ds, r, h => by
    unfold evF at h ⊢
    split at h
    · next f e => exact runD_mono (evF_succ k) h
    · cases h
theorem evF_mono {j k : Nat} (h : j ≤ k) : More (evF gcv tab j) (evF gcv tab k) := by
  induction h with
  | refl => exact fun _ _ _ e => e
  | step _ ih => exact fun g ds r e => evF_succ _ g ds r (ih g ds r e)
/-! ### a table of calls -/
structure Ent where
  dp : Nat
  g : Nat
  ds : List D
  r : D
  subs : List Nat
inductive Tr where
  | nil | nd (l : Tr) (e : Ent) (r : Tr)
def Tr.get : Tr → Nat → Option Ent
  | .nil, _ => none
  | .nd l e r, i => match i with
    | 0 => some e
    | j + 1 => if Nat.beq (j % 2) 0 then Tr.get l (j / 2) else Tr.get r (j / 2)
mutual
def deq : D → D → Bool
  | .none, .none => true
  | .bool a, .bool b => a == b
  | .int a, .int b => decide (a = b)
  | .str a, .str b => decide (a = b)
  | .list a, .list b => deqL a b
  | .tuple a, .tuple b => deqL a b
  | .dict a, .dict b => deqK a b
  | _, _ => false
def deqL : List D → List D → Bool
  | [], [] => true
  | x :: xs, y :: ys => deq x y && deqL xs ys
  | _, _ => false
def deqK : List (D × D) → List (D × D) → Bool
  | [], [] => true
  | (a, b) :: xs, (c, d) :: ys => deq a c && deq b d && deqK xs ys
  | _, _ => false
end
mutual
theorem deq_eq : ∀ (a b : D), deq a b = true → a = b
  | .none, b, h => by cases b <;> first | rfl | simp [deq] at h
  | .bool a, b, h => by
    cases b <;> simp [deq] at h
    rw [h]
  | .int a, b, h => by
    cases b <;> simp [deq] at h
    rw [h]
  | .str a, b, h => by
    cases b <;> simp [deq] at h
    rw [h]
  | .list a, b, h => by
    cases b <;> simp [deq] at h
    rw [deqL_eq _ _ h]
  | .tuple a, b, h => by
    cases b <;> simp [deq] at h
    rw [deqL_eq _ _ h]
  | .dict a, b, h => by
    cases b <;> simp [deq] at h
    rw [deqK_eq _ _ h]
theorem deqL_eq : ∀ (a b : List D), deqL a b = true → a = b
  | [], b, h => by cases b <;> first | rfl | simp [deqL] at h
  | x :: xs, b, h => by
    cases b with
    | nil => simp [deqL] at h
    | cons y ys =>
      rw [deqL, Bool.and_eq_true] at h
      rw [deq_eq x y h.1, deqL_eq xs ys h.2]
theorem deqK_eq : ∀ (a b : List (D × D)), deqK a b = true → a = b
  | [], b, h => by cases b <;> first | rfl | simp [deqK] at h
  | (x, u) :: xs, b, h => by
    cases b with
    | nil => simp [deqK] at h
    | cons y ys =>
      obtain ⟨c, d⟩ := y
      rw [deqK, Bool.and_eq_true, Bool.and_eq_true] at h
      rw [deq_eq x c h.1.1, deq_eq u d h.1.2, deqK_eq xs ys h.2]
end
def look (T : Tr) (k g : Nat) (ds : List D) : List Nat → Option D
  | [] => none
  | j :: js => match T.get j with
    | some e => if Nat.beq e.g g && Nat.ble e.dp k && deqL e.ds ds then some e.r else look T k g ds js
    | none => look T k g ds js
variable (gcv tab)
/-- calls by the table, or run -/
def evT (T : Tr) (js : List Nat) : Nat → Nat → List D → Option D
  | 0, _, _ => none
  | n + 1, g, ds => match look T (n + 1) g ds js with
    | some r => some r
    | none => match tab g with
      | some f => runD gcv (evT T js n) f ds
      | none => none
def okN (T : Tr) (e : Ent) : Bool := match e.dp with
  | 0 => false
  | k + 1 => match tab e.g with
    | some f => match runD gcv (evT gcv tab T e.subs k) f e.ds with
      | some r => deq r e.r
      | none => false
    | none => false
def AllT (p : Ent → Bool) : Tr → Bool
  | .nil => true
  | .nd l e r => p e && AllT p l && AllT p r
theorem allT_nd {p : Ent → Bool} {l r : Tr} {e : Ent} (h : p e = true) (hl : AllT p l = true) (hr : AllT p r = true) : AllT p (.nd l e r) = true := by
  rw [AllT, h, hl, hr]
  rfl
theorem allT_get {p : Ent → Bool} : ∀ {T : Tr}, AllT p T = true → ∀ {i : Nat} {e : Ent}, T.get i = some e → p e = true
  | .nil, _, i, e, h => by simp [Tr.get] at h
  | .nd l e' r, ha, i, e, h => by
    rw [AllT, Bool.and_eq_true, Bool.and_eq_true] at ha
    cases i with
    | zero =>
      simp only [Tr.get] at h
      cases h
      exact ha.1.1
    | succ j =>
      simp only [Tr.get] at h
      split at h
      · exact allT_get ha.1.2 h
      · exact allT_get ha.2 h
variable {gcv tab}
abbrev Right (gcv : Nat → Option Int) (tab : Nat → Option Df) (T : Tr) (k : Nat) : Prop := ∀ i e, T.get i = some e → e.dp ≤ k → evF gcv tab k e.g e.ds = some e.r
theorem look_ok {T : Tr} {k g : Nat} {ds : List D} {r : D} (h : Right gcv tab T k) : ∀ {js : List Nat}, look T k g ds js = some r → evF gcv tab k g ds = some r
  | [], e => by simp [look] at e
  | j :: js, e => by
    unfold look at e
    split at e
    · next en eg =>
      split at e
      · next hh =>
        cases e
        rw [Bool.and_eq_true, Bool.and_eq_true] at hh
        obtain ⟨⟨h1, h2⟩, h3⟩ := hh
        have := h j en eg (Nat.le_of_ble_eq_true h2)
        rw [Nat.eq_of_beq_eq_true h1, deqL_eq _ _ h3] at this
        exact this
      · exact look_ok h e
    · exact look_ok h e
theorem evT_ok {T : Tr} {js : List Nat} : ∀ (n : Nat), (∀ k, k ≤ n → Right gcv tab T k) → More (evT gcv tab T js n) (evF gcv tab n)
  | 0, h, g, ds, r, e => by simp [evT] at e
  | n + 1, h, g, ds, r, e => by
    unfold evT at e
    split at e
    · next r' e1 =>
      cases e
      exact look_ok (h (n + 1) (Nat.le_refl _)) e1
    · split at e
      · next f ef =>
        unfold evF
        simp only [ef]
        exact runD_mono (evT_ok n fun k hk => h k (Nat.le_succ_of_le hk)) e
      · cases e
theorem tbl_ok {T : Tr} (h : AllT (okN gcv tab T) T = true) : ∀ k, Right gcv tab T k := by
  intro k
  induction k using Nat.strongRecOn with
  | _ k ih =>
    intro i e eg hd
    have ho := allT_get h eg
    unfold okN at ho
    split at ho
    · cases ho
    · next k' ek =>
      split at ho
      · next f ef =>
        split at ho
        · next r er =>
          have e2 := deq_eq _ _ ho
          subst e2
          have hk : k' + 1 ≤ k := by omega
          have q : evF gcv tab (k' + 1) e.g e.ds = some e.r := by
            unfold evF
            simp only [ef]
            exact runD_mono (evT_ok k' fun j hj => ih j (by omega)) er
          exact evF_mono hk _ _ _ q
        · cases ho
      · cases ho
end
end Sq
end

section
set_option Elab.async false
set_option linter.all false
set_option maxRecDepth 100000
/-! the calls of the law's runs, each with its answer -/
namespace Sq
open PySem
def u0 : D := .tuple [(.int 0), (.int 0)]
def u1 : D := .tuple [(.int 0), (.int 1)]
def u2 : D := .tuple [(.int 1), (.int 0)]
def u3 : D := .list [u1, u2]
def u4 : D := .list [u2]
def u5 : D := .list [u1]
def u6 : D := .tuple [u1, u2]
def u7 : D := .tuple [(.int 0), (.int 1), (.int 2)]
def u8 : D := .tuple [(.int 1), (.int 2), (.int 1)]
def u9 : D := .tuple [(.int 2), (.int 1), (.int 0)]
def u10 : D := .tuple [u7, u8, u9]
def u11 : D := .tuple [u1, u1]
def u12 : D := .tuple [u2, u2]
def u13 : D := .list [u11, u12]
def u14 : D := .tuple [(.int 1), (.int 1)]
def u15 : D := .tuple [u2, u14]
def u16 : D := .list [u15]
def u17 : D := .list [u11]
def u18 : D := .dict [(u0, u17)]
def u19 : D := .dict [(u1, u16)]
def u20 : D := .dict [(u14, (.list []))]
def u21 : D := .list [u18, u19, u20]
def u22 : D := .dict [(u0, (.int 1))]
def u23 : D := .dict [(u1, (.int 1))]
def u24 : D := .dict [(u14, (.int 1))]
def u25 : D := .list [u22, u23, u24]
def u26 : D := .tuple [u2, u1]
def u27 : D := .tuple [(.int 1), (.int 0), (.int 1)]
def u28 : D := .tuple [u7, u27, u9]
def u29 : D := .dict [(u0, (.list []))]
def u30 : D := .dict []
def u31 : D := .list [u29, u30, u30]
def u32 : D := .dict [(u0, (.int 0))]
def u33 : D := .list [u32, u30, u30]
def u34 : D := .tuple [u1, u14]
def u35 : D := .list [u34]
def u36 : D := .dict [(u0, u13)]
def u37 : D := .dict [(u1, u16), (u2, (.list []))]
def u38 : D := .list [u36, u37, u20]
def u39 : D := .dict [(u1, (.int 1)), (u2, (.int 0))]
def u40 : D := .list [u22, u39, u24]
def u41 : D := .dict [(u1, u16), (u2, u35)]
def u42 : D := .list [u36, u41, u20]
def u43 : D := .dict [(u0, (.int 2))]
def u44 : D := .dict [(u1, (.int 1)), (u2, (.int 1))]
def u45 : D := .list [u43, u44, u24]
def u46 : D := .list [u12]
def u47 : D := .dict [(u0, u46)]
def u48 : D := .dict [(u2, u35)]
def u49 : D := .list [u47, u48, u20]
def u50 : D := .dict [(u2, (.int 1))]
def u51 : D := .list [u22, u50, u24]
def u52 : D := .dict [(u1, (.list [])), (u2, u35)]
def u53 : D := .list [u36, u52, u20]
def u54 : D := .dict [(u1, (.int 0)), (u2, (.int 1))]
def u55 : D := .list [u22, u54, u24]
def u56 : D := .tuple [(.int 0), (.int 0), (.int 0)]
def u57 : D := .tuple [(.int 0), (.int 0), (.int 1)]
def u58 : D := .tuple [(.int 0), (.int 1), (.int 0)]
def u59 : D := .tuple [(.int 1), (.int 0), (.int 0)]
def u60 : D := .list [u57, u58, u59]
def u61 : D := .list [u58, u59]
def u62 : D := .tuple [(.int 1), (.int (.negSucc 0)), (.int 1)]
def u63 : D := .list [u57, u62, u59]
def u64 : D := .list [u57, u58]
def u65 : D := .tuple [(.int 0), (.int 1), (.int 1)]
def u66 : D := .list [u59]
def u67 : D := .list [u58]
def u68 : D := .tuple [(.int 1), (.int 1), (.int 0)]
def u69 : D := .list [u57]
def u70 : D := .tuple [u57, u58, u59]
def u71 : D := .tuple [(.int 0), (.int 1), (.int 2), (.int 3)]
def u72 : D := .tuple [(.int 1), (.int 2), (.int 3), (.int 2)]
def u73 : D := .tuple [(.int 2), (.int 3), (.int 2), (.int 1)]
def u74 : D := .tuple [(.int 3), (.int 2), (.int 1), (.int 0)]
def u75 : D := .tuple [u71, u72, u73, u74]
def u76 : D := .tuple [u57, u57]
def u77 : D := .tuple [u58, u58]
def u78 : D := .tuple [u59, u59]
def u79 : D := .list [u76, u77, u78]
def u80 : D := .tuple [u58, u65]
def u81 : D := .tuple [u59, u27]
def u82 : D := .list [u80, u81]
def u83 : D := .tuple [(.int 1), (.int 1), (.int 1)]
def u84 : D := .tuple [u59, u83]
def u85 : D := .list [u84]
def u86 : D := .list [u76]
def u87 : D := .dict [(u56, u86)]
def u88 : D := .list [u80]
def u89 : D := .dict [(u57, u88)]
def u90 : D := .dict [(u65, u85)]
def u91 : D := .dict [(u83, (.list []))]
def u92 : D := .list [u87, u89, u90, u91]
def u93 : D := .dict [(u56, (.int 1))]
def u94 : D := .dict [(u57, (.int 1))]
def u95 : D := .dict [(u65, (.int 1))]
def u96 : D := .dict [(u83, (.int 1))]
def u97 : D := .list [u93, u94, u95, u96]
def u98 : D := .tuple [u57, u59, u58]
def u99 : D := .tuple [(.int 2), (.int 1), (.int 2), (.int 1)]
def u100 : D := .tuple [u71, u72, u99, u74]
def u101 : D := .dict [(u57, (.list []))]
def u102 : D := .list [u87, u101, u30, u30]
def u103 : D := .dict [(u56, (.int 0))]
def u104 : D := .dict [(u57, (.int 0))]
def u105 : D := .list [u103, u104, u30, u30]
def u106 : D := .tuple [u58, u57, u59]
def u107 : D := .tuple [(.int 1), (.int 2), (.int 1), (.int 2)]
def u108 : D := .tuple [u71, u107, u73, u74]
def u109 : D := .dict [(u56, (.list []))]
def u110 : D := .list [u109, u30, u30, u30]
def u111 : D := .list [u103, u30, u30, u30]
def u112 : D := .tuple [u58, u62, u58]
def u113 : D := .tuple [u71, u107, u99, u74]
def u114 : D := .tuple [u58, u59, u57]
def u115 : D := .tuple [(.int 2), (.int 1), (.int 0), (.int 1)]
def u116 : D := .tuple [u71, u107, u115, u74]
def u117 : D := .tuple [u59, u57, u58]
def u118 : D := .tuple [(.int 1), (.int 0), (.int 1), (.int 2)]
def u119 : D := .tuple [u71, u118, u99, u74]
def u120 : D := .tuple [u59, u58, u57]
def u121 : D := .tuple [u71, u118, u115, u74]
def u122 : D := .tuple [u57, u65]
def u123 : D := .tuple [u62, u27]
def u124 : D := .tuple [u59, u68]
def u125 : D := .list [u122, u123, u124]
def u126 : D := .tuple [u58, u83]
def u127 : D := .list [u126]
def u128 : D := .tuple [u57, u83]
def u129 : D := .list [u128]
def u130 : D := .list [u76, u77]
def u131 : D := .dict [(u56, u130)]
def u132 : D := .dict [(u57, u82), (u58, u125)]
def u133 : D := .dict [(u65, u85), (u27, u127), (u68, u129)]
def u134 : D := .list [u131, u132, u133, u91]
def u135 : D := .dict [(u56, (.int 5))]
def u136 : D := .dict [(u57, (.int 2)), (u58, (.int 3))]
def u137 : D := .dict [(u65, (.int 1)), (u27, (.int 1)), (u68, (.int 1))]
def u138 : D := .list [u135, u136, u137, u96]
def u139 : D := .tuple [u57, u27]
def u140 : D := .tuple [u58, u68]
def u141 : D := .list [u139, u140]
def u142 : D := .list [u76, u78]
def u143 : D := .dict [(u56, u142)]
def u144 : D := .dict [(u57, u82), (u59, u141)]
def u145 : D := .list [u143, u144, u133, u91]
def u146 : D := .dict [(u56, (.int 4))]
def u147 : D := .dict [(u57, (.int 2)), (u59, (.int 2))]
def u148 : D := .list [u146, u147, u137, u96]
def u149 : D := .dict [(u57, u82)]
def u150 : D := .dict [(u65, u85), (u27, u127)]
def u151 : D := .list [u87, u149, u150, u91]
def u152 : D := .dict [(u56, (.int 2))]
def u153 : D := .dict [(u57, (.int 2))]
def u154 : D := .dict [(u65, (.int 1)), (u27, (.int 1))]
def u155 : D := .list [u152, u153, u154, u96]
def u156 : D := .dict [(u56, u79)]
def u157 : D := .list [u122]
def u158 : D := .dict [(u57, u88), (u58, u157), (u59, u141)]
def u159 : D := .list [u156, u158, u133, u91]
def u160 : D := .dict [(u57, (.int 1)), (u58, (.int 1)), (u59, (.int 2))]
def u161 : D := .list [u146, u160, u137, u96]
def u162 : D := .list [u140]
def u163 : D := .dict [(u57, u88), (u58, (.list [])), (u59, u162)]
def u164 : D := .dict [(u65, u85), (u68, u129)]
def u165 : D := .list [u156, u163, u164, u91]
def u166 : D := .dict [(u57, (.int 1)), (u58, (.int 0)), (u59, (.int 1))]
def u167 : D := .dict [(u65, (.int 1)), (u68, (.int 1))]
def u168 : D := .list [u152, u166, u167, u96]
def u169 : D := .list [u124]
def u170 : D := .dict [(u57, u82), (u58, u169), (u59, u162)]
def u171 : D := .list [u156, u170, u133, u91]
def u172 : D := .dict [(u57, (.int 2)), (u58, (.int 1)), (u59, (.int 1))]
def u173 : D := .list [u146, u172, u137, u96]
def u174 : D := .dict [(u57, u82), (u58, u125), (u59, u141)]
def u175 : D := .dict [(u65, u85), (u27, (.list [])), (u68, (.list []))]
def u176 : D := .list [u156, u174, u175, u91]
def u177 : D := .dict [(u57, (.int 1)), (u58, (.int 1)), (u59, (.int 0))]
def u178 : D := .dict [(u65, (.int 1)), (u27, (.int 0)), (u68, (.int 0))]
def u179 : D := .list [u152, u177, u178, u96]
def u180 : D := .dict [(u65, u85), (u27, (.list [])), (u68, u129)]
def u181 : D := .list [u156, u174, u180, u91]
def u182 : D := .dict [(u57, (.int 1)), (u58, (.int 2)), (u59, (.int 1))]
def u183 : D := .dict [(u65, (.int 1)), (u27, (.int 0)), (u68, (.int 1))]
def u184 : D := .list [u146, u182, u183, u96]
def u185 : D := .dict [(u65, u85), (u27, u127), (u68, (.list []))]
def u186 : D := .list [u156, u174, u185, u91]
def u187 : D := .dict [(u57, (.int 2)), (u58, (.int 2)), (u59, (.int 1))]
def u188 : D := .dict [(u65, (.int 1)), (u27, (.int 1)), (u68, (.int 0))]
def u189 : D := .list [u135, u187, u188, u96]
def u190 : D := .list [u81]
def u191 : D := .dict [(u57, u190)]
def u192 : D := .dict [(u27, u127)]
def u193 : D := .list [u87, u191, u192, u91]
def u194 : D := .dict [(u27, (.int 1))]
def u195 : D := .list [u93, u94, u194, u96]
def u196 : D := .list [u123, u124]
def u197 : D := .dict [(u57, u190), (u58, u196), (u59, (.list []))]
def u198 : D := .dict [(u27, u127), (u68, u129)]
def u199 : D := .list [u156, u197, u198, u91]
def u200 : D := .dict [(u56, (.int 3))]
def u201 : D := .dict [(u57, (.int 1)), (u58, (.int 2)), (u59, (.int 0))]
def u202 : D := .dict [(u27, (.int 1)), (u68, (.int 1))]
def u203 : D := .list [u200, u201, u202, u96]
def u204 : D := .list [u122, u124]
def u205 : D := .list [u139]
def u206 : D := .dict [(u57, u190), (u58, u204), (u59, u205)]
def u207 : D := .list [u156, u206, u133, u91]
def u208 : D := .list [u146, u182, u137, u96]
def u209 : D := .dict [(u65, (.list [])), (u27, u127), (u68, u129)]
def u210 : D := .list [u156, u174, u209, u91]
def u211 : D := .dict [(u57, (.int 1)), (u58, (.int 2)), (u59, (.int 2))]
def u212 : D := .dict [(u65, (.int 0)), (u27, (.int 1)), (u68, (.int 1))]
def u213 : D := .list [u135, u211, u212, u96]
def u214 : D := .dict [(u65, (.list [])), (u27, u127), (u68, (.list []))]
def u215 : D := .list [u156, u174, u214, u91]
def u216 : D := .dict [(u57, (.int 1)), (u58, (.int 1)), (u59, (.int 1))]
def u217 : D := .dict [(u65, (.int 0)), (u27, (.int 1)), (u68, (.int 0))]
def u218 : D := .list [u200, u216, u217, u96]
def u219 : D := .dict [(u57, u88), (u58, u157)]
def u220 : D := .list [u131, u219, u90, u91]
def u221 : D := .dict [(u57, (.int 1)), (u58, (.int 1))]
def u222 : D := .list [u152, u221, u95, u96]
def u223 : D := .dict [(u57, (.list [])), (u58, (.list []))]
def u224 : D := .list [u131, u223, u30, u30]
def u225 : D := .dict [(u57, (.int 0)), (u58, (.int 0))]
def u226 : D := .list [u103, u225, u30, u30]
def u227 : D := .list [u77]
def u228 : D := .dict [(u56, u227)]
def u229 : D := .dict [(u58, u157)]
def u230 : D := .list [u228, u229, u90, u91]
def u231 : D := .dict [(u58, (.int 1))]
def u232 : D := .list [u93, u231, u95, u96]
def u233 : D := .dict [(u58, (.list []))]
def u234 : D := .list [u228, u233, u30, u30]
def u235 : D := .dict [(u58, (.int 0))]
def u236 : D := .list [u103, u235, u30, u30]
def u237 : D := .dict [(u58, u125)]
def u238 : D := .list [u228, u237, u133, u91]
def u239 : D := .dict [(u58, (.int 3))]
def u240 : D := .list [u200, u239, u137, u96]
def u241 : D := .list [u77, u78]
def u242 : D := .dict [(u56, u241)]
def u243 : D := .dict [(u58, u125), (u59, u141)]
def u244 : D := .list [u242, u243, u133, u91]
def u245 : D := .dict [(u58, (.int 3)), (u59, (.int 2))]
def u246 : D := .list [u135, u245, u137, u96]
def u247 : D := .list [u122, u123]
def u248 : D := .dict [(u57, (.list [])), (u58, u247), (u59, u205)]
def u249 : D := .list [u156, u248, u150, u91]
def u250 : D := .dict [(u57, (.int 0)), (u58, (.int 2)), (u59, (.int 1))]
def u251 : D := .list [u200, u250, u154, u96]
def u252 : D := .dict [(u57, u82), (u58, u247)]
def u253 : D := .list [u131, u252, u150, u91]
def u254 : D := .dict [(u57, (.int 2)), (u58, (.int 2))]
def u255 : D := .list [u146, u254, u154, u96]
def u256 : D := .list [u123]
def u257 : D := .dict [(u57, u190), (u58, u256)]
def u258 : D := .list [u131, u257, u192, u91]
def u259 : D := .list [u152, u221, u194, u96]
def u260 : D := .dict [(u58, u247)]
def u261 : D := .list [u228, u260, u150, u91]
def u262 : D := .dict [(u58, (.int 2))]
def u263 : D := .list [u152, u262, u154, u96]
def u264 : D := .dict [(u58, u256)]
def u265 : D := .list [u228, u264, u192, u91]
def u266 : D := .list [u93, u231, u194, u96]
def u267 : D := .dict [(u57, (.list [])), (u58, u256), (u59, (.list []))]
def u268 : D := .list [u156, u267, u192, u91]
def u269 : D := .dict [(u57, (.int 0)), (u58, (.int 1)), (u59, (.int 0))]
def u270 : D := .list [u93, u269, u194, u96]
def u271 : D := .dict [(u57, u190), (u58, u196)]
def u272 : D := .list [u131, u271, u198, u91]
def u273 : D := .dict [(u57, (.int 1)), (u58, (.int 2))]
def u274 : D := .list [u200, u273, u202, u96]
def u275 : D := .dict [(u58, u196)]
def u276 : D := .list [u228, u275, u198, u91]
def u277 : D := .list [u152, u262, u202, u96]
def u278 : D := .dict [(u58, u169)]
def u279 : D := .dict [(u68, u129)]
def u280 : D := .list [u228, u278, u279, u91]
def u281 : D := .dict [(u68, (.int 1))]
def u282 : D := .list [u93, u231, u281, u96]
def u283 : D := .dict [(u65, (.list [])), (u27, (.list [])), (u68, u129)]
def u284 : D := .list [u156, u174, u283, u91]
def u285 : D := .dict [(u57, (.int 0)), (u58, (.int 1)), (u59, (.int 1))]
def u286 : D := .dict [(u65, (.int 0)), (u27, (.int 0)), (u68, (.int 1))]
def u287 : D := .list [u152, u285, u286, u96]
def u288 : D := .dict [(u57, u82), (u58, u247), (u59, u205)]
def u289 : D := .list [u156, u288, u150, u91]
def u290 : D := .list [u135, u187, u154, u96]
def u291 : D := .dict [(u57, u190), (u58, u256), (u59, u205)]
def u292 : D := .list [u156, u291, u192, u91]
def u293 : D := .list [u200, u216, u194, u96]
def u294 : D := .dict [(u58, u247), (u59, u205)]
def u295 : D := .list [u242, u294, u150, u91]
def u296 : D := .dict [(u58, (.int 2)), (u59, (.int 1))]
def u297 : D := .list [u200, u296, u154, u96]
def u298 : D := .dict [(u58, u256), (u59, u205)]
def u299 : D := .list [u242, u298, u192, u91]
def u300 : D := .dict [(u58, (.int 1)), (u59, (.int 1))]
def u301 : D := .list [u152, u300, u194, u96]
def u302 : D := .dict [(u58, (.list [])), (u59, (.list []))]
def u303 : D := .list [u242, u302, u30, u30]
def u304 : D := .dict [(u58, (.int 0)), (u59, (.int 0))]
def u305 : D := .list [u103, u304, u30, u30]
def u306 : D := .list [u78]
def u307 : D := .dict [(u56, u306)]
def u308 : D := .dict [(u59, u205)]
def u309 : D := .list [u307, u308, u192, u91]
def u310 : D := .dict [(u59, (.int 1))]
def u311 : D := .list [u93, u310, u194, u96]
def u312 : D := .dict [(u59, (.list []))]
def u313 : D := .list [u307, u312, u30, u30]
def u314 : D := .dict [(u59, (.int 0))]
def u315 : D := .list [u103, u314, u30, u30]
def u316 : D := .dict [(u59, u141)]
def u317 : D := .list [u307, u316, u198, u91]
def u318 : D := .dict [(u59, (.int 2))]
def u319 : D := .list [u152, u318, u202, u96]
def u320 : D := .list [u156, u174, u133, u91]
def u321 : D := .dict [(u56, (.int 7))]
def u322 : D := .dict [(u57, (.int 2)), (u58, (.int 3)), (u59, (.int 2))]
def u323 : D := .list [u321, u322, u137, u96]
def u324 : D := .dict [(u57, u190), (u58, u196), (u59, u141)]
def u325 : D := .list [u156, u324, u198, u91]
def u326 : D := .list [u135, u211, u202, u96]
def u327 : D := .dict [(u58, u196), (u59, u141)]
def u328 : D := .list [u242, u327, u198, u91]
def u329 : D := .dict [(u58, (.int 2)), (u59, (.int 2))]
def u330 : D := .list [u146, u329, u202, u96]
def u331 : D := .dict [(u58, u169), (u59, u162)]
def u332 : D := .list [u242, u331, u279, u91]
def u333 : D := .list [u152, u300, u281, u96]
def u334 : D := .dict [(u59, u162)]
def u335 : D := .list [u307, u334, u279, u91]
def u336 : D := .list [u93, u310, u281, u96]
def u337 : D := .list [u6, u26]
def u338 : D := .tuple [(.str ⟨#[108, 101, 97, 115, 116]⟩), (.int 1), (.int 1), (.int 2)]
def u339 : D := .tuple [u338]
def u340 : D := .tuple [(.str ⟨#[109, 111, 115, 116]⟩), (.int 1), (.int 1), (.int 2)]
def u341 : D := .tuple [u340]
def u342 : D := .tuple [u338, u340]
def u343 : D := .tuple [(.str ⟨#[109, 111, 115, 116]⟩), (.int 1), (.int 1), (.int 0)]
def u344 : D := .tuple [u343]
def u345 : D := .tuple [u338, u343]
def u346 : D := .tuple [(.str ⟨#[99, 101, 108, 108]⟩), (.int 0), (.int 0), (.int 0)]
def u347 : D := .tuple [u346]
def u348 : D := .tuple [(.str ⟨#[99, 101, 108, 108]⟩), (.int 0), (.int 1), (.int 1)]
def u349 : D := .tuple [u348]
def u350 : D := .tuple [(.str ⟨#[99, 101, 108, 108]⟩), (.int 1), (.int 0), (.int 1)]
def u351 : D := .tuple [u350]
def u352 : D := .tuple [(.str ⟨#[99, 101, 108, 108]⟩), (.int 1), (.int 1), (.int 0)]
def u353 : D := .tuple [u352]
def u354 : D := .tuple [(.str ⟨#[108, 101, 97, 115, 116]⟩), (.int 1), (.int 1), (.int 0)]
def u355 : D := .tuple [u354]
def u356 : D := .tuple [u354, u340]
def u357 : D := .list [u14]
def u358 : D := .tuple [u354, u343]
def u359 : D := .tuple [(.str ⟨#[99, 101, 108, 108]⟩), (.int 0), (.int 0), (.int 1)]
def u360 : D := .tuple [u359]
def u361 : D := .tuple [(.str ⟨#[99, 101, 108, 108]⟩), (.int 0), (.int 1), (.int 0)]
def u362 : D := .tuple [u361]
def u363 : D := .tuple [(.str ⟨#[99, 101, 108, 108]⟩), (.int 1), (.int 0), (.int 0)]
def u364 : D := .tuple [u363]
def u365 : D := .tuple [(.str ⟨#[99, 101, 108, 108]⟩), (.int 1), (.int 1), (.int 1)]
def u366 : D := .tuple [u365]
def u367 : D := .list [u70, u98, u106, u112, u114, u117, u120]
def u368 : D := .tuple [(.str ⟨#[108, 101, 97, 115, 116]⟩), (.int 1), (.int 2), (.int 3)]
def u369 : D := .tuple [(.str ⟨#[108, 101, 97, 115, 116]⟩), (.int 2), (.int 1), (.int 3)]
def u370 : D := .tuple [(.str ⟨#[108, 101, 97, 115, 116]⟩), (.int 2), (.int 2), (.int 2)]
def u371 : D := .tuple [u338, u368, u369, u370]
def u372 : D := .tuple [(.str ⟨#[109, 111, 115, 116]⟩), (.int 1), (.int 2), (.int 3)]
def u373 : D := .tuple [(.str ⟨#[109, 111, 115, 116]⟩), (.int 2), (.int 1), (.int 3)]
def u374 : D := .tuple [(.str ⟨#[109, 111, 115, 116]⟩), (.int 2), (.int 2), (.int 2)]
def u375 : D := .tuple [u340, u372, u373, u374]
def u376 : D := .tuple [u338, u368, u369, u370, u340, u372, u373, u374]
def u377 : D := .tuple [(.str ⟨#[109, 111, 115, 116]⟩), (.int 2), (.int 1), (.int 1)]
def u378 : D := .tuple [u340, u372, u377, u374]
def u379 : D := .tuple [u338, u368, u369, u370, u340, u372, u377, u374]
def u380 : D := .tuple [(.str ⟨#[109, 111, 115, 116]⟩), (.int 1), (.int 2), (.int 1)]
def u381 : D := .tuple [u340, u380, u373, u374]
def u382 : D := .tuple [u338, u368, u369, u370, u340, u380, u373, u374]
def u383 : D := .tuple [u340, u380, u377, u374]
def u384 : D := .tuple [u338, u368, u369, u370, u340, u380, u377, u374]
def u385 : D := .tuple [(.str ⟨#[109, 111, 115, 116]⟩), (.int 2), (.int 2), (.int 0)]
def u386 : D := .tuple [u340, u380, u377, u385]
def u387 : D := .tuple [u338, u368, u369, u370, u340, u380, u377, u385]
def u388 : D := .tuple [u343, u380, u377, u374]
def u389 : D := .tuple [u338, u368, u369, u370, u343, u380, u377, u374]
def u390 : D := .tuple [u343, u380, u377, u385]
def u391 : D := .tuple [u338, u368, u369, u370, u343, u380, u377, u385]
def u392 : D := .tuple [(.str ⟨#[99, 101, 108, 108]⟩), (.int 0), (.int 2), (.int 1)]
def u393 : D := .tuple [u392]
def u394 : D := .tuple [(.str ⟨#[99, 101, 108, 108]⟩), (.int 1), (.int 2), (.int 0)]
def u395 : D := .tuple [u394]
def u396 : D := .tuple [(.str ⟨#[99, 101, 108, 108]⟩), (.int 2), (.int 0), (.int 1)]
def u397 : D := .tuple [u396]
def u398 : D := .tuple [(.str ⟨#[99, 101, 108, 108]⟩), (.int 2), (.int 1), (.int 0)]
def u399 : D := .tuple [u398]
def u400 : D := .tuple [(.str ⟨#[99, 101, 108, 108]⟩), (.int 2), (.int 2), (.int 0)]
def u401 : D := .tuple [u400]
def u402 : D := .tuple [(.str ⟨#[108, 101, 97, 115, 116]⟩), (.int 2), (.int 1), (.int 1)]
def u403 : D := .tuple [u338, u368, u402, u370]
def u404 : D := .tuple [u338, u368, u402, u370, u340, u372, u373, u374]
def u405 : D := .tuple [(.int 2), (.int 1)]
def u406 : D := .list [u405]
def u407 : D := .tuple [u338, u368, u402, u370, u340, u372, u377, u374]
def u408 : D := .tuple [u338, u368, u402, u370, u340, u380, u373, u374]
def u409 : D := .tuple [u338, u368, u402, u370, u340, u380, u377, u374]
def u410 : D := .tuple [u338, u368, u402, u370, u340, u380, u377, u385]
def u411 : D := .tuple [u338, u368, u402, u370, u343, u380, u377, u374]
def u412 : D := .tuple [u338, u368, u402, u370, u343, u380, u377, u385]
def u413 : D := .tuple [(.str ⟨#[99, 101, 108, 108]⟩), (.int 2), (.int 0), (.int 0)]
def u414 : D := .tuple [u413]
def u415 : D := .tuple [(.str ⟨#[99, 101, 108, 108]⟩), (.int 2), (.int 1), (.int 1)]
def u416 : D := .tuple [u415]
def u417 : D := .tuple [(.str ⟨#[108, 101, 97, 115, 116]⟩), (.int 1), (.int 2), (.int 1)]
def u418 : D := .tuple [u338, u417, u369, u370]
def u419 : D := .tuple [u338, u417, u369, u370, u340, u372, u373, u374]
def u420 : D := .tuple [(.int 1), (.int 2)]
def u421 : D := .list [u420]
def u422 : D := .tuple [u338, u417, u369, u370, u340, u372, u377, u374]
def u423 : D := .tuple [u338, u417, u369, u370, u340, u380, u373, u374]
def u424 : D := .tuple [u338, u417, u369, u370, u340, u380, u377, u374]
def u425 : D := .tuple [u338, u417, u369, u370, u340, u380, u377, u385]
def u426 : D := .tuple [u338, u417, u369, u370, u343, u380, u377, u374]
def u427 : D := .tuple [u338, u417, u369, u370, u343, u380, u377, u385]
def u428 : D := .tuple [(.str ⟨#[99, 101, 108, 108]⟩), (.int 0), (.int 2), (.int 0)]
def u429 : D := .tuple [u428]
def u430 : D := .tuple [(.str ⟨#[99, 101, 108, 108]⟩), (.int 1), (.int 2), (.int 1)]
def u431 : D := .tuple [u430]
def u432 : D := .tuple [u338, u417, u402, u370]
def u433 : D := .tuple [u338, u417, u402, u370, u340, u372, u373, u374]
def u434 : D := .list [u420, u405]
def u435 : D := .tuple [u338, u417, u402, u370, u340, u372, u377, u374]
def u436 : D := .tuple [u338, u417, u402, u370, u340, u380, u373, u374]
def u437 : D := .tuple [u338, u417, u402, u370, u340, u380, u377, u374]
def u438 : D := .tuple [u338, u417, u402, u370, u340, u380, u377, u385]
def u439 : D := .tuple [u338, u417, u402, u370, u343, u380, u377, u374]
def u440 : D := .tuple [u338, u417, u402, u370, u343, u380, u377, u385]
def u441 : D := .tuple [(.str ⟨#[99, 101, 108, 108]⟩), (.int 1), (.int 1), (.int (.negSucc 0))]
def u442 : D := .tuple [u441]
def u443 : D := .tuple [(.str ⟨#[108, 101, 97, 115, 116]⟩), (.int 2), (.int 2), (.int 0)]
def u444 : D := .tuple [u338, u417, u402, u443]
def u445 : D := .tuple [u338, u417, u402, u443, u340, u372, u373, u374]
def u446 : D := .tuple [(.int 2), (.int 2)]
def u447 : D := .list [u446]
def u448 : D := .tuple [u338, u417, u402, u443, u340, u372, u377, u374]
def u449 : D := .tuple [u338, u417, u402, u443, u340, u380, u373, u374]
def u450 : D := .tuple [u338, u417, u402, u443, u340, u380, u377, u374]
def u451 : D := .tuple [u338, u417, u402, u443, u340, u380, u377, u385]
def u452 : D := .tuple [u338, u417, u402, u443, u343, u380, u377, u374]
def u453 : D := .tuple [u338, u417, u402, u443, u343, u380, u377, u385]
def u454 : D := .tuple [(.str ⟨#[99, 101, 108, 108]⟩), (.int 2), (.int 2), (.int 1)]
def u455 : D := .tuple [u454]
def u456 : D := .tuple [u354, u417, u402, u370]
def u457 : D := .tuple [u354, u417, u402, u370, u340, u372, u373, u374]
def u458 : D := .tuple [u354, u417, u402, u370, u340, u372, u377, u374]
def u459 : D := .tuple [u354, u417, u402, u370, u340, u380, u373, u374]
def u460 : D := .tuple [u354, u417, u402, u370, u340, u380, u377, u374]
def u461 : D := .tuple [u354, u417, u402, u370, u340, u380, u377, u385]
def u462 : D := .tuple [u354, u417, u402, u370, u343, u380, u377, u374]
def u463 : D := .tuple [u354, u417, u402, u370, u343, u380, u377, u385]
def u464 : D := .tuple [u354, u417, u402, u443]
def u465 : D := .tuple [u354, u417, u402, u443, u340, u372, u373, u374]
def u466 : D := .list [u14, u446]
def u467 : D := .tuple [u354, u417, u402, u443, u340, u372, u377, u374]
def u468 : D := .tuple [u354, u417, u402, u443, u340, u380, u373, u374]
def u469 : D := .tuple [u354, u417, u402, u443, u340, u380, u377, u374]
def u470 : D := .tuple [u354, u417, u402, u443, u340, u380, u377, u385]
def u471 : D := .tuple [u354, u417, u402, u443, u343, u380, u377, u374]
def u472 : D := .tuple [u354, u417, u402, u443, u343, u380, u377, u385]
def u473 : D := .tuple [(.int 1), (.int 1), (.int 2)]
def u474 : D := .tuple [u473]
def u475 : D := .tuple [(.int 1), (.int 1), (.int 4)]
def u476 : D := .tuple [u475]
def u477 : D := .tuple [u68]
def u478 : D := .tuple [(.int 1), (.int 0), (.int 2)]
def u479 : D := .tuple [(.int 1), (.int 2), (.int 3)]
def u480 : D := .tuple [u479]
def u481 : D := .tuple [(.int 2), (.int 0), (.int 1)]
def u482 : D := .tuple [(.int 1), (.int 2), (.int 5)]
def u483 : D := .tuple [u482]
def u484 : D := .tuple [(.int 2), (.int 1), (.int 3)]
def u485 : D := .tuple [u484]
def u486 : D := .tuple [(.int 1), (.int 2), (.int 0)]
def u487 : D := .tuple [(.int 2), (.int 1), (.int 5)]
def u488 : D := .tuple [u487]
def u489 : D := .tuple [(.int 2), (.int 2), (.int 2)]
def u490 : D := .tuple [u489]
def u491 : D := .tuple [(.int 0), (.int 2), (.int 1)]
def u492 : D := .tuple [(.int 2), (.int 2), (.int 4)]
def u493 : D := .tuple [u492]
def u494 : D := .tuple [(.int 2), (.int 1), (.int 1)]
def u495 : D := .tuple [u494]
def u496 : D := .tuple [u8]
def u497 : D := .tuple [(.int 2), (.int 2), (.int 0)]
def u498 : D := .tuple [u497]
def u499 : D := .tuple [u10, u10]
def u500 : D := .tuple [u28, u10]
def u501 : D := .tuple [u28, u28]
def u502 : D := .tuple [u75, u75]
def u503 : D := .tuple [u116, u75]
def u504 : D := .tuple [u121, u75]
def u505 : D := .tuple [u100, u75]
def u506 : D := .tuple [u108, u75]
def u507 : D := .tuple [u119, u75]
def u508 : D := .tuple [u100, u100]
def u509 : D := .tuple [u116, u100]
def u510 : D := .tuple [u121, u100]
def u511 : D := .tuple [u119, u100]
def u512 : D := .tuple [u108, u108]
def u513 : D := .tuple [u116, u108]
def u514 : D := .tuple [u121, u108]
def u515 : D := .tuple [u119, u108]
def u516 : D := .tuple [u113, u75]
def u517 : D := .tuple [u113, u100]
def u518 : D := .tuple [u113, u108]
def u519 : D := .tuple [u113, u113]
def u520 : D := .tuple [u116, u113]
def u521 : D := .tuple [u116, u116]
def u522 : D := .tuple [u121, u116]
def u523 : D := .tuple [u119, u113]
def u524 : D := .tuple [u119, u119]
def u525 : D := .tuple [u121, u119]
def u526 : D := .tuple [u121, u113]
def u527 : D := .tuple [u121, u121]
def u528 : D := .list [u6]
def u529 : D := .list [u26]
def u530 : D := .list [u70]
def u531 : D := .list [u70, u98, u106, u112, u114]
def u532 : D := .list [u70, u98, u117, u120]
def u533 : D := .list [u70, u98]
def u534 : D := .list [u70, u106, u117, u120]
def u535 : D := .list [u70, u120]
def u536 : D := .list [u70, u98, u114, u120]
def u537 : D := .list [u70, u106]
def u538 : D := .list [u70, u106, u114, u120]
def u539 : D := .list [u70, u98, u106, u112, u117]
def u540 : D := .list [u98]
def u541 : D := .list [u98, u112, u114]
def u542 : D := .list [u98, u106, u114, u117]
def u543 : D := .list [u98, u112, u114, u117, u120]
def u544 : D := .list [u98, u112, u117]
def u545 : D := .list [u106]
def u546 : D := .list [u106, u112, u114]
def u547 : D := .list [u106, u112, u114, u117, u120]
def u548 : D := .list [u106, u112, u117]
def u549 : D := .list [u70, u98, u106, u112]
def u550 : D := .list [u98, u112]
def u551 : D := .list [u106, u112]
def u552 : D := .list [u112]
def u553 : D := .list [u112, u114]
def u554 : D := .list [u114]
def u555 : D := .list [u114, u120]
def u556 : D := .list [u112, u117]
def u557 : D := .list [u117]
def u558 : D := .list [u117, u120]
def u559 : D := .list [u112, u114, u117, u120]
def u560 : D := .list [u120]
def t15 : Tr := .nd (.nd (.nd (.nd (.nd (.nd (.nd .nil ⟨8, 83, [(.int 3), u436, u551], (.bool true), [869, 494, 347, 219, 79, 857, 858, 495, 615, 605, 682, 683]⟩ .nil) ⟨4, 53, [(.int 3), u451], .none, [134, 200, 182, 227, 138, 150, 147, 156]⟩ .nil) ⟨2, 56, [(.int 3), u469], u328, [26, 46, 53, 47, 48]⟩ (.nd .nil ⟨6, 44, [u98, u106], u112, [582, 34, 37, 51]⟩ .nil)) ⟨2, 51, [(.int 2), u363], (.bool true), []⟩ (.nd (.nd .nil ⟨5, 38, [(.int 3), u493, u490], (.bool false), [320, 318]⟩ .nil) ⟨4, 53, [(.int 2), u347], .none, [110]⟩ (.nd .nil ⟨6, 66, [(.int 3), u455], u555, [515, 237, 85]⟩ .nil))) ⟨1, 57, [u181], u184, []⟩ (.nd (.nd (.nd .nil ⟨5, 71, [u75, u376], u70, [411, 31]⟩ .nil) ⟨3, 49, [(.int 3), u446, (.int 2)], u491, [55]⟩ (.nd .nil ⟨6, 45, [u98, u117], u98, [588, 34, 43, 50]⟩ .nil)) ⟨2, 51, [(.int 3), u350], (.bool true), []⟩ (.nd (.nd .nil ⟨5, 71, [u100, u458], u98, [426, 50]⟩ .nil) ⟨4, 36, [(.int 3), u485], u106, [315, 59]⟩ (.nd .nil ⟨7, 83, [(.int 3), u412, (.list [])], (.bool true), [821, 461, 327]⟩ .nil)))) ⟨1, 16, [u75], u70, []⟩ (.nd (.nd (.nd (.nd .nil ⟨4, 53, [(.int 3), u470], .none, [239, 200, 182, 227, 138, 150, 147, 156]⟩ .nil) ⟨3, 58, [(.int 3), u376], (.int 1), [142, 29]⟩ (.nd .nil ⟨6, 43, [u106, u70], (.bool true), [622, 37, 30]⟩ .nil)) ⟨2, 51, [(.int 3), u343], (.bool true), []⟩ (.nd (.nd .nil ⟨5, 71, [u121, u429], u120, [423, 56]⟩ .nil) ⟨4, 53, [(.int 3), u387], .none, [134, 135, 136, 137, 138, 150, 147, 156]⟩ (.nd .nil ⟨6, 66, [(.int 3), u472], u560, [547, 258, 98]⟩ .nil))) ⟨1, 57, [u325], u326, []⟩ (.nd (.nd (.nd .nil ⟨5, 71, [u75, u397], u70, [411, 31]⟩ .nil) ⟨3, 58, [(.int 3), u440], (.int 0), [223, 36]⟩ (.nd .nil ⟨6, 66, [(.int 3), u431], u548, [485, 214, 76]⟩ .nil)) ⟨2, 56, [(.int 3), u440], u110, [26]⟩ (.nd (.nd .nil ⟨6, 66, [(.int 2), u351], u528, [387, 115, 13]⟩ .nil) ⟨4, 53, [(.int 3), u426], .none, [134, 200, 136, 137, 159, 150, 147, 141]⟩ (.nd .nil ⟨7, 83, [(.int 3), u462, u557], (.bool true), [908, 528, 367, 246, 91, 529, 612, 709]⟩ .nil))))) ⟨1, 16, [u28], u26, []⟩ (.nd (.nd (.nd (.nd (.nd (.nd .nil ⟨8, 83, [(.int 3), u471, u558], (.bool true), [925, 545, 376, 257, 93, 776, 913, 546, 590, 612, 724, 725]⟩ .nil) ⟨4, 53, [(.int 3), u461], .none, [239, 200, 182, 137, 138, 150, 147, 156]⟩ .nil) ⟨3, 58, [(.int 2), u347], (.int 1), [111, 6]⟩ (.nd .nil ⟨6, 44, [u70, u120], u120, [581, 30, 45, 56]⟩ .nil)) ⟨2, 2, [u57, (.int 3)], (.bool true), []⟩ (.nd (.nd .nil ⟨5, 11, [u120, u98], .none, [298, 288]⟩ .nil) ⟨4, 53, [(.int 2), u360], .none, [123]⟩ (.nd .nil ⟨6, 46, [u117, u120], (.list []), [589, 43, 45]⟩ .nil))) ⟨1, 57, [u261], u263, []⟩ (.nd (.nd (.nd .nil ⟨5, 71, [u121, u362], u120, [423, 56]⟩ .nil) ⟨3, 58, [(.int 3), u422], (.int 0), [203, 71]⟩ (.nd .nil ⟨6, 46, [u106, u106], u545, [631, 37, 59]⟩ .nil)) ⟨2, 56, [(.int 3), u426], u110, [26]⟩ (.nd (.nd .nil ⟨5, 71, [u108, u468], u106, [435, 59]⟩ .nil) ⟨4, 70, [(.int 3), u351], u509, [192, 66]⟩ (.nd .nil ⟨7, 83, [(.int 3), u438, (.list [])], (.bool true), [873, 498, 349]⟩ .nil)))) ⟨1, 50, [u27], u127, []⟩ (.nd (.nd (.nd (.nd .nil ⟨5, 22, [u26], u28, [269, 11]⟩ .nil) ⟨3, 58, [(.int 3), u364], (.int 4), [170, 58]⟩ (.nd .nil ⟨6, 66, [(.int 3), u409], (.list []), [458, 187, 36]⟩ .nil)) ⟨2, 51, [(.int 3), u396], (.bool true), []⟩ (.nd (.nd .nil ⟨5, 71, [u116, u445], u114, [420, 52]⟩ .nil) ⟨4, 53, [(.int 3), u395], .none, [173]⟩ (.nd .nil ⟨7, 83, [(.int 3), u376, u530], (.bool true), [750, 409, 287, 142, 29, 410, 574, 575]⟩ .nil))) ⟨2, 56, [(.int 2), u347], u21, [4, 5]⟩ (.nd (.nd (.nd .nil ⟨5, 11, [u112, u70], .none, [292, 286]⟩ .nil) ⟨3, 58, [(.int 3), u462], (.int 1), [246, 91]⟩ (.nd .nil ⟨6, 66, [(.int 3), u442], u552, [501, 225, 81]⟩ .nil)) ⟨2, 51, [(.int 3), u354], (.bool true), []⟩ (.nd (.nd .nil ⟨6, 46, [u70, u70], u530, [573, 30, 31]⟩ .nil) ⟨4, 70, [(.int 3), u436], u518, [219, 79]⟩ (.nd .nil ⟨8, 83, [(.int 3), u366, u535], (.bool true), [782, 429, 304, 172, 60, 783, 777, 430, 590, 574, 599, 600]⟩ .nil)))))
def t23 : Tr := .nd (.nd (.nd (.nd (.nd (.nd (.nd .nil ⟨8, 83, [(.int 3), u459, u548], (.bool true), [901, 523, 364, 243, 88, 857, 858, 791, 861, 524, 612, 605, 704, 705]⟩ .nil) ⟨4, 53, [(.int 3), u457], .none, [239, 200, 182, 137, 138, 139, 140, 141]⟩ .nil) ⟨2, 80, [u112, u114], (.bool false), [38, 40]⟩ (.nd .nil ⟨6, 45, [u70, u117], u70, [580, 30, 43, 31]⟩ .nil)) ⟨2, 51, [(.int 3), u368], (.bool true), []⟩ (.nd (.nd .nil ⟨5, 11, [u114, u117], .none, [294, 296]⟩ .nil) ⟨4, 36, [(.int 2), u474], u6, [275, 8]⟩ (.nd .nil ⟨6, 66, [(.int 3), u460], u556, [525, 244, 89]⟩ .nil))) ⟨1, 57, [u224], u226, []⟩ (.nd (.nd (.nd .nil ⟨5, 11, [u112, u112], .none, [292]⟩ .nil) ⟨3, 58, [(.int 3), u412], (.int 0), [190, 36]⟩ (.nd .nil ⟨6, 43, [u120, u117], (.bool true), [659, 45, 43]⟩ .nil)) ⟨2, 81, [u106, (.str ⟨#[108, 101, 97, 115, 116]⟩)], u418, [35]⟩ (.nd (.nd .nil ⟨5, 71, [u119, u360], u117, [440, 55]⟩ .nil) ⟨4, 53, [(.int 3), u407], .none, [134, 135, 182, 137, 138, 139, 147, 141]⟩ (.nd .nil ⟨7, 83, [(.int 3), u425, (.list [])], (.bool true), [850, 478, 338]⟩ .nil)))) ⟨1, 15, [u112], u113, []⟩ (.nd (.nd (.nd (.nd .nil ⟨5, 11, [u6, u6], .none, [267]⟩ .nil) ⟨3, 58, [(.int 3), u387], (.int 0), [157, 36]⟩ (.nd .nil ⟨6, 43, [u117, u112], (.bool true), [636, 43, 39]⟩ .nil)) ⟨2, 51, [(.int 3), u392], (.bool true), []⟩ (.nd (.nd .nil ⟨5, 71, [u75, u433], u70, [411, 31]⟩ .nil) ⟨4, 18, [u121], (.bool true), [56, 298, 45]⟩ (.nd .nil ⟨7, 83, [(.int 2), u353, u528], (.bool true), [736, 389, 274, 117, 13, 390, 552, 558]⟩ .nil))) ⟨2, 51, [(.int 2), u340], (.bool true), []⟩ (.nd (.nd (.nd .nil ⟨5, 22, [u112], u113, [292, 39]⟩ .nil) ⟨3, 58, [(.int 3), u453], (.int 0), [235, 36]⟩ (.nd .nil ⟨6, 66, [(.int 3), u437], u552, [496, 220, 80]⟩ .nil)) ⟨2, 56, [(.int 3), u449], u238, [26, 46, 28, 47, 48]⟩ (.nd (.nd .nil ⟨6, 66, [(.int 2), u358], u529, [397, 122, 16]⟩ .nil) ⟨4, 36, [(.int 3), u496], u120, [344, 56]⟩ (.nd .nil ⟨7, 84, [u367, u120, u420], (.bool true), [590, 574, 593, 605, 615, 585, 612, 487, 802, 835, 836, 837, 838, 839, 840, 333, 488, 804, 864, 794, 806, 676, 677]⟩ .nil))))) ⟨1, 76, [u27], u67, []⟩ (.nd (.nd (.nd (.nd (.nd .nil ⟨4, 53, [(.int 3), u465], .none, [239, 200, 182, 227, 138, 139, 140, 141]⟩ .nil) ⟨3, 58, [(.int 2), u358], (.int 1), [122, 16]⟩ (.nd .nil ⟨6, 44, [u112, u117], u117, [611, 39, 43, 55]⟩ .nil)) ⟨2, 56, [(.int 3), u382], u110, [26]⟩ (.nd (.nd .nil ⟨5, 71, [u108, u419], u106, [435, 59]⟩ .nil) ⟨4, 36, [(.int 2), u477], u26, [284, 15]⟩ (.nd .nil ⟨6, 46, [u120, u106], u547, [656, 45, 37, 252, 229, 241, 217, 56, 52, 55, 51, 59]⟩ .nil))) ⟨1, 57, [u292], u293, []⟩ (.nd (.nd (.nd .nil ⟨5, 71, [u121, u366], u120, [423, 56]⟩ .nil) ⟨3, 58, [(.int 3), u431], (.int 3), [214, 76]⟩ (.nd .nil ⟨6, 46, [u106, u120], (.list []), [668, 37, 45]⟩ .nil)) ⟨2, 81, [u112, (.str ⟨#[108, 101, 97, 115, 116]⟩)], u432, [38]⟩ (.nd (.nd .nil ⟨5, 71, [u113, u432], u112, [491, 51]⟩ .nil) ⟨4, 37, [(.int 3), u495], u98, [332, 50]⟩ (.nd .nil ⟨7, 83, [(.int 3), u451, u554], (.bool true), [889, 511, 357, 233, 84, 512, 585, 695]⟩ .nil)))) ⟨1, 16, [u119], u117, []⟩ (.nd (.nd (.nd (.nd .nil ⟨5, 71, [u28, u360], u26, [396, 15]⟩ .nil) ⟨3, 24, [(.int 3), u476], .none, []⟩ (.nd .nil ⟨6, 66, [(.int 3), u351], u541, [462, 192, 66]⟩ .nil)) ⟨2, 56, [(.int 3), u404], u151, [26, 27, 28, 47]⟩ (.nd (.nd .nil ⟨5, 71, [u116, u451], u114, [420, 52]⟩ .nil) ⟨4, 70, [(.int 3), u401], u507, [180, 64]⟩ (.nd .nil ⟨7, 84, [u367, u70, u420], (.bool true), [574, 593, 605, 615, 585, 612, 590, 444, 798, 803, 313, 445, 446, 797, 799, 800, 792, 801, 802, 629, 630]⟩ .nil))) ⟨2, 51, [(.int 2), u354], (.bool true), []⟩ (.nd (.nd (.nd .nil ⟨5, 11, [u106, u106], .none, [290]⟩ .nil) ⟨3, 58, [(.int 3), u470], (.int 2), [256, 97]⟩ (.nd .nil ⟨6, 46, [u114, u112], u553, [619, 41, 39, 229, 52, 51]⟩ .nil)) ⟨2, 56, [(.int 3), u463], u313, [26, 53]⟩ (.nd (.nd .nil ⟨6, 46, [u70, u114], (.list []), [579, 30, 41]⟩ .nil) ⟨4, 53, [(.int 3), u445], .none, [134, 200, 182, 227, 138, 139, 140, 141]⟩ (.nd .nil ⟨8, 83, [(.int 3), u414, u543], (.bool true), [830, 466, 330, 196, 68, 824, 825, 771, 826, 829, 831, 832, 833, 467, 590, 593, 651, 652]⟩ .nil)))))
def t7 : Tr := .nd t15 ⟨1, 15, [u6], u10, []⟩ t23
def t19 : Tr := .nd (.nd (.nd (.nd (.nd (.nd (.nd .nil ⟨8, 83, [(.int 3), u450, u553], (.bool true), [886, 509, 356, 232, 83, 771, 888, 510, 585, 615, 693, 694]⟩ .nil) ⟨4, 53, [(.int 3), u455], .none, [236]⟩ .nil) ⟨2, 80, [u112, u70], (.bool true), [38, 25]⟩ (.nd .nil ⟨6, 44, [u112, u114], u114, [584, 39, 41, 52]⟩ .nil)) ⟨2, 78, [(.int 3)], u367, [18, 19, 20, 21, 22, 23, 24]⟩ (.nd (.nd .nil ⟨5, 11, [u98, u112], .none, [288, 292]⟩ .nil) ⟨4, 53, [(.int 2), u351], .none, [114]⟩ (.nd .nil ⟨6, 66, [(.int 3), u458], u544, [521, 242, 87]⟩ .nil))) ⟨1, 57, [u207], u208, []⟩ (.nd (.nd (.nd .nil ⟨5, 11, [u70, u114], .none, [286, 294]⟩ .nil) ⟨3, 58, [(.int 3), u408], (.int 0), [186, 36]⟩ (.nd .nil ⟨6, 43, [u120, u98], (.bool true), [655, 45, 34]⟩ .nil)) ⟨2, 51, [(.int 3), u413], (.bool true), []⟩ (.nd (.nd .nil ⟨5, 71, [u113, u460], u112, [491, 51]⟩ .nil) ⟨4, 13, [u491], u117, []⟩ (.nd .nil ⟨7, 84, [u367, u98, u446], (.bool true), [593, 574, 605, 615, 585, 612, 590, 450, 801, 805, 806, 807, 808, 319, 451, 452, 797, 798, 799, 800, 792, 802, 638, 639]⟩ .nil)))) ⟨1, 79, [u106], u108, []⟩ (.nd (.nd (.nd (.nd .nil ⟨4, 53, [(.int 3), u472], .none, [239, 200, 182, 227, 159, 150, 147, 156]⟩ .nil) ⟨3, 58, [(.int 3), u382], (.int 0), [151, 36]⟩ (.nd .nil ⟨6, 43, [u98, u98], (.bool true), [628, 34]⟩ .nil)) ⟨2, 51, [(.int 3), u346], (.bool true), []⟩ (.nd (.nd .nil ⟨5, 11, [u112, u106], .none, [292, 290]⟩ .nil) ⟨4, 70, [(.int 3), u347], u503, [164, 49]⟩ (.nd .nil ⟨7, 83, [(.int 2), u345, (.list [])], (.bool true), [731, 382, 270]⟩ .nil))) ⟨2, 78, [(.int 2)], u337, [0, 1, 2]⟩ (.nd (.nd (.nd .nil ⟨5, 11, [u112, u117], .none, [292, 296]⟩ .nil) ⟨3, 58, [(.int 3), u449], (.int 3), [231, 74]⟩ (.nd .nil ⟨6, 66, [(.int 3), u435], u550, [492, 218, 78]⟩ .nil)) ⟨2, 51, [(.int 3), u443], (.bool true), []⟩ (.nd (.nd .nil ⟨6, 66, [(.int 2), u356], u337, [394, 120, 14]⟩ .nil) ⟨4, 53, [(.int 3), u429], .none, [211]⟩ (.nd .nil ⟨7, 84, [u367, u117, u405], (.bool true), [612, 574, 593, 605, 615, 585, 590, 470, 802, 835, 836, 837, 838, 839, 840, 333, 471, 803, 841, 793, 805, 661, 662]⟩ .nil))))) ⟨1, 76, [u57], u61, []⟩ (.nd (.nd (.nd (.nd (.nd .nil ⟨4, 53, [(.int 3), u360], .none, [248]⟩ .nil) ⟨3, 24, [(.int 2), u474], .none, []⟩ (.nd .nil ⟨6, 66, [(.int 3), u397], u537, [433, 176, 62]⟩ .nil)) ⟨2, 51, [(.int 3), u377], (.bool true), []⟩ (.nd (.nd .nil ⟨5, 11, [u120, u117], .none, [298, 296]⟩ .nil) ⟨4, 53, [(.int 2), u364], .none, [127]⟩ (.nd .nil ⟨6, 46, [u120, u70], u367, [625, 45, 30, 252, 229, 241, 217, 184, 202, 56, 52, 55, 51, 50, 59, 31]⟩ .nil))) ⟨1, 57, [u276], u277, []⟩ (.nd (.nd (.nd .nil ⟨5, 71, [u75, u393], u70, [411, 31]⟩ .nil) ⟨3, 58, [(.int 3), u426], (.int 0), [207, 36]⟩ (.nd .nil ⟨6, 46, [u106, u114], (.list []), [608, 37, 41]⟩ .nil)) ⟨2, 51, [(.int 3), u428], (.bool true), []⟩ (.nd (.nd .nil ⟨5, 71, [u116, u470], u114, [420, 52]⟩ .nil) ⟨4, 70, [(.int 3), u414], u510, [196, 68]⟩ (.nd .nil ⟨7, 84, [u367, u112, u14], (.bool true), [615, 574, 593, 605, 585, 612, 590, 441, 792, 793, 794, 795, 796, 310, 442, 443, 797, 798, 799, 800, 801, 802, 626, 627]⟩ .nil)))) ⟨1, 16, [u113], u112, []⟩ (.nd (.nd (.nd (.nd .nil ⟨5, 71, [u28, u356], u26, [396, 15]⟩ .nil) ⟨3, 58, [(.int 3), u399], (.int 4), [178, 63]⟩ (.nd .nil ⟨6, 66, [(.int 3), u411], (.list []), [460, 189, 36]⟩ .nil)) ⟨2, 51, [(.int 3), u400], (.bool true), []⟩ (.nd (.nd .nil ⟨5, 71, [u116, u449], u114, [420, 52]⟩ .nil) ⟨4, 18, [u108], (.bool true), [59, 290, 37]⟩ (.nd .nil ⟨7, 83, [(.int 3), u387, (.list [])], (.bool true), [758, 415, 295]⟩ .nil))) ⟨2, 56, [(.int 2), u351], u38, [4, 5, 12]⟩ (.nd (.nd (.nd .nil ⟨5, 38, [(.int 3), u476, u474], (.bool false), [311, 309]⟩ .nil) ⟨3, 58, [(.int 3), u465], (.int 7), [251, 94]⟩ (.nd .nil ⟨6, 46, [u114, u98], u541, [617, 41, 34, 229, 217, 52, 51, 50]⟩ .nil)) ⟨2, 56, [(.int 3), u459], u295, [26, 46, 53, 28, 47]⟩ (.nd (.nd .nil ⟨6, 46, [u70, u106], (.list []), [577, 30, 37]⟩ .nil) ⟨4, 53, [(.int 3), u439], .none, [134, 200, 182, 137, 159, 150, 147, 141]⟩ (.nd .nil ⟨8, 83, [(.int 3), u401, u539], (.bool true), [790, 438, 308, 180, 64, 765, 766, 767, 768, 769, 770, 791, 775, 439, 612, 574, 613, 614]⟩ .nil)))))
def t27 : Tr := .nd (.nd (.nd (.nd (.nd (.nd (.nd .nil ⟨8, 83, [(.int 3), u467, u543], (.bool true), [916, 537, 372, 253, 95, 824, 825, 771, 826, 829, 831, 832, 833, 538, 590, 593, 716, 717]⟩ .nil) ⟨4, 53, [(.int 3), u459], .none, [239, 200, 182, 137, 138, 150, 140, 141]⟩ .nil) ⟨3, 4, [u6], (.bool true), [105, 106]⟩ (.nd .nil ⟨6, 66, [(.int 3), u364], u534, [427, 170, 58]⟩ .nil)) ⟨2, 51, [(.int 3), u372], (.bool true), []⟩ (.nd (.nd .nil ⟨5, 71, [u121, u414], u120, [423, 56]⟩ .nil) ⟨4, 70, [(.int 2), u356], u500, [120, 14]⟩ (.nd .nil ⟨6, 46, [u117, u114], (.list []), [708, 43, 41]⟩ .nil))) ⟨1, 57, [u244], u246, []⟩ (.nd (.nd (.nd .nil ⟨5, 71, [u75, u347], u70, [411, 31]⟩ .nil) ⟨3, 58, [(.int 3), u416], (.int 3), [198, 69]⟩ (.nd .nil ⟨6, 46, [u106, u70], u537, [622, 37, 30, 202, 59, 31]⟩ .nil)) ⟨2, 56, [(.int 3), u422], u224, [26, 27, 46]⟩ (.nd (.nd .nil ⟨5, 71, [u75, u465], u70, [411, 31]⟩ .nil) ⟨4, 53, [(.int 3), u410], .none, [134, 135, 182, 137, 138, 150, 147, 156]⟩ (.nd .nil ⟨7, 84, [u367, u106, u420], (.bool true), [605, 574, 593, 615, 585, 612, 590, 487, 802, 835, 836, 837, 838, 839, 840, 333, 488, 804, 864, 794, 806, 676, 677]⟩ .nil)))) ⟨1, 15, [u117], u119, []⟩ (.nd (.nd (.nd (.nd .nil ⟨5, 71, [u10, u347], u6, [381, 8]⟩ .nil) ⟨3, 58, [(.int 3), u391], (.int 0), [162, 36]⟩ (.nd .nil ⟨6, 66, [(.int 3), u407], u540, [455, 185, 65]⟩ .nil)) ⟨2, 51, [(.int 3), u365], (.bool true), []⟩ (.nd (.nd .nil ⟨5, 71, [u108, u436], u106, [435, 59]⟩ .nil) ⟨4, 53, [(.int 3), u364], .none, [169]⟩ (.nd .nil ⟨7, 83, [(.int 2), u362, u529], (.bool true), [746, 401, 281, 126, 16, 402, 559, 568]⟩ .nil))) ⟨2, 81, [u26, (.str ⟨#[109, 111, 115, 116]⟩)], u344, [9]⟩ (.nd (.nd (.nd .nil ⟨5, 11, [u114, u112], .none, [294, 292]⟩ .nil) ⟨3, 58, [(.int 3), u458], (.int 3), [242, 87]⟩ (.nd .nil ⟨6, 66, [(.int 3), u439], (.list []), [499, 222, 36]⟩ .nil)) ⟨2, 56, [(.int 3), u453], u110, [26]⟩ (.nd (.nd .nil ⟨6, 66, [(.int 2), u364], u529, [403, 128, 17]⟩ .nil) ⟨4, 18, [u113], (.bool true), [51, 292, 39]⟩ (.nd .nil ⟨8, 83, [(.int 3), u347, u531], (.bool true), [764, 418, 300, 164, 49, 765, 766, 767, 768, 769, 770, 771, 772, 419, 585, 574, 586, 587]⟩ .nil))))) ⟨1, 50, [u57], u82, []⟩ (.nd (.nd (.nd (.nd (.nd .nil ⟨4, 53, [(.int 3), u468], .none, [239, 200, 182, 227, 138, 150, 140, 141]⟩ .nil) ⟨3, 58, [(.int 2), u366], (.int 1), [130, 17]⟩ (.nd .nil ⟨6, 43, [u114, u112], (.bool true), [619, 41, 39]⟩ .nil)) ⟨2, 81, [u114, (.str ⟨#[109, 111, 115, 116]⟩)], u386, [40]⟩ (.nd (.nd .nil ⟨5, 11, [u106, u112], .none, [290, 292]⟩ .nil) ⟨4, 18, [u75], (.bool true), [31, 286, 30]⟩ (.nd .nil ⟨6, 66, [(.int 3), u470], u555, [543, 256, 97]⟩ .nil))) ⟨1, 57, [u309], u311, []⟩ (.nd (.nd (.nd .nil ⟨5, 71, [u121, u395], u120, [423, 56]⟩ .nil) ⟨3, 58, [(.int 3), u436], (.int 2), [219, 79]⟩ (.nd .nil ⟨6, 45, [u106, u114], u106, [608, 37, 41, 59]⟩ .nil)) ⟨2, 56, [(.int 3), u436], u261, [26, 46, 28, 47]⟩ (.nd (.nd .nil ⟨6, 66, [(.int 2), u345], (.list []), [382, 109, 10]⟩ .nil) ⟨4, 53, [(.int 3), u423], .none, [134, 200, 136, 137, 138, 150, 140, 141]⟩ (.nd .nil ⟨7, 84, [u367, u114, u420], (.bool true), [585, 574, 593, 605, 615, 612, 590, 487, 802, 835, 836, 837, 838, 839, 840, 333, 488, 804, 864, 794, 806, 676, 677]⟩ .nil)))) ⟨1, 16, [u108], u106, []⟩ (.nd (.nd (.nd (.nd .nil ⟨5, 38, [(.int 2), u477, u477], (.bool true), [284]⟩ .nil) ⟨3, 24, [(.int 3), u485], .none, []⟩ (.nd .nil ⟨6, 66, [(.int 3), u353], u542, [464, 194, 67]⟩ .nil)) ⟨2, 56, [(.int 3), u409], u110, [26]⟩ (.nd (.nd .nil ⟨5, 38, [(.int 3), u490, u498], (.bool false), [318, 361]⟩ .nil) ⟨4, 37, [(.int 3), u474], u70, [309, 31]⟩ (.nd .nil ⟨7, 83, [(.int 3), u408, (.list [])], (.bool true), [813, 457, 323]⟩ .nil))) ⟨2, 51, [(.int 2), u359], (.bool true), []⟩ (.nd (.nd (.nd .nil ⟨5, 11, [u117, u106], .none, [296, 290]⟩ .nil) ⟨4, 53, [(.int 2), u342], .none, [102, 103]⟩ (.nd .nil ⟨6, 66, [(.int 3), u452], (.list []), [513, 234, 36]⟩ .nil)) ⟨2, 56, [(.int 3), u465], u320, [26, 27, 46, 53, 28, 47, 48]⟩ (.nd (.nd .nil ⟨6, 46, [u70, u120], (.list []), [581, 30, 45]⟩ .nil) ⟨4, 53, [(.int 3), u449], .none, [134, 200, 182, 227, 138, 150, 140, 141]⟩ (.nd .nil ⟨8, 83, [(.int 3), u429, u547], (.bool true), [860, 483, 342, 212, 75, 857, 858, 771, 859, 829, 861, 832, 862, 484, 590, 605, 671, 672]⟩ .nil)))))
def t11 : Tr := .nd t19 ⟨1, 15, [u26], u28, []⟩ t27
def t3 : Tr := .nd t7 ⟨1, 79, [u6], u10, []⟩ t11
def t17 : Tr := .nd (.nd (.nd (.nd (.nd (.nd (.nd .nil ⟨8, 83, [(.int 3), u448, u541], (.bool true), [882, 505, 354, 230, 82, 824, 825, 771, 826, 506, 585, 593, 689, 690]⟩ .nil) ⟨4, 53, [(.int 3), u452], .none, [134, 200, 182, 227, 159, 150, 147, 141]⟩ .nil) ⟨2, 56, [(.int 3), u471], u317, [26, 53, 47, 48]⟩ (.nd .nil ⟨6, 44, [u112, u112], u112, [583, 39, 51]⟩ .nil)) ⟨2, 51, [(.int 2), u365], (.bool true), []⟩ (.nd (.nd .nil ⟨5, 71, [u75, u404], u70, [411, 31]⟩ .nil) ⟨4, 53, [(.int 2), u349], .none, [112]⟩ (.nd .nil ⟨6, 66, [(.int 3), u457], u539, [519, 240, 86]⟩ .nil))) ⟨1, 57, [u193], u195, []⟩ (.nd (.nd (.nd .nil ⟨5, 11, [u70, u106], .none, [286, 290]⟩ .nil) ⟨3, 58, [(.int 3), u404], (.int 2), [183, 57]⟩ (.nd .nil ⟨6, 45, [u98, u120], u98, [644, 34, 45, 50]⟩ .nil)) ⟨2, 51, [(.int 3), u352], (.bool true), []⟩ (.nd (.nd .nil ⟨5, 71, [u108, u459], u106, [435, 59]⟩ .nil) ⟨4, 37, [(.int 3), u485], u70, [315, 31]⟩ (.nd .nil ⟨7, 84, [u367, u98, u420], (.bool true), [593, 574, 605, 615, 585, 612, 590, 444, 798, 803, 313, 445, 446, 797, 799, 800, 792, 801, 802, 629, 630]⟩ .nil)))) ⟨1, 57, [u102], u105, []⟩ (.nd (.nd (.nd (.nd .nil ⟨4, 53, [(.int 3), u471], .none, [239, 200, 182, 227, 159, 150, 147, 141]⟩ .nil) ⟨3, 58, [(.int 3), u379], (.int 0), [148, 33]⟩ (.nd .nil ⟨6, 43, [u117, u70], (.bool true), [624, 43, 30]⟩ .nil)) ⟨2, 81, [u120, (.str ⟨#[109, 111, 115, 116]⟩)], u390, [44]⟩ (.nd (.nd .nil ⟨5, 71, [u119, u431], u117, [440, 55]⟩ .nil) ⟨4, 53, [(.int 3), u391], .none, [134, 135, 136, 137, 159, 150, 147, 156]⟩ (.nd .nil ⟨6, 66, [(.int 3), u432], u549, [549, 266, 77]⟩ .nil))) ⟨1, 57, [u332], u333, []⟩ (.nd (.nd (.nd .nil ⟨5, 71, [u121, u399], u120, [423, 56]⟩ .nil) ⟨3, 58, [(.int 3), u445], (.int 5), [228, 49]⟩ (.nd .nil ⟨6, 66, [(.int 3), u433], u549, [489, 216, 77]⟩ .nil)) ⟨2, 56, [(.int 3), u442], u268, [26, 27, 46, 53, 47]⟩ (.nd (.nd .nil ⟨6, 43, [u6, u6], (.bool true), [551, 7]⟩ .nil) ⟨4, 53, [(.int 3), u349], .none, [209]⟩ (.nd .nil ⟨7, 84, [u367, u117, u14], (.bool true), [612, 574, 593, 605, 615, 585, 590, 533, 802, 835, 836, 837, 838, 839, 840, 333, 534, 808, 712, 713]⟩ .nil))))) ⟨1, 57, [u53], u55, []⟩ (.nd (.nd (.nd (.nd (.nd .nil ⟨4, 70, [(.int 3), u462], u524, [246, 91]⟩ .nil) ⟨3, 58, [(.int 2), u351], (.int 1), [115, 13]⟩ (.nd .nil ⟨6, 44, [u98, u114], u114, [601, 34, 41, 52]⟩ .nil)) ⟨2, 2, [u59, (.int 3)], (.bool true), []⟩ (.nd (.nd .nil ⟨5, 11, [u120, u112], .none, [298, 292]⟩ .nil) ⟨4, 53, [(.int 2), u362], .none, [125]⟩ (.nd .nil ⟨6, 45, [u117, u120], u117, [589, 43, 45, 55]⟩ .nil))) ⟨1, 57, [u268], u270, []⟩ (.nd (.nd (.nd .nil ⟨5, 22, [u98], u100, [288, 34]⟩ .nil) ⟨3, 58, [(.int 3), u424], (.int 0), [205, 73]⟩ (.nd .nil ⟨6, 46, [u106, u112], (.list []), [667, 37, 39]⟩ .nil)) ⟨2, 51, [(.int 3), u348], (.bool true), []⟩ (.nd (.nd .nil ⟨5, 71, [u113, u469], u112, [491, 51]⟩ .nil) ⟨4, 70, [(.int 3), u353], u504, [194, 67]⟩ (.nd .nil ⟨7, 83, [(.int 3), u440, (.list [])], (.bool true), [877, 500, 351]⟩ .nil)))) ⟨1, 57, [u134], u138, []⟩ (.nd (.nd (.nd (.nd .nil ⟨5, 38, [(.int 2), u474, u474], (.bool true), [275]⟩ .nil) ⟨3, 58, [(.int 3), u395], (.int 4), [174, 61]⟩ (.nd .nil ⟨6, 66, [(.int 3), u410], (.list []), [459, 188, 36]⟩ .nil)) ⟨2, 51, [(.int 3), u398], (.bool true), []⟩ (.nd (.nd .nil ⟨5, 71, [u116, u448], u114, [420, 52]⟩ .nil) ⟨4, 53, [(.int 3), u397], .none, [175]⟩ (.nd .nil ⟨7, 83, [(.int 3), u382, (.list [])], (.bool true), [754, 413, 291]⟩ .nil))) ⟨2, 56, [(.int 2), u349], u21, [4, 5]⟩ (.nd (.nd (.nd .nil ⟨5, 11, [u120, u70], .none, [298, 286]⟩ .nil) ⟨3, 58, [(.int 3), u360], (.int 2), [249, 93]⟩ (.nd .nil ⟨6, 46, [u114, u70], u531, [616, 41, 30, 229, 217, 184, 202, 52, 51, 50, 59, 31]⟩ .nil)) ⟨2, 20, [u119, (.int 1)], u357, []⟩ (.nd (.nd .nil ⟨6, 46, [u70, u98], (.list []), [576, 30, 34]⟩ .nil) ⟨4, 70, [(.int 3), u437], u519, [220, 80]⟩ (.nd .nil ⟨8, 83, [(.int 3), u397, u537], (.bool true), [787, 433, 306, 176, 62, 780, 768, 434, 605, 574, 606, 607]⟩ .nil)))))
def t25 : Tr := .nd (.nd (.nd (.nd (.nd (.nd (.nd .nil ⟨8, 83, [(.int 3), u360, u558], (.bool true), [912, 531, 369, 249, 93, 776, 913, 532, 590, 612, 710, 711]⟩ .nil) ⟨4, 53, [(.int 3), u458], .none, [239, 200, 182, 137, 138, 139, 147, 141]⟩ .nil) ⟨2, 80, [u112, u120], (.bool false), [38, 44]⟩ (.nd .nil ⟨6, 45, [u70, u120], u70, [581, 30, 45, 31]⟩ .nil)) ⟨2, 51, [(.int 3), u370], (.bool true), []⟩ (.nd (.nd .nil ⟨5, 71, [u75, u353], .none, [411, 31]⟩ .nil) ⟨4, 37, [(.int 2), u474], u6, [275, 8]⟩ (.nd .nil ⟨6, 45, [u112, u117], u112, [611, 39, 43, 51]⟩ .nil))) ⟨1, 57, [u234], u236, []⟩ (.nd (.nd (.nd .nil ⟨5, 22, [u114], u116, [294, 41]⟩ .nil) ⟨3, 58, [(.int 3), u353], (.int 4), [194, 67]⟩ (.nd .nil ⟨6, 43, [u112, u98], (.bool true), [660, 39, 34]⟩ .nil)) ⟨2, 56, [(.int 3), u419], u220, [26, 27, 46, 28]⟩ (.nd (.nd .nil ⟨5, 38, [(.int 3), u474, u477], (.bool false), [309, 370]⟩ .nil) ⟨4, 53, [(.int 3), u408], .none, [134, 135, 182, 137, 138, 150, 140, 141]⟩ (.nd .nil ⟨7, 83, [(.int 3), u427, (.list [])], (.bool true), [854, 480, 340]⟩ .nil)))) ⟨1, 15, [u114], u116, []⟩ (.nd (.nd (.nd (.nd .nil ⟨5, 71, [u10, u342], u6, [381, 8]⟩ .nil) ⟨3, 58, [(.int 3), u389], (.int 0), [160, 36]⟩ (.nd .nil ⟨6, 66, [(.int 3), u404], u533, [453, 183, 57]⟩ .nil)) ⟨2, 51, [(.int 3), u363], (.bool true), []⟩ (.nd (.nd .nil ⟨5, 71, [u100, u435], u98, [426, 50]⟩ .nil) ⟨4, 70, [(.int 3), u393], u505, [168, 57]⟩ (.nd .nil ⟨7, 83, [(.int 2), u358, u529], (.bool true), [743, 397, 279, 122, 16, 398, 559, 566]⟩ .nil))) ⟨2, 2, [u1, (.int 2)], (.bool true), []⟩ (.nd (.nd (.nd .nil ⟨5, 11, [u114, u98], .none, [294, 288]⟩ .nil) ⟨3, 24, [(.int 3), u498], .none, []⟩ (.nd .nil ⟨6, 66, [(.int 3), u438], (.list []), [498, 221, 73]⟩ .nil)) ⟨2, 56, [(.int 3), u451], u280, [26, 46, 48]⟩ (.nd (.nd .nil ⟨6, 66, [(.int 2), u360], u529, [399, 124, 16]⟩ .nil) ⟨4, 53, [(.int 3), u433], .none, [134, 200, 182, 137, 138, 139, 140, 141]⟩ (.nd .nil ⟨7, 84, [u367, u120, u446], (.bool true), [590, 574, 593, 605, 615, 585, 612, 517, 802, 835, 836, 837, 838, 839, 840, 333, 518, 796, 698, 699]⟩ .nil))))) ⟨1, 79, [u70], u75, []⟩ (.nd (.nd (.nd (.nd (.nd .nil ⟨4, 53, [(.int 3), u467], .none, [239, 200, 182, 227, 138, 139, 147, 141]⟩ .nil) ⟨3, 58, [(.int 2), u362], (.int 1), [126, 16]⟩ (.nd .nil ⟨6, 43, [u114, u98], (.bool true), [617, 41, 34]⟩ .nil)) ⟨2, 56, [(.int 3), u384], u110, [26]⟩ (.nd (.nd .nil ⟨5, 11, [u106, u98], .none, [290, 288]⟩ .nil) ⟨4, 53, [(.int 3), u376], .none, [134, 135, 136, 137, 138, 139, 140, 141]⟩ (.nd .nil ⟨6, 46, [u120, u112], u559, [657, 45, 39, 252, 229, 241, 56, 52, 55, 51]⟩ .nil))) ⟨1, 57, [u299], u301, []⟩ (.nd (.nd (.nd .nil ⟨5, 11, [u98, u114], .none, [288, 294]⟩ .nil) ⟨3, 58, [(.int 3), u433], (.int 4), [216, 77]⟩ (.nd .nil ⟨6, 44, [u106, u112], u112, [667, 37, 39, 51]⟩ .nil)) ⟨2, 20, [u113, (.int 1)], u434, []⟩ (.nd (.nd .nil ⟨6, 66, [(.int 2), u342], u528, [379, 104, 6]⟩ .nil) ⟨4, 70, [(.int 3), u419], u506, [201, 70]⟩ (.nd .nil ⟨7, 83, [(.int 3), u453, (.list [])], (.bool true), [893, 514, 359]⟩ .nil)))) ⟨1, 57, [u151], u155, []⟩ (.nd (.nd (.nd (.nd .nil ⟨5, 71, [u28, u364], u26, [396, 15]⟩ .nil) ⟨3, 49, [(.int 3), u420, (.int 3)], u481, [50]⟩ (.nd .nil ⟨6, 45, [u98, u112], u98, [643, 34, 39, 50]⟩ .nil)) ⟨2, 56, [(.int 3), u407], u193, [26, 27, 47]⟩ (.nd (.nd .nil ⟨5, 71, [u116, u455], u114, [420, 52]⟩ .nil) ⟨4, 36, [(.int 3), u474], u114, [309, 52]⟩ (.nd .nil ⟨7, 84, [u367, u70, u446], (.bool true), [574, 593, 605, 615, 585, 612, 590, 450, 801, 805, 806, 807, 808, 319, 451, 452, 797, 798, 799, 800, 792, 802, 638, 639]⟩ .nil))) ⟨2, 20, [u28, (.int 1)], u357, []⟩ (.nd (.nd (.nd .nil ⟨5, 38, [(.int 3), u488, u485], (.bool false), [317, 315]⟩ .nil) ⟨3, 58, [(.int 3), u472], (.int 1), [258, 98]⟩ (.nd .nil ⟨6, 66, [(.int 3), u451], u554, [511, 233, 84]⟩ .nil)) ⟨2, 56, [(.int 3), u360], u317, [26, 53, 47, 48]⟩ (.nd (.nd .nil ⟨6, 46, [u70, u117], (.list []), [580, 30, 43]⟩ .nil) ⟨4, 53, [(.int 3), u448], .none, [134, 200, 182, 227, 138, 139, 147, 141]⟩ (.nd .nil ⟨8, 83, [(.int 3), u419, u537], (.bool true), [842, 472, 334, 201, 70, 780, 768, 473, 605, 574, 663, 664]⟩ .nil)))))
def t9 : Tr := .nd t17 ⟨1, 79, [u26], u28, []⟩ t25
def t21 : Tr := .nd (.nd (.nd (.nd (.nd (.nd (.nd .nil ⟨8, 83, [(.int 3), u457, u539], (.bool true), [897, 519, 362, 240, 86, 765, 766, 767, 768, 769, 770, 791, 775, 520, 612, 574, 700, 701]⟩ .nil) ⟨4, 36, [(.int 3), u498], u120, [361, 56]⟩ .nil) ⟨2, 80, [u112, u106], (.bool true), [38, 35]⟩ (.nd .nil ⟨6, 66, [(.int 3), u362], u532, [421, 166, 54]⟩ .nil)) ⟨2, 81, [u70, (.str ⟨#[109, 111, 115, 116]⟩)], u375, [25]⟩ (.nd (.nd .nil ⟨5, 71, [u116, u351], u114, [420, 52]⟩ .nil) ⟨4, 53, [(.int 2), u353], .none, [116]⟩ (.nd .nil ⟨6, 66, [(.int 3), u459], u548, [523, 243, 88]⟩ .nil))) ⟨1, 57, [u215], u218, []⟩ (.nd (.nd (.nd .nil ⟨5, 11, [u70, u120], .none, [286, 298]⟩ .nil) ⟨3, 58, [(.int 3), u410], (.int 0), [188, 36]⟩ (.nd .nil ⟨6, 43, [u120, u112], (.bool true), [657, 45, 39]⟩ .nil)) ⟨2, 51, [(.int 3), u415], (.bool true), []⟩ (.nd (.nd .nil ⟨5, 71, [u119, u462], u117, [440, 55]⟩ .nil) ⟨4, 53, [(.int 3), u404], .none, [134, 135, 182, 137, 138, 139, 140, 141]⟩ (.nd .nil ⟨7, 83, [(.int 3), u423, u545], (.bool true), [846, 475, 336, 204, 72, 476, 605, 666]⟩ .nil)))) ⟨1, 15, [u106], u108, []⟩ (.nd (.nd (.nd (.nd .nil ⟨4, 53, [(.int 3), u432], .none, [134, 200, 182, 137]⟩ .nil) ⟨3, 58, [(.int 3), u384], (.int 0), [153, 36]⟩ (.nd .nil ⟨6, 43, [u117, u98], (.bool true), [634, 43, 34]⟩ .nil)) ⟨2, 51, [(.int 3), u361], (.bool true), []⟩ (.nd (.nd .nil ⟨5, 38, [(.int 3), u480, u496], (.bool false), [312, 344]⟩ .nil) ⟨4, 53, [(.int 3), u362], .none, [165]⟩ (.nd .nil ⟨7, 83, [(.int 2), u349, u528], (.bool true), [734, 385, 272, 113, 6, 386, 552, 556]⟩ .nil))) ⟨2, 81, [u6, (.str ⟨#[109, 111, 115, 116]⟩)], u341, [3]⟩ (.nd (.nd (.nd .nil ⟨5, 71, [u119, u401], u117, [440, 55]⟩ .nil) ⟨3, 58, [(.int 3), u451], (.int 1), [233, 84]⟩ (.nd .nil ⟨6, 66, [(.int 3), u436], u551, [494, 219, 79]⟩ .nil)) ⟨2, 20, [u116, (.int 1)], u447, []⟩ (.nd (.nd .nil ⟨6, 44, [u6, u26], u26, [554, 7, 11, 15]⟩ .nil) ⟨4, 53, [(.int 3), u431], .none, [213]⟩ (.nd .nil ⟨7, 83, [(.int 3), u472, u560], (.bool true), [927, 547, 377, 258, 98, 548, 590, 726]⟩ .nil))))) ⟨1, 76, [u59], u64, []⟩ (.nd (.nd (.nd (.nd (.nd .nil ⟨4, 36, [(.int 3), u477], u120, [370, 56]⟩ .nil) ⟨3, 24, [(.int 2), u476], .none, []⟩ (.nd .nil ⟨6, 44, [u106, u114], u114, [608, 37, 41, 52]⟩ .nil)) ⟨2, 81, [u106, (.str ⟨#[109, 111, 115, 116]⟩)], u381, [35]⟩ (.nd (.nd .nil ⟨5, 38, [(.int 3), u495, u495], (.bool true), [332]⟩ .nil) ⟨4, 53, [(.int 2), u366], .none, [129]⟩ (.nd .nil ⟨6, 46, [u120, u98], u543, [655, 45, 34, 252, 229, 241, 217, 56, 52, 55, 51, 50]⟩ .nil))) ⟨1, 57, [u284], u287, []⟩ (.nd (.nd (.nd .nil ⟨5, 71, [u121, u364], u120, [423, 56]⟩ .nil) ⟨3, 58, [(.int 3), u349], (.int 3), [210, 74]⟩ (.nd .nil ⟨6, 46, [u106, u117], (.list []), [596, 37, 43]⟩ .nil)) ⟨2, 51, [(.int 3), u430], (.bool true), []⟩ (.nd (.nd .nil ⟨5, 71, [u119, u471], u117, [440, 55]⟩ .nil) ⟨4, 70, [(.int 3), u416], u511, [198, 69]⟩ (.nd .nil ⟨7, 84, [u367, u112, u405], (.bool true), [615, 574, 593, 605, 585, 612, 590, 470, 802, 835, 836, 837, 838, 839, 840, 333, 471, 803, 841, 793, 805, 661, 662]⟩ .nil)))) ⟨1, 50, [u59], u141, []⟩ (.nd (.nd (.nd (.nd .nil ⟨5, 11, [u26, u26], .none, [269]⟩ .nil) ⟨3, 24, [(.int 3), u474], .none, []⟩ (.nd .nil ⟨6, 66, [(.int 3), u412], (.list []), [461, 190, 36]⟩ .nil)) ⟨2, 81, [u98, (.str ⟨#[108, 101, 97, 115, 116]⟩)], u403, [32]⟩ (.nd (.nd .nil ⟨5, 71, [u116, u450], u114, [420, 52]⟩ .nil) ⟨4, 70, [(.int 3), u399], u504, [178, 63]⟩ (.nd .nil ⟨7, 83, [(.int 3), u391, (.list [])], (.bool true), [762, 417, 299]⟩ .nil))) ⟨2, 56, [(.int 2), u353], u38, [4, 5, 12]⟩ (.nd (.nd (.nd .nil ⟨5, 38, [(.int 3), u480, u480], (.bool true), [312]⟩ .nil) ⟨3, 58, [(.int 3), u468], (.int 5), [254, 75]⟩ (.nd .nil ⟨6, 46, [u114, u106], u546, [618, 41, 37, 229, 217, 52, 51, 59]⟩ .nil)) ⟨2, 56, [(.int 3), u461], u303, [26, 46, 53]⟩ (.nd (.nd .nil ⟨6, 46, [u70, u112], (.list []), [578, 30, 39]⟩ .nil) ⟨4, 53, [(.int 3), u442], .none, [224]⟩ (.nd .nil ⟨8, 83, [(.int 3), u351, u541], (.bool true), [823, 462, 328, 192, 66, 824, 825, 771, 826, 463, 585, 593, 645, 646]⟩ .nil)))))
def t29 : Tr := .nd (.nd (.nd (.nd (.nd (.nd (.nd .nil ⟨8, 83, [(.int 3), u469, u559], (.bool true), [920, 541, 374, 255, 96, 771, 888, 829, 905, 832, 922, 542, 590, 615, 720, 721]⟩ .nil) ⟨4, 53, [(.int 3), u460], .none, [239, 200, 182, 137, 138, 150, 147, 141]⟩ .nil) ⟨3, 4, [u26], (.bool true), [106, 105]⟩ (.nd .nil ⟨6, 44, [u106, u117], u117, [596, 37, 43, 55]⟩ .nil)) ⟨2, 51, [(.int 3), u374], (.bool true), []⟩ (.nd (.nd .nil ⟨5, 71, [u119, u416], u117, [440, 55]⟩ .nil) ⟨4, 53, [(.int 2), u358], .none, [119, 108]⟩ (.nd .nil ⟨6, 46, [u117, u117], u557, [637, 43, 55]⟩ .nil))) ⟨1, 57, [u253], u255, []⟩ (.nd (.nd (.nd .nil ⟨5, 11, [u117, u120], .none, [296, 298]⟩ .nil) ⟨3, 14, [(.int 3)], u120, []⟩ (.nd .nil ⟨6, 46, [u106, u98], (.list []), [665, 37, 34]⟩ .nil)) ⟨2, 56, [(.int 3), u424], u234, [26, 46]⟩ (.nd (.nd .nil ⟨5, 71, [u100, u467], u98, [426, 50]⟩ .nil) ⟨4, 53, [(.int 3), u412], .none, [134, 135, 182, 137, 159, 150, 147, 156]⟩ (.nd .nil ⟨7, 84, [u367, u106, u446], (.bool true), [605, 574, 593, 615, 585, 612, 590, 450, 801, 805, 806, 807, 808, 319, 451, 452, 797, 798, 799, 800, 792, 802, 638, 639]⟩ .nil)))) ⟨1, 15, [u120], u121, []⟩ (.nd (.nd (.nd (.nd .nil ⟨5, 71, [u10, u351], u6, [381, 8]⟩ .nil) ⟨3, 58, [(.int 3), u362], (.int 4), [166, 54]⟩ (.nd .nil ⟨6, 66, [(.int 3), u408], (.list []), [457, 186, 36]⟩ .nil)) ⟨2, 51, [(.int 3), u394], (.bool true), []⟩ (.nd (.nd .nil ⟨5, 11, [u112, u120], .none, [292, 298]⟩ .nil) ⟨4, 53, [(.int 3), u366], .none, [171]⟩ (.nd .nil ⟨7, 83, [(.int 2), u366, u529], (.bool true), [748, 405, 283, 130, 17, 406, 559, 570]⟩ .nil))) ⟨2, 56, [(.int 2), u345], u31, [4]⟩ (.nd (.nd (.nd .nil ⟨5, 11, [u98, u70], .none, [288, 286]⟩ .nil) ⟨3, 58, [(.int 3), u460], (.int 2), [244, 89]⟩ (.nd .nil ⟨6, 66, [(.int 3), u440], (.list []), [500, 223, 36]⟩ .nil)) ⟨2, 56, [(.int 3), u455], u284, [26, 27, 46, 53, 28, 47, 48]⟩ (.nd (.nd .nil ⟨6, 43, [u26, u26], (.bool true), [565, 11]⟩ .nil) ⟨4, 70, [(.int 3), u435], u517, [218, 78]⟩ (.nd .nil ⟨8, 83, [(.int 3), u393, u533], (.bool true), [778, 424, 302, 168, 57, 765, 766, 425, 593, 574, 594, 595]⟩ .nil))))) ⟨1, 57, [u92], u97, []⟩ (.nd (.nd (.nd (.nd (.nd .nil ⟨4, 53, [(.int 3), u469], .none, [239, 200, 182, 227, 138, 150, 147, 141]⟩ .nil) ⟨3, 14, [(.int 2)], u26, []⟩ (.nd .nil ⟨6, 43, [u70, u70], (.bool true), [573, 30]⟩ .nil)) ⟨2, 56, [(.int 3), u387], u110, [26]⟩ (.nd (.nd .nil ⟨5, 71, [u116, u349], u114, [420, 52]⟩ .nil) ⟨4, 53, [(.int 3), u382], .none, [134, 135, 136, 137, 138, 150, 140, 141]⟩ (.nd .nil ⟨6, 66, [(.int 3), u471], u558, [545, 257, 93]⟩ .nil))) ⟨1, 57, [u317], u319, []⟩ (.nd (.nd (.nd .nil ⟨5, 22, [u106], u108, [290, 37]⟩ .nil) ⟨3, 58, [(.int 3), u438], (.int 0), [221, 73]⟩ (.nd .nil ⟨6, 45, [u106, u117], u106, [596, 37, 43, 59]⟩ .nil)) ⟨2, 56, [(.int 3), u438], u234, [26, 46]⟩ (.nd (.nd .nil ⟨6, 66, [(.int 2), u347], u528, [383, 111, 6]⟩ .nil) ⟨4, 53, [(.int 3), u424], .none, [134, 200, 136, 137, 138, 150, 147, 141]⟩ (.nd .nil ⟨7, 84, [u367, u114, u446], (.bool true), [585, 574, 593, 605, 615, 612, 590, 517, 802, 835, 836, 837, 838, 839, 840, 333, 518, 796, 698, 699]⟩ .nil)))) ⟨1, 57, [u171], u173, []⟩ (.nd (.nd (.nd (.nd .nil ⟨5, 11, [u70, u70], .none, [286]⟩ .nil) ⟨3, 24, [(.int 3), u488], .none, []⟩ (.nd .nil ⟨6, 44, [u114, u117], u120, [647, 41, 43, 56]⟩ .nil)) ⟨2, 56, [(.int 3), u411], u110, [26]⟩ (.nd (.nd .nil ⟨5, 71, [u75, u457], u70, [411, 31]⟩ .nil) ⟨4, 13, [u481], u98, []⟩ (.nd .nil ⟨7, 83, [(.int 3), u410, (.list [])], (.bool true), [817, 459, 325]⟩ .nil))) ⟨2, 51, [(.int 2), u361], (.bool true), []⟩ (.nd (.nd (.nd .nil ⟨5, 11, [u117, u117], .none, [296]⟩ .nil) ⟨4, 18, [u10], (.bool true), [8, 267, 7]⟩ (.nd .nil ⟨6, 66, [(.int 3), u453], (.list []), [514, 235, 36]⟩ .nil)) ⟨2, 56, [(.int 3), u467], u325, [26, 27, 46, 53, 47, 48]⟩ (.nd (.nd .nil ⟨6, 44, [u70, u98], u98, [576, 30, 34, 50]⟩ .nil) ⟨4, 53, [(.int 3), u450], .none, [134, 200, 182, 227, 138, 150, 147, 141]⟩ (.nd .nil ⟨8, 83, [(.int 3), u433, u549], (.bool true), [865, 489, 345, 216, 77, 765, 766, 767, 768, 769, 770, 490, 615, 574, 678, 679]⟩ .nil)))))
def t13 : Tr := .nd t21 ⟨1, 57, [u38], u40, []⟩ t29
def t5 : Tr := .nd t9 ⟨1, 50, [u1], u16, []⟩ t13
def t1 : Tr := .nd t3 ⟨1, 76, [u1], u4, []⟩ t5
def t16 : Tr := .nd (.nd (.nd (.nd (.nd (.nd (.nd .nil ⟨8, 83, [(.int 3), u445, u531], (.bool true), [880, 503, 353, 228, 49, 765, 766, 767, 768, 769, 770, 771, 772, 504, 585, 574, 687, 688]⟩ .nil) ⟨4, 70, [(.int 3), u451], u521, [233, 84]⟩ .nil) ⟨2, 56, [(.int 3), u470], u332, [26, 46, 53, 48]⟩ (.nd .nil ⟨6, 45, [u70, u106], u70, [577, 30, 37, 31]⟩ .nil)) ⟨2, 56, [(.int 2), u364], u53, [4, 5, 12]⟩ (.nd (.nd .nil ⟨5, 71, [u100, u404], u98, [426, 50]⟩ .nil) ⟨4, 70, [(.int 2), u347], u499, [111, 6]⟩ (.nd .nil ⟨6, 45, [u114, u120], u114, [602, 41, 45, 52]⟩ .nil))) ⟨1, 57, [u186], u189, []⟩ (.nd (.nd (.nd .nil ⟨5, 11, [u70, u98], .none, [286, 288]⟩ .nil) ⟨3, 24, [(.int 3), u493], .none, []⟩ (.nd .nil ⟨6, 44, [u120, u120], u120, [650, 45, 56]⟩ .nil)) ⟨2, 56, [(.int 3), u351], u199, [26, 27, 46, 53, 47, 48]⟩ (.nd (.nd .nil ⟨5, 71, [u119, u459], u117, [440, 55]⟩ .nil) ⟨4, 13, [u486], u106, []⟩ (.nd .nil ⟨7, 84, [u367, u98, u14], (.bool true), [593, 574, 605, 615, 585, 612, 590, 441, 792, 793, 794, 795, 796, 310, 442, 443, 797, 798, 799, 800, 801, 802, 626, 627]⟩ .nil)))) ⟨1, 79, [u98], u100, []⟩ (.nd (.nd (.nd (.nd .nil ⟨4, 70, [(.int 3), u470], u522, [256, 97]⟩ .nil) ⟨3, 4, [u98], (.bool true), [143, 145, 144]⟩ (.nd .nil ⟨6, 43, [u112, u70], (.bool true), [623, 39, 30]⟩ .nil)) ⟨2, 56, [(.int 3), u389], u110, [26]⟩ (.nd (.nd .nil ⟨5, 71, [u108, u429], u106, [435, 59]⟩ .nil) ⟨4, 53, [(.int 3), u389], .none, [134, 135, 136, 137, 159, 150, 147, 141]⟩ (.nd .nil ⟨6, 46, [u120, u120], u560, [650, 45, 56]⟩ .nil))) ⟨1, 57, [u328], u330, []⟩ (.nd (.nd (.nd .nil ⟨5, 11, [u106, u114], .none, [290, 294]⟩ .nil) ⟨3, 58, [(.int 3), u442], (.int 1), [225, 81]⟩ (.nd .nil ⟨6, 43, [u112, u106], (.bool true), [675, 39, 37]⟩ .nil)) ⟨2, 51, [(.int 3), u441], (.bool true), []⟩ (.nd (.nd .nil ⟨6, 66, [(.int 2), u353], u528, [389, 117, 13]⟩ .nil) ⟨4, 53, [(.int 3), u427], .none, [134, 200, 136, 137, 159, 150, 147, 156]⟩ (.nd .nil ⟨7, 83, [(.int 3), u463, (.list [])], (.bool true), [910, 530, 368]⟩ .nil))))) ⟨1, 57, [u49], u51, []⟩ (.nd (.nd (.nd (.nd (.nd (.nd .nil ⟨8, 83, [(.int 3), u432, u549], (.bool true), [929, 549, 378, 266, 77, 765, 766, 767, 768, 769, 770, 550, 615, 574, 727, 728]⟩ .nil) ⟨4, 53, [(.int 3), u462], .none, [239, 200, 182, 137, 159, 150, 147, 141]⟩ .nil) ⟨3, 58, [(.int 2), u349], (.int 1), [113, 6]⟩ (.nd .nil ⟨6, 66, [(.int 3), u395], u536, [431, 174, 61]⟩ .nil)) ⟨2, 2, [u58, (.int 3)], (.bool true), []⟩ (.nd (.nd .nil ⟨5, 11, [u120, u106], .none, [298, 290]⟩ .nil) ⟨4, 70, [(.int 2), u360], u501, [124, 16]⟩ (.nd .nil ⟨6, 66, [(.int 3), u360], u558, [531, 249, 93]⟩ .nil))) ⟨1, 57, [u265], u266, []⟩ (.nd (.nd (.nd .nil ⟨5, 71, [u75, u362], u70, [411, 31]⟩ .nil) ⟨3, 58, [(.int 3), u423], (.int 1), [204, 72]⟩ (.nd .nil ⟨6, 66, [(.int 3), u424], (.list []), [477, 205, 73]⟩ .nil)) ⟨2, 56, [(.int 3), u427], u110, [26]⟩ (.nd (.nd .nil ⟨5, 71, [u121, u469], u120, [423, 56]⟩ .nil) ⟨4, 53, [(.int 3), u353], .none, [193]⟩ (.nd .nil ⟨7, 83, [(.int 3), u439, (.list [])], (.bool true), [875, 499, 350]⟩ .nil)))) ⟨1, 50, [u68], u129, []⟩ (.nd (.nd (.nd (.nd .nil ⟨5, 11, [u26, u6], .none, [269, 267]⟩ .nil) ⟨3, 58, [(.int 3), u366], (.int 2), [172, 60]⟩ (.nd .nil ⟨6, 46, [u98, u112], (.list []), [643, 34, 39]⟩ .nil)) ⟨2, 56, [(.int 3), u397], u176, [26, 27, 46, 53, 28, 47, 48]⟩ (.nd (.nd .nil ⟨5, 71, [u75, u445], u70, [411, 31]⟩ .nil) ⟨4, 70, [(.int 3), u395], u504, [174, 61]⟩ (.nd .nil ⟨7, 83, [(.int 3), u379, (.list [])], (.bool true), [752, 412, 289]⟩ .nil))) ⟨2, 51, [(.int 2), u348], (.bool true), []⟩ (.nd (.nd (.nd .nil ⟨5, 11, [u117, u70], .none, [296, 286]⟩ .nil) ⟨3, 58, [(.int 3), u463], (.int 0), [247, 92]⟩ (.nd .nil ⟨6, 66, [(.int 3), u445], u531, [503, 228, 49]⟩ .nil)) ⟨2, 56, [(.int 3), u457], u289, [26, 27, 46, 53, 28, 47]⟩ (.nd (.nd .nil ⟨6, 66, [(.int 3), u379], (.list []), [412, 148, 33]⟩ .nil) ⟨4, 53, [(.int 3), u437], .none, [134, 200, 182, 137, 138, 150, 147, 141]⟩ (.nd .nil ⟨8, 83, [(.int 3), u395, u536], (.bool true), [784, 431, 305, 174, 61, 765, 766, 785, 772, 786, 777, 432, 590, 574, 603, 604]⟩ .nil)))))
def t24 : Tr := .nd (.nd (.nd (.nd (.nd (.nd (.nd .nil ⟨8, 83, [(.int 3), u460, u556], (.bool true), [903, 525, 365, 244, 89, 791, 905, 526, 612, 615, 706, 707]⟩ .nil) ⟨4, 70, [(.int 3), u457], u507, [240, 86]⟩ .nil) ⟨2, 80, [u112, u117], (.bool false), [38, 42]⟩ (.nd .nil ⟨6, 44, [u117, u120], u120, [589, 43, 45, 56]⟩ .nil)) ⟨2, 51, [(.int 3), u369], (.bool true), []⟩ (.nd (.nd .nil ⟨5, 71, [u121, u353], .none, [423, 56]⟩ .nil) ⟨4, 13, [u2], u6, []⟩ (.nd .nil ⟨6, 46, [u117, u112], u556, [636, 43, 39, 241, 55, 51]⟩ .nil))) ⟨1, 57, [u230], u232, []⟩ (.nd (.nd (.nd .nil ⟨5, 11, [u112, u114], .none, [292, 294]⟩ .nil) ⟨3, 58, [(.int 3), u351], (.int 3), [192, 66]⟩ (.nd .nil ⟨6, 43, [u120, u120], (.bool true), [650, 45]⟩ .nil)) ⟨2, 51, [(.int 3), u417], (.bool true), []⟩ (.nd (.nd .nil ⟨5, 38, [(.int 3), u477, u477], (.bool true), [370]⟩ .nil) ⟨4, 70, [(.int 3), u407], u508, [185, 65]⟩ (.nd .nil ⟨7, 83, [(.int 3), u426, (.list [])], (.bool true), [852, 479, 339]⟩ .nil)))) ⟨1, 79, [u114], u116, []⟩ (.nd (.nd (.nd (.nd .nil ⟨5, 22, [u6], u10, [267, 7]⟩ .nil) ⟨3, 4, [u117], (.bool true), [145, 143, 144]⟩ (.nd .nil ⟨6, 43, [u117, u117], (.bool true), [637, 43]⟩ .nil)) ⟨2, 56, [(.int 3), u393], u151, [26, 27, 28, 47]⟩ (.nd (.nd .nil ⟨5, 71, [u113, u435], u112, [491, 51]⟩ .nil) ⟨4, 53, [(.int 3), u393], .none, [167]⟩ (.nd .nil ⟨7, 84, [u337, u6, u14], (.bool true), [552, 559, 391, 737, 276, 392, 393, 738, 561, 562]⟩ .nil))) ⟨2, 56, [(.int 2), u342], u21, [4, 5]⟩ (.nd (.nd (.nd .nil ⟨5, 11, [u114, u70], .none, [294, 286]⟩ .nil) ⟨3, 58, [(.int 3), u455], (.int 2), [237, 85]⟩ (.nd .nil ⟨6, 46, [u112, u112], u552, [583, 39, 51]⟩ .nil)) ⟨2, 56, [(.int 3), u450], u276, [26, 46, 47, 48]⟩ (.nd (.nd .nil ⟨6, 46, [u26, u26], u529, [565, 11, 15]⟩ .nil) ⟨4, 37, [(.int 3), u496], u106, [344, 59]⟩ (.nd .nil ⟨7, 84, [u367, u120, u405], (.bool true), [590, 574, 593, 605, 615, 585, 612, 470, 802, 835, 836, 837, 838, 839, 840, 333, 471, 803, 841, 793, 805, 661, 662]⟩ .nil))))) ⟨1, 76, [u68], u69, []⟩ (.nd (.nd (.nd (.nd (.nd .nil ⟨4, 70, [(.int 3), u465], u504, [251, 94]⟩ .nil) ⟨3, 58, [(.int 2), u360], (.int 1), [124, 16]⟩ (.nd .nil ⟨6, 43, [u114, u70], (.bool true), [616, 41, 30]⟩ .nil)) ⟨2, 81, [u112, (.str ⟨#[109, 111, 115, 116]⟩)], u383, [38]⟩ (.nd (.nd .nil ⟨5, 71, [u75, u419], u70, [411, 31]⟩ .nil) ⟨4, 37, [(.int 2), u477], u26, [284, 15]⟩ (.nd .nil ⟨6, 66, [(.int 3), u469], u559, [541, 255, 96]⟩ .nil))) ⟨1, 57, [u295], u297, []⟩ (.nd (.nd (.nd .nil ⟨5, 71, [u75, u366], u70, [411, 31]⟩ .nil) ⟨3, 24, [(.int 3), u496], .none, []⟩ (.nd .nil ⟨6, 66, [(.int 3), u349], u546, [481, 210, 74]⟩ .nil)) ⟨2, 56, [(.int 3), u433], u253, [26, 27, 46, 28, 47]⟩ (.nd (.nd .nil ⟨5, 71, [u75, u432], u70, [411, 31]⟩ .nil) ⟨4, 53, [(.int 3), u419], .none, [134, 200, 136, 137, 138, 139, 140, 141]⟩ (.nd .nil ⟨7, 83, [(.int 3), u452, (.list [])], (.bool true), [891, 513, 358]⟩ .nil)))) ⟨1, 16, [u121], u120, []⟩ (.nd (.nd (.nd (.nd .nil ⟨5, 71, [u28, u362], u26, [396, 15]⟩ .nil) ⟨3, 24, [(.int 3), u480], .none, []⟩ (.nd .nil ⟨6, 44, [u98, u112], u112, [643, 34, 39, 51]⟩ .nil)) ⟨2, 20, [u100, (.int 1)], u406, []⟩ (.nd (.nd .nil ⟨5, 71, [u121, u455], u120, [423, 56]⟩ .nil) ⟨4, 18, [u119], (.bool true), [55, 296, 43]⟩ (.nd .nil ⟨7, 84, [u367, u70, u405], (.bool true), [574, 593, 605, 615, 585, 612, 590, 447, 799, 804, 316, 448, 449, 797, 798, 800, 792, 801, 802, 632, 633]⟩ .nil))) ⟨2, 56, [(.int 2), u356], u42, [4, 5, 12]⟩ (.nd (.nd (.nd .nil ⟨5, 38, [(.int 3), u485, u485], (.bool true), [315]⟩ .nil) ⟨3, 58, [(.int 3), u471], (.int 2), [257, 93]⟩ (.nd .nil ⟨6, 45, [u112, u114], u112, [584, 39, 41, 51]⟩ .nil)) ⟨2, 51, [(.int 3), u359], (.bool true), []⟩ (.nd (.nd .nil ⟨6, 66, [(.int 3), u389], (.list []), [416, 160, 36]⟩ .nil) ⟨4, 70, [(.int 3), u445], u503, [228, 49]⟩ (.nd .nil ⟨8, 83, [(.int 3), u416, u544], (.bool true), [834, 468, 331, 198, 69, 824, 825, 791, 831, 469, 612, 593, 653, 654]⟩ .nil)))))
def t8 : Tr := .nd t16 ⟨1, 16, [u10], u6, []⟩ t24
def t20 : Tr := .nd (.nd (.nd (.nd (.nd (.nd (.nd .nil ⟨8, 83, [(.int 3), u455, u555], (.bool true), [895, 515, 360, 237, 85, 786, 896, 516, 590, 585, 696, 697]⟩ .nil) ⟨4, 70, [(.int 3), u455], u522, [237, 85]⟩ .nil) ⟨2, 80, [u112, u98], (.bool true), [38, 32]⟩ (.nd .nil ⟨6, 45, [u70, u114], u70, [579, 30, 41, 31]⟩ .nil)) ⟨2, 81, [u70, (.str ⟨#[108, 101, 97, 115, 116]⟩)], u371, [25]⟩ (.nd (.nd .nil ⟨5, 11, [u98, u120], .none, [288, 298]⟩ .nil) ⟨4, 70, [(.int 2), u351], u499, [115, 13]⟩ (.nd .nil ⟨6, 46, [u117, u98], u544, [634, 43, 34, 241, 217, 55, 51, 50]⟩ .nil))) ⟨1, 57, [u210], u213, []⟩ (.nd (.nd (.nd .nil ⟨5, 11, [u70, u117], .none, [286, 296]⟩ .nil) ⟨3, 58, [(.int 3), u409], (.int 0), [187, 36]⟩ (.nd .nil ⟨6, 43, [u120, u106], (.bool true), [656, 45, 37]⟩ .nil)) ⟨2, 56, [(.int 3), u414], u210, [26, 27, 46, 53, 28, 47, 48]⟩ (.nd (.nd .nil ⟨5, 11, [u117, u114], .none, [296, 294]⟩ .nil) ⟨4, 37, [(.int 3), u490], u70, [318, 31]⟩ (.nd .nil ⟨7, 83, [(.int 3), u422, (.list [])], (.bool true), [844, 474, 335]⟩ .nil)))) ⟨1, 57, [u110], u111, []⟩ (.nd (.nd (.nd (.nd .nil ⟨4, 70, [(.int 3), u472], u527, [258, 98]⟩ .nil) ⟨3, 4, [u112], (.bool true), [144, 154]⟩ (.nd .nil ⟨6, 43, [u106, u106], (.bool true), [631, 37]⟩ .nil)) ⟨2, 56, [(.int 3), u347], u134, [26, 27, 46, 28, 47, 48]⟩ (.nd (.nd .nil ⟨5, 38, [(.int 3), u496, u496], (.bool true), [344]⟩ .nil) ⟨4, 18, [u116], (.bool true), [52, 294, 41]⟩ (.nd .nil ⟨7, 83, [(.int 2), u347, u528], (.bool true), [733, 383, 271, 111, 6, 384, 552, 555]⟩ .nil))) ⟨2, 81, [u6, (.str ⟨#[108, 101, 97, 115, 116]⟩)], u339, [3]⟩ (.nd (.nd (.nd .nil ⟨5, 22, [u117], u119, [296, 43]⟩ .nil) ⟨3, 58, [(.int 3), u450], (.int 2), [232, 83]⟩ (.nd .nil ⟨6, 46, [u112, u98], u550, [660, 39, 34, 217, 51, 50]⟩ .nil)) ⟨2, 56, [(.int 3), u445], u134, [26, 27, 46, 28, 47, 48]⟩ (.nd (.nd .nil ⟨6, 46, [u26, u6], u337, [560, 11, 7, 121, 15, 8]⟩ .nil) ⟨4, 70, [(.int 3), u429], u514, [212, 75]⟩ (.nd .nil ⟨7, 84, [u367, u117, u446], (.bool true), [612, 574, 593, 605, 615, 585, 590, 450, 801, 805, 806, 807, 808, 319, 451, 452, 797, 798, 799, 800, 792, 802, 638, 639]⟩ .nil))))) ⟨1, 76, [u58], u63, []⟩ (.nd (.nd (.nd (.nd (.nd .nil ⟨4, 70, [(.int 3), u360], u525, [249, 93]⟩ .nil) ⟨3, 49, [(.int 2), u14, (.int 2)], u2, [8]⟩ (.nd .nil ⟨6, 66, [(.int 3), u399], u538, [436, 178, 63]⟩ .nil)) ⟨2, 56, [(.int 3), u379], u102, [26, 27]⟩ (.nd (.nd .nil ⟨5, 11, [u112, u98], .none, [292, 288]⟩ .nil) ⟨4, 70, [(.int 2), u364], u501, [128, 17]⟩ (.nd .nil ⟨6, 66, [(.int 3), u467], u543, [537, 253, 95]⟩ .nil))) ⟨1, 57, [u280], u282, []⟩ (.nd (.nd (.nd .nil ⟨5, 11, [u106, u117], .none, [290, 296]⟩ .nil) ⟨3, 58, [(.int 3), u427], (.int 0), [208, 36]⟩ (.nd .nil ⟨6, 66, [(.int 3), u426], (.list []), [479, 207, 36]⟩ .nil)) ⟨2, 56, [(.int 3), u429], u244, [26, 46, 53, 28, 47, 48]⟩ (.nd (.nd .nil ⟨5, 71, [u121, u471], u120, [423, 56]⟩ .nil) ⟨4, 53, [(.int 3), u416], .none, [197]⟩ (.nd .nil ⟨7, 84, [u367, u112, u420], (.bool true), [615, 574, 593, 605, 585, 612, 590, 487, 802, 835, 836, 837, 838, 839, 840, 333, 488, 804, 864, 794, 806, 676, 677]⟩ .nil)))) ⟨1, 16, [u116], u114, []⟩ (.nd (.nd (.nd (.nd .nil ⟨5, 71, [u10, u356], u6, [381, 8]⟩ .nil) ⟨3, 58, [(.int 3), u401], (.int 5), [180, 64]⟩ (.nd .nil ⟨6, 46, [u98, u117], (.list []), [588, 34, 43]⟩ .nil)) ⟨2, 56, [(.int 3), u401], u186, [26, 27, 46, 53, 28, 47, 48]⟩ (.nd (.nd .nil ⟨5, 71, [u108, u449], u106, [435, 59]⟩ .nil) ⟨4, 53, [(.int 3), u399], .none, [177]⟩ (.nd .nil ⟨7, 83, [(.int 3), u389, (.list [])], (.bool true), [760, 416, 297]⟩ .nil))) ⟨2, 51, [(.int 2), u352], (.bool true), []⟩ (.nd (.nd (.nd .nil ⟨5, 11, [u98, u98], .none, [288]⟩ .nil) ⟨3, 58, [(.int 3), u467], (.int 5), [253, 95]⟩ (.nd .nil ⟨6, 66, [(.int 3), u449], u546, [507, 231, 74]⟩ .nil)) ⟨2, 56, [(.int 3), u460], u299, [26, 46, 53, 47]⟩ (.nd (.nd .nil ⟨6, 66, [(.int 3), u384], (.list []), [414, 153, 36]⟩ .nil) ⟨4, 53, [(.int 3), u440], .none, [134, 200, 182, 137, 159, 150, 147, 156]⟩ (.nd .nil ⟨8, 83, [(.int 3), u404, u533], (.bool true), [809, 453, 321, 183, 57, 765, 766, 454, 593, 574, 640, 641]⟩ .nil)))))
def t28 : Tr := .nd (.nd (.nd (.nd (.nd (.nd (.nd .nil ⟨8, 83, [(.int 3), u468, u547], (.bool true), [918, 539, 373, 254, 75, 857, 858, 771, 859, 829, 861, 832, 862, 540, 590, 605, 718, 719]⟩ .nil) ⟨4, 70, [(.int 3), u459], u515, [243, 88]⟩ .nil) ⟨3, 58, [(.int 2), u342], (.int 1), [104, 6]⟩ (.nd .nil ⟨6, 44, [u70, u106], u106, [577, 30, 37, 59]⟩ .nil)) ⟨2, 51, [(.int 3), u373], (.bool true), []⟩ (.nd (.nd .nil ⟨5, 71, [u100, u414], u98, [426, 50]⟩ .nil) ⟨4, 18, [u28], (.bool true), [15, 269, 11]⟩ (.nd .nil ⟨6, 66, [(.int 3), u462], u557, [528, 246, 91]⟩ .nil))) ⟨1, 57, [u249], u251, []⟩ (.nd (.nd (.nd .nil ⟨5, 11, [u98, u117], .none, [288, 296]⟩ .nil) ⟨3, 24, [(.int 3), u495], .none, []⟩ (.nd .nil ⟨6, 66, [(.int 3), u422], (.list []), [474, 203, 71]⟩ .nil)) ⟨2, 56, [(.int 3), u423], u230, [26, 46, 28]⟩ (.nd (.nd .nil ⟨5, 71, [u121, u467], u120, [423, 56]⟩ .nil) ⟨4, 53, [(.int 3), u411], .none, [134, 135, 182, 137, 159, 150, 147, 141]⟩ (.nd .nil ⟨7, 84, [u367, u106, u405], (.bool true), [605, 574, 593, 615, 585, 612, 590, 447, 799, 804, 316, 448, 449, 797, 798, 800, 792, 801, 802, 632, 633]⟩ .nil)))) ⟨1, 79, [u120], u121, []⟩ (.nd (.nd (.nd (.nd .nil ⟨5, 71, [u10, u349], u6, [381, 8]⟩ .nil) ⟨3, 58, [(.int 3), u347], (.int 5), [164, 49]⟩ (.nd .nil ⟨6, 46, [u98, u98], u540, [628, 34, 50]⟩ .nil)) ⟨2, 56, [(.int 3), u366], u165, [26, 27, 46, 53, 28, 48]⟩ (.nd (.nd .nil ⟨5, 71, [u113, u437], u112, [491, 51]⟩ .nil) ⟨4, 70, [(.int 3), u364], u504, [170, 58]⟩ (.nd .nil ⟨7, 83, [(.int 2), u364, u529], (.bool true), [747, 403, 282, 128, 17, 404, 559, 569]⟩ .nil))) ⟨2, 51, [(.int 2), u343], (.bool true), []⟩ (.nd (.nd (.nd .nil ⟨5, 11, [u114, u114], .none, [294]⟩ .nil) ⟨3, 58, [(.int 3), u459], (.int 3), [243, 88]⟩ (.nd .nil ⟨6, 46, [u112, u117], (.list []), [611, 39, 43]⟩ .nil)) ⟨2, 51, [(.int 3), u454], (.bool true), []⟩ (.nd (.nd .nil ⟨6, 66, [(.int 2), u366], u529, [405, 130, 17]⟩ .nil) ⟨4, 53, [(.int 3), u435], .none, [134, 200, 182, 137, 138, 139, 147, 141]⟩ (.nd .nil ⟨8, 83, [(.int 3), u362, u532], (.bool true), [773, 421, 301, 166, 54, 765, 766, 774, 775, 776, 777, 422, 590, 574, 591, 592]⟩ .nil))))) ⟨1, 50, [u65], u85, []⟩ (.nd (.nd (.nd (.nd (.nd .nil ⟨4, 70, [(.int 3), u468], u514, [254, 75]⟩ .nil) ⟨3, 24, [(.int 2), u477], .none, []⟩ (.nd .nil ⟨6, 43, [u114, u114], (.bool true), [620, 41]⟩ .nil)) ⟨2, 51, [(.int 3), u385], (.bool true), []⟩ (.nd (.nd .nil ⟨5, 11, [u106, u120], .none, [290, 298]⟩ .nil) ⟨4, 53, [(.int 3), u379], .none, [134, 135, 136, 137, 138, 139, 147, 141]⟩ (.nd .nil ⟨6, 46, [u120, u114], u555, [658, 45, 41, 252, 56, 52]⟩ .nil))) ⟨1, 57, [u313], u315, []⟩ (.nd (.nd (.nd .nil ⟨5, 71, [u75, u395], u70, [411, 31]⟩ .nil) ⟨3, 58, [(.int 3), u437], (.int 1), [220, 80]⟩ (.nd .nil ⟨6, 66, [(.int 3), u429], u547, [483, 212, 75]⟩ .nil)) ⟨2, 56, [(.int 3), u437], u265, [26, 46, 47]⟩ (.nd (.nd .nil ⟨6, 46, [u6, u26], (.list []), [554, 7, 11]⟩ .nil) ⟨4, 70, [(.int 3), u423], u512, [204, 72]⟩ (.nd .nil ⟨7, 84, [u367, u114, u405], (.bool true), [585, 574, 593, 605, 615, 612, 590, 470, 802, 835, 836, 837, 838, 839, 840, 333, 471, 803, 841, 793, 805, 661, 662]⟩ .nil)))) ⟨1, 57, [u165], u168, []⟩ (.nd (.nd (.nd (.nd .nil ⟨5, 38, [(.int 2), u474, u477], (.bool false), [275, 284]⟩ .nil) ⟨3, 49, [(.int 3), u405, (.int 3)], u486, [59]⟩ (.nd .nil ⟨6, 45, [u98, u106], u70, [582, 34, 37, 31]⟩ .nil)) ⟨2, 56, [(.int 3), u410], u110, [26]⟩ (.nd (.nd .nil ⟨5, 71, [u119, u457], u117, [440, 55]⟩ .nil) ⟨4, 36, [(.int 3), u480], u98, [312, 50]⟩ (.nd .nil ⟨7, 83, [(.int 3), u409, (.list [])], (.bool true), [815, 458, 324]⟩ .nil))) ⟨2, 56, [(.int 2), u360], u49, [4, 12]⟩ (.nd (.nd (.nd .nil ⟨5, 11, [u117, u112], .none, [296, 292]⟩ .nil) ⟨4, 70, [(.int 2), u342], u499, [104, 6]⟩ (.nd .nil ⟨6, 46, [u114, u117], (.list []), [647, 41, 43]⟩ .nil)) ⟨2, 20, [u121, (.int 1)], u466, []⟩ (.nd (.nd .nil ⟨6, 66, [(.int 3), u347], u531, [418, 164, 49]⟩ .nil) ⟨4, 70, [(.int 3), u449], u513, [231, 74]⟩ (.nd .nil ⟨8, 83, [(.int 3), u431, u548], (.bool true), [863, 485, 343, 214, 76, 857, 858, 791, 861, 486, 612, 605, 673, 674]⟩ .nil)))))
def t12 : Tr := .nd t20 ⟨1, 50, [u2], u35, []⟩ t28
def t4 : Tr := .nd t8 ⟨1, 50, [u0], u13, []⟩ t12
def t18 : Tr := .nd (.nd (.nd (.nd (.nd (.nd (.nd .nil ⟨8, 83, [(.int 3), u449, u546], (.bool true), [884, 507, 355, 231, 74, 857, 858, 771, 859, 508, 585, 605, 691, 692]⟩ .nil) ⟨4, 53, [(.int 3), u453], .none, [134, 200, 182, 227, 159, 150, 147, 156]⟩ .nil) ⟨2, 56, [(.int 3), u472], u335, [26, 53, 48]⟩ (.nd .nil ⟨6, 45, [u70, u112], u70, [578, 30, 39, 31]⟩ .nil)) ⟨2, 56, [(.int 2), u366], u53, [4, 5, 12]⟩ (.nd (.nd .nil ⟨5, 71, [u100, u407], u98, [426, 50]⟩ .nil) ⟨4, 70, [(.int 2), u349], u499, [113, 6]⟩ (.nd .nil ⟨6, 46, [u117, u70], u539, [624, 43, 30, 241, 217, 184, 202, 55, 51, 50, 59, 31]⟩ .nil))) ⟨1, 57, [u199], u203, []⟩ (.nd (.nd (.nd .nil ⟨5, 11, [u70, u112], .none, [286, 292]⟩ .nil) ⟨3, 58, [(.int 3), u407], (.int 1), [185, 65]⟩ (.nd .nil ⟨6, 66, [(.int 3), u416], u544, [468, 198, 69]⟩ .nil)) ⟨2, 56, [(.int 3), u353], u207, [26, 27, 46, 53, 28, 47, 48]⟩ (.nd (.nd .nil ⟨5, 71, [u119, u460], u117, [440, 55]⟩ .nil) ⟨4, 36, [(.int 3), u490], u117, [318, 55]⟩ (.nd .nil ⟨7, 84, [u367, u98, u405], (.bool true), [593, 574, 605, 615, 585, 612, 590, 470, 802, 835, 836, 837, 838, 839, 840, 333, 471, 803, 841, 793, 805, 661, 662]⟩ .nil)))) ⟨1, 15, [u98], u100, []⟩ (.nd (.nd (.nd (.nd .nil ⟨4, 70, [(.int 3), u471], u525, [257, 93]⟩ .nil) ⟨3, 4, [u106], (.bool true), [144, 143, 145]⟩ (.nd .nil ⟨6, 43, [u120, u70], (.bool true), [625, 45, 30]⟩ .nil)) ⟨2, 56, [(.int 3), u391], u110, [26]⟩ (.nd (.nd .nil ⟨5, 71, [u108, u431], u106, [435, 59]⟩ .nil) ⟨4, 53, [(.int 3), u347], .none, [163]⟩ (.nd .nil ⟨7, 83, [(.int 2), u342, u528], (.bool true), [729, 379, 268, 104, 6, 380, 552, 553]⟩ .nil))) ⟨1, 57, [u335], u336, []⟩ (.nd (.nd (.nd .nil ⟨5, 71, [u75, u399], u70, [411, 31]⟩ .nil) ⟨3, 58, [(.int 3), u448], (.int 3), [230, 82]⟩ (.nd .nil ⟨6, 46, [u112, u70], u549, [623, 39, 30, 217, 184, 202, 51, 50, 59, 31]⟩ .nil)) ⟨2, 81, [u114, (.str ⟨#[108, 101, 97, 115, 116]⟩)], u444, [40]⟩ (.nd (.nd .nil ⟨6, 43, [u26, u6], (.bool true), [560, 11, 7]⟩ .nil) ⟨4, 70, [(.int 3), u349], u513, [210, 74]⟩ (.nd .nil ⟨7, 84, [u367, u117, u420], (.bool true), [612, 574, 593, 605, 615, 585, 590, 487, 802, 835, 836, 837, 838, 839, 840, 333, 488, 804, 864, 794, 806, 676, 677]⟩ .nil))))) ⟨1, 76, [u56], u60, []⟩ (.nd (.nd (.nd (.nd (.nd .nil ⟨4, 53, [(.int 3), u463], .none, [239, 200, 182, 137, 159, 150, 147, 156]⟩ .nil) ⟨3, 58, [(.int 2), u353], (.int 1), [117, 13]⟩ (.nd .nil ⟨6, 44, [u114, u120], u120, [602, 41, 45, 56]⟩ .nil)) ⟨2, 81, [u98, (.str ⟨#[109, 111, 115, 116]⟩)], u378, [32]⟩ (.nd (.nd .nil ⟨5, 11, [u120, u114], .none, [298, 294]⟩ .nil) ⟨4, 70, [(.int 2), u362], u501, [126, 16]⟩ (.nd .nil ⟨6, 66, [(.int 3), u465], u367, [535, 251, 94]⟩ .nil))) ⟨1, 57, [u272], u274, []⟩ (.nd (.nd (.nd .nil ⟨5, 71, [u100, u393], u98, [426, 50]⟩ .nil) ⟨3, 58, [(.int 3), u425], (.int 0), [206, 73]⟩ (.nd .nil ⟨6, 66, [(.int 3), u425], (.list []), [478, 206, 73]⟩ .nil)) ⟨2, 56, [(.int 3), u349], u238, [26, 46, 28, 47, 48]⟩ (.nd (.nd .nil ⟨5, 71, [u121, u470], u120, [423, 56]⟩ .nil) ⟨4, 53, [(.int 3), u414], .none, [195]⟩ (.nd .nil ⟨7, 83, [(.int 3), u442, u552], (.bool true), [879, 501, 352, 225, 81, 502, 615, 686]⟩ .nil)))) ⟨1, 16, [u100], u98, []⟩ (.nd (.nd (.nd (.nd .nil ⟨5, 38, [(.int 2), u476, u474], (.bool false), [277, 275]⟩ .nil) ⟨3, 58, [(.int 3), u397], (.int 2), [176, 62]⟩ (.nd .nil ⟨6, 46, [u98, u114], (.list []), [601, 34, 41]⟩ .nil)) ⟨2, 56, [(.int 3), u399], u181, [26, 27, 46, 53, 28, 47, 48]⟩ (.nd (.nd .nil ⟨5, 71, [u100, u448], u98, [426, 50]⟩ .nil) ⟨4, 70, [(.int 3), u397], u506, [176, 62]⟩ (.nd .nil ⟨7, 83, [(.int 3), u384, (.list [])], (.bool true), [756, 414, 293]⟩ .nil))) ⟨2, 51, [(.int 2), u350], (.bool true), []⟩ (.nd (.nd (.nd .nil ⟨5, 38, [(.int 3), u474, u474], (.bool true), [309]⟩ .nil) ⟨3, 24, [(.int 3), u477], .none, []⟩ (.nd .nil ⟨6, 66, [(.int 3), u448], u541, [505, 230, 82]⟩ .nil)) ⟨2, 56, [(.int 3), u458], u292, [26, 27, 46, 53, 47]⟩ (.nd (.nd .nil ⟨6, 66, [(.int 3), u382], (.list []), [413, 151, 36]⟩ .nil) ⟨4, 53, [(.int 3), u438], .none, [134, 200, 182, 137, 138, 150, 147, 156]⟩ (.nd .nil ⟨8, 83, [(.int 3), u399, u538], (.bool true), [788, 436, 307, 178, 63, 780, 768, 789, 772, 786, 777, 437, 590, 574, 609, 610]⟩ .nil)))))
def t26 : Tr := .nd (.nd (.nd (.nd (.nd (.nd (.nd .nil ⟨8, 83, [(.int 3), u465, u367], (.bool true), [914, 535, 371, 251, 94, 765, 766, 767, 768, 769, 770, 771, 772, 829, 775, 832, 777, 536, 590, 574, 714, 715]⟩ .nil) ⟨4, 70, [(.int 3), u458], u511, [242, 87]⟩ .nil) ⟨2, 56, [(.int 3), u432], u253, [26, 27, 46, 28, 47]⟩ (.nd .nil ⟨6, 66, [(.int 3), u393], u533, [424, 168, 57]⟩ .nil)) ⟨2, 51, [(.int 3), u340], (.bool true), []⟩ (.nd (.nd .nil ⟨5, 11, [u120, u120], .none, [298]⟩ .nil) ⟨4, 53, [(.int 2), u356], .none, [119, 103]⟩ (.nd .nil ⟨6, 66, [(.int 3), u461], (.list []), [527, 245, 90]⟩ .nil))) ⟨1, 57, [u238], u240, []⟩ (.nd (.nd (.nd .nil ⟨5, 71, [u116, u347], u114, [420, 52]⟩ .nil) ⟨3, 58, [(.int 3), u414], (.int 5), [196, 68]⟩ (.nd .nil ⟨6, 66, [(.int 3), u419], u537, [472, 201, 70]⟩ .nil)) ⟨2, 20, [u108, (.int 1)], u421, []⟩ (.nd (.nd .nil ⟨5, 71, [u121, u465], u120, [423, 56]⟩ .nil) ⟨4, 53, [(.int 3), u409], .none, [134, 135, 182, 137, 138, 150, 147, 141]⟩ (.nd .nil ⟨7, 84, [u367, u106, u14], (.bool true), [605, 574, 593, 615, 585, 612, 590, 441, 792, 793, 794, 795, 796, 310, 442, 443, 797, 798, 799, 800, 801, 802, 626, 627]⟩ .nil)))) ⟨1, 79, [u117], u119, []⟩ (.nd (.nd (.nd (.nd .nil ⟨5, 11, [u6, u26], .none, [267, 269]⟩ .nil) ⟨3, 4, [u120], (.bool true), [145, 144, 143]⟩ (.nd .nil ⟨6, 46, [u98, u70], u533, [621, 34, 30, 184, 50, 31]⟩ .nil)) ⟨2, 56, [(.int 3), u364], u159, [26, 27, 46, 53, 28, 47, 48]⟩ (.nd (.nd .nil ⟨5, 71, [u113, u436], u112, [491, 51]⟩ .nil) ⟨4, 18, [u100], (.bool true), [50, 288, 34]⟩ (.nd .nil ⟨7, 83, [(.int 2), u360, u529], (.bool true), [745, 399, 280, 124, 16, 400, 559, 567]⟩ .nil))) ⟨2, 2, [u2, (.int 2)], (.bool true), []⟩ (.nd (.nd (.nd .nil ⟨5, 11, [u114, u106], .none, [294, 290]⟩ .nil) ⟨3, 58, [(.int 3), u457], (.int 5), [240, 86]⟩ (.nd .nil ⟨6, 46, [u112, u114], (.list []), [584, 39, 41]⟩ .nil)) ⟨2, 56, [(.int 3), u452], u110, [26]⟩ (.nd (.nd .nil ⟨6, 66, [(.int 2), u362], u529, [401, 126, 16]⟩ .nil) ⟨4, 70, [(.int 3), u433], u516, [216, 77]⟩ (.nd .nil ⟨8, 83, [(.int 2), u356, u337], (.bool true), [739, 394, 278, 120, 14, 741, 742, 395, 559, 552, 563, 564]⟩ .nil))))) ⟨1, 50, [u56], u79, []⟩ (.nd (.nd (.nd (.nd (.nd .nil ⟨4, 70, [(.int 3), u467], u510, [253, 95]⟩ .nil) ⟨3, 58, [(.int 2), u364], (.int 1), [128, 17]⟩ (.nd .nil ⟨6, 43, [u114, u106], (.bool true), [618, 41, 37]⟩ .nil)) ⟨2, 2, [u62, (.int 3)], (.bool true), []⟩ (.nd (.nd .nil ⟨5, 71, [u108, u423], u106, [435, 59]⟩ .nil) ⟨4, 70, [(.int 3), u376], u502, [142, 29]⟩ (.nd .nil ⟨6, 45, [u112, u120], u112, [685, 39, 45, 51]⟩ .nil))) ⟨1, 57, [u303], u305, []⟩ (.nd (.nd (.nd .nil ⟨5, 11, [u114, u120], .none, [294, 298]⟩ .nil) ⟨3, 58, [(.int 3), u435], (.int 2), [218, 78]⟩ (.nd .nil ⟨6, 45, [u106, u112], u106, [667, 37, 39, 59]⟩ .nil)) ⟨2, 56, [(.int 3), u435], u258, [26, 27, 46, 47]⟩ (.nd (.nd .nil ⟨6, 46, [u6, u6], u528, [551, 7, 8]⟩ .nil) ⟨4, 53, [(.int 3), u422], .none, [134, 200, 136, 137, 138, 139, 147, 141]⟩ (.nd .nil ⟨7, 84, [u367, u114, u14], (.bool true), [585, 574, 593, 605, 615, 612, 590, 441, 792, 793, 794, 795, 796, 310, 442, 443, 797, 798, 799, 800, 801, 802, 626, 627]⟩ .nil)))) ⟨1, 57, [u159], u161, []⟩ (.nd (.nd (.nd (.nd .nil ⟨5, 71, [u28, u366], u26, [396, 15]⟩ .nil) ⟨3, 24, [(.int 3), u483], .none, []⟩ (.nd .nil ⟨6, 45, [u98, u114], u98, [601, 34, 41, 50]⟩ .nil)) ⟨2, 56, [(.int 3), u408], u110, [26]⟩ (.nd (.nd .nil ⟨5, 38, [(.int 3), u498, u498], (.bool true), [361]⟩ .nil) ⟨4, 13, [u478], u114, []⟩ (.nd .nil ⟨7, 83, [(.int 3), u407, u540], (.bool true), [811, 455, 322, 185, 65, 456, 593, 642]⟩ .nil))) ⟨2, 56, [(.int 2), u358], u49, [4, 12]⟩ (.nd (.nd (.nd .nil ⟨5, 11, [u117, u98], .none, [296, 288]⟩ .nil) ⟨3, 58, [(.int 3), u432], (.int 4), [266, 77]⟩ (.nd .nil ⟨6, 46, [u114, u114], u554, [620, 41, 52]⟩ .nil)) ⟨2, 81, [u120, (.str ⟨#[108, 101, 97, 115, 116]⟩)], u464, [44]⟩ (.nd (.nd .nil ⟨6, 66, [(.int 3), u391], (.list []), [417, 162, 36]⟩ .nil) ⟨4, 70, [(.int 3), u448], u509, [230, 82]⟩ (.nd .nil ⟨8, 83, [(.int 3), u349, u546], (.bool true), [856, 481, 341, 210, 74, 857, 858, 771, 859, 482, 585, 605, 669, 670]⟩ .nil)))))
def t10 : Tr := .nd t18 ⟨1, 57, [u31], u33, []⟩ t26
def t22 : Tr := .nd (.nd (.nd (.nd (.nd (.nd (.nd .nil ⟨8, 83, [(.int 3), u458, u544], (.bool true), [899, 521, 363, 242, 87, 824, 825, 791, 831, 522, 612, 593, 702, 703]⟩ .nil) ⟨4, 37, [(.int 3), u498], u114, [361, 52]⟩ .nil) ⟨2, 80, [u112, u112], (.bool true), [38]⟩ (.nd .nil ⟨6, 44, [u98, u117], u117, [588, 34, 43, 55]⟩ .nil)) ⟨2, 51, [(.int 3), u338], (.bool true), []⟩ (.nd (.nd .nil ⟨5, 71, [u100, u351], u98, [426, 50]⟩ .nil) ⟨4, 70, [(.int 2), u353], u499, [117, 13]⟩ (.nd .nil ⟨6, 46, [u117, u106], u548, [635, 43, 37, 241, 217, 55, 51, 59]⟩ .nil))) ⟨1, 57, [u220], u222, []⟩ (.nd (.nd (.nd .nil ⟨5, 11, [u98, u106], .none, [288, 290]⟩ .nil) ⟨3, 58, [(.int 3), u411], (.int 0), [189, 36]⟩ (.nd .nil ⟨6, 43, [u120, u114], (.bool true), [658, 45, 41]⟩ .nil)) ⟨2, 56, [(.int 3), u416], u215, [26, 27, 46, 53, 28, 47, 48]⟩ (.nd (.nd .nil ⟨5, 71, [u121, u360], u120, [423, 56]⟩ .nil) ⟨4, 70, [(.int 3), u404], u505, [183, 57]⟩ (.nd .nil ⟨7, 83, [(.int 3), u424, (.list [])], (.bool true), [848, 477, 337]⟩ .nil)))) ⟨1, 79, [u112], u113, []⟩ (.nd (.nd (.nd (.nd .nil ⟨4, 70, [(.int 3), u432], u516, [266, 77]⟩ .nil) ⟨3, 4, [u114], (.bool true), [144, 145, 143]⟩ (.nd .nil ⟨6, 43, [u117, u106], (.bool true), [635, 43, 37]⟩ .nil)) ⟨2, 56, [(.int 3), u362], u145, [26, 27, 53, 28, 47, 48]⟩ (.nd (.nd .nil ⟨5, 71, [u113, u433], u112, [491, 51]⟩ .nil) ⟨4, 70, [(.int 3), u362], u504, [166, 54]⟩ (.nd .nil ⟨7, 83, [(.int 2), u351, u528], (.bool true), [735, 387, 273, 115, 13, 388, 552, 557]⟩ .nil))) ⟨2, 51, [(.int 2), u338], (.bool true), []⟩ (.nd (.nd (.nd .nil ⟨5, 71, [u75, u401], u70, [411, 31]⟩ .nil) ⟨3, 58, [(.int 3), u452], (.int 0), [234, 36]⟩ (.nd .nil ⟨6, 46, [u112, u106], u551, [675, 39, 37, 217, 51, 59]⟩ .nil)) ⟨2, 56, [(.int 3), u448], u272, [26, 27, 46, 47, 48]⟩ (.nd (.nd .nil ⟨6, 45, [u6, u26], u6, [554, 7, 11, 8]⟩ .nil) ⟨4, 70, [(.int 3), u431], u515, [214, 76]⟩ (.nd .nil ⟨7, 84, [u367, u120, u14], (.bool true), [590, 574, 593, 605, 615, 585, 612, 533, 802, 835, 836, 837, 838, 839, 840, 333, 534, 808, 712, 713]⟩ .nil))))) ⟨1, 76, [u65], u66, []⟩ (.nd (.nd (.nd (.nd (.nd .nil ⟨4, 37, [(.int 3), u477], u117, [370, 55]⟩ .nil) ⟨3, 58, [(.int 2), u356], (.int 2), [120, 14]⟩ (.nd .nil ⟨6, 66, [(.int 3), u401], u539, [438, 180, 64]⟩ .nil)) ⟨2, 51, [(.int 3), u380], (.bool true), []⟩ (.nd (.nd .nil ⟨5, 38, [(.int 3), u485, u495], (.bool false), [315, 332]⟩ .nil) ⟨4, 70, [(.int 2), u366], u501, [130, 17]⟩ (.nd .nil ⟨6, 66, [(.int 3), u468], u547, [539, 254, 75]⟩ .nil))) ⟨1, 57, [u289], u290, []⟩ (.nd (.nd (.nd .nil ⟨5, 71, [u75, u364], u70, [411, 31]⟩ .nil) ⟨3, 58, [(.int 3), u429], (.int 5), [212, 75]⟩ (.nd .nil ⟨6, 66, [(.int 3), u427], (.list []), [480, 208, 36]⟩ .nil)) ⟨2, 56, [(.int 3), u431], u249, [26, 27, 46, 53, 28, 47]⟩ (.nd (.nd .nil ⟨5, 71, [u121, u472], u120, [423, 56]⟩ .nil) ⟨4, 36, [(.int 3), u495], u120, [332, 56]⟩ (.nd .nil ⟨7, 84, [u367, u112, u446], (.bool true), [615, 574, 593, 605, 585, 612, 590, 450, 801, 805, 806, 807, 808, 319, 451, 452, 797, 798, 799, 800, 792, 802, 638, 639]⟩ .nil)))) ⟨1, 57, [u145], u148, []⟩ (.nd (.nd (.nd (.nd .nil ⟨5, 71, [u28, u358], u26, [396, 15]⟩ .nil) ⟨3, 49, [(.int 3), u14, (.int 2)], u478, [52]⟩ (.nd .nil ⟨6, 46, [u98, u120], (.list []), [644, 34, 45]⟩ .nil)) ⟨2, 51, [(.int 3), u402], (.bool true), []⟩ (.nd (.nd .nil ⟨5, 71, [u113, u450], u112, [491, 51]⟩ .nil) ⟨4, 53, [(.int 3), u401], .none, [179]⟩ (.nd .nil ⟨7, 84, [u367, u70, u14], (.bool true), [574, 593, 605, 615, 585, 612, 590, 441, 792, 793, 794, 795, 796, 310, 442, 443, 797, 798, 799, 800, 801, 802, 626, 627]⟩ .nil))) ⟨2, 81, [u26, (.str ⟨#[108, 101, 97, 115, 116]⟩)], u355, [9]⟩ (.nd (.nd (.nd .nil ⟨5, 38, [(.int 3), u483, u480], (.bool false), [314, 312]⟩ .nil) ⟨3, 58, [(.int 3), u469], (.int 4), [255, 96]⟩ (.nd .nil ⟨6, 66, [(.int 3), u450], u553, [509, 232, 83]⟩ .nil)) ⟨2, 56, [(.int 3), u462], u309, [26, 53, 47]⟩ (.nd (.nd .nil ⟨6, 66, [(.int 3), u387], (.list []), [415, 157, 36]⟩ .nil) ⟨4, 70, [(.int 3), u442], u519, [225, 81]⟩ (.nd .nil ⟨8, 83, [(.int 3), u353, u542], (.bool true), [827, 464, 329, 194, 67, 767, 828, 771, 772, 829, 775, 465, 590, 574, 648, 649]⟩ .nil)))))
def t30 : Tr := .nd (.nd (.nd (.nd (.nd (.nd (.nd .nil ⟨8, 83, [(.int 3), u470, u555], (.bool true), [923, 543, 375, 256, 97, 786, 896, 544, 590, 585, 722, 723]⟩ .nil) ⟨4, 70, [(.int 3), u460], u523, [244, 89]⟩ .nil) ⟨3, 58, [(.int 2), u345], (.int 0), [109, 10]⟩ (.nd .nil ⟨6, 66, [(.int 3), u366], u535, [429, 172, 60]⟩ .nil)) ⟨2, 56, [(.int 3), u376], u92, [26, 27, 28]⟩ (.nd (.nd .nil ⟨5, 71, [u100, u416], u98, [426, 50]⟩ .nil) ⟨4, 70, [(.int 2), u358], u501, [122, 16]⟩ (.nd .nil ⟨6, 66, [(.int 3), u463], (.list []), [530, 247, 92]⟩ .nil))) ⟨1, 57, [u258], u259, []⟩ (.nd (.nd (.nd .nil ⟨5, 22, [u120], u121, [298, 45]⟩ .nil) ⟨3, 58, [(.int 3), u419], (.int 2), [201, 70]⟩ (.nd .nil ⟨6, 66, [(.int 3), u423], u545, [475, 204, 72]⟩ .nil)) ⟨2, 56, [(.int 3), u425], u234, [26, 46]⟩ (.nd (.nd .nil ⟨5, 71, [u121, u468], u120, [423, 56]⟩ .nil) ⟨4, 53, [(.int 3), u351], .none, [191]⟩ (.nd .nil ⟨7, 83, [(.int 3), u437, u552], (.bool true), [871, 496, 348, 220, 80, 497, 615, 684]⟩ .nil)))) ⟨1, 50, [u58], u125, []⟩ (.nd (.nd (.nd (.nd .nil ⟨5, 71, [u10, u353], u6, [381, 8]⟩ .nil) ⟨3, 58, [(.int 3), u393], (.int 2), [168, 57]⟩ (.nd .nil ⟨6, 46, [u98, u106], (.list []), [582, 34, 37]⟩ .nil)) ⟨2, 56, [(.int 3), u395], u171, [26, 27, 46, 53, 28, 47, 48]⟩ (.nd (.nd .nil ⟨5, 71, [u113, u442], u112, [491, 51]⟩ .nil) ⟨4, 70, [(.int 3), u366], u504, [172, 60]⟩ (.nd .nil ⟨7, 84, [u337, u26, u14], (.bool true), [559, 552, 407, 738, 749, 285, 408, 571, 572]⟩ .nil))) ⟨2, 51, [(.int 2), u346], (.bool true), []⟩ (.nd (.nd (.nd .nil ⟨5, 11, [u106, u70], .none, [290, 286]⟩ .nil) ⟨3, 58, [(.int 3), u461], (.int 0), [245, 90]⟩ (.nd .nil ⟨6, 46, [u112, u120], (.list []), [685, 39, 45]⟩ .nil)) ⟨2, 81, [u117, (.str ⟨#[108, 101, 97, 115, 116]⟩)], u456, [42]⟩ (.nd (.nd .nil ⟨6, 66, [(.int 3), u376], u530, [409, 142, 29]⟩ .nil) ⟨4, 53, [(.int 3), u436], .none, [134, 200, 182, 137, 138, 150, 140, 141]⟩ (.nd .nil ⟨8, 83, [(.int 3), u364, u534], (.bool true), [779, 427, 303, 170, 58, 780, 768, 781, 775, 776, 777, 428, 590, 574, 597, 598]⟩ .nil))))) ⟨1, 15, [u70], u75, []⟩ (.nd (.nd (.nd (.nd (.nd .nil ⟨4, 70, [(.int 3), u469], u526, [255, 96]⟩ .nil) ⟨3, 4, [u70], (.bool true), [143, 144, 145]⟩ (.nd .nil ⟨6, 43, [u98, u70], (.bool true), [621, 34, 30]⟩ .nil)) ⟨2, 81, [u117, (.str ⟨#[109, 111, 115, 116]⟩)], u388, [42]⟩ (.nd (.nd .nil ⟨5, 71, [u108, u349], u106, [435, 59]⟩ .nil) ⟨4, 53, [(.int 3), u384], .none, [134, 135, 136, 137, 138, 150, 147, 141]⟩ (.nd .nil ⟨6, 46, [u120, u117], u558, [659, 45, 43, 252, 56, 55]⟩ .nil))) ⟨1, 57, [u320], u323, []⟩ (.nd (.nd (.nd .nil ⟨5, 71, [u108, u397], u106, [435, 59]⟩ .nil) ⟨3, 58, [(.int 3), u439], (.int 0), [222, 36]⟩ (.nd .nil ⟨6, 45, [u106, u120], u106, [668, 37, 45, 59]⟩ .nil)) ⟨2, 56, [(.int 3), u439], u110, [26]⟩ (.nd (.nd .nil ⟨6, 66, [(.int 2), u349], u528, [385, 113, 6]⟩ .nil) ⟨4, 53, [(.int 3), u425], .none, [134, 200, 136, 137, 138, 150, 147, 156]⟩ (.nd .nil ⟨7, 83, [(.int 3), u461, (.list [])], (.bool true), [906, 527, 366]⟩ .nil)))) ⟨1, 57, [u176], u179, []⟩ (.nd (.nd (.nd (.nd .nil ⟨5, 22, [u70], u75, [286, 30]⟩ .nil) ⟨3, 24, [(.int 3), u490], .none, []⟩ (.nd .nil ⟨6, 66, [(.int 3), u414], u543, [466, 196, 68]⟩ .nil)) ⟨2, 56, [(.int 3), u412], u110, [26]⟩ (.nd (.nd .nil ⟨5, 71, [u119, u458], u117, [440, 55]⟩ .nil) ⟨4, 37, [(.int 3), u480], u70, [312, 31]⟩ (.nd .nil ⟨7, 83, [(.int 3), u411, (.list [])], (.bool true), [819, 460, 326]⟩ .nil))) ⟨2, 56, [(.int 2), u362], u49, [4, 12]⟩ (.nd (.nd (.nd .nil ⟨5, 38, [(.int 3), u490, u490], (.bool true), [318]⟩ .nil) ⟨4, 53, [(.int 2), u345], .none, [102, 108]⟩ (.nd .nil ⟨6, 46, [u114, u120], (.list []), [602, 41, 45]⟩ .nil)) ⟨2, 56, [(.int 3), u468], u244, [26, 46, 53, 28, 47, 48]⟩ (.nd (.nd .nil ⟨6, 45, [u70, u98], u70, [576, 30, 34, 31]⟩ .nil) ⟨4, 70, [(.int 3), u450], u520, [232, 83]⟩ (.nd .nil ⟨8, 83, [(.int 3), u435, u550], (.bool true), [867, 492, 346, 218, 78, 824, 825, 493, 615, 593, 680, 681]⟩ .nil)))))
def t14 : Tr := .nd t22 ⟨1, 57, [u42], u45, []⟩ t30
def t6 : Tr := .nd t10 ⟨1, 57, [u21], u25, []⟩ t14
def t2 : Tr := .nd t4 ⟨1, 76, [u2], u5, []⟩ t6
def t0 : Tr := .nd t1 ⟨1, 76, [u0], u3, []⟩ t2
end Sq
end

section
set_option Elab.async false
set_option linter.all false
set_option maxRecDepth 100000
/-! the answers hold -/
namespace Sq
open PySem
theorem a15 : AllT (okN gcv tab t0) t15 = true := by decide +kernel
theorem a23 : AllT (okN gcv tab t0) t23 = true := by decide +kernel
theorem a7 : AllT (okN gcv tab t0) t7 = true := allT_nd (by decide +kernel) a15 a23
theorem a19 : AllT (okN gcv tab t0) t19 = true := by decide +kernel
theorem a27 : AllT (okN gcv tab t0) t27 = true := by decide +kernel
theorem a11 : AllT (okN gcv tab t0) t11 = true := allT_nd (by decide +kernel) a19 a27
theorem a3 : AllT (okN gcv tab t0) t3 = true := allT_nd (by decide +kernel) a7 a11
theorem a17 : AllT (okN gcv tab t0) t17 = true := by decide +kernel
theorem a25 : AllT (okN gcv tab t0) t25 = true := by decide +kernel
theorem a9 : AllT (okN gcv tab t0) t9 = true := allT_nd (by decide +kernel) a17 a25
theorem a21 : AllT (okN gcv tab t0) t21 = true := by decide +kernel
theorem a29 : AllT (okN gcv tab t0) t29 = true := by decide +kernel
theorem a13 : AllT (okN gcv tab t0) t13 = true := allT_nd (by decide +kernel) a21 a29
theorem a5 : AllT (okN gcv tab t0) t5 = true := allT_nd (by decide +kernel) a9 a13
theorem a1 : AllT (okN gcv tab t0) t1 = true := allT_nd (by decide +kernel) a3 a5
theorem a16 : AllT (okN gcv tab t0) t16 = true := by decide +kernel
theorem a24 : AllT (okN gcv tab t0) t24 = true := by decide +kernel
theorem a8 : AllT (okN gcv tab t0) t8 = true := allT_nd (by decide +kernel) a16 a24
theorem a20 : AllT (okN gcv tab t0) t20 = true := by decide +kernel
theorem a28 : AllT (okN gcv tab t0) t28 = true := by decide +kernel
theorem a12 : AllT (okN gcv tab t0) t12 = true := allT_nd (by decide +kernel) a20 a28
theorem a4 : AllT (okN gcv tab t0) t4 = true := allT_nd (by decide +kernel) a8 a12
theorem a18 : AllT (okN gcv tab t0) t18 = true := by decide +kernel
theorem a26 : AllT (okN gcv tab t0) t26 = true := by decide +kernel
theorem a10 : AllT (okN gcv tab t0) t10 = true := allT_nd (by decide +kernel) a18 a26
theorem a22 : AllT (okN gcv tab t0) t22 = true := by decide +kernel
theorem a30 : AllT (okN gcv tab t0) t30 = true := by decide +kernel
theorem a14 : AllT (okN gcv tab t0) t14 = true := allT_nd (by decide +kernel) a22 a30
theorem a6 : AllT (okN gcv tab t0) t6 = true := allT_nd (by decide +kernel) a10 a14
theorem a2 : AllT (okN gcv tab t0) t2 = true := allT_nd (by decide +kernel) a4 a6
theorem a0 : AllT (okN gcv tab t0) t0 = true := allT_nd (by decide +kernel) a1 a2
theorem all_right : ∀ k, Right gcv tab t0 k := tbl_ok a0
end Sq
end

section
set_option Elab.async false
set_option linter.all false
set_option maxRecDepth 100000
/-! the law's own body, in pieces -/
namespace Sq.Law
open PySem
def e3 : E := (.call 78 (.cons (.v 2) .nil))
def e5 : E := (.o2 .add (.call 81 (.cons (.v 4) (.cons (.cst (.str ⟨#[108, 101, 97, 115, 116]⟩)) .nil))) (.call 81 (.cons (.v 5) (.cons (.cst (.str ⟨#[109, 111, 115, 116]⟩)) .nil))))
def e6 : E := (.or (.cons (.o2 .ne (.call 66 (.cons (.v 2) (.cons (.v 6) .nil))) (.call 46 (.cons (.v 4) (.cons (.v 5) .nil)))) (.cons (.o1 .not (.call 83 (.cons (.v 2) (.cons (.v 6) (.cons (.call 46 (.cons (.v 4) (.cons (.v 5) .nil))) .nil))))) .nil)))
def e8 : E := (.tup (.cons (.cst (.str ⟨#[99, 101, 108, 108]⟩)) (.cons (.v 7) (.cons (.v 8) (.cons (.o2 .ix (.o2 .ix (.v 4) (.v 7)) (.v 8)) .nil)))))
def e9 : E := (.o1 .not (.call 83 (.cons (.v 2) (.cons (.tup (.cons (.v 9) .nil)) (.cons (.lci [10] (.n 10) (.over (.v 3)) (.o2 .eq (.o2 .ix (.o2 .ix (.v 10) (.v 7)) (.v 8)) (.o2 .ix (.o2 .ix (.v 4) (.v 7)) (.v 8))) (.v 10)) .nil)))))
def sEnd : SL := (.cons (.set 11 (.sh (.tup (.cons (.tup (.cons (.cst (.int 0)) (.cons (.cst (.int 1)) (.cons (.cst (.int 0)) .nil)))) (.cons (.tup (.cons (.cst (.int 1)) (.cons (.o1 .neg (.cst (.int 1))) (.cons (.cst (.int 1)) .nil)))) (.cons (.tup (.cons (.cst (.int 0)) (.cons (.cst (.int 1)) (.cons (.cst (.int 0)) .nil)))) .nil)))))) (.cons (.set 12 (.sh (.call 78 (.cons (.cst (.int 3)) .nil)))) (.cons (.ite (.or (.cons (.o1 .not (.call 84 (.cons (.v 12) (.cons (.v 11) (.cons (.tup (.cons (.cst (.int 1)) (.cons (.cst (.int 1)) .nil))) .nil))))) (.cons (.o1 .not (.call 83 (.cons (.cst (.int 3)) (.cons (.tup (.cons (.tup (.cons (.cst (.str ⟨#[99, 101, 108, 108]⟩)) (.cons (.cst (.int 1)) (.cons (.cst (.int 1)) (.cons (.cst (.int 0)) .nil))))) .nil)) (.cons (.lci [10] (.n 10) (.over (.v 12)) (.o2 .eq (.o2 .ix (.o2 .ix (.v 10) (.cst (.int 1))) (.cst (.int 1))) (.cst (.int 0))) (.v 10)) .nil))))) .nil))) (.cons (.ret (.cst (.bool false))) .nil) .nil) (.cons (.ret (.and (.cons (.call 83 (.cons (.cst (.int 3)) (.cons (.tup (.cons (.tup (.cons (.cst (.str ⟨#[99, 101, 108, 108]⟩)) (.cons (.cst (.int 0)) (.cons (.cst (.int 1)) (.cons (.cst (.int 1)) .nil))))) .nil)) (.cons (.o3 .slice (.v 12) (.cst (.int 2)) (.cst (.int 5))) .nil)))) (.cons (.call 83 (.cons (.cst (.int 3)) (.cons (.call 81 (.cons (.v 11) (.cons (.cst (.str ⟨#[108, 101, 97, 115, 116]⟩)) .nil))) (.cons (.lci [10] (.n 10) (.over (.v 12)) (.call 80 (.cons (.v 11) (.cons (.v 10) .nil))) (.v 10)) .nil)))) .nil)))) .nil))))
def lawN : List Str := ["_law_script", "_law_cup_here", "_law_sides", "_law_every", "_law_one", "_law_other", "_law_facts_here", "_law_row", "_law_column", "_law_cell", "_law_square", "_law_x", "_law_three"].map Str.ofString
def at_ : Nat := 117
end Sq.Law
end

section
set_option Elab.async false
set_option linter.all false
set_option maxRecDepth 100000
/-! the law's own runs, by data -/
namespace Sq.Law
open PySem Sq
def jg (g : Nat) : List Nat :=
  if Nat.beq g 78 then [99, 131] else
  if Nat.beq g 81 then [100, 101, 107, 118, 132, 133, 146, 149, 152, 155, 158, 161, 181, 199, 215, 226, 238, 250] else
  if Nat.beq g 66 then [729, 731, 733, 734, 735, 736, 739, 743, 745, 746, 747, 748, 750, 752, 754, 756, 758, 760, 762, 764, 773, 778, 779, 782, 784, 787, 788, 790, 809, 811, 813, 815, 817, 819, 821, 823, 827, 830, 834, 842, 844, 846, 848, 850, 852, 854, 856, 860, 863, 865, 867, 869, 871, 873, 875, 877, 879, 880, 882, 884, 886, 889, 891, 893, 895, 897, 899, 901, 903, 906, 908, 910, 912, 914, 916, 918, 920, 923, 925, 927, 929] else
  if Nat.beq g 46 then [730, 732, 740, 744, 751, 753, 755, 757, 759, 761, 763, 810, 812, 814, 816, 818, 820, 822, 843, 845, 847, 849, 851, 853, 855, 866, 868, 870, 872, 874, 876, 878, 881, 883, 885, 887, 890, 892, 894, 898, 900, 902, 904, 907, 909, 911, 915, 917, 919, 921, 924, 926, 928] else
  if Nat.beq g 83 then [930, 931, 932, 933, 934, 935, 937, 938, 939, 940, 941, 943, 944, 945, 946, 947, 948, 949, 954, 955, 956, 957, 958, 959, 964, 965, 966, 967, 968, 969, 974, 975, 976, 977, 978, 983, 984, 985, 990, 991, 992, 997, 1002, 1003, 1004, 1005, 1006, 1007, 1008, 1009, 1010, 1011, 1012, 1013, 1014, 1015, 1016, 1017, 1018, 1019, 1020, 1021, 1022, 1023, 1024, 1025, 1026, 1027, 1028, 1029, 1030, 1031, 1032, 1033, 1034, 1035, 1036, 1037, 1038, 1039, 1040] else
  if Nat.beq g 84 then [936, 942, 950, 951, 952, 953, 960, 961, 962, 963, 970, 971, 972, 973, 979, 980, 981, 982, 986, 987, 988, 989, 993, 994, 995, 996, 998, 999, 1000, 1001] else
  if Nat.beq g 80 then [259, 260, 261, 262, 263, 264, 265] else
  []
def clJ (g : Nat) (ds : List D) : Option D := look t0 8 g ds (jg g)
theorem clJ_ok : More clJ (evF gcv tab 8) := fun g ds r e => look_ok (all_right 8) e
def evs (n : Int) : List D := match clJ 78 [.int n] with
  | some (.list xs) => xs
  | _ => []
def n1 : List Cl := [.no]
def envA (n : Int) : Env := [.no, .no, .sh (.int n), .no, .no, .no, .no, .no, .no, .no, .no, .no, .no]
def envB (n : Int) : Env := [.no, .no, .sh (.int n), .sh (.list (evs n)), .no, .no, .no, .no, .no, .no, .no, .no, .no]
def envC (n : Int) (a b : D) : Env := [.no, .no, .sh (.int n), .sh (.list (evs n)), .sh a, .sh b, .no, .no, .no, .no, .no, .no, .no]
def envD (n : Int) (a b f : D) : Env := [.no, .no, .sh (.int n), .sh (.list (evs n)), .sh a, .sh b, .sh f, .no, .no, .no, .no, .no, .no]
def envE (n : Int) (a : D) : Env := [.no, .no, .sh (.int n), .sh (.list (evs n)), .sh a, .no, .no, .no, .no, .no, .no, .no, .no]
def envG (n : Int) (a : D) (r c : Int) : Env := [.no, .no, .sh (.int n), .sh (.list (evs n)), .sh a, .no, .no, .sh (.int r), .sh (.int c), .no, .no, .no, .no]
def envI (n : Int) (a : D) (r c : Int) (x : D) : Env := [.no, .no, .sh (.int n), .sh (.list (evs n)), .sh a, .no, .no, .sh (.int r), .sh (.int c), .sh x, .no, .no, .no]
def envZ : Env := [.no, .no, .no, .no, .no, .no, .no, .no, .no, .no, .no, .no, .no]
def isF : Option D → Bool
  | some (.bool false) => true
  | _ => false
def isT : Option D → Bool
  | some (.bool true) => true
  | _ => false
def okP (n : Int) (a b : D) : Bool := match ev gcv clJ e5 (envC n a b) with
  | some f => isF (ev gcv clJ e6 (envD n a b f))
  | none => false
def okC (n : Int) (a : D) (r c : Int) : Bool := match ev gcv clJ e8 (envG n a r c) with
  | some x => isF (ev gcv clJ e9 (envI n a r c x))
  | none => false
def okB (n : Int) (a : D) (r c : Int) : Bool := isT (clJ 84 [.list (evs n), a, .tuple [.int r, .int c]])
def okZ : Bool := match exs gcv clJ sEnd envZ with
  | some (.rt (.bool true)) => true
  | _ => false
theorem h2 : clJ 78 [.int 2] = some (.list (evs 2)) := by
  have h : (match clJ 78 [.int 2] with
    | some (.list _) => true
    | _ => false) = true := by decide +kernel
  unfold evs
  split at h
  · next e => rw [e]
  · cases h
theorem h3 : clJ 78 [.int 3] = some (.list (evs 3)) := by
  have h : (match clJ 78 [.int 3] with
    | some (.list _) => true
    | _ => false) = true := by decide +kernel
  unfold evs
  split at h
  · next e => rw [e]
  · cases h
theorem len2 : (evs 2).length = 2 := by decide +kernel
theorem len3 : (evs 3).length = 7 := by decide +kernel
theorem z : okZ = true := by decide +kernel
theorem p2 : ((evs 2).all fun a => (evs 2).all fun b => okP 2 a b) = true := by decide +kernel
theorem p3 : ((evs 3).all fun a => (evs 3).all fun b => okP 3 a b) = true := by decide +kernel
theorem c2 : ((evs 2).all fun a => okC 2 a 0 0 && okC 2 a 0 1 && okC 2 a 1 0 && okC 2 a 1 1) = true := by decide +kernel
theorem c3 : ((evs 3).all fun a => okC 3 a 0 0 && okC 3 a 0 1 && okC 3 a 0 2 && okC 3 a 1 0 && okC 3 a 1 1 && okC 3 a 1 2 && okC 3 a 2 0 && okC 3 a 2 1 && okC 3 a 2 2) = true := by decide +kernel
theorem b2 : ((evs 2).all fun a => okB 2 a 1 1) = true := by decide +kernel
theorem b3 : ((evs 3).all fun a => okB 3 a 1 1 && okB 3 a 1 2 && okB 3 a 2 1 && okB 3 a 2 2) = true := by decide +kernel
end Sq.Law
end

section
set_option Elab.async false
set_option linter.all false
set_option maxRecDepth 100000
set_option maxHeartbeats 4000000
/-! the law's dice: _law_cup, _law_roll, _law_some -/
namespace Sq.Law
open PySem L2 PyProof.Rows Sq

/-- the cup at c: two whole numbers, none below zero -/
def CupOk (H : Hp) (c : Addr) : Prop := ∃ a b : Int, 0 ≤ a ∧ 0 ≤ b ∧ H c = some (.lst [.int a, .int b])
/-- what a roll may change -/
structure Sc (c : Addr) (H H' : Hp) : Prop where
  off : ∀ a o, a ≠ c → H a = some o → H' a = some o
  cup : CupOk H' c
def spCup (K : PySem.W.Frag) : Sp := fun vs H Q _ => ∃ (l : Addr) (ns : List Int), vs = [.ref l] ∧ SqL K H l (ns.map V.int) ∧ ns.length ≤ 1000 ∧ ∀ H' p, Same H H' → H p = none → CupOk H' p → Q (.ref p) H'
def spRoll : Sp := fun vs H Q _ => ∃ (c : Addr) (m : Int), vs = [.ref c, .int m] ∧ 0 < m ∧ m < 1000000 ∧ CupOk H c ∧ ∀ r H', Sc c H H' → 0 ≤ r → r < m → Q (.int r) H'
def spSome (K : PySem.W.Frag) : Sp := fun vs H Q _ => ∃ (c t : Addr) (xs : List V), vs = [.ref c, .ref t] ∧ CupOk H c ∧ c ≠ t ∧ H t = some (.lst xs) ∧ 0 < xs.length ∧ xs.length < 1000000 ∧ ∀ (r : Nat) x H', Sc c H H' → xs[r]? = some x → Q x H'
section
variable {P : Program} {w : World} {K : PySem.W.Frag} {mg : Str → Option Value} {base : Heap} {f : Addr} {fd : FuncData}
abbrev nRoll : List Str := ["_law_cup_here", "_law_many", "_law_found", "_law_deep"]
theorem scRoll : FnScope nRoll ["_law_cup_here", "_law_many"] (defScope (topS 106)) := C8.fnScope_by (by decide +kernel)
theorem cup_ix0 {K : PySem.W.Frag} {H : Hp} {c : Addr} {a b : Int} {Q : VK} (h : H c = some (.lst [.int a, .int b])) (q : Q (.int a) H) : rIxL K (.ref c) (.int 0) H Q := ⟨c, _, 0, _, rfl, rfl, .inl (.inl h), rfl, q⟩
theorem cup_ix1 {K : PySem.W.Frag} {H : Hp} {c : Addr} {a b : Int} {Q : VK} (h : H c = some (.lst [.int a, .int b])) (q : Q (.int b) H) : rIxL K (.ref c) (.int 1) H Q := ⟨c, _, 1, _, rfl, rfl, .inl (.inl h), rfl, q⟩
theorem pix {k : Nat} {c : Const} {p : Pos} : PlainIx (.Constant c k p) := fun _ _ => rfl
theorem ok_roll (F : L2.Fun K "_law_roll" "_law_roll" (topS 106) f fd) (mI : mg "int" = none) : FnOk P w K mg base L2.CX0 1 f fd ["_law_cup_here", "_law_many"] spRoll := by
  refine F.ok scRoll (fun vs H Q E h => ?_) (fun cdv A outer s H vs Q E hr h => ⟨?_, ?_, ?_⟩)
  · obtain ⟨c, m, rfl, _⟩ := h
    rfl
  · exact tSeq (tIfS (tTest (tOp (rI0 fun i j => .bl (decide (j < i))) (tOp (rIxL K) (tVar 0) (tC (.int 0))) (tC (.int 0))))
      (tSeq (tAsg (tOp (rI (fun _ j => 0 < j) fun i j => .int (i % j)) (tCB (fun xs H Q => (∃ i, xs = [.int i] ∧ Q (.int i) H) ∨ ∃ k, xs = [.bl k] ∧ Q (.int (if k then 1 else 0)) H) (tCons (tOp (rIxL K) (tVar 0) (tC (.int 0))) tNil)) (tVar 1)) (gName 2))
        (tSeq (tAsg (tOp (rI CDiv fun i j => .int (i / j)) (tOp (rIxL K) (tVar 0) (tC (.int 0))) (tVar 1)) (gSub (tVar 0) (tC (.int 0)) rSetL))
          (tRet (tVar 2))))
      tNext)
      (tSeq (tAsg (tOp (rI (fun _ j => 0 < j) fun i j => .int (i % j)) (tCB (fun xs H Q => (∃ i, xs = [.int i] ∧ Q (.int i) H) ∨ ∃ k, xs = [.bl k] ∧ Q (.int (if k then 1 else 0)) H) (tCons (tOp (rI0 fun i j => .int (i + j)) (tOp (rI CMul fun i j => .int (i * j)) (tOp (rIxL K) (tVar 0) (tC (.int 1))) (tC (.int 30671))) (tC (.int 7919))) tNil)) (tC (.int 2147483549))) (gSub (tVar 0) (tC (.int 1)) rSetL))
        (tSeq (tAsg (tOp (rI (fun _ j => 0 < j) fun i j => .int (i % j)) (tCB (fun xs H Q => (∃ i, xs = [.int i] ∧ Q (.int i) H) ∨ ∃ k, xs = [.bl k] ∧ Q (.int (if k then 1 else 0)) H) (tCons (tOp (rI CMul fun i j => .int (i * j)) (tOp (rIxL K) (tVar 0) (tC (.int 1))) (tOp (rI0 fun i j => .int (i + j)) (tOp (rIxL K) (tVar 0) (tC (.int 1))) (tC (.int 131)))) tNil)) (tC (.int 2147483587))) (gName 3))
          (tRet (tOp (rI (fun _ j => 0 < j) fun i j => .int (i % j)) (tCB (fun xs H Q => (∃ i, xs = [.int i] ∧ Q (.int i) H) ∨ ∃ k, xs = [.bl k] ∧ Q (.int (if k then 1 else 0)) H) (tCons (tOp (rI CDiv fun i j => .int (i / j)) (tVar 3) (tC (.int 709))) tNil)) (tVar 1)))))
  · have ix : ∀ (j : Int) {p p2 p3 : Pos} {k : Nat}, PE (cxOf L2.CX0 P w K mg base nRoll "_law_roll" (defScope (topS 106)) f cdv A outer s H E).nox (.Subscript (.Name "_law_cup_here" p) (.Constant (.int j) k p2) p3) (tOp (rIxL K) (tVar 0) (tC (.int j))) := fun j => pe_ix ix_list (pv 0) pe_int pix
    have int_ : ∀ {e : Expr} {te : TE} {p q : Pos}, noStar e = true → PE (cxOf L2.CX0 P w K mg base nRoll "_law_roll" (defScope (topS 106)) f cdv A outer s H E).nox e te → PE (cxOf L2.CX0 P w K mg base nRoll "_law_roll" (defScope (topS 106)) f cdv A outer s H E).nox (.Call (.Name "int" p) [e] [] q) (tCB (fun xs H Q => (∃ i, xs = [.int i] ∧ Q (.int i) H) ∨ ∃ k, xs = [.bl k] ∧ Q (.int (if k then 1 else 0)) H) (tCons te tNil)) :=
      fun st he => pe_callTy call_int1 rfl mI (by decide +kernel) (pa_cons he pa_nil (star_of st)) (by decide) (by decide) (star_of st) rfl
    refine pss_cons (ps_if (pt_cmpR op_gt (ix 0) pe_int rfl) (pss_cons (ps_set (i := 2) scRoll.nd rfl (Or.inl rfl) (pe_op op_mod (int_ rfl (ix 0)) (pv 1))) (pss_cons (ps_asg (pe_op op_fdiv (ix 0) (pv 1)) (pg_sub (pv 0) pe_int set_list)) (pss_one (ps_ret (pv 2))))) pss_nil)
      (pss_cons (ps_asg (pe_op op_mod (int_ rfl (pe_op op_add (pe_op op_mul (ix 1) pe_int) pe_int)) pe_int) (pg_sub (pv 0) pe_int set_list))
        (pss_cons (ps_set (i := 3) scRoll.nd rfl (Or.inl rfl) (pe_op op_mod (int_ rfl (pe_op op_mul (ix 1) (pe_op op_add (ix 1) pe_int))) pe_int)) (pss_one (ps_ret (pe_op op_mod (int_ rfl (pe_op op_fdiv (pv 3) pe_int)) (pv 1))))))
  · obtain ⟨c, m, rfl, hm0, hm1, ⟨a, b, ha, hb, hc⟩, q⟩ := h
    have sc : ∀ {x y : Int}, 0 ≤ x → 0 ≤ y → Sc c H (upd H c (.lst [.int x, .int y])) := fun h1 h2 => ⟨fun b' o ne e => by
      rw [upd_ne ne]
      exact e, _, _, h1, h2, upd_same⟩
    simp only [tSeq, tNext, tIfS, tTest, tOp, tVar, tC, tAsg, tCB, tCons, tNil, tRet, gName, gSub]
    refine ⟨.ref c, rfl, ?_⟩
    refine cup_ix0 hc ⟨a, 0, rfl, rfl, decide (0 < a), rfl, ?_⟩
    by_cases h0 : 0 < a
    · rw [if_pos (decide_eq_true h0)]
      refine ⟨.ref c, rfl, ?_⟩
      refine cup_ix0 hc (.inl ⟨a, rfl, .int m, rfl, a, m, rfl, rfl, hm0, ?_⟩)
      refine ⟨.ref c, rfl, ?_⟩
      refine cup_ix0 hc ⟨.int m, rfl, a, m, rfl, rfl, ⟨hm0, by omega⟩, ?_⟩
      refine ⟨.ref c, rfl, c, _, 0, 0, rfl, rfl, hc, rfl, ?_⟩
      exact ⟨.int (a % m), rfl, q (a % m) _ (sc (Int.ediv_nonneg ha (by omega)) hb) (Int.emod_nonneg _ (by omega)) (Int.emod_lt_of_pos _ hm0)⟩
    · rw [if_neg (by simpa using h0)]
      have p1 : (0 : Int) < 2147483549 := by decide
      have p2 : (0 : Int) < 2147483587 := by decide
      have nb : 0 ≤ (b * 30671 + 7919) % 2147483549 := Int.emod_nonneg _ (by decide)
      have lb : (b * 30671 + 7919) % 2147483549 < 2147483549 := Int.emod_lt_of_pos _ p1
      refine ⟨.ref c, rfl, ?_⟩
      refine cup_ix1 hc ⟨b, 30671, rfl, rfl, .inr ⟨by decide, by decide⟩, b * 30671, 7919, rfl, rfl, .inl ⟨_, rfl, _, 2147483549, rfl, rfl, p1, ?_⟩⟩
      dsimp only
      generalize (b * 30671 + 7919) % 2147483549 = b' at nb lb ⊢
      refine ⟨.ref c, rfl, c, _, 1, 1, rfl, rfl, hc, rfl, ?_⟩
      refine ⟨.ref c, rfl, ?_⟩
      refine cup_ix1 (a := a) (b := b') upd_same ?_
      refine ⟨.ref c, rfl, ?_⟩
      refine cup_ix1 (a := a) (b := b') upd_same ?_
      refine ⟨b', 131, rfl, rfl, b', b' + 131, rfl, rfl, .inl ⟨by omega, by omega⟩, .inl ⟨_, rfl, _, 2147483587, rfl, rfl, p2, ?_⟩⟩
      dsimp only
      generalize (b' * (b' + 131)) % 2147483587 = e
      refine ⟨.int e, rfl, e, 709, rfl, rfl, ⟨by decide, by decide⟩, .inl ⟨_, rfl, .int m, rfl, e / 709, m, rfl, rfl, hm0, ?_⟩⟩
      exact q (e / 709 % m) _ (sc ha nb) (Int.emod_nonneg _ (by omega)) (Int.emod_lt_of_pos _ hm0)
abbrev nSome : List Str := ["_law_cup_here", "_law_things"]
theorem scSome : FnScope nSome ["_law_cup_here", "_law_things"] (defScope (topS 107)) := C8.fnScope_by (by decide +kernel)
theorem ok_some {fR : Addr} {fdR : FuncData} (F : L2.Fun K "_law_some" "_law_some" (topS 107) f fd) (FR : L2.Fun K "_law_roll" "_law_roll" (topS 106) fR fdR) (hR : mg "_law_roll" = some (.ref fR)) (bR : Binds K fdR ["_law_cup_here", "_law_many"] []) (mI : mg "int" = none) (mL : mg "len" = none) :
    FnOk P w K mg base L2.CX0 2 f fd ["_law_cup_here", "_law_things"] (spSome K) := by
  refine F.ok scSome (fun vs H Q E h => ?_) (fun cdv A outer s H vs Q E hr h => ⟨?_, ?_, ?_⟩)
  · obtain ⟨c, t, xs, rfl, _⟩ := h
    rfl
  · exact tRet (tOp (rIxL K) (tVar 1) (tCall spRoll [] E0 (tCons (tVar 0) (tCons (tCB (fun xs H Q => ∃ x n, xs = [x] ∧ LenV K x H n ∧ Q (.int n) H) (tCons (tVar 1) tNil)) tNil))))
  · exact pss_one (ps_ret (pe_ix ix_list (pv 1) (pe_call (ok_roll FR mI) hr rfl hR FR.kp bR .nil pass0 (pa_cons (pv 0) (pa_cons (pe_callB call_len rfl mL boot_len (pa_cons (pv 1) pa_nil)) pa_nil))) (fun _ _ => rfl)))
  · obtain ⟨c, t, xs, rfl, hc, hne, ht, h0, h1, q⟩ := h
    simp only [tOp, tVar, tCB, tCons, tNil, tRet, tCall]
    refine ⟨.ref t, rfl, .ref c, rfl, .ref t, rfl, .ref t, xs.length, rfl, .inl ⟨xs, .inl (.inl ht), rfl⟩, ?_⟩
    refine ⟨c, xs.length, rfl, by omega, by omega, hc, fun r H' sc r0 r1 => ?_⟩
    have hr' : r.toNat < xs.length := by omega
    have e : r = ((r.toNat : Nat) : Int) := by omega
    have ex : xs[r.toNat]? = some xs[r.toNat] := List.getElem?_eq_getElem hr'
    refine ⟨t, xs, r, xs[r.toNat], rfl, rfl, .inl (.inl (sc.off t _ (fun z => hne z.symm) ht)), ?_, q r.toNat _ H' sc ex⟩
    unfold atI ixN
    rw [if_pos r0, if_pos r1]
    exact ex
abbrev nCup : List Str := ["_law_script", "_law_cell", "_law_great"]
theorem scCup : FnScope nCup ["_law_script"] (defScope (topS 105)) := C8.fnScope_by (by decide +kernel)
theorem ok_cup (F : L2.Fun K "_law_cup" "_law_cup" (topS 105) f fd) (mI : mg "int" = none) (mA : mg "abs" = none) (mL : mg "list" = none) : FnOk P w K mg base L2.CX0 1 f fd ["_law_script"] (spCup K) := by
  refine F.ok scCup (fun vs H Q E h => ?_) (fun cdv A outer s H vs Q E hr h => ⟨?_, ?_, ?_⟩)
  · obtain ⟨l, ns, rfl, _⟩ := h
    rfl
  · exact tSeq (tAsg (tCB (fun xs H Q => ∃ i, xs = [.int i] ∧ Q (.int (if i < 0 then -i else i)) H) (tCons (tOp (rIxL K) (tOp rCat (tCB (fun xs H Q => ∃ p ys, xs = [.ref p] ∧ (SqL K H p ys ∨ SqT K H p ys) ∧ ∀ l, H l = none → Q (.ref l) (upd H l (.lst ys))) (tCons (tVar 0) tNil)) (tLst (tCons (tC (.int 0)) tNil))) (tC (.int 0))) tNil)) (gName 1))
      (tSeq (tAsg (tIf (tTest (tOp (rI0 fun i j => .bl (decide (j ≤ i))) (tVar 1) (tOp (rI CPow fun i j => .int (i ^ j.toNat)) (tC (.int 10)) (tC (.int 18))))) (tOp (rI CDiv fun i j => .int (i / j)) (tVar 1) (tC (.int 11))) (tC (.int 0))) (gName 2))
        (tRet (tLst (tCons (tVar 2) (tCons (tOp (rI0 fun i j => .int (i + j)) (tOp (rI (fun _ j => 0 < j) fun i j => .int (i % j)) (tCB (fun xs H Q => (∃ i, xs = [.int i] ∧ Q (.int i) H) ∨ ∃ k, xs = [.bl k] ∧ Q (.int (if k then 1 else 0)) H) (tCons (tOp (rI0 fun i j => .int (i + j)) (tOp (rI CMul fun i j => .int (i * j)) (tVar 1) (tC (.int 193))) (tC (.int 1201))) tNil)) (tC (.int 2077504273))) (tC (.int 89))) tNil)))))
  · refine pss_cons (ps_set (i := 1) scCup.nd rfl (Or.inl rfl) (pe_callB call_abs rfl mA PyProof.Rows.boot_abs (pa_cons (pe_ix ix_list (pe_op op_cat (pe_callTy call_list_of rfl mL PyProof.Rows.boot_list (pa_cons (pv 0) pa_nil)) (pe_lst (pa_cons pe_int pa_nil))) pe_int pix) pa_nil)))
      (pss_cons (ps_set (i := 2) scCup.nd rfl (Or.inl rfl) (pe_ifExp (pt_cmpR op_ge (pv 1) (pe_op op_pow pe_int pe_int) rfl) (pe_op op_fdiv (pv 1) pe_int) pe_int))
        (pss_one (ps_ret (pe_lst (pa_cons (pv 2) (pa_cons (pe_op op_add (pe_op op_mod (pe_callTy call_int1 rfl mI PyProof.Rows.boot_int (pa_cons (pe_op op_add (pe_op op_mul (pv 1) pe_int) pe_int) pa_nil)) pe_int) pe_int) pa_nil))))))
  · obtain ⟨l, ns, rfl, hl, hz, q⟩ := h
    simp only [tSeq, tTest, tOp, tVar, tC, tAsg, tCB, tCons, tNil, tRet, gName, tIf, tLst]
    refine ⟨.ref l, rfl, l, _, rfl, .inl hl, fun p hp => ⟨by rw [sizeLine_eq]; decide, fun p2 hp2 => ?_⟩⟩
    have sm1 : Same H (upd H p (.lst (ns.map V.int))) := same_new hp
    have sm2 := sm1.trans (same_new (o := .lst [.int 0]) hp2)
    have ne : p ≠ p2 := fun e => by
      rw [← e, upd_same] at hp2
      cases hp2
    refine ⟨p, p2, _, _, rfl, rfl, by rw [upd_ne ne, upd_same], upd_same, ?_, fun p3 hp3 => ?_⟩
    · rw [List.length_map, sizeLine_eq]
      simp only [List.length_cons, List.length_nil]
      omega
    have sm3 := sm2.trans (same_new (o := .lst (ns.map V.int ++ [.int 0])) hp3)
    obtain ⟨x, hx⟩ : ∃ x : Int, (ns.map V.int ++ [V.int 0])[0]? = some (.int x) := by
      cases ns with
      | nil => exact ⟨0, rfl⟩
      | cons n ns => exact ⟨n, rfl⟩
    refine ⟨p3, _, 0, .int x, rfl, rfl, .inl (.inl upd_same), ?_, x, rfl, ?_⟩
    · unfold atI ixN
      rw [if_pos (Int.le_refl 0), if_pos (by simp only [List.length_append, List.length_cons, List.length_nil]; omega)]
      exact hx
    have nn : 0 ≤ (if x < 0 then -x else x) := by split <;> omega
    generalize (if x < 0 then -x else x) = y at nn
    have last : ∀ {g : Int}, 0 ≤ g → ∀ {H' : Hp}, Same H H' → ∀ p4, H' p4 = none → Q (.ref p4) (upd H' p4 (.lst [.int g, .int ((y * 193 + 1201) % 2077504273 + 89)])) := fun {g} hg {H'} sm p4 h4 =>
      q _ p4 (sm.trans (same_new h4)) (none_of sm h4) ⟨_, _, hg, by
        have := Int.emod_nonneg (y * 193 + 1201) (show (2077504273 : Int) ≠ 0 by decide)
        omega, upd_same⟩
    have pm : (0 : Int) < 2077504273 := by decide
    have two : 2 ≤ sizeLine := by rw [sizeLine_eq]; decide
    refine ⟨.int y, rfl, 10, 18, rfl, rfl, ⟨by decide, by decide, by decide⟩, y, _, rfl, rfl, decide (10 ^ 18 ≤ y), rfl, ?_⟩
    by_cases h18 : (10 : Int) ^ 18 ≤ y
    · rw [if_pos (decide_eq_true h18)]
      refine ⟨.int y, rfl, y, 11, rfl, rfl, ⟨by decide, by decide⟩, ?_⟩
      refine ⟨.int (y / 11), rfl, .int y, rfl, y, 193, rfl, rfl, .inr ⟨by decide, by decide⟩, y * 193, 1201, rfl, rfl, .inl ⟨_, rfl, _, 2077504273, rfl, rfl, pm, _, 89, rfl, rfl, two, fun p4 h4 => ?_⟩⟩
      exact last (Int.ediv_nonneg nn (by decide)) sm3 p4 h4
    · rw [if_neg (by simpa using h18)]
      refine ⟨.int 0, rfl, .int y, rfl, y, 193, rfl, rfl, .inr ⟨by decide, by decide⟩, y * 193, 1201, rfl, rfl, .inl ⟨_, rfl, _, 2077504273, rfl, rfl, pm, _, 89, rfl, rfl, two, fun p4 h4 => ?_⟩⟩
      exact last (Int.le_refl 0) sm3 p4 h4
end
end Sq.Law
end

section
set_option Elab.async false
set_option linter.all false
set_option maxRecDepth 100000
set_option maxHeartbeats 4000000
/-! the law's body: its state, its steps -/
namespace Sq.Law
open PySem L2 PyProof.Rows Sq

/-- the state between the law's statements: the cup at c, the other names by data -/
structure LS (X : Cx) (c : Addr) (env : Env) (σ : L2.St) (H : Hp) : Prop where
  E : EnvR X.prog X.w [c] env σ H
  no : ∀ i, ¬ isOw (env.at i)
  at1 : σ[1]? = some (some (.ref c))
  cup : CupOk H c
section
variable {n : Nat} {gcN : List Str} {nm : Nat → Option Str} {gcv : Nat → Option Int} {cl : Nat → List D → Option D} {X : Cx} {c : Addr} {env : Env} {σ : L2.St} {H : Hp} {D : Ends}
theorem EnvR.vis {P : Program} {w : World} {O O' : List Addr} {H' : Hp} (E : EnvR P w O env σ H) (no : ∀ i, ¬ isOw (env.at i)) (e : Same (hide O H) (hide O' H')) (t : Trk O' H') : EnvR P w O' env σ H' where
  cells := fun i => by
    have k := E.cells i
    have z := no i
    cases ee : env.at i with
    | no => trivial
    | sh d =>
      rw [ee] at k
      obtain ⟨v, q1, q2⟩ := k
      exact ⟨v, q1, q2.mono e⟩
    | ow d =>
      rw [ee] at z
      exact absurd trivial z
  dist := fun i j p _ hi _ _ _ => absurd hi (no i)
  len := E.len
  trk := t
theorem cup_trk (h : CupOk H c) : Trk [c] H := fun a ha => by
  obtain rfl := List.mem_singleton.mp ha
  obtain ⟨x, y, _, _, e⟩ := h
  rw [e]
  exact fun z => by cases z
theorem Sc.vis {H' : Hp} (s : Sc c H H') : Same (hide [c] H) (hide [c] H') := fun a o h => by
  obtain ⟨h1, h2⟩ := hide_some h
  exact hide_of (s.off a o (fun e => h2 (by rw [e]; exact List.mem_singleton.mpr rfl)) h1) h2
theorem cup_same {H' : Hp} (h : CupOk H c) (e : Same H H') : CupOk H' c := by
  obtain ⟨x, y, h1, h2, h3⟩ := h
  exact ⟨x, y, h1, h2, e c _ h3⟩
theorem LS.same {H' : Hp} (L : LS X c env σ H) (e : Same H H') : LS X c env σ H' := ⟨L.E.same e, L.no, L.at1, cup_same L.cup e⟩
theorem LS.sc {H' : Hp} (L : LS X c env σ H) (s : Sc c H H') : LS X c env σ H' := ⟨EnvR.vis L.E L.no s.vis (cup_trk s.cup), L.no, L.at1, s.cup⟩
theorem LS.put (L : LS X c env σ H) {i : Nat} (h1 : i ≠ 1) {d : Sq.D} {v : V} (r : Rep X.prog X.w (hide [c] H) d v) : LS X c (env.put i (.sh d)) (σ.set i (some v)) H where
  E := L.E.sh r i
  no := fun j => by
    by_cases h : i = j
    · subst h
      rw [at_put_eq]
      split <;> exact fun z => z
    · rw [at_put_ne _ _ _ _ h]
      exact L.no j
  at1 := by
    rw [List.getElem?_set_ne h1]
    exact L.at1
  cup := L.cup
theorem LS.drop (L : LS X c env σ H) (i : Nat) : LS X c (env.put i .no) σ H where
  E := {
    cells := fun j => by
      by_cases h : i = j
      · subst h
        rw [at_put_eq]
        split <;> trivial
      · rw [at_put_ne _ _ _ _ h]
        exact L.E.cells j
    dist := fun a b p _ ha _ _ _ => by
      exfalso
      by_cases h : i = a
      · subst h
        rw [at_put_eq] at ha
        split at ha <;> exact ha
      · rw [at_put_ne _ _ _ _ h] at ha
        exact L.no a ha
    len := by rw [put_len]; exact L.E.len
    trk := L.E.trk }
  no := fun j => by
    by_cases h : i = j
    · subst h
      rw [at_put_eq]
      split <;> exact fun z => z
    · rw [at_put_ne _ _ _ _ h]
      exact L.no j
  at1 := L.at1
  cup := L.cup
theorem l_cons {s : Stmt} {ss : List Stmt} (h : wS X s { D with nx := fun σ' H' => wSs X ss D σ' H' } σ H) : wSs X (s :: ss) D σ H := wSs_of (pss_cons wS_ok wSs_ok) h
def noComp (s : Stmt) : Bool := match dAsg s with
  | some (_, x) => !isComp x
  | none => false
/-- a name takes a value -/
theorem l_set (C : SCtx n gcN nm gcv cl X) {i : Nat} {e : E} {s : Stmt} {d : Sq.D} (ck : ckS X.N gcN nm X.env.scope (.set i (.sh e)) s = true) (nc : noComp s = true) (h1 : i ≠ 1) (L : LS X c env σ H) (h : ev gcv cl e env = some d)
    (q : ∀ v H', LS X c (env.put i (.sh d)) (σ.set i (some v)) H' → D.nx (σ.set i (some v)) H') : wS X s D σ H := by
  have kk : (match dAsg s with
    | some (t, e') => (match dName t with
      | some x => decide (X.N[i]? = some x) && locB X.env.scope X.env.scope x
      | none => false) && ckR X.N gcN nm X.env.scope (.sh e) e'
    | none => false) = true := ck
  clear ck
  unfold noComp at nc
  split at kk
  · next t x e1 =>
    rw [e1] at nc
    obtain ⟨pos, rfl⟩ := dAsg_eq e1
    rw [Bool.and_eq_true] at kk
    obtain ⟨k1, k2⟩ := kk
    split at k1
    · next y e2 =>
      obtain ⟨py, rfl⟩ := dName_eq e2
      rw [Bool.and_eq_true, decide_eq_true_eq] at k1
      obtain ⟨hl, hf⟩ := C.store k1.2
      have hn : isComp x = false := by simpa using nc
      exact wS_of (ps_set C.nd k1.1 hl wE_ok (sw_no hn) hf) (sndE e C.toCtx k2 L.E h H (Same.refl _) _ fun v H2 e3 r => q v H2 ((L.same e3).put h1 r))
    · cases k1
  · cases kk
/-- a test that does not hold -/
theorem l_if (C : SCtx n gcN nm gcv cl X) {e : E} {a : SL} {s : Stmt} (ck : ckS X.N gcN nm X.env.scope (.ite e a .nil) s = true) (L : LS X c env σ H) (h : ev gcv cl e env = some (.bool false))
    (q : ∀ H', LS X c env σ H' → D.nx σ H') : wS X s D σ H := by
  have kk : (match dIfS s with
    | some (x, as, bs) => tst e && ckE X.N gcN nm X.env.scope e x && cks X.N gcN nm X.env.scope a as && cks X.N gcN nm X.env.scope .nil bs
    | none => false) = true := ck
  clear ck
  split at kk
  · next x as bs e1 =>
    obtain ⟨pos, rfl⟩ := dIfS_eq e1
    simp only [Bool.and_eq_true] at kk
    obtain ⟨⟨⟨k1, k2⟩, k3⟩, k4⟩ := kk
    refine wS_of (ps_if wT_ok wSs_ok wSs_ok) (sndT e C.toCtx k1 k2 L.E h H (Same.refl _) _ fun H2 e2 => ?_)
    cases bs with
    | nil =>
      rw [if_neg (by decide)]
      exact wSs_of pss_nil (q H2 (L.same e2))
    | cons _ _ => simp [cks] at k4
  · cases kk
/-- the end -/
theorem l_end (C : SCtx n gcN nm gcv cl X) {ss : SL} {xs : List Stmt} {d : Sq.D} (ck : cks X.N gcN nm X.env.scope ss xs = true) (L : LS X c env σ H) (h : exs gcv cl ss env = some (.rt d)) (q : ∀ v H', Rep X.prog X.w (hide [c] H') d v → D.rt v H') : wSs X xs D σ H :=
  sndSs C ss ck [c] env σ H (.rt d) D ⟨L.E, Same.refl H, fun _ h => h, fun i p hi _ => absurd hi (L.no i), L.E.trk⟩ h fun v H' _ r => q v H' r
end
end Sq.Law
end

section
set_option Elab.async false
set_option linter.all false
set_option maxRecDepth 100000
set_option maxHeartbeats 8000000
/-! the law's body: the statements that roll -/
namespace Sq.Law
open PySem L2 PyProof.Rows Sq

def tpN (g : Nat) : Stmt := topS (atL.getD g 0)
def bs (i : Nat) : Stmt := (defBody (topS at_)).getD i (.Pass ⟨0, 0, 0, 0⟩)
abbrev lsc : Scope := defScope (topS at_)
theorem body_eq : defBody (topS at_) = [bs 0, bs 1, bs 2, bs 3, bs 4, bs 5, bs 6, bs 7, bs 8, bs 9, bs 10, bs 11, bs 12, bs 13] := by rfl
theorem scLaw : FnScope lawN ["_law_script"] lsc := C8.fnScope_by (by decide +kernel)
abbrev sF (e : E) : S := .ite e (.cons (.ret (.cst (.bool false))) .nil) .nil
theorem k2 : ckS lawN gcN nm lsc (.set 3 (.sh e3)) (bs 2) = true := by decide +kernel
theorem k4 : ckS lawN gcN nm lsc (.set 6 (.sh e5)) (bs 4) = true := by decide +kernel
theorem k5 : ckS lawN gcN nm lsc (sF e6) (bs 5) = true := by decide +kernel
theorem k7 : ckS lawN gcN nm lsc (.set 9 (.sh e8)) (bs 7) = true := by decide +kernel
theorem k8 : ckS lawN gcN nm lsc (sF e9) (bs 8) = true := by decide +kernel
theorem kz : cks lawN gcN nm lsc sEnd [bs 10, bs 11, bs 12, bs 13] = true := by decide +kernel
theorem n2 : noComp (bs 2) = true := by decide +kernel
theorem n4 : noComp (bs 4) = true := by decide +kernel
theorem n7 : noComp (bs 7) = true := by decide +kernel
abbrev tsOf (s : Stmt) : List Expr := ((dAsg s).bind fun p => dTup p.1).getD []
abbrev vsOf (s : Stmt) : List Expr := ((dAsg s).bind fun p => dTup p.2).getD []
theorem sw3 : swK lsc (tsOf (bs 3)) (vsOf (bs 3)) = some false := by decide +kernel
theorem sw6 : swK lsc (tsOf (bs 6)) (vsOf (bs 6)) = some false := by decide +kernel
/-- a tuple, known to the object -/
def tTupF (t : TA) : TE := fun σ H Q => t σ H fun xs H1 => xs.length ≤ sizeLine ∧ QT H1 xs Q
theorem pe_tupF {X : Cx} {es : List Expr} {t : TA} {k : Nat} {pos : Pos} (h : PA X es t) : PE X (.Tuple es k pos) (tTupF t) := by
  refine ⟨fun pins s σ H Q I hq => ?_⟩
  exact wpAny_Tuple_spliced (thn (h.run pos pins s σ H _ I hq) fun us s1 ⟨xs, H1, I1, r, z, q⟩ => ⟨by rw [← r.length]; exact z, endT I1 r z q⟩)
section
variable {P : Program} {w : World} {K : PySem.W.Frag} {mg : Str → Option Value} {base : Heap} {f : Addr}
abbrev LX (P : Program) (w : World) (K : PySem.W.Frag) (mg : Str → Option Value) (base : Heap) (f : Addr) (cdv : Value) (A : Around) (outer : List PySem.Env) (s : Shared) (H0 : Hp) (E : XK) : Cx := (cxOf L2.CX0 P w K mg base lawN "law" lsc f cdv A outer s H0 E).nox
variable {cdv : Value} {A : Around} {outer : List PySem.Env} {s : Shared} {H0 H : Hp} {E : XK} {σ : L2.St} {D : Ends} {c l : Addr} {env : Env}
theorem s0 {fC : Addr} {fdC : FuncData} (hr : Room 8 (LX P w K mg base f cdv A outer s H0 E).A) (FC : L2.Fun K "_law_cup" "_law_cup" (topS 105) fC fdC) (hC : mg "_law_cup" = some (.ref fC)) (bC : Binds K fdC ["_law_script"] []) (mI : mg "int" = none) (mA : mg "abs" = none) (mL : mg "list" = none)
    {ns : List Int} (h0 : σ[0]? = some (some (.ref l))) (hl : SqL K H l (ns.map V.int)) (hz : ns.length ≤ 1000) (q : ∀ p H', Same H H' → CupOk H' p → D.nx (σ.set 1 (some (.ref p))) H') : wS (LX P w K mg base f cdv A outer s H0 E) (bs 0) D σ H := by
  refine wS_of (ps_set (i := 1) scLaw.nd rfl (by first | exact Or.inl rfl | exact Or.inr rfl) (pe_call (ok_cup FC mI mA mL) (hr.mono (by decide)) rfl hC FC.kp bC .nil pass0 (pa_cons (pv 0) pa_nil))) ?_
  simp only [tAsg, gName, tCall, tCons, tVar, tNil]
  exact ⟨.ref l, h0, l, ns, rfl, hl, hz, fun H' p e hp hc => q p H' e hc⟩
variable {fR fS : Addr} {fdR fdS : FuncData}
theorem s1 (hr : Room 8 (LX P w K mg base f cdv A outer s H0 E).A) (FR : L2.Fun K "_law_roll" "_law_roll" (topS 106) fR fdR) (hR : mg "_law_roll" = some (.ref fR)) (bR : Binds K fdR ["_law_cup_here", "_law_many"] []) (mI : mg "int" = none)
    (L : LS (LX P w K mg base f cdv A outer s H0 E) c env σ H) (q : ∀ (n : Int) H', n = 2 ∨ n = 3 → LS (LX P w K mg base f cdv A outer s H0 E) c (env.put 2 (.sh (.int n))) (σ.set 2 (some (.int n))) H' → D.nx (σ.set 2 (some (.int n))) H') : wS (LX P w K mg base f cdv A outer s H0 E) (bs 1) D σ H := by
  refine wS_of (ps_set (i := 2) scLaw.nd rfl (by first | exact Or.inl rfl | exact Or.inr rfl) (pe_op op_add pe_int (pe_call (ok_roll FR mI) (hr.mono (by decide)) rfl hR FR.kp bR .nil pass0 (pa_cons (pv 1) (pa_cons pe_int pa_nil))))) ?_
  simp only [tAsg, gName, tOp, tC, tCall, tCons, tVar, tNil]
  refine ⟨.ref c, L.at1, c, 2, rfl, by decide, by decide, L.cup, fun r H' sc r0 r1 => ⟨2, r, rfl, rfl, ?_⟩⟩
  exact q (2 + r) H' (by omega) ((L.sc sc).put (by decide) (.int _))
theorem s3 (hr : Room 8 (LX P w K mg base f cdv A outer s H0 E).A) (FR : L2.Fun K "_law_roll" "_law_roll" (topS 106) fR fdR) (hR : mg "_law_roll" = some (.ref fR)) (bR : Binds K fdR ["_law_cup_here", "_law_many"] []) (FS : L2.Fun K "_law_some" "_law_some" (topS 107) fS fdS) (hS : mg "_law_some" = some (.ref fS)) (bS : Binds K fdS ["_law_cup_here", "_law_things"] [])
    (mI : mg "int" = none) (mL : mg "len" = none) (calm : (LX P w K mg base f cdv A outer s H0 E).calm = true) (L : LS (LX P w K mg base f cdv A outer s H0 E) c env σ H) {ds : List Sq.D} (he : env.at 3 = .sh (.list ds)) (h0 : 0 < ds.length) (h1 : ds.length < 1000000)
    (q : ∀ (a b : Sq.D) v u H', a ∈ ds → b ∈ ds → LS (LX P w K mg base f cdv A outer s H0 E) c ((env.put 4 (.sh a)).put 5 (.sh b)) ((σ.set 4 (some v)).set 5 (some u)) H' → D.nx ((σ.set 4 (some v)).set 5 (some u)) H') : wS (LX P w K mg base f cdv A outer s H0 E) (bs 3) D σ H := by
  have call : ∀ {p1 p2 p3 p4 : Pos}, PE (LX P w K mg base f cdv A outer s H0 E) (.Call (.Name "_law_some" p1) [.Name "_law_cup_here" p2, .Name "_law_every" p3] [] p4) (tCall (spSome K) [] E0 (tCons (tVar 1) (tCons (tVar 3) tNil))) := fun {p1 p2 p3 p4} =>
    pe_call (ok_some FS FR hR bR mI mL) (hr.mono (by decide)) rfl hS FS.kp bS .nil pass0 (pa_cons (pv 1) (pa_cons (pv 3) pa_nil))
  refine wS_of (ps_asg (pe_tup (pa_cons call (pa_cons call pa_nil))) (pg_tup calm (pgs_cons (pg_name (i := 4) scLaw.nd rfl (by first | exact Or.inl rfl | exact Or.inr rfl)) (pgs_cons (pg_name (i := 5) scLaw.nd rfl (by first | exact Or.inl rfl | exact Or.inr rfl)) pgs_nil))) rfl (sw_false sw3)) ?_
  obtain ⟨v3, e3, r3⟩ := L.E.get he
  cases r3 with
  | lst ht rl =>
  rename_i t xs
  have lx := rl.length
  have ne : c ≠ t := fun e => (hide_some ht).2 (by rw [e]; exact List.mem_singleton.mpr rfl)
  simp only [tAsg, tTup, gTup, gCons, gNil, gName, tCall, tCons, tVar, tNil]
  refine ⟨.ref c, L.at1, .ref t, e3, c, t, xs, rfl, L.cup, ne, (hide_some ht).1, by omega, by omega, fun r1 x1 H1 sc1 e1 => ?_⟩
  have L1 := L.sc sc1
  refine ⟨.ref c, L.at1, .ref t, e3, c, t, xs, rfl, L1.cup, ne, sc1.off t _ (fun z => ne z.symm) (hide_some ht).1, by omega, by omega, fun r2 x2 H2 sc2 e2 => ?_⟩
  have L2' := L1.sc sc2
  refine ⟨by rw [sizeLine_eq]; show 2 ≤ 16777216; decide, fun p hp => ?_⟩
  have sm := same_new (o := .tup [x1, x2]) hp
  have L3 := L2'.same sm
  have look : ∀ {r : Nat} {x : V}, xs[r]? = some x → ∃ d, d ∈ ds ∧ Rep P w (hide [c] (upd H2 p (.tup [x1, x2]))) d x := fun {r x} e => by
    obtain ⟨hi, _⟩ := List.getElem?_eq_some_iff.mp e
    have hd : r < ds.length := by omega
    obtain ⟨v, q1, q2⟩ := rl.get (List.getElem?_eq_getElem hd)
    rw [e] at q1
    cases q1
    exact ⟨_, List.getElem_mem hd, q2.mono ((sc1.vis.trans sc2.vis).trans (same_hide sm))⟩
  obtain ⟨a, ha, ra⟩ := look e1
  obtain ⟨b, hb, rb⟩ := look e2
  exact ⟨p, [x1, x2], rfl, .inl (.inl upd_same), rfl, x1, [x2], rfl, x2, [], rfl, rfl, q a b x1 x2 _ ha hb ((L3.put (by decide) ra).put (by decide) rb)⟩
theorem s6 (hr : Room 8 (LX P w K mg base f cdv A outer s H0 E).A) (FR : L2.Fun K "_law_roll" "_law_roll" (topS 106) fR fdR) (hR : mg "_law_roll" = some (.ref fR)) (bR : Binds K fdR ["_law_cup_here", "_law_many"] []) (mI : mg "int" = none) (calm : (LX P w K mg base f cdv A outer s H0 E).calm = true)
    (L : LS (LX P w K mg base f cdv A outer s H0 E) c env σ H) {n : Int} (he : env.at 2 = .sh (.int n)) (h0 : 0 < n) (h1 : n < 1000000)
    (q : ∀ (r k : Int) H', 0 ≤ r → r < n → 0 ≤ k → k < n → LS (LX P w K mg base f cdv A outer s H0 E) c ((env.put 7 (.sh (.int r))).put 8 (.sh (.int k))) ((σ.set 7 (some (.int r))).set 8 (some (.int k))) H' → D.nx ((σ.set 7 (some (.int r))).set 8 (some (.int k))) H') : wS (LX P w K mg base f cdv A outer s H0 E) (bs 6) D σ H := by
  have call : ∀ {p1 p2 p3 p4 : Pos}, PE (LX P w K mg base f cdv A outer s H0 E) (.Call (.Name "_law_roll" p1) [.Name "_law_cup_here" p2, .Name "_law_sides" p3] [] p4) (tCall spRoll [] E0 (tCons (tVar 1) (tCons (tVar 2) tNil))) := fun {p1 p2 p3 p4} =>
    pe_call (ok_roll FR mI) (hr.mono (by decide)) rfl hR FR.kp bR .nil pass0 (pa_cons (pv 1) (pa_cons (pv 2) pa_nil))
  refine wS_of (ps_asg (pe_tup (pa_cons call (pa_cons call pa_nil))) (pg_tup calm (pgs_cons (pg_name (i := 7) scLaw.nd rfl (by first | exact Or.inl rfl | exact Or.inr rfl)) (pgs_cons (pg_name (i := 8) scLaw.nd rfl (by first | exact Or.inl rfl | exact Or.inr rfl)) pgs_nil))) rfl (sw_false sw6)) ?_
  obtain ⟨v2, e2, r2⟩ := L.E.get he
  cases r2
  simp only [tAsg, tTup, gTup, gCons, gNil, gName, tCall, tCons, tVar, tNil]
  refine ⟨.ref c, L.at1, .int n, e2, c, n, rfl, h0, h1, L.cup, fun r H1 sc1 r0 r1 => ?_⟩
  have L1 := L.sc sc1
  refine ⟨.ref c, L.at1, .int n, e2, c, n, rfl, h0, h1, L1.cup, fun k H2 sc2 k0 k1 => ?_⟩
  have L2' := L1.sc sc2
  refine ⟨by rw [sizeLine_eq]; show 2 ≤ 16777216; decide, fun p hp => ?_⟩
  have L3 := L2'.same (same_new (o := .tup [.int r, .int k]) hp)
  exact ⟨p, _, rfl, .inl (.inl upd_same), rfl, _, _, rfl, _, [], rfl, rfl, q r k _ r0 r1 k0 k1 ((L3.put (by decide) (.int r)).put (by decide) (.int k))⟩
theorem s9 (C : SCtx 8 gcN nm gcv (evF gcv tab 8) (LX P w K mg base f cdv A outer s H0 E)) (FR : L2.Fun K "_law_roll" "_law_roll" (topS 106) fR fdR) (hR : mg "_law_roll" = some (.ref fR)) (bR : Binds K fdR ["_law_cup_here", "_law_many"] []) (mI : mg "int" = none)
    (L : LS (LX P w K mg base f cdv A outer s H0 E) c env σ H) {n : Int} {ev1 one : Sq.D} (h2 : env.at 2 = .sh (.int n)) (h3 : env.at 3 = .sh ev1) (h4 : env.at 4 = .sh one) (n0 : 1 < n) (n1 : n < 1000000)
    (ok : ∀ r k : Int, 1 ≤ r → r < n → 1 ≤ k → k < n → evF gcv tab 8 84 [ev1, one, .tuple [.int r, .int k]] = some (.bool true))
    (q : ∀ H', LS (LX P w K mg base f cdv A outer s H0 E) c env σ H' → D.nx σ H') : wS (LX P w K mg base f cdv A outer s H0 E) (bs 9) D σ H := by
  have call : ∀ {p1 p2 p3 p4 p5 p6 p7 p8 : Pos} {k1 k2 : Nat}, PE (LX P w K mg base f cdv A outer s H0 E) (.BinOp (.Constant (.int 1) k1 p5) .Add (.Call (.Name "_law_roll" p1) [.Name "_law_cup_here" p2, .BinOp (.Name "_law_sides" p3) .Sub (.Constant (.int 1) k2 p6) p7] [] p4) p8) (tOp (rI0 fun i j => .int (i + j)) (tC (.int 1)) (tCall spRoll [] E0 (tCons (tVar 1) (tCons (tOp (rI0 fun i j => .int (i - j)) (tVar 2) (tC (.int 1))) tNil)))) := fun {p1 p2 p3 p4 p5 p6 p7 p8 k1 k2} =>
    pe_op op_add pe_int (pe_call (ok_roll FR mI) (C.room.mono (by decide)) rfl hR FR.kp bR .nil pass0 (pa_cons (pv 1) (pa_cons (pe_op op_sub (pv 2) pe_int) pa_nil)))
  obtain ⟨m, hm, cal⟩ := C.fn 84 "_law_bounds_right" (by rfl)
  refine wS_of (ps_if (pt_not (pt_val (C8.pe_c cal C.room hm rfl (pa_cons (pv 3) (pa_cons (pv 4) (pa_cons (pe_tupF (pa_cons call (pa_cons call pa_nil))) pa_nil)))))) wSs_ok (pss_nil)) ?_
  obtain ⟨v2, e2, r2⟩ := L.E.get h2
  cases r2
  obtain ⟨v3, e3, r3⟩ := L.E.get h3
  obtain ⟨v4, e4, r4⟩ := L.E.get h4
  simp only [tIfS, tNot, tB, tTupF, tOp, tC, tCall, tCons, tVar, tNil, tNext]
  refine ⟨v3, e3, v4, e4, .ref c, L.at1, .int n, e2, n, 1, rfl, rfl, c, n - 1, rfl, by omega, by omega, L.cup, fun r H1 sc1 r0 r1 => ⟨1, r, rfl, rfl, ?_⟩⟩
  have L1 := L.sc sc1
  refine ⟨.ref c, L.at1, .int n, e2, n, 1, rfl, rfl, c, n - 1, rfl, by omega, by omega, L1.cup, fun k H2 sc2 k0 k1 => ⟨1, k, rfl, rfl, ?_⟩⟩
  have L2' := L1.sc sc2
  refine ⟨by rw [sizeLine_eq]; show 2 ≤ 16777216; decide, fun p o hp ho => ?_⟩
  have sm := same_new (o := .frz o (.tup [.int (1 + r), .int (1 + k)])) hp
  have L3 := L2'.same sm
  have vis := (sc1.vis.trans sc2.vis).trans (same_hide (O := [c]) sm)
  have hpc : p ∉ [c] := L2'.E.trk.new hp
  refine ⟨[ev1, one, .tuple [.int (1 + r), .int (1 + k)]], .bool true, [c], .cons (r3.mono vis) (.cons (r4.mono vis) (.cons (.tup (hide_of upd_same hpc) ho (.cons (.int _) (.cons (.int _) .nil))) .nil)), L3.E.trk, ok (1 + r) (1 + k) (by omega) (by omega) (by omega) (by omega), fun v H' e3 rv => ?_⟩
  cases rv
  exact ⟨true, rfl, q H' (L3.same e3)⟩
end
end Sq.Law
end

section
set_option Elab.async false
set_option linter.all false
set_option maxRecDepth 100000
set_option maxHeartbeats 8000000
/-! the law's body, joined -/
namespace Sq.Law
open PySem L2 PyProof.Rows Sq

def spLaw (K : PySem.W.Frag) : Sp := fun vs H Q _ => ∃ (l : Addr) (ns : List Int), vs = [.ref l] ∧ SqL K H l (ns.map V.int) ∧ ns.length ≤ 1000 ∧ ∀ H', Q (.bl true) H'
theorem up {e : E} {env : Env} {d : Sq.D} (h : ev gcv clJ e env = some d) : ev gcv (evF gcv tab 8) e env = some d := ev_mono clJ_ok e env d h
theorem ev3 {n : Int} (hn : n = 2 ∨ n = 3) : ev gcv clJ e3 (envA n) = some (.list (evs n)) := by
  have e : ev gcv clJ e3 (envA n) = clJ 78 [.int n] := by
    unfold e3
    rw [ev, evL, ev]
    rfl
  rw [e]
  rcases hn with rfl | rfl
  · exact h2
  · exact h3
theorem evs_len {n : Int} (hn : n = 2 ∨ n = 3) : 0 < (evs n).length ∧ (evs n).length < 1000000 := by
  rcases hn with rfl | rfl
  · rw [len2]; decide
  · rw [len3]; decide
theorem isF_eq {o : Option Sq.D} (h : isF o = true) : o = some (.bool false) := by
  unfold isF at h
  split at h
  · rfl
  · cases h
theorem isT_eq {o : Option Sq.D} (h : isT o = true) : o = some (.bool true) := by
  unfold isT at h
  split at h
  · rfl
  · cases h
theorem okP_at {n : Int} {a b : Sq.D} (hn : n = 2 ∨ n = 3) (ha : a ∈ evs n) (hb : b ∈ evs n) : ∃ x, ev gcv clJ e5 (envC n a b) = some x ∧ ev gcv clJ e6 (envD n a b x) = some (.bool false) := by
  have h : okP n a b = true := by
    rcases hn with rfl | rfl
    · exact List.all_eq_true.mp (List.all_eq_true.mp p2 a ha) b hb
    · exact List.all_eq_true.mp (List.all_eq_true.mp p3 a ha) b hb
  unfold okP at h
  split at h
  · next x e => exact ⟨x, e, isF_eq h⟩
  · cases h
theorem okC_at {n : Int} {a : Sq.D} {r k : Int} (hn : n = 2 ∨ n = 3) (ha : a ∈ evs n) (r0 : 0 ≤ r) (r1 : r < n) (k0 : 0 ≤ k) (k1 : k < n) : ∃ x, ev gcv clJ e8 (envG n a r k) = some x ∧ ev gcv clJ e9 (envI n a r k x) = some (.bool false) := by
  have h : okC n a r k = true := by
    rcases hn with rfl | rfl
    · have q := List.all_eq_true.mp c2 a ha
      simp only [Bool.and_eq_true] at q
      obtain ⟨⟨⟨q1, q2⟩, q3⟩, q4⟩ := q
      have hr : r = 0 ∨ r = 1 := by omega
      have hk : k = 0 ∨ k = 1 := by omega
      rcases hr with rfl | rfl <;> rcases hk with rfl | rfl
      · exact q1
      · exact q2
      · exact q3
      · exact q4
    · have q := List.all_eq_true.mp c3 a ha
      simp only [Bool.and_eq_true] at q
      obtain ⟨⟨⟨⟨⟨⟨⟨⟨q1, q2⟩, q3⟩, q4⟩, q5⟩, q6⟩, q7⟩, q8⟩, q9⟩ := q
      have hr : r = 0 ∨ r = 1 ∨ r = 2 := by omega
      have hk : k = 0 ∨ k = 1 ∨ k = 2 := by omega
      rcases hr with rfl | rfl | rfl <;> rcases hk with rfl | rfl | rfl
      · exact q1
      · exact q2
      · exact q3
      · exact q4
      · exact q5
      · exact q6
      · exact q7
      · exact q8
      · exact q9
  unfold okC at h
  split at h
  · next x e => exact ⟨x, e, isF_eq h⟩
  · cases h
theorem okB_at {n : Int} {a : Sq.D} {r k : Int} (hn : n = 2 ∨ n = 3) (ha : a ∈ evs n) (r0 : 1 ≤ r) (r1 : r < n) (k0 : 1 ≤ k) (k1 : k < n) : evF gcv tab 8 84 [.list (evs n), a, .tuple [.int r, .int k]] = some (.bool true) := by
  have h : okB n a r k = true := by
    rcases hn with rfl | rfl
    · have q := List.all_eq_true.mp b2 a ha
      obtain rfl : r = 1 := by omega
      obtain rfl : k = 1 := by omega
      exact q
    · have q := List.all_eq_true.mp b3 a ha
      simp only [Bool.and_eq_true] at q
      obtain ⟨⟨⟨q1, q2⟩, q3⟩, q4⟩ := q
      have hr : r = 1 ∨ r = 2 := by omega
      have hk : k = 1 ∨ k = 2 := by omega
      rcases hr with rfl | rfl <;> rcases hk with rfl | rfl
      · exact q1
      · exact q2
      · exact q3
      · exact q4
  exact clJ_ok _ _ _ (isT_eq h)
theorem okZ_at : exs gcv clJ sEnd envZ = some (.rt (.bool true)) := by
  have h := z
  unfold okZ at h
  split at h
  · next e => exact e
  · cases h
theorem envZ_at (i : Nat) : envZ.at i = .no := by
  match i with
  | 0 => rfl
  | 1 => rfl
  | 2 => rfl
  | 3 => rfl
  | 4 => rfl
  | 5 => rfl
  | 6 => rfl
  | 7 => rfl
  | 8 => rfl
  | 9 => rfl
  | 10 => rfl
  | 11 => rfl
  | 12 => rfl
  | i + 13 => rfl
theorem dbg_law : ∀ x, x ∈ lawN → (x == ("__debug__" : Str)) = false ∧ (x == ("__classdict__" : Str)) = false := by decide +kernel
section
variable {P : Program} {w : World} {K : PySem.W.Frag} {mg : Str → Option Value} {base : Heap} {f fC fR fS : Addr} {fd fdC fdR fdS : FuncData}
theorem ok_law (FF : Facts K mg gcN nm gcv tab slN tpN) (F : L2.Fun K "law" "law" (topS at_) f fd)
    (FC : L2.Fun K "_law_cup" "_law_cup" (topS 105) fC fdC) (hC : mg "_law_cup" = some (.ref fC)) (bC : Binds K fdC ["_law_script"] [])
    (FR : L2.Fun K "_law_roll" "_law_roll" (topS 106) fR fdR) (hR : mg "_law_roll" = some (.ref fR)) (bR : Binds K fdR ["_law_cup_here", "_law_many"] [])
    (FS : L2.Fun K "_law_some" "_law_some" (topS 107) fS fdS) (hS : mg "_law_some" = some (.ref fS)) (bS : Binds K fdS ["_law_cup_here", "_law_things"] []) :
    FnOk P w K mg base L2.CX0 9 f fd ["_law_script"] (spLaw K) := by
  refine F.ok scLaw (fun vs H Q E h => ?_) (fun cdv A outer s H vs Q E hr h => ?_)
  · obtain ⟨l, ns, rfl, _⟩ := h
    rfl
  obtain ⟨l, ns, rfl, hl, hz, q⟩ := h
  refine ⟨wSs _ (defBody (topS at_)), wSs_ok, ?_⟩
  have C : SCtx 8 gcN nm gcv (evF gcv tab 8) (LX P w K mg base f cdv A outer s H E) := {
    nd := scLaw.nd
    calm := rfl
    st := fun _ _ _ => rfl
    room := hr
    bi := FF.bi
    con := FF.con
    fn := fun g2 x2 h2 => ⟨8, Nat.le_refl 8, cal_all FF 8 g2 x2 h2⟩
    dbg := dbg_law
    kind := scLaw.kind
    po := PassesOwn.never }
  have mI : mg "int" = none := FF.bi "int" (by decide)
  have mA : mg "abs" = none := FF.bi "abs" (by decide)
  have mL : mg "list" = none := FF.bi "list" (by decide)
  have mN : mg "len" = none := FF.bi "len" (by decide)
  rw [body_eq]
  refine l_cons (s0 C.room FC hC bC mI mA mL (start_at 0 _ rfl) hl hz fun c H1 e1 cup => ?_)
  have L0 : LS (LX P w K mg base f cdv A outer s H E) c envZ ((L2.start lawN [.ref l]).set 1 (some (.ref c))) H1 := {
    E := {
      cells := fun i => by
        rw [envZ_at]
        trivial
      dist := fun i j p _ hi _ _ _ => by
        rw [envZ_at] at hi
        exact hi
      len := by rfl
      trk := cup_trk cup }
    no := fun i => by
      rw [envZ_at]
      exact fun z => z
    at1 := List.getElem?_set_self (show 1 < 13 by decide)
    cup := cup }
  refine l_cons (s1 C.room FR hR bR mI L0 fun n H2 hn L1 => ?_)
  replace L1 : LS (LX P w K mg base f cdv A outer s H E) c (envA n) _ _ := L1
  refine l_cons (l_set C k2 n2 (by decide) L1 (up (ev3 hn)) fun v3 H3 L2 => ?_)
  replace L2 : LS (LX P w K mg base f cdv A outer s H E) c (envB n) _ _ := L2
  refine l_cons (s3 C.room FR hR bR FS hS bS mI mN rfl L2 (ds := evs n) rfl (evs_len hn).1 (evs_len hn).2 fun a b v u H4 ha hb L3 => ?_)
  replace L3 : LS (LX P w K mg base f cdv A outer s H E) c (envC n a b) _ _ := L3
  obtain ⟨x, x1, x2⟩ := okP_at hn ha hb
  refine l_cons (l_set C k4 n4 (by decide) L3 (up x1) fun v5 H5 L4 => ?_)
  replace L4 : LS (LX P w K mg base f cdv A outer s H E) c (envD n a b x) _ _ := L4
  refine l_cons (l_if C k5 L4 (up x2) fun H6 L5 => ?_)
  replace L5 : LS (LX P w K mg base f cdv A outer s H E) c (envE n a) _ _ := (L5.drop 5).drop 6
  refine l_cons (s6 C.room FR hR bR mI rfl L5 (n := n) rfl (by omega) (by omega) fun r k H7 r0 r1 k0 k1 L6 => ?_)
  replace L6 : LS (LX P w K mg base f cdv A outer s H E) c (envG n a r k) _ _ := L6
  obtain ⟨y, y1, y2⟩ := okC_at hn ha r0 r1 k0 k1
  refine l_cons (l_set C k7 n7 (by decide) L6 (up y1) fun v8 H8 L7 => ?_)
  replace L7 : LS (LX P w K mg base f cdv A outer s H E) c (envI n a r k y) _ _ := L7
  refine l_cons (l_if C k8 L7 (up y2) fun H9 L8 => ?_)
  refine l_cons (s9 C FR hR bR mI L8 (n := n) (ev1 := .list (evs n)) (one := a) rfl rfl rfl (by omega) (by omega) (fun r k a1 a2 a3 a4 => okB_at hn ha a1 a2 a3 a4) fun H10 L9 => ?_)
  have Lz : LS (LX P w K mg base f cdv A outer s H E) c envZ _ _ := (((((L9.drop 2).drop 3).drop 4).drop 7).drop 8).drop 9
  exact l_end C kz Lz (exs_mono clJ_ok _ _ _ okZ_at) fun v H' r => by
    cases r
    exact q H'
end
end Sq.Law
end

section
set_option Elab.async false
set_option linter.all false
set_option maxRecDepth 100000
set_option maxHeartbeats 0
/-! the head: its data -/
namespace Sq.Law
open PySem PySem.Spec PyProof.Rows L2
def lo0 : List Str := ["__name__", "SignError", "InvalidSquare", "InvalidSides", "InvalidOrder", "InvalidNumber", "InvalidPoint", "InvalidFacts", "InvalidBounds", "Unlike", "TooMany", "SIDES", "is_whole", "turns_well", "fits_line", "columns_of", "fits_square", "fits_order", "square_of", "order_of", "need_square", "need_sides", "need_order", "need_two", "need_few", "order_square", "unit_square", "heights_of", "square_from", "fits_table"]
def lo1 : List Str := ["fits_heights", "neighbours_of", "points_by", "with_height", "heights", "BOUNDS", "FAR_bounded", "fit_bounds", "need_bounds", "floor_at", "ceiling_at", "lifted", "pressed", "bound_steps", "low_table", "high_table", "too_high", "too_low", "clash_of", "need_both_bounds", "least_above", "greatest_under", "bounds_go", "BETWEEN", "paper_by", "by_points", "ups_within", "layers_between", "is_below", "meet"]
def lo2 : List Str := ["join", "squares_between", "key_table", "tops_at", "key_with", "lines_behind", "FACTS", "WIDE", "SHOWN", "FAR_factlists", "fits_fact", "fit_facts", "need_facts", "line_goes", "state_goes", "told_web", "told_counts", "told_many", "told_at", "told_list", "does_go", "need_told", "count_told", "first_told", "last_told", "squares_told", "SURE", "living_lines", "living_sums", "sure_in"]
def lo3 : List Str := ["extremes_of", "square_if", "sure_cells", "height_bounds", "least_told", "greatest_told", "_law_cup", "_law_roll", "_law_some", "_law_rows", "_law_more", "_law_all", "_law_heights", "_law_below", "_law_facts", "_law_ends", "_law_told_right", "_law_bounds_right"]
def loose : List Str := lo0 ++ lo1 ++ lo2 ++ lo3
def allN (g : Nat) : Str := Str.ofString (if g < 85 then (nmL[g]?).getD "" else if g = 85 then "_law_cup" else if g = 86 then "_law_roll" else if g = 87 then "_law_some" else "law")
def allP (g : Nat) : Stmt := topS (if g < 85 then atL.getD g 0 else if g = 85 then 105 else if g = 86 then 106 else if g = 87 then 107 else 117)
def mkD (g : Nat) : He.DefD := ⟨(allN g, none), allN g, allN g, defArgs (allP g), defBody (allP g), defScope (allP g), [], []⟩
def fn : List He.DefD := (List.range 89).map mkD
def fa : List He.Fa := (List.range 89).map (fun g => .glo (allN g)) ++ biL.map (fun b => .free (Str.ofString b)) ++ gcL.map (fun p => .int (Str.ofString p.1) p.2)
abbrev R : PySem.W.OpenRow := PySem.W.OpenLaw.row PySem.Challenge.rw_signsquared_k81_whole_told_squares_and_b
/-- what the head is asked: the module's names, each def and its code -/
def asP (g : Addr → Option Obj) : List Addr := match g mainGlobals with
  | some o => mainGlobals :: (He.refsO o).flatMap fun a => a :: (match g a with
    | some o => (match o.data with
      | .func fd => He.refV fd.code
      | _ => [])
    | none => [])
  | none => []
def hk : PySem.W.Hook where
  α := He.AlD
  obs := fun s => He.obsD fa fn (He.frG s.heap.get? (asP s.heap.get?))
  val := fun _ => He.valD fn
  says := fun _ h => ∃ K : PySem.W.Frag, K.In h ∧ He.SaysD fa fn K
  of := fun _ _ e => ⟨_, He.frG_in, e⟩
  keeps := fun _ _ _ ⟨K, hK, c⟩ k => ⟨K, PySem.W.Frag.In.keeps hK k, c⟩
end Sq.Law
end

section
set_option Elab.async false
set_option linter.all false
set_option maxRecDepth 100000
set_option maxHeartbeats 4000000
/-! the head: its facts -/
namespace Sq.Law
open PySem PySem.Spec PyProof.Rows L2 Sq
section
variable {K : PySem.W.Frag} {x q : Str} {f : Addr} {fd : FuncData}
theorem b_0 (F : L2.Fun K x q (allP 0) f fd) : Binds K fd ["value", "low", "high"] [] := F.binds fun _ _ _ _ _ _ us hl => match us, hl with | [_, _, _], _ => rfl
theorem b_1 (F : L2.Fun K x q (allP 1) f fd) : Binds K fd ["line"] [] := F.binds fun _ _ _ _ _ _ us hl => match us, hl with | [_], _ => rfl
theorem b_2 (F : L2.Fun K x q (allP 2) f fd) : Binds K fd ["value", "sides"] [] := F.binds fun _ _ _ _ _ _ us hl => match us, hl with | [_, _], _ => rfl
theorem b_3 (F : L2.Fun K x q (allP 3) f fd) : Binds K fd ["square"] [] := F.binds fun _ _ _ _ _ _ us hl => match us, hl with | [_], _ => rfl
theorem b_4 (F : L2.Fun K x q (allP 4) f fd) : Binds K fd ["value"] [] := F.binds fun _ _ _ _ _ _ us hl => match us, hl with | [_], _ => rfl
theorem b_5 (F : L2.Fun K x q (allP 5) f fd) : Binds K fd ["value"] [] := F.binds fun _ _ _ _ _ _ us hl => match us, hl with | [_], _ => rfl
theorem b_6 (F : L2.Fun K x q (allP 6) f fd) : Binds K fd ["order"] [] := F.binds fun _ _ _ _ _ _ us hl => match us, hl with | [_], _ => rfl
theorem b_7 (F : L2.Fun K x q (allP 7) f fd) : Binds K fd ["square"] [] := F.binds fun _ _ _ _ _ _ us hl => match us, hl with | [_], _ => rfl
theorem b_8 (F : L2.Fun K x q (allP 8) f fd) : Binds K fd ["value"] [] := F.binds fun _ _ _ _ _ _ us hl => match us, hl with | [_], _ => rfl
theorem b_9 (F : L2.Fun K x q (allP 9) f fd) : Binds K fd ["value"] [] := F.binds fun _ _ _ _ _ _ us hl => match us, hl with | [_], _ => rfl
theorem b_10 (F : L2.Fun K x q (allP 10) f fd) : Binds K fd ["value"] [] := F.binds fun _ _ _ _ _ _ us hl => match us, hl with | [_], _ => rfl
theorem b_11 (F : L2.Fun K x q (allP 11) f fd) : Binds K fd ["one", "other"] [] := F.binds fun _ _ _ _ _ _ us hl => match us, hl with | [_, _], _ => rfl
theorem b_12 (F : L2.Fun K x q (allP 12) f fd) : Binds K fd ["many", "limit"] [] := F.binds fun _ _ _ _ _ _ us hl => match us, hl with | [_, _], _ => rfl
theorem b_13 (F : L2.Fun K x q (allP 13) f fd) : Binds K fd ["order"] [] := F.binds fun _ _ _ _ _ _ us hl => match us, hl with | [_], _ => rfl
theorem b_14 (F : L2.Fun K x q (allP 14) f fd) : Binds K fd ["sides"] [] := F.binds fun _ _ _ _ _ _ us hl => match us, hl with | [_], _ => rfl
theorem b_15 (F : L2.Fun K x q (allP 15) f fd) : Binds K fd ["square"] [] := F.binds fun _ _ _ _ _ _ us hl => match us, hl with | [_], _ => rfl
theorem b_16 (F : L2.Fun K x q (allP 16) f fd) : Binds K fd ["table"] [] := F.binds fun _ _ _ _ _ _ us hl => match us, hl with | [_], _ => rfl
theorem b_17 (F : L2.Fun K x q (allP 17) f fd) : Binds K fd ["value"] [] := F.binds fun _ _ _ _ _ _ us hl => match us, hl with | [_], _ => rfl
theorem b_18 (F : L2.Fun K x q (allP 18) f fd) : Binds K fd ["value"] [] := F.binds fun _ _ _ _ _ _ us hl => match us, hl with | [_], _ => rfl
theorem b_19 (F : L2.Fun K x q (allP 19) f fd) : Binds K fd ["table", "row", "column"] [] := F.binds fun _ _ _ _ _ _ us hl => match us, hl with | [_, _, _], _ => rfl
theorem b_20 (F : L2.Fun K x q (allP 20) f fd) : Binds K fd ["table", "step"] [] := F.binds fun _ _ _ _ _ _ us hl => match us, hl with | [_, _], _ => rfl
theorem b_21 (F : L2.Fun K x q (allP 21) f fd) : Binds K fd ["table", "point", "step"] [] := F.binds fun _ _ _ _ _ _ us hl => match us, hl with | [_, _, _], _ => rfl
theorem b_22 (F : L2.Fun K x q (allP 22) f fd) : Binds K fd ["square"] [] := F.binds fun _ _ _ _ _ _ us hl => match us, hl with | [_], _ => rfl
theorem b_23 (F : L2.Fun K x q (allP 23) f fd) : Binds K fd ["sides", "value"] [] := F.binds fun _ _ _ _ _ _ us hl => match us, hl with | [_, _], _ => rfl
theorem b_24 (F : L2.Fun K x q (allP 24) f fd) : Binds K fd ["sides", "value"] [] := F.binds fun _ _ _ _ _ _ us hl => match us, hl with | [_, _], _ => rfl
theorem b_25 (F : L2.Fun K x q (allP 25) f fd) : Binds K fd ["row", "column"] [] := F.binds fun _ _ _ _ _ _ us hl => match us, hl with | [_, _], _ => rfl
theorem b_26 (F : L2.Fun K x q (allP 26) f fd) : Binds K fd ["sides", "row", "column"] [] := F.binds fun _ _ _ _ _ _ us hl => match us, hl with | [_, _, _], _ => rfl
theorem b_27 (F : L2.Fun K x q (allP 27) f fd) : Binds K fd ["bound"] [] := F.binds fun _ _ _ _ _ _ us hl => match us, hl with | [_], _ => rfl
theorem b_28 (F : L2.Fun K x q (allP 28) f fd) : Binds K fd ["sides", "bound"] [] := F.binds fun _ _ _ _ _ _ us hl => match us, hl with | [_, _], _ => rfl
theorem b_29 (F : L2.Fun K x q (allP 29) f fd) : Binds K fd ["bound", "row", "column"] [] := F.binds fun _ _ _ _ _ _ us hl => match us, hl with | [_, _, _], _ => rfl
theorem b_30 (F : L2.Fun K x q (allP 30) f fd) : Binds K fd ["sides", "bounds"] [] := F.binds fun _ _ _ _ _ _ us hl => match us, hl with | [_, _], _ => rfl
theorem b_31 (F : L2.Fun K x q (allP 31) f fd) : Binds K fd ["sides", "bounds"] [] := F.binds fun _ _ _ _ _ _ us hl => match us, hl with | [_, _], _ => rfl
theorem b_32 (F : L2.Fun K x q (allP 32) f fd) : Binds K fd ["sides", "bound"] [] := F.binds fun _ _ _ _ _ _ us hl => match us, hl with | [_, _], _ => rfl
theorem b_33 (F : L2.Fun K x q (allP 33) f fd) : Binds K fd ["sides", "bound"] [] := F.binds fun _ _ _ _ _ _ us hl => match us, hl with | [_, _], _ => rfl
theorem b_34 (F : L2.Fun K x q (allP 34) f fd) : Binds K fd ["sides", "lows", "highs"] [] := F.binds fun _ _ _ _ _ _ us hl => match us, hl with | [_, _, _], _ => rfl
theorem b_35 (F : L2.Fun K x q (allP 35) f fd) : Binds K fd ["sides", "lows", "highs"] [] := F.binds fun _ _ _ _ _ _ us hl => match us, hl with | [_, _, _], _ => rfl
theorem b_36 (F : L2.Fun K x q (allP 36) f fd) : Binds K fd ["sides", "bounds"] [] := F.binds fun _ _ _ _ _ _ us hl => match us, hl with | [_, _], _ => rfl
theorem b_37 (F : L2.Fun K x q (allP 37) f fd) : Binds K fd ["sides", "bounds"] [] := F.binds fun _ _ _ _ _ _ us hl => match us, hl with | [_, _], _ => rfl
theorem b_38 (F : L2.Fun K x q (allP 38) f fd) : Binds K fd ["sides", "lows", "highs"] [] := F.binds fun _ _ _ _ _ _ us hl => match us, hl with | [_, _, _], _ => rfl
theorem b_39 (F : L2.Fun K x q (allP 39) f fd) : Binds K fd ["one", "other"] [] := F.binds fun _ _ _ _ _ _ us hl => match us, hl with | [_, _], _ => rfl
theorem b_40 (F : L2.Fun K x q (allP 40) f fd) : Binds K fd ["one", "other", "pick"] [] := F.binds fun _ _ _ _ _ _ us hl => match us, hl with | [_, _, _], _ => rfl
theorem b_41 (F : L2.Fun K x q (allP 41) f fd) : Binds K fd ["table", "top"] [] := F.binds fun _ _ _ _ _ _ us hl => match us, hl with | [_, _], _ => rfl
theorem b_42 (F : L2.Fun K x q (allP 42) f fd) : Binds K fd ["table", "top"] [] := F.binds fun _ _ _ _ _ _ us hl => match us, hl with | [_, _], _ => rfl
theorem b_43 (F : L2.Fun K x q (allP 43) f fd) : Binds K fd ["one", "other"] [] := F.binds fun _ _ _ _ _ _ us hl => match us, hl with | [_, _], _ => rfl
theorem b_44 (F : L2.Fun K x q (allP 44) f fd) : Binds K fd ["one", "other"] [] := F.binds fun _ _ _ _ _ _ us hl => match us, hl with | [_, _], _ => rfl
theorem b_45 (F : L2.Fun K x q (allP 45) f fd) : Binds K fd ["one", "other"] [] := F.binds fun _ _ _ _ _ _ us hl => match us, hl with | [_, _], _ => rfl
theorem b_46 (F : L2.Fun K x q (allP 46) f fd) : Binds K fd ["one", "other"] [] := F.binds fun _ _ _ _ _ _ us hl => match us, hl with | [_, _], _ => rfl
theorem b_47 (F : L2.Fun K x q (allP 47) f fd) : Binds K fd ["sides", "point", "height"] [] := F.binds fun _ _ _ _ _ _ us hl => match us, hl with | [_, _, _], _ => rfl
theorem b_48 (F : L2.Fun K x q (allP 48) f fd) : Binds K fd ["sides", "point"] [] := F.binds fun _ _ _ _ _ _ us hl => match us, hl with | [_, _], _ => rfl
theorem b_49 (F : L2.Fun K x q (allP 49) f fd) : Binds K fd ["sides", "point", "height"] [] := F.binds fun _ _ _ _ _ _ us hl => match us, hl with | [_, _, _], _ => rfl
theorem b_50 (F : L2.Fun K x q (allP 50) f fd) : Binds K fd ["state"] [] := F.binds fun _ _ _ _ _ _ us hl => match us, hl with | [_], _ => rfl
theorem b_51 (F : L2.Fun K x q (allP 51) f fd) : Binds K fd ["sides", "value"] [] := F.binds fun _ _ _ _ _ _ us hl => match us, hl with | [_, _], _ => rfl
theorem b_52 (F : L2.Fun K x q (allP 52) f fd) : Binds K fd ["sides", "value"] [] := F.binds fun _ _ _ _ _ _ us hl => match us, hl with | [_, _], _ => rfl
theorem b_53 (F : L2.Fun K x q (allP 53) f fd) : Binds K fd ["sides", "value"] [] := F.binds fun _ _ _ _ _ _ us hl => match us, hl with | [_, _], _ => rfl
theorem b_54 (F : L2.Fun K x q (allP 54) f fd) : Binds K fd ["line", "at", "facts"] [] := F.binds fun _ _ _ _ _ _ us hl => match us, hl with | [_, _, _], _ => rfl
theorem b_55 (F : L2.Fun K x q (allP 55) f fd) : Binds K fd ["state", "at", "facts"] [] := F.binds fun _ _ _ _ _ _ us hl => match us, hl with | [_, _, _], _ => rfl
theorem b_56 (F : L2.Fun K x q (allP 56) f fd) : Binds K fd ["sides", "facts"] [] := F.binds fun _ _ _ _ _ _ us hl => match us, hl with | [_, _], _ => rfl
theorem b_57 (F : L2.Fun K x q (allP 57) f fd) : Binds K fd ["levels"] [] := F.binds fun _ _ _ _ _ _ us hl => match us, hl with | [_], _ => rfl
theorem b_58 (F : L2.Fun K x q (allP 58) f fd) : Binds K fd ["sides", "facts"] [] := F.binds fun _ _ _ _ _ _ us hl => match us, hl with | [_, _], _ => rfl
theorem b_59 (F : L2.Fun K x q (allP 59) f fd) : Binds K fd ["sides", "facts", "number"] [] := F.binds fun _ _ _ _ _ _ us hl => match us, hl with | [_, _, _], _ => rfl
theorem b_60 (F : L2.Fun K x q (allP 60) f fd) : Binds K fd ["sides", "facts"] [] := F.binds fun _ _ _ _ _ _ us hl => match us, hl with | [_, _], _ => rfl
theorem b_61 (F : L2.Fun K x q (allP 61) f fd) : Binds K fd ["square", "facts"] [] := F.binds fun _ _ _ _ _ _ us hl => match us, hl with | [_, _], _ => rfl
theorem b_62 (F : L2.Fun K x q (allP 62) f fd) : Binds K fd ["sides", "facts", "limit"] [] := F.binds fun _ _ _ _ _ _ us hl => match us, hl with | [_, _, _], _ => rfl
theorem b_63 (F : L2.Fun K x q (allP 63) f fd) : Binds K fd ["sides", "facts"] [] := F.binds fun _ _ _ _ _ _ us hl => match us, hl with | [_, _], _ => rfl
theorem b_64 (F : L2.Fun K x q (allP 64) f fd) : Binds K fd ["sides", "facts"] [] := F.binds fun _ _ _ _ _ _ us hl => match us, hl with | [_, _], _ => rfl
theorem b_65 (F : L2.Fun K x q (allP 65) f fd) : Binds K fd ["sides", "facts"] [] := F.binds fun _ _ _ _ _ _ us hl => match us, hl with | [_, _], _ => rfl
theorem b_66 (F : L2.Fun K x q (allP 66) f fd) : Binds K fd ["sides", "facts"] [] := F.binds fun _ _ _ _ _ _ us hl => match us, hl with | [_, _], _ => rfl
theorem b_67 (F : L2.Fun K x q (allP 67) f fd) : Binds K fd ["sides", "facts"] [] := F.binds fun _ _ _ _ _ _ us hl => match us, hl with | [_, _], _ => rfl
theorem b_68 (F : L2.Fun K x q (allP 68) f fd) : Binds K fd ["sides", "facts"] [] := F.binds fun _ _ _ _ _ _ us hl => match us, hl with | [_, _], _ => rfl
theorem b_69 (F : L2.Fun K x q (allP 69) f fd) : Binds K fd ["sides", "facts"] [] := F.binds fun _ _ _ _ _ _ us hl => match us, hl with | [_, _], _ => rfl
theorem b_70 (F : L2.Fun K x q (allP 70) f fd) : Binds K fd ["sides", "facts"] [] := F.binds fun _ _ _ _ _ _ us hl => match us, hl with | [_, _], _ => rfl
theorem b_71 (F : L2.Fun K x q (allP 71) f fd) : Binds K fd ["table", "facts"] [] := F.binds fun _ _ _ _ _ _ us hl => match us, hl with | [_, _], _ => rfl
theorem b_72 (F : L2.Fun K x q (allP 72) f fd) : Binds K fd ["sides", "facts"] [] := F.binds fun _ _ _ _ _ _ us hl => match us, hl with | [_, _], _ => rfl
theorem b_73 (F : L2.Fun K x q (allP 73) f fd) : Binds K fd ["sides", "facts"] [] := F.binds fun _ _ _ _ _ _ us hl => match us, hl with | [_, _], _ => rfl
theorem b_74 (F : L2.Fun K x q (allP 74) f fd) : Binds K fd ["sides", "facts"] [] := F.binds fun _ _ _ _ _ _ us hl => match us, hl with | [_, _], _ => rfl
theorem b_75 (F : L2.Fun K x q (allP 75) f fd) : Binds K fd ["sides", "facts"] [] := F.binds fun _ _ _ _ _ _ us hl => match us, hl with | [_, _], _ => rfl
theorem b_76 (F : L2.Fun K x q (allP 76) f fd) : Binds K fd ["_law_state"] [] := F.binds fun _ _ _ _ _ _ us hl => match us, hl with | [_], _ => rfl
theorem b_77 (F : L2.Fun K x q (allP 77) f fd) : Binds K fd ["_law_state", "_law_line"] [] := F.binds fun _ _ _ _ _ _ us hl => match us, hl with | [_, _], _ => rfl
theorem b_78 (F : L2.Fun K x q (allP 78) f fd) : Binds K fd ["_law_sides"] [] := F.binds fun _ _ _ _ _ _ us hl => match us, hl with | [_], _ => rfl
theorem b_79 (F : L2.Fun K x q (allP 79) f fd) : Binds K fd ["_law_square"] [] := F.binds fun _ _ _ _ _ _ us hl => match us, hl with | [_], _ => rfl
theorem b_80 (F : L2.Fun K x q (allP 80) f fd) : Binds K fd ["_law_one", "_law_other"] [] := F.binds fun _ _ _ _ _ _ us hl => match us, hl with | [_, _], _ => rfl
theorem b_81 (F : L2.Fun K x q (allP 81) f fd) : Binds K fd ["_law_square", "_law_word"] [] := F.binds fun _ _ _ _ _ _ us hl => match us, hl with | [_, _], _ => rfl
theorem b_82 (F : L2.Fun K x q (allP 82) f fd) : Binds K fd ["_law_some_here"] [] := F.binds fun _ _ _ _ _ _ us hl => match us, hl with | [_], _ => rfl
theorem b_83 (F : L2.Fun K x q (allP 83) f fd) : Binds K fd ["_law_sides", "_law_facts_here", "_law_some_here"] [] := F.binds fun _ _ _ _ _ _ us hl => match us, hl with | [_, _, _], _ => rfl
theorem b_84 (F : L2.Fun K x q (allP 84) f fd) : Binds K fd ["_law_every", "_law_one", "_law_point"] [] := F.binds fun _ _ _ _ _ _ us hl => match us, hl with | [_, _, _], _ => rfl
theorem b_85 (F : L2.Fun K x q (allP 85) f fd) : Binds K fd ["_law_script"] [] := F.binds fun _ _ _ _ _ _ us hl => match us, hl with | [_], _ => rfl
theorem b_86 (F : L2.Fun K x q (allP 86) f fd) : Binds K fd ["_law_cup_here", "_law_many"] [] := F.binds fun _ _ _ _ _ _ us hl => match us, hl with | [_, _], _ => rfl
theorem b_87 (F : L2.Fun K x q (allP 87) f fd) : Binds K fd ["_law_cup_here", "_law_things"] [] := F.binds fun _ _ _ _ _ _ us hl => match us, hl with | [_, _], _ => rfl
theorem b_88 (F : L2.Fun K x q (allP 88) f fd) : Binds K fd ["_law_script"] [] := F.binds fun _ _ _ _ _ _ us hl => match us, hl with | [_], _ => rfl
def psN (g : Nat) : List Str := (slN g).take (match tab g with
  | some f => f.pars
  | none => 0)
theorem binds_at : ∀ g, g < 85 → L2.Fun K x q (allP g) f fd → Binds K fd (psN g) []
  | 0, _, F => b_0 F
  | 1, _, F => b_1 F
  | 2, _, F => b_2 F
  | 3, _, F => b_3 F
  | 4, _, F => b_4 F
  | 5, _, F => b_5 F
  | 6, _, F => b_6 F
  | 7, _, F => b_7 F
  | 8, _, F => b_8 F
  | 9, _, F => b_9 F
  | 10, _, F => b_10 F
  | 11, _, F => b_11 F
  | 12, _, F => b_12 F
  | 13, _, F => b_13 F
  | 14, _, F => b_14 F
  | 15, _, F => b_15 F
  | 16, _, F => b_16 F
  | 17, _, F => b_17 F
  | 18, _, F => b_18 F
  | 19, _, F => b_19 F
  | 20, _, F => b_20 F
  | 21, _, F => b_21 F
  | 22, _, F => b_22 F
  | 23, _, F => b_23 F
  | 24, _, F => b_24 F
  | 25, _, F => b_25 F
  | 26, _, F => b_26 F
  | 27, _, F => b_27 F
  | 28, _, F => b_28 F
  | 29, _, F => b_29 F
  | 30, _, F => b_30 F
  | 31, _, F => b_31 F
  | 32, _, F => b_32 F
  | 33, _, F => b_33 F
  | 34, _, F => b_34 F
  | 35, _, F => b_35 F
  | 36, _, F => b_36 F
  | 37, _, F => b_37 F
  | 38, _, F => b_38 F
  | 39, _, F => b_39 F
  | 40, _, F => b_40 F
  | 41, _, F => b_41 F
  | 42, _, F => b_42 F
  | 43, _, F => b_43 F
  | 44, _, F => b_44 F
  | 45, _, F => b_45 F
  | 46, _, F => b_46 F
  | 47, _, F => b_47 F
  | 48, _, F => b_48 F
  | 49, _, F => b_49 F
  | 50, _, F => b_50 F
  | 51, _, F => b_51 F
  | 52, _, F => b_52 F
  | 53, _, F => b_53 F
  | 54, _, F => b_54 F
  | 55, _, F => b_55 F
  | 56, _, F => b_56 F
  | 57, _, F => b_57 F
  | 58, _, F => b_58 F
  | 59, _, F => b_59 F
  | 60, _, F => b_60 F
  | 61, _, F => b_61 F
  | 62, _, F => b_62 F
  | 63, _, F => b_63 F
  | 64, _, F => b_64 F
  | 65, _, F => b_65 F
  | 66, _, F => b_66 F
  | 67, _, F => b_67 F
  | 68, _, F => b_68 F
  | 69, _, F => b_69 F
  | 70, _, F => b_70 F
  | 71, _, F => b_71 F
  | 72, _, F => b_72 F
  | 73, _, F => b_73 F
  | 74, _, F => b_74 F
  | 75, _, F => b_75 F
  | 76, _, F => b_76 F
  | 77, _, F => b_77 F
  | 78, _, F => b_78 F
  | 79, _, F => b_79 F
  | 80, _, F => b_80 F
  | 81, _, F => b_81 F
  | 82, _, F => b_82 F
  | 83, _, F => b_83 F
  | 84, _, F => b_84 F
  | g + 85, h, _ => absurd h (by omega)
end
/-- what is to be checked of each of the 85 defs -/
def scB (g : Nat) : Bool := match tab g with
  | some f => ckD gcN nm (slN g) f (tpN g) && C8.scC (slN g) ((slN g).take f.pars) (defScope (tpN g))
  | none => false
theorem scAll : ((List.range 85).all scB) = true := by decide +kernel
theorem nm_lt {g : Nat} {x : Str} (h : nm g = some x) : g < 85 ∧ allN g = x := by
  unfold nm at h
  have hl : g < 85 := by
    by_cases hg : g < 85
    · exact hg
    · rw [List.getElem?_eq_none (by
        have : nmL.length = 85 := by decide +kernel
        omega)] at h
      cases h
  refine ⟨hl, ?_⟩
  unfold allN
  rw [if_pos hl]
  cases e : nmL[g]? with
  | none => rw [e] at h; cases h
  | some y =>
    rw [e] at h
    exact Option.some.inj h
theorem tp_eq {g : Nat} (h : g < 85) : allP g = tpN g := by
  unfold allP tpN
  rw [if_pos h]
section
variable {K : PySem.W.Frag} {h : Heap} {mg : Str → Option Value}
theorem def_at (X : K.In h) (G : h.Ns mainGlobals mg) (c : He.SaysD fa fn K) {g : Nat} (hg : g < 89) : ∃ f fd, L2.FunD K (allN g) (allN g) (defArgs (allP g)) (defBody (allP g)) (defScope (allP g)) [] [] f fd ∧ mg (allN g) = some (.ref f) := by
  obtain ⟨fd, F⟩ := c.defs (d := mkD g) (List.mem_map.mpr ⟨g, List.mem_range.mpr hg, rfl⟩)
  exact ⟨_, fd, F, He.glo_ok X G (c.facts (List.mem_append_left _ (List.mem_append_left _ (List.mem_map.mpr ⟨g, List.mem_range.mpr hg, rfl⟩))))⟩
theorem facts {P : Program} {w : World} {f : Addr} (X : K.In h) (G : h.Ns mainGlobals mg) (hfa : mg ("law" : Str) = some (.ref f)) (c : He.SaysD fa fn K) :
    ∃ fd : FuncData, (∀ (s : Shared) (v : Value), BindsTo s fd ⟨[v], []⟩ [("_law_script", v)]) ∧ ∀ base : Heap, K.In base → base.Ns mainGlobals mg → FnOk P w K mg base CX0 9 f fd ["_law_script"] (spLaw K) := by
  obtain ⟨f4, fd, F, hm⟩ := def_at X G c (g := 88) (by decide)
  have e := hfa.symm.trans hm
  cases e
  have b := FunD.bindsA (ps := ["_law_script"]) F fun _ _ _ _ _ _ us hl => match us, hl with | [_], _ => rfl
  refine ⟨fd, fun s v => b s [v] rfl, fun base _ _ => ?_⟩
  have FF : Facts K mg gcN nm gcv tab slN tpN := {
    df := fun g x hn => by
      obtain ⟨hl, e⟩ := nm_lt hn
      subst e
      have sc := List.all_eq_true.mp scAll g (List.mem_range.mpr hl)
      unfold scB at sc
      split at sc
      · next f' e1 =>
        rw [Bool.and_eq_true] at sc
        obtain ⟨f0, fd0, F0, hm0⟩ := def_at X G c (g := g) (by omega)
        have F1 := He5.fun_of F0
        have b := binds_at g hl F1
        unfold psN at b
        rw [e1] at b
        rw [tp_eq hl] at F1
        exact ⟨f', f0, fd0, e1, F1, hm0, b, C8.fnScope_by sc.2, sc.1⟩
      · cases sc
    bi := fun z hz => He.free_ok X G (c.facts (List.mem_append_left _ (List.mem_append_right _ (List.mem_map.mpr ⟨z, hz, rfl⟩))))
    con := fun i k x e1 e2 => by
      unfold gcv at e1
      unfold gcN at e2
      rw [List.getElem?_map] at e2
      cases e3 : gcL[i]? with
      | none => rw [e3] at e1; cases e1
      | some p =>
        rw [e3] at e1 e2
        cases e1
        cases e2
        exact He.int_ok X G (c.facts (List.mem_append_right _ (List.mem_map.mpr ⟨p, List.mem_of_getElem? e3, rfl⟩))) }
  obtain ⟨fC, fdC, FC, hC⟩ := def_at X G c (g := 85) (by decide)
  obtain ⟨fR, fdR, FR, hR⟩ := def_at X G c (g := 86) (by decide)
  obtain ⟨fS, fdS, FS, hS⟩ := def_at X G c (g := 87) (by decide)
  have GC := He5.fun_of FC
  have GR := He5.fun_of FR
  have GS := He5.fun_of FS
  exact ok_law FF (He5.fun_of F) GC hC (b_85 GC) GR hR (b_86 GR) GS hS (b_87 GS)
end
end Sq.Law
end

section
set_option Elab.async false
set_option linter.all false
set_option maxRecDepth 100000
set_option maxHeartbeats 0
open PySem PySem.W PySem.Calls PyProof.Rows
theorem PySem.Challenge.cw_signsquared_k81_whole_told_squares_and_b_holds : PySem.Challenge.rw_signsquared_k81_whole_told_squares_and_b.Holds := by
  w_on; o_law
  o_head (Sq.Law.hk)
  (case hw => w_witness2)
  refine L2.walk_ofE (l := PySem.Challenge.rw_signsquared_k81_whole_told_squares_and_b) (n := 63) (k := 9) (x := "_law_script") (CX := L2.CX0) rfl (by decide) (by kernel_rfl) ⟨rfl, by decide, by decide⟩ ?F (fun _ _ _ _ z => z)
  intro w mg fa h Y G hmg0
  obtain ⟨K, KX, c⟩ := Y
  obtain ⟨fd, hb, hF⟩ := Sq.Law.facts (P := (PySem.Challenge.rw_signsquared_k81_whole_told_squares_and_b).prog) (w := w) KX G hmg0 c
  exact ⟨K, fd, Sq.Law.spLaw K, KX, hb, fun H a ns hl _ hS => ⟨a, ns, rfl, hS, Nat.le_trans hl (by decide), fun _ => rfl⟩, hF⟩
end
