import PyProof.Rows.All
import Wide.All
import OpenK.AllK
import Wide.FinOn
import HandS.ForMost
import HandS.ForExc
import HandS.Head2
import HandS.HeadEnd
import HandS.HeadHook3
import HandS.EndBits
import HandS.Flow
import HandS.IsInst
import HandS.TryElse
import HandS.TryMany
import HandS.TupMul
import HandS.ExcIs
import HandS.SuiteRaise
import HandS.HeadHook4
import HandS.HotCalls
import HandS.SortOrd
import HandS.Conv
import HandS.Wide
import HandS.Strs
import HandS.TupAny
import HandS.Style
import HandS.Zip
import KE.DataEq
import KE.DataCmp
import KE.DataIsa
import KE.DataAny
import KE.SortData
import KE.KDictPairs
import HandS.Replace
import HandS.RaiseMore
import PySem.Challenge.RW_oldhands_k08_kinds_at_paths
set_option autoImplicit false
set_option Elab.async false
set_option linter.all false
set_option maxRecDepth 100000
set_option maxHeartbeats 0
namespace Ev

inductive D where
  | non | bl (b : Bool) | int (i : Int) | str (s : List Nat) | tup (ds : List D) | lst (ds : List D) | dct (ks vs : List D)
instance : Inhabited D := ⟨.non⟩
/-- a value at hand: data, a thing of the store, an error that is handled -/
inductive Va where
  | d (x : D) | r (i : Nat) | e (c : Nat)
inductive Ob where
  | dead | lst (ds : List D) | dct (ks vs : List D)
abbrev Store := List Ob
abbrev Env := List (Option Va)
inductive Res (α : Type) where
  | ok (a : α) (st : Store) | er (c : Nat) (st : Store) | no
def Res.bind {α β : Type} (r : Res α) (k : α → Store → Res β) : Res β :=
  match r with
  | .ok a st => k a st
  | .er c st => .er c st
  | .no => .no
/-- the greatest length -/
abbrev SZ : Nat := 16777216

mutual
def D.eqv : D → D → Bool
  | .non, .non => true
  | .bl a, .bl b => a == b
  | .bl a, .int j => (if a then 1 else 0) == j
  | .int i, .bl b => i == (if b then 1 else 0)
  | .int i, .int j => i == j
  | .str x, .str y => x == y
  | .lst xs, .lst ys => D.eqvL xs ys
  | .tup xs, .tup ys => D.eqvL xs ys
  | _, _ => false
def D.eqvL : List D → List D → Bool
  | [], [] => true
  | x :: xs, y :: ys => D.eqv x y && D.eqvL xs ys
  | _, _ => false
end
mutual
/-- no dict within -/
def D.flat : D → Bool
  | .lst xs | .tup xs => D.flatL xs
  | .dct _ _ => false
  | _ => true
def D.flatL : List D → Bool
  | [] => true
  | x :: xs => D.flat x && D.flatL xs
end
mutual
def D.depth : D → Nat
  | .lst xs | .tup xs => D.depthL xs + 1
  | _ => 0
def D.depthL : List D → Nat
  | [] => 0
  | x :: xs => max (D.depth x) (D.depthL xs)
end
mutual
/-- the same data -/
def D.beq : D → D → Bool
  | .non, .non => true
  | .bl a, .bl b => a == b
  | .int i, .int j => i == j
  | .str x, .str y => x == y
  | .lst xs, .lst ys => D.beqL xs ys
  | .tup xs, .tup ys => D.beqL xs ys
  | .dct ks vs, .dct ls ws => D.beqL ks ls && D.beqL vs ws
  | _, _ => false
def D.beqL : List D → List D → Bool
  | [], [] => true
  | x :: xs, y :: ys => D.beq x y && D.beqL xs ys
  | _, _ => false
end
def Ob.beq : Ob → Ob → Bool
  | .dead, .dead => true
  | .lst xs, .lst ys => D.beqL xs ys
  | .dct ks vs, .dct ls ws => D.beqL ks ls && D.beqL vs ws
  | _, _ => false

inductive Bop where
  | add | sub | mul | fdiv | mod | pow
inductive Cop where
  | eq | ne | lt | le | gt | ge | isin | notin | is | isnot
/-- how deep what is compared may be -/
abbrev DP : Nat := 180
def mulOk (i j : Int) : Bool := decide (i.natAbs < 2 ^ 64) || decide (j.natAbs < 2 ^ 64) || (decide (i.natAbs < 2 ^ 4096) && decide (j.natAbs < 2 ^ 4096))
/-- xs n times -/
def rep {α : Type} (xs : List α) (n : Nat) : List α := (List.replicate n xs).flatten
def opBin : Bop → D → D → Option D
  | .add, .int i, .int j => some (.int (i + j))
  | .add, .str x, .str y => if x.length + y.length ≤ SZ then some (.str (x ++ y)) else none
  | .add, .tup x, .tup y => if x.length + y.length ≤ SZ then some (.tup (x ++ y)) else none
  | .add, .lst x, .lst y => if x.length + y.length ≤ SZ then some (.lst (x ++ y)) else none
  | .sub, .int i, .int j => some (.int (i - j))
  | .mul, .int i, .int j => if mulOk i j then some (.int (i * j)) else none
  | .mul, .tup x, .int j => if 2 ≤ j ∧ j ≤ 1000 ∧ x ≠ [] ∧ x.length ≤ 1000 then some (.tup (rep x j.toNat)) else none
  | .fdiv, .int i, .int j => if 0 < j ∧ j.natAbs < 2 ^ 4096 then some (.int (i / j)) else none
  | .mod, .int i, .int j => if 0 < j then some (.int (i % j)) else none
  | .pow, .int i, .int j => if 0 ≤ j ∧ j ≤ 1000 ∧ i.natAbs < 2 ^ 64 then some (.int (i ^ j.toNat)) else none
  | _, _, _ => none
/-- a sign's row in a text -/
def subL : List Nat → List Nat → Bool
  | x, [] => x.isEmpty
  | x, c :: t => x.isPrefixOf (c :: t) || subL x t
def ltL : List Nat → List Nat → Bool
  | [], [] => false
  | [], _ :: _ => true
  | _ :: _, [] => false
  | x :: xs, y :: ys => if x = y then ltL xs ys else decide (x < y)
def opLt : D → D → Option Bool
  | .int i, .int j => some (decide (i < j))
  | .str x, .str y => some (ltL x y)
  | _, _ => none
def eqOk (a b : D) : Bool := a.flat && b.flat && decide (min a.depth b.depth ≤ DP)
def inOk (a : D) (ds : List D) : Bool := a.flat && D.flatL ds && decide (min (D.depthL ds) a.depth ≤ DP)
def opIn : D → D → Option Bool
  | .str x, .str y => some (subL x y)
  | a, .lst ds | a, .tup ds => if inOk a ds then some (ds.any fun d => D.eqv d a) else none
  | a, .dct ks _ => match a with
    | .int _ | .str _ => some (ks.any fun d => D.eqv d a)
    | _ => none
  | _, _ => none
def opCmp : Cop → D → D → Option Bool
  | .eq, a, b => if eqOk a b then some (D.eqv a b) else none
  | .ne, a, b => if eqOk a b then some (!D.eqv a b) else none
  | .lt, a, b => opLt a b
  | .gt, a, b => opLt b a
  | .le, a, b => (opLt b a).map not
  | .ge, a, b => (opLt a b).map not
  | .isin, a, b => opIn a b
  | .notin, a, b => (opIn a b).map not
  | .is, a, .non => some (match a with | .non => true | _ => false)
  | .is, .bl a, .bl b => some (a == b)
  | .is, _, _ => none
  | .isnot, a, .non => some (match a with | .non => false | _ => true)
  | .isnot, .bl a, .bl b => some (!(a == b))
  | .isnot, _, _ => none
def truD : D → Bool
  | .non => false
  | .bl b => b
  | .int i => i != 0
  | .str s => !s.isEmpty
  | .tup ds | .lst ds => !ds.isEmpty
  | .dct ks _ => !ks.isEmpty
/-- the place that an index means -/
def ixAt (n : Nat) (i : Int) : Option Nat := if 0 ≤ i then (if i < n then some i.toNat else none) else if -(n : Int) ≤ i then some (i + n).toNat else none
def getIx {α : Type} (xs : List α) (i : Int) : Option α := (ixAt xs.length i).bind fun j => xs[j]?
/-- the value at a key; the keys are unlike -/
def lookD : List D → List D → D → Option D
  | k :: ks, v :: vs, x => if D.eqv k x then some v else lookD ks vs x
  | _, _, _ => none
def isKey : D → Bool
  | .int _ | .str _ => true
  | _ => false
def opIdx : D → D → Option D
  | .tup ds, .int i | .lst ds, .int i => getIx ds i
  | .str s, .int i => (getIx s i).map fun c => .str [c]
  | .dct ks vs, x => if isKey x then lookD ks vs x else none
  | _, _ => none
/-- where a slice's bound lies -/
def clip (n : Nat) (dft : Nat) : Option Int → Nat
  | none => dft
  | some i => if i < 0 then (i + (n : Int)).toNat else min i.toNat n
def cut {α : Type} (xs : List α) (lo hi : Option Int) : List α := (xs.drop (clip xs.length 0 lo)).take (clip xs.length xs.length hi - clip xs.length 0 lo)
def opSlc : D → Option Int → Option Int → Option D
  | .tup ds, lo, hi => some (.tup (cut ds lo hi))
  | .lst ds, lo, hi => some (.lst (cut ds lo hi))
  | .str s, lo, hi => some (.str (cut s lo hi))
  | _, _, _ => none
/-- what a walk over data yields -/
def itemsD : D → Option (List D)
  | .tup ds | .lst ds => some ds
  | .str s => some (s.map fun c => .str [c])
  | _ => none
def blsOf : List D → Option (List Bool)
  | [] => some []
  | .bl b :: r => (blsOf r).map (b :: ·)
  | _ :: _ => none
def intsOf : List D → Option (List Int)
  | [] => some []
  | .int b :: r => (intsOf r).map (b :: ·)
  | _ :: _ => none
def strsOf : List D → Option (List (List Nat))
  | [] => some []
  | .str b :: r => (strsOf r).map (b :: ·)
  | _ :: _ => none
inductive Ty where
  | int | str | bool | tup | lst
def isTy : Ty → D → Bool
  | .int, .int _ | .int, .bl _ => true
  | .bool, .bl _ => true
  | .str, .str _ => true
  | .tup, .tup _ => true
  | .lst, .lst _ => true
  | _, _ => false
def opIsi (t : Ty) (d : D) : Option Bool := if d.flat then some (isTy t d) else none
def insI (x : Int) : List Int → List Int
  | [] => [x]
  | y :: r => if x < y then x :: y :: r else y :: insI x r
def insS (x : List Nat) : List (List Nat) → List (List Nat)
  | [] => [x]
  | y :: r => if ltL x y then x :: y :: r else y :: insS x r
def sortI (xs : List Int) : List Int := xs.foldr insI []
def sortS (xs : List (List Nat)) : List (List Nat) := xs.foldr insS []
/-- the built-ins of one value -/
inductive B1 where
  | len | all | any | sum | tuple | list | int | ord | str | abs | sorted | dict
def dputL (x v : D) : List D → List D → List D × List D
  | k :: ks, w :: vs => if D.eqv k x then (k :: ks, v :: vs) else let q := dputL x v ks vs; (k :: q.1, w :: q.2)
  | _, _ => ([x], [v])
def dictOf : List D → List D → List D → Option (List D × List D)
  | [], ks, vs => some (ks, vs)
  | .tup [k, v] :: r, ks, vs => if isKey k then dictOf r (dputL k v ks vs).1 (dputL k v ks vs).2 else none
  | _ :: _, _, _ => none
def opB1 : B1 → D → Option D
  | .len, .str s => some (.int s.length)
  | .len, .tup ds | .len, .lst ds => some (.int ds.length)
  | .len, .dct ks _ => some (.int ks.length)
  | .all, .lst ds => (blsOf ds).map fun bs => .bl (bs.all id)
  | .any, .lst ds => (blsOf ds).map fun bs => .bl (bs.any id)
  | .sum, .lst ds => (intsOf ds).map fun ns => .int ns.sum
  | .tuple, .lst ds | .tuple, .tup ds => some (.tup ds)
  | .list, .lst ds | .list, .tup ds => some (.lst ds)
  | .int, .bl b => some (.int (if b then 1 else 0))
  | .ord, .str [c] => some (.int c)
  | .abs, .int i => some (.int (if i < 0 then -i else i))
  | .dict, .lst ds | .dict, .tup ds => (dictOf ds [] []).map fun q => .dct q.1 q.2
  | _, _ => none
inductive B2 where
  | min | max
def opB2 : B2 → D → D → Option D
  | .min, .int i, .int j => some (.int (if j < i then j else i))
  | .max, .int i, .int j => some (.int (if j > i then j else i))
  | _, _, _ => none

def ld (st : Store) : Va → Option D
  | .d x => some x
  | .r i => match st[i]? with
    | some (.lst ds) => some (.lst ds)
    | some (.dct ks vs) => some (.dct ks vs)
    | _ => none
  | .e _ => none

inductive Mt where
  | lapp | lext | lrev | lclr | lins | lpop | lpopA | lidx | lcnt | tidx | tcnt | sidx | sfnd | sfnd2 | scnt | ssplit | sjoin | supper | sstrip | dget1 | dget2 | dsetd | dpop
/-- what a method stands at -/
def mtAt : Mt → D → Bool
  | .lapp, .lst _ | .lext, .lst _ | .lrev, .lst _ | .lclr, .lst _ | .lins, .lst _ | .lpop, .lst _ | .lpopA, .lst _ | .lidx, .lst _ | .lcnt, .lst _ => true
  | .tidx, .tup _ | .tcnt, .tup _ => true
  | .sidx, .str _ | .sfnd, .str _ | .sfnd2, .str _ | .scnt, .str _ | .ssplit, .str _ | .sjoin, .str _ | .supper, .str _ | .sstrip, .str _ => true
  | .dget1, .dct _ _ | .dget2, .dct _ _ | .dsetd, .dct _ _ | .dpop, .dct _ _ => true
  | _, _ => false
/-- those that change what they stand at -/
def isEff : Mt → Bool
  | .lapp | .lext | .lrev | .lclr | .lins | .lpop | .lpopA | .dsetd | .dpop => true
  | _ => false
def effO (m : Mt) (o : Option Ob) (as : List D) : Option (Ob × D) := match m, o, as with
  | .lapp, some (.lst ds), [x] => if ds.length < SZ then some (.lst (ds ++ [x]), .non) else none
  | .lext, some (.lst ds), [.lst xs] => if ds.length + xs.length ≤ SZ then some (.lst (ds ++ xs), .non) else none
  | .lext, some (.lst ds), [.tup xs] => if ds.length + xs.length ≤ SZ then some (.lst (ds ++ xs), .non) else none
  | .lrev, some (.lst ds), [] => some (.lst ds.reverse, .non)
  | .lclr, some (.lst ds), [] => some (.lst [], .non)
  | .lpop, some (.lst ds), [] => (ds[ds.length - 1]?).map fun x => (.lst ds.dropLast, x)
  | _, _, _ => none
/-- the first place of a value -/
def idxOf (x : D) : Nat → List D → Option Nat
  | _, [] => none
  | n, y :: r => if D.eqv y x then some n else idxOf x (n + 1) r
/-- the first place of a text in a text -/
def fndL (x : List Nat) : List Nat → Nat → Option Nat
  | [], n => if x.isEmpty then some n else none
  | c :: t, n => if x.isPrefixOf (c :: t) then some n else fndL x t (n + 1)
def fndI : Option Nat → Int
  | some n => n
  | none => -1
def opMt (m : Mt) (o : D) (as : List D) : Option D := match m, o, as with
  | .lidx, .lst ds, [x] | .tidx, .tup ds, [x] => if inOk x ds then (idxOf x 0 ds).map fun n => .int n else none
  | .sidx, .str s, [.str x] => (fndL x s 0).map fun (n : Nat) => .int n
  | .sfnd, .str s, [.str x] => some (.int (fndI (fndL x s 0)))
  | .dget1, .dct ks vs, [x] => if isKey x then some ((lookD ks vs x).getD .non) else none
  | .dget2, .dct ks vs, [x, d] => if isKey x then some ((lookD ks vs x).getD d) else none
  | _, _, _ => none

inductive Tg where
  | v (i : Nat) | t (is : List Nat)
mutual
inductive Ex where
  | var (i : Nat) | gl (i : Nat) (x : D) | non | bl (b : Bool) | int (i : Int) | str (s : List Nat)
  | bin (o : Bop) (a b : Ex) | neg (a : Ex) | not (a : Ex)
  | cmp (o : Cop) (a b : Ex) | cmp2 (o p : Cop) (a b c : Ex) | cmp3 (o p q : Cop) (a b c d : Ex)
  | and (a b : Ex) | or (a b : Ex) | ife (c : Te) (a b : Ex)
  | tup (es : Exs) | lst (r : Bool) (es : Exs)
  | idx (a b : Ex) | slc (a : Ex) (lo hi : Op)
  | b1 (f : B1) (r : Bool) (a : Ex) | b2 (f : B2) (a b : Ex) | isi (a : Ex) (t : Ty) | lenset (a : Ex)
  | call (f : Nat) (es : Exs)
  | comp (r : Bool) (own : List Nat) (tg : Tg) (it : Src) (ifs : Op') (elt : Ex)
  | mth (m : Mt) (o : Ex) (es : Exs)
  | fz (a : Ex)
  | isE (i : Nat) (row : List Bool)
inductive Exs where
  | nil | cons (e : Ex) (r : Exs)
/-- a bound of a slice -/
inductive Op where
  | none | some (e : Ex)
/-- a comprehension's test -/
inductive Op' where
  | none | some (e : Te)
/-- a test -/
inductive Te where
  | tr (e : Ex) | cmp (o : Cop) (a b : Ex) | cmp2 (o p : Cop) (a b c : Ex) | not (t : Te) | and (a b : Te) | or (a b : Te)
/-- what is walked -/
inductive Src where
  | e (e : Ex) | rng (es : Exs) | enu (e : Ex) | zip (a b : Ex) | rev (e : Ex)
end
abbrev Calls := Nat → List Va → Store → Res Va
def ofO (o : Option D) (st : Store) : Res Va := match o with
  | some x => .ok (.d x) st
  | none => .no
def ofB (o : Option Bool) (st : Store) : Res Bool := match o with
  | some x => .ok x st
  | none => .no
def ofB' (o : Option Bool) (st : Store) : Res Va := match o with
  | some x => .ok (.d (.bl x)) st
  | none => .no
def ldk {α : Type} (va : Va) (st : Store) (k : D → Res α) : Res α := match ld st va with
  | some d => k d
  | none => .no
/-- a list that is told, kept in the store where it is to be changed -/
def mk (r : Bool) (x : D) (st : Store) : Res Va := match r, x with
  | false, x => .ok (.d x) st
  | true, .lst ds => .ok (.r st.length) (st ++ [.lst ds])
  | true, .dct ks vs => .ok (.r st.length) (st ++ [.dct ks vs])
  | true, _ => .no
def mkO (r : Bool) (o : Option D) (st : Store) : Res Va := match o with
  | some x => mk r x st
  | none => .no
def bindT (tg : Tg) (x : D) (env : Env) : Option Env := match tg with
  | .v i => some (env.set i (some (.d x)))
  | .t is => match x with
    | .tup ds => if is.length = ds.length then some ((is.zip ds).foldl (fun e p => e.set p.1 (some (.d p.2))) env) else none
    | _ => none
def wipeE (own : List Nat) (env : Env) : Env := own.foldl (fun e i => e.set i none) env
def dsOf (vs : List Va) : Option (List D) := match vs with
  | [] => some []
  | .d x :: r => (dsOf r).map (x :: ·)
  | _ :: _ => none
/-- the elements of a comprehension; an error within is none of ours -/
def compM (bd : D → Env → Option Env) (cond : Env → Store → Res Bool) (elt : Env → Store → Res Va) (gd : Store → Bool) : List D → Env → Store → Res (List D)
  | [], _, st => .ok [] st
  | x :: xs, env, st => match bd x env with
    | none => .no
    | some env1 => match cond env1 st with
      | .ok b st1 => if b then (match elt env1 st1 with
          | .ok (.d y) st2 => if gd st2 then (match compM bd cond elt gd xs env st2 with
            | .ok ys st3 => .ok (y :: ys) st3
            | _ => .no) else .no
          | _ => .no)
        else if gd st1 then compM bd cond elt gd xs env st1 else .no
      | _ => .no
/-- a walk over a list of the store: it stays -/
def gdOf (va : Va) (st0 : Store) : Store → Bool := match va with
  | .r i => fun st => match st[i]?, st0[i]? with
    | some o, some o' => Ob.beq o o'
    | _, _ => false
  | _ => fun _ => true
def rngL (lo n : Int) : List D := (List.range n.toNat).map fun (k : Nat) => .int (lo + (k : Int))
def rngN (lo hi c : Int) : Nat := if lo < hi then ((hi - lo - 1) / c + 1).toNat else 0
def rngC (lo c : Int) (n : Nat) : List D := (List.range n).map fun (k : Nat) => .int (lo + (k : Int) * c)
def rngOf : List Va → Option (List D)
  | [.d (.int n)] => if -(2 ^ 62) ≤ n ∧ n ≤ SZ then some (rngL 0 n) else none
  | [.d (.int lo), .d (.int hi)] => if -(2 ^ 61) ≤ lo ∧ lo < 2 ^ 61 ∧ -(2 ^ 61) ≤ hi ∧ hi < 2 ^ 61 ∧ hi - lo ≤ SZ then some (rngL lo (hi - lo)) else none
  | [.d (.int lo), .d (.int hi), .d (.int c)] => if -(2 ^ 61) ≤ lo ∧ lo < 2 ^ 61 ∧ -(2 ^ 61) ≤ hi ∧ hi < 2 ^ 61 ∧ 0 < c ∧ c < 536870912 ∧ hi - lo ≤ SZ then some (rngC lo c (rngN lo hi c)) else none
  | _ => none
def enuL : Nat → List D → List D
  | _, [] => []
  | n, x :: xs => .tup [.int n, x] :: enuL (n + 1) xs
def zipL : List D → List D → List D
  | x :: xs, y :: ys => .tup [x, y] :: zipL xs ys
  | _, _ => []
abbrev Wk := List D × (Store → Bool)
def setLen (ds : List D) : Option Nat := (strsOf ds).map fun xs => xs.eraseDups.length
def negV (va : Va) (st : Store) : Res Va := match va with
  | .d (.int i) => .ok (.d (.int (-i))) st
  | _ => .no
def tupV (vs : List Va) (st : Store) : Res Va := match dsOf vs with
  | some ds => .ok (.d (.tup ds)) st
  | none => .no
def lstV (r : Bool) (vs : List Va) (st : Store) : Res Va := match dsOf vs with
  | some ds => mk r (.lst ds) st
  | none => .no
def fzO (i : Nat) (o : Option Ob) (st : Store) : Res Va := match o with
  | some (.lst ds) => .ok (.d (.lst ds)) (st.set i .dead)
  | some (.dct ks vs) => .ok (.d (.dct ks vs)) (st.set i .dead)
  | _ => .no
def fzV (va : Va) (st : Store) : Res Va := match va with
  | .r i => fzO i st[i]? st
  | va => .ok va st
def intV (va : Va) (st : Store) : Res (Option Int) := match va with
  | .d (.int i) => .ok (some i) st
  | _ => .no
def wkE (va : Va) (st : Store) (x : D) : Res Wk := match itemsD x with
  | some ds => .ok (ds, gdOf va st) st
  | none => .no
def wkR (vs : List Va) (st : Store) : Res Wk := match rngOf vs with
  | some ds => .ok (ds, fun _ => true) st
  | none => .no
def wkN (va : Va) (st : Store) (x : D) : Res Wk := match x with
  | .lst ds => .ok (enuL 0 ds, gdOf va st) st
  | _ => .no
def wkZ (va vb : Va) (st : Store) (x y : D) : Res Wk := match x, y with
  | .tup xs, .tup ys | .lst xs, .lst ys => .ok (zipL xs ys, fun s => gdOf va st s && gdOf vb st s) st
  | _, _ => .no
def wkV (va : Va) (st : Store) (x : D) : Res Wk := match x with
  | .lst ds => .ok (ds.reverse, gdOf va st) st
  | _ => .no
def lensV (x : D) (st : Store) : Res Va := match x with
  | .lst ds | .tup ds => ofO ((setLen ds).map fun n => .int n) st
  | _ => .no
def ldsO (st : Store) : List Va → Option (List D)
  | [] => some []
  | v :: r => match ld st v, ldsO st r with
    | some x, some xs => some (x :: xs)
    | _, _ => none
def effR (i : Nat) (o : Option (Ob × D)) (st : Store) : Res Va := match o with
  | some q => .ok (.d q.2) (st.set i q.1)
  | none => .no
def asO (m : Mt) (vs : List Va) (st : Store) : Option (List D) := match m with
  | .lext => ldsO st vs
  | _ => dsOf vs
def effV (m : Mt) (vo : Va) (vs : List Va) (st : Store) : Res Va := match vo with
  | .r i => effR i ((asO m vs st).bind fun as => effO m st[i]? as) st
  | _ => .no
def pureV (m : Mt) (vo : Va) (vs : List Va) (st : Store) : Res Va := ldk vo st fun x => ofO ((ldsO st vs).bind fun as => opMt m x as) st
def mthV (m : Mt) (vo : Va) (vs : List Va) (st : Store) : Res Va := if isEff m then effV m vo vs st else pureV m vo vs st
/-- isinstance of the error that the suite holds: c tells its address and its code -/
def isEM (a : Nat) (row : List Bool) : Res Va → Res Va
  | .ok (.d (.tup [.int x, .int n])) st => if x = (a : Int) then ofB' (row[n.toNat / 2]?) st else .no
  | _ => .no
mutual
def evE (c : Calls) : Ex → Env → Store → Res Va
  | .var i, env, st => match env[i]? with
    | some (some v) => .ok v st
    | _ => .no
  | .gl _ x, _, st => .ok (.d x) st
  | .non, _, st => .ok (.d .non) st
  | .bl b, _, st => .ok (.d (.bl b)) st
  | .int i, _, st => .ok (.d (.int i)) st
  | .str s, _, st => .ok (.d (.str s)) st
  | .bin o a b, env, st => (evE c a env st).bind fun va st1 => (evE c b env st1).bind fun vb st2 => ldk va st2 fun x => ldk vb st2 fun y => ofO (opBin o x y) st2
  | .neg a, env, st => (evE c a env st).bind fun va st1 => negV va st1
  | .not a, env, st => (evE c a env st).bind fun va st1 => ldk va st1 fun x => .ok (.d (.bl (!truD x))) st1
  | .cmp o a b, env, st => (evE c a env st).bind fun va st1 => (evE c b env st1).bind fun vb st2 => ldk va st2 fun x => ldk vb st2 fun y => ofB' (opCmp o x y) st2
  | .cmp2 o p a b e, env, st => (evE c a env st).bind fun va st1 => (evE c b env st1).bind fun vb st2 => ldk va st2 fun x => ldk vb st2 fun y => (ofB (opCmp o x y) st2).bind fun k st3 =>
      if k then (evE c e env st3).bind fun ve st4 => ldk vb st4 fun y => ldk ve st4 fun z => ofB' (opCmp p y z) st4 else .ok (.d (.bl false)) st3
  | .cmp3 o p q a b e f, env, st => (evE c a env st).bind fun va st1 => (evE c b env st1).bind fun vb st2 => ldk va st2 fun x => ldk vb st2 fun y => (ofB (opCmp o x y) st2).bind fun k st3 =>
      if k then (evE c e env st3).bind fun ve st4 => ldk vb st4 fun y => ldk ve st4 fun z => (ofB (opCmp p y z) st4).bind fun k2 st5 =>
        if k2 then (evE c f env st5).bind fun vf st6 => ldk ve st6 fun z => ldk vf st6 fun u => ofB' (opCmp q z u) st6 else .ok (.d (.bl false)) st5 else .ok (.d (.bl false)) st3
  | .and a b, env, st => (evE c a env st).bind fun va st1 => ldk va st1 fun x => if truD x then evE c b env st1 else .ok va st1
  | .or a b, env, st => (evE c a env st).bind fun va st1 => ldk va st1 fun x => if truD x then .ok va st1 else evE c b env st1
  | .ife t a b, env, st => (evT c t env st).bind fun k st1 => if k then evE c a env st1 else evE c b env st1
  | .tup es, env, st => (evL c es env st).bind fun vs st1 => tupV vs st1
  | .lst r es, env, st => (evL c es env st).bind fun vs st1 => lstV r vs st1
  | .idx a b, env, st => (evE c a env st).bind fun va st1 => (evE c b env st1).bind fun vb st2 => ldk va st2 fun x => ldk vb st2 fun y => ofO (opIdx x y) st2
  | .slc a lo hi, env, st => (evE c a env st).bind fun va st1 => (evO c lo env st1).bind fun l st2 => (evO c hi env st2).bind fun h st3 => ldk va st3 fun x => ofO (opSlc x l h) st3
  | .b1 f r a, env, st => (evE c a env st).bind fun va st1 => ldk va st1 fun x => mkO r (opB1 f x) st1
  | .b2 f a b, env, st => (evE c a env st).bind fun va st1 => (evE c b env st1).bind fun vb st2 => ldk va st2 fun x => ldk vb st2 fun y => ofO (opB2 f x y) st2
  | .isi a t, env, st => (evE c a env st).bind fun va st1 => ldk va st1 fun x => ofB' (opIsi t x) st1
  | .lenset a, env, st => (evE c a env st).bind fun va st1 => ldk va st1 fun x => lensV x st1
  | .call f es, env, st => (evL c es env st).bind fun vs st1 => c f vs st1
  | .comp r own tg it ifs elt, env, st => (evI c it env st).bind fun w st1 =>
      (compM (bindT tg) (fun e s => evQ c ifs e s) (fun e s => evE c elt e s) w.2 w.1 (wipeE own env) st1).bind fun ys st2 => mk r (.lst ys) st2
  | .mth m o es, env, st => (evE c o env st).bind fun vo st1 => ldk vo st1 fun x => if mtAt m x then (evL c es env st1).bind fun vs st2 => mthV m vo vs st2 else .no
  | .fz a, env, st => (evE c a env st).bind fun va st1 => fzV va st1
  | .isE i row, env, st => match env[i]? with
    | some (some (.e a)) => isEM a row (c 0 [] st)
    | _ => .no
def evL (c : Calls) : Exs → Env → Store → Res (List Va)
  | .nil, _, st => .ok [] st
  | .cons e r, env, st => (evE c e env st).bind fun v st1 => (evL c r env st1).bind fun vs st2 => .ok (v :: vs) st2
def evO (c : Calls) : Op → Env → Store → Res (Option Int)
  | .none, _, st => .ok none st
  | .some e, env, st => (evE c e env st).bind fun v st1 => intV v st1
def evQ (c : Calls) : Op' → Env → Store → Res Bool
  | .none, _, st => .ok true st
  | .some t, env, st => evT c t env st
def evT (c : Calls) : Te → Env → Store → Res Bool
  | .tr a, env, st => (evE c a env st).bind fun va st1 => ldk va st1 fun x => .ok (truD x) st1
  | .cmp o a b, env, st => (evE c a env st).bind fun va st1 => (evE c b env st1).bind fun vb st2 => ldk va st2 fun x => ldk vb st2 fun y => ofB (opCmp o x y) st2
  | .cmp2 o p a b e, env, st => (evE c a env st).bind fun va st1 => (evE c b env st1).bind fun vb st2 => ldk va st2 fun x => ldk vb st2 fun y => (ofB (opCmp o x y) st2).bind fun k st3 =>
      if k then (evE c e env st3).bind fun ve st4 => ldk vb st4 fun y => ldk ve st4 fun z => ofB (opCmp p y z) st4 else .ok false st3
  | .not t, env, st => (evT c t env st).bind fun k st1 => .ok (!k) st1
  | .and a b, env, st => (evT c a env st).bind fun k st1 => if k then evT c b env st1 else .ok false st1
  | .or a b, env, st => (evT c a env st).bind fun k st1 => if k then .ok true st1 else evT c b env st1
def evI (c : Calls) : Src → Env → Store → Res Wk
  | .e a, env, st => (evE c a env st).bind fun va st1 => ldk va st1 fun x => wkE va st1 x
  | .rng es, env, st => (evL c es env st).bind fun vs st1 => wkR vs st1
  | .enu a, env, st => (evE c a env st).bind fun va st1 => ldk va st1 fun x => wkN va st1 x
  | .zip a b, env, st => (evE c a env st).bind fun va st1 => (evE c b env st1).bind fun vb st2 => ldk va st2 fun x => ldk vb st2 fun y => wkZ va vb st2 x y
  | .rev a, env, st => (evE c a env st).bind fun va st1 => ldk va st1 fun x => wkV va st1 x
end
end Ev

namespace Ev
open PySem PySem.Spec PyProof.Rows L2

abbrev Sl := L2.St
abbrev toS (s : List Nat) : Str := ⟨s.toArray⟩
mutual
def D.py : D → PyData
  | .non => .none
  | .bl b => .bool b
  | .int i => .int i
  | .str s => .str (toS s)
  | .tup ds => .tuple (D.pyL ds)
  | .lst ds => .list (D.pyL ds)
  | .dct _ _ => .dict []
def D.pyL : List D → List PyData
  | [] => []
  | d :: ds => d.py :: D.pyL ds
end
theorem pyL_map : ∀ ds : List D, D.pyL ds = ds.map D.py
  | [] => rfl
  | d :: ds => by rw [D.pyL, pyL_map ds]; rfl
theorem toS_inj {a b : List Nat} (h : toS a = toS b) : a = b := by
  have := congrArg (fun z : Str => z.cps.toList) h
  simpa [toS] using this
theorem toS_beq (a b : List Nat) : (toS a == toS b) = (a == b) := by
  by_cases h : a = b
  · subst h; simp
  · rw [beq_eq_false_iff_ne.mpr h, beq_eq_false_iff_ne.mpr fun e => h (toS_inj e)]
mutual
theorem eqv_py : ∀ a b : D, a.flat = true → b.flat = true → PyData.eqv a.py b.py = D.eqv a b
  | .non, b, _, hb => by cases b <;> first | rfl | cases hb
  | .bl a, b, _, hb => by cases b <;> first | rfl | cases hb
  | .int a, b, _, hb => by cases b <;> first | rfl | cases hb
  | .str a, b, _, hb => by
    cases b with
    | str c => simp only [D.py, PyData.eqv, D.eqv]; exact toS_beq a c
    | _ => first | rfl | cases hb
  | .tup a, b, ha, hb => by
    cases b with
    | tup c =>
      simp only [D.py, PyData.eqv, D.eqv]
      exact eqvL_py a c (by simpa only [D.flat] using ha) (by simpa only [D.flat] using hb)
    | _ => first | rfl | cases hb
  | .lst a, b, ha, hb => by
    cases b with
    | lst c =>
      simp only [D.py, PyData.eqv, D.eqv]
      exact eqvL_py a c (by simpa only [D.flat] using ha) (by simpa only [D.flat] using hb)
    | _ => first | rfl | cases hb
  | .dct _ _, _, ha, _ => by cases ha
theorem eqvL_py : ∀ a b : List D, D.flatL a = true → D.flatL b = true → PyData.eqvAll (D.pyL a) (D.pyL b) = D.eqvL a b
  | [], [], _, _ => rfl
  | [], _ :: _, _, _ => rfl
  | _ :: _, [], _, _ => rfl
  | x :: xs, y :: ys, ha, hb => by
    simp only [D.flatL, Bool.and_eq_true] at ha hb
    simp only [D.pyL, PyData.eqvAll, D.eqvL, eqv_py x y ha.1 hb.1, eqvL_py xs ys ha.2 hb.2]
end
mutual
theorem plain_py : ∀ a : D, a.flat = true → a.py.plain = true
  | .non, _ | .bl _, _ | .int _, _ | .str _, _ => rfl
  | .tup a, h => by simp only [D.py, PyData.plain]; exact plainL_py a (by simpa only [D.flat] using h)
  | .lst a, h => by simp only [D.py, PyData.plain]; exact plainL_py a (by simpa only [D.flat] using h)
  | .dct _ _, h => by cases h
theorem plainL_py : ∀ a : List D, D.flatL a = true → PyData.plainAll (D.pyL a) = true
  | [], _ => rfl
  | x :: xs, h => by
    simp only [D.flatL, Bool.and_eq_true] at h
    simp only [D.pyL, PyData.plainAll, plain_py x h.1, plainL_py xs h.2, Bool.and_self]
end
mutual
theorem depth_py : ∀ a : D, a.flat = true → a.py.depth = a.depth
  | .non, _ | .bl _, _ | .int _, _ | .str _, _ => by first | rfl | simp [D.py, PyData.depth, D.depth]
  | .tup a, h => by simp only [D.py, PyData.depth, D.depth]; rw [depthL_py a (by simpa only [D.flat] using h)] <;> first | rfl | omega
  | .lst a, h => by simp only [D.py, PyData.depth, D.depth]; rw [depthL_py a (by simpa only [D.flat] using h)] <;> first | rfl | omega
  | .dct _ _, h => by cases h
theorem depthL_py : ∀ a : List D, D.flatL a = true → PyData.depthAll (D.pyL a) = D.depthL a
  | [], _ => by first | rfl | simp [D.pyL, PyData.depthAll, D.depthL]
  | x :: xs, h => by
    simp only [D.flatL, Bool.and_eq_true] at h
    simp only [D.pyL, PyData.depthAll, D.depthL, depth_py x h.1, depthL_py xs h.2]
end

/-- the key that data is -/
def keyD : D → Option Key
  | .int i => some (.inl i)
  | .str s => some (.inr (toS s))
  | _ => none
/-- a list, a tuple of the module -/
def LsK (K : PySem.W.Frag) (a : Addr) (xs : List V) : Prop := ∃ (o : Obj) (its : Array Value) (n : Nat), K.lookup a = some o ∧ o.cls = .type "list" ∧ o.dict = none ∧ o.data = .seq its n ∧ its.size ≤ sizeLine ∧ Vals xs its.toList
def TpK (K : PySem.W.Frag) (a : Addr) (xs : List V) : Prop := ∃ (o : Obj) (its : Array Value) (n : Nat), K.lookup a = some o ∧ o.cls = .type "tuple" ∧ o.dict = none ∧ o.data = .seq its n ∧ its.size ≤ sizeLine ∧ Vals xs its.toList
/-- a tuple without a dict of its own -/
def TupO (o : Obj) : Prop := o.cls = .type "tuple" ∧ o.dict = none ∧ ∃ its n, o.data = .seq its n
/-- a list that nobody changes -/
def LsM (K : PySem.W.Frag) (M : Addr → Prop) (H : Hp) (a : Addr) (xs : List V) : Prop := (Rd H a (.lst xs) ∧ ¬ M a) ∨ LsK K a xs
def TpM (K : PySem.W.Frag) (M : Addr → Prop) (H : Hp) (a : Addr) (xs : List V) : Prop := (∃ o, H a = some (.frz o (.tup xs)) ∧ TupO o ∧ ¬ M a) ∨ TpK K a xs
theorem LsM.sq {K : PySem.W.Frag} {M : Addr → Prop} {H : Hp} {a : Addr} {xs : List V} (h : LsM K M H a xs) : SqL K H a xs := h.imp (·.1) id
theorem TpM.sq {K : PySem.W.Frag} {M : Addr → Prop} {H : Hp} {a : Addr} {xs : List V} (h : TpM K M H a xs) : SqT K H a xs := h.imp (fun ⟨o, h, _⟩ => .inr ⟨o, h⟩) fun ⟨o, its, n, h1, h2, _, h3⟩ => ⟨o, its, n, h1, h2, h3⟩
/-- the keys of a dict -/
def KeysR (ks : List D) (kvs : List (Key × V)) : Prop := ks.map keyD = kvs.map (fun p => some p.1) ∧ (kvs.map (·.1)).Nodup
mutual
/-- v stands for the data; M: the addresses of what may change, nothing of the data stands there -/
inductive Rp (K : PySem.W.Frag) (M : Addr → Prop) (H : Hp) : D → V → Prop
  | non : Rp K M H .non .non
  | bl (b : Bool) : Rp K M H (.bl b) (.bl b)
  | int (i : Int) : Rp K M H (.int i) (.int i)
  | str (s : List Nat) : s.length ≤ sizeLine → Rp K M H (.str s) (.str (toS s))
  | tup {a : Addr} {vs : List V} {ds : List D} : TpM K M H a vs → RpL K M H ds vs → ds.length ≤ sizeLine → Rp K M H (.tup ds) (.ref a)
  | lst {a : Addr} {vs : List V} {ds : List D} : LsM K M H a vs → RpL K M H ds vs → ds.length ≤ sizeLine → Rp K M H (.lst ds) (.ref a)
  | dct {a : Addr} {kvs : List (Key × V)} {ks vs : List D} : H a = some (.dK kvs) → ¬ M a → KeysR ks kvs → RpL K M H vs (kvs.map (·.2)) → ks.length ≤ sizeLine → Rp K M H (.dct ks vs) (.ref a)
inductive RpL (K : PySem.W.Frag) (M : Addr → Prop) (H : Hp) : List D → List V → Prop
  | nil : RpL K M H [] []
  | cons {d : D} {ds : List D} {v : V} {vs : List V} : Rp K M H d v → RpL K M H ds vs → RpL K M H (d :: ds) (v :: vs)
end
/-- what is kept of a heap: the tracked things that don't stand at M -/
def Kp (M : Addr → Prop) (H H' : Hp) : Prop := ∀ a o, H a = some o → ¬ M a → H' a = some o
/-- of a new set of what may change: nothing that stood and could not change may -/
def Mle (M M' : Addr → Prop) (H : Hp) : Prop := ∀ a o, H a = some o → M' a → M a
section
variable {K : PySem.W.Frag} {M M' : Addr → Prop} {H H' : Hp}
theorem RpL.length : ∀ {ds : List D} {vs : List V}, RpL K M H ds vs → ds.length = vs.length
  | _, _, .nil => rfl
  | _, _, .cons _ t => by rw [List.length_cons, List.length_cons, RpL.length t]
theorem RpL.get : ∀ {ds : List D} {vs : List V} {i : Nat} {d : D}, RpL K M H ds vs → ds[i]? = some d → ∃ v, vs[i]? = some v ∧ Rp K M H d v
  | _, _, _, _, .nil, e => by simp at e
  | _, _, 0, _, .cons r _, e => by simp at e; subst e; exact ⟨_, rfl, r⟩
  | _, _, i + 1, d, .cons _ t, e => by
    obtain ⟨v, h1, h2⟩ := RpL.get (i := i) (d := d) t (by simpa using e)
    exact ⟨v, by simpa using h1, h2⟩
theorem RpL.getV : ∀ {ds : List D} {vs : List V} {i : Nat} {v : V}, RpL K M H ds vs → vs[i]? = some v → ∃ d, ds[i]? = some d ∧ Rp K M H d v
  | _, _, _, _, .nil, e => by simp at e
  | _, _, 0, _, .cons r _, e => by simp at e; subst e; exact ⟨_, rfl, r⟩
  | _, _, i + 1, v, .cons _ t, e => by
    obtain ⟨d, h1, h2⟩ := RpL.getV (i := i) (v := v) t (by simpa using e)
    exact ⟨d, by simpa using h1, h2⟩
theorem RpL.append : ∀ {ds es : List D} {vs ws : List V}, RpL K M H ds vs → RpL K M H es ws → RpL K M H (ds ++ es) (vs ++ ws)
  | _, _, _, _, .nil, s => s
  | _, _, _, _, .cons r t, s => .cons r (RpL.append t s)
theorem RpL.set {d : D} {v : V} (r : Rp K M H d v) : ∀ {ds : List D} {vs : List V} (i : Nat), RpL K M H ds vs → RpL K M H (ds.set i d) (vs.set i v)
  | _, _, _, .nil => .nil
  | _, _, 0, .cons _ t => .cons r t
  | _, _, i + 1, .cons q t => .cons q (RpL.set r i t)
theorem RpL.take : ∀ {ds : List D} {vs : List V} (n : Nat), RpL K M H ds vs → RpL K M H (ds.take n) (vs.take n)
  | _, _, 0, _ => .nil
  | _, _, _ + 1, .nil => .nil
  | _, _, n + 1, .cons r t => .cons r (RpL.take n t)
theorem RpL.drop : ∀ {ds : List D} {vs : List V} (n : Nat), RpL K M H ds vs → RpL K M H (ds.drop n) (vs.drop n)
  | _, _, 0, r => r
  | _, _, _ + 1, .nil => .nil
  | _, _, n + 1, .cons _ t => RpL.drop n t
theorem RpL.reverse : ∀ {ds : List D} {vs : List V}, RpL K M H ds vs → RpL K M H ds.reverse vs.reverse
  | _, _, .nil => .nil
  | _, _, .cons r t => by
    rw [List.reverse_cons, List.reverse_cons]
    exact RpL.append (RpL.reverse t) (.cons r .nil)
theorem Rd.mono {a : Addr} {u : HO} (k : Kp M H H') (n : ¬ M a) (h : Rd H a u) : Rd H' a u := by
  rcases h with h | ⟨o, h⟩
  · exact .inl (k a _ h n)
  · exact .inr ⟨o, k a _ h n⟩
theorem Rd.there {a : Addr} {u : HO} (h : Rd H a u) : ∃ o, H a = some o := h.elim (fun h => ⟨_, h⟩) fun ⟨_, h⟩ => ⟨_, h⟩
theorem LsM.mono {a : Addr} {vs : List V} (k : Kp M H H') (l : Mle M M' H) (h : LsM K M H a vs) : LsM K M' H' a vs := by
  rcases h with ⟨h, n⟩ | h
  · obtain ⟨o, e⟩ := Rd.there h
    exact .inl ⟨Rd.mono k n h, fun m => n (l a o e m)⟩
  · exact .inr h
theorem TpM.mono {a : Addr} {vs : List V} (k : Kp M H H') (l : Mle M M' H) (h : TpM K M H a vs) : TpM K M' H' a vs := by
  rcases h with ⟨o, h, t, n⟩ | h
  · exact .inl ⟨o, k a _ h n, t, fun m => n (l a _ h m)⟩
  · exact .inr h
mutual
theorem Rp.mono (k : Kp M H H') (l : Mle M M' H) : ∀ {d : D} {v : V}, Rp K M H d v → Rp K M' H' d v
  | _, _, .non => .non
  | _, _, .bl b => .bl b
  | _, _, .int i => .int i
  | _, _, .str s h => .str s h
  | _, _, .tup h r z => .tup (h.mono k l) (RpL.mono k l r) z
  | _, _, .lst h r z => .lst (h.mono k l) (RpL.mono k l r) z
  | _, _, .dct h n q r z => .dct (k _ _ h n) (fun m => n (l _ _ h m)) q (RpL.mono k l r) z
theorem RpL.mono (k : Kp M H H') (l : Mle M M' H) : ∀ {ds : List D} {vs : List V}, RpL K M H ds vs → RpL K M' H' ds vs
  | _, _, .nil => .nil
  | _, _, .cons r t => .cons (Rp.mono k l r) (RpL.mono k l t)
end
/-- data that is at hand: a list, a dict may stand in the store -/
def Sq (K : PySem.W.Frag) (M : Addr → Prop) (H : Hp) : D → V → Prop
  | .lst ds, v => ∃ a vs, v = .ref a ∧ SqL K H a vs ∧ RpL K M H ds vs ∧ ds.length ≤ sizeLine
  | .dct ks vs, v => ∃ a kvs, v = .ref a ∧ H a = some (.dK kvs) ∧ KeysR ks kvs ∧ RpL K M H vs (kvs.map (·.2)) ∧ ks.length ≤ sizeLine
  | d, v => Rp K M H d v
theorem Rp.sq {d : D} {v : V} (h : Rp K M H d v) : Sq K M H d v := by
  cases h with
  | lst h r z => exact ⟨_, _, rfl, h.sq, r, z⟩
  | dct h n q r z => exact ⟨_, _, rfl, h, q, r, z⟩
  | non => exact .non
  | bl b => exact .bl b
  | int i => exact .int i
  | str s h => exact .str s h
  | tup h r z => exact .tup h r z
mutual
theorem Rp.dp : ∀ {d : D} {v : V}, Rp K M H d v → d.flat = true → Dp K H v d.py
  | _, _, .non, _ => .non
  | _, _, .bl b, _ => .bl b
  | _, _, .int i, _ => .int i
  | _, _, .str s _, _ => .str _
  | _, _, .tup h r _, f => .tup h.sq (RpL.dp r (by simpa only [D.flat] using f))
  | _, _, .lst h r _, f => .lst h.sq (RpL.dp r (by simpa only [D.flat] using f))
  | _, _, .dct _ _ _ _ _, f => by cases f
theorem RpL.dp : ∀ {ds : List D} {vs : List V}, RpL K M H ds vs → D.flatL ds = true → DpAll K H vs (D.pyL ds)
  | _, _, .nil, _ => .nil
  | _, _, .cons r t, f => by
    simp only [D.flatL, Bool.and_eq_true] at f
    exact .cons (Rp.dp r f.1) (RpL.dp t f.2)
end
theorem Sq.dp {d : D} {v : V} (h : Sq K M H d v) (f : d.flat = true) : Dp K H v d.py := by
  cases d with
  | lst ds =>
    obtain ⟨a, vs, rfl, hs, r, _⟩ := h
    exact .lst hs (r.dp (by simpa only [D.flat] using f))
  | dct _ _ => cases f
  | non => exact Rp.dp h f
  | bl _ => exact Rp.dp h f
  | int _ => exact Rp.dp h f
  | str _ => exact Rp.dp h f
  | tup _ => exact Rp.dp h f
end

/-- a heap, a store, where its things stand; what else may change (lists that are being made) -/
structure Wd where
  H : Hp
  st : Store
  adr : List Addr
  hid : List Addr
/-- the addresses of what may change -/
def Wd.M (w : Wd) (a : Addr) : Prop := (∃ (i : Nat) (o : Ob), w.st[i]? = some o ∧ o ≠ .dead ∧ w.adr[i]? = some a) ∨ a ∈ w.hid
def ObR (K : PySem.W.Frag) (M : Addr → Prop) (H : Hp) (a : Addr) : Ob → Prop
  | .dead => True
  | .lst ds => ∃ vs, H a = some (.lst vs) ∧ RpL K M H ds vs ∧ ds.length ≤ sizeLine
  | .dct ks vs => ∃ kvs, H a = some (.dK kvs) ∧ KeysR ks kvs ∧ RpL K M H vs (kvs.map (·.2)) ∧ ks.length ≤ sizeLine
structure Wd.Ok (K : PySem.W.Frag) (w : Wd) : Prop where
  len : w.adr.length = w.st.length
  inj : ∀ (i j : Nat) (a : Addr) (o o' : Ob), w.st[i]? = some o → o ≠ .dead → w.st[j]? = some o' → o' ≠ .dead → w.adr[i]? = some a → w.adr[j]? = some a → i = j
  obj : ∀ (i : Nat) (a : Addr) (o : Ob), w.st[i]? = some o → w.adr[i]? = some a → ObR K w.M w.H a o
  nohid : ∀ (i : Nat) (a : Addr) (o : Ob), w.st[i]? = some o → o ≠ .dead → w.adr[i]? = some a → a ∉ w.hid
  hids : ∀ a ∈ w.hid, ∃ o, w.H a = some o
/-- what stays of a world for those who read -/
structure Wd.Lm (w w' : Wd) : Prop where
  pre : ∀ (i : Nat) (a : Addr), w.adr[i]? = some a → w'.adr[i]? = some a
  keep : Kp w.M w.H w'.H
  mt : Mle w.M w'.M w.H
/-- what has become of a world -/
structure Wd.Le (w w' : Wd) : Prop where
  lm : w.Lm w'
  hid : w'.hid = w.hid
  hk : ∀ a ∈ w.hid, w'.H a = w.H a
section
variable {K : PySem.W.Frag} {w w' w'' : Wd}
theorem Wd.Lm.refl : w.Lm w := ⟨fun _ _ h => h, fun _ _ h _ => h, fun _ _ _ h => h⟩
theorem Wd.Lm.trans (a : w.Lm w') (b : w'.Lm w'') : w.Lm w'' := by
  refine ⟨fun i x h => b.pre i x (a.pre i x h), fun x o h n => b.keep x o (a.keep x o h n) fun m => n (a.mt x o h m), fun x o h m => ?_⟩
  by_cases n : w.M x
  · exact n
  · exact a.mt x o h (b.mt x o (a.keep x o h n) m)
theorem Wd.Le.refl : w.Le w := ⟨.refl, rfl, fun _ _ => rfl⟩
theorem Wd.Le.trans (a : w.Le w') (b : w'.Le w'') : w.Le w'' := ⟨a.lm.trans b.lm, b.hid.trans a.hid, fun x h => (b.hk x (by rw [a.hid]; exact h)).trans (a.hk x h)⟩
theorem Wd.Ok.there (ok : w.Ok K) {a : Addr} (m : w.M a) : ∃ o, w.H a = some o := by
  rcases m with ⟨i, o, h1, h2, h3⟩ | m
  · have := ok.obj i a o h1 h3
    cases o with
    | dead => exact absurd rfl h2
    | lst ds => obtain ⟨vs, h, _⟩ := this; exact ⟨_, h⟩
    | dct ks vs => obtain ⟨kvs, h, _⟩ := this; exact ⟨_, h⟩
  · exact ok.hids a m
theorem ObR.mono {M M' : Addr → Prop} {H H' : Hp} {a : Addr} {o : Ob} (k : Kp M H H') (l : Mle M M' H) (e : ∀ u, H a = some u → H' a = some u) (h : ObR K M H a o) : ObR K M' H' a o := by
  cases o with
  | dead => trivial
  | lst ds => obtain ⟨vs, h, r, z⟩ := h; exact ⟨vs, e _ h, r.mono k l, z⟩
  | dct ks vs => obtain ⟨kvs, h, q, r, z⟩ := h; exact ⟨kvs, e _ h, q, r.mono k l, z⟩
/-- the heap grew, all that stood stands -/
def Ext (H H' : Hp) : Prop := ∀ a o, H a = some o → H' a = some o
theorem Ext.refl {H : Hp} : Ext H H := fun _ _ h => h
theorem Ext.trans {H H1 H2 : Hp} (a : Ext H H1) (b : Ext H1 H2) : Ext H H2 := fun x o h => b x o (a x o h)
theorem Ext.kp {M : Addr → Prop} {H H' : Hp} (e : Ext H H') : Kp M H H' := fun a o h _ => e a o h
theorem Mle.refl {M : Addr → Prop} {H : Hp} : Mle M M H := fun _ _ _ h => h
theorem Ext.new {H : Hp} {p : Addr} {o : HO} (n : H p = none) : Ext H (upd H p o) := fun a u h => by rw [upd_ne (ne_of_none h n)]; exact h
theorem Wd.ext {H' : Hp} (ok : w.Ok K) (e : Ext w.H H') : (Wd.mk H' w.st w.adr w.hid).Ok K ∧ w.Le ⟨H', w.st, w.adr, w.hid⟩ :=
  ⟨⟨ok.len, ok.inj, fun i a o h1 h2 => (ok.obj i a o h1 h2).mono (M := w.M) (H := w.H) e.kp Mle.refl (fun u h => e a u h), ok.nohid, fun a h => let ⟨o, q⟩ := ok.hids a h; ⟨o, e a o q⟩⟩,
    ⟨fun _ _ h => h, e.kp, fun _ _ _ h => h⟩, rfl, fun a h => by obtain ⟨o, q⟩ := ok.hids a h; rw [q]; exact e a o q⟩
/-- what a value of ours stands for -/
def RV (K : PySem.W.Frag) (w : Wd) : Va → V → Prop
  | .d x, v => Rp K w.M w.H x v
  | .r i, v => ∃ a, w.adr[i]? = some a ∧ v = .ref a
  | .e a, v => v = .ref a
theorem RV.monom {va : Va} {v : V} (l : w.Lm w') (h : RV K w va v) : RV K w' va v := by
  cases va with
  | d x => exact Rp.mono l.keep l.mt h
  | r i => obtain ⟨a, e, rfl⟩ := h; exact ⟨a, l.pre i a e, rfl⟩
  | e c => exact h
theorem RV.mono {va : Va} {v : V} (l : w.Le w') (h : RV K w va v) : RV K w' va v := h.monom l.lm
inductive RVL (K : PySem.W.Frag) (w : Wd) : List Va → List V → Prop
  | nil : RVL K w [] []
  | cons {va : Va} {vas : List Va} {v : V} {vs : List V} : RV K w va v → RVL K w vas vs → RVL K w (va :: vas) (v :: vs)
theorem RVL.mono (l : w.Le w') : ∀ {vas : List Va} {vs : List V}, RVL K w vas vs → RVL K w' vas vs
  | _, _, .nil => .nil
  | _, _, .cons r t => .cons (r.mono l) (RVL.mono l t)
theorem RVL.length : ∀ {vas : List Va} {vs : List V}, RVL K w vas vs → vas.length = vs.length
  | _, _, .nil => rfl
  | _, _, .cons _ t => by rw [List.length_cons, List.length_cons, RVL.length t]
theorem ld_ok (ok : w.Ok K) {va : Va} {v : V} {d : D} (h : RV K w va v) (e : ld w.st va = some d) : Sq K w.M w.H d v := by
  cases va with
  | d x =>
    have e1 : x = d := Option.some.inj e
    subst e1
    exact Rp.sq h
  | r i =>
    obtain ⟨a, ha, rfl⟩ := h
    simp only [ld] at e
    cases q : w.st[i]? with
    | none => rw [q] at e; cases e
    | some o =>
      rw [q] at e
      have ob := ok.obj i a o q ha
      cases o with
      | dead => cases e
      | lst ds =>
        have e1 : D.lst ds = d := Option.some.inj e
        subst e1
        obtain ⟨vs, h1, h2, z⟩ := ob
        exact ⟨a, vs, rfl, SqL.of h1, h2, z⟩
      | dct ks vs =>
        have e1 : D.dct ks vs = d := Option.some.inj e
        subst e1
        obtain ⟨kvs, h1, h2, h3, z⟩ := ob
        exact ⟨a, kvs, rfl, h1, h2, h3, z⟩
  | e c => cases e
theorem dsOf_ok {M : Addr → Prop} : ∀ {vas : List Va} {vs : List V} {ds : List D}, RVL K w vas vs → dsOf vas = some ds → RpL K w.M w.H ds vs
  | [], _, _, .nil, e => by cases e; exact .nil
  | .d x :: r, _, ds, .cons h t, e => by
    simp only [dsOf, Option.map_eq_some_iff] at e
    obtain ⟨ds', e1, rfl⟩ := e
    exact .cons h (dsOf_ok (M := M) t e1)
  | .r _ :: _, _, _, _, e => by cases e
  | .e _ :: _, _, _, _, e => by cases e
/-- the names' values -/
structure EnvR (K : PySem.W.Frag) (w : Wd) (env : Env) (σ : Sl) : Prop where
  len : env.length = σ.length
  at_ : ∀ (i : Nat) (va : Va), env[i]? = some (some va) → ∃ v, σ[i]? = some (some v) ∧ RV K w va v
theorem EnvR.monom {env : Env} {σ : Sl} (l : w.Lm w') (h : EnvR K w env σ) : EnvR K w' env σ :=
  ⟨h.len, fun i va e => let ⟨v, h1, h2⟩ := h.at_ i va e; ⟨v, h1, h2.monom l⟩⟩
theorem EnvR.mono {env : Env} {σ : Sl} (l : w.Le w') (h : EnvR K w env σ) : EnvR K w' env σ := h.monom l.lm
theorem EnvR.set {env : Env} {σ : Sl} {i : Nat} {va : Va} {v : V} (h : EnvR K w env σ) (r : RV K w va v) : EnvR K w (env.set i (some va)) (σ.set i (some v)) := by
  refine ⟨by rw [List.length_set, List.length_set]; exact h.len, fun j vb e => ?_⟩
  by_cases hj : i = j
  · subst hj
    by_cases hl : i < env.length
    · rw [List.getElem?_set_self hl] at e
      cases e
      exact ⟨v, List.getElem?_set_self (by rw [← h.len]; exact hl), r⟩
    · rw [List.getElem?_eq_none (by rw [List.length_set]; omega)] at e
      cases e
  · rw [List.getElem?_set_ne hj] at e
    rw [List.getElem?_set_ne hj]
    exact h.at_ j vb e
end
end Ev

namespace Ev
open PySem PySem.Spec PyProof.Rows L2

section
variable {α β : Type}
/-- an error's code: its class, and whether it was raised where another was handled -/
def ct (n : Nat) : Option Addr := if n % 2 = 0 then none else some 1
/-- what is wanted of an evaluation's end: R says what its value stands for, W what is wished of an error -/
def post (K : PySem.W.Frag) (ca : Nat → Addr) (W : WX) (R : Wd → α → β → Prop) (w : Wd) (σ : Sl) (Q : β → Hp → Prop) : Res α → Prop
  | .ok a st => ∀ (b : β) (w' : Wd), w'.st = st → w'.Ok K → w.Le w' → R w' a b → Q b w'.H
  | .er c st => ∀ w' : Wd, w'.st = st → w'.Ok K → w.Le w' → W (.ref (ca c)) (ct c) σ w'.H
  | .no => False
/-- the reading of an evaluation -/
def tM (K : PySem.W.Frag) (ca : Nat → Addr) (W : WX) (R : Wd → α → β → Prop) (m : Env → Store → Res α) : Sl → Hp → (β → Hp → Prop) → Prop := fun σ H Q =>
  ∃ (env : Env) (w : Wd), w.H = H ∧ w.Ok K ∧ EnvR K w env σ ∧ post K ca W R w σ Q (m env w.st)
end
section
variable {α β γ δ : Type} {K : PySem.W.Frag} {ca : Nat → Addr} {W : WX} {R : Wd → α → β → Prop} {R' : Wd → γ → δ → Prop} {w w' : Wd} {σ : Sl}
theorem post.mono {Q : β → Hp → Prop} (l : w.Le w') : ∀ {r : Res α}, post K ca W R w σ Q r → post K ca W R w' σ Q r
  | .ok _ _, h => fun b w2 e ok l2 r => h b w2 e ok (l.trans l2) r
  | .er _ _, h => fun w2 e ok l2 => h w2 e ok (l.trans l2)
  | .no, h => h
theorem post.imp {Q Q' : β → Hp → Prop} (i : ∀ b H, Q b H → Q' b H) : ∀ {r : Res α}, post K ca W R w σ Q r → post K ca W R w σ Q' r
  | .ok _ _, h => fun b w2 e ok l2 r => i _ _ (h b w2 e ok l2 r)
  | .er _ _, h => h
  | .no, h => h
/-- one evaluation behind another -/
theorem post.bind {k : α → Store → Res γ} {Q : δ → Hp → Prop} : ∀ {r : Res α}, post K ca W R' w σ Q (r.bind k) →
    post K ca W R w σ (fun b H => ∃ (a : α) (w1 : Wd), w1.H = H ∧ w1.Ok K ∧ w.Le w1 ∧ R w1 a b ∧ post K ca W R' w1 σ Q (k a w1.st)) r
  | .ok a st, h => fun b w1 e ok l r => ⟨a, w1, rfl, ok, l, r, by
      subst e
      exact post.mono l h⟩
  | .er c st, h => h
  | .no, h => h
/-- .. where the first one's end is told -/
theorem post.bindE {k : α → Store → Res γ} {Q : δ → Hp → Prop} : ∀ {r : Res α}, post K ca W R' w σ Q (r.bind k) →
    post K ca W R w σ (fun b H => ∃ (a : α) (w1 : Wd), w1.H = H ∧ w1.Ok K ∧ w.Le w1 ∧ R w1 a b ∧ r = .ok a w1.st ∧ post K ca W R' w1 σ Q (k a w1.st)) r
  | .ok a st, h => fun b w1 e ok l r => ⟨a, w1, rfl, ok, l, r, by rw [e], by
      subst e
      exact post.mono l h⟩
  | .er c st, h => h
  | .no, h => h
theorem PE.imp {X : Cx} {e : Expr} {t t' : TE} (h : PE X e t) (i : ∀ σ H Q, t' σ H Q → t σ H Q) : PE X e t' := ⟨fun pins s σ H Q I hw => h.run pins s σ H Q I (i σ H Q hw)⟩
theorem PT.imp {X : Cx} {e : Expr} {t t' : TT} (h : PT X e t) (i : ∀ σ H Q, t' σ H Q → t σ H Q) : PT X e t' := ⟨fun pins s σ H Q I hw => h.run pins s σ H Q I (i σ H Q hw)⟩
theorem PW.imp {X : Cx} {e : Expr} {t t' : TT} (h : PW X e t) (i : ∀ σ H Q, t' σ H Q → t σ H Q) : PW X e t' := ⟨fun wh pins s σ H Q I hw => h.run wh pins s σ H Q I (i σ H Q hw)⟩
theorem PA.imp {X : Cx} {e : List Expr} {t t' : TA} (h : PA X e t) (i : ∀ σ H Q, t' σ H Q → t σ H Q) : PA X e t' := ⟨fun pos pins s σ H Q I hw => h.run pos pins s σ H Q I (i σ H Q hw)⟩

/-- two values, then what is done with them -/
theorem two {r : R2} {ma mb : Env → Store → Res Va} {k : Va → Va → Store → Res Va}
    (hk : ∀ (w : Wd) va vb x y σ (Q : VK), w.Ok K → RV K w va x → RV K w vb y → post K ca W (RV K) w σ Q (k va vb w.st) → r x y w.H Q) (σ : Sl) (H : Hp) (Q : VK)
    (h : tM K ca W (RV K) (fun env st => (ma env st).bind fun va st1 => (mb env st1).bind fun vb st2 => k va vb st2) σ H Q) :
    tOp r (tM K ca W (RV K) ma) (tM K ca W (RV K) mb) σ H Q := by
  obtain ⟨env, w, rfl, ok, E, p⟩ := h
  refine ⟨env, w, rfl, ok, E, (post.bind (R := RV K) p).imp fun x H1 q => ?_⟩
  obtain ⟨va, w1, rfl, ok1, l1, r1, p1⟩ := q
  refine ⟨env, w1, rfl, ok1, E.mono l1, (post.bind (R := RV K) p1).imp fun y H2 q => ?_⟩
  obtain ⟨vb, w2, rfl, ok2, l2, r2, p2⟩ := q
  exact hk w2 va vb x y σ Q ok2 (r1.mono l2) r2 p2
theorem one {r : V → Hp → VK → Prop} {ma : Env → Store → Res Va} {k : Va → Store → Res Va}
    (hk : ∀ (w : Wd) va x σ (Q : VK), w.Ok K → RV K w va x → post K ca W (RV K) w σ Q (k va w.st) → r x w.H Q) (σ : Sl) (H : Hp) (Q : VK)
    (h : tM K ca W (RV K) (fun env st => (ma env st).bind fun va st1 => k va st1) σ H Q) :
    tUn r (tM K ca W (RV K) ma) σ H Q := by
  obtain ⟨env, w, rfl, ok, E, p⟩ := h
  refine ⟨env, w, rfl, ok, E, (post.bind (R := RV K) p).imp fun x H1 q => ?_⟩
  obtain ⟨va, w1, rfl, ok1, l1, r1, p1⟩ := q
  exact hk w1 va x σ Q ok1 r1 p1
/-- a value of data, told in a heap that grew -/
theorem post_data {Q : VK} {d : D} (ok : w.Ok K) (p : post K ca W (RV K) w σ Q (.ok (.d d) w.st)) {z : V} {H' : Hp} (e : Ext w.H H') (r : Rp K w.M H' d z) : Q z H' := by
  obtain ⟨ok', l⟩ := Wd.ext ok e
  exact p z ⟨H', w.st, w.adr, w.hid⟩ rfl ok' l r
theorem post_bool {Q : VK} {b : Bool} (ok : w.Ok K) (p : post K ca W (RV K) w σ Q (.ok (.d (.bl b)) w.st)) : Q (.bl b) w.H := post_data ok p Ext.refl (.bl b)
end

/-- an operation that makes data of data and changes nothing -/
def rD (K : PySem.W.Frag) (g : D → D → Option D) : R2 := fun x y H Q => ∃ (M : Addr → Prop) (d1 d2 d3 : D), Sq K M H d1 x ∧ Sq K M H d2 y ∧ g d1 d2 = some d3 ∧ (∀ a, M a → ∃ o, H a = some o) ∧
  ∀ z H', Ext H H' → Rp K M H' d3 z → Q z H'
def rB (K : PySem.W.Frag) (g : D → D → Option Bool) : R2 := fun x y H Q => ∃ (M : Addr → Prop) (d1 d2 : D) (b : Bool), Sq K M H d1 x ∧ Sq K M H d2 y ∧ g d1 d2 = some b ∧ Q (.bl b) H
section
variable {K : PySem.W.Frag} {ca : Nat → Addr} {W : WX} {g : D → D → Option D} {gb : D → D → Option Bool}
theorem rD_of (w : Wd) (va vb : Va) (x y : V) (σ : Sl) (Q : VK) (ok : w.Ok K) (rx : RV K w va x) (ry : RV K w vb y) (p : post K ca W (RV K) w σ Q (ldk va w.st fun x => ldk vb w.st fun y => ofO (g x y) w.st)) : rD K g x y w.H Q := by
  unfold ldk at p
  cases e1 : ld w.st va with
  | none => simp only [e1, post] at p
  | some d1 =>
    cases e2 : ld w.st vb with
    | none => simp only [e1, e2, post] at p
    | some d2 =>
      cases e3 : g d1 d2 with
      | none => simp only [e1, e2, e3, ofO, post] at p
      | some d3 =>
        simp only [e1, e2, e3, ofO] at p
        exact ⟨w.M, d1, d2, d3, ld_ok ok rx e1, ld_ok ok ry e2, e3, fun a m => ok.there m, fun z H' e r => post_data ok p e r⟩
theorem rB_of (w : Wd) (va vb : Va) (x y : V) (σ : Sl) (Q : VK) (ok : w.Ok K) (rx : RV K w va x) (ry : RV K w vb y) (p : post K ca W (RV K) w σ Q (ldk va w.st fun x => ldk vb w.st fun y => ofB' (gb x y) w.st)) : rB K gb x y w.H Q := by
  unfold ldk at p
  cases e1 : ld w.st va with
  | none => simp only [e1, post] at p
  | some d1 =>
    cases e2 : ld w.st vb with
    | none => simp only [e1, e2, post] at p
    | some d2 =>
      cases e3 : gb d1 d2 with
      | none => simp only [e1, e2, e3, ofB', post] at p
      | some b =>
        simp only [e1, e2, e3, ofB'] at p
        exact ⟨w.M, d1, d2, b, ld_ok ok rx e1, ld_ok ok ry e2, e3, post_bool ok p⟩
end
section
variable {X : Cx} {M : Addr → Prop} {H : Hp} {x y : V}
theorem Sq.int {K : PySem.W.Frag} {i : Int} (h : Sq K M H (.int i) x) : x = .int i := by cases h; rfl
theorem Sq.bl {K : PySem.W.Frag} {i : Bool} (h : Sq K M H (.bl i) x) : x = .bl i := by cases h; rfl
theorem Sq.non {K : PySem.W.Frag} (h : Sq K M H .non x) : x = .non := by cases h; rfl
theorem Sq.str {K : PySem.W.Frag} {s : List Nat} (h : Sq K M H (.str s) x) : x = .str (toS s) ∧ s.length ≤ sizeLine := by
  cases h with
  | str _ hz => exact ⟨rfl, hz⟩
theorem Sq.tup {K : PySem.W.Frag} {ds : List D} (h : Sq K M H (.tup ds) x) : ∃ a vs, x = .ref a ∧ TpM K M H a vs ∧ RpL K M H ds vs ∧ ds.length ≤ sizeLine := by
  cases h with
  | tup h r z => exact ⟨_, _, rfl, h, r, z⟩
theorem toS_len (s : List Nat) : (toS s).length = s.length := by simp [toS, Str.length]
theorem toS_app (s t : List Nat) : toS s ++ toS t = toS (s ++ t) := by
  show Str.mk _ = _
  simp [toS]
theorem SZ_eq : SZ = sizeLine := by rw [sizeLine_eq]
theorem nM_of {a : Addr} (m : ∀ a, M a → ∃ o, H a = some o) (n : H a = none) : ¬ M a := fun q => by
  obtain ⟨o, e⟩ := m a q
  rw [n] at e; cases e
/-- a new tuple, a new list stands for data -/
theorem Rp.newT {K : PySem.W.Frag} {p : Addr} {ob : Obj} {vs : List V} {ds : List D} (m : ∀ a, M a → ∃ o, H a = some o) (n : H p = none) (t : TupO ob) (r : RpL K M H ds vs) (z : ds.length ≤ sizeLine) : Rp K M (upd H p (.frz ob (.tup vs))) (.tup ds) (.ref p) :=
  .tup (.inl ⟨ob, upd_same, t, nM_of m n⟩) (r.mono (Ext.new n).kp Mle.refl) z
theorem Rp.newL {K : PySem.W.Frag} {p : Addr} {vs : List V} {ds : List D} (m : ∀ a, M a → ∃ o, H a = some o) (n : H p = none) (r : RpL K M H ds vs) (z : ds.length ≤ sizeLine) : Rp K M (upd H p (.lst vs)) (.lst ds) (.ref p) :=
  .lst (.inl ⟨.inl upd_same, nM_of m n⟩) (r.mono (Ext.new n).kp Mle.refl) z
/-- list + list, wherever the lists stand -/
def rCatL (K : PySem.W.Frag) : R2 := fun x y H Q => ∃ l b xs zs, x = .ref l ∧ y = .ref b ∧ SqL K H l xs ∧ SqL K H b zs ∧ xs.length + zs.length ≤ sizeLine ∧ ∀ p, H p = none → Q (.ref p) (upd H p (.lst (xs ++ zs)))
theorem op_catL : OpR X (binaryOp .Add) (rCatL X.K) := by
  intro pins s σ H x y v u Q I rx ry h
  obtain ⟨l, b, xs, zs, rfl, rfl, hH, hB, hz, q⟩ := h
  cases rx
  cases ry
  obtain ⟨its, r, p1, hl⟩ := I.list hH
  obtain ⟨its2, r2, p2, hl2⟩ := I.list hB
  have e1 := r.length
  have e2 := r2.length
  obtain ⟨⟨cls, dd, data, sl⟩, n, ho, hc, hd, hdt⟩ := id p1
  obtain ⟨⟨cls2, dd2, data2, sl2⟩, n2, ho2, hc2, hd2, hdt2⟩ := id p2
  simp only at hc hd hc2 hd2 hdt hdt2
  subst hc hd hc2 hd2 hdt hdt2
  have e : its.toArray ++ its2.toArray = (its ++ its2).toArray := by simp
  refine concat_meets ⟨_, ho, rfl⟩ ⟨_, ho2, rfl⟩ noFill_list_add seq_list_add PySem.F.slot_list_add PySem.F.entry_list_add (PySem.F.args_list_add_2 _ _) (list_addW l b its.toArray its2.toArray n n2 none none sl sl2 (by simp only [List.size_toArray]; omega)) ⟨ho, ho2, ?_⟩
  rw [e]
  exact ⟨.ref _, _, I.lnew (t' := s.toks) (r.append r2) (by rw [List.length_append]; omega), rfl, q _ I.fresh⟩
theorem tup_laid {pins : List (Addr × Obj)} {σ : Sl} {s : Shared} {t' : Nat} {xs : List V} {its : List Value} (I : Inv X pins σ H s) (r : Vals xs its) (z : xs.length ≤ sizeLine) :
    Inv X pins σ (upd H s.heap.objs.size (.frz { cls := .type "tuple", data := .seq its.toArray } (.tup xs))) { s with heap := s.heap.push { cls := .type "tuple", data := .seq its.toArray }, toks := t' } :=
  have get := Heap.get?_push_size s.heap (o := { cls := .type "tuple", data := .seq its.toArray }) rfl
  I.laid (fun _ _ e => Heap.get?_push_of_some _ e) (Nat.le_refl _) ⟨get, z, its, r, ⟨_, get, rfl, _, rfl⟩⟩
theorem tupO_new {its : Array Value} : TupO { cls := .type "tuple", data := .seq its } := ⟨rfl, rfl, _, _, rfl⟩
/-- t + u -/
def rCatF (K : PySem.W.Frag) : R2 := fun x y H Q => ∃ a b xs ys, x = .ref a ∧ y = .ref b ∧ SqT K H a xs ∧ SqT K H b ys ∧ xs.length + ys.length ≤ sizeLine ∧
  (xs = [] → Q (.ref b) H) ∧ (xs ≠ [] → ys = [] → Q (.ref a) H) ∧ ∀ p ob, TupO ob → H p = none → Q (.ref p) (upd H p (.frz ob (.tup (xs ++ ys))))
theorem op_catF : OpR X (binaryOp .Add) (rCatF X.K) := by
  intro pins s σ H x y v u Q I rx ry h
  obtain ⟨a, b, xs, ys, rfl, rfl, ha, hb, hz, q0, q1, q2⟩ := h
  by_cases hx : xs = []
  · exact op_catA pins s σ H _ _ v u Q I rx ry ⟨a, b, xs, ys, rfl, rfl, ha, hb, hz, q0, q1, fun z => absurd hx z⟩
  · by_cases hy : ys = []
    · exact op_catA pins s σ H _ _ v u Q I rx ry ⟨a, b, xs, ys, rfl, rfl, ha, hb, hz, q0, q1, fun _ z => absurd hy z⟩
    · cases rx
      cases ry
      obtain ⟨its, r1, p1, _⟩ := I.tuple ha
      obtain ⟨its2, r2, p2, _⟩ := I.tuple hb
      have n1 : its ≠ [] := fun z => hx (r1.nil_iff.mp z)
      have n2 : its2 ≠ [] := fun z => hy (r2.nil_iff.mp z)
      refine HT.cat_tup p1 p2 n1 (fun z => absurd z n2) (fun _ => ?_) (by rw [← r1.length, ← r2.length]; exact hz)
      exact ⟨.ref _, _, tup_laid (t' := s.toks) I (r1.append r2) (by rw [List.length_append]; exact hz), rfl, q2 _ _ tupO_new I.fresh⟩
theorem bin_add : OpR X (binaryOp .Add) (rD X.K (opBin .add)) := by
  intro pins s σ H x y v u Q I rx ry h
  obtain ⟨M, d1, d2, d3, h1, h2, e, m, q⟩ := h
  cases d1 with
  | int i =>
    cases d2 with
    | int j =>
      cases e
      obtain rfl := h1.int
      obtain rfl := h2.int
      exact op_add pins s σ H _ _ v u Q I rx ry ⟨i, j, rfl, rfl, q _ _ Ext.refl (.int _)⟩
    | _ => cases e
  | str a =>
    cases d2 with
    | str b =>
      simp only [opBin] at e
      split at e
      · rename_i hz
        cases e
        obtain ⟨rfl, ha⟩ := h1.str
        obtain ⟨rfl, hb⟩ := h2.str
        rw [SZ_eq] at hz
        refine op_add_str pins s σ H _ _ v u Q I rx ry ⟨_, _, rfl, rfl, by rw [toS_len, toS_len]; exact hz, ?_⟩
        rw [toS_app]
        exact q _ _ Ext.refl (.str _ (by rw [List.length_append]; exact hz))
      · cases e
    | _ => cases e
  | tup a =>
    cases d2 with
    | tup b =>
      simp only [opBin] at e
      split at e
      · rename_i hz
        cases e
        obtain ⟨l, vs, rfl, ta, ra, za⟩ := h1.tup
        obtain ⟨l2, ws, rfl, tb, rb, zb⟩ := h2.tup
        rw [SZ_eq] at hz
        refine op_catF pins s σ H _ _ v u Q I rx ry ⟨l, l2, vs, ws, rfl, rfl, ta.sq, tb.sq, by rw [← ra.length, ← rb.length]; exact hz, ?_⟩
        have fin := fun (p : Addr) (ob : Obj) (t : TupO ob) (n : H p = none) => q _ _ (Ext.new n) (Rp.newT m n t (ra.append rb) (by rw [List.length_append]; exact hz))
        refine ⟨fun e => ?_, fun _ e => ?_, fin⟩
        · subst e
          cases ra
          exact q _ _ Ext.refl (.tup tb rb zb)
        · subst e
          cases rb
          rw [List.append_nil] at q
          exact q _ _ Ext.refl (.tup ta ra za)
      · cases e
    | _ => cases e
  | lst a =>
    cases d2 with
    | lst b =>
      simp only [opBin] at e
      split at e
      · rename_i hz
        cases e
        obtain ⟨l, vs, rfl, ta, ra, _⟩ := h1
        obtain ⟨l2, ws, rfl, tb, rb, _⟩ := h2
        rw [SZ_eq] at hz
        refine op_catL pins s σ H _ _ v u Q I rx ry ⟨l, l2, vs, ws, rfl, rfl, ta, tb, by rw [← ra.length, ← rb.length]; exact hz, fun p n => ?_⟩
        exact q _ _ (Ext.new n) (.newL m n (ra.append rb) (by rw [List.length_append]; exact hz))
      · cases e
    | _ => cases e
  | non => cases e
  | bl b => cases d2 <;> cases e
  | dct _ _ => cases d2 <;> cases e
theorem bin_sub : OpR X (binaryOp .Sub) (rD X.K (opBin .sub)) := by
  intro pins s σ H x y v u Q I rx ry h
  obtain ⟨M, d1, d2, d3, h1, h2, e, m, q⟩ := h
  cases d1 <;> cases d2 <;> first | (cases e; done) | skip
  cases e
  obtain rfl := h1.int
  obtain rfl := h2.int
  exact op_sub pins s σ H _ _ v u Q I rx ry ⟨_, _, rfl, rfl, q _ _ Ext.refl (.int _)⟩
theorem log2_small {n k : Nat} (h : n < 2 ^ k) (hk : 0 < k) : n.log2 < k := PySem.Flt.log2_lt_of hk h
/-- t * k -/
def rRepF (K : PySem.W.Frag) : R2 := fun x y H Q => ∃ l k xs, x = .ref l ∧ y = .int k ∧ SqT K H l xs ∧ xs ≠ [] ∧ 2 ≤ k ∧ k ≤ 1000 ∧ xs.length ≤ 1000 ∧ ∀ p ob, TupO ob → H p = none → Q (.ref p) (upd H p (.frz ob (.tup (List.replicate k.toNat xs).flatten)))
theorem rep_len {α : Type} (xs : List α) (n : Nat) (h : n ≤ 1000) (h2 : xs.length ≤ 1000) : (List.replicate n xs).flatten.length ≤ sizeLine := by
  rw [PyProof.Rows.lm_len_rep_flat, sizeLine_eq]
  exact Nat.le_trans (Nat.mul_le_mul h h2) (by decide)
theorem op_repF : OpR X (binaryOp .Mult) (rRepF X.K) := by
  intro pins s σ H x y v u Q I rx ry h
  obtain ⟨l, k, xs, rfl, rfl, hT, hne, k1, k2, hz, q⟩ := h
  obtain ⟨t, rfl⟩ := ry
  cases rx
  obtain ⟨its, r, ⟨o, ho, hc, n, hd⟩, _⟩ := I.tuple hT
  obtain ⟨oc, dd, da, sl⟩ := o
  simp only at hc hd
  subst hc hd
  have le : its.length = xs.length := r.length.symm
  have ne : its.toArray.isEmpty = false := by
    cases its with
    | nil => exact absurd (List.eq_nil_of_length_eq_zero le.symm) hne
    | cons _ _ => rfl
  have sz : its.toArray.size = xs.length := by rw [List.size_toArray, le]
  have big : ((its.toArray.size : Nat) : Int) * k ≤ 1000 * 1000 := by
    rw [sz]
    refine Int.le_trans (Int.mul_le_mul_of_nonneg_right (b := 1000) (by omega) (by omega)) ?_
    exact Int.mul_le_mul_of_nonneg_left k2 (by omega)
  have a0 : (decide (k < -(2 ^ 63)) || decide (k ≥ 2 ^ 63)) = false := by rw [decide_eq_false (by omega), decide_eq_false (by omega)]; rfl
  have a1 : (its.toArray.isEmpty || k == 1) = false := by rw [ne, Bool.false_or, beq_eq_false_iff_ne]; omega
  have a2 : (decide (k ≤ 0) || its.toArray.isEmpty) = false := by rw [ne, Bool.or_false, decide_eq_false (by omega)]
  have a4 : Builtin.Tuple.tupleTooMany (((its.toArray.size : Nat) : Int) * k) = false := by
    unfold Builtin.Tuple.tupleTooMany
    rw [sizeLine_eq, decide_eq_false (by omega)]
  have fit : (List.replicate k.toNat its).flatten.length ≤ sizeLine := rep_len its _ (by omega) (by omega)
  refine wpAny_binaryOp_repeat_ref (T := "tuple") (U := "int") (by decide) ⟨_, ho, rfl⟩ (fun s' => typeIs_int s' k t) noFill_tuple_mul F.fills_int_mul F.slot_int_rmul repeat_tuple F.slot_int_index.lookup ?_
  refine call_meets F.slot_int_rmul (typeIs_int s k t) F.entry_int_rmul (F.args_int_rmul_2 _ _) (int_rmul_tuple k t l its.toArray n dd sl) ⟨ho, rfl, ⟨_, ho, rfl⟩, ?_⟩
  refine call_meets F.slot_tuple_mul ⟨_, ho, rfl⟩ F.entry_tuple_mul (F.args_tuple_mul_2 _ _) (tuple_mulW l its.toArray n dd sl k t a0 a1 a2 (by omega) a4 (by rw [size_rep, List.size_toArray]; exact fit)) ⟨ho, ?_⟩
  rw [size_rep]
  exact ⟨.ref _, _, tup_laid (t' := s.toks) I (r.rep k.toNat) (rep_len xs _ (by omega) hz), rfl, q _ _ tupO_new I.fresh⟩
theorem rep_rp {K : PySem.W.Frag} {ds : List D} {vs : List V} (r : RpL K M H ds vs) : ∀ n : Nat, RpL K M H (rep ds n) (List.replicate n vs).flatten
  | 0 => .nil
  | n + 1 => by
    have := r.append (rep_rp r n)
    simpa [rep, List.replicate_succ] using this
theorem bin_mul : OpR X (binaryOp .Mult) (rD X.K (opBin .mul)) := by
  intro pins s σ H x y v u Q I rx ry h
  obtain ⟨M, d1, d2, d3, h1, h2, e, m, q⟩ := h
  cases d1 <;> cases d2 <;> first | (cases e; done) | skip
  rename_i i j
  rotate_left
  · rename_i xs j
    simp only [opBin] at e
    split at e
    · rename_i hz
      cases e
      obtain ⟨a, vs, rfl, ta, ra, za⟩ := h1.tup
      obtain rfl := h2.int
      have ne : vs ≠ [] := fun z => by
        subst z
        cases ra
        exact hz.2.2.1 rfl
      refine op_repF pins s σ H _ _ v u Q I rx ry ⟨a, j, vs, rfl, rfl, ta.sq, ne, hz.1, hz.2.1, by rw [← ra.length]; exact hz.2.2.2, fun p ob t n => q _ _ (Ext.new n) (.newT m n t (rep_rp ra _) (rep_len _ _ (by omega) hz.2.2.2))⟩
    · cases e
  simp only [opBin] at e
  split at e
  · rename_i hz
    cases e
    obtain rfl := h1.int
    obtain rfl := h2.int
    have fin := q _ _ Ext.refl (.int _)
    unfold mulOk at hz
    simp only [Bool.or_eq_true, Bool.and_eq_true, decide_eq_true_eq] at hz
    rcases hz with (hz | hz) | ⟨h1, h2⟩
    · exact op_mul pins s σ H _ _ v u Q I rx ry ⟨_, _, rfl, rfl, .inl ⟨by omega, by omega⟩, fin⟩
    · exact op_mul pins s σ H _ _ v u Q I rx ry ⟨_, _, rfl, rfl, .inr ⟨by omega, by omega⟩, fin⟩
    · exact op_mulW pins s σ H _ _ v u Q I rx ry ⟨_, _, rfl, rfl, wide_mul h1 h2 (by decide) (by decide) (by decide), fin⟩
  · cases e
theorem bin_fdiv : OpR X (binaryOp .FloorDiv) (rD X.K (opBin .fdiv)) := by
  intro pins s σ H x y v u Q I rx ry h
  obtain ⟨M, d1, d2, d3, h1, h2, e, m, q⟩ := h
  cases d1 <;> cases d2 <;> first | (cases e; done) | skip
  simp only [opBin] at e
  split at e
  · rename_i hz
    cases e
    obtain rfl := h1.int
    obtain rfl := h2.int
    exact op_fdivW pins s σ H _ _ v u Q I rx ry ⟨_, _, rfl, rfl, wide_div hz.1 hz.2 (by decide) (by decide), q _ _ Ext.refl (.int _)⟩
  · cases e
theorem bin_mod : OpR X (binaryOp .Mod) (rD X.K (opBin .mod)) := by
  intro pins s σ H x y v u Q I rx ry h
  obtain ⟨M, d1, d2, d3, h1, h2, e, m, q⟩ := h
  cases d1 <;> cases d2 <;> first | (cases e; done) | skip
  simp only [opBin] at e
  split at e
  · rename_i hz
    cases e
    obtain rfl := h1.int
    obtain rfl := h2.int
    exact op_mod pins s σ H _ _ v u Q I rx ry ⟨_, _, rfl, rfl, hz, q _ _ Ext.refl (.int _)⟩
  · cases e
theorem bin_pow : OpR X (binaryOp .Pow) (rD X.K (opBin .pow)) := by
  intro pins s σ H x y v u Q I rx ry h
  obtain ⟨M, d1, d2, d3, h1, h2, e, m, q⟩ := h
  cases d1 <;> cases d2 <;> first | (cases e; done) | skip
  simp only [opBin] at e
  split at e
  · rename_i hz
    cases e
    obtain rfl := h1.int
    obtain rfl := h2.int
    exact op_pow pins s σ H _ _ v u Q I rx ry ⟨_, _, rfl, rfl, ⟨hz.1, by omega, hz.2.2⟩, q _ _ Ext.refl (.int _)⟩
  · cases e

theorem cmp_eq (hu : X.A.units + 190 < cLine) : OpR X (compareOp .Eq) (rB X.K (opCmp .eq)) := by
  intro pins s σ H x y v u Q I rx ry h
  obtain ⟨M, d1, d2, b, h1, h2, e, q⟩ := h
  simp only [opCmp] at e
  split at e
  · rename_i hz
    cases e
    unfold eqOk at hz
    simp only [Bool.and_eq_true, decide_eq_true_eq] at hz
    obtain ⟨⟨f1, f2⟩, hd⟩ := hz
    obtain ⟨as, r1⟩ := Dp.reads I _ x v (h1.dp f1) rx
    obtain ⟨bs, r2⟩ := Dp.reads I _ y u (h2.dp f2) ry
    refine SeqAt.eq_plain r1 r2 (plain_py _ f1) (plain_py _ f2) ?_ ⟨.bl _, H, I, rfl, ?_⟩
    · rw [depth_py _ f1, depth_py _ f2]
      have : DP = 180 := rfl
      omega
    · rw [eqv_py _ _ f1 f2]; exact q
  · cases e
theorem cmp_ne (hu : X.A.units + 190 < cLine) : OpR X (compareOp .NotEq) (rB X.K (opCmp .ne)) := by
  intro pins s σ H x y v u Q I rx ry h
  obtain ⟨M, d1, d2, b, h1, h2, e, q⟩ := h
  simp only [opCmp] at e
  split at e
  · rename_i hz
    cases e
    unfold eqOk at hz
    simp only [Bool.and_eq_true, decide_eq_true_eq] at hz
    obtain ⟨⟨f1, f2⟩, hd⟩ := hz
    obtain ⟨as, r1⟩ := Dp.reads I _ x v (h1.dp f1) rx
    obtain ⟨bs, r2⟩ := Dp.reads I _ y u (h2.dp f2) ry
    refine SeqAt.ne_plain r1 r2 (plain_py _ f1) (plain_py _ f2) ?_ ⟨.bl _, H, I, rfl, ?_⟩
    · rw [depth_py _ f1, depth_py _ f2]
      have : DP = 180 := rfl
      omega
    · rw [eqv_py _ _ f1 f2]; exact q
  · cases e
theorem ltL_eq : ∀ x y : List Nat, decide (x < y) = ltL x y
  | [], [] => by simp [ltL]
  | [], _ :: _ => by simp [ltL]
  | _ :: _, [] => by simp [ltL]
  | a :: x, b :: y => by
    unfold ltL
    by_cases h : a = b
    · subst h
      rw [if_pos rfl, ← ltL_eq x y]
      simp [List.cons_lt_cons_iff]
    · rw [if_neg h]
      simp [List.cons_lt_cons_iff, h]
theorem opLt_cases {d1 d2 : D} {b : Bool} (e : opLt d1 d2 = some b) : (∃ i j, d1 = .int i ∧ d2 = .int j ∧ b = decide (i < j)) ∨ ∃ i j, d1 = .str i ∧ d2 = .str j ∧ b = ltL i j := by
  cases d1 <;> cases d2 <;> first | (cases e; done) | skip
  · cases e; exact .inl ⟨_, _, rfl, rfl, rfl⟩
  · cases e; exact .inr ⟨_, _, rfl, rfl, rfl⟩
theorem cmp_lt : OpR X (compareOp .Lt) (rB X.K (opCmp .lt)) := by
  intro pins s σ H x y v u Q I rx ry h
  obtain ⟨M, d1, d2, b, h1, h2, e, q⟩ := h
  rcases opLt_cases e with ⟨i, j, rfl, rfl, rfl⟩ | ⟨i, j, rfl, rfl, rfl⟩
  · obtain rfl := h1.int
    obtain rfl := h2.int
    exact op_lt pins s σ H _ _ v u Q I rx ry ⟨_, _, rfl, rfl, q⟩
  · obtain ⟨rfl, _⟩ := h1.str
    obtain ⟨rfl, _⟩ := h2.str
    exact op_lt_str pins s σ H _ _ v u Q I rx ry ⟨_, _, rfl, rfl, by rw [← ltL_eq] at q; exact q⟩
theorem cmp_gt : OpR X (compareOp .Gt) (rB X.K (opCmp .gt)) := by
  intro pins s σ H x y v u Q I rx ry h
  obtain ⟨M, d1, d2, b, h1, h2, e, q⟩ := h
  rcases opLt_cases e with ⟨i, j, rfl, rfl, rfl⟩ | ⟨i, j, rfl, rfl, rfl⟩
  · obtain rfl := h1.int
    obtain rfl := h2.int
    exact op_gt pins s σ H _ _ v u Q I rx ry ⟨_, _, rfl, rfl, q⟩
  · obtain ⟨rfl, _⟩ := h1.str
    obtain ⟨rfl, _⟩ := h2.str
    exact op_gt_str pins s σ H _ _ v u Q I rx ry ⟨_, _, rfl, rfl, by rw [← ltL_eq] at q; exact q⟩
theorem dec_not_lt (i j : Int) : (!decide (i < j)) = decide (j ≤ i) := by
  by_cases h : i < j
  · rw [decide_eq_true h, decide_eq_false (by omega)]; rfl
  · rw [decide_eq_false h, decide_eq_true (by omega)]; rfl
theorem cmp_le : OpR X (compareOp .LtE) (rB X.K (opCmp .le)) := by
  intro pins s σ H x y v u Q I rx ry h
  obtain ⟨M, d1, d2, b, h1, h2, e, q⟩ := h
  simp only [opCmp, Option.map_eq_some_iff] at e
  obtain ⟨b', e, rfl⟩ := e
  rcases opLt_cases e with ⟨i, j, rfl, rfl, rfl⟩ | ⟨i, j, rfl, rfl, rfl⟩
  · obtain rfl := h1.int
    obtain rfl := h2.int
    exact op_le pins s σ H _ _ v u Q I rx ry ⟨_, _, rfl, rfl, by rw [dec_not_lt] at q; exact q⟩
  · obtain ⟨rfl, _⟩ := h1.str
    obtain ⟨rfl, _⟩ := h2.str
    exact op_le_str pins s σ H _ _ v u Q I rx ry ⟨_, _, rfl, rfl, by rw [← ltL_eq] at q; exact q⟩
theorem cmp_ge : OpR X (compareOp .GtE) (rB X.K (opCmp .ge)) := by
  intro pins s σ H x y v u Q I rx ry h
  obtain ⟨M, d1, d2, b, h1, h2, e, q⟩ := h
  simp only [opCmp, Option.map_eq_some_iff] at e
  obtain ⟨b', e, rfl⟩ := e
  rcases opLt_cases e with ⟨i, j, rfl, rfl, rfl⟩ | ⟨i, j, rfl, rfl, rfl⟩
  · obtain rfl := h1.int
    obtain rfl := h2.int
    exact op_ge pins s σ H _ _ v u Q I rx ry ⟨_, _, rfl, rfl, by rw [dec_not_lt] at q; exact q⟩
  · obtain ⟨rfl, _⟩ := h1.str
    obtain ⟨rfl, _⟩ := h2.str
    exact op_ge_str pins s σ H _ _ v u Q I rx ry ⟨_, _, rfl, rfl, by rw [← ltL_eq] at q; exact q⟩
theorem cmp_is : OpR X (compareOp .Is) (rB X.K (opCmp .is)) := by
  intro pins s σ H x y v u Q I rx ry h
  obtain ⟨M, d1, d2, b, h1, h2, e, q⟩ := h
  cases d2 with
  | non =>
    obtain rfl := h2.non
    have e1 : b = decide (x = .non) := by
      cases d1 with
      | non => cases e; obtain rfl := h1.non; rfl
      | bl _ => cases e; obtain rfl := h1.bl; rfl
      | int _ => cases e; obtain rfl := h1.int; rfl
      | str _ => cases e; obtain ⟨rfl, _⟩ := h1.str; rfl
      | tup _ => cases e; obtain ⟨_, _, rfl, _⟩ := h1.tup; rfl
      | lst _ => cases e; obtain ⟨_, _, rfl, _⟩ := h1; rfl
      | dct _ _ => cases e; obtain ⟨_, _, rfl, _⟩ := h1; rfl
    subst e1
    exact op_isN pins s σ H _ _ v u Q I rx ry ⟨rfl, q⟩
  | bl c =>
    cases d1 <;> first | (cases e; done) | skip
    rename_i a
    cases e
    obtain rfl := h1.bl
    obtain rfl := h2.bl
    refine op_isBl pins s σ H _ _ v u Q I rx ry ⟨_, _, rfl, rfl, ?_⟩
    have e2 : decide (a = c) = (a == c) := by cases a <;> cases c <;> rfl
    rw [e2]
    exact q
  | _ => cases d1 <;> cases e
theorem cmp_isnot : OpR X (compareOp .IsNot) (rB X.K (opCmp .isnot)) := by
  intro pins s σ H x y v u Q I rx ry h
  obtain ⟨M, d1, d2, b, h1, h2, e, q⟩ := h
  cases d2 with
  | non =>
    obtain rfl := h2.non
    have e1 : b = !decide (x = .non) := by
      cases d1 with
      | non => cases e; obtain rfl := h1.non; rfl
      | bl _ => cases e; obtain rfl := h1.bl; rfl
      | int _ => cases e; obtain rfl := h1.int; rfl
      | str _ => cases e; obtain ⟨rfl, _⟩ := h1.str; rfl
      | tup _ => cases e; obtain ⟨_, _, rfl, _⟩ := h1.tup; rfl
      | lst _ => cases e; obtain ⟨_, _, rfl, _⟩ := h1; rfl
      | dct _ _ => cases e; obtain ⟨_, _, rfl, _⟩ := h1; rfl
    subst e1
    exact op_notN pins s σ H _ _ v u Q I rx ry ⟨rfl, q⟩
  | bl c =>
    cases d1 <;> first | (cases e; done) | skip
    rename_i a
    cases e
    obtain rfl := h1.bl
    obtain rfl := h2.bl
    refine op_notBl pins s σ H _ _ v u Q I rx ry ⟨_, _, rfl, rfl, ?_⟩
    have e2 : decide (a = c) = (a == c) := by cases a <;> cases c <;> rfl
    rw [e2]
    exact q
  | _ => cases d1 <;> cases e
theorem subL_iff (x : List Nat) : ∀ y : List Nat, subL x y = true ↔ ∃ i, i + x.length ≤ y.length ∧ (y.drop i).take x.length = x
  | [] => by
    unfold subL
    cases x with
    | nil => simp
    | cons a x => simp
  | c :: t => by
    unfold subL
    rw [Bool.or_eq_true, subL_iff x t]
    constructor
    · rintro (h | ⟨i, h1, h2⟩)
      · obtain ⟨r, hr⟩ := List.isPrefixOf_iff_prefix.mp h
        refine ⟨0, ?_, ?_⟩
        · have := congrArg List.length hr
          simp only [List.length_append] at this
          omega
        · rw [List.drop_zero, ← hr, List.take_left]
      · exact ⟨i + 1, by simp only [List.length_cons]; omega, by simpa using h2⟩
    · rintro ⟨i, h1, h2⟩
      cases i with
      | zero =>
        left
        rw [List.isPrefixOf_iff_prefix]
        rw [List.drop_zero] at h2
        exact ⟨_, by rw [← h2]; exact List.take_append_drop _ _⟩
      | succ i => exact .inr ⟨i, by simp only [List.length_cons] at h1; omega, by simpa using h2⟩
theorem occ_sub (x y : List Nat) : (!(Builtin.Str.occurrences (toS y) (toS x) 0 (toS y).length 1).isEmpty) = subL x y := by
  rw [Bool.eq_iff_iff, StrLaws.found_iff, subL_iff]
  constructor
  · rintro ⟨i, h1, h2⟩
    rw [StrLaws.subAt_eq] at h2
    refine ⟨i, by simpa [toS_len] using h1, ?_⟩
    have := eq_of_beq h2
    rw [toS_len] at this
    simpa [toS] using this
  · rintro ⟨i, h1, h2⟩
    refine ⟨i, by simpa [toS_len] using h1, ?_⟩
    rw [StrLaws.subAt_eq, beq_iff_eq, toS_len]
    simpa [toS] using h2
theorem any_py {a : D} (fa : a.flat = true) : ∀ ds : List D, D.flatL ds = true → ((D.pyL ds).any fun z => PyData.eqv z a.py) = ds.any fun d => D.eqv d a
  | [], _ => rfl
  | d :: ds, f => by
    simp only [D.flatL, Bool.and_eq_true] at f
    simp only [D.pyL, List.any_cons, eqv_py d a f.1 fa, any_py fa ds f.2]
theorem opIn_cases {a c : D} {b : Bool} (e : opIn a c = some b) : (∃ x y, a = .str x ∧ c = .str y ∧ b = subL x y) ∨
    (∃ ds, (c = .lst ds ∨ c = .tup ds) ∧ inOk a ds = true ∧ b = ds.any fun d => D.eqv d a) ∨ ∃ ks vs k, c = .dct ks vs ∧ keyD a = some k ∧ b = ks.any fun d => D.eqv d a := by
  cases c with
  | str y => cases a <;> first | (cases e; done) | (cases e; exact .inl ⟨_, _, rfl, rfl, rfl⟩)
  | lst ds =>
    have e' : (if inOk a ds then some (ds.any fun d => D.eqv d a) else none) = some b := by cases a <;> exact e
    split at e'
    · rename_i hz
      cases e'
      exact .inr (.inl ⟨ds, .inl rfl, hz, rfl⟩)
    · cases e'
  | tup ds =>
    have e' : (if inOk a ds then some (ds.any fun d => D.eqv d a) else none) = some b := by cases a <;> exact e
    split at e'
    · rename_i hz
      cases e'
      exact .inr (.inl ⟨ds, .inr rfl, hz, rfl⟩)
    · cases e'
  | dct ks vs =>
    cases a with
    | int i => cases e; exact .inr (.inr ⟨ks, vs, _, rfl, rfl, rfl⟩)
    | str x => cases e; exact .inr (.inr ⟨ks, vs, _, rfl, rfl, rfl⟩)
    | _ => cases e
  | _ => cases a <;> cases e
end
end Ev

namespace Ev
open PySem PySem.Spec PyProof.Rows L2
section
variable {X : Cx} {M : Addr → Prop} {H : Hp} {x y : V}
theorem keyD_some {d : D} {k : Key} (h : keyD d = some k) : (∃ i, d = .int i ∧ k = .inl i) ∨ ∃ s, d = .str s ∧ k = .inr (toS s) := by
  cases d with
  | int i => cases h; exact .inl ⟨i, rfl, rfl⟩
  | str s => cases h; exact .inr ⟨s, rfl, rfl⟩
  | _ => cases h
theorem eqv_key {a b : D} {k l : Key} (ha : keyD a = some k) (hb : keyD b = some l) : D.eqv a b = decide (k = l) := by
  rcases keyD_some ha with ⟨i, rfl, rfl⟩ | ⟨s, rfl, rfl⟩ <;> rcases keyD_some hb with ⟨j, rfl, rfl⟩ | ⟨t, rfl, rfl⟩
  · simp only [D.eqv]
    by_cases e : i = j
    · subst e; simp
    · rw [beq_eq_false_iff_ne.mpr e, decide_eq_false]
      intro q; cases q; exact e rfl
  · simp only [D.eqv]
    rw [decide_eq_false]; intro q; cases q
  · simp only [D.eqv]
    rw [decide_eq_false]; intro q; cases q
  · simp only [D.eqv]
    by_cases e : s = t
    · subst e; simp
    · rw [beq_eq_false_iff_ne.mpr e, decide_eq_false]
      intro q; exact e (toS_inj (Sum.inr.inj q))
theorem any_keys {a : D} {k : Key} (ha : keyD a = some k) : ∀ {ks : List D} {kvs : List (Key × V)}, ks.map keyD = kvs.map (fun p => some p.1) → (ks.any fun d => D.eqv d a) = (valV kvs k).isSome
  | [], [], _ => rfl
  | [], _ :: _, h => by cases h
  | _ :: _, [], h => by cases h
  | d :: ks, p :: kvs, h => by
    simp only [List.map_cons, List.cons.injEq] at h
    rw [List.any_cons, eqv_key h.1 ha, any_keys ha h.2]
    by_cases e : p.1 = k
    · rw [valV_pos e, decide_eq_true e]; rfl
    · rw [valV_neg e, decide_eq_false e]; rfl
theorem look_keys {K : PySem.W.Frag} {a : D} {k : Key} (ha : keyD a = some k) : ∀ {ks vs : List D} {kvs : List (Key × V)} {d : D}, ks.map keyD = kvs.map (fun p => some p.1) → RpL K M H vs (kvs.map (·.2)) → lookD ks vs a = some d →
    ∃ v, valV kvs k = some v ∧ Rp K M H d v
  | [], _, _, _, _, _, e => by simp [lookD] at e
  | _ :: _, _, [], _, h, _, _ => by cases h
  | _ :: _, [], p :: kvs, _, _, r, _ => by cases r
  | c :: ks, w :: vs, p :: kvs, d, h, r, e => by
    simp only [List.map_cons, List.cons.injEq] at h
    cases r with
    | cons r1 r2 =>
      simp only [lookD, eqv_key h.1 ha] at e
      by_cases q : p.1 = k
      · rw [decide_eq_true q, if_pos rfl] at e
        cases e
        exact ⟨p.2, valV_pos q, r1⟩
      · rw [decide_eq_false q, if_neg Bool.false_ne_true] at e
        obtain ⟨v, h1, h2⟩ := look_keys ha h.2 r2 e
        exact ⟨v, by rw [valV_neg q]; exact h1, h2⟩
theorem key_rel {K : PySem.W.Frag} {a : D} {k : Key} (ha : keyD a = some k) (h : Sq K M H a x) : x = kV k := by
  rcases keyD_some ha with ⟨i, rfl, rfl⟩ | ⟨s, rfl, rfl⟩
  · exact h.int
  · exact h.str.1
theorem cmp_in (hu : X.A.units + 190 < cLine) : OpR X (compareOp .In) (rB X.K (opCmp .isin)) := by
  intro pins s σ H x y v u Q I rx ry h
  obtain ⟨M, d1, d2, b, h1, h2, e, q⟩ := h
  rcases opIn_cases e with ⟨a, c, rfl, rfl, rfl⟩ | ⟨ds, hc, hz, rfl⟩ | ⟨ks, vs, k, rfl, hk, rfl⟩
  · obtain ⟨rfl, _⟩ := h1.str
    obtain ⟨rfl, _⟩ := h2.str
    exact op_in_str pins s σ H _ _ v u Q I rx ry ⟨_, _, rfl, rfl, by rw [occ_sub]; exact q⟩
  · unfold inOk at hz
    simp only [Bool.and_eq_true, decide_eq_true_eq] at hz
    obtain ⟨⟨f1, f2⟩, hd⟩ := hz
    have hdp : DP = 180 := rfl
    obtain ⟨as, r1⟩ := Dp.reads I _ x v (h1.dp f1) rx
    have hroom : X.A.units + 1 + min (PyData.depthAll (D.pyL ds)) d1.py.depth < cLine := by
      rw [depth_py _ f1, depthL_py _ f2]; omega
    rcases hc with rfl | rfl
    · obtain ⟨bs, r2⟩ := Dp.reads I _ y u (h2.dp (by simpa only [D.flat] using f2)) ry
      exact SeqAt.in_list_data r2 r1 (plainL_py _ f2) (plain_py _ f1) hroom ⟨.bl _, H, I, rfl, by rw [any_py f1 ds f2]; exact q⟩
    · obtain ⟨bs, r2⟩ := Dp.reads I _ y u (h2.dp (by simpa only [D.flat] using f2)) ry
      exact SeqAt.in_tuple_data r2 r1 (plainL_py _ f2) (plain_py _ f1) hroom ⟨.bl _, H, I, rfl, by rw [any_py f1 ds f2]; exact q⟩
  · obtain ⟨a, kvs, rfl, hH, hks, _, _⟩ := h2
    obtain rfl := key_rel hk h1
    cases ry
    exact d_in (by omega) I (DGet.k hH) rx fun s' I' => ⟨.bl _, H, I', rfl, by rw [← any_keys hk hks.1]; exact q⟩
theorem cmp_notin (hu : X.A.units + 190 < cLine) : OpR X (compareOp .NotIn) (rB X.K (opCmp .notin)) := by
  intro pins s σ H x y v u Q I rx ry h
  obtain ⟨M, d1, d2, b, h1, h2, e, q⟩ := h
  simp only [opCmp, Option.map_eq_some_iff] at e
  obtain ⟨b', e, rfl⟩ := e
  rcases opIn_cases e with ⟨a, c, rfl, rfl, rfl⟩ | ⟨ds, hc, hz, rfl⟩ | ⟨ks, vs, k, rfl, hk, rfl⟩
  · obtain ⟨rfl, _⟩ := h1.str
    obtain ⟨rfl, _⟩ := h2.str
    exact op_notin_str pins s σ H _ _ v u Q I rx ry ⟨_, _, rfl, rfl, by rw [occ_sub]; exact q⟩
  · unfold inOk at hz
    simp only [Bool.and_eq_true, decide_eq_true_eq] at hz
    obtain ⟨⟨f1, f2⟩, hd⟩ := hz
    have hdp : DP = 180 := rfl
    obtain ⟨as, r1⟩ := Dp.reads I _ x v (h1.dp f1) rx
    have hroom : X.A.units + 1 + min (PyData.depthAll (D.pyL ds)) d1.py.depth < cLine := by
      rw [depth_py _ f1, depthL_py _ f2]; omega
    rcases hc with rfl | rfl
    · obtain ⟨bs, r2⟩ := Dp.reads I _ y u (h2.dp (by simpa only [D.flat] using f2)) ry
      exact SeqAt.notIn_list_data r2 r1 (plainL_py _ f2) (plain_py _ f1) hroom ⟨.bl _, H, I, rfl, by rw [any_py f1 ds f2]; exact q⟩
    · obtain ⟨bs, r2⟩ := Dp.reads I _ y u (h2.dp (by simpa only [D.flat] using f2)) ry
      exact SeqAt.notIn_tuple_data r2 r1 (plainL_py _ f2) (plain_py _ f1) hroom ⟨.bl _, H, I, rfl, by rw [any_py f1 ds f2]; exact q⟩
  · obtain ⟨a, kvs, rfl, hH, hks, _, _⟩ := h2
    obtain rfl := key_rel hk h1
    cases ry
    exact d_notIn (by omega) I (DGet.k hH) rx fun s' I' => ⟨.bl _, H, I', rfl, by rw [← any_keys hk hks.1]; exact q⟩
theorem getIx_at {α : Type} (xs : List α) (i : Int) : getIx xs i = atI xs i := rfl
theorem getIx_rp {K : PySem.W.Frag} {ds : List D} {vs : List V} {i : Int} {d : D} (r : RpL K M H ds vs) (e : getIx ds i = some d) : ∃ v, atI vs i = some v ∧ Rp K M H d v := by
  unfold getIx at e
  rw [r.length] at e
  obtain ⟨j, h1, h2⟩ := Option.bind_eq_some_iff.mp e
  obtain ⟨v, h3, h4⟩ := r.get h2
  exact ⟨v, Option.bind_eq_some_iff.mpr ⟨j, h1, h3⟩, h4⟩
theorem ix_sound (hu : X.A.units + 190 < cLine) : IxR X (rD X.K opIdx) := by
  intro value slice pins s σ H x y v u Q I rx ry h hs
  obtain ⟨M, d1, d2, d3, h1, h2, e, m, q⟩ := h
  cases d1 with
  | tup ds =>
    cases d2 <;> first | (cases e; done) | skip
    obtain ⟨a, vs, rfl, ta, ra, za⟩ := h1.tup
    obtain rfl := h2.int
    obtain ⟨z, hz, rz⟩ := getIx_rp ra e
    exact ix_tup value slice pins s σ H _ _ v u Q I rx ry ⟨_, _, _, z, rfl, rfl, ta.sq, hz, q _ _ Ext.refl rz⟩ hs
  | lst ds =>
    cases d2 <;> first | (cases e; done) | skip
    obtain ⟨a, vs, rfl, ta, ra, za⟩ := h1
    obtain rfl := h2.int
    obtain ⟨z, hz, rz⟩ := getIx_rp ra e
    exact ix_list value slice pins s σ H _ _ v u Q I rx ry ⟨_, _, _, z, rfl, rfl, ta, hz, q _ _ Ext.refl rz⟩ hs
  | str t =>
    cases d2 <;> first | (cases e; done) | skip
    obtain ⟨rfl, hl⟩ := h1.str
    obtain rfl := h2.int
    simp only [opIdx, Option.map_eq_some_iff] at e
    obtain ⟨c, e, rfl⟩ := e
    refine ix_str value slice pins s σ H _ _ v u Q I rx ry ⟨_, _, c, rfl, rfl, by rw [toS_len]; exact hl, by rw [getIx_at] at e; simpa [toS] using e, q _ _ Ext.refl (.str [c] (by rw [sizeLine_eq]; simp))⟩ hs
  | dct ks vs =>
    have e' : (if isKey d2 then lookD ks vs d2 else none) = some d3 := by cases d2 <;> exact e
    split at e'
    · rename_i hk
      obtain ⟨k, hk⟩ : ∃ k, keyD d2 = some k := by cases d2 <;> first | (cases hk; done) | exact ⟨_, rfl⟩
      obtain ⟨a, kvs, rfl, hH, hks, hr, _⟩ := h1
      obtain rfl := key_rel hk h2
      obtain ⟨z, hz, rz⟩ := look_keys hk hks.1 hr e'
      cases rx
      have g : DGet H a (kV k) (some z) := by rw [← hz]; exact DGet.k hH
      exact tail_any (dict_typeIs I g) PySem.F.slot_dict_getitem.lookup (d_getItem (by omega) I g ry fun w' s3 I3 rw' => ⟨z, H, I3, rw', q _ _ Ext.refl rz⟩) hs
    · cases e'
  | _ => cases d2 <;> cases e
def rSl (K : PySem.W.Frag) : V → Option Int → Option Int → Hp → VK → Prop := fun x lo hi H Q => ∃ (M : Addr → Prop) (d d3 : D), Sq K M H d x ∧ opSlc d lo hi = some d3 ∧ (∀ a, M a → ∃ o, H a = some o) ∧ ∀ z H', Ext H H' → Rp K M H' d3 z → Q z H'
theorem clip_sIx (n d : Nat) (o : Option Int) : clip n d o = HT.sIx n d o := by cases o <;> rfl
theorem cut_rp {K : PySem.W.Frag} {ds : List D} {vs : List V} (r : RpL K M H ds vs) (lo hi : Option Int) : RpL K M H (cut ds lo hi) (cutV vs lo hi) := by
  unfold cut cutV
  simp only [clip_sIx, r.length]
  exact (r.drop _).take _
theorem cut_len {α : Type} (xs : List α) (lo hi : Option Int) : (cut xs lo hi).length ≤ xs.length := by
  unfold cut
  rw [List.length_take, List.length_drop]
  omega
theorem cut_whole {α : Type} (xs : List α) (lo hi : Option Int) (h : HT.sIx xs.length 0 lo = 0 ∧ HT.sIx xs.length xs.length hi = xs.length) : cut xs lo hi = xs := by
  unfold cut
  simp only [clip_sIx, h.1, h.2, List.drop_zero, Nat.sub_zero, List.take_length]
/-- t[lo:hi] -/
def rSlF (K : PySem.W.Frag) : V → Option Int → Option Int → Hp → VK → Prop := fun x lo hi H Q => ∃ a xs, x = .ref a ∧ SqT K H a xs ∧
  (HT.sIx xs.length 0 lo = 0 ∧ HT.sIx xs.length xs.length hi = xs.length → Q (.ref a) H) ∧ ∀ p ob, TupO ob → H p = none → Q (.ref p) (upd H p (.frz ob (.tup (cutV xs lo hi))))
theorem sl_tupF : SlR X (rSlF X.K) := by
  intro pins s σ H x v vl vu lo hi sl Q I rx hs pl pu h
  obtain ⟨a, xs, rfl, hx, q1, q2⟩ := h
  by_cases whole : HT.sIx xs.length 0 lo = 0 ∧ HT.sIx xs.length xs.length hi = xs.length
  · exact sl_tupA pins s σ H _ v vl vu lo hi sl Q I rx hs pl pu ⟨a, xs, rfl, hx, q1, fun z => absurd whole z⟩
  · cases rx
    obtain ⟨its, r, ht, hz⟩ := I.tuple hx
    have hlen : its.toArray.size = xs.length := by rw [List.size_toArray, r.length]
    refine ⟨"tuple", _, PyProof.Rows.slot_tuple_getitem.lookup, ht.typeIs, HT.getItem_tuple_cut ht hs pl pu (by rw [hlen]; exact whole) ?_ (by rw [hlen]; exact hz)⟩
    rw [hlen]
    exact ⟨.ref _, _, tup_laid (t' := s.toks) (xs := cutV xs lo hi) I ((r.drop (HT.sIx xs.length 0 lo)).take (HT.sIx xs.length xs.length hi - HT.sIx xs.length 0 lo)) (Nat.le_trans (cutV_length xs lo hi) hz), rfl, q2 _ _ tupO_new I.fresh⟩
theorem sl_sound : SlR X (rSl X.K) := by
  intro pins s σ H x v vl vu lo hi sl Q I rx hs pl pu h
  obtain ⟨M, d, d3, h1, e, m, q⟩ := h
  cases d with
  | tup ds =>
    cases e
    obtain ⟨a, vs, rfl, ta, ra, za⟩ := h1.tup
    refine sl_tupF pins s σ H _ v vl vu lo hi sl Q I rx hs pl pu ⟨a, vs, rfl, ta.sq, fun hw => ?_, fun p ob t n => q _ _ (Ext.new n) (.newT m n t (cut_rp ra lo hi) (Nat.le_trans (cut_len _ _ _) za))⟩
    rw [cut_whole ds lo hi (by rw [ra.length]; exact hw)] at q
    exact q _ _ Ext.refl (.tup ta ra za)
  | lst ds =>
    cases e
    obtain ⟨a, vs, rfl, ta, ra, za⟩ := h1
    exact sl_list pins s σ H _ v vl vu lo hi sl Q I rx hs pl pu ⟨a, vs, rfl, ta, fun p n => q _ _ (Ext.new n) (.newL m n (cut_rp ra lo hi) (Nat.le_trans (cut_len _ _ _) za))⟩
  | str t =>
    cases e
    obtain ⟨rfl, hl⟩ := h1.str
    refine sl_str pins s σ H _ v vl vu lo hi sl Q I rx hs pl pu ⟨_, rfl, by rw [toS_len]; exact hl, ?_⟩
    have e1 : cutS (toS t) lo hi = toS (cut t lo hi) := by
      unfold cutS cut
      simp only [clip_sIx, toS_len]
    rw [e1]
    refine q _ _ Ext.refl (.str _ ?_)
    unfold cut
    rw [List.length_take, List.length_drop]
    omega
  | _ => cases e
end
end Ev

namespace Ev
open PySem PySem.Spec PyProof.Rows L2
/-- a built-in of one value that tells data -/
def r1D (K : PySem.W.Frag) (g : D → Option D) : List V → Hp → VK → Prop := fun xs H Q => ∃ (x : V) (M : Addr → Prop) (d d' : D), xs = [x] ∧ Sq K M H d x ∧ g d = some d' ∧ (∀ a, M a → ∃ o, H a = some o) ∧ ∀ z H', Ext H H' → Rp K M H' d' z → Q z H'
/-- a built-in of one value that makes a new list -/
def r1L (K : PySem.W.Frag) (g : D → Option (List D)) : List V → Hp → VK → Prop := fun xs H Q => ∃ (x : V) (M : Addr → Prop) (d : D) (ds : List D), xs = [x] ∧ Sq K M H d x ∧ g d = some ds ∧ (∀ a, M a → ∃ o, H a = some o) ∧
  ∀ vs p, H p = none → RpL K M H ds vs → ds.length ≤ sizeLine → Q (.ref p) (upd H p (.lst vs))
def r2D (K : PySem.W.Frag) (g : D → D → Option D) : List V → Hp → VK → Prop := fun xs H Q => ∃ (x y : V), xs = [x, y] ∧ rD K g x y H Q
section
variable {X : Cx} {M : Addr → Prop} {H : Hp} {x y : V} {K : PySem.W.Frag}
theorem bls_of : ∀ {ds : List D} {vs : List V} {bs : List Bool}, RpL K M H ds vs → blsOf ds = some bs → vs = bs.map V.bl
  | [], _, _, .nil, e => by cases e; rfl
  | .bl b :: ds, _, _, .cons r t, e => by
    simp only [blsOf, Option.map_eq_some_iff] at e
    obtain ⟨bs', e, rfl⟩ := e
    cases r
    rw [bls_of t e]
    rfl
  | .non :: _, _, _, _, e => by cases e
  | .int _ :: _, _, _, _, e => by cases e
  | .str _ :: _, _, _, _, e => by cases e
  | .tup _ :: _, _, _, _, e => by cases e
  | .lst _ :: _, _, _, _, e => by cases e
  | .dct _ _ :: _, _, _, _, e => by cases e
theorem ints_of : ∀ {ds : List D} {vs : List V} {bs : List Int}, RpL K M H ds vs → intsOf ds = some bs → vs = bs.map V.int
  | [], _, _, .nil, e => by cases e; rfl
  | .int b :: ds, _, _, .cons r t, e => by
    simp only [intsOf, Option.map_eq_some_iff] at e
    obtain ⟨bs', e, rfl⟩ := e
    cases r
    rw [ints_of t e]
    rfl
  | .non :: _, _, _, _, e => by cases e
  | .bl _ :: _, _, _, _, e => by cases e
  | .str _ :: _, _, _, _, e => by cases e
  | .tup _ :: _, _, _, _, e => by cases e
  | .lst _ :: _, _, _, _, e => by cases e
  | .dct _ _ :: _, _, _, _, e => by cases e
theorem strs_of : ∀ {ds : List D} {vs : List V} {bs : List (List Nat)}, RpL K M H ds vs → strsOf ds = some bs → vs = bs.map fun s => V.str (toS s)
  | [], _, _, .nil, e => by cases e; rfl
  | .str b :: ds, _, _, .cons r t, e => by
    simp only [strsOf, Option.map_eq_some_iff] at e
    obtain ⟨bs', e, rfl⟩ := e
    cases r
    rw [strs_of t e]
    rfl
  | .non :: _, _, _, _, e => by cases e
  | .bl _ :: _, _, _, _, e => by cases e
  | .int _ :: _, _, _, _, e => by cases e
  | .tup _ :: _, _, _, _, e => by cases e
  | .lst _ :: _, _, _, _, e => by cases e
  | .dct _ _ :: _, _, _, _, e => by cases e
theorem b1_len : CallR X (.builtin "len") (r1D X.K (opB1 .len)) := by
  intro pins s σ H xs us Q I r h
  obtain ⟨x, M, d, d', rfl, h1, e, m, q⟩ := h
  cases d with
  | str t =>
    cases e
    obtain ⟨rfl, hl⟩ := h1.str
    have := q _ _ Ext.refl (.int _)
    exact call_len_str pins s σ H _ us Q I r ⟨_, rfl, by rw [toS_len]; exact hl, by rw [toS_len]; exact this⟩
  | tup ds =>
    cases e
    obtain ⟨a, vs, rfl, ta, ra, za⟩ := h1.tup
    have := q _ _ Ext.refl (.int _)
    exact call_len_seq pins s σ H _ us Q I r ⟨_, _, rfl, .inr ta.sq, by rw [← ra.length]; exact this⟩
  | lst ds =>
    cases e
    obtain ⟨a, vs, rfl, ta, ra, za⟩ := h1
    have := q _ _ Ext.refl (.int _)
    exact call_len_seq pins s σ H _ us Q I r ⟨_, _, rfl, .inl ta, by rw [← ra.length]; exact this⟩
  | dct ks vs =>
    cases e
    obtain ⟨a, kvs, rfl, hH, hks, _, _⟩ := h1
    obtain ⟨u, rfl, ru⟩ := vals1 r
    cases ru
    have hl : ks.length = kvs.length := by have := congrArg List.length hks.1; simpa using this
    exact d_len I (.inl hH) fun t s' I' => ⟨.int _, H, I', ⟨t, rfl⟩, by rw [← hl]; exact q _ _ Ext.refl (.int _)⟩
  | _ => cases e
theorem b1_all (hc : X.calm = true) : CallR X (.builtin "all") (r1D X.K (opB1 .all)) := by
  intro pins s σ H xs us Q I r h
  obtain ⟨x, M, d, d', rfl, h1, e, m, q⟩ := h
  cases d <;> first | (cases e; done) | skip
  simp only [opB1, Option.map_eq_some_iff] at e
  obtain ⟨bs, e, rfl⟩ := e
  obtain ⟨a, vs, rfl, ta, ra, za⟩ := h1
  obtain rfl := bls_of ra e
  exact cr_all hc pins s σ H _ us Q I r ⟨_, _, rfl, ta, q _ _ Ext.refl (.bl _)⟩
theorem b1_any (hc : X.calm = true) : CallR X (.builtin "any") (r1D X.K (opB1 .any)) := by
  intro pins s σ H xs us Q I r h
  obtain ⟨x, M, d, d', rfl, h1, e, m, q⟩ := h
  cases d <;> first | (cases e; done) | skip
  simp only [opB1, Option.map_eq_some_iff] at e
  obtain ⟨bs, e, rfl⟩ := e
  obtain ⟨a, vs, rfl, ta, ra, za⟩ := h1
  obtain rfl := bls_of ra e
  exact cr_any hc pins s σ H _ us Q I r ⟨_, _, rfl, ta, q _ _ Ext.refl (.bl _)⟩
theorem b1_sum (hc : X.calm = true) : CallR X (.builtin "sum") (r1D X.K (opB1 .sum)) := by
  intro pins s σ H xs us Q I r h
  obtain ⟨x, M, d, d', rfl, h1, e, m, q⟩ := h
  cases d <;> first | (cases e; done) | skip
  simp only [opB1, Option.map_eq_some_iff] at e
  obtain ⟨bs, e, rfl⟩ := e
  obtain ⟨a, vs, rfl, ta, ra, za⟩ := h1
  obtain rfl := ints_of ra e
  exact cr_sum hc pins s σ H _ us Q I r ⟨_, _, rfl, ta, q _ _ Ext.refl (.int _)⟩
/-- tuple(xs) of a list, of a tuple -/
theorem call_tupF : CallR X (.type "tuple") (fun xs H Q => ∃ p ys, xs = [.ref p] ∧ ((SqL X.K H p ys ∧ ∀ l ob, TupO ob → H l = none → Q (.ref l) (upd H l (.frz ob (.tup ys)))) ∨ (SqT X.K H p ys ∧ Q (.ref p) H))) := by
  intro pins s σ H xs us Q I r h
  obtain ⟨p, ys, rfl, ⟨hq, q⟩ | h⟩ := h
  · obtain ⟨u, rfl, rx⟩ := vals1 r
    cases rx
    obtain ⟨its, r', pl, hz⟩ := I.list hq
    refine call_tuple_list pl.isList (fun h' kp => ?_) (by rw [List.size_toArray, ← r'.length]; exact hz)
    have I1 : Inv X pins σ H { s with heap := h' } := I.kept (t' := s.toks) kp
    exact ⟨.ref _, _, tup_laid (t' := s.toks) I1 r' hz, rfl, q _ _ tupO_new I1.fresh⟩
  · exact call_tuple_of pins s σ H _ us Q I r ⟨p, ys, rfl, .inr h⟩
theorem b1_tuple : CallR X (.type "tuple") (r1D X.K (opB1 .tuple)) := by
  intro pins s σ H xs us Q I r h
  obtain ⟨x, M, d, d', rfl, h1, e, m, q⟩ := h
  cases d with
  | tup ds =>
    cases e
    obtain ⟨a, vs, rfl, ta, ra, za⟩ := h1.tup
    exact call_tupF pins s σ H _ us Q I r ⟨_, _, rfl, .inr ⟨ta.sq, q _ _ Ext.refl (.tup ta ra za)⟩⟩
  | lst ds =>
    cases e
    obtain ⟨a, vs, rfl, ta, ra, za⟩ := h1
    exact call_tupF pins s σ H _ us Q I r ⟨_, _, rfl, .inl ⟨ta, fun l ob t n => q _ _ (Ext.new n) (.newT m n t ra za)⟩⟩
  | _ => cases e
theorem b1_list : CallR X (.type "list") (r1L X.K fun d => match d with | .lst ds | .tup ds => some ds | _ => none) := by
  intro pins s σ H xs us Q I r h
  obtain ⟨x, M, d, ds', rfl, h1, e, m, q⟩ := h
  cases d with
  | tup ds =>
    cases e
    obtain ⟨a, vs, rfl, ta, ra, za⟩ := h1.tup
    exact call_list_of pins s σ H _ us Q I r ⟨_, _, rfl, .inr ta.sq, fun l n => q _ _ n ra za⟩
  | lst ds =>
    cases e
    obtain ⟨a, vs, rfl, ta, ra, za⟩ := h1
    exact call_list_of pins s σ H _ us Q I r ⟨_, _, rfl, .inl ta, fun l n => q _ _ n ra za⟩
  | _ => cases e
theorem b1_int : CallR X (.type "int") (r1D X.K (opB1 .int)) := by
  intro pins s σ H xs us Q I r h
  obtain ⟨x, M, d, d', rfl, h1, e, m, q⟩ := h
  cases d <;> first | (cases e; done) | skip
  cases e
  obtain rfl := h1.bl
  exact call_int1 pins s σ H _ us Q I r (.inr ⟨_, rfl, q _ _ Ext.refl (.int _)⟩)
theorem b1_abs : CallR X (.builtin "abs") (r1D X.K (opB1 .abs)) := by
  intro pins s σ H xs us Q I r h
  obtain ⟨x, M, d, d', rfl, h1, e, m, q⟩ := h
  cases d <;> first | (cases e; done) | skip
  cases e
  obtain rfl := h1.int
  exact call_abs pins s σ H _ us Q I r ⟨_, rfl, q _ _ Ext.refl (.int _)⟩
theorem b1_ord : CallR X (.builtin "ord") (r1D X.K (opB1 .ord)) := by
  intro pins s σ H xs us Q I r h
  obtain ⟨x, M, d, d', rfl, h1, e, m, q⟩ := h
  cases d <;> first | (cases e; done) | skip
  rename_i t
  match t, e with
  | [c], e =>
    cases e
    obtain ⟨rfl, _⟩ := h1.str
    exact call_ord pins s σ H _ us Q I r ⟨_, rfl, by rw [toS_len]; rfl, q _ _ Ext.refl (.int _)⟩
theorem b2_min (hc : X.calm = true) : CallR X (.builtin "min") (r2D X.K (opB2 .min)) := by
  intro pins s σ H xs us Q I r h
  obtain ⟨x, y, rfl, M, d1, d2, d3, h1, h2, e, m, q⟩ := h
  cases d1 <;> cases d2 <;> first | (cases e; done) | skip
  cases e
  obtain rfl := h1.int
  obtain rfl := h2.int
  exact call_min2 hc pins s σ H _ us Q I r ⟨_, _, rfl, q _ _ Ext.refl (.int _)⟩
theorem b2_max (hc : X.calm = true) : CallR X (.builtin "max") (r2D X.K (opB2 .max)) := by
  intro pins s σ H xs us Q I r h
  obtain ⟨x, y, rfl, M, d1, d2, d3, h1, h2, e, m, q⟩ := h
  cases d1 <;> cases d2 <;> first | (cases e; done) | skip
  cases e
  obtain rfl := h1.int
  obtain rfl := h2.int
  exact call_max2 hc pins s σ H _ us Q I r ⟨_, _, rfl, q _ _ Ext.refl (.int _)⟩
def tyN : Ty → String
  | .int => "int" | .str => "str" | .bool => "bool" | .tup => "tuple" | .lst => "list"
def rIsi (K : PySem.W.Frag) (t : Ty) : List V → Hp → VK → Prop := fun xs H Q => ∃ (x : V) (M : Addr → Prop) (d : D) (b : Bool), xs = [x, .ty (tyN t)] ∧ Sq K M H d x ∧ opIsi t d = some b ∧ Q (.bl b) H
theorem isi_ok (t : Ty) : CallR X (.builtin "isinstance") (rIsi X.K t) := by
  intro pins s σ H xs us Q I r h
  obtain ⟨x, M, d, b, rfl, h1, e, q⟩ := h
  unfold opIsi at e
  split at e
  · rename_i f
    cases e
    obtain ⟨u, w, rfl, r1, r2⟩ := vals2 r
    cases r2
    obtain ⟨as, rd⟩ := Dp.reads I _ x u (h1.dp f) r1
    cases t with
    | int =>
      refine PySem.W.isinstance_int_data rd fun tk _ => ⟨.bl _, H, I.tok tk, rfl, ?_⟩
      have : d.py.isInt = isTy .int d := by cases d <;> rfl
      rw [this]; exact q
    | str =>
      refine PySem.W.isinstance_str_data rd fun tk _ => ⟨.bl _, H, I.tok tk, rfl, ?_⟩
      have : d.py.isStr = isTy .str d := by cases d <;> rfl
      rw [this]; exact q
    | bool =>
      refine PySem.W.isinstance_bool_data rd fun tk _ => ⟨.bl _, H, I.tok tk, rfl, ?_⟩
      have : d.py.isBool = isTy .bool d := by cases d <;> rfl
      rw [this]; exact q
    | tup =>
      refine PySem.W.isinstance_tuple_data rd fun tk _ => ⟨.bl _, H, I.tok tk, rfl, ?_⟩
      have : d.py.isTuple = isTy .tup d := by cases d <;> rfl
      rw [this]; exact q
    | lst =>
      refine PySem.W.isinstance_list_data rd fun tk _ => ⟨.bl _, H, I.tok tk, rfl, ?_⟩
      have : d.py.isList = isTy .lst d := by cases d <;> rfl
      rw [this]; exact q
  · cases e
theorem truV_of {d : D} (h : Sq K M H d x) : TruV K x H (truD d) := by
  cases d with
  | non => obtain rfl := h.non; rfl
  | bl b => obtain rfl := h.bl; rfl
  | int i => obtain rfl := h.int; rfl
  | str t =>
    obtain ⟨rfl, hl⟩ := h.str
    refine ⟨by rw [toS_len]; exact hl, ?_⟩
    rw [toS_len]
    cases t with
    | nil => rfl
    | cons a t =>
      show true = _
      symm
      simp only [List.length_cons, bne_iff_ne, ne_eq]
      omega
  | tup ds =>
    obtain ⟨a, vs, rfl, ta, ra, _⟩ := h.tup
    refine .inr (.inl ⟨vs, ta.sq, ?_⟩)
    cases ra <;> rfl
  | lst ds =>
    obtain ⟨a, vs, rfl, ta, ra, _⟩ := h
    refine .inl ⟨vs, ta, ?_⟩
    cases ra <;> rfl
  | dct ks vs =>
    obtain ⟨a, kvs, rfl, hH, hks, _, _⟩ := h
    refine .inr (.inr ⟨kvs, hH, ?_⟩)
    have hl := congrArg List.length hks.1
    cases ks <;> cases kvs <;> first | rfl | (simp at hl)
end

section
variable {K : PySem.W.Frag} {ca : Nat → Addr} {W : WX} {w : Wd} {σ : Sl}
theorem M_push {p : Addr} {o : Ob} {H' : Hp} {a : Addr} (hl : w.adr.length = w.st.length) : (Wd.mk H' (w.st ++ [o]) (w.adr ++ [p]) w.hid).M a → w.M a ∨ a = p := by
  rintro (⟨i, o', h1, h2, h3⟩ | m)
  · by_cases hi : i < w.st.length
    · left
      refine .inl ⟨i, o', ?_, h2, ?_⟩
      · have h1' : (w.st ++ [o])[i]? = some o' := h1
        rw [List.getElem?_append_left hi] at h1'
        exact h1'
      · have h3' : (w.adr ++ [p])[i]? = some a := h3
        rw [List.getElem?_append_left (by omega)] at h3'
        exact h3'
    · right
      have h3' : (w.adr ++ [p])[i]? = some a := h3
      rw [List.getElem?_append_right (by omega)] at h3'
      have hj : i - w.adr.length = 0 := by
        have := (List.getElem?_eq_some_iff.mp h3').1
        simp at this
        omega
      rw [hj] at h3'
      simpa using h3'.symm
  · exact .inl (.inr m)
theorem Wd.push {p : Addr} {o : Ob} {u : HO} (ok : w.Ok K) (n : w.H p = none) (r : ∀ M' : Addr → Prop, Mle w.M M' w.H → ObR K M' (upd w.H p u) p o) :
    (Wd.mk (upd w.H p u) (w.st ++ [o]) (w.adr ++ [p]) w.hid).Ok K ∧ w.Le ⟨upd w.H p u, w.st ++ [o], w.adr ++ [p], w.hid⟩ ∧ (w.adr ++ [p])[w.st.length]? = some p := by
  have hl := ok.len
  have mle : Mle w.M (Wd.mk (upd w.H p u) (w.st ++ [o]) (w.adr ++ [p]) w.hid).M w.H := fun a x e m => by
    rcases M_push hl m with m | rfl
    · exact m
    · rw [n] at e; cases e
  have last : (w.adr ++ [p])[w.st.length]? = some p := by rw [← hl]; simp
  have nhid : p ∉ w.hid := fun h => by
    obtain ⟨x, e⟩ := ok.hids p h
    rw [n] at e; cases e
  have alive_ne : ∀ {i : Nat} {o' : Ob}, w.st[i]? = some o' → o' ≠ .dead → w.adr[i]? ≠ some p := fun {i o'} h1 h2 h3 => by
    obtain ⟨x, e⟩ := ok.there (.inl ⟨i, o', h1, h2, h3⟩)
    rw [n] at e; cases e
  have split : ∀ {i : Nat} {o' : Ob}, (w.st ++ [o])[i]? = some o' → (w.st[i]? = some o' ∧ i < w.st.length) ∨ (i = w.st.length ∧ o' = o) := fun {i o'} h => by
    by_cases hi : i < w.st.length
    · rw [List.getElem?_append_left hi] at h
      exact .inl ⟨h, hi⟩
    · rw [List.getElem?_append_right (by omega)] at h
      have hj : i - w.st.length = 0 := by
        have := (List.getElem?_eq_some_iff.mp h).1
        simp at this
        omega
      rw [hj] at h
      simp at h
      exact .inr ⟨by omega, h.symm⟩
  have atadr : ∀ {i : Nat} {a : Addr}, i < w.st.length → (w.adr ++ [p])[i]? = some a → w.adr[i]? = some a := fun {i a} hi h => by
    rw [List.getElem?_append_left (by omega)] at h
    exact h
  have atl : ∀ {i : Nat} {a : Addr}, i = w.st.length → (w.adr ++ [p])[i]? = some a → a = p := fun {i a} hi h => by
    rw [hi, last] at h
    exact (Option.some.inj h).symm
  refine ⟨⟨by simp [hl], fun i j a oi oj h1 h2 h3 h4 h5 h6 => ?_, fun i a oi h1 h2 => ?_, fun i a oi h1 h2 h3 => ?_, fun a h => ?_⟩, ⟨⟨fun i a h => ?_, (Ext.new n).kp, mle⟩, rfl, fun a h => ?_⟩, last⟩
  · rcases split h1 with ⟨g1, hi⟩ | ⟨e1, _⟩
    · rcases split h3 with ⟨g3, hj⟩ | ⟨e3, _⟩
      · exact ok.inj i j a oi oj g1 h2 g3 h4 (atadr hi h5) (atadr hj h6)
      · have := atl e3 h6
        subst this
        exact absurd (atadr hi h5) (alive_ne g1 h2)
    · rcases split h3 with ⟨g3, hj⟩ | ⟨e3, _⟩
      · have := atl e1 h5
        subst this
        exact absurd (atadr hj h6) (alive_ne g3 h4)
      · omega
  · rcases split h1 with ⟨g1, hi⟩ | ⟨e1, e2⟩
    · exact (ok.obj i a oi g1 (atadr hi h2)).mono (Ext.new n).kp mle fun u h => Ext.new n a u h
    · have := atl e1 h2
      subst this
      subst e2
      exact r _ mle
  · rcases split h1 with ⟨g1, hi⟩ | ⟨e1, e2⟩
    · exact ok.nohid i a oi g1 h2 (atadr hi h3)
    · have := atl e1 h3
      subst this
      exact nhid
  · obtain ⟨x, e⟩ := ok.hids a h
    exact ⟨x, Ext.new n a x e⟩
  · have hi : i < w.adr.length := (List.getElem?_eq_some_iff.mp h).1
    show (w.adr ++ [p])[i]? = some a
    rw [List.getElem?_append_left hi]
    exact h
  · exact upd_ne fun e => nhid (e ▸ h)
/-- a new list, told as data or kept in the store -/
theorem post_list {Q : VK} {r : Bool} {ds : List D} (ok : w.Ok K) (p : post K ca W (RV K) w σ Q (mk r (.lst ds) w.st)) {a : Addr} {vs : List V} (n : w.H a = none) (rl : RpL K w.M w.H ds vs) (z : ds.length ≤ sizeLine) : Q (.ref a) (upd w.H a (.lst vs)) := by
  cases r with
  | false => exact post_data ok p (Ext.new n) (.newL (fun b m => ok.there m) n rl z)
  | true =>
    obtain ⟨ok', l, e⟩ := Wd.push (o := .lst ds) (u := .lst vs) ok n fun M' l => ⟨vs, upd_same, rl.mono (Ext.new n).kp l, z⟩
    exact p (.ref a) _ rfl ok' l ⟨a, e, rfl⟩
theorem post_dict {Q : VK} {r : Bool} {ks ds : List D} (ok : w.Ok K) (p : post K ca W (RV K) w σ Q (mk r (.dct ks ds) w.st)) {a : Addr} {kvs : List (Key × V)} (n : w.H a = none) (hk : KeysR ks kvs) (rl : RpL K w.M w.H ds (kvs.map (·.2))) (z : ks.length ≤ sizeLine) : Q (.ref a) (upd w.H a (.dK kvs)) := by
  cases r with
  | false => exact post_data ok p (Ext.new n) (.dct upd_same (nM_of (fun b m => ok.there m) n) hk (rl.mono (Ext.new n).kp Mle.refl) z)
  | true =>
    obtain ⟨ok', l, e⟩ := Wd.push (o := .dct ks ds) (u := .dK kvs) ok n fun M' l => ⟨kvs, upd_same, hk, rl.mono (Ext.new n).kp l, z⟩
    exact p (.ref a) _ rfl ok' l ⟨a, e, rfl⟩
end
end Ev

namespace Ev
open PySem PySem.Spec PyProof.Rows L2
section
variable {X : Cx} {M : Addr → Prop} {H : Hp} {K : PySem.W.Frag}
def putKR (k : Key) (v : V) : List (Key × V) → List (Key × V)
  | [] => [(k, v)]
  | p :: r => if p.1 = k then (k, v) :: r else p :: putKR k v r
theorem map_keep {k : Key} {v : V} : ∀ {r : List (Key × V)}, k ∉ r.map (·.1) → r.map (fun kv => if kv.1 = k then (kv.1, v) else kv) = r
  | [], _ => rfl
  | p :: r, h => by
    simp only [List.map_cons, List.mem_cons, not_or] at h
    rw [List.map_cons, if_neg (fun e => h.1 e.symm), map_keep h.2]
theorem putKR_any {k : Key} {v : V} : ∀ {r : List (Key × V)}, k ∉ r.map (·.1) → putKR k v r = r ++ [(k, v)]
  | [], _ => rfl
  | p :: r, h => by
    simp only [List.map_cons, List.mem_cons, not_or] at h
    simp only [putKR]
    rw [if_neg (fun e => h.1 e.symm), putKR_any h.2, List.cons_append]
theorem putK_eq {k : Key} {v : V} : ∀ {r : List (Key × V)}, (r.map (·.1)).Nodup → putK r k v = putKR k v r
  | [], _ => rfl
  | p :: r, h => by
    rw [List.map_cons, List.nodup_cons] at h
    have ih := putK_eq (k := k) (v := v) h.2
    by_cases e : p.1 = k
    · subst e
      simp only [putKR, if_true]
      unfold putK
      rw [if_pos (by simp), List.map_cons, if_pos rfl, map_keep h.1]
    · simp only [putKR, if_neg e]
      rw [← ih]
      unfold putK
      simp only [List.any_cons, decide_eq_false e, Bool.false_or, List.map_cons, if_neg e]
      split <;> rfl
theorem putKR_mem {k x : Key} {v : V} : ∀ {r : List (Key × V)}, x ∈ (putKR k v r).map (·.1) → x ∈ r.map (·.1) ∨ x = k
  | [], h => .inr (by simpa [putKR] using h)
  | p :: r, h => by
    simp only [putKR] at h
    by_cases e : p.1 = k
    · rw [if_pos e] at h
      simp only [List.map_cons, List.mem_cons] at h ⊢
      rcases h with h | h
      · exact .inr h
      · exact .inl (.inr h)
    · rw [if_neg e] at h
      simp only [List.map_cons, List.mem_cons] at h ⊢
      rcases h with h | h
      · exact .inl (.inl h)
      · exact (putKR_mem h).imp .inr id
theorem putKR_nodup {k : Key} {v : V} : ∀ {r : List (Key × V)}, (r.map (·.1)).Nodup → ((putKR k v r).map (·.1)).Nodup
  | [], _ => by simp [putKR]
  | p :: r, h => by
    rw [List.map_cons, List.nodup_cons] at h
    simp only [putKR]
    by_cases e : p.1 = k
    · rw [if_pos e, List.map_cons, List.nodup_cons]
      exact ⟨by rw [← e]; exact h.1, h.2⟩
    · rw [if_neg e, List.map_cons, List.nodup_cons]
      exact ⟨fun q => (putKR_mem q).elim h.1 e, putKR_nodup h.2⟩
theorem dput_rel {a d : D} {k : Key} {y : V} (hk : keyD a = some k) (hy : Rp K M H d y) : ∀ {ks vs : List D} {acc : List (Key × V)}, ks.map keyD = acc.map (fun p => some p.1) → RpL K M H vs (acc.map (·.2)) →
    (dputL a d ks vs).1.map keyD = (putKR k y acc).map (fun p => some p.1) ∧ RpL K M H (dputL a d ks vs).2 ((putKR k y acc).map (·.2))
  | [], vs, [], _, r => by
    cases r
    exact ⟨by simp [dputL, putKR, hk], .cons hy .nil⟩
  | [], _, _ :: _, h, _ => by cases h
  | _ :: _, _, [], h, _ => by cases h
  | c :: ks, [], p :: acc, h, r => by cases r
  | c :: ks, w :: vs, p :: acc, h, r => by
    simp only [List.map_cons, List.cons.injEq] at h
    cases r with
    | cons r1 r2 =>
      simp only [dputL, putKR, eqv_key h.1 hk]
      by_cases e : p.1 = k
      · rw [decide_eq_true e, if_pos rfl, if_pos e]
        exact ⟨by simp [h.2, h.1, e], .cons hy r2⟩
      · rw [decide_eq_false e, if_neg Bool.false_ne_true, if_neg e]
        obtain ⟨h3, h4⟩ := dput_rel hk hy h.2 r2
        exact ⟨by simp [h3, h.1], .cons r1 h4⟩
theorem isKey_some {a : D} (h : isKey a = true) : ∃ k, keyD a = some k := by
  cases a <;> first | (cases h; done) | exact ⟨_, rfl⟩
theorem dict_rel : ∀ {ds ks vs ks' vs' : List D} {us : List V} {acc : List (Key × V)}, dictOf ds ks vs = some (ks', vs') → RpL K M H ds us → KeysR ks acc → RpL K M H vs (acc.map (·.2)) →
    ∃ (ps : List Addr) (kvs : List (Key × V)), us = ps.map V.ref ∧ Paired (fun p kv => SqT K H p [kV kv.1, kv.2]) ps kvs ∧ KeysR ks' (mergeK acc kvs) ∧ RpL K M H vs' ((mergeK acc kvs).map (·.2))
  | [], ks, vs, _, _, _, acc, e, .nil, hk, hv => by
    cases e
    exact ⟨[], [], rfl, .nil, hk, hv⟩
  | d :: ds, ks, vs, ks', vs', _, acc, e, .cons r1 r2, hk, hv => by
    rename_i u us
    match d, e, r1 with
    | .tup [a, b], e, r1 =>
      simp only [dictOf] at e
      split at e
      · rename_i hkey
        obtain ⟨k, hkd⟩ := isKey_some hkey
        obtain ⟨p, zs, rfl, ht, rz, _⟩ := (Rp.sq r1).tup
        cases rz with
        | cons ra rz =>
          rename_i x zs
          cases rz with
          | cons rb rz =>
            rename_i y zs
            cases rz
            have ex : x = kV k := key_rel hkd (Rp.sq ra)
            subst ex
            obtain ⟨g1, g2⟩ := dput_rel hkd rb hk.1 hv
            have nd : ((putKR k y acc).map (·.1)).Nodup := putKR_nodup hk.2
            obtain ⟨ps, kvs, h1, h2, h3, h4⟩ := dict_rel (acc := putKR k y acc) e r2 ⟨g1, nd⟩ g2
            have em : mergeK acc ((k, y) :: kvs) = mergeK (putKR k y acc) kvs := by
              show mergeK (putK acc k y) kvs = _
              rw [putK_eq hk.2]
            exact ⟨p :: ps, (k, y) :: kvs, by rw [h1, List.map_cons], .cons ht.sq h2, by rw [em]; exact h3, by rw [em]; exact h4⟩
      · cases e
theorem dput_len (a d : D) : ∀ ks vs : List D, (dputL a d ks vs).1.length ≤ ks.length + 1
  | [], _ => by simp [dputL]
  | _ :: _, [] => by simp [dputL]
  | c :: ks, w :: vs => by
    simp only [dputL]
    split
    · simp
    · have := dput_len a d ks vs
      simp only [List.length_cons]
      omega
theorem dict_len : ∀ {ds ks vs ks' vs' : List D}, dictOf ds ks vs = some (ks', vs') → ks'.length ≤ ks.length + ds.length
  | [], _, _, _, _, e => by cases e; simp
  | d :: ds, ks, vs, ks', vs', e => by
    match d, e with
    | .tup [a, b], e =>
      simp only [dictOf] at e
      split at e
      · have := dict_len e
        have := dput_len a b ks vs
        simp only [List.length_cons]
        omega
      · cases e
theorem tpm_plain {pins : List (Addr × Obj)} {σ : Sl} {s : Shared} {a : Addr} {vs : List V} (I : Inv X pins σ H s) (h : TpM X.K M H a vs) : ∃ its : List Value, Vals vs its ∧ PlainSeq "tuple" s.heap a its.toArray ∧ vs.length ≤ sizeLine := by
  rcases h with ⟨o, h, ⟨t1, t2, _⟩, _⟩ | ⟨o, its, n, h1, h2, h3, h4, h5, h6⟩
  · obtain ⟨e, z, its, r, o', e', h1, n, h2⟩ := I.hok a _ h
    rw [e] at e'; cases e'
    exact ⟨its, r, ⟨o, n, e, t1, t2, h2⟩, z⟩
  · refine ⟨its.toList, h6, ⟨o, n, I.kIn a o h1, h2, h3, by simpa using h4⟩, ?_⟩
    rw [h6.length, Array.length_toList]; exact h5
theorem pairs_ok {pins : List (Addr × Obj)} {σ : Sl} {s : Shared} (I : Inv X pins σ H s) : ∀ {ps : List Addr} {kvs : List (Key × V)}, Paired (fun p kv => SqT X.K H p [kV kv.1, kv.2]) ps kvs →
    ∃ (prs : List (Key × Value)) (qs : List (Value × Value)), KV kvs prs ∧ prs.length = ps.length ∧ qs.length = ps.length ∧ ∀ (j : Nat) (k v : Value), qs[j]? = some (k, v) → ∃ b key, ps[j]? = some b ∧ PairAt s.heap b k v ∧ prs[j]? = some (key, v) ∧ keyIs key k = true
  | _, _, .nil => ⟨[], [], .nil, rfl, rfl, fun j k v e => by simp at e⟩
  | _, _, .cons (a := p) (b := kv) h t => by
    obtain ⟨prs, qs, r, l1, l2, hp⟩ := pairs_ok I t
    obtain ⟨its, rv, ht, _⟩ := I.tuple h
    obtain ⟨u, y, ei, ru, ry⟩ := vals2 rv
    subst ei
    refine ⟨(kv.1, y) :: prs, (u, y) :: qs, .cons ⟨rfl, ry⟩ r, by simp [l1], by simp [l2], fun j k v e => ?_⟩
    cases j with
    | zero =>
      simp only [List.getElem?_cons_zero, Option.some.injEq, Prod.mk.injEq] at e
      obtain ⟨rfl, rfl⟩ := e
      exact ⟨p, kv.1, rfl, .inl ht, rfl, kV_is (P := X.prog) (w := X.w) ru⟩
    | succ j => exact hp j k v (by simpa using e)
/-- dict(xs) of a list, a tuple of pairs -/
def r1K (K : PySem.W.Frag) : List V → Hp → VK → Prop := fun xs H Q => ∃ (x : V) (M : Addr → Prop) (d : D) (ks vs : List D), xs = [x] ∧ Sq K M H d x ∧ opB1 .dict d = some (.dct ks vs) ∧
  ∀ p kvs, H p = none → KeysR ks kvs → RpL K M H vs (kvs.map (·.2)) → ks.length ≤ sizeLine → Q (.ref p) (upd H p (.dK kvs))
theorem nil_keys : KeysR [] ([] : List (Key × V)) := ⟨rfl, List.nodup_nil⟩
theorem b1_dict (hc : X.calm = true) : CallR X (.type "dict") (r1K X.K) := by
  intro pins s σ H xs us Q I r h
  obtain ⟨x, M, d, ks, vs, rfl, h1, e, q⟩ := h
  have part : ∀ {ds : List D}, opB1 .dict (.lst ds) = some (.dct ks vs) → dictOf ds [] [] = some (ks, vs) := fun {ds} e => by
    simp only [opB1, Option.map_eq_some_iff] at e
    obtain ⟨⟨k1, v1⟩, e1, e2⟩ := e
    cases e2
    exact e1
  cases d with
  | lst ds =>
    have e1 := part e
    obtain ⟨a, zs, rfl, ta, ra, za⟩ := h1
    obtain ⟨ps, kvs, rfl, h2, h3, h4⟩ := dict_rel e1 ra nil_keys .nil
    exact call_dictP hc pins s σ H _ us Q I r ⟨a, ps, kvs, rfl, ta, h2, fun p n => q p _ n h3 h4 (Nat.le_trans (by have := dict_len e1; simpa using this) za)⟩
  | tup ds =>
    have e1 := part e
    obtain ⟨a, zs, rfl, ta, ra, za⟩ := h1.tup
    obtain ⟨ps, kvs, rfl, h2, h3, h4⟩ := dict_rel e1 ra nil_keys .nil
    have zk : ks.length ≤ sizeLine := Nat.le_trans (by have := dict_len e1; simpa using this) za
    obtain ⟨u, rfl, rx⟩ := vals1 r
    cases rx
    obtain ⟨its, rv, pl, _⟩ := tpm_plain I ta
    obtain rfl := refs_at rv
    obtain ⟨prs, qs, rel, l1, l2, hpr⟩ := pairs_ok I h2
    have lps : ps.length = ds.length := by rw [ra.length, List.length_map]
    have items : PairItems s.heap (ps.map Value.ref).toArray (fun j => ps.getD j 0) qs := ⟨by simp [l2], fun j k v ej => by
      obtain ⟨b, key, e2, e3, _⟩ := hpr j k v ej
      have eb : ps.getD j 0 = b := by rw [List.getD_eq_getElem?_getD, e2]; rfl
      refine ⟨by simp [e2], ?_⟩
      show PairAt s.heap (ps.getD j 0) k v
      rw [eb]; exact e3⟩
    refine PySem.call_dict_pairs (knd := mixKind X.prog X.w) (kvs := prs) (PairArg.tuple a _ (fun j => ps.getD j 0) qs) (I.ok.hd hc) ⟨pl, items⟩ ⟨by rw [l1, l2], fun j k v ej => ?_⟩ (by rw [l2, lps]; exact za) fun h' tk hd' k => ?_
    · obtain ⟨b, key, _, _, e4, e5⟩ := hpr j k v ej
      exact ⟨key, e4, e5⟩
    · have keep : ∀ b o, s.heap.get? b = some o → h'.get? b = some o := fun b o eb => k b o (by simp) eb
      have nsys : (s.heap.objs.size == sysModules) = false := beq_eq_false_iff_ne.mpr (Nat.ne_of_gt I.big)
      have lenM : (mergeK [] kvs).length ≤ sizeLine := by
        have := congrArg List.length h3.1
        rw [List.length_map, List.length_map] at this
        rw [← this]; exact zk
      exact ⟨.ref s.heap.objs.size, _, I.laid (t' := tk) keep (Nat.le_refl _) (show ObjOk X.prog X.w _ _ _ (.dK (mergeK [] kvs)) from ⟨lenM, nsys, merged [] prs, KV.merge rel .nil, hd'⟩), rfl, q _ _ I.fresh h3 h4 zk⟩
  | _ => cases e
end
end Ev

namespace Ev
open PySem PySem.Spec PyProof.Rows L2

/-- the tables of a text -/
structure Tb where
  N : List Str
  gn : List (Str × D)
  fns : List (Str × Nat)
  free : List Str
  cls : List Str
  ex : List (Str × List Bool)
  cm : Bool
  rs : Bool
def visB (sc : Scope) (x : Str) : Bool := match sc.names.lookup x with
  | some .local | some .cell | some .free => true
  | _ => false
def gloB (sc : Scope) (x : Str) : Bool := match sc.names.lookup x with
  | some .globalImplicit => true
  | _ => false
def okName (x : Str) : Bool := !(x == ("__debug__" : Str)) && !(x == ("__classdict__" : Str)) && !decide (x = ("__name__" : Str))
/-- the name x is a built-in here -/
def bltB (T : Tb) (sc : Scope) (x n : Str) : Bool := decide (x = n) && gloB sc x && decide (x ∈ T.free) && okName x
def notStar : Expr → Bool
  | .Starred _ _ => false
  | _ => true
def notSlice : Expr → Bool
  | .Slice _ _ _ _ => false
  | _ => true
def notSet : Expr → Bool
  | .Set _ _ _ => false
  | _ => true
def notComp : Expr → Bool
  | .ListComp _ _ _ _ | .SetComp _ _ _ _ | .DictComp _ _ _ _ _ => false
  | _ => true
def bopB : Bop → Operator → Bool
  | .add, .Add | .sub, .Sub | .mul, .Mult | .fdiv, .FloorDiv | .mod, .Mod | .pow, .Pow => true
  | _, _ => false
def copB : Cop → CmpOp → Bool
  | .eq, .Eq | .ne, .NotEq | .lt, .Lt | .le, .LtE | .gt, .Gt | .ge, .GtE | .isin, .In | .notin, .NotIn | .is, .Is | .isnot, .IsNot => true
  | _, _ => false
def b1N : B1 → Str
  | .len => "len" | .all => "all" | .any => "any" | .sum => "sum" | .tuple => "tuple" | .list => "list" | .int => "int" | .ord => "ord" | .str => "str" | .abs => "abs" | .sorted => "sorted" | .dict => "dict"
def b2N : B2 → Str
  | .min => "min" | .max => "max"
/-- what is served of these -/
def b1Ok : B1 → Bool
  | .len | .all | .any | .sum | .tuple | .list | .int | .ord | .abs | .dict => true
  | _ => false
/-- what makes a new list, a new dict -/
def b1L : B1 → Bool
  | .list | .dict => true
  | _ => false
def tyS : Ty → Str
  | .int => "int" | .str => "str" | .bool => "bool" | .tup => "tuple" | .lst => "list"
def nameB (T : Tb) (sc : Scope) (i : Nat) (x : Str) : Bool := decide (T.N[i]? = some x) && visB sc x && okName x
/-- a target: the name's own here -/
def ownB (T : Tb) (sc : Scope) (i : Nat) (x : Str) : Bool := decide (T.N[i]? = some x) && okName x && (match sc.names.lookup x with
  | some .local | some .cell => true
  | _ => false)
def chkG1 (T : Tb) (sc : Scope) : List Nat → List Expr → Bool
  | [], [] => true
  | i :: is, .Name x _ :: es => ownB T sc i x && chkG1 T sc is es
  | _, _ => false
def chkG (T : Tb) (sc : Scope) : Tg → Expr → Bool
  | .v i, .Name x _ => ownB T sc i x
  | .t is, .Tuple es _ _ => T.cm && chkG1 T sc is es
  | _, _ => false
def tgIn (own : List Nat) : Tg → Bool
  | .v i => own.contains i
  | .t is => is.all own.contains
/-- the slots of a comprehension's own names -/
def ownOf (T : Tb) (own : List Nat) : List (Str × Nat) := own.map fun i => (T.N.getD i Str.empty, i)
def mtN : Mt → Str
  | .lapp => "append" | .lext => "extend" | .lrev => "reverse" | .lclr => "clear" | .lins => "insert" | .lpop | .lpopA | .dpop => "pop" | .lidx | .tidx | .sidx => "index" | .lcnt | .tcnt | .scnt => "count"
  | .sfnd | .sfnd2 => "find" | .ssplit => "split" | .sjoin => "join" | .supper => "upper" | .sstrip => "strip" | .dget1 | .dget2 => "get" | .dsetd => "setdefault"
/-- the methods that are served -/
def mtB : Mt → Bool
  | .lapp | .lrev | .lclr | .sidx | .sfnd | .lext => true
  | _ => false
def baseB : Expr → Bool
  | .Call .. => false
  | _ => true
def fnB (x : Str) (m : Nat) : Option (Str × Nat) → Bool
  | some (y, n) => decide (x = y) && decide (m = n)
  | none => false
def plainT : Expr → Bool
  | .BoolOp .. | .UnaryOp .Not _ _ | .Compare .. | .IfExp .. => false
  | _ => true
def srcB (T : Tb) : Expr → Bool
  | .Call (.Name x _) _ _ _ => decide (x ∉ T.free)
  | _ => true
/-- what leans on nothing being handled -/
def b1C : B1 → Bool
  | .all | .any | .sum | .dict => true
  | _ => false
mutual
def chkE (T : Tb) (sc : Scope) : Ex → Expr → Bool
  | .var i, .Name x _ => nameB T sc i x
  | .gl i d, .Name x _ => gloB sc x && okName x && (match T.gn[i]? with
    | some (y, d') => decide (x = y) && D.beq d d'
    | none => false)
  | .non, .Constant .none _ _ => true
  | .bl b, .Constant (.bool b') _ _ => b == b'
  | .int i, .Constant (.int j) _ _ => decide (i = j)
  | .str s, .Constant (.str x) _ _ => decide (x = toS s) && decide (s.length ≤ SZ)
  | .bin o a b, .BinOp ea op eb _ => bopB o op && (chkE T sc a ea && chkE T sc b eb)
  | .neg a, .UnaryOp .USub e _ => chkE T sc a e
  | .not a, .UnaryOp .Not e _ => chkE T sc a e
  | .cmp o a b, .Compare ea [op] [eb] _ => copB o op && notSet eb && (chkE T sc a ea && chkE T sc b eb)
  | .cmp2 o p a b d, .Compare ea [op, op'] [eb, ed] _ => copB o op && copB p op' && notSet ed && (chkE T sc a ea && (chkE T sc b eb && chkE T sc d ed))
  | .cmp3 o p q a b d f, .Compare ea [op, op', op2] [eb, ed, ef] _ => copB o op && copB p op' && copB q op2 && notSet ef && (chkE T sc a ea && (chkE T sc b eb && (chkE T sc d ed && chkE T sc f ef)))
  | .and a b, .BoolOp .And [e1, e2] _ => chkE T sc a e1 && chkE T sc b e2
  | .and a b, .BoolOp .And (e1 :: e2 :: e3 :: r) pos => chkE T sc a e1 && chkE T sc b (.BoolOp .And (e2 :: e3 :: r) pos)
  | .or a b, .BoolOp .Or [e1, e2] _ => chkE T sc a e1 && chkE T sc b e2
  | .or a b, .BoolOp .Or (e1 :: e2 :: e3 :: r) pos => chkE T sc a e1 && chkE T sc b (.BoolOp .Or (e2 :: e3 :: r) pos)
  | .ife t a b, .IfExp et ea eb _ => chkT T sc t et && (chkE T sc a ea && chkE T sc b eb)
  | .tup es, .Tuple l _ _ => decide (l.length ≤ SZ) && chkL T sc es l
  | .lst _ es, .List l _ => decide (l.length ≤ SZ) && chkL T sc es l
  | .idx a b, .Subscript ea eb _ => notSlice eb && (chkE T sc a ea && chkE T sc b eb)
  | .slc a lo hi, .Subscript ea (.Slice l h none _) _ => chkE T sc a ea && (chkO T sc lo l && chkO T sc hi h)
  | .b1 f r a, .Call (.Name x _) [e] [] _ => b1Ok f && (T.cm || !b1C f) && (!r || b1L f) && bltB T sc x (b1N f) && notStar e && chkE T sc a e
  | .b2 f a b, .Call (.Name x _) [e, d] [] _ => T.cm && bltB T sc x (b2N f) && notStar e && notStar d && (chkE T sc a e && chkE T sc b d)
  | .isi a t, .Call (.Name x _) [e, .Name y _] [] _ => bltB T sc x "isinstance" && bltB T sc y (tyS t) && notStar e && chkE T sc a e
  | .call f es, .Call (.Name x _) l [] _ => T.cm && gloB sc x && okName x && fnB x l.length T.fns[f]? && decide (l ≠ []) && chkL T sc es l
  | .mth m o es, .Call (.Attribute oe name ap) l [] p => decide (name = mtN m) && (ap.endLine == p.line) && baseB oe && decide (l.length < 29) && mtB m && (chkE T sc o oe && chkL T sc es l)
  | .comp _ own tg it ifs elt, .ListComp e [⟨eg, ei, es, k⟩] s _ => T.cm && decide (k = 0) && blkC T.N sc s (ownOf T own) && tgIn own tg && decide (own.all (fun i => decide (i < T.N.length))) && notSet ei &&
    (chkG T s tg eg && (chkI T sc it eg ei && (chkQ T s ifs es && chkE T s elt e)))
  | .isE i row, .Call (.Name x _) [.Name z _, .Name y _] [] _ => !T.cm && bltB T sc x "isinstance" && nameB T sc i z && T.ex.contains (y, row) && decide (row.length = T.cls.length) && okName y && gloB sc y
  | .fz a, e => chkE T sc a e
  | _, _ => false
def chkL (T : Tb) (sc : Scope) : Exs → List Expr → Bool
  | .nil, [] => true
  | .cons a r, e :: es => notStar e && (chkE T sc a e && chkL T sc r es)
  | _, _ => false
def chkO (T : Tb) (sc : Scope) : Op → Option Expr → Bool
  | .none, none => true
  | .some a, some e => chkE T sc a e
  | _, _ => false
def chkQ (T : Tb) (sc : Scope) : Op' → List Expr → Bool
  | .none, [] => true
  | .some t, [e] => chkT T sc t e
  | _, _ => false
def chkT (T : Tb) (sc : Scope) : Te → Expr → Bool
  | .tr a, e => plainT e && chkE T sc a e
  | .cmp o a b, .Compare ea [op] [eb] _ => copB o op && notSet eb && (chkE T sc a ea && chkE T sc b eb)
  | .cmp2 o p a b d, .Compare ea [op, op'] [eb, ed] _ => copB o op && copB p op' && notSet ed && (chkE T sc a ea && (chkE T sc b eb && chkE T sc d ed))
  | .not t, .UnaryOp .Not e _ => chkT T sc t e
  | .and a b, .BoolOp .And [e1, e2] _ => chkT T sc a e1 && chkT T sc b e2
  | .and a b, .BoolOp .And (e1 :: e2 :: e3 :: r) pos => chkT T sc a e1 && chkT T sc b (.BoolOp .And (e2 :: e3 :: r) pos)
  | .or a b, .BoolOp .Or [e1, e2] _ => chkT T sc a e1 && chkT T sc b e2
  | .or a b, .BoolOp .Or (e1 :: e2 :: e3 :: r) pos => chkT T sc a e1 && chkT T sc b (.BoolOp .Or (e2 :: e3 :: r) pos)
  | _, _ => false
/-- what is walked, for a target (the walk hands a pair on to it) -/
def chkI (T : Tb) (sc : Scope) : Src → Expr → Expr → Bool
  | .e a, _, e => srcB T e && chkE T sc a e
  | .rng es, _, .Call (.Name x _) l [] _ => bltB T sc x "range" && decide (l.length = 1 ∨ l.length = 2 ∨ l.length = 3) && chkL T sc es l
  | .enu a, .Tuple _ _ _, .Call (.Name x _) [e] [] _ => bltB T sc x "enumerate" && notStar e && chkE T sc a e
  | .zip a b, .Tuple _ _ _, .Call (.Name x _) [e, d] [] _ => bltB T sc x "zip" && notStar e && notStar d && (chkE T sc a e && chkE T sc b d)
  | .rev a, _, .Call (.Name x _) [e] [] _ => bltB T sc x "reversed" && notStar e && chkE T sc a e
  | _, _, _ => false
end
/-- errors whose context is None, other errors -/
structure TakesB (X : Cx) (W : WX) : Prop where
  n : L2N.Takes X fun cls d σ H => d = none ∧ W cls none σ H
  z : Takes X fun cls d σ H => d = none ∧ W cls (some 1) σ H
/-- how an error lies behind a call -/
def CXB (P : Program) (w : World) : CXT := fun outer H s E u s' => L2N.CX P w outer H s (fun cls d H' => d = none ∧ E cls none H') u s' ∨ L2.CX P w outer H s (fun cls d H' => d = none ∧ E cls (some 1) H') u s'
theorem passB {X : Cx} {W : WX} (tk : TakesB X W) (σ : Sl) : PassesAt (CXB X.prog X.w) X σ (WE W σ) := fun _ _ _ e s' I c => by
  rcases c with c | c
  · exact tk.n e s' (L2N.XE.of_call I (fun _ _ _ h => h) c)
  · exact tk.z e s' (XE.of_call I (fun _ _ _ h => h) c)
theorem takesB_of {X : Cx} {E : XK} {E₁ : Value → Shared → Prop} (hs : X.stack = X.env :: X.outer) (hf : X.env.frame = some X.env.locals) (hex : X.ex = [])
    (hx : X.xe = fun e s' => wpAny (model X.prog X.w) X.A (leaving X.env e) (fun _ s'' => CXB X.prog X.w X.outer X.H_0 X.s_0 E e s'') E₁ s') : TakesB X (fun cls d _ H => E cls d H) := by
  constructor
  · intro u s' x
    rw [hx]
    exact wpAny_mono (L2N.XE.leave (E := fun cls d H' => d = none ∧ E cls none H') (E₁ := E₁) hs hf hex (fun _ _ _ _ h => h) x) (fun _ _ q => .inl q) fun _ _ q => q
  · intro u s' x
    rw [hx]
    exact wpAny_mono (XE.leave (E := fun cls d H' => d = none ∧ E cls (some 1) H') (E₁ := E₁) hs hf hex (fun _ _ _ _ h => h) x) (fun _ _ q => .inr q) fun _ _ q => q
def caT (K : PySem.W.Frag) (T : Tb) (c : Nat) : Addr := match T.cls[c / 2]? with
  | some x => He.ga K x
  | none => 0
/-- the promise of the f-th def -/
def spF (K : PySem.W.Frag) (T : Tb) (c : Calls) (f n : Nat) : Sp := fun vs H Q E => ∃ (w : Wd) (vas : List Va), w.H = H ∧ w.Ok K ∧ RVL K w vas vs ∧ vs.length = n ∧
  post K (caT K T) (fun cls d _ H => E cls d H) (RV K) w [] Q (c f vas w.st)
/-- the class that a clause names, that isinstance asks for -/
def cvOf (K : PySem.W.Frag) (y : Str) : Value := if y = "ValueError" then .type "ValueError" else .ref (He.ga K y)
/-- what is known of such a class, and of the module's own errors -/
def ExOk (K : PySem.W.Frag) (mg : Str → Option Value) (cls : List Str) (q : Str × List Bool) : Prop :=
  ((q.1 = "ValueError" ∧ mg q.1 = none) ∨ (q.1 ≠ "ValueError" ∧ mg q.1 = some (.ref (He.ga K q.1)))) ∧
  ∀ (j : Nat) (x : Str) (b : Bool), cls[j]? = some x → q.2[j]? = some b → PySem.W.exmOne K (.ref (He.ga K x)) (cvOf K q.1) = some b ∧ PySem.W.kitOne K (.ref (He.ga K x)) (cvOf K q.1) = some b
structure Ct (T : Tb) (c : Calls) (k : Nat) (W : WX) (sc : Scope) (X : Cx) : Prop where
  glo : ∀ x : Str, sc.names.lookup x = some .globalImplicit → X.env.scope.names.lookup x = some .globalImplicit
  loc : ∀ x : Str, sc.names.lookup x = some .local → X.env.scope.names.lookup x = some .local
  cel : ∀ x : Str, sc.names.lookup x = some .cell → X.env.scope.names.lookup x = some .cell ∧ X.fn x = true
  fre : ∀ x : Str, sc.names.lookup x = some .free → X.env.scope.names.lookup x = some .cell ∨ X.env.scope.names.lookup x = some .free
  calm : T.cm = true → X.calm = true
  room : T.cm = true → Room k X.A
  un : X.A.units + 190 < cLine
  ex : ∀ q ∈ T.ex, ExOk X.K X.mg T.cls q
  exh : T.cm = false → ∀ (a n : Int) (st st' : Store), c 0 [] st = .ok (.d (.tup [.int a, .int n])) st' → st' = st ∧ CallR X (.builtin "isinstance") (rIsE X.K (caT X.K T n.toNat) a.toNat)
  nd : T.N.Nodup
  nm : X.N = T.N
  takes : TakesB X W
  pass : PassesOwn (model X.prog X.w) X.A X.env X.xe
  free : ∀ x : Str, x ∈ T.free → X.mg x = none
  gl : ∀ (i : Nat) (x : Str) (d : D), T.gn[i]? = some (x, d) → ∃ u v, X.mg x = some u ∧ RelV v u ∧ ∀ M H, Rp X.K M H d v
  cls : ∀ (i : Nat) (x : Str), T.cls[i]? = some x → X.mg x = some (.ref (He.ga X.K x)) ∧ PySem.W.excIn X.K (He.ga X.K x) He.veBase "ValueError.__new__" = true ∧ PySem.W.keepIn X.K (.ref (He.ga X.K x)) = true ∧
    PySem.W.subIn X.K (.ref (He.ga X.K x)) (.type "BaseException") = some true ∧ PySem.W.typeIn X.K (.ref (He.ga X.K x)) = some (.type "type")
  fn : ∀ (i : Nat) (x : Str) (n : Nat), T.fns[i]? = some (x, n) → ∃ f fd ps, X.mg x = some (.ref f) ∧ PySem.W.keepIn X.K (.ref f) = true ∧ Binds X.K fd ps [] ∧ FnOk X.prog X.w X.K X.mg X.base (CXB X.prog X.w) k f fd ps (spF X.K T c i n)
section
variable {T : Tb} {sc : Scope} {X : Cx} {c : Calls} {k : Nat} {W : WX}
theorem ba2 {a b : Bool} (h : (a && b) = true) : a = true ∧ b = true := by simpa using h
theorem vis_of {x : Str} (h : visB sc x = true) : Vis sc x := by
  unfold visB at h
  split at h
  · rename_i e; exact .inl e
  · rename_i e; exact .inr (.inl e)
  · rename_i e; exact .inr (.inr e)
  · cases h
theorem glo_of (C : Ct T c k W sc X) {x : Str} (h : gloB sc x = true) : Gl X x := by
  unfold gloB at h
  split at h
  · rename_i e
    exact C.glo x e
  · cases h
theorem vis_up (C : Ct T c k W sc X) {x : Str} (h : Vis sc x) : Vis X.env.scope x := by
  rcases h with h | h | h
  · exact .inl (C.loc x h)
  · exact .inr (.inl (C.cel x h).1)
  · exact .inr (C.fre x h)
theorem okN {x : Str} (h : okName x = true) : (x == ("__debug__" : Str)) = false ∧ (x == ("__classdict__" : Str)) = false ∧ x ≠ "__name__" := by
  unfold okName at h
  obtain ⟨h1, h2⟩ := ba2 h
  obtain ⟨h3, h4⟩ := ba2 h1
  exact ⟨by simpa using h3, by simpa using h4, by simpa using h2⟩
theorem blt_of (C : Ct T c k W sc X) {x n : Str} (h : bltB T sc x n = true) : x = n ∧ Gl X x ∧ X.mg x = none ∧ x ≠ "__name__" ∧ (x == ("__debug__" : Str)) = false := by
  unfold bltB at h
  obtain ⟨h1, h2⟩ := ba2 h
  obtain ⟨h3, h4⟩ := ba2 h1
  obtain ⟨h5, h6⟩ := ba2 h3
  have o := okN h2
  exact ⟨of_decide_eq_true h5, glo_of C h6, C.free x (of_decide_eq_true h4), o.2.2, o.1⟩
theorem star_of {e : Expr} (h : notStar e = true) (es : List Expr) (env : PySem.Env) : starEach (e :: es) env = (false, eval e env) :: starEach es env := by
  cases e <;> first | rfl | cases h
theorem back_of {pos : Pos} {env : PySem.Env} : ∀ {es : List Expr}, es.all notStar = true → (backTo pos (starEach es env)).any (·.1) = false
  | [], _ => rfl
  | e :: es, h => by
    rw [List.all_cons] at h
    obtain ⟨h1, h2⟩ := ba2 h
    rw [star_of h1]
    cases es with
    | nil => rfl
    | cons e2 es2 =>
      have ih := back_of (pos := pos) (env := env) h2
      rw [star_of (by rw [List.all_cons] at h2; exact (ba2 h2).1)] at ih ⊢
      simpa [backTo] using ih
theorem set_of {e : Expr} (h : notSet e = true) (op : CmpOp) : behindInMarks op e = false := by cases e <;> first | rfl | cases h
theorem fold_of {e : Expr} (h : notSet e = true) (env : PySem.Env) (x : Value) : foldedSetIterable e env x = pure x := by
  cases e <;> first | rfl | cases h
theorem plain_of {e : Expr} (h : notSlice e = true) : PlainIx e := by
  intro o i
  cases e <;> first | rfl | cases h
end
mutual
theorem D_beq_eq : ∀ (a b : D), D.beq a b = true → a = b
  | .non, b, h => by cases b <;> first | rfl | cases h
  | .bl x, b, h => by
    cases b with
    | bl y => simp only [D.beq, beq_iff_eq] at h; rw [h]
    | _ => cases h
  | .int x, b, h => by
    cases b with
    | int y => simp only [D.beq, beq_iff_eq] at h; rw [h]
    | _ => cases h
  | .str x, b, h => by
    cases b with
    | str y => simp only [D.beq, beq_iff_eq] at h; rw [h]
    | _ => cases h
  | .tup x, b, h => by
    cases b with
    | tup y => simp only [D.beq] at h; rw [D_beqL_eq x y h]
    | _ => cases h
  | .lst x, b, h => by
    cases b with
    | lst y => simp only [D.beq] at h; rw [D_beqL_eq x y h]
    | _ => cases h
  | .dct x x2, b, h => by
    cases b with
    | dct y y2 =>
      simp only [D.beq, Bool.and_eq_true] at h
      rw [D_beqL_eq x y h.1, D_beqL_eq x2 y2 h.2]
    | _ => cases h
theorem D_beqL_eq : ∀ (a b : List D), D.beqL a b = true → a = b
  | [], [], _ => rfl
  | [], _ :: _, h => by cases h
  | _ :: _, [], h => by cases h
  | x :: xs, y :: ys, h => by
    simp only [D.beqL, Bool.and_eq_true] at h
    rw [D_beq_eq x y h.1, D_beqL_eq xs ys h.2]
end
mutual
theorem D_beq_refl : ∀ a : D, D.beq a a = true
  | .non => rfl
  | .bl x => by simp [D.beq]
  | .int x => by simp [D.beq]
  | .str x => by simp [D.beq]
  | .tup x => by simp only [D.beq]; exact D_beqL_refl x
  | .lst x => by simp only [D.beq]; exact D_beqL_refl x
  | .dct x y => by simp only [D.beq, D_beqL_refl x, D_beqL_refl y, Bool.and_self]
theorem D_beqL_refl : ∀ a : List D, D.beqL a a = true
  | [] => rfl
  | x :: xs => by simp only [D.beqL, D_beq_refl x, D_beqL_refl xs, Bool.and_self]
end
theorem Ob_beq_eq {a b : Ob} (h : Ob.beq a b = true) : a = b := by
  cases a <;> cases b <;> first | rfl | (cases h; done) | skip
  · rw [D_beqL_eq _ _ h]
  · simp only [Ob.beq, Bool.and_eq_true] at h
    rw [D_beqL_eq _ _ h.1, D_beqL_eq _ _ h.2]
theorem Ob_beq_refl (a : Ob) : Ob.beq a a = true := by
  cases a with
  | dead => rfl
  | lst x => exact D_beqL_refl x
  | dct x y => simp only [Ob.beq, D_beqL_refl, Bool.and_self]

section
variable {T : Tb} {sc : Scope} {X : Cx} {c : Calls} {k : Nat} {W : WX}
/-- an expression, a test, arguments as their evaluations tell -/
abbrev SE (X : Cx) (T : Tb) (W : WX) (e : Expr) (m : Env → Store → Res Va) : Prop := PE X e (tM X.K (caT X.K T) W (RV X.K) m)
abbrev ST (X : Cx) (T : Tb) (W : WX) (e : Expr) (m : Env → Store → Res Bool) : Prop := PT X e (tM X.K (caT X.K T) W (fun _ a b => a = b) m)
abbrev SW (X : Cx) (T : Tb) (W : WX) (e : Expr) (m : Env → Store → Res Bool) : Prop := PW X e (tM X.K (caT X.K T) W (fun _ a b => a = b) m)
abbrev SA (X : Cx) (T : Tb) (W : WX) (es : List Expr) (m : Env → Store → Res (List Va)) : Prop := PA X es (tM X.K (caT X.K T) W (RVL X.K) m)
abbrev SO (X : Cx) (T : Tb) (W : WX) (e : Option Expr) (m : Env → Store → Res (Option Int)) : Prop := PO X e (tM X.K (caT X.K T) W (fun _ a b => a = b) m)
theorem e_var (C : Ct T c k W sc X) {i : Nat} {x : Str} {p : Pos} (h : nameB T sc i x = true) : SE X T W (.Name x p) (evE c (.var i)) := by
  unfold nameB at h
  obtain ⟨h1, h2⟩ := ba2 h
  obtain ⟨h3, h4⟩ := ba2 h1
  have o := okN h2
  refine PE.imp (pe_var (i := i) (by rw [C.nm]; exact of_decide_eq_true h3) (vis_up C (vis_of h4)) o.1 o.2.1) fun σ H Q hq => ?_
  obtain ⟨env, w, rfl, ok, E, p⟩ := hq
  simp only [evE] at p
  cases e : env[i]? with
  | none => simp only [e, post] at p
  | some z =>
    cases z with
    | none => simp only [e, post] at p
    | some va =>
      simp only [e] at p
      obtain ⟨v, h1, h2⟩ := E.at_ i va e
      exact ⟨v, h1, p v w rfl ok Wd.Le.refl h2⟩
theorem e_const (C : Ct T c k W sc X) {e : Expr} {d : D} {v : V} (h : PE X e (tC v)) (r : ∀ M H, Rp X.K M H d v) : SE X T W e (fun _ st => .ok (.d d) st) := by
  refine PE.imp h fun σ H Q hq => ?_
  obtain ⟨env, w, rfl, ok, E, p⟩ := hq
  exact p v w rfl ok Wd.Le.refl (r _ _)
theorem e_gl (C : Ct T c k W sc X) {i : Nat} {d : D} {x : Str} {p : Pos} (h : (gloB sc x && okName x && (match T.gn[i]? with | some (y, d') => decide (x = y) && D.beq d d' | none => false)) = true) : SE X T W (.Name x p) (evE c (.gl i d)) := by
  obtain ⟨h1, h2⟩ := ba2 h
  obtain ⟨h3, h4⟩ := ba2 h1
  cases e : T.gn[i]? with
  | none => rw [e] at h2; cases h2
  | some q =>
    obtain ⟨y, d'⟩ := q
    rw [e] at h2
    obtain ⟨h5, h6⟩ := ba2 h2
    obtain rfl := of_decide_eq_true h5
    obtain rfl := D_beq_eq _ _ h6
    obtain ⟨u, v, g1, g2, g3⟩ := C.gl i x d e
    exact e_const C (pe_glob (glo_of C h3) g1 g2 (okN h4).1) g3
theorem e_bin (C : Ct T c k W sc X) {o : Bop} {a b : Ex} {ea eb : Expr} {op : Operator} {p : Pos} (h : bopB o op = true) (ha : SE X T W ea (evE c a)) (hb : SE X T W eb (evE c b)) : SE X T W (.BinOp ea op eb p) (evE c (.bin o a b)) := by
  have key : OpR X (binaryOp op) (rD X.K (opBin o)) := by
    cases o <;> cases op <;> first | (cases h; done) | exact bin_add | exact bin_sub | exact bin_mul | exact bin_fdiv | exact bin_mod | exact bin_pow
  refine PE.imp (pe_op key ha hb) fun σ H Q hq => two (k := fun va vb st2 => ldk va st2 fun x => ldk vb st2 fun y => ofO (opBin o x y) st2) rD_of σ H Q ?_
  simpa only [evE] using hq
theorem hu_of (C : Ct T c k W sc X) : X.A.units + 190 < cLine := C.un
theorem cop_ok (C : Ct T c k W sc X) {o : Cop} {op : CmpOp} (h : copB o op = true) : OpR X (compareOp op) (rB X.K (opCmp o)) := by
  have hu := hu_of C
  cases o <;> cases op <;> first | (cases h; done) | exact cmp_eq hu | exact cmp_ne hu | exact cmp_lt | exact cmp_le | exact cmp_gt | exact cmp_ge | exact cmp_in hu | exact cmp_notin hu | exact cmp_is | exact cmp_isnot
theorem e_cmp (C : Ct T c k W sc X) {o : Cop} {a b : Ex} {ea eb : Expr} {op : CmpOp} {p : Pos} (h : copB o op = true) (hs : notSet eb = true) (ha : SE X T W ea (evE c a)) (hb : SE X T W eb (evE c b)) : SE X T W (.Compare ea [op] [eb] p) (evE c (.cmp o a b)) := by
  refine PE.imp (pe_cmpR (cop_ok C h) ha hb (set_of hs op)) fun σ H Q hq => two (k := fun va vb st2 => ldk va st2 fun x => ldk vb st2 fun y => ofB' (opCmp o x y) st2) rB_of σ H Q ?_
  simpa only [evE] using hq
theorem e_idx (C : Ct T c k W sc X) {a b : Ex} {ea eb : Expr} {p : Pos} (h : notSlice eb = true) (ha : SE X T W ea (evE c a)) (hb : SE X T W eb (evE c b)) : SE X T W (.Subscript ea eb p) (evE c (.idx a b)) := by
  refine PE.imp (pe_ix (ix_sound (hu_of C)) ha hb (plain_of h)) fun σ H Q hq => two (k := fun va vb st2 => ldk va st2 fun x => ldk vb st2 fun y => ofO (opIdx x y) st2) rD_of σ H Q ?_
  simpa only [evE] using hq
theorem e_neg (C : Ct T c k W sc X) {a : Ex} {ea : Expr} {p : Pos} (ha : SE X T W ea (evE c a)) : SE X T W (.UnaryOp .USub ea p) (evE c (.neg a)) := by
  refine PE.imp (pe_un un_neg ha) fun σ H Q hq => one (k := negV) (fun w va x σ Q ok rx p => ?_) σ H Q ?_
  · cases va with
    | d d =>
      cases d with
      | int i =>
        obtain rfl := Sq.int (M := w.M) (H := w.H) (K := X.K) (Rp.sq rx)
        exact ⟨i, rfl, post_data ok p Ext.refl (.int _)⟩
      | _ => exact p.elim
    | _ => exact p.elim
  · simpa only [evE] using hq
/-- a value at hand, then what is done with the data that it is -/
theorem ldk_post {α β : Type} {K : PySem.W.Frag} {ca : Nat → Addr} {R : Wd → α → β → Prop} {w : Wd} {σ : Sl} {Q : β → Hp → Prop} {va : Va} {x : V} {f : D → Res α} (ok : w.Ok K) (rx : RV K w va x) (p : post K ca W R w σ Q (ldk va w.st f)) : ∃ d, ld w.st va = some d ∧ Sq K w.M w.H d x ∧ post K ca W R w σ Q (f d) := by
  unfold ldk at p
  cases e : ld w.st va with
  | none => simp only [e, post] at p
  | some d => simp only [e] at p; exact ⟨d, rfl, ld_ok ok rx e, p⟩
theorem e_not (C : Ct T c k W sc X) {a : Ex} {ea : Expr} {p : Pos} (ha : SE X T W ea (evE c a)) : SE X T W (.UnaryOp .Not ea p) (evE c (.not a)) := by
  refine PE.imp (pe_notT ha) fun σ H Q hq => one (r := fun x H1 Q => ∃ k, TruV X.K x H1 k ∧ Q (.bl (!k)) H1) (k := fun va st1 => ldk va st1 fun x => .ok (.d (.bl (!truD x))) st1) (fun w va x σ Q ok rx p => ?_) σ H Q ?_
  · obtain ⟨d, e, q, p⟩ := ldk_post ok rx p
    exact ⟨truD d, truV_of q, post_bool ok p⟩
  · simpa only [evE] using hq
end
end Ev

namespace Ev
open PySem PySem.Spec PyProof.Rows L2
section
variable {T : Tb} {sc : Scope} {X : Cx} {c : Calls} {k : Nat} {W : WX}
theorem chain_of (C : Ct T c k W sc X) {o p : Cop} {a b d : Ex} (σ : Sl) (H : Hp) (Q : VK)
    (h : tM X.K (caT X.K T) W (RV X.K) (evE c (.cmp2 o p a b d)) σ H Q) :
    tChain (rB X.K (opCmp o)) (rB X.K (opCmp p)) (tM X.K (caT X.K T) W (RV X.K) (evE c a)) (tM X.K (caT X.K T) W (RV X.K) (evE c b)) (tM X.K (caT X.K T) W (RV X.K) (evE c d)) σ H Q := by
  obtain ⟨env, w, rfl, ok, E, q⟩ := h
  simp only [evE] at q
  refine ⟨env, w, rfl, ok, E, (post.bind (R := RV X.K) q).imp fun x H1 q => ?_⟩
  obtain ⟨va, w1, rfl, ok1, l1, r1, p1⟩ := q
  refine ⟨env, w1, rfl, ok1, E.mono l1, (post.bind (R := RV X.K) p1).imp fun y H2 q => ?_⟩
  obtain ⟨vb, w2, rfl, ok2, l2, r2, p2⟩ := q
  obtain ⟨d1, e1, s1, p2⟩ := ldk_post ok2 (r1.mono l2) p2
  obtain ⟨d2, e2, s2, p2⟩ := ldk_post ok2 r2 p2
  cases eb : opCmp o d1 d2 with
  | none => simp only [eb, ofB, Res.bind, post] at p2
  | some bb =>
    simp only [eb, ofB, Res.bind] at p2
    refine ⟨w2.M, d1, d2, bb, s1, s2, eb, bb, rfl, ?_⟩
    cases bb with
    | false => exact post_bool ok2 p2
    | true =>
      refine ⟨env, w2, rfl, ok2, (E.mono l1).mono l2, (post.bind (R := RV X.K) p2).imp fun z H3 q => ?_⟩
      obtain ⟨vd, w3, rfl, ok3, l3, r3, p3⟩ := q
      exact rB_of w3 vb vd y z σ Q ok3 (r2.mono l3) r3 p3
theorem last_of {e1 e2 : Expr} {o1 o2 : CmpOp} (h : notSet e2 = true) : lastMarks [o1, o2] [e1, e2] = false := set_of h o2
theorem e_cmp2 (C : Ct T c k W sc X) {o p : Cop} {a b d : Ex} {ea eb ed : Expr} {op op' : CmpOp} {ps : Pos} (h : copB o op = true) (h' : copB p op' = true) (hs : notSet ed = true) (ha : SE X T W ea (evE c a)) (hb : SE X T W eb (evE c b)) (hd : SE X T W ed (evE c d)) : SE X T W (.Compare ea [op, op'] [eb, ed] ps) (evE c (.cmp2 o p a b d)) :=
  PE.imp (pe_chain (cop_ok C h) (cop_ok C h') ha hb hd (last_of hs)) fun σ H Q hq => chain_of C σ H Q hq
/-- a op1 b op2 c op3 d -/
def tChain3 (r r' r2 : R2) (ta tb tc td : TE) : TE := fun σ H Q => ta σ H fun x H1 => tb σ H1 fun y H2 => r x y H2 fun z H3 => ∃ k, z = .bl k ∧
  (if k = true then tc σ H3 fun w' H4 => r' y w' H4 fun z2 H5 => ∃ k2, z2 = .bl k2 ∧ (if k2 = true then td σ H5 fun w2 H6 => r2 w' w2 H6 Q else Q (.bl false) H5) else Q (.bl false) H3)
theorem pe_chain3 {op op' op2 : CmpOp} {r r' r2 : R2} {a b c d : Expr} {pos : Pos} {ta tb tc td : TE} (ho : OpR X (compareOp op) r) (ho' : OpR X (compareOp op') r') (ho2 : OpR X (compareOp op2) r2) (ha : PE X a ta) (hb : PE X b tb) (hc : PE X c tc) (hd : PE X d td)
    (hm : lastMarks [op, op', op2] [b, c, d] = false) : PE X (.Compare a [op, op', op2] [b, c, d] pos) (tChain3 r r' r2 ta tb tc td) := by
  refine ⟨fun pins s σ H Q I h => ?_⟩
  refine Compare_chain (thn (ha.run pins s σ H _ I h) fun v s1 ⟨x, H1, I1, r1, q1⟩ => chain_link (thn (hb.run pins s1 σ H1 _ I1 q1) fun u s2 ⟨y, H2, I2, r2, q2⟩ =>
    thn (ho pins s2 σ H2 x y v u _ I2 r1 r2 q2) fun d s3 ⟨z, H3, I3, r3, k, e, q3⟩ => ?_)) hm
  subst e
  cases r3
  refine wpAny_truthy_bool ?_
  cases k with
  | false => exact ite_ff ⟨.bl false, H3, I3, rfl, q3⟩
  | true =>
    refine ite_tt (chain_link (thn (hc.run pins s3 σ H3 _ I3 q3) fun w' s4 ⟨z', H4, I4, r4, q4⟩ => thn (ho' pins s4 σ H4 y z' u w' _ I4 r2 r4 q4) fun d s5 ⟨z5, H5, I5, r5, k2, e2, q5⟩ => ?_))
    subst e2
    cases r5
    refine wpAny_truthy_bool ?_
    cases k2 with
    | false => exact ite_ff ⟨.bl false, H5, I5, rfl, q5⟩
    | true => exact ite_tt (chain_last (thn (hd.run pins s5 σ H5 _ I5 q5) fun w2 s6 ⟨z6, H6, I6, r6, q6⟩ => ho2 pins s6 σ H6 z' z6 w' w2 Q I6 r4 r6 q6))
theorem e_cmp3 (C : Ct T c k W sc X) {o p q : Cop} {a b d f : Ex} {ea eb ed ef : Expr} {op op' op2 : CmpOp} {ps : Pos} (h : copB o op = true) (h' : copB p op' = true) (h2 : copB q op2 = true) (hs : notSet ef = true) (ha : SE X T W ea (evE c a)) (hb : SE X T W eb (evE c b)) (hd : SE X T W ed (evE c d)) (hf : SE X T W ef (evE c f)) :
    SE X T W (.Compare ea [op, op', op2] [eb, ed, ef] ps) (evE c (.cmp3 o p q a b d f)) := by
  refine PE.imp (pe_chain3 (cop_ok C h) (cop_ok C h') (cop_ok C h2) ha hb hd hf (set_of hs op2)) fun σ H Q hq => ?_
  obtain ⟨env, w, rfl, ok, E, q1⟩ := hq
  simp only [evE] at q1
  refine ⟨env, w, rfl, ok, E, (post.bind (R := RV X.K) q1).imp fun x H1 q1 => ?_⟩
  obtain ⟨va, w1, rfl, ok1, l1, r1, p1⟩ := q1
  refine ⟨env, w1, rfl, ok1, E.mono l1, (post.bind (R := RV X.K) p1).imp fun y H2 q1 => ?_⟩
  obtain ⟨vb, w2, rfl, ok2, l2, r2, p2⟩ := q1
  obtain ⟨d1, e1, s1, p2⟩ := ldk_post ok2 (r1.mono l2) p2
  obtain ⟨d2, e2, s2, p2⟩ := ldk_post ok2 r2 p2
  cases eb : opCmp o d1 d2 with
  | none => simp only [eb, ofB, Res.bind, post] at p2
  | some bb =>
    simp only [eb, ofB, Res.bind] at p2
    refine ⟨w2.M, d1, d2, bb, s1, s2, eb, bb, rfl, ?_⟩
    cases bb with
    | false => exact post_bool ok2 p2
    | true =>
      refine ⟨env, w2, rfl, ok2, (E.mono l1).mono l2, (post.bind (R := RV X.K) p2).imp fun z H3 q1 => ?_⟩
      obtain ⟨vd, w3, rfl, ok3, l3, r3, p3⟩ := q1
      obtain ⟨d3, e3, s3, p3⟩ := ldk_post ok3 (r2.mono l3) p3
      obtain ⟨d4, e4, s4, p3⟩ := ldk_post ok3 r3 p3
      cases eb2 : opCmp p d3 d4 with
      | none => simp only [eb2, ofB, Res.bind, post] at p3
      | some b2 =>
        simp only [eb2, ofB, Res.bind] at p3
        refine ⟨w3.M, d3, d4, b2, s3, s4, eb2, b2, rfl, ?_⟩
        cases b2 with
        | false => exact post_bool ok3 p3
        | true =>
          refine ⟨env, w3, rfl, ok3, ((E.mono l1).mono l2).mono l3, (post.bind (R := RV X.K) p3).imp fun u H4 q1 => ?_⟩
          obtain ⟨vf, w4, rfl, ok4, l4, r4, p4⟩ := q1
          exact rB_of w4 vd vf z u σ Q ok4 (r3.mono l4) r4 p4
theorem e_and (C : Ct T c k W sc X) {a b : Ex} {e1 e2 : Expr} {r : List Expr} {p : Pos} (ha : SE X T W e1 (evE c a)) (hb : SE X T W (.BoolOp .And (e2 :: r) p) (evE c b)) : SE X T W (.BoolOp .And (e1 :: e2 :: r) p) (evE c (.and a b)) := by
  refine PE.imp (pe_andT ha hb) fun σ H Q hq => ?_
  obtain ⟨env, w, rfl, ok, E, q⟩ := hq
  simp only [evE] at q
  refine ⟨env, w, rfl, ok, E, (post.bind (R := RV X.K) q).imp fun x H1 q => ?_⟩
  obtain ⟨va, w1, rfl, ok1, l1, r1, p1⟩ := q
  obtain ⟨d1, e1, s1, p1⟩ := ldk_post ok1 r1 p1
  refine ⟨truD d1, truV_of s1, ?_⟩
  cases hb : truD d1 with
  | true => exact ⟨env, w1, rfl, ok1, E.mono l1, by simpa [hb] using p1⟩
  | false =>
    simp only [hb, Bool.false_eq_true, if_false] at p1
    exact p1 x w1 rfl ok1 Wd.Le.refl r1
theorem e_or (C : Ct T c k W sc X) {a b : Ex} {e1 e2 : Expr} {r : List Expr} {p : Pos} (ha : SE X T W e1 (evE c a)) (hb : SE X T W (.BoolOp .Or (e2 :: r) p) (evE c b)) : SE X T W (.BoolOp .Or (e1 :: e2 :: r) p) (evE c (.or a b)) := by
  refine PE.imp (pe_orT ha hb) fun σ H Q hq => ?_
  obtain ⟨env, w, rfl, ok, E, q⟩ := hq
  simp only [evE] at q
  refine ⟨env, w, rfl, ok, E, (post.bind (R := RV X.K) q).imp fun x H1 q => ?_⟩
  obtain ⟨va, w1, rfl, ok1, l1, r1, p1⟩ := q
  obtain ⟨d1, e1, s1, p1⟩ := ldk_post ok1 r1 p1
  refine ⟨truD d1, truV_of s1, ?_⟩
  cases hb : truD d1 with
  | true =>
    simp only [hb, if_true] at p1
    exact p1 x w1 rfl ok1 Wd.Le.refl r1
  | false => exact ⟨env, w1, rfl, ok1, E.mono l1, by simpa [hb] using p1⟩
theorem e_ife (C : Ct T c k W sc X) {t : Te} {a b : Ex} {et ea eb : Expr} {p : Pos} (ht : ST X T W et (evT c t)) (ha : SE X T W ea (evE c a)) (hb : SE X T W eb (evE c b)) : SE X T W (.IfExp et ea eb p) (evE c (.ife t a b)) := by
  refine PE.imp (pe_ifExp ht ha hb) fun σ H Q hq => ?_
  obtain ⟨env, w, rfl, ok, E, q⟩ := hq
  simp only [evE] at q
  refine ⟨env, w, rfl, ok, E, (post.bind (R := fun _ a b => a = b) q).imp fun x H1 q => ?_⟩
  obtain ⟨kb, w1, rfl, ok1, l1, rfl, p1⟩ := q
  cases kb with
  | true => exact ⟨env, w1, rfl, ok1, E.mono l1, by simpa using p1⟩
  | false => exact ⟨env, w1, rfl, ok1, E.mono l1, by simpa using p1⟩
theorem a_nil (C : Ct T c k W sc X) : SA X T W [] (evL c .nil) := by
  refine PA.imp pa_nil fun σ H Q hq => ?_
  obtain ⟨env, w, rfl, ok, E, q⟩ := hq
  simp only [evL] at q
  exact q [] w rfl ok Wd.Le.refl .nil
theorem a_cons (C : Ct T c k W sc X) {a : Ex} {r : Exs} {e : Expr} {es : List Expr} (hs : notStar e = true) (ha : SE X T W e (evE c a)) (hr : SA X T W es (evL c r)) : SA X T W (e :: es) (evL c (.cons a r)) := by
  refine PA.imp (pa_cons ha hr (star_of hs es _)) fun σ H Q hq => ?_
  obtain ⟨env, w, rfl, ok, E, q⟩ := hq
  simp only [evL] at q
  refine ⟨env, w, rfl, ok, E, (post.bind (R := RV X.K) q).imp fun x H1 q => ?_⟩
  obtain ⟨va, w1, rfl, ok1, l1, r1, p1⟩ := q
  refine ⟨env, w1, rfl, ok1, E.mono l1, (post.bind (R := RVL X.K) p1).imp fun xs H2 q => ?_⟩
  obtain ⟨vas, w2, rfl, ok2, l2, r2, p2⟩ := q
  exact p2 (x :: xs) w2 rfl ok2 Wd.Le.refl (.cons (r1.mono l2) r2)
theorem dsOf_len : ∀ {vas : List Va} {ds : List D}, dsOf vas = some ds → vas.length = ds.length
  | [], _, e => by cases e; rfl
  | .d x :: r, ds, e => by
    simp only [dsOf, Option.map_eq_some_iff] at e
    obtain ⟨ds', e1, rfl⟩ := e
    rw [List.length_cons, List.length_cons, dsOf_len e1]
  | .r _ :: _, _, e => by cases e
  | .e _ :: _, _, e => by cases e
/-- how many values arguments have -/
theorem evL_len : ∀ (es : Exs) (l : List Expr) (env : Env), chkL T sc es l = true → ∀ (st : Store) (vs : List Va) (st' : Store), evL c es env st = .ok vs st' → vs.length = l.length := by
  intro es
  induction es using Exs.rec (motive_1 := fun _ => True) (motive_3 := fun _ => True) (motive_4 := fun _ => True) (motive_5 := fun _ => True) (motive_6 := fun _ => True) with
  | nil =>
    intro l env h st vs st' e
    cases l with
    | nil => simp only [evL] at e; cases e; rfl
    | cons _ _ => cases h
  | cons a r _ ih =>
    intro l env h st vs st' e
    cases l with
    | nil => cases h
    | cons x l =>
      simp only [chkL, Bool.and_eq_true] at h
      simp only [evL] at e
      cases e1 : evE c a env st with
      | no => rw [e1] at e; cases e
      | er _ _ => rw [e1] at e; cases e
      | ok v s1 =>
        rw [e1] at e
        simp only [Res.bind] at e
        cases e2 : evL c r env s1 with
        | no => rw [e2] at e; cases e
        | er _ _ => rw [e2] at e; cases e
        | ok vs2 s2 =>
          rw [e2] at e
          cases e
          rw [List.length_cons, List.length_cons, ih l env h.2.2 s1 vs2 _ e2]
  | _ => trivial
theorem chkL_star : ∀ {es : Exs} {l : List Expr}, chkL T sc es l = true → l.all notStar = true := by
  intro es
  induction es using Exs.rec (motive_1 := fun _ => True) (motive_3 := fun _ => True) (motive_4 := fun _ => True) (motive_5 := fun _ => True) (motive_6 := fun _ => True) with
  | nil =>
    intro l h
    cases l with
    | nil => rfl
    | cons _ _ => cases h
  | cons a r _ ih =>
    intro l h
    cases l with
    | nil => cases h
    | cons x l =>
      simp only [chkL, Bool.and_eq_true] at h
      rw [List.all_cons, h.1, ih h.2.2]
      rfl
  | _ => trivial
def tTupF (t : TA) : TE := fun σ H Q => t σ H fun vs H1 => vs.length ≤ sizeLine ∧ ∀ p ob, TupO ob → H1 p = none → Q (.ref p) (upd H1 p (.frz ob (.tup vs)))
theorem pe_tupF {es : List Expr} {j : Nat} {pos : Pos} {t : TA} (h : PA X es t) : PE X (.Tuple es j pos) (tTupF t) := by
  constructor
  intro pins s σ H Q I hq
  refine wpAny_Tuple_spliced (thn (h.run pos pins s σ H _ I hq) fun us s1 ⟨xs, H1, I1, r, z, q⟩ => ⟨r.length ▸ z, ?_⟩)
  exact ⟨.ref _, _, tup_laid (t' := s1.toks) I1 r z, rfl, q _ _ tupO_new I1.fresh⟩
theorem e_tup (C : Ct T c k W sc X) {es : Exs} {l : List Expr} {j : Nat} {p : Pos} (hl : l.length ≤ SZ) (h : chkL T sc es l = true) (ha : SA X T W l (evL c es)) : SE X T W (.Tuple l j p) (evE c (.tup es)) := by
  refine PE.imp (pe_tupF ha) fun σ H Q hq => ?_
  obtain ⟨env, w, rfl, ok, E, q⟩ := hq
  simp only [evE] at q
  refine ⟨env, w, rfl, ok, E, (post.bindE (R := RVL X.K) q).imp fun xs H1 q => ?_⟩
  obtain ⟨vas, w1, rfl, ok1, l1, r1, e1, p1⟩ := q
  have n1 := evL_len es l env h _ _ _ e1
  rw [SZ_eq] at hl
  refine ⟨by rw [← r1.length, n1]; exact hl, fun p ob t n => ?_⟩
  unfold tupV at p1
  cases e2 : dsOf vas with
  | none => simp only [e2, post] at p1
  | some ds =>
    simp only [e2] at p1
    exact post_data ok1 p1 (Ext.new n) (.newT (fun a m => ok1.there m) n t (dsOf_ok (M := w1.M) r1 e2) (by rw [← dsOf_len e2, n1]; exact hl))
theorem e_lst (C : Ct T c k W sc X) {r : Bool} {es : Exs} {l : List Expr} {p : Pos} (hl : l.length ≤ SZ) (h : chkL T sc es l = true) (ha : SA X T W l (evL c es)) : SE X T W (.List l p) (evE c (.lst r es)) := by
  refine PE.imp (pe_lst ha) fun σ H Q hq => ?_
  obtain ⟨env, w, rfl, ok, E, q⟩ := hq
  simp only [evE] at q
  refine ⟨env, w, rfl, ok, E, (post.bindE (R := RVL X.K) q).imp fun xs H1 q => ?_⟩
  obtain ⟨vas, w1, rfl, ok1, l1, r1, e1, p1⟩ := q
  have n1 := evL_len es l env h _ _ _ e1
  rw [SZ_eq] at hl
  refine ⟨by rw [← r1.length, n1]; exact hl, fun p n => ?_⟩
  unfold lstV at p1
  cases e2 : dsOf vas with
  | none => simp only [e2, post] at p1
  | some ds =>
    simp only [e2] at p1
    exact post_list ok1 p1 n (dsOf_ok (M := w1.M) r1 e2) (by rw [← dsOf_len e2, n1]; exact hl)
/-- one argument -/
theorem one_arg' (C : Ct T c k W sc X) {a : Ex} {e : Expr} (hs : notStar e = true) (ha : SE X T W e (evE c a)) : PA X [e] (tCons (tM X.K (caT X.K T) W (RV X.K) (evE c a)) tNil) := pa_cons ha pa_nil (star_of hs [] _)
theorem nil_back {pos : Pos} {env : PySem.Env} : (backTo pos (starEach [] env)).any (·.1) = false := rfl
theorem r1D_of {g : D → Option D} {a : Ex} {r : Bool} (hr : r = false) (σ : Sl) (H : Hp) (Q : VK) (h : tM X.K (caT X.K T) W (RV X.K) (fun env st => (evE c a env st).bind fun va st1 => ldk va st1 fun x => mkO r (g x) st1) σ H Q) :
    tCB (r1D X.K g) (tCons (tM X.K (caT X.K T) W (RV X.K) (evE c a)) tNil) σ H Q := by
  subst hr
  obtain ⟨env, w, rfl, ok, E, q⟩ := h
  refine ⟨env, w, rfl, ok, E, (post.bind (R := RV X.K) q).imp fun x H1 q => ?_⟩
  obtain ⟨va, w1, rfl, ok1, l1, r1, p1⟩ := q
  obtain ⟨d1, e1, s1, p1⟩ := ldk_post ok1 r1 p1
  cases e2 : g d1 with
  | none => simp only [e2, mkO, post] at p1
  | some d2 =>
    simp only [e2, mkO, mk] at p1
    exact ⟨x, w1.M, d1, d2, rfl, s1, e2, fun a m => ok1.there m, fun z H' e r => post_data ok1 p1 e r⟩
theorem r1L_of {g : D → Option D} {gl : D → Option (List D)} (hg : ∀ d d', g d = some d' → ∃ ds, gl d = some ds ∧ d' = .lst ds) {a : Ex} {r : Bool} (σ : Sl) (H : Hp) (Q : VK) (h : tM X.K (caT X.K T) W (RV X.K) (fun env st => (evE c a env st).bind fun va st1 => ldk va st1 fun x => mkO r (g x) st1) σ H Q) :
    tCB (r1L X.K gl) (tCons (tM X.K (caT X.K T) W (RV X.K) (evE c a)) tNil) σ H Q := by
  obtain ⟨env, w, rfl, ok, E, q⟩ := h
  refine ⟨env, w, rfl, ok, E, (post.bind (R := RV X.K) q).imp fun x H1 q => ?_⟩
  obtain ⟨va, w1, rfl, ok1, l1, r1, p1⟩ := q
  obtain ⟨d1, e1, s1, p1⟩ := ldk_post ok1 r1 p1
  cases e2 : g d1 with
  | none => simp only [e2, mkO, post] at p1
  | some d2 =>
    simp only [e2, mkO] at p1
    obtain ⟨ds, e3, rfl⟩ := hg d1 d2 e2
    exact ⟨x, w1.M, d1, ds, rfl, s1, e3, fun a m => ok1.there m, fun vs p n r z => post_list ok1 p1 n r z⟩
theorem r1K_of {a : Ex} {r : Bool} (σ : Sl) (H : Hp) (Q : VK) (h : tM X.K (caT X.K T) W (RV X.K) (fun env st => (evE c a env st).bind fun va st1 => ldk va st1 fun x => mkO r (opB1 .dict x) st1) σ H Q) :
    tCB (r1K X.K) (tCons (tM X.K (caT X.K T) W (RV X.K) (evE c a)) tNil) σ H Q := by
  obtain ⟨env, w, rfl, ok, E, q⟩ := h
  refine ⟨env, w, rfl, ok, E, (post.bind (R := RV X.K) q).imp fun x H1 q => ?_⟩
  obtain ⟨va, w1, rfl, ok1, l1, r1, p1⟩ := q
  obtain ⟨d1, e1, s1, p1⟩ := ldk_post ok1 r1 p1
  cases e2 : opB1 .dict d1 with
  | none => simp only [e2, mkO, post] at p1
  | some d2 =>
    simp only [e2, mkO] at p1
    obtain ⟨ks, vs, rfl⟩ : ∃ ks vs, d2 = .dct ks vs := by
      cases d1 <;> first | (cases e2; done) | skip
      all_goals
        simp only [opB1, Option.map_eq_some_iff] at e2
        obtain ⟨q, _, e3⟩ := e2
        exact ⟨_, _, e3.symm⟩
    exact ⟨x, w1.M, d1, ks, vs, rfl, s1, e2, fun p kvs n hk rl z => post_dict ok1 p1 n hk rl z⟩
theorem e_b1 (C : Ct T c k W sc X) {f : B1} {r : Bool} {a : Ex} {e : Expr} {x : Str} {p p2 : Pos} (hf : b1Ok f = true) (hcm : (T.cm || !b1C f) = true) (hr : (!r || b1L f) = true) (hb : bltB T sc x (b1N f) = true) (hs : notStar e = true) (ha : SE X T W e (evE c a)) :
    SE X T W (.Call (.Name x p) [e] [] p2) (evE c (.b1 f r a)) := by
  obtain ⟨hx, hg, hm, hn, hd⟩ := blt_of C hb
  have A := one_arg' C hs ha
  have st := star_of hs [] X.env
  have hrf : b1L f = false → r = false := fun q => by
    rw [q, Bool.or_false] at hr
    simpa using hr
  have hca : b1C f = true → X.calm = true := fun q => C.calm (by rw [q] at hcm; simpa using hcm)
  cases f <;> first | (cases hf; done) | skip
  all_goals (unfold b1N at hx; subst hx)
  · exact PE.imp (pe_callB b1_len hg hm boot_len A hn hd st nil_back) fun σ H Q hq => r1D_of (hrf rfl) σ H Q (by simpa only [evE] using hq)
  · exact PE.imp (pe_callB (b1_all (hca rfl)) hg hm (by decide +kernel) A hn hd st nil_back) fun σ H Q hq => r1D_of (hrf rfl) σ H Q (by simpa only [evE] using hq)
  · exact PE.imp (pe_callB (b1_any (hca rfl)) hg hm (by decide +kernel) A hn hd st nil_back) fun σ H Q hq => r1D_of (hrf rfl) σ H Q (by simpa only [evE] using hq)
  · exact PE.imp (pe_callB (b1_sum (hca rfl)) hg hm (by decide +kernel) A hn hd st nil_back) fun σ H Q hq => r1D_of (hrf rfl) σ H Q (by simpa only [evE] using hq)
  · exact PE.imp (pe_callTy b1_tuple hg hm (by decide +kernel) A hn hd st nil_back) fun σ H Q hq => r1D_of (hrf rfl) σ H Q (by simpa only [evE] using hq)
  · refine PE.imp (pe_callTy b1_list hg hm (by decide +kernel) A hn hd st nil_back) fun σ H Q hq => r1L_of (g := opB1 .list) (fun d d' e => ?_) σ H Q (by simpa only [evE] using hq)
    cases d <;> first | (cases e; done) | (cases e; exact ⟨_, rfl, rfl⟩)
  · exact PE.imp (pe_callTy b1_int hg hm (by decide +kernel) A hn hd st nil_back) fun σ H Q hq => r1D_of (hrf rfl) σ H Q (by simpa only [evE] using hq)
  · exact PE.imp (pe_callB b1_ord hg hm (by decide +kernel) A hn hd st nil_back) fun σ H Q hq => r1D_of (hrf rfl) σ H Q (by simpa only [evE] using hq)
  · exact PE.imp (pe_callB b1_abs hg hm (by decide +kernel) A hn hd st nil_back) fun σ H Q hq => r1D_of (hrf rfl) σ H Q (by simpa only [evE] using hq)
  · exact PE.imp (pe_callTy (b1_dict (hca rfl)) hg hm (by decide +kernel) A hn hd st nil_back) fun σ H Q hq => r1K_of σ H Q (by simpa only [evE] using hq)
theorem two_args (C : Ct T c k W sc X) {a b : Ex} {e d : Expr} (hs : notStar e = true) (hs2 : notStar d = true) (ha : SE X T W e (evE c a)) (hb : SE X T W d (evE c b)) :
    PA X [e, d] (tCons (tM X.K (caT X.K T) W (RV X.K) (evE c a)) (tCons (tM X.K (caT X.K T) W (RV X.K) (evE c b)) tNil)) := pa_cons ha (pa_cons hb pa_nil (star_of hs2 [] _)) (star_of hs [d] _)
theorem back1 {e : Expr} (hs : notStar e = true) {pos : Pos} {env : PySem.Env} : (backTo pos (starEach [e] env)).any (·.1) = false := back_of (by simp [hs])
theorem e_b2 (C : Ct T c k W sc X) (hcm : T.cm = true) {f : B2} {a b : Ex} {e d : Expr} {x : Str} {p p2 : Pos} (hb : bltB T sc x (b2N f) = true) (hs : notStar e = true) (hs2 : notStar d = true) (ha : SE X T W e (evE c a)) (hb2 : SE X T W d (evE c b)) :
    SE X T W (.Call (.Name x p) [e, d] [] p2) (evE c (.b2 f a b)) := by
  obtain ⟨hx, hg, hm, hn, hd⟩ := blt_of C hb
  have A := two_args C hs hs2 ha hb2
  have st := star_of hs [d] X.env
  have key : ∀ {g : D → D → Option D} (σ : Sl) (H : Hp) (Q : VK), tM X.K (caT X.K T) W (RV X.K) (fun env st => (evE c a env st).bind fun va st1 => (evE c b env st1).bind fun vb st2 => ldk va st2 fun x => ldk vb st2 fun y => ofO (g x y) st2) σ H Q →
      tCB (r2D X.K g) (tCons (tM X.K (caT X.K T) W (RV X.K) (evE c a)) (tCons (tM X.K (caT X.K T) W (RV X.K) (evE c b)) tNil)) σ H Q := fun {g} σ H Q h => by
    have := two (r := rD X.K g) (k := fun va vb st2 => ldk va st2 fun x => ldk vb st2 fun y => ofO (g x y) st2) rD_of σ H Q h
    obtain ⟨env, w, e1, ok, E, q⟩ := this
    refine ⟨env, w, e1, ok, E, q.imp fun x H1 q => ?_⟩
    obtain ⟨env2, w2, e2, ok2, E2, q2⟩ := q
    exact ⟨env2, w2, e2, ok2, E2, q2.imp fun y H2 q => ⟨x, y, rfl, q⟩⟩
  cases f
  all_goals (unfold b2N at hx; subst hx)
  · exact PE.imp (pe_callB (b2_min (C.calm hcm)) hg hm (by decide +kernel) A hn hd st (back1 hs2)) fun σ H Q hq => key σ H Q (by simpa only [evE] using hq)
  · exact PE.imp (pe_callB (b2_max (C.calm hcm)) hg hm (by decide +kernel) A hn hd st (back1 hs2)) fun σ H Q hq => key σ H Q (by simpa only [evE] using hq)
theorem boot_ty (t : Ty) : bootBuiltins (tyS t) = some (.type (tyN t)) := by cases t <;> decide +kernel
theorem e_isi (C : Ct T c k W sc X) {t : Ty} {a : Ex} {e : Expr} {x y : Str} {p p1 p2 : Pos} (hb : bltB T sc x "isinstance" = true) (hy : bltB T sc y (tyS t) = true) (hs : notStar e = true) (ha : SE X T W e (evE c a)) :
    SE X T W (.Call (.Name x p) [e, .Name y p1] [] p2) (evE c (.isi a t)) := by
  obtain ⟨hx, hg, hm, hn, hd⟩ := blt_of C hb
  obtain ⟨hx2, hg2, hm2, hn2, hd2⟩ := blt_of C hy
  subst hx hx2
  have A : PA X [e, .Name (tyS t) p1] (tCons (tM X.K (caT X.K T) W (RV X.K) (evE c a)) (tCons (tC (.ty (tyN t))) tNil)) := pa_cons ha (pa_cons (pe_bltn hg2 hm2 (boot_ty t) rfl hn2 hd2) pa_nil rfl) (star_of hs _ _)
  refine PE.imp (pe_callB (isi_ok t) hg hm (by decide +kernel) A hn hd (star_of hs _ _) rfl) fun σ H Q hq => ?_
  obtain ⟨env, w, rfl, ok, E, q⟩ := hq
  simp only [evE] at q
  refine ⟨env, w, rfl, ok, E, (post.bind (R := RV X.K) q).imp fun x H1 q => ?_⟩
  obtain ⟨va, w1, rfl, ok1, l1, r1, p1⟩ := q
  obtain ⟨d1, e1, s1, p1⟩ := ldk_post ok1 r1 p1
  cases e2 : opIsi t d1 with
  | none => simp only [e2, ofB', post] at p1
  | some b =>
    simp only [e2, ofB'] at p1
    exact ⟨x, w1.M, d1, b, rfl, s1, e2, post_bool ok1 p1⟩
/-- isinstance of the error that is handled -/
theorem e_isE (C : Ct T c k W sc X) (hcm : T.cm = false) {i : Nat} {row : List Bool} {x y z : Str} {p p1 p2 p3 : Pos} (hb : bltB T sc x "isinstance" = true) (hz : nameB T sc i z = true) (hm : (y, row) ∈ T.ex) (hl : row.length = T.cls.length) (hy : okName y = true) (hg2 : gloB sc y = true) :
    SE X T W (.Call (.Name x p) [.Name z p3, .Name y p1] [] p2) (evE c (.isE i row)) := by
  obtain ⟨hx, hg, hmx, hn, hd⟩ := blt_of C hb
  subst hx
  obtain ⟨q1, q2⟩ := C.ex _ hm
  have hv := e_var (W := W) (p := p3) C hz
  have key : ∀ {cv : V}, PE X (.Name y p1) (tC cv) → (∀ u, RelV cv u → u = cvOf X.K y) → SE X T W (.Call (.Name "isinstance" p) [.Name z p3, .Name y p1] [] p2) (evE c (.isE i row)) := fun {cv} hy2 hcv => by
    refine ⟨fun pins s σ H Q I hq => ?_⟩
    obtain ⟨env, w, e1, ok, E, q⟩ := hq
    simp only [evE] at q
    cases hi : env[i]? with
    | none => rw [hi] at q; exact q.elim
    | some o =>
      rw [hi] at q
      cases o with
      | none => exact q.elim
      | some va =>
        cases va with
        | d _ => exact q.elim
        | r _ => exact q.elim
        | e a =>
          simp only [isEM] at q
          cases hc : c 0 [] w.st with
          | no => rw [hc] at q; exact q.elim
          | er _ _ => rw [hc] at q; exact q.elim
          | ok v st' =>
            rw [hc] at q
            match v, hc, q with
            | .d (.tup [.int a', .int n]), hc, q =>
              obtain ⟨rfl, hcall⟩ := C.exh hcm a' n w.st st' hc
              simp only at q
              by_cases ha : a' = (a : Int)
              · subst ha
                rw [if_pos rfl] at q
                have A : PA X [.Name z p3, .Name y p1] (tCons (tM X.K (caT X.K T) W (RV X.K) (evE c (.var i))) (tCons (tC cv) tNil)) := pa_cons hv (pa_cons hy2 pa_nil rfl) rfl
                refine (pe_callB hcall hg hmx (by decide +kernel) A hn hd rfl rfl).run pins s σ H Q I ?_
                refine ⟨env, w, e1, ok, E, ?_⟩
                simp only [evE, hi]
                intro v w' hst ok' l' rv
                obtain rfl : v = .ref a := rv
                cases hr : row[n.toNat / 2]? with
                | none => rw [hr] at q; exact q.elim
                | some b =>
                  rw [hr] at q
                  have hj : n.toNat / 2 < T.cls.length := by
                    rw [← hl]
                    exact (List.getElem?_eq_some_iff.mp hr).1
                  have hcls : T.cls[n.toNat / 2]? = some T.cls[n.toNat / 2] := List.getElem?_eq_getElem hj
                  refine ⟨cv, cvOf X.K y, b, rfl, hcv, ?_, ?_⟩
                  · have := (q2 _ _ b hcls hr).2
                    unfold caT
                    rw [hcls]
                    exact this
                  · exact q (.bl b) w' hst ok' l' (.bl b)
              · rw [if_neg ha] at q; exact q.elim
  rcases q1 with ⟨rfl, hm2⟩ | ⟨hne, hm2⟩
  · have hv2 : bootBuiltins ("ValueError" : Str) = some (.type "ValueError") := by decide +kernel
    exact key (cv := .ty "ValueError") (pe_bltn (glo_of C hg2) hm2 hv2 rfl (okN hy).2.2 (okN hy).1) fun u r => by
      have r' : u = .type "ValueError" := r
      rw [r']
      unfold cvOf
      rw [if_pos rfl]
  · exact key (cv := .ref (He.ga X.K y)) (pe_glob (glo_of C hg2) hm2 rfl (okN hy).1) fun u r => by
      have r' : u = .ref (He.ga X.K y) := r
      rw [r']
      unfold cvOf
      rw [if_neg hne]
theorem e_call (C : Ct T c k W sc X) (hcm : T.cm = true) {f n : Nat} {es : Exs} {l : List Expr} {x : Str} {p p2 : Pos} (hg : gloB sc x = true) (ho : okName x = true) (hf : T.fns[f]? = some (x, n)) (hn : l.length = n) (hl : l ≠ []) (h : chkL T sc es l = true) (ha : SA X T W l (evL c es)) :
    SE X T W (.Call (.Name x p) l [] p2) (evE c (.call f es)) := by
  obtain ⟨fa, fd, ps, h1, h2, h3, h4⟩ := C.fn f x n hf
  cases l with
  | nil => exact absurd rfl hl
  | cons e l =>
    have hst := chkL_star h
    rw [List.all_cons] at hst
    obtain ⟨s1, s2⟩ := ba2 hst
    refine PE.imp (pe_callS h4 (C.room hcm) (glo_of C hg) h1 h2 h3 (fun σ => passB C.takes σ) ha (okN ho).1 (star_of s1 _ _) (back_of s2)) fun σ H Q hq => ?_
    obtain ⟨env, w, rfl, ok, E, q⟩ := hq
    simp only [evE] at q
    refine ⟨env, w, rfl, ok, E, (post.bindE (R := RVL X.K) q).imp fun xs H1 q => ?_⟩
    obtain ⟨vas, w1, rfl, ok1, l1, r1, e1, p1⟩ := q
    have n1 := evL_len es _ env h _ _ _ e1
    refine ⟨w1, vas, rfl, ok1, r1, by rw [← r1.length, n1, hn], ?_⟩
    cases e3 : c f vas w1.st with
    | no => simp only [e3, post] at p1
    | ok va st => simp only [e3] at p1 ⊢; exact p1
    | er cl st => simp only [e3] at p1 ⊢; exact p1
theorem o_none (C : Ct T c k W sc X) : SO X T W none (evO c .none) := by
  refine ⟨fun pins s σ H Q I hq => po_none.run pins s σ H Q I ?_⟩
  obtain ⟨env, w, rfl, ok, E, q⟩ := hq
  simp only [evO] at q
  exact q none w rfl ok Wd.Le.refl rfl
theorem o_some (C : Ct T c k W sc X) {a : Ex} {e : Expr} (ha : SE X T W e (evE c a)) : SO X T W (some e) (evO c (.some a)) := by
  refine ⟨fun pins s σ H Q I hq => (po_some ha).run pins s σ H Q I ?_⟩
  obtain ⟨env, w, rfl, ok, E, q⟩ := hq
  simp only [evO] at q
  refine ⟨env, w, rfl, ok, E, (post.bind (R := RV X.K) q).imp fun x H1 q => ?_⟩
  obtain ⟨va, w1, rfl, ok1, l1, r1, p1⟩ := q
  cases va with
  | d d =>
    cases d with
    | int i =>
      obtain rfl := Sq.int (M := w1.M) (H := w1.H) (K := X.K) (Rp.sq r1)
      exact ⟨i, rfl, p1 _ w1 rfl ok1 Wd.Le.refl rfl⟩
    | _ => exact p1.elim
  | _ => exact p1.elim
theorem e_slc (C : Ct T c k W sc X) {a : Ex} {lo hi : Op} {ea : Expr} {l h : Option Expr} {p p2 : Pos} (ha : SE X T W ea (evE c a)) (hlo : SO X T W l (evO c lo)) (hhi : SO X T W h (evO c hi)) : SE X T W (.Subscript ea (.Slice l h none p2) p) (evE c (.slc a lo hi)) := by
  refine PE.imp (pe_slice sl_sound ha hlo hhi) fun σ H Q hq => ?_
  obtain ⟨env, w, rfl, ok, E, q⟩ := hq
  simp only [evE] at q
  refine ⟨env, w, rfl, ok, E, (post.bind (R := RV X.K) q).imp fun x H1 q => ?_⟩
  obtain ⟨va, w1, rfl, ok1, l1, r1, p1⟩ := q
  refine ⟨env, w1, rfl, ok1, E.mono l1, (post.bind (R := fun _ a b => a = b) p1).imp fun y H2 q => ?_⟩
  obtain ⟨lo', w2, rfl, ok2, l2, rfl, p2⟩ := q
  refine ⟨env, w2, rfl, ok2, (E.mono l1).mono l2, (post.bind (R := fun _ a b => a = b) p2).imp fun y H2 q => ?_⟩
  obtain ⟨hi', w3, rfl, ok3, l3, rfl, p3⟩ := q
  obtain ⟨d1, e1, s1, p3⟩ := ldk_post ok3 ((r1.mono l2).mono l3) p3
  cases e2 : opSlc d1 lo' hi' with
  | none => simp only [e2, ofO, post] at p3
  | some d2 =>
    simp only [e2, ofO] at p3
    exact ⟨w3.M, d1, d2, s1, e2, fun a m => ok3.there m, fun z H' e r => post_data ok3 p3 e r⟩
end
end Ev

namespace Ev
open PySem PySem.Spec PyProof.Rows L2
section
variable {T : Tb} {sc : Scope} {X : Cx} {c : Calls} {k : Nat} {W : WX}
theorem plainT_of {e : Expr} (h : plainT e = true) (env : PySem.Env) (whole : Sem Value) : isTrue e env whole = (do let v ← whole; standAt e.pos; holding [v] (truthy v)) := by
  cases e <;> first | rfl | (cases h; done) | skip
  rename_i op e p
  cases op <;> first | rfl | cases h
theorem t_tr (C : Ct T c k W sc X) {a : Ex} {e : Expr} (h : plainT e = true) (ha : SE X T W e (evE c a)) : ST X T W e (evT c (.tr a)) := by
  refine PT.imp (pt_truth ha (plainT_of h X.env)) fun σ H Q hq => ?_
  obtain ⟨env, w, rfl, ok, E, q⟩ := hq
  simp only [evT] at q
  refine ⟨env, w, rfl, ok, E, (post.bind (R := RV X.K) q).imp fun x H1 q => ?_⟩
  obtain ⟨va, w1, rfl, ok1, l1, r1, p1⟩ := q
  obtain ⟨d1, e1, s1, p1⟩ := ldk_post ok1 r1 p1
  exact ⟨truD d1, truV_of s1, p1 _ w1 rfl ok1 Wd.Le.refl rfl⟩
theorem rB_of2 {K : PySem.W.Frag} {ca : Nat → Addr} {gb : D → D → Option Bool} (w : Wd) (va vb : Va) (x y : V) (σ : Sl) (Q : Bool → Hp → Prop) (ok : w.Ok K) (rx : RV K w va x) (ry : RV K w vb y)
    (p : post K ca W (fun _ a b => a = b) w σ Q (ldk va w.st fun x => ldk vb w.st fun y => ofB (gb x y) w.st)) : rB K gb x y w.H (fun z H3 => ∃ k, z = .bl k ∧ Q k H3) := by
  obtain ⟨d1, e1, s1, p⟩ := ldk_post ok rx p
  obtain ⟨d2, e2, s2, p⟩ := ldk_post ok ry p
  cases e3 : gb d1 d2 with
  | none => simp only [e3, ofB, post] at p
  | some b =>
    simp only [e3, ofB] at p
    exact ⟨w.M, d1, d2, b, s1, s2, e3, b, rfl, p b w rfl ok Wd.Le.refl rfl⟩
theorem t_cmp (C : Ct T c k W sc X) {o : Cop} {a b : Ex} {ea eb : Expr} {op : CmpOp} {p : Pos} (h : copB o op = true) (hs : notSet eb = true) (ha : SE X T W ea (evE c a)) (hb : SE X T W eb (evE c b)) : ST X T W (.Compare ea [op] [eb] p) (evT c (.cmp o a b)) := by
  refine PT.imp (pt_cmpR (cop_ok C h) ha hb (set_of hs op)) fun σ H Q hq => ?_
  obtain ⟨env, w, rfl, ok, E, q⟩ := hq
  simp only [evT] at q
  refine ⟨env, w, rfl, ok, E, (post.bind (R := RV X.K) q).imp fun x H1 q => ?_⟩
  obtain ⟨va, w1, rfl, ok1, l1, r1, p1⟩ := q
  refine ⟨env, w1, rfl, ok1, E.mono l1, (post.bind (R := RV X.K) p1).imp fun y H2 q => ?_⟩
  obtain ⟨vb, w2, rfl, ok2, l2, r2, p2⟩ := q
  exact rB_of2 w2 va vb x y σ Q ok2 (r1.mono l2) r2 p2
theorem t_cmp2 (C : Ct T c k W sc X) {o p : Cop} {a b d : Ex} {ea eb ed : Expr} {op op' : CmpOp} {ps : Pos} (h : copB o op = true) (h' : copB p op' = true) (hs : notSet ed = true) (ha : SE X T W ea (evE c a)) (hb : SE X T W eb (evE c b)) (hd : SE X T W ed (evE c d)) : ST X T W (.Compare ea [op, op'] [eb, ed] ps) (evT c (.cmp2 o p a b d)) := by
  refine PT.imp (pt_chain (cop_ok C h) (cop_ok C h') ha hb hd (last_of hs)) fun σ H Q hq => ?_
  obtain ⟨env, w, rfl, ok, E, q⟩ := hq
  simp only [evT] at q
  refine ⟨env, w, rfl, ok, E, (post.bind (R := RV X.K) q).imp fun x H1 q => ?_⟩
  obtain ⟨va, w1, rfl, ok1, l1, r1, p1⟩ := q
  refine ⟨env, w1, rfl, ok1, E.mono l1, (post.bind (R := RV X.K) p1).imp fun y H2 q => ?_⟩
  obtain ⟨vb, w2, rfl, ok2, l2, r2, p2⟩ := q
  obtain ⟨d1, e1, s1, p2⟩ := ldk_post ok2 (r1.mono l2) p2
  obtain ⟨d2, e2, s2, p2⟩ := ldk_post ok2 r2 p2
  cases eb : opCmp o d1 d2 with
  | none => simp only [eb, ofB, Res.bind, post] at p2
  | some bb =>
    simp only [eb, ofB, Res.bind] at p2
    refine ⟨w2.M, d1, d2, bb, s1, s2, eb, bb, rfl, ?_⟩
    cases bb with
    | false => exact ⟨false, rfl, p2 _ w2 rfl ok2 Wd.Le.refl rfl⟩
    | true =>
      refine ⟨env, w2, rfl, ok2, (E.mono l1).mono l2, (post.bind (R := RV X.K) p2).imp fun z H3 q => ?_⟩
      obtain ⟨vd, w3, rfl, ok3, l3, r3, p3⟩ := q
      exact rB_of2 w3 vb vd y z σ Q ok3 (r2.mono l3) r3 p3
theorem t_not (C : Ct T c k W sc X) {t : Te} {e : Expr} {p : Pos} (ht : ST X T W e (evT c t)) : ST X T W (.UnaryOp .Not e p) (evT c (.not t)) := by
  refine PT.imp (pt_not ht) fun σ H Q hq => ?_
  obtain ⟨env, w, rfl, ok, E, q⟩ := hq
  simp only [evT] at q
  refine ⟨env, w, rfl, ok, E, (post.bind (R := fun _ a b => a = b) q).imp fun x H1 q => ?_⟩
  obtain ⟨kb, w1, rfl, ok1, l1, rfl, p1⟩ := q
  exact p1 _ w1 rfl ok1 Wd.Le.refl rfl
theorem w_and (C : Ct T c k W sc X) {a b : Te} {e1 e2 : Expr} {r : List Expr} {p : Pos} (ha : ST X T W e1 (evT c a)) (hb : SW X T W (.BoolOp .And (e2 :: r) p) (evT c b)) : SW X T W (.BoolOp .And (e1 :: e2 :: r) p) (evT c (.and a b)) := by
  refine PW.imp (pw_and ha hb) fun σ H Q hq => ?_
  obtain ⟨env, w, rfl, ok, E, q⟩ := hq
  simp only [evT] at q
  refine ⟨env, w, rfl, ok, E, (post.bind (R := fun _ a b => a = b) q).imp fun x H1 q => ?_⟩
  obtain ⟨kb, w1, rfl, ok1, l1, rfl, p1⟩ := q
  cases kb with
  | true => exact ⟨env, w1, rfl, ok1, E.mono l1, by simpa using p1⟩
  | false => exact p1 _ w1 rfl ok1 Wd.Le.refl rfl
theorem w_or (C : Ct T c k W sc X) {a b : Te} {e1 e2 : Expr} {r : List Expr} {p : Pos} (ha : ST X T W e1 (evT c a)) (hb : SW X T W (.BoolOp .Or (e2 :: r) p) (evT c b)) : SW X T W (.BoolOp .Or (e1 :: e2 :: r) p) (evT c (.or a b)) := by
  refine PW.imp (pw_or ha hb) fun σ H Q hq => ?_
  obtain ⟨env, w, rfl, ok, E, q⟩ := hq
  simp only [evT] at q
  refine ⟨env, w, rfl, ok, E, (post.bind (R := fun _ a b => a = b) q).imp fun x H1 q => ?_⟩
  obtain ⟨kb, w1, rfl, ok1, l1, rfl, p1⟩ := q
  cases kb with
  | false => exact ⟨env, w1, rfl, ok1, E.mono l1, by simpa using p1⟩
  | true => exact p1 _ w1 rfl ok1 Wd.Le.refl rfl

/-- a pair that a walk hands on to a target that parts it -/
def Rq (K : PySem.W.Frag) (M : Addr → Prop) (H : Hp) (b : Bool) (d : D) (x : V) : Prop := Rp K M H d x ∨ (b = true ∧ ∃ ds a vs, d = .tup ds ∧ x = .ref a ∧ SqT K H a vs ∧ RpL K M H ds vs)
def isTupE : Expr → Bool
  | .Tuple .. => true
  | _ => false
/-- J walks these data, while the guard stands -/
def Yl (b : Bool) (K : PySem.W.Frag) (J : It) (w : Wd) (wk : Wk) : Prop :=
  (∀ (i : Nat) (w2 : Wd), w.Lm w2 → w2.Ok K → wk.2 w2.st = true → i < wk.1.length → J.go i w2.H ∧ ∀ x H', J.yld i w2.H x H' → Ext w2.H H' ∧ ∃ d, wk.1[i]? = some d ∧ Rq K w2.M H' b d x) ∧
  (∀ w2 : Wd, w.Lm w2 → w2.Ok K → wk.2 w2.st = true → J.stop wk.1.length w2.H) ∧ wk.2 w.st = true ∧ wk.1.length ≤ sizeLine
abbrev SI (X : Cx) (T : Tb) (W : WX) (tg e : Expr) (m : Env → Store → Res Wk) : Prop := PI X tg e (tM X.K (caT X.K T) W (fun w wk J => Yl (isTupE tg) X.K J w wk) m)
theorem gd_ld {va : Va} {d : D} {st1 st2 : Store} (e : ld st1 va = some d) (g : gdOf va st1 st2 = true) : ld st2 va = some d := by
  cases va with
  | d x => exact e
  | r i =>
    simp only [gdOf] at g
    cases e1 : st2[i]? with
    | none => rw [e1] at g; cases g
    | some o =>
      cases e2 : st1[i]? with
      | none => rw [e1, e2] at g; cases g
      | some o' =>
        rw [e1, e2] at g
        have := Ob_beq_eq g
        subst this
        simp only [ld, e2] at e
        simp only [ld, e1]
        exact e
  | e c => exact e
theorem gd_self {va : Va} {d : D} {st : Store} (e : ld st va = some d) : gdOf va st st = true := by
  cases va with
  | d x => rfl
  | r i =>
    simp only [ld] at e
    simp only [gdOf]
    cases e1 : st[i]? with
    | none => rw [e1] at e; cases e
    | some o => exact Ob_beq_refl o
  | e c => rfl
theorem yl_list {b : Bool} {K : PySem.W.Frag} {w1 : Wd} {va : Va} {a : Addr} {ds : List D} (z : ds.length ≤ sizeLine) (r1 : RV K w1 va (.ref a)) (e : ld w1.st va = some (.lst ds)) : Yl b K (Itl K a) w1 (ds, gdOf va w1.st) := by
  have at_ : ∀ w2 : Wd, w1.Lm w2 → w2.Ok K → gdOf va w1.st w2.st = true → ∃ vs, SqL K w2.H a vs ∧ RpL K w2.M w2.H ds vs := fun w2 l ok2 g => by
    obtain ⟨a', vs, ea, h1, h2, _⟩ := ld_ok ok2 (r1.monom l) (gd_ld e g)
    cases ea
    exact ⟨vs, h1, h2⟩
  refine ⟨fun i w2 l ok2 g hi => ?_, fun w2 l ok2 g => ?_, gd_self e, z⟩
  · obtain ⟨vs, h1, h2⟩ := at_ w2 l ok2 g
    obtain ⟨v, h3, h4⟩ := h2.get (List.getElem?_eq_getElem hi)
    refine ⟨⟨vs, v, h1, h3⟩, fun x H' y => ?_⟩
    obtain ⟨rfl, y⟩ := y
    have := y vs h1
    rw [h3] at this
    cases this
    exact ⟨Ext.refl, _, List.getElem?_eq_getElem hi, .inl h4⟩
  · obtain ⟨vs, h1, h2⟩ := at_ w2 l ok2 g
    exact ⟨vs, h1, by rw [← h2.length]; exact Nat.le_refl _⟩
theorem yl_tup {b : Bool} {K : PySem.W.Frag} {w1 : Wd} {va : Va} {a : Addr} {ds : List D} (z : ds.length ≤ sizeLine) (r1 : RV K w1 va (.ref a)) (e : ld w1.st va = some (.tup ds)) : Yl b K (Itt K a) w1 (ds, gdOf va w1.st) := by
  have at_ : ∀ w2 : Wd, w1.Lm w2 → w2.Ok K → gdOf va w1.st w2.st = true → ∃ vs, SqT K w2.H a vs ∧ RpL K w2.M w2.H ds vs := fun w2 l ok2 g => by
    obtain ⟨a', vs, ea, h1, h2, _⟩ := (ld_ok ok2 (r1.monom l) (gd_ld e g)).tup
    cases ea
    exact ⟨vs, h1.sq, h2⟩
  refine ⟨fun i w2 l ok2 g hi => ?_, fun w2 l ok2 g => ?_, gd_self e, z⟩
  · obtain ⟨vs, h1, h2⟩ := at_ w2 l ok2 g
    obtain ⟨v, h3, h4⟩ := h2.get (List.getElem?_eq_getElem hi)
    refine ⟨⟨vs, v, h1, h3⟩, fun x H' y => ?_⟩
    obtain ⟨rfl, y⟩ := y
    have := y vs h1
    rw [h3] at this
    cases this
    exact ⟨Ext.refl, _, List.getElem?_eq_getElem hi, .inl h4⟩
  · obtain ⟨vs, h1, h2⟩ := at_ w2 l ok2 g
    exact ⟨vs, h1, by rw [← h2.length]; exact Nat.le_refl _⟩
theorem yl_str {b : Bool} {K : PySem.W.Frag} {w1 : Wd} {s : List Nat} {g : Store → Bool} (hg : g w1.st = true) (z : s.length ≤ sizeLine) : Yl b K (Its (toS s)) w1 (s.map fun c => .str [c], g) := by
  refine ⟨fun i w2 l ok2 g hi => ?_, fun w2 l ok2 g => ?_, hg, by simpa using z⟩
  · simp only [List.length_map] at hi
    refine ⟨by show i < (toS s).cps.size; simpa [toS] using hi, fun x H' y => ?_⟩
    obtain ⟨rfl, c, hc, rfl⟩ := y
    refine ⟨Ext.refl, .str [c], ?_, ?_⟩
    · simp only [List.getElem?_map]
      have : s[i]? = some c := by simpa [toS] using hc
      rw [this]; rfl
    · exact .inl (.str [c] (by rw [sizeLine_eq]; simp))
  · show (toS s).cps.size ≤ _
    simp [toS]
theorem i_e (C : Ct T c k W sc X) {a : Ex} {tg e : Expr} (ha : SE X T W e (evE c a)) : SI X T W tg e (evI c (.e a)) := by
  refine ⟨fun pins s σ H R I h => ?_⟩
  obtain ⟨env, w, rfl, ok, E, q⟩ := h
  simp only [evI] at q
  cases e0 : evE c a env w.st with
  | no => simp only [e0, Res.bind, post] at q
  | er cl st => exact (pi_list ha).run pins s σ w.H R I ⟨env, w, rfl, ok, E, by rw [e0]; rw [e0] at q; exact q⟩
  | ok va st1 =>
    rw [e0] at q
    simp only [Res.bind, ldk] at q
    cases e1 : ld st1 va with
    | none => simp only [e1, post] at q
    | some d =>
      simp only [e1, wkE] at q
      cases d with
      | lst ds =>
        refine (pi_list ha).run pins s σ w.H R I ⟨env, w, rfl, ok, E, ?_⟩
        rw [e0]
        intro x w1 hst ok1 l1 r1
        subst hst
        obtain ⟨a', vs, rfl, h1, h2, z⟩ := ld_ok ok1 r1 e1
        exact ⟨a', rfl, ⟨vs, h1⟩, q _ w1 rfl ok1 l1 (yl_list z r1 e1)⟩
      | tup ds =>
        refine (pi_tup ha).run pins s σ w.H R I ⟨env, w, rfl, ok, E, ?_⟩
        rw [e0]
        intro x w1 hst ok1 l1 r1
        subst hst
        obtain ⟨a', vs, rfl, h1, h2, z⟩ := (ld_ok ok1 r1 e1).tup
        exact ⟨a', rfl, ⟨vs, h1.sq⟩, q _ w1 rfl ok1 l1 (yl_tup z r1 e1)⟩
      | str t =>
        refine (pi_str ha).run pins s σ w.H R I ⟨env, w, rfl, ok, E, ?_⟩
        rw [e0]
        intro x w1 hst ok1 l1 r1
        subst hst
        obtain ⟨rfl, z⟩ := (ld_ok ok1 r1 e1).str
        exact ⟨toS t, rfl, q _ w1 rfl ok1 l1 (yl_str (gd_self e1) z)⟩
      | _ => simp only [itemsD, post] at q
theorem yl_rng {b : Bool} {K : PySem.W.Frag} {w1 : Wd} {lo n : Int} (z : n ≤ SZ) : Yl b K (Itr lo n.toNat) w1 (rngL lo n, fun _ => true) := by
  have hlen : (rngL lo n).length = n.toNat := by unfold rngL; rw [List.length_map, List.length_range]
  refine ⟨fun i w2 l ok2 g hi => ?_, fun w2 l ok2 g => ?_, rfl, by rw [hlen, ← SZ_eq]; omega⟩
  · have hi' : i < n.toNat := by rw [← hlen]; exact hi
    refine ⟨hi', fun x H' y => ?_⟩
    obtain ⟨rfl, rfl⟩ := y
    refine ⟨Ext.refl, .int (lo + (i : Int)), ?_, .inl (.int _)⟩
    show (rngL lo n)[i]? = _
    unfold rngL
    rw [List.getElem?_map, List.getElem?_range hi']
    rfl
  · show n.toNat ≤ (rngL lo n).length
    rw [hlen]; exact Nat.le_refl _
theorem i_rng (C : Ct T c k W sc X) {es : Exs} {l : List Expr} {tg : Expr} {x : Str} {p p2 : Pos} (hb : bltB T sc x "range" = true) (hl : l.length = 1 ∨ l.length = 2) (h : chkL T sc es l = true) (ha : SA X T W l (evL c es)) : SI X T W tg (.Call (.Name x p) l [] p2) (evI c (.rng es)) := by
  obtain ⟨hx, hg, hm, hn, hd⟩ := blt_of C hb
  subst hx
  have hst := chkL_star h
  match l, hl with
  | [e], _ =>
    rw [List.all_cons] at hst
    refine ⟨fun pins s σ H R I hh => (pi_range1 hg hm ha (star_of (ba2 hst).1 [] _)).run pins s σ H R I ?_⟩
    obtain ⟨env, w, rfl, ok, E, q⟩ := hh
    simp only [evI] at q
    refine ⟨env, w, rfl, ok, E, (post.bindE (R := RVL X.K) q).imp fun xs H1 q => ?_⟩
    obtain ⟨vas, w1, rfl, ok1, l1, r1, e1, p1⟩ := q
    have n1 := evL_len es _ env h _ _ _ e1
    match vas, n1 with
    | [va], _ =>
      cases r1 with
      | cons ra rt =>
        cases rt
        unfold wkR at p1
        cases va with
        | d d =>
          cases d with
          | int n =>
            simp only [rngOf] at p1
            by_cases hb : -(2 ^ 62) ≤ n ∧ n ≤ SZ
            · rw [if_pos hb] at p1
              obtain rfl := Sq.int (M := w1.M) (H := w1.H) (K := X.K) (Rp.sq ra)
              exact ⟨n, rfl, hb.1, (by have : SZ = 16777216 := rfl; omega), p1 _ w1 rfl ok1 Wd.Le.refl (yl_rng hb.2)⟩
            · rw [if_neg hb] at p1; exact p1.elim
          | _ => exact p1.elim
        | _ => exact p1.elim
  | [e, e2], _ =>
    rw [List.all_cons, List.all_cons] at hst
    refine ⟨fun pins s σ H R I hh => (pi_range2 hg hm ha (by rw [star_of (ba2 hst).1, star_of (ba2 (ba2 hst).2).1]; rfl) (star_of (ba2 (ba2 hst).2).1 [] _)).run pins s σ H R I ?_⟩
    obtain ⟨env, w, rfl, ok, E, q⟩ := hh
    simp only [evI] at q
    refine ⟨env, w, rfl, ok, E, (post.bindE (R := RVL X.K) q).imp fun xs H1 q => ?_⟩
    obtain ⟨vas, w1, rfl, ok1, l1, r1, e1, p1⟩ := q
    have n1 := evL_len es _ env h _ _ _ e1
    match vas, n1 with
    | [va, vb], _ =>
      cases r1 with
      | cons ra rt =>
        cases rt with
        | cons rb rt =>
          cases rt
          unfold wkR at p1
          cases va with
          | d d =>
            cases d with
            | int n =>
              cases vb with
              | d d2 =>
                cases d2 with
                | int n2 =>
                  simp only [rngOf] at p1
                  by_cases hb : -(2 ^ 61) ≤ n ∧ n < 2 ^ 61 ∧ -(2 ^ 61) ≤ n2 ∧ n2 < 2 ^ 61 ∧ n2 - n ≤ SZ
                  · rw [if_pos hb] at p1
                    obtain rfl := Sq.int (M := w1.M) (H := w1.H) (K := X.K) (Rp.sq ra)
                    obtain rfl := Sq.int (M := w1.M) (H := w1.H) (K := X.K) (Rp.sq rb)
                    exact ⟨n, n2, rfl, ⟨by omega, by omega, by omega, by omega⟩, p1 _ w1 rfl ok1 Wd.Le.refl (yl_rng hb.2.2.2.2)⟩
                  · rw [if_neg hb] at p1; exact p1.elim
                | _ => exact p1.elim
              | _ => exact p1.elim
            | _ => cases vb <;> exact p1.elim
          | _ => exact p1.elim
end
end Ev

namespace Ev
open PySem PySem.Spec PyProof.Rows L2
section
variable {T : Tb} {sc : Scope} {X : Cx} {c : Calls} {k : Nat} {W : WX}
theorem enuL_len : ∀ (n : Nat) (ds : List D), (enuL n ds).length = ds.length
  | _, [] => rfl
  | n, _ :: ds => by rw [enuL, List.length_cons, List.length_cons, enuL_len]
theorem enuL_get : ∀ (n : Nat) (ds : List D) (i : Nat) (d : D), ds[i]? = some d → (enuL n ds)[i]? = some (.tup [.int ((n + i : Nat) : Int), d])
  | _, [], _, _, e => by simp at e
  | n, x :: ds, 0, d, e => by
    simp at e; subst e
    simp [enuL]
  | n, x :: ds, i + 1, d, e => by
    have := enuL_get (n + 1) ds i d (by simpa using e)
    simp only [enuL, List.getElem?_cons_succ, this]
    rw [show n + 1 + i = n + (i + 1) by omega]
theorem zipL_get : ∀ (xs ys : List D) (i : Nat) (x y : D), xs[i]? = some x → ys[i]? = some y → (zipL xs ys)[i]? = some (.tup [x, y])
  | [], _, _, _, _, e, _ => by simp at e
  | _ :: _, [], _, _, _, _, e => by simp at e
  | x :: xs, y :: ys, 0, _, _, e, e2 => by simp at e e2; subst e; subst e2; simp [zipL]
  | x :: xs, y :: ys, i + 1, a, b, e, e2 => by
    simp only [zipL, List.getElem?_cons_succ]
    exact zipL_get xs ys i a b (by simpa using e) (by simpa using e2)
theorem zipL_len : ∀ (xs ys : List D), (zipL xs ys).length = min xs.length ys.length
  | [], _ => by simp [zipL]
  | _ :: _, [] => by simp [zipL]
  | x :: xs, y :: ys => by
    simp only [zipL, List.length_cons, zipL_len xs ys]
    omega
theorem pair_rp {K : PySem.W.Frag} {M : Addr → Prop} {H : Hp} {p : Addr} {d e : D} {x y : V} (n : H p = none) (r : Rp K M H d x) (r2 : Rp K M H e y) : Rq K M (upd H p (.tup [x, y])) true (.tup [d, e]) (.ref p) :=
  .inr ⟨rfl, _, p, _, rfl, rfl, .inl (.inl upd_same), (RpL.cons r (.cons r2 .nil)).mono (Ext.new n).kp Mle.refl⟩
theorem list_at {K : PySem.W.Frag} {w1 w2 : Wd} {va : Va} {a : Addr} {ds : List D} (r1 : RV K w1 va (.ref a)) (e : ld w1.st va = some (.lst ds)) (l : w1.Lm w2) (ok2 : w2.Ok K) (g : gdOf va w1.st w2.st = true) : ∃ vs, SqL K w2.H a vs ∧ RpL K w2.M w2.H ds vs := by
  obtain ⟨a', vs, ea, h1, h2, _⟩ := ld_ok ok2 (r1.monom l) (gd_ld e g)
  cases ea
  exact ⟨vs, h1, h2⟩
theorem tup_at {K : PySem.W.Frag} {w1 w2 : Wd} {va : Va} {a : Addr} {ds : List D} (r1 : RV K w1 va (.ref a)) (e : ld w1.st va = some (.tup ds)) (l : w1.Lm w2) (ok2 : w2.Ok K) (g : gdOf va w1.st w2.st = true) : ∃ vs, SqT K w2.H a vs ∧ RpL K w2.M w2.H ds vs := by
  obtain ⟨a', vs, ea, h1, h2, _⟩ := (ld_ok ok2 (r1.monom l) (gd_ld e g)).tup
  cases ea
  exact ⟨vs, h1.sq, h2⟩
theorem i_enu (C : Ct T c k W sc X) {a : Ex} {e : Expr} {ts : List Expr} {kk : Nat} {pt : Pos} {x : Str} {p p2 : Pos} (hb : bltB T sc x "enumerate" = true) (hs : notStar e = true) (ha : SE X T W e (evE c a)) : SI X T W (.Tuple ts kk pt) (.Call (.Name x p) [e] [] p2) (evI c (.enu a)) := by
  obtain ⟨hx, hg, hm, hn, hd⟩ := blt_of C hb
  subst hx
  refine ⟨fun pins s σ H R I h => (pi_enum hg hm (one_arg' C hs ha) (star_of hs [] _)).run pins s σ H R I ?_⟩
  obtain ⟨env, w, rfl, ok, E, q⟩ := h
  simp only [evI] at q
  refine ⟨env, w, rfl, ok, E, (post.bind (R := RV X.K) q).imp fun x H1 q => ?_⟩
  obtain ⟨va, w1, rfl, ok1, l1, r1, p1⟩ := q
  obtain ⟨d1, e1, s1, p1⟩ := ldk_post ok1 r1 p1
  unfold wkN at p1
  cases d1 with
  | lst ds =>
    obtain ⟨a', vs, rfl, h1, h2, za⟩ := s1
    refine ⟨a', vs, rfl, h1, p1 _ w1 rfl ok1 Wd.Le.refl ⟨fun i w2 l ok2 g hi => ?_, fun w2 l ok2 g => ?_, gd_self e1, by rw [enuL_len]; exact za⟩⟩
    · rw [enuL_len] at hi
      obtain ⟨vs, h1, h2⟩ := list_at r1 e1 l ok2 g
      obtain ⟨v, h3, h4⟩ := h2.get (List.getElem?_eq_getElem hi)
      refine ⟨⟨vs, v, h1, h3⟩, fun x H' y => ?_⟩
      obtain ⟨Tp, z, rfl, hT, rfl, y⟩ := y
      have := y vs h1
      rw [h3] at this
      cases this
      have g2 := enuL_get 0 ds i _ (List.getElem?_eq_getElem hi)
      rw [Nat.zero_add] at g2
      exact ⟨Ext.new hT, _, g2, pair_rp hT (.int _) h4⟩
    · obtain ⟨vs, h1, h2⟩ := list_at r1 e1 l ok2 g
      exact ⟨vs, h1, by rw [enuL_len, ← h2.length]; exact Nat.le_refl _⟩
  | _ => exact p1.elim
theorem i_rev (C : Ct T c k W sc X) {a : Ex} {tg e : Expr} {x : Str} {p p2 : Pos} (hb : bltB T sc x "reversed" = true) (hs : notStar e = true) (ha : SE X T W e (evE c a)) : SI X T W tg (.Call (.Name x p) [e] [] p2) (evI c (.rev a)) := by
  obtain ⟨hx, hg, hm, hn, hd⟩ := blt_of C hb
  subst hx
  refine ⟨fun pins s σ H R I h => (pi_reversed hg hm (one_arg' C hs ha) (star_of hs [] _)).run pins s σ H R I ?_⟩
  obtain ⟨env, w, rfl, ok, E, q⟩ := h
  simp only [evI] at q
  refine ⟨env, w, rfl, ok, E, (post.bind (R := RV X.K) q).imp fun x H1 q => ?_⟩
  obtain ⟨va, w1, rfl, ok1, l1, r1, p1⟩ := q
  obtain ⟨d1, e1, s1, p1⟩ := ldk_post ok1 r1 p1
  unfold wkV at p1
  cases d1 with
  | lst ds =>
    obtain ⟨a', vs, rfl, h1, h2, za⟩ := s1
    have hl := h2.length
    refine ⟨a', vs, rfl, h1, p1 _ w1 rfl ok1 Wd.Le.refl ⟨fun i w2 l ok2 g hi => ?_, fun w2 l ok2 g => ?_, gd_self e1, by rw [List.length_reverse]; exact za⟩⟩
    · rw [List.length_reverse] at hi
      obtain ⟨vs2, h1, h2⟩ := list_at r1 e1 l ok2 g
      have hj : ds.length - 1 - i < ds.length := by omega
      obtain ⟨v, h3, h4⟩ := h2.get (List.getElem?_eq_getElem hj)
      rw [hl] at h3
      refine ⟨⟨by omega, vs2, v, h1, h3⟩, fun x H' y => ?_⟩
      obtain ⟨rfl, y⟩ := y
      have := y vs2 h1
      rw [h3] at this
      cases this
      refine ⟨Ext.refl, ds[ds.length - 1 - i], ?_, .inl h4⟩
      show ds.reverse[i]? = _
      rw [List.getElem?_reverse hi, List.getElem?_eq_getElem hj]
    · show vs.length ≤ ds.reverse.length
      rw [List.length_reverse]; omega
  | _ => exact p1.elim
theorem i_zip (C : Ct T c k W sc X) {a b : Ex} {e d : Expr} {ts : List Expr} {kk : Nat} {pt : Pos} {x : Str} {p p2 : Pos} (hb : bltB T sc x "zip" = true) (hs : notStar e = true) (hs2 : notStar d = true) (ha : SE X T W e (evE c a)) (hb2 : SE X T W d (evE c b)) :
    SI X T W (.Tuple ts kk pt) (.Call (.Name x p) [e, d] [] p2) (evI c (.zip a b)) := by
  obtain ⟨hx, hg, hm, hn, hd⟩ := blt_of C hb
  subst hx
  refine ⟨fun pins s σ H R I h => (RZ.pi_zipA hg hm (two_args C hs hs2 ha hb2) (star_of hs _ _) (back1 hs2)).run pins s σ H R I ?_⟩
  obtain ⟨env, w, rfl, ok, E, q⟩ := h
  simp only [evI] at q
  refine ⟨env, w, rfl, ok, E, (post.bind (R := RV X.K) q).imp fun x H1 q => ?_⟩
  obtain ⟨va, w1, rfl, ok1, l1, r1, p1⟩ := q
  refine ⟨env, w1, rfl, ok1, E.mono l1, (post.bind (R := RV X.K) p1).imp fun y H2 q => ?_⟩
  obtain ⟨vb, w2, rfl, ok2, l2, r2, p2⟩ := q
  have r1' := r1.mono l2
  obtain ⟨d1, e1, s1, p2⟩ := ldk_post ok2 r1' p2
  obtain ⟨d2, e2, s2, p2⟩ := ldk_post ok2 r2 p2
  unfold wkZ at p2
  cases d1 with
  | lst xs =>
    cases d2 with
    | lst ys =>
      obtain ⟨a', vs, rfl, h1, h2, za⟩ := s1
      obtain ⟨b', ws, rfl, h3, h4, zb⟩ := s2
      refine ⟨a', b', vs, ws, rfl, .inl ⟨h1, h3, p2 _ w2 rfl ok2 Wd.Le.refl ⟨fun i w3 l ok3 g hi => ?_, fun w3 l ok3 g => ?_, by simp [gd_self e1, gd_self e2], by rw [zipL_len]; omega⟩⟩⟩
      · simp only [Bool.and_eq_true] at g
        rw [zipL_len] at hi
        obtain ⟨vs, h1, h2⟩ := list_at r1' e1 l ok3 g.1
        obtain ⟨ws, h3, h4⟩ := list_at r2 e2 l ok3 g.2
        have hi1 : i < xs.length := by omega
        have hi2 : i < ys.length := by omega
        obtain ⟨v, k1, k2⟩ := h2.get (List.getElem?_eq_getElem hi1)
        obtain ⟨u, k3, k4⟩ := h4.get (List.getElem?_eq_getElem hi2)
        refine ⟨⟨vs, ws, v, u, h1, h3, k1, k3⟩, fun x H' y => ?_⟩
        obtain ⟨Tp, z1, z2, rfl, hT, rfl, y1, y2⟩ := y
        have q1 := y1 vs h1
        have q2 := y2 ws h3
        rw [k1] at q1
        rw [k3] at q2
        cases q1
        cases q2
        exact ⟨Ext.new hT, _, zipL_get xs ys i _ _ (List.getElem?_eq_getElem hi1) (List.getElem?_eq_getElem hi2), pair_rp hT k2 k4⟩
      · simp only [Bool.and_eq_true] at g
        obtain ⟨vs, h1, h2⟩ := list_at r1' e1 l ok3 g.1
        obtain ⟨ws, h3, h4⟩ := list_at r2 e2 l ok3 g.2
        refine ⟨vs, ws, h1, h3, ?_⟩
        rw [zipL_len, ← h2.length, ← h4.length]
        omega
    | _ => exact p2.elim
  | tup xs =>
    cases d2 with
    | tup ys =>
      obtain ⟨a', vs, rfl, h1, h2, za⟩ := s1.tup
      obtain ⟨b', ws, rfl, h3, h4, zb⟩ := s2.tup
      refine ⟨a', b', vs, ws, rfl, .inr ⟨h1.sq, h3.sq, p2 _ w2 rfl ok2 Wd.Le.refl ⟨fun i w3 l ok3 g hi => ?_, fun w3 l ok3 g => ?_, by simp [gd_self e1, gd_self e2], by rw [zipL_len]; omega⟩⟩⟩
      · simp only [Bool.and_eq_true] at g
        rw [zipL_len] at hi
        obtain ⟨vs, h1, h2⟩ := tup_at r1' e1 l ok3 g.1
        obtain ⟨ws, h3, h4⟩ := tup_at r2 e2 l ok3 g.2
        have hi1 : i < xs.length := by omega
        have hi2 : i < ys.length := by omega
        obtain ⟨v, k1, k2⟩ := h2.get (List.getElem?_eq_getElem hi1)
        obtain ⟨u, k3, k4⟩ := h4.get (List.getElem?_eq_getElem hi2)
        refine ⟨⟨vs, ws, v, u, h1, h3, k1, k3⟩, fun x H' y => ?_⟩
        obtain ⟨Tp, z1, z2, rfl, hT, rfl, y1, y2⟩ := y
        have q1 := y1 vs h1
        have q2 := y2 ws h3
        rw [k1] at q1
        rw [k3] at q2
        cases q1
        cases q2
        exact ⟨Ext.new hT, _, zipL_get xs ys i _ _ (List.getElem?_eq_getElem hi1) (List.getElem?_eq_getElem hi2), pair_rp hT k2 k4⟩
      · simp only [Bool.and_eq_true] at g
        obtain ⟨vs, h1, h2⟩ := tup_at r1' e1 l ok3 g.1
        obtain ⟨ws, h3, h4⟩ := tup_at r2 e2 l ok3 g.2
        refine ⟨vs, ws, h1, h3, ?_⟩
        rw [zipL_len, ← h2.length, ← h4.length]
        omega
    | _ => exact p2.elim
  | _ => cases d2 <;> exact p2.elim
theorem rngN_le {lo hi c : Int} (hc : 0 < c) (h : hi - lo ≤ SZ) : rngN lo hi c ≤ SZ := by
  unfold rngN
  split
  · have h1 : (hi - lo - 1) / c ≤ hi - lo - 1 := Int.ediv_le_self _ (by omega)
    omega
  · exact Nat.zero_le _
theorem rgc_ok {lo hi c : Int} (h : -(2 ^ 61) ≤ lo ∧ lo < 2 ^ 61 ∧ -(2 ^ 61) ≤ hi ∧ hi < 2 ^ 61 ∧ 0 < c ∧ c < 536870912 ∧ hi - lo ≤ SZ) : RgC lo hi c (rngN lo hi c) := by
  obtain ⟨h1, h2, h3, h4, h5, h6, h7⟩ := h
  have hs : Builtin.Range.rangeSize lo hi c = (rngN lo hi c : Nat) := by
    unfold Builtin.Range.rangeSize rngN
    rw [if_pos h5]
    split
    · have h8 : 0 ≤ (hi - lo - 1) / c := Int.ediv_nonneg (by omega) (by omega)
      omega
    · rfl
  have hn := rngN_le h5 h7
  have hz : SZ = 16777216 := rfl
  refine ⟨by omega, by omega, ?_, hs⟩
  unfold Builtin.Range.small
  rw [hs]
  simp only [Builtin.Range.rangeFitsLong, Bool.and_eq_true, Bool.or_eq_true, decide_eq_true_eq, beq_iff_eq]
  rw [if_pos h5]
  simp only [Bool.and_eq_true, decide_eq_true_eq]
  refine ⟨⟨⟨⟨?_, ?_⟩, ?_⟩, ?_⟩, ?_⟩ <;> first | omega | (constructor <;> omega) | (right; constructor <;> omega)
theorem yl_rngC {b : Bool} {K : PySem.W.Frag} {w1 : Wd} {lo c : Int} {n : Nat} (z : n ≤ SZ) : Yl b K (Itc lo c n) w1 (rngC lo c n, fun _ => true) := by
  have hlen : (rngC lo c n).length = n := by unfold rngC; rw [List.length_map, List.length_range]
  refine ⟨fun i w2 l ok2 g hi => ?_, fun w2 l ok2 g => ?_, rfl, by rw [hlen, ← SZ_eq]; omega⟩
  · have hi' : i < n := by rw [← hlen]; exact hi
    refine ⟨hi', fun x H' y => ?_⟩
    obtain ⟨rfl, rfl⟩ := y
    refine ⟨Ext.refl, .int (lo + (i : Int) * c), ?_, .inl (.int _)⟩
    show (rngC lo c n)[i]? = _
    unfold rngC
    rw [List.getElem?_map, List.getElem?_range hi']
    rfl
  · show n ≤ (rngC lo c n).length
    rw [hlen]; exact Nat.le_refl _
theorem i_rng3 (C : Ct T c k W sc X) {es : Exs} {e1 e2 e3 : Expr} {tg : Expr} {x : Str} {p p2 : Pos} (hb : bltB T sc x "range" = true) (h : chkL T sc es [e1, e2, e3] = true) (ha : SA X T W [e1, e2, e3] (evL c es)) : SI X T W tg (.Call (.Name x p) [e1, e2, e3] [] p2) (evI c (.rng es)) := by
  obtain ⟨hx, hg, hm, hn, hd⟩ := blt_of C hb
  subst hx
  have hst := chkL_star h
  have hb := hst
  rw [List.all_cons] at hst
  refine ⟨fun pins s σ H R I hh => (pi_range3 hg hm ha (star_of (ba2 hst).1 _ _) (back_of (ba2 hst).2)).run pins s σ H R I ?_⟩
  obtain ⟨env, w, rfl, ok, E, q⟩ := hh
  simp only [evI] at q
  refine ⟨env, w, rfl, ok, E, (post.bindE (R := RVL X.K) q).imp fun xs H1 q => ?_⟩
  obtain ⟨vas, w1, rfl, ok1, l1, r1, e1, p1⟩ := q
  have n1 := evL_len es _ env h _ _ _ e1
  match vas, n1 with
  | [va, vb, vc], _ =>
    cases r1 with
    | cons ra rt =>
      cases rt with
      | cons rb rt =>
        cases rt with
        | cons rc rt =>
          cases rt
          unfold wkR at p1
          have key : ∃ lo hi cc : Int, va = .d (.int lo) ∧ vb = .d (.int hi) ∧ vc = .d (.int cc) := by
            cases va with
            | d d =>
              cases d with
              | int lo =>
                cases vb with
                | d d =>
                  cases d with
                  | int hi =>
                    cases vc with
                    | d d =>
                      cases d with
                      | int cc => exact ⟨lo, hi, cc, rfl, rfl, rfl⟩
                      | _ => exact p1.elim
                    | _ => exact p1.elim
                  | _ => exact p1.elim
                | _ => exact p1.elim
              | _ => exact p1.elim
            | _ => exact p1.elim
          obtain ⟨lo, hi, cc, rfl, rfl, rfl⟩ := key
          simp only [rngOf] at p1
          by_cases hb : -(2 ^ 61) ≤ lo ∧ lo < 2 ^ 61 ∧ -(2 ^ 61) ≤ hi ∧ hi < 2 ^ 61 ∧ 0 < cc ∧ cc < 536870912 ∧ hi - lo ≤ SZ
          · rw [if_pos hb] at p1
            obtain rfl := Sq.int (M := w1.M) (H := w1.H) (K := X.K) (Rp.sq ra)
            obtain rfl := Sq.int (M := w1.M) (H := w1.H) (K := X.K) (Rp.sq rb)
            obtain rfl := Sq.int (M := w1.M) (H := w1.H) (K := X.K) (Rp.sq rc)
            exact ⟨lo, hi, cc, _, rfl, rgc_ok hb, p1 _ w1 rfl ok1 Wd.Le.refl (yl_rngC (rngN_le hb.2.2.2.2.1 hb.2.2.2.2.2.2))⟩
          · rw [if_neg hb] at p1; exact p1.elim
end
end Ev

namespace Ev
open PySem PySem.Spec PyProof.Rows L2
def gNs : List Nat → TGs
  | [] => gNil
  | i :: r => gCons (gName i) (gNs r)
def gT (K : PySem.W.Frag) : Tg → TG
  | .v i => gName i
  | .t is => gTup K is.length (gNs is)
def tgS : Tg → List Nat
  | .v i => [i]
  | .t is => is
section
variable {T : Tb} {sc : Scope} {X : Cx} {c : Calls} {k : Nat} {W : WX}
theorem own_of (C : Ct T c k W sc X) {i : Nat} {x : Str} {p : Pos} (h : ownB T sc i x = true) : PG X (.Name x p) (gName i) := by
  unfold ownB at h
  obtain ⟨h1, h2⟩ := ba2 h
  obtain ⟨h3, h4⟩ := ba2 h1
  have hl : Loc X.env.scope x ∧ (X.fn x = true ∨ X.env.scope.names.lookup x = some .local) := by
    split at h2
    · rename_i e; exact ⟨.inl (C.loc x e), .inr (C.loc x e)⟩
    · rename_i e; exact ⟨.inr (C.cel x e).1, .inl (C.cel x e).2⟩
    · cases h2
  exact pg_name (by rw [C.nm]; exact C.nd) (by rw [C.nm]; exact of_decide_eq_true h3) hl.1 hl.2
theorem g1_len : ∀ {is : List Nat} {es : List Expr} {env : PySem.Env}, chkG1 T sc is es = true → (assignEach es env).length = is.length ∧ (assignEach es env).findIdx? (·.1) = none
  | [], [], _, _ => ⟨rfl, rfl⟩
  | [], _ :: _, _, h => by cases h
  | _ :: _, [], _, h => by cases h
  | i :: is, .Name x p :: es, env, h => by
    obtain ⟨h1, h2⟩ := ba2 (show (ownB T sc i x && chkG1 T sc is es) = true from h)
    obtain ⟨e1, e2⟩ := g1_len (env := env) h2
    constructor
    · show (assignEach es env).length + 1 = is.length + 1
      rw [e1]
    · show List.findIdx? (·.1) ((false, assign (.Name x p) env) :: assignEach es env) = none
      rw [List.findIdx?_cons, e2]
      rfl
  | _ :: _, .BoolOp .. :: _, _, h | _ :: _, .NamedExpr .. :: _, _, h | _ :: _, .BinOp .. :: _, _, h | _ :: _, .UnaryOp .. :: _, _, h | _ :: _, .Lambda .. :: _, _, h | _ :: _, .IfExp .. :: _, _, h
  | _ :: _, .Dict .. :: _, _, h | _ :: _, .Set .. :: _, _, h | _ :: _, .ListComp .. :: _, _, h | _ :: _, .SetComp .. :: _, _, h | _ :: _, .DictComp .. :: _, _, h | _ :: _, .GeneratorExp .. :: _, _, h
  | _ :: _, .Await .. :: _, _, h | _ :: _, .Yield .. :: _, _, h | _ :: _, .YieldFrom .. :: _, _, h | _ :: _, .Compare .. :: _, _, h | _ :: _, .Call .. :: _, _, h | _ :: _, .FormattedValue .. :: _, _, h
  | _ :: _, .JoinedStr .. :: _, _, h | _ :: _, .Constant .. :: _, _, h | _ :: _, .Attribute .. :: _, _, h | _ :: _, .Subscript .. :: _, _, h | _ :: _, .Starred .. :: _, _, h
  | _ :: _, .List .. :: _, _, h | _ :: _, .Tuple .. :: _, _, h | _ :: _, .Slice .. :: _, _, h => by cases h
theorem gs_of (C : Ct T c k W sc X) : ∀ {is : List Nat} {es : List Expr}, chkG1 T sc is es = true → PGs X es (gNs is)
  | [], [], _ => pgs_nil
  | [], _ :: _, h => by cases h
  | _ :: _, [], h => by cases h
  | i :: is, .Name x p :: es, h => by
    obtain ⟨h1, h2⟩ := ba2 (show (ownB T sc i x && chkG1 T sc is es) = true from h)
    exact pgs_cons (own_of C h1) (gs_of C h2)
  | _ :: _, .BoolOp .. :: _, h | _ :: _, .NamedExpr .. :: _, h | _ :: _, .BinOp .. :: _, h | _ :: _, .UnaryOp .. :: _, h | _ :: _, .Lambda .. :: _, h | _ :: _, .IfExp .. :: _, h
  | _ :: _, .Dict .. :: _, h | _ :: _, .Set .. :: _, h | _ :: _, .ListComp .. :: _, h | _ :: _, .SetComp .. :: _, h | _ :: _, .DictComp .. :: _, h | _ :: _, .GeneratorExp .. :: _, h
  | _ :: _, .Await .. :: _, h | _ :: _, .Yield .. :: _, h | _ :: _, .YieldFrom .. :: _, h | _ :: _, .Compare .. :: _, h | _ :: _, .Call .. :: _, h | _ :: _, .FormattedValue .. :: _, h
  | _ :: _, .JoinedStr .. :: _, h | _ :: _, .Constant .. :: _, h | _ :: _, .Attribute .. :: _, h | _ :: _, .Subscript .. :: _, h | _ :: _, .Starred .. :: _, h
  | _ :: _, .List .. :: _, h | _ :: _, .Tuple .. :: _, h | _ :: _, .Slice .. :: _, h => by cases h
theorem g_of (C : Ct T c k W sc X) {tg : Tg} {e : Expr} (h : chkG T sc tg e = true) : PG X e (gT X.K tg) := by
  cases tg with
  | v i =>
    cases e <;> first | (cases h; done) | skip
    exact own_of C h
  | t is =>
    cases e <;> first | (cases h; done) | skip
    obtain ⟨hcm, h'⟩ := ba2 (show (T.cm && chkG1 T sc is _) = true from h)
    exact pg_tup (C.calm hcm) (gs_of C h') (g1_len h').1 (g1_len h').2
/-- a target takes its data -/
theorem sets_ok {K : PySem.W.Frag} {w : Wd} {R : L2.St → Hp → Prop} (τ : Sl) : ∀ (is : List Nat) (ds : List D) (vs : List V) (env : Env) (σ : Sl), is.length = ds.length → RpL K w.M w.H ds vs → EnvR K w env σ → σ.length = τ.length → (∀ own : List Nat, (∀ i ∈ is, i ∈ own) → True) →
    (∀ σ1, EnvR K w ((is.zip ds).foldl (fun e p => e.set p.1 (some (.d p.2))) env) σ1 → σ1.length = τ.length → (∀ j, j ∉ is → σ1[j]? = σ[j]?) → R σ1 w.H) → gNs is vs σ w.H R
  | [], [], vs, env, σ, _, r, E, hl, _, q => by
    cases r
    exact ⟨rfl, q σ E hl fun _ _ => rfl⟩
  | [], _ :: _, _, _, _, h, _, _, _, _, _ => by simp at h
  | _ :: _, [], _, _, _, h, _, _, _, _, _ => by simp at h
  | i :: is, d :: ds, vs, env, σ, h, r, E, hl, _, q => by
    cases r with
    | cons r1 r2 =>
      rename_i v vs'
      refine ⟨v, vs', rfl, ?_⟩
      refine sets_ok τ is ds vs' (env.set i (some (.d d))) (σ.set i (some v)) (by simpa using h) r2 (E.set (va := .d d) r1) (by rw [List.length_set]; exact hl) (fun _ _ => trivial) fun σ1 E1 hl1 hj => ?_
      refine q σ1 E1 hl1 fun j hjn => ?_
      simp only [List.mem_cons, not_or] at hjn
      rw [hj j hjn.2, List.getElem?_set_ne (fun e => hjn.1 e.symm)]
theorem tup_tg {T : Tb} {sc : Scope} {tg : Tg} {eg : Expr} (h : chkG T sc tg eg = true) : isTupE eg = true → ∃ is, tg = .t is := fun hb => by
  cases tg with
  | t is => exact ⟨is, rfl⟩
  | v i => cases eg <;> first | (cases h; done) | (cases hb; done)
theorem bind_ok {K : PySem.W.Frag} {w : Wd} {R : L2.St → Hp → Prop} {tg : Tg} {d : D} {x : V} {env env1 : Env} {σ : Sl} (e : bindT tg d env = some env1) {b : Bool} (r : Rq K w.M w.H b d x) (hb : b = true → ∃ is, tg = .t is) (E : EnvR K w env σ)
    (q : ∀ σ1, EnvR K w env1 σ1 → σ1.length = σ.length → (∀ j, j ∉ tgS tg → σ1[j]? = σ[j]?) → R σ1 w.H) : gT K tg x σ w.H R := by
  cases tg with
  | v i =>
    cases e
    have r : Rp K w.M w.H d x := by
      rcases r with r | ⟨h, _⟩
      · exact r
      · obtain ⟨is, h⟩ := hb h
        cases h
    exact q _ (E.set (va := .d d) r) (by rw [List.length_set]) fun j hj => List.getElem?_set_ne (fun e => hj (by simp [tgS, e]))
  | t is =>
    simp only [bindT] at e
    cases d <;> first | (cases e; done) | skip
    rename_i ds
    by_cases hl : is.length = ds.length
    · simp only [hl, if_true] at e
      cases e
      obtain ⟨a, vs, rfl, ta, ra⟩ : ∃ a vs, x = .ref a ∧ SqT K w.H a vs ∧ RpL K w.M w.H ds vs := by
        rcases r with r | ⟨_, ds', a, vs, h, rfl, h1, h2⟩
        · obtain ⟨a, vs, rfl, ta, ra, _⟩ := (Rp.sq r).tup
          exact ⟨a, vs, rfl, ta.sq, ra⟩
        · cases h
          exact ⟨a, vs, rfl, h1, h2⟩
      exact ⟨a, vs, rfl, ta, by rw [← ra.length, hl], sets_ok σ is ds vs env σ hl ra E rfl (fun _ _ => trivial) fun σ1 E1 hl1 hj => q σ1 E1 hl1 hj⟩
    · simp only [hl, if_false] at e
      cases e
theorem wipe_get (τ : Sl) : ∀ (vs : List Nat) (j : Nat), (wipe τ vs)[j]? = if j ∈ vs then (τ[j]?).map (fun _ => none) else τ[j]?
  | [], j => by simp [wipe]
  | v :: vs, j => by
    unfold wipe
    by_cases hj : v = j
    · subst hj
      rw [if_pos List.mem_cons_self]
      by_cases hl : v < τ.length
      · rw [List.getElem?_set_self (by rw [wipe_length]; exact hl), List.getElem?_eq_getElem hl]; rfl
      · rw [List.getElem?_eq_none (by rw [List.length_set, wipe_length]; omega), List.getElem?_eq_none (by omega)]; rfl
    · rw [List.getElem?_set_ne hj, wipe_get τ vs j]
      have : (j ∈ v :: vs) ↔ j ∈ vs := by simp only [List.mem_cons]; exact ⟨fun h => h.resolve_left (fun e => hj e.symm), .inr⟩
      simp only [this]
theorem wipe_same {σ τ : Sl} {vs : List Nat} (hl : τ.length = σ.length) (h : ∀ j, j ∉ vs → τ[j]? = σ[j]?) : wipe τ vs = wipe σ vs := by
  apply List.ext_getElem?
  intro j
  rw [wipe_get, wipe_get]
  by_cases hj : j ∈ vs
  · rw [if_pos hj, if_pos hj]
    by_cases h1 : j < σ.length
    · rw [List.getElem?_eq_getElem h1, List.getElem?_eq_getElem (by omega)]; rfl
    · rw [List.getElem?_eq_none (by omega), List.getElem?_eq_none (by omega)]
  · rw [if_neg hj, if_neg hj, h j hj]
theorem wipe_twice (σ : Sl) (vs : List Nat) : wipe (wipe σ vs) vs = wipe σ vs := wipe_same (wipe_length σ vs) fun j hj => by rw [wipe_get, if_neg hj]
theorem wipeE_len : ∀ (own : List Nat) (env : Env), (wipeE own env).length = env.length
  | [], _ => rfl
  | i :: own, env => by
    show (wipeE own (env.set i none)).length = _
    rw [wipeE_len own, List.length_set]
theorem wipeE_some : ∀ (own : List Nat) (env : Env) (i : Nat) (va : Va), (wipeE own env)[i]? = some (some va) → env[i]? = some (some va) ∧ i ∉ own
  | [], _, _, _, h => ⟨h, by simp⟩
  | j :: own, env, i, va, h => by
    have h' : (wipeE own (env.set j none))[i]? = some (some va) := h
    obtain ⟨h1, h2⟩ := wipeE_some own _ i va h'
    by_cases e : j = i
    · subst e
      by_cases hl : j < env.length
      · rw [List.getElem?_set_self hl] at h1; cases h1
      · rw [List.getElem?_eq_none (by rw [List.length_set]; omega)] at h1; cases h1
    · rw [List.getElem?_set_ne e] at h1
      exact ⟨h1, by simp only [List.mem_cons, not_or]; exact ⟨fun q => e q.symm, h2⟩⟩
theorem EnvR.wipe {K : PySem.W.Frag} {w : Wd} {env : Env} {σ : Sl} (E : EnvR K w env σ) (own : List Nat) : EnvR K w (wipeE own env) (L2.wipe σ own) := by
  refine ⟨by rw [wipeE_len, wipe_length]; exact E.len, fun i va e => ?_⟩
  obtain ⟨h1, h2⟩ := wipeE_some own env i va e
  obtain ⟨v, h3, h4⟩ := E.at_ i va h1
  exact ⟨v, by rw [wipe_get, if_neg h2]; exact h3, h4⟩
theorem M_open {w : Wd} {D : Addr} {H' : Hp} {a : Addr} (m : (Wd.mk H' w.st w.adr (D :: w.hid)).M a) : w.M a ∨ a = D := by
  rcases m with m | m
  · exact .inl (.inl m)
  · rcases List.mem_cons.mp m with e | m
    · exact .inr e
    · exact .inl (.inr m)
theorem open_ok {K : PySem.W.Frag} {w : Wd} {D : Addr} {u : HO} (ok : w.Ok K) (n : w.H D = none) : (Wd.mk (upd w.H D u) w.st w.adr (D :: w.hid)).Ok K ∧ w.Lm ⟨upd w.H D u, w.st, w.adr, D :: w.hid⟩ := by
  have mle : Mle w.M (Wd.mk (upd w.H D u) w.st w.adr (D :: w.hid)).M w.H := fun a o e m => by
    rcases M_open m with m | rfl
    · exact m
    · rw [n] at e; cases e
  refine ⟨⟨ok.len, ok.inj, fun i a o h1 h2 => (ok.obj i a o h1 h2).mono (Ext.new n).kp mle fun u h => Ext.new n a u h, fun i a o h1 h2 h3 => ?_, fun a h => ?_⟩, fun _ _ h => h, (Ext.new n).kp, mle⟩
  · intro h
    rcases List.mem_cons.mp h with e | h
    · subst e
      obtain ⟨x, e⟩ := ok.there (.inl ⟨i, o, h1, h2, h3⟩)
      rw [n] at e; cases e
    · exact ok.nohid i a o h1 h2 h3 h
  · rcases List.mem_cons.mp h with e | h
    · subst e; exact ⟨_, upd_same⟩
    · obtain ⟨x, e⟩ := ok.hids a h
      exact ⟨x, Ext.new n a x e⟩
/-- the list at D changes -/
theorem grow_ok {K : PySem.W.Frag} {w : Wd} {D : Addr} {u : HO} (ok : w.Ok K) (hD : D ∈ w.hid) : (Wd.mk (upd w.H D u) w.st w.adr w.hid).Ok K ∧ w.Lm ⟨upd w.H D u, w.st, w.adr, w.hid⟩ := by
  have kp : Kp w.M w.H (upd w.H D u) := fun a o e m => by
    rw [upd_ne]
    · exact e
    · rintro rfl; exact m (.inr hD)
  refine ⟨⟨ok.len, ok.inj, fun i a o h1 h2 => ?_, ok.nohid, fun a h => ?_⟩, fun _ _ h => h, kp, fun _ _ _ h => h⟩
  · by_cases hd : o = .dead
    · subst hd; trivial
    · have hne : a ≠ D := fun e => ok.nohid i a o h1 hd h2 (e ▸ hD)
      exact (ok.obj i a o h1 h2).mono (M := w.M) kp Mle.refl fun u h => (upd_ne hne).trans h
  · by_cases e : a = D
    · subst e; exact ⟨_, upd_same⟩
    · obtain ⟨x, q⟩ := ok.hids a h
      exact ⟨x, (upd_ne e).trans q⟩
/-- it is done -/
theorem close_ok {K : PySem.W.Frag} {ca : Nat → Addr} {W : WX} {w w1 : Wd} {D : Addr} {σ : Sl} {Q : VK} {r : Bool} {ds : List Ev.D} {vs : List V} (ok : w.Ok K) (hh : w.hid = D :: w1.hid) (l : w1.Lm w) (hk : ∀ a ∈ w1.hid, w.H a = w1.H a) (nD : D ∉ w1.hid)
    (hD : w.H D = some (.lst vs)) (rl : RpL K w.M w.H ds vs) (z : ds.length ≤ sizeLine) (p : post K ca W (RV K) w1 σ Q (mk r (.lst ds) w.st)) : Q (.ref D) w.H := by
  have notSt : ∀ {i : Nat} {o : Ob}, w.st[i]? = some o → o ≠ .dead → w.adr[i]? ≠ some D := fun {i o} h1 h2 h3 => ok.nohid i D o h1 h2 h3 (by rw [hh]; exact List.mem_cons_self)
  have sub : ∀ {a : Addr}, a ∈ w1.hid → a ∈ w.hid := fun h => by rw [hh]; exact List.mem_cons_of_mem _ h
  cases r with
  | false =>
    have mi : ∀ a, (Wd.mk w.H w.st w.adr w1.hid).M a → w.M a := fun a m => m.imp id sub
    refine p (.ref D) ⟨w.H, w.st, w.adr, w1.hid⟩ rfl ⟨ok.len, ok.inj, fun i a o h1 h2 => (ok.obj i a o h1 h2).mono (M := w.M) Ext.refl.kp (fun a _ _ m => mi a m) fun _ h => h, fun i a o h1 h2 h3 h => ok.nohid i a o h1 h2 h3 (sub h), fun a h => ok.hids a (sub h)⟩
      ⟨⟨l.pre, l.keep, fun a o e m => l.mt a o e (mi a m)⟩, rfl, hk⟩ ?_
    refine .lst (.inl ⟨.inl hD, ?_⟩) (rl.mono Ext.refl.kp (fun a _ _ m => mi a m)) z
    rintro (⟨i, o, h1, h2, h3⟩ | m)
    · exact notSt h1 h2 h3
    · exact nD m
  | true =>
    have hl := ok.len
    have last : (w.adr ++ [D])[w.st.length]? = some D := by rw [← hl]; simp
    have split : ∀ {i : Nat} {o' : Ob}, (w.st ++ [Ob.lst ds])[i]? = some o' → (w.st[i]? = some o' ∧ i < w.st.length) ∨ (i = w.st.length ∧ o' = .lst ds) := fun {i o'} h => by
      by_cases hi : i < w.st.length
      · rw [List.getElem?_append_left hi] at h
        exact .inl ⟨h, hi⟩
      · rw [List.getElem?_append_right (by omega)] at h
        have hj : i - w.st.length = 0 := by
          have := (List.getElem?_eq_some_iff.mp h).1
          simp at this
          omega
        rw [hj] at h
        simp at h
        exact .inr ⟨by omega, h.symm⟩
    have atadr : ∀ {i : Nat} {a : Addr}, i < w.st.length → (w.adr ++ [D])[i]? = some a → w.adr[i]? = some a := fun {i a} hi h => by
      rw [List.getElem?_append_left (by omega)] at h
      exact h
    have atl : ∀ {i : Nat} {a : Addr}, i = w.st.length → (w.adr ++ [D])[i]? = some a → a = D := fun {i a} hi h => by
      rw [hi, last] at h
      exact (Option.some.inj h).symm
    have mi : ∀ a, (Wd.mk w.H (w.st ++ [.lst ds]) (w.adr ++ [D]) w1.hid).M a → w.M a := fun a m => by
      rcases m with ⟨i, o, h1, h2, h3⟩ | m
      · rcases split h1 with ⟨g1, hi⟩ | ⟨e1, _⟩
        · exact .inl ⟨i, o, g1, h2, atadr hi h3⟩
        · refine .inr ?_
          rw [hh, atl e1 h3]
          exact List.mem_cons_self
      · exact .inr (sub m)
    refine p (.ref D) ⟨w.H, w.st ++ [.lst ds], w.adr ++ [D], w1.hid⟩ rfl ⟨by simp [hl], fun i j a oi oj h1 h2 h3 h4 h5 h6 => ?_, fun i a o h1 h2 => ?_, fun i a o h1 h2 h3 h => ?_, fun a h => ok.hids a (sub h)⟩
      ⟨⟨fun i a h => ?_, l.keep, fun a o e m => l.mt a o e (mi a m)⟩, rfl, hk⟩ ⟨D, last, rfl⟩
    · rcases split h1 with ⟨g1, hi⟩ | ⟨e1, _⟩
      · rcases split h3 with ⟨g3, hj⟩ | ⟨e3, _⟩
        · exact ok.inj i j a oi oj g1 h2 g3 h4 (atadr hi h5) (atadr hj h6)
        · have := atl e3 h6
          subst this
          exact absurd (atadr hi h5) (notSt g1 h2)
      · rcases split h3 with ⟨g3, hj⟩ | ⟨e3, _⟩
        · have := atl e1 h5
          subst this
          exact absurd (atadr hj h6) (notSt g3 h4)
        · omega
    · rcases split h1 with ⟨g1, hi⟩ | ⟨e1, e2⟩
      · exact (ok.obj i a o g1 (atadr hi h2)).mono (M := w.M) Ext.refl.kp (fun a _ _ m => mi a m) fun _ h => h
      · have := atl e1 h2
        subst this
        subst e2
        exact ⟨vs, hD, rl.mono Ext.refl.kp (fun a _ _ m => mi a m), z⟩
    · rcases split h1 with ⟨g1, hi⟩ | ⟨e1, e2⟩
      · exact ok.nohid i a o g1 h2 (atadr hi h3) (sub h)
      · have := atl e1 h3
        subst this
        exact nD h
    · have h' := l.pre i a h
      have hi : i < w.adr.length := (List.getElem?_eq_some_iff.mp h').1
      show (w.adr ++ [D])[i]? = some a
      rw [List.getElem?_append_left hi]
      exact h'
abbrev W0 : WX := fun _ _ _ _ => False
theorem PTs.imp {X : Cx} {es : List Expr} {t t' : TT} (h : PTs X es t) (i : ∀ σ H Q, t' σ H Q → t σ H Q) : PTs X es t' := ⟨fun pins s σ H Q I hw => h.run pins s σ H Q I (i σ H Q hw)⟩
theorem q_none (C : Ct T c k W sc X) : PTs X [] (tM X.K (caT X.K T) W (fun _ a b => a = b) (evQ c .none)) := by
  refine PTs.imp pts_nil fun σ H Q hq => ?_
  obtain ⟨env, w, rfl, ok, E, q⟩ := hq
  simp only [evQ] at q
  exact q true w rfl ok Wd.Le.refl rfl
theorem q_some (C : Ct T c k W sc X) {t : Te} {e : Expr} (ht : ST X T W e (evT c t)) : PTs X [e] (tM X.K (caT X.K T) W (fun _ a b => a = b) (evQ c (.some t))) :=
  PTs.imp (pts_one ht) fun σ H Q hq => by simpa only [evQ] using hq
theorem own_map (own : List Nat) : (ownOf T own).map (·.2) = own := by
  unfold ownOf
  rw [List.map_map]
  exact List.map_id _
theorem compM_er {bd : D → Env → Option Env} {cond : Env → Store → Res Bool} {elt : Env → Store → Res Va} {gd : Store → Bool} : ∀ (xs : List D) (env : Env) (st : Store) (cl : Nat) (st' : Store), compM bd cond elt gd xs env st ≠ .er cl st'
  | [], env, st, cl, st', h => by simp [compM] at h
  | x :: xs, env, st, cl, st', h => by
    unfold compM at h
    cases e1 : bd x env with
    | none => simp only [e1] at h; cases h
    | some env1 =>
      simp only [e1] at h
      cases e2 : cond env1 st with
      | no => simp only [e2] at h; cases h
      | er _ _ => simp only [e2] at h; cases h
      | ok b st1 =>
        simp only [e2] at h
        cases b with
        | false =>
          simp only [Bool.false_eq_true, if_false] at h
          cases e3 : gd st1 with
          | false => simp only [e3, Bool.false_eq_true, if_false] at h; cases h
          | true =>
            simp only [e3, if_true] at h
            exact compM_er xs env st1 cl st' h
        | true =>
          simp only [if_true] at h
          cases e3 : elt env1 st1 with
          | no => simp only [e3] at h; cases h
          | er _ _ => simp only [e3] at h; cases h
          | ok va st2 =>
            cases va with
            | r _ => simp only [e3] at h; cases h
            | e _ => simp only [e3] at h; cases h
            | d y =>
              simp only [e3] at h
              cases e4 : gd st2 with
              | false => simp only [e4, Bool.false_eq_true, if_false] at h; cases h
              | true =>
                simp only [e4, if_true] at h
                cases e5 : compM bd cond elt gd xs env st2 with
                | no => simp only [e5] at h; cases h
                | er _ _ => simp only [e5] at h; cases h
                | ok _ _ => simp only [e5] at h; cases h
/-- one turn of a comprehension that comes to an end -/
theorem compM_ok {bd : D → Env → Option Env} {cond : Env → Store → Res Bool} {elt : Env → Store → Res Va} {gd : Store → Bool} {x : D} {xs : List D} {env : Env} {st : Store} {ys : List D} {st' : Store} (h : compM bd cond elt gd (x :: xs) env st = .ok ys st') :
    ∃ env1, bd x env = some env1 ∧ ∃ b st1, cond env1 st = .ok b st1 ∧ ((b = false ∧ gd st1 = true ∧ compM bd cond elt gd xs env st1 = .ok ys st') ∨
      (b = true ∧ ∃ y st2 ys', elt env1 st1 = .ok (.d y) st2 ∧ gd st2 = true ∧ compM bd cond elt gd xs env st2 = .ok ys' st' ∧ ys = y :: ys')) := by
  unfold compM at h
  cases e1 : bd x env with
  | none => simp only [e1] at h; cases h
  | some env1 =>
    simp only [e1] at h
    refine ⟨env1, rfl, ?_⟩
    cases e2 : cond env1 st with
    | no => simp only [e2] at h; cases h
    | er _ _ => simp only [e2] at h; cases h
    | ok b st1 =>
      simp only [e2] at h
      refine ⟨b, st1, rfl, ?_⟩
      cases b with
      | false =>
        simp only [Bool.false_eq_true, if_false] at h
        cases e3 : gd st1 with
        | false => simp only [e3, Bool.false_eq_true, if_false] at h; cases h
        | true =>
          simp only [e3, if_true] at h
          exact .inl ⟨rfl, by first | exact e3 | rfl, h⟩
      | true =>
        simp only [if_true] at h
        cases e3 : elt env1 st1 with
        | no => simp only [e3] at h; cases h
        | er _ _ => simp only [e3] at h; cases h
        | ok va st2 =>
          cases va with
          | r _ => simp only [e3] at h; cases h
          | e _ => simp only [e3] at h; cases h
          | d y =>
            simp only [e3] at h
            cases e4 : gd st2 with
            | false => simp only [e4, Bool.false_eq_true, if_false] at h; cases h
            | true =>
              simp only [e4, if_true] at h
              cases e5 : compM bd cond elt gd xs env st2 with
              | no => simp only [e5] at h; cases h
              | er _ _ => simp only [e5] at h; cases h
              | ok ys' st3 =>
                simp only [e5] at h
                cases h
                exact .inr ⟨rfl, y, st2, ys', rfl, e4, e5, rfl⟩
theorem tgIn_sub {own : List Nat} {tg : Tg} (h : tgIn own tg = true) : ∀ j, j ∉ own → j ∉ tgS tg := by
  intro j hj hm
  cases tg with
  | v i =>
    simp only [tgS, List.mem_singleton] at hm
    subst hm
    exact hj (by simpa [tgIn] using h)
  | t is =>
    simp only [tgIn, List.all_eq_true] at h
    exact hj (by simpa using h j hm)
theorem lookup_g {g : Str → NameKind → NameKind} (x : Str) : ∀ names : List (Str × NameKind), (names.map fun p => (p.1, g p.1 p.2)).lookup x = (names.lookup x).map (g x)
  | [] => rfl
  | (n, k) :: r => by
    show ((n, g n k) :: r.map fun p => (p.1, g p.1 p.2)).lookup x = _
    rw [List.lookup_cons, List.lookup_cons]
    cases h : x == n with
    | true => rw [eq_of_beq h]; rfl
    | false => exact lookup_g x r
theorem rel_lookup (s : Scope) (env : PySem.Env) (x : Str) : (relabel s env).names.lookup x = (s.names.lookup x).map fun k => if (k == .free && env.scope.kind == .function && env.kindOf x == some .cell) then .cell else k := by
  rw [← lookup_g (g := fun n k => if (k == .free && env.scope.kind == .function && env.kindOf n == some .cell) then .cell else k) x s.names]
  show (s.names.map _).lookup x = _
  congr 1
  apply List.map_congr_left
  intro p _
  obtain ⟨n, k⟩ := p
  show (if _ then _ else _) = _
  split <;> rename_i h
  · simp [h]
  · simp [h]
theorem blk_ct (C : Ct T c k W sc X) (hcm : T.cm = true) {s : Scope} (s0 : Shared) (H : Hp) (Ca : Addr) (cl : List (Str × Addr)) (fp : List Addr) : Ct T c k W0 s (X.blk s0 H s (compEnvC s cl Ca X.env) fp) where
  glo := fun x e => by
    show (relabel s X.env).names.lookup x = _
    rw [rel_lookup, e]; rfl
  loc := fun x e => by
    show (relabel s X.env).names.lookup x = _
    rw [rel_lookup, e]; rfl
  cel := fun x e => by
    constructor
    · show (relabel s X.env).names.lookup x = _
      rw [rel_lookup, e]; rfl
    · show (s.names.lookup x == some .cell) = true
      rw [e]; rfl
  fre := fun x e => by
    show (relabel s X.env).names.lookup x = _ ∨ (relabel s X.env).names.lookup x = _
    rw [rel_lookup, e]
    show some (if _ then _ else _) = _ ∨ some (if _ then _ else _) = _
    split
    · exact .inl rfl
    · exact .inr rfl
  calm := C.calm
  room := C.room
  un := C.un
  ex := C.ex
  exh := fun h => by rw [hcm] at h; cases h
  nd := C.nd
  nm := C.nm
  takes := ⟨fun _ _ ⟨_, _, _, _, _, _, _, _, _, _, _, _, _, _, _, _, w⟩ => w.2.elim, fun _ _ ⟨_, _, _, _, _, _, _, _, _, _, _, _, _, _, _, _, w⟩ => w.2.elim⟩
  pass := PassesOwn.never
  free := C.free
  gl := C.gl
  cls := C.cls
  fn := C.fn
theorem blk_up (C : Ct T c k W sc X) {s : Scope} {own : List (Str × Nat)} (h : blkC T.N sc s own = true) : BlkOk X.N X.env.scope s own := by
  obtain ⟨h1, h2, h3, h4, h5⟩ := blkOk_by h
  rw [← C.nm] at h3 h5
  refine ⟨h1, h2, h3, fun y hy e => ?_, h5⟩
  rcases h4 y hy e with q | q
  · exact .inl (C.cel _ q).1
  · exact C.fre _ q
theorem lc_of {r : Bool} {own : List Nat} {tg : Tg} {it : Src} {ifs : Op'} {elt : Ex} {b : Bool} (hbt : b = true → ∃ is, tg = .t is) (ht : tgIn own tg = true) (σ : Sl) (H : Hp) (Q : VK) (hq : tM X.K (caT X.K T) W (RV X.K) (evE c (.comp r own tg it ifs elt)) σ H Q) :
    tLc (tM X.K (caT X.K T) W (fun w wk J => Yl b X.K J w wk) (evI c it)) (gT X.K tg) (tM X.K (caT X.K T) W0 (fun _ a b => a = b) (evQ c ifs)) (tM X.K (caT X.K T) W0 (RV X.K) (evE c elt)) own σ H Q := by
  obtain ⟨env, w, rfl, ok, E, q⟩ := hq
  simp only [evE] at q
  refine ⟨env, w, rfl, ok, E, (post.bind (R := fun w wk J => Yl b X.K J w wk) q).imp fun J H1 q => ?_⟩
  obtain ⟨wk, w1, rfl, ok1, l1, yl, p1⟩ := q
  intro D nD
  cases hcm : compM (bindT tg) (fun e s => evQ c ifs e s) (fun e s => evE c elt e s) wk.2 wk.1 (wipeE own env) w1.st with
  | no => simp only [hcm, Res.bind, post] at p1
  | er cl st' => exact absurd hcm (compM_er _ _ _ _ _)
  | ok ys st2 =>
    rw [hcm] at p1
    simp only [Res.bind] at p1
    obtain ⟨y1, y2, y3, y4⟩ := yl
    have Ew : EnvR X.K w1 (wipeE own env) (L2.wipe σ own) := (E.mono l1).wipe own
    have nDh : D ∉ w1.hid := fun h => by
      obtain ⟨x, e⟩ := ok1.hids D h
      rw [nD] at e; cases e
    obtain ⟨okD, lD⟩ := open_ok (u := .lst []) ok1 nD
    refine ⟨fun i m H => m = wk.1.length - i ∧ i ≤ wk.1.length ∧ ∃ (w' : Wd) (vs : List V) (acc rest : List Ev.D), w'.H = H ∧ w'.hid = D :: w1.hid ∧ w'.Ok X.K ∧ w1.Lm w' ∧ (∀ a ∈ w1.hid, w'.H a = w1.H a) ∧ w'.H D = some (.lst vs) ∧ RpL X.K w'.M w'.H acc vs ∧
      acc.length ≤ i ∧ wk.2 w'.st = true ∧ compM (bindT tg) (fun e s => evQ c ifs e s) (fun e s => evE c elt e s) wk.2 (wk.1.drop i) (wipeE own env) w'.st = .ok rest st2 ∧ acc ++ rest = ys, ⟨wk.1.length, by simp, Nat.zero_le _, ?_⟩, ?_⟩
    · refine ⟨⟨upd w1.H D (.lst []), w1.st, w1.adr, D :: w1.hid⟩, [], [], ys, rfl, rfl, okD, lD, fun a h => upd_ne fun e => nDh (e ▸ h), upd_same, .nil, Nat.le_refl _, y3, ?_, rfl⟩
      rw [List.drop_zero]; exact hcm
    · rintro i m H2 ⟨rfl, hi', w', vs, acc, rest, rfl, hh, ok', lm, hk, hD, rl, hacc, hgd, hcomp, hys⟩
      by_cases hlt : i < wk.1.length
      · right
        obtain ⟨go, yld⟩ := y1 i w' lm ok' hgd hlt
        refine ⟨go, fun H' => ∃ (w' : Wd) (vs : List V) (acc rest : List Ev.D), w'.H = H' ∧ w'.hid = D :: w1.hid ∧ w'.Ok X.K ∧ w1.Lm w' ∧ (∀ a ∈ w1.hid, w'.H a = w1.H a) ∧ w'.H D = some (.lst vs) ∧ RpL X.K w'.M w'.H acc vs ∧
          acc.length ≤ i + 1 ∧ wk.2 w'.st = true ∧ compM (bindT tg) (fun e s => evQ c ifs e s) (fun e s => evE c elt e s) wk.2 (wk.1.drop (i + 1)) (wipeE own env) w'.st = .ok rest st2 ∧ acc ++ rest = ys, fun H' hN => ⟨wk.1.length - (i + 1), by omega, rfl, hlt, hN⟩, fun x H' hy => ?_⟩
        obtain ⟨ex, d, hd, rd⟩ := yld x H' hy
        rw [List.getElem?_eq_getElem hlt] at hd
        cases hd
        rw [List.drop_eq_getElem_cons hlt] at hcomp
        obtain ⟨env1, hb1, b, st3, hc1, hrest⟩ := compM_ok hcomp
        obtain ⟨okx, lx⟩ := Wd.ext ok' ex
        have Ex1 : EnvR X.K ⟨H', w'.st, w'.adr, w'.hid⟩ (wipeE own env) (L2.wipe σ own) := (Ew.monom lm).mono lx
        refine bind_ok (w := ⟨H', w'.st, w'.adr, w'.hid⟩) hb1 rd hbt Ex1 fun σ2 E2 hl2 hj2 => ⟨?_, ?_⟩
        · rw [← wipe_twice σ own]
          exact wipe_same hl2 fun j hj => hj2 j (tgIn_sub ht j hj)
        · refine ⟨env1, ⟨H', w'.st, w'.adr, w'.hid⟩, rfl, okx, E2, ?_⟩
          rw [hc1]
          intro bb w3 hst3 ok3 l3 hbb
          subst hbb
          have hh3 : w3.hid = D :: w1.hid := l3.hid.trans hh
          have hk3 : ∀ a ∈ w'.hid, w3.H a = w'.H a := fun a h => (l3.hk a h).trans (lx.hk a h)
          have hD3 : w3.H D = some (.lst vs) := (hk3 D (by rw [hh]; exact List.mem_cons_self)).trans hD
          have lm3 : w1.Lm w3 := (lm.trans lx.lm).trans l3.lm
          have rl3 : RpL X.K w3.M w3.H acc vs := (rl.mono lx.lm.keep lx.lm.mt).mono l3.lm.keep l3.lm.mt
          have hkk : ∀ a ∈ w1.hid, w3.H a = w1.H a := fun a h => (hk3 a (by rw [hh]; exact List.mem_cons_of_mem _ h)).trans (hk a h)
          rcases hrest with ⟨rfl, hg3, hc3⟩ | ⟨rfl, y, st4, ys', he4, hg4, hc4, rfl⟩
          · exact ⟨w3, vs, acc, rest, rfl, hh3, ok3, lm3, hkk, hD3, rl3, by omega, by rw [hst3]; exact hg3, by rw [hst3]; exact hc3, hys⟩
          · refine ⟨env1, w3, rfl, ok3, E2.mono l3, ?_⟩
            rw [hst3, he4]
            intro yv w4 hst4 ok4 l4 ry
            have hh4 : w4.hid = D :: w1.hid := l4.hid.trans hh3
            have hD4 : w4.H D = some (.lst vs) := (l4.hk D (by rw [hh3]; exact List.mem_cons_self)).trans hD3
            have rl4 : RpL X.K w4.M w4.H acc vs := rl3.mono l4.lm.keep l4.lm.mt
            have hDh : D ∈ w4.hid := by rw [hh4]; exact List.mem_cons_self
            obtain ⟨ok5, l5⟩ := grow_ok (u := .lst (vs ++ [yv])) ok4 hDh
            refine ⟨vs, hD4, by rw [← rl4.length]; omega, ⟨upd w4.H D (.lst (vs ++ [yv])), w4.st, w4.adr, w4.hid⟩, vs ++ [yv], acc ++ [y], ys', rfl, hh4, ok5, (lm3.trans l4.lm).trans l5, fun a h => ?_, upd_same,
              (rl4.append (.cons ry .nil)).mono l5.keep l5.mt, by rw [List.length_append, List.length_singleton]; omega, by rw [hst4]; exact hg4, by rw [hst4]; exact hc4, by rw [List.append_assoc]; exact hys⟩
            rw [← hkk a h, ← l4.hk a (by rw [hh3]; exact List.mem_cons_of_mem _ h)]
            exact upd_ne fun e => nDh (e ▸ h)
      · left
        have hi2 : i = wk.1.length := by omega
        subst hi2
        refine ⟨y2 w' lm ok' hgd, ?_⟩
        rw [List.drop_length] at hcomp
        simp only [compM] at hcomp
        cases hcomp
        rw [List.append_nil] at hys
        subst hys
        exact close_ok ok' hh lm hk nDh hD rl (by omega) p1
theorem e_comp (C : Ct T c k W sc X) (hcm : T.cm = true) {r : Bool} {own : List Nat} {tg : Tg} {it : Src} {ifs : Op'} {elt : Ex} {e eg ei : Expr} {es : List Expr} {s : Scope} {p : Pos}
    (hb : blkC T.N sc s (ownOf T own) = true) (ht : tgIn own tg = true) (hs : notSet ei = true) (hg : chkG T s tg eg = true) (hi : SI X T W eg ei (evI c it))
    (hq : ∀ X', X'.K = X.K → Ct T c k W0 s X' → PTs X' es (tM X'.K (caT X'.K T) W0 (fun _ a b => a = b) (evQ c ifs))) (he : ∀ X', X'.K = X.K → Ct T c k W0 s X' → SE X' T W0 e (evE c elt)) :
    SE X T W (.ListComp e [⟨eg, ei, es, 0⟩] s p) (evE c (.comp r own tg it ifs elt)) := by
  have ok0 : BlkOk X.N X.env.scope s (ownOf T own) := blk_up C hb
  refine PE.imp (pe_lc (own := ownOf T own) (g := gT X.K tg) (tt := tM X.K (caT X.K T) W0 (fun _ a b => a = b) (evQ c ifs)) (te := tM X.K (caT X.K T) W0 (RV X.K) (evE c elt)) (C.calm hcm) (by rw [C.nm]; exact C.nd) hi ok0 (fun s0 H Ca cl fp => g_of (blk_ct C hcm s0 H Ca cl fp) hg) (fun s0 H Ca cl fp => hq (X.blk s0 H s (compEnvC s cl Ca X.env) fp) rfl (blk_ct C hcm s0 H Ca cl fp)) (fun s0 H Ca cl fp => he (X.blk s0 H s (compEnvC s cl Ca X.env) fp) rfl (blk_ct C hcm s0 H Ca cl fp)) (fold_of hs X.env)) fun σ H Q hq => by rw [own_map]; exact lc_of (tup_tg hg) ht σ H Q hq
end
end Ev

namespace Ev
open PySem PySem.Spec PyProof.Rows L2
section
variable {T : Tb} {sc : Scope} {X : Cx} {c : Calls} {k : Nat} {W : WX}
/-- a thing of the store becomes another -/
theorem set_ok {K : PySem.W.Frag} {w : Wd} (ok : w.Ok K) {i : Nat} {a : Addr} {o0 o : Ob} {u : HO} (h0 : w.st[i]? = some o0) (n0 : o0 ≠ .dead) (ha : w.adr[i]? = some a)
    (nd : o ≠ .dead) (hu : ∀ (M' : Addr → Prop) (H' : Hp), H' a = some u → Kp w.M w.H H' → Mle w.M M' w.H → ObR K M' H' a o) :
    (Wd.mk (upd w.H a u) (w.st.set i o) w.adr w.hid).Ok K ∧ w.Le ⟨upd w.H a u, w.st.set i o, w.adr, w.hid⟩ := by
  have li : i < w.st.length := by
    rcases Nat.lt_or_ge i w.st.length with h | h
    · exact h
    · rw [List.getElem?_eq_none h] at h0; cases h0
  have key : ∀ {j : Nat} {p : Ob}, (w.st.set i o)[j]? = some p → p ≠ .dead → ∃ p', w.st[j]? = some p' ∧ p' ≠ .dead ∧ ((j = i ∧ p = o) ∨ (j ≠ i ∧ p = p')) := fun {j p} h n => by
    by_cases e : i = j
    · subst e
      rw [List.getElem?_set_self li] at h
      cases h
      exact ⟨o0, h0, n0, .inl ⟨rfl, rfl⟩⟩
    · rw [List.getElem?_set_ne e] at h
      exact ⟨p, h, n, .inr ⟨fun q => e q.symm, rfl⟩⟩
  have Ma : w.M a := .inl ⟨i, o0, h0, n0, ha⟩
  have mi : ∀ b, (Wd.mk (upd w.H a u) (w.st.set i o) w.adr w.hid).M b → w.M b := fun b m => by
    rcases m with ⟨j, p, h1, h2, h3⟩ | m
    · obtain ⟨p', h4, h5, _⟩ := key h1 h2
      exact .inl ⟨j, p', h4, h5, h3⟩
    · exact .inr m
  have kp : Kp w.M w.H (upd w.H a u) := fun b o h n => by rw [upd_ne (show b ≠ a from fun e => n (e ▸ Ma))]; exact h
  have ml : Mle w.M (Wd.mk (upd w.H a u) (w.st.set i o) w.adr w.hid).M w.H := fun b _ _ m => mi b m
  have nh : a ∉ w.hid := ok.nohid i a o0 h0 n0 ha
  have hk : ∀ b ∈ w.hid, upd w.H a u b = w.H b := fun b h => upd_ne fun e => nh (e ▸ h)
  refine ⟨⟨by rw [List.length_set]; exact ok.len, fun p q b o1 o2 h1 h2 h3 h4 h5 h6 => ?_, fun j b p h1 h2 => ?_, fun j b p h1 h2 h3 => ?_, fun b h => ?_⟩, ⟨⟨fun _ _ h => h, kp, ml⟩, rfl, hk⟩⟩
  · obtain ⟨p1, g1, g2, _⟩ := key h1 h2
    obtain ⟨p2, g3, g4, _⟩ := key h3 h4
    exact ok.inj p q b p1 p2 g1 g2 g3 g4 h5 h6
  · by_cases hd : p = .dead
    · subst hd; trivial
    · obtain ⟨p', g1, g2, ⟨rfl, rfl⟩ | ⟨g3, rfl⟩⟩ := key h1 hd
      · have eb : b = a := by
          have q1 : w.adr[j]? = some b := h2
          rw [ha] at q1; exact (Option.some.inj q1).symm
        subst eb
        exact hu _ _ upd_same kp ml
      · refine (ok.obj j b p g1 h2).mono kp ml fun v hv => ?_
        show upd w.H a u b = some v
        rw [upd_ne (show b ≠ a from fun e => g3 (ok.inj j i a p o0 g1 hd h0 n0 (e ▸ h2) ha))]
        exact hv
  · obtain ⟨p', g1, g2, _⟩ := key h1 h2
    exact ok.nohid j b p' g1 g2 h3
  · obtain ⟨v, e⟩ := ok.hids b h
    exact ⟨v, (hk b h).trans e⟩
/-- .. a list of the store -/
theorem set_lst {K : PySem.W.Frag} {w : Wd} (ok : w.Ok K) {i : Nat} {a : Addr} {ds ds' : List D} {vs' : List V} (h0 : w.st[i]? = some (.lst ds)) (ha : w.adr[i]? = some a)
    (r : RpL K w.M w.H ds' vs') (z : ds'.length ≤ sizeLine) :
    (Wd.mk (upd w.H a (.lst vs')) (w.st.set i (.lst ds')) w.adr w.hid).Ok K ∧ w.Le ⟨upd w.H a (.lst vs'), w.st.set i (.lst ds'), w.adr, w.hid⟩ :=
  set_ok ok h0 (fun q => nomatch q) ha (fun q => nomatch q) fun M' H' e kp ml => ⟨vs', e, r.mono kp ml, z⟩
theorem ldsO_ok {K : PySem.W.Frag} {w : Wd} (ok : w.Ok K) : ∀ {vas : List Va} {vs : List V} {ds : List D}, RVL K w vas vs → ldsO w.st vas = some ds → ∃ p : List (D × V), p.map (·.1) = ds ∧ p.map (·.2) = vs ∧ ∀ q ∈ p, Sq K w.M w.H q.1 q.2
  | [], _, _, .nil, e => by cases e; exact ⟨[], rfl, rfl, fun _ h => nomatch h⟩
  | va :: r, _, ds, .cons (v := v) h t, e => by
    simp only [ldsO] at e
    cases e1 : ld w.st va with
    | none => rw [e1] at e; cases e
    | some x =>
      cases e2 : ldsO w.st r with
      | none => rw [e1, e2] at e; cases e
      | some xs =>
        rw [e1, e2] at e
        cases e
        obtain ⟨p, h1, h2, h3⟩ := ldsO_ok ok t e2
        refine ⟨(x, v) :: p, by rw [List.map_cons, h1], by rw [List.map_cons, h2], fun q hq => ?_⟩
        rcases List.mem_cons.mp hq with rfl | hq
        · exact ld_ok ok h e1
        · exact h3 q hq
/-- what serves a method -/
structure Srv (X : Cx) (T : Tb) (W : WX) (m : Mt) (r : V → List V → Hp → VK → Prop) (Ty id : String) : Prop where
  pa : PlainAttrs Ty
  slot : Slot Ty (mtN m) id
  hty : typeOf (.builtin id) = pure (.type "method_descriptor")
  run : MtR X id r
  ty : ∀ (w : Wd) (va : Va) (x : V) (d : D), w.Ok X.K → RV X.K w va x → ld w.st va = some d → mtAt m d = true → tyV X.K Ty x w.H
  so : ∀ (w : Wd) (vo : Va) (vs : List Va) (x : V) (xs : List V) (σ : Sl) (Q : VK), w.Ok X.K → RV X.K w vo x → RVL X.K w vs xs → post X.K (caT X.K T) W (RV X.K) w σ Q (mthV m vo vs w.st) → r x xs w.H Q
theorem base_of {o : Expr} (h : baseB o = true) (a : Str) (env : PySem.Env) (z : Sem Value) : attributeBase o a env z = z := by cases o <;> first | rfl | cases h
theorem e_mth0 {m : Mt} {o : Ex} {eo : Expr} {ap p : Pos} {r : V → List V → Hp → VK → Prop} {Ty id : String} (S : Srv X T W m r Ty id) (hl : (ap.endLine == p.line) = true) (hb : baseB eo = true) (ho : SE X T W eo (evE c o)) :
    SE X T W (.Call (.Attribute eo (mtN m) ap) [] [] p) (evE c (.mth m o .nil)) := by
  refine PE.imp (pe_bm0 S.pa S.slot S.hty S.run ho (base_of hb _ _ _) hl) fun σ H Q hq => ?_
  obtain ⟨env, w, rfl, ok, E, q⟩ := hq
  simp only [evE] at q
  refine ⟨env, w, rfl, ok, E, (post.bind (R := RV X.K) q).imp fun x H1 q => ?_⟩
  obtain ⟨va, w1, rfl, ok1, l1, r1, p1⟩ := q
  obtain ⟨d, e1, s1, p1⟩ := ldk_post ok1 r1 p1
  cases hm : mtAt m d with
  | false => simp only [hm, Bool.false_eq_true, if_false, post] at p1
  | true =>
    simp only [hm, if_true, evL, Res.bind] at p1
    exact ⟨S.ty w1 va x d ok1 r1 e1 hm, S.so w1 va [] x [] σ Q ok1 r1 .nil p1⟩
theorem e_mth1 {m : Mt} {o : Ex} {es : Exs} {eo e : Expr} {l : List Expr} {ap p : Pos} {r : V → List V → Hp → VK → Prop} {Ty id : String} (S : Srv X T W m r Ty id) (hl : (ap.endLine == p.line) = true) (hb : baseB eo = true)
    (hst : (e :: l).all notStar = true) (hlen : (e :: l).length < 29) (ho : SE X T W eo (evE c o)) (ha : SA X T W (e :: l) (evL c es)) :
    SE X T W (.Call (.Attribute eo (mtN m) ap) (e :: l) [] p) (evE c (.mth m o es)) := by
  have hs : starEach (e :: l) X.env = (false, eval e X.env) :: starEach l X.env := star_of (by rw [List.all_cons] at hst; exact (ba2 hst).1) l X.env
  have hp : (backTo p (starEach (e :: l) X.env)).any (·.1) = false := back_of hst
  have hp2 : (backTo p (starEach (e :: l) X.env)).all (fun x => !x.1) = true := by
    rw [← List.not_any_eq_all_not, hp]; rfl
  refine PE.imp (pe_bm S.pa S.slot S.hty S.run ho ha (base_of hb _ _ _) (by
    rw [hp2]
    show (true && true && decide _) = true
    simp only [Bool.true_and, decide_eq_true_eq, List.length_nil, List.isEmpty_nil, if_true]
    omega) hl hs (back_of (by rw [List.all_cons] at hst; exact (ba2 hst).2))) fun σ H Q hq => ?_
  obtain ⟨env, w, rfl, ok, E, q⟩ := hq
  simp only [evE] at q
  refine ⟨env, w, rfl, ok, E, (post.bind (R := RV X.K) q).imp fun x H1 q => ?_⟩
  obtain ⟨va, w1, rfl, ok1, l1, r1, p1⟩ := q
  obtain ⟨d, e1, s1, p1⟩ := ldk_post ok1 r1 p1
  cases hm : mtAt m d with
  | false => simp only [hm, Bool.false_eq_true, if_false, post] at p1
  | true =>
    simp only [hm, if_true] at p1
    refine ⟨S.ty w1 va x d ok1 r1 e1 hm, env, w1, rfl, ok1, E.mono l1, (post.bind (R := RVL X.K) p1).imp fun xs H2 q => ?_⟩
    obtain ⟨vs, w2, rfl, ok2, l2, r2, p2⟩ := q
    exact S.so w2 va vs x xs σ Q ok2 (r1.mono l2) r2 p2
theorem ty_list {w : Wd} {va : Va} {x : V} {ds : List D} (ok : w.Ok X.K) (r : RV X.K w va x) (e : ld w.st va = some (.lst ds)) : tyV X.K "list" x w.H := by
  obtain ⟨a, vs, rfl, h, _, _⟩ := ld_ok ok r e
  exact .inl ⟨rfl, vs, h⟩
/-- what a changing method does to a list of the store -/
theorem eff_lst {m : Mt} {w : Wd} {vo : Va} {vs : List Va} {x : V} {σ : Sl} {Q : VK} (hm : isEff m = true) (ok : w.Ok X.K) (rx : RV X.K w vo x) (p : post X.K (caT X.K T) W (RV X.K) w σ Q (mthV m vo vs w.st)) :
    ∃ i a as o o' d, vo = .r i ∧ x = .ref a ∧ w.adr[i]? = some a ∧ asO m vs w.st = some as ∧ w.st[i]? = o ∧ effO m o as = some (o', d) ∧ post X.K (caT X.K T) W (RV X.K) w σ Q (.ok (.d d) (w.st.set i o')) := by
  simp only [mthV, hm, if_true] at p
  cases vo with
  | d _ => exact p.elim
  | e _ => exact p.elim
  | r i =>
    obtain ⟨a, ha, rfl⟩ := rx
    simp only [effV] at p
    cases e1 : asO m vs w.st with
    | none => rw [e1] at p; exact p.elim
    | some as =>
      rw [e1] at p
      simp only [Option.bind] at p
      cases e2 : effO m w.st[i]? as with
      | none => rw [e2] at p; exact p.elim
      | some q => rw [e2] at p; exact ⟨i, a, as, _, q.1, q.2, rfl, rfl, ha, rfl, rfl, e2, p⟩
theorem dsOf_one {K : PySem.W.Frag} {w : Wd} {vs : List Va} {xs : List V} {d : D} (r : RVL K w vs xs) (e : dsOf vs = some [d]) : ∃ y, xs = [y] ∧ Rp K w.M w.H d y := by
  have h := dsOf_ok (M := w.M) r e
  cases h with
  | cons a t => cases t; exact ⟨_, rfl, a⟩
theorem srv_lapp : Srv X T W .lapp rAppend "list" "list.append" where
  pa := F.plainAttrs_list
  slot := F.slot_list_append
  hty := F.type_list_append
  run := mt_append
  ty w va x d ok r e h := by cases d <;> first | (cases h; done) | exact ty_list ok r e
  so w vo vs x xs σ Q ok rx rs p := by
    obtain ⟨i, a, as, o, o', d, rfl, rfl, ha, e1, e2, e3, p⟩ := eff_lst (m := .lapp) rfl ok rx p
    have key : ∃ ds y, o = some (.lst ds) ∧ as = [y] ∧ ds.length < SZ ∧ o' = .lst (ds ++ [y]) ∧ d = .non := by
      unfold effO at e3
      split at e3 <;> first | (cases e3; done) | skip
      all_goals (rename_i h; first | (cases h; done) | skip)
      · split at e3
        · cases e3; exact ⟨_, _, rfl, rfl, by assumption, rfl, rfl⟩
        · cases e3
    obtain ⟨ds, y, rfl, rfl, hz, rfl, rfl⟩ := key
    obtain ⟨v, rfl, rv⟩ := dsOf_one rs e1
    obtain ⟨us, h1, h2, h3⟩ := ok.obj i a _ e2 ha
    have hz' : ds.length < sizeLine := by rw [sizeLine_eq]; exact hz
    obtain ⟨ok', l'⟩ := set_lst ok e2 ha (h2.append (.cons rv .nil)) (by rw [List.length_append, List.length_singleton]; omega)
    exact ⟨a, us, v, rfl, rfl, h1, by rw [← h2.length]; exact hz', p .non _ rfl ok' l' .non⟩
theorem srv_lrev : Srv X T W .lrev rReverse "list" "list.reverse" where
  pa := F.plainAttrs_list
  slot := F.slot_list_reverse
  hty := F.type_list_reverse
  run := mt_reverse
  ty w va x d ok r e h := by cases d <;> first | (cases h; done) | exact ty_list ok r e
  so w vo vs x xs σ Q ok rx rs p := by
    obtain ⟨i, a, as, o, o', d, rfl, rfl, ha, e1, e2, e3, p⟩ := eff_lst (m := .lrev) rfl ok rx p
    have key : ∃ ds, o = some (.lst ds) ∧ as = [] ∧ o' = .lst ds.reverse ∧ d = .non := by
      unfold effO at e3
      split at e3 <;> first | (cases e3; done) | skip
      all_goals (rename_i h; first | (cases h; done) | skip)
      · cases e3; exact ⟨_, rfl, rfl, rfl, rfl⟩
    obtain ⟨ds, rfl, rfl, rfl, rfl⟩ := key
    have hx : xs = [] := by
      have h := dsOf_ok (M := w.M) rs e1
      cases h; rfl
    subst hx
    obtain ⟨us, h1, h2, h3⟩ := ok.obj i a _ e2 ha
    obtain ⟨ok', l'⟩ := set_lst ok e2 ha h2.reverse (by rw [List.length_reverse]; exact h3)
    exact ⟨a, us, rfl, rfl, h1, p .non _ rfl ok' l' .non⟩
theorem srv_lclr : Srv X T W .lclr rClear "list" "list.clear" where
  pa := F.plainAttrs_list
  slot := F.slot_list_clear
  hty := F.type_list_clear
  run := mt_clear
  ty w va x d ok r e h := by cases d <;> first | (cases h; done) | exact ty_list ok r e
  so w vo vs x xs σ Q ok rx rs p := by
    obtain ⟨i, a, as, o, o', d, rfl, rfl, ha, e1, e2, e3, p⟩ := eff_lst (m := .lclr) rfl ok rx p
    have key : ∃ ds, o = some (.lst ds) ∧ as = [] ∧ o' = .lst [] ∧ d = .non := by
      unfold effO at e3
      split at e3 <;> first | (cases e3; done) | skip
      all_goals (rename_i h; first | (cases h; done) | skip)
      · cases e3; exact ⟨_, rfl, rfl, rfl, rfl⟩
    obtain ⟨ds, rfl, rfl, rfl, rfl⟩ := key
    have hx : xs = [] := by
      have h := dsOf_ok (M := w.M) rs e1
      cases h; rfl
    subst hx
    obtain ⟨us, h1, h2, h3⟩ := ok.obj i a _ e2 ha
    obtain ⟨ok', l'⟩ := set_lst (ds' := []) (vs' := []) ok e2 ha .nil (Nat.zero_le _)
    exact ⟨a, us, rfl, rfl, h1, p .non _ rfl ok' l' .non⟩
end
end Ev
namespace Ev
open PySem PySem.Spec PyProof.Rows PySem.AutoSeq1
theorem extend_any (l : Addr) (items : Array Value) (n : Nat) (b : Addr) (items2 : Array Value) (n2 : Nat) (T : String) (hT : T = "list" ∨ T = "tuple") (dd : Option Addr) (sl : Array (Option Value)) (hs0 : ¬(!items.isEmpty && Builtin.List.listTooLong (items.size + items2.size)) = true) (hs1 : items.size ≤ sizeLine) (hs2 : items.size + items2.size ≤ sizeLine + 1) :
    Meets (Builtin.«list.extend» ⟨[.ref l, .ref b], []⟩) (fun _ R s => s.heap.get? l = some { cls := .type "list", dict := none, data := .seq items n, slots := #[] } ∧ s.heap.get? b = some { cls := .type T, dict := dd, data := .seq items2 n2, slots := sl } ∧ R (.ok (.ret Value.none)) { s with heap := s.heap.update l (Obj.mapSeq fun x => x ++ items2), toks := s.toks }) :=
  .of_wp fun prog w A R s h => by
    rcases hT with rfl | rfl
    all_goals (
      obtain ⟨hp, g, d, tk, os⟩ := s; obtain ⟨hl, hb, h⟩ := h; have f1 := AutoSeq1.idx_int; have f2 := AutoSeq1.sub_tuple_tuple; have f3 := AutoSeq1.sub_list_list; have f4 := AutoSeq1.sub_tuple_list; have f5 := AutoSeq1.sub_list_tuple
      have hz' : (items ++ items2).size ≤ sizeLine + 1 := by rw [Array.size_append]; exact hs2
      wp_walk using (wpAny_updateSeq hl rfl (hz := hs1) (_hz' := hz')), wpAny_loadPart' hl, wpAny_loadPart' hb; exact ⟨_, rfl, h⟩)
end Ev
namespace Ev
open PySem PySem.Spec PyProof.Rows L2
section
variable {T : Tb} {sc : Scope} {X : Cx} {c : Calls} {k : Nat} {W : WX}
/-- a list, a tuple behind a list -/
def rExt (K : PySem.W.Frag) : V → List V → Hp → VK → Prop := fun x vs H Q => ∃ l b xs zs, x = .ref l ∧ vs = [.ref b] ∧ H l = some (.lst xs) ∧ (SqL K H b zs ∨ SqT K H b zs) ∧ xs.length + zs.length ≤ sizeLine ∧ Q .non (upd H l (.lst (xs ++ zs)))
theorem mt_ext : MtR X "list.extend" (rExt X.K) := by
  intro pins s σ H x vs v us Q I rx rv h
  obtain ⟨l, b, xs, zs, rfl, rfl, hH, hB, hz, q⟩ := h
  cases rx
  obtain ⟨u, rfl, ru⟩ := rv.one
  cases ru
  obtain ⟨z, its, n, r, hl, e⟩ := I.lstM hH
  have key : ∃ its2 n2 T dd sl, (T = "list" ∨ T = "tuple") ∧ Vals zs its2 ∧ s.heap.get? b = some { cls := .type T, dict := dd, data := .seq its2.toArray n2, slots := sl } := by
    rcases hB with hB | hB
    · obtain ⟨its2, r2, pl, hz2⟩ := I.list hB
      obtain ⟨⟨cl, dd, da, sl⟩, n2, eo, ec, ed, edd⟩ := pl
      simp only at ec ed edd
      subst ec edd
      exact ⟨its2, n2, "list", dd, sl, .inl rfl, r2, eo⟩
    · obtain ⟨its2, r2, ⟨⟨cl, dd, da, sl⟩, eo, ec, n2, ed⟩, hz2⟩ := I.tuple hB
      simp only at ec ed
      subst ec ed
      exact ⟨its2, n2, "tuple", dd, sl, .inr rfl, r2, eo⟩
  obtain ⟨its2, n2, T, dd, sl, hT, r2, e2⟩ := key
  have hl2 := r2.length
  have hsz : its.toArray.size + its2.toArray.size ≤ sizeLine := by rw [List.size_toArray, List.size_toArray]; omega
  have hlong : ¬ (!its.toArray.isEmpty && Builtin.List.listTooLong (its.toArray.size + its2.toArray.size)) = true := by
    rw [notLongL hsz, Bool.and_false]
    exact Bool.false_ne_true
  refine call_meets F.slot_list_extend ⟨_, e, rfl⟩ F.entry_list_extend (F.args_list_extend_2 _ _)
    (extend_any l its.toArray n b its2.toArray n2 T hT dd sl hlong (by rw [List.size_toArray]; omega) (by omega)) ⟨e, e2, ?_⟩
  refine ⟨.non, _, I.lset (its' := its ++ its2) hH e (by simp) (r.append r2) ?_, rfl, q⟩
  rw [List.length_append]
  omega
theorem eff_m {m : Mt} {w : Wd} {vo : Va} {vs : List Va} {x : V} {σ : Sl} {Q : VK} (hm : isEff m = false) (ok : w.Ok X.K) (rx : RV X.K w vo x) (p : post X.K (caT X.K T) W (RV X.K) w σ Q (mthV m vo vs w.st)) :
    ∃ d as z, ld w.st vo = some d ∧ Sq X.K w.M w.H d x ∧ ldsO w.st vs = some as ∧ opMt m d as = some z ∧ post X.K (caT X.K T) W (RV X.K) w σ Q (.ok (.d z) w.st) := by
  simp only [mthV, hm, Bool.false_eq_true, if_false, pureV] at p
  obtain ⟨d, e, s, p⟩ := ldk_post ok rx p
  cases e1 : ldsO w.st vs with
  | none => rw [e1] at p; exact p.elim
  | some as =>
    rw [e1] at p
    simp only [Option.bind] at p
    cases e2 : opMt m d as with
    | none => rw [e2] at p; exact p.elim
    | some z => rw [e2] at p; exact ⟨d, as, z, e, s, rfl, e2, p⟩
theorem lds_one {K : PySem.W.Frag} {w : Wd} (ok : w.Ok K) {vs : List Va} {xs : List V} {d : D} (r : RVL K w vs xs) (e : ldsO w.st vs = some [d]) : ∃ y, xs = [y] ∧ Sq K w.M w.H d y := by
  obtain ⟨p, h1, h2, h3⟩ := ldsO_ok ok r e
  match p, h1 with
  | [q], h1 =>
    have e1 : q.1 = d := by simpa using h1
    exact ⟨q.2, h2.symm, by have := h3 q (List.mem_singleton.mpr rfl); rw [e1] at this; exact this⟩
theorem lds_none {K : PySem.W.Frag} {w : Wd} {vs : List Va} {xs : List V} (ok : w.Ok K) (r : RVL K w vs xs) (e : ldsO w.st vs = some []) : xs = [] := by
  obtain ⟨p, h1, h2, h3⟩ := ldsO_ok ok r e
  have : p = [] := by simpa using h1
  subst this
  exact h2.symm
theorem srv_lext : Srv X T W .lext (rExt X.K) "list" "list.extend" where
  pa := F.plainAttrs_list
  slot := F.slot_list_extend
  hty := F.type_list_extend
  run := mt_ext
  ty w va x d ok r e h := by cases d <;> first | (cases h; done) | exact ty_list ok r e
  so w vo vs x xs σ Q ok rx rs p := by
    obtain ⟨i, a, as, o, o', d, rfl, rfl, ha, e1, e2, e3, p⟩ := eff_lst (m := .lext) rfl ok rx p
    have key : ∃ ds ys, o = some (.lst ds) ∧ (as = [.lst ys] ∨ as = [.tup ys]) ∧ ds.length + ys.length ≤ SZ ∧ o' = .lst (ds ++ ys) ∧ d = .non := by
      unfold effO at e3
      split at e3 <;> first | (cases e3; done) | skip
      all_goals (rename_i h; first | (cases h; done) | skip)
      · split at e3
        · cases e3; exact ⟨_, _, rfl, .inl rfl, by assumption, rfl, rfl⟩
        · cases e3
      · split at e3
        · cases e3; exact ⟨_, _, rfl, .inr rfl, by assumption, rfl, rfl⟩
        · cases e3
    obtain ⟨ds, ys, rfl, has, hz, rfl, rfl⟩ := key
    have hz' : ds.length + ys.length ≤ sizeLine := by rw [sizeLine_eq]; exact hz
    obtain ⟨us, h1, h2, h3⟩ := ok.obj i a _ e2 ha
    have e1 : ldsO w.st vs = some as := e1
    have kb : ∃ b zs, xs = [.ref b] ∧ (SqL X.K w.H b zs ∨ SqT X.K w.H b zs) ∧ RpL X.K w.M w.H ys zs := by
      rcases has with rfl | rfl
      · obtain ⟨y, rfl, sy⟩ := lds_one ok rs e1
        obtain ⟨b, zs, rfl, g1, g2, _⟩ := sy
        exact ⟨b, zs, rfl, .inl g1, g2⟩
      · obtain ⟨y, rfl, sy⟩ := lds_one ok rs e1
        obtain ⟨b, zs, rfl, g1, g2, _⟩ := sy.tup
        exact ⟨b, zs, rfl, .inr g1.sq, g2⟩
    obtain ⟨b, zs, rfl, hb, hr⟩ := kb
    obtain ⟨ok', l'⟩ := set_lst ok e2 ha (h2.append hr) (by rw [List.length_append]; exact hz')
    exact ⟨a, b, us, zs, rfl, rfl, h1, hb, by rw [← h2.length, ← hr.length]; exact hz', p .non _ rfl ok' l' .non⟩
theorem fndL_spec (x : List Nat) : ∀ (y : List Nat) (n : Nat), (fndL x y n = none ∧ ∀ i, i ≤ y.length → (y.drop i).take x.length ≠ x) ∨
    ∃ i, fndL x y n = some (n + i) ∧ i ≤ y.length ∧ (y.drop i).take x.length = x ∧ ∀ k, k < i → (y.drop k).take x.length ≠ x
  | [], n => by
    unfold fndL
    cases x with
    | nil => exact .inr ⟨0, rfl, Nat.le_refl _, rfl, fun k h => absurd h (Nat.not_lt_zero k)⟩
    | cons a x => exact .inl ⟨rfl, fun i _ h => by simp at h⟩
  | c :: t, n => by
    unfold fndL
    have pf : x.isPrefixOf (c :: t) = true ↔ (c :: t).take x.length = x := by
      rw [List.isPrefixOf_iff_prefix]
      constructor
      · rintro ⟨r, hr⟩
        rw [← hr, List.take_left]
      · intro h
        exact ⟨_, by rw [← h]; exact List.take_append_drop _ _⟩
    cases hp : x.isPrefixOf (c :: t) with
    | true => exact .inr ⟨0, by simp, Nat.zero_le _, by rw [List.drop_zero]; exact pf.mp hp, fun k h => absurd h (Nat.not_lt_zero k)⟩
    | false =>
      have np : (c :: t).take x.length ≠ x := fun h => by rw [pf.mpr h] at hp; cases hp
      rw [if_neg Bool.false_ne_true]
      rcases fndL_spec x t (n + 1) with ⟨h1, h2⟩ | ⟨i, h1, h2, h3, h4⟩
      · refine .inl ⟨h1, fun i hi => ?_⟩
        cases i with
        | zero => exact np
        | succ i => exact h2 i (by simpa using hi)
      · refine .inr ⟨i + 1, by rw [h1]; congr 1; omega, by simpa using h2, h3, fun k hk => ?_⟩
        cases k with
        | zero => exact np
        | succ k => exact h4 k (by omega)
theorem at_iff (x y : List Nat) (i : Nat) : StrLaws.At (toS y) (toS x) (toS y).length i ↔ i ≤ y.length ∧ (y.drop i).take x.length = x := by
  unfold StrLaws.At
  rw [StrLaws.subAt_eq, beq_iff_eq, toS_len, toS_len]
  constructor
  · rintro ⟨h1, h2⟩
    exact ⟨by omega, by simpa [toS] using h2⟩
  · rintro ⟨h1, h2⟩
    refine ⟨?_, by simpa [toS] using h2⟩
    have := congrArg List.length h2
    rw [List.length_take, List.length_drop] at this
    omega
theorem occ_fnd (x y : List Nat) : (fndL x y 0 = none ∧ Builtin.Str.occurrences (toS y) (toS x) 0 (toS y).length 1 = []) ∨
    ∃ i r, fndL x y 0 = some i ∧ Builtin.Str.occurrences (toS y) (toS x) 0 (toS y).length 1 = i :: r := by
  rcases StrLaws.occ_head (toS y) (toS x) 1 (Nat.le_refl _) with ⟨h1, h2⟩ | ⟨i, r, h1, h2, h3⟩
  · rcases fndL_spec x y 0 with ⟨g1, g2⟩ | ⟨j, g1, g2, g3, g4⟩
    · exact .inl ⟨g1, h1⟩
    · exact absurd ((at_iff x y j).mpr ⟨g2, g3⟩) (h2 j)
  · rw [at_iff] at h2
    rcases fndL_spec x y 0 with ⟨g1, g2⟩ | ⟨j, g1, g2, g3, g4⟩
    · exact absurd h2.2 (g2 i h2.1)
    · refine .inr ⟨i, r, ?_, h1⟩
      rw [g1]
      congr 1
      rcases Nat.lt_trichotomy i j with h | h | h
      · exact absurd h2.2 (g4 i h)
      · omega
      · exact absurd ((at_iff x y j).mpr ⟨g2, g3⟩) (h3 j h)
theorem ty_str {w : Wd} {va : Va} {x : V} {s : List Nat} (ok : w.Ok X.K) (r : RV X.K w va x) (e : ld w.st va = some (.str s)) : tyV X.K "str" x w.H := by
  obtain ⟨rfl, _⟩ := (ld_ok ok r e).str
  rfl
theorem srv_sidx : Srv X T W .sidx (fun x xs H Q => ∃ a b i rest, x = .str a ∧ xs = [.str b] ∧ Builtin.Str.occurrences a b 0 a.length 1 = i :: rest ∧ Q (.int (i : Nat)) H) "str" "str.index" where
  pa := F.plainAttrs_str
  slot := F.slot_str_index
  hty := F.type_str_index
  run := mt_sindex
  ty w va x d ok r e h := by cases d <;> first | (cases h; done) | exact ty_str ok r e
  so w vo vs x xs σ Q ok rx rs p := by
    obtain ⟨d, as, z, e1, s1, e2, e3, p⟩ := eff_m (m := .sidx) rfl ok rx p
    have key : ∃ s t n, d = .str s ∧ as = [.str t] ∧ fndL t s 0 = some n ∧ z = .int n := by
      unfold opMt at e3
      split at e3 <;> first | (cases e3; done) | skip
      all_goals (rename_i h; first | (cases h; done) | skip)
      obtain ⟨n, h1, h2⟩ := Option.map_eq_some_iff.mp e3
      exact ⟨_, _, n, rfl, rfl, h1, h2.symm⟩
    obtain ⟨s, t, n, rfl, rfl, h1, rfl⟩ := key
    obtain ⟨rfl, _⟩ := s1.str
    obtain ⟨y, rfl, sy⟩ := lds_one ok rs e2
    obtain ⟨rfl, _⟩ := sy.str
    rcases occ_fnd t s with ⟨g1, _⟩ | ⟨i, r, g1, g2⟩
    · rw [h1] at g1; cases g1
    · rw [h1] at g1; cases g1
      exact ⟨_, _, n, r, rfl, rfl, g2, post_data ok p Ext.refl (.int _)⟩
theorem srv_sfnd : Srv X T W .sfnd (fun x xs H Q => ∃ a b, x = .str a ∧ xs = [.str b] ∧ Q (.int (Txt.find a b)) H) "str" "str.find" where
  pa := F.plainAttrs_str
  slot := F.slot_str_find
  hty := F.type_str_find
  run := mt_find
  ty w va x d ok r e h := by cases d <;> first | (cases h; done) | exact ty_str ok r e
  so w vo vs x xs σ Q ok rx rs p := by
    obtain ⟨d, as, z, e1, s1, e2, e3, p⟩ := eff_m (m := .sfnd) rfl ok rx p
    have key : ∃ s t, d = .str s ∧ as = [.str t] ∧ z = .int (fndI (fndL t s 0)) := by
      unfold opMt at e3
      split at e3 <;> first | (cases e3; done) | skip
      all_goals (rename_i h; first | (cases h; done) | skip)
      cases e3
      exact ⟨_, _, rfl, rfl, rfl⟩
    obtain ⟨s, t, rfl, rfl, rfl⟩ := key
    obtain ⟨rfl, _⟩ := s1.str
    obtain ⟨y, rfl, sy⟩ := lds_one ok rs e2
    obtain ⟨rfl, _⟩ := sy.str
    refine ⟨_, _, rfl, rfl, post_data ok p Ext.refl ?_⟩
    have e : Txt.find (toS s) (toS t) = fndI (fndL t s 0) := by
      unfold Txt.find
      rcases occ_fnd t s with ⟨g1, g2⟩ | ⟨i, r, g1, g2⟩
      · rw [g1, g2]; rfl
      · rw [g1, g2]; rfl
    rw [e]
    exact .int _
theorem srv_all {m : Mt} (h : mtB m = true) : ∃ r Ty id, Srv X T W m r Ty id := by
  cases m <;> first | (cases h; done) | exact ⟨_, _, _, srv_lapp⟩ | exact ⟨_, _, _, srv_lrev⟩ | exact ⟨_, _, _, srv_lclr⟩ | exact ⟨_, _, _, srv_lext⟩ | exact ⟨_, _, _, srv_sidx⟩ | exact ⟨_, _, _, srv_sfnd⟩
theorem e_mth (C : Ct T c k W sc X) {m : Mt} {o : Ex} {es : Exs} {eo : Expr} {n : Str} {l : List Expr} {ap p : Pos} (hn : n = mtN m) (hl : (ap.endLine == p.line) = true) (hb : baseB eo = true) (hlen : l.length < 29) (hm : mtB m = true)
    (h : chkL T sc es l = true) (ho : SE X T W eo (evE c o)) (ha : SA X T W l (evL c es)) : SE X T W (.Call (.Attribute eo n ap) l [] p) (evE c (.mth m o es)) := by
  subst hn
  obtain ⟨r, Ty, id, S⟩ := srv_all (X := X) (T := T) (W := W) hm
  cases l with
  | nil =>
    cases es with
    | nil => exact e_mth0 S hl hb ho
    | cons _ _ => cases h
  | cons e l => exact e_mth1 S hl hb (chkL_star h) hlen ho ha
end
end Ev

namespace Ev
open PySem PySem.Spec PyProof.Rows L2
section
variable {T : Tb} {sc : Scope} {X : Cx} {c : Calls} {k : Nat} {W : WX}
theorem kill_ok {K : PySem.W.Frag} {w : Wd} (ok : w.Ok K) {i : Nat} {a : Addr} {o0 : Ob} (h0 : w.st[i]? = some o0) (n0 : o0 ≠ .dead) (ha : w.adr[i]? = some a) :
    (Wd.mk w.H (w.st.set i .dead) w.adr w.hid).Ok K ∧ w.Le ⟨w.H, w.st.set i .dead, w.adr, w.hid⟩ ∧ ¬ (Wd.mk w.H (w.st.set i .dead) w.adr w.hid).M a := by
  have key : ∀ {j : Nat} {o : Ob}, (w.st.set i .dead)[j]? = some o → o ≠ .dead → w.st[j]? = some o ∧ j ≠ i := fun {j o} h n => by
    by_cases e : i = j
    · subst e
      by_cases hl : i < w.st.length
      · rw [List.getElem?_set_self hl] at h; cases h; exact absurd rfl n
      · rw [List.getElem?_eq_none (by rw [List.length_set]; omega)] at h; cases h
    · rw [List.getElem?_set_ne e] at h
      exact ⟨h, fun q => e q.symm⟩
  have mi : ∀ b, (Wd.mk w.H (w.st.set i .dead) w.adr w.hid).M b → w.M b := fun b m => by
    rcases m with ⟨j, o, h1, h2, h3⟩ | m
    · exact .inl ⟨j, o, (key h1 h2).1, h2, h3⟩
    · exact .inr m
  refine ⟨⟨by rw [List.length_set]; exact ok.len, fun p q b o o' h1 h2 h3 h4 h5 h6 => ok.inj p q b o o' (key h1 h2).1 h2 (key h3 h4).1 h4 h5 h6, fun j b o h1 h2 => ?_, fun j b o h1 h2 h3 => ok.nohid j b o (key h1 h2).1 h2 h3, ok.hids⟩,
    ⟨⟨fun _ _ h => h, Ext.refl.kp, fun b _ _ m => mi b m⟩, rfl, fun _ _ => rfl⟩, ?_⟩
  · by_cases hd : o = .dead
    · subst hd; trivial
    · exact (ok.obj j b o (key h1 hd).1 h2).mono (M := w.M) Ext.refl.kp (fun b _ _ m => mi b m) fun _ h => h
  · rintro (⟨j, o, h1, h2, h3⟩ | m)
    · exact (key h1 h2).2 (ok.inj j i a o o0 (key h1 h2).1 h2 h0 n0 h3 ha)
    · exact ok.nohid i a o0 h0 n0 ha m
theorem e_fz (C : Ct T c k W sc X) {a : Ex} {e : Expr} (ha : SE X T W e (evE c a)) : SE X T W e (evE c (.fz a)) := by
  refine PE.imp ha fun σ H Q hq => ?_
  obtain ⟨env, w, rfl, ok, E, q⟩ := hq
  simp only [evE] at q
  refine ⟨env, w, rfl, ok, E, (post.bind (R := RV X.K) q).imp fun x H1 q => ?_⟩
  obtain ⟨va, w1, rfl, ok1, l1, r1, p1⟩ := q
  cases va with
  | d d => exact p1 x w1 rfl ok1 Wd.Le.refl r1
  | e c => exact p1 x w1 rfl ok1 Wd.Le.refl r1
  | r i =>
    simp only [fzV] at p1
    obtain ⟨b, hb, rfl⟩ := r1
    cases h0 : w1.st[i]? with
    | none => rw [h0] at p1; exact p1.elim
    | some o =>
      rw [h0] at p1
      have ob := ok1.obj i b o h0 hb
      cases o with
      | dead => exact p1.elim
      | lst ds =>
        obtain ⟨ok2, l2, n2⟩ := kill_ok ok1 h0 (fun q => nomatch q) hb
        obtain ⟨vs, h1, h2, z⟩ := ob
        exact p1 (.ref b) ⟨w1.H, w1.st.set i .dead, w1.adr, w1.hid⟩ rfl ok2 l2 (.lst (.inl ⟨.inl h1, n2⟩) (h2.mono l2.lm.keep l2.lm.mt) z)
      | dct ks vs =>
        obtain ⟨ok2, l2, n2⟩ := kill_ok ok1 h0 (fun q => nomatch q) hb
        obtain ⟨kvs, h1, h2, h3, z⟩ := ob
        exact p1 (.ref b) ⟨w1.H, w1.st.set i .dead, w1.adr, w1.hid⟩ rfl ok2 l2 (.dct h1 n2 h2 (h3.mono l2.lm.keep l2.lm.mt) z)
/-- a test, and the same within and, or -/
def isBo : Expr → Bool
  | .BoolOp .. => true
  | _ => false
end
mutual
theorem sE {T : Tb} {c : Calls} {k : Nat} : ∀ (E : Ex) {sc : Scope} {X : Cx} {W : WX} (e : Expr), Ct T c k W sc X → chkE T sc E e = true → SE X T W e (evE c E)
  | .var i, sc, X, W, e, C, h => by
    cases e with
    | Name x p => exact e_var C h
    | _ => cases h
  | .gl i d, sc, X, W, e, C, h => by
    cases e with
    | Name x p => exact e_gl C h
    | _ => cases h
  | .non, sc, X, W, e, C, h => by
    cases e with
    | Constant v j p =>
      cases v with
      | none => exact PE.imp (e_const C pe_non (fun _ _ => .non)) fun σ H Q hq => by simpa only [evE] using hq
      | _ => cases h
    | _ => cases h
  | .bl b, sc, X, W, e, C, h => by
    cases e with
    | Constant v j p =>
      cases v with
      | bool b' =>
        have e1 : b = b' := eq_of_beq (show (b == b') = true from h)
        subst e1
        exact PE.imp (e_const C pe_bl (fun _ _ => .bl b)) fun σ H Q hq => by simpa only [evE] using hq
      | _ => cases h
    | _ => cases h
  | .int i, sc, X, W, e, C, h => by
    cases e with
    | Constant v j p =>
      cases v with
      | int i' =>
        have e1 : i = i' := of_decide_eq_true (show decide (i = i') = true from h)
        subst e1
        exact PE.imp (e_const C pe_int (fun _ _ => .int i)) fun σ H Q hq => by simpa only [evE] using hq
      | _ => cases h
    | _ => cases h
  | .str s, sc, X, W, e, C, h => by
    cases e with
    | Constant v j p =>
      cases v with
      | str x =>
        obtain ⟨h1, h2⟩ := ba2 (show (decide (x = toS s) && decide (s.length ≤ SZ)) = true from h)
        obtain rfl := of_decide_eq_true h1
        have hz := of_decide_eq_true h2
        rw [SZ_eq] at hz
        exact PE.imp (e_const C pe_str (fun _ _ => .str s hz)) fun σ H Q hq => by simpa only [evE] using hq
      | _ => cases h
    | _ => cases h
  | .bin o a b, sc, X, W, e, C, h => by
    cases e with
    | BinOp ea op eb p =>
      obtain ⟨h1, h2⟩ := ba2 (show (bopB o op && (chkE T sc a ea && chkE T sc b eb)) = true from h)
      obtain ⟨h3, h4⟩ := ba2 h2
      exact e_bin C h1 (sE a ea C h3) (sE b eb C h4)
    | _ => cases h
  | .neg a, sc, X, W, e, C, h => by
    cases e with
    | UnaryOp op ea p =>
      cases op with
      | USub => exact e_neg C (sE a ea C h)
      | _ => cases h
    | _ => cases h
  | .not a, sc, X, W, e, C, h => by
    cases e with
    | UnaryOp op ea p =>
      cases op with
      | Not => exact e_not C (sE a ea C h)
      | _ => cases h
    | _ => cases h
  | .cmp o a b, sc, X, W, e, C, h => by
    cases e with
    | Compare ea ops es p =>
      match ops, es, h with
      | [op], [eb], h =>
        obtain ⟨h1, h2⟩ := ba2 (show (copB o op && notSet eb && (chkE T sc a ea && chkE T sc b eb)) = true from h)
        obtain ⟨h3, h4⟩ := ba2 h1
        obtain ⟨h5, h6⟩ := ba2 h2
        exact e_cmp C h3 h4 (sE a ea C h5) (sE b eb C h6)
    | _ => cases h
  | .cmp2 o o2 a b d, sc, X, W, e, C, h => by
    cases e with
    | Compare ea ops es p =>
      match ops, es, h with
      | [op, op'], [eb, ed], h =>
        obtain ⟨h1, h2⟩ := ba2 (show (copB o op && copB o2 op' && notSet ed && (chkE T sc a ea && (chkE T sc b eb && chkE T sc d ed))) = true from h)
        obtain ⟨h3, h4⟩ := ba2 h1
        obtain ⟨h7, h8⟩ := ba2 h3
        obtain ⟨h5, h6⟩ := ba2 h2
        obtain ⟨h9, h10⟩ := ba2 h6
        exact e_cmp2 C h7 h8 h4 (sE a ea C h5) (sE b eb C h9) (sE d ed C h10)
    | _ => cases h
  | .cmp3 o o2 o3 a b d f, sc, X, W, e, C, h => by
    cases e with
    | Compare ea ops es p =>
      match ops, es, h with
      | [op, op', op2], [eb, ed, ef], h =>
        obtain ⟨h1, h2⟩ := ba2 (show (copB o op && copB o2 op' && copB o3 op2 && notSet ef && (chkE T sc a ea && (chkE T sc b eb && (chkE T sc d ed && chkE T sc f ef)))) = true from h)
        obtain ⟨h3, h4⟩ := ba2 h1
        obtain ⟨h5, h6⟩ := ba2 h3
        obtain ⟨h7, h8⟩ := ba2 h5
        obtain ⟨g1, g2⟩ := ba2 h2
        obtain ⟨g3, g4⟩ := ba2 g2
        obtain ⟨g5, g6⟩ := ba2 g4
        exact e_cmp3 C h7 h8 h6 h4 (sE a ea C g1) (sE b eb C g3) (sE d ed C g5) (sE f ef C g6)
    | _ => cases h
  | .and a b, sc, X, W, e, C, h => by
    cases e with
    | BoolOp op es p =>
      match op, es, h with
      | .And, [e1, e2], h =>
        obtain ⟨h1, h2⟩ := ba2 (show (chkE T sc a e1 && chkE T sc b e2) = true from h)
        exact e_and C (sE a e1 C h1) (pe_one (sE b e2 C h2))
      | .And, e1 :: e2 :: e3 :: r, h =>
        obtain ⟨h1, h2⟩ := ba2 (show (chkE T sc a e1 && chkE T sc b (.BoolOp .And (e2 :: e3 :: r) p)) = true from h)
        exact e_and C (sE a e1 C h1) (sE b _ C h2)
    | _ => cases h
  | .or a b, sc, X, W, e, C, h => by
    cases e with
    | BoolOp op es p =>
      match op, es, h with
      | .Or, [e1, e2], h =>
        obtain ⟨h1, h2⟩ := ba2 (show (chkE T sc a e1 && chkE T sc b e2) = true from h)
        exact e_or C (sE a e1 C h1) (pe_one (sE b e2 C h2))
      | .Or, e1 :: e2 :: e3 :: r, h =>
        obtain ⟨h1, h2⟩ := ba2 (show (chkE T sc a e1 && chkE T sc b (.BoolOp .Or (e2 :: e3 :: r) p)) = true from h)
        exact e_or C (sE a e1 C h1) (sE b _ C h2)
    | _ => cases h
  | .ife t a b, sc, X, W, e, C, h => by
    cases e with
    | IfExp et ea eb p =>
      obtain ⟨h1, h2⟩ := ba2 (show (chkT T sc t et && (chkE T sc a ea && chkE T sc b eb)) = true from h)
      obtain ⟨h3, h4⟩ := ba2 h2
      exact e_ife C (sT t et C h1).1 (sE a ea C h3) (sE b eb C h4)
    | _ => cases h
  | .tup es, sc, X, W, e, C, h => by
    cases e with
    | Tuple l j p =>
      obtain ⟨h1, h2⟩ := ba2 (show (decide (l.length ≤ SZ) && chkL T sc es l) = true from h)
      exact e_tup C (of_decide_eq_true h1) h2 (sL es l C h2)
    | _ => cases h
  | .lst r es, sc, X, W, e, C, h => by
    cases e with
    | List l p =>
      obtain ⟨h1, h2⟩ := ba2 (show (decide (l.length ≤ SZ) && chkL T sc es l) = true from h)
      exact e_lst C (of_decide_eq_true h1) h2 (sL es l C h2)
    | _ => cases h
  | .idx a b, sc, X, W, e, C, h => by
    cases e with
    | Subscript ea eb p =>
      have h : (notSlice eb && (chkE T sc a ea && chkE T sc b eb)) = true := by
        cases eb <;> first | exact h | (rename_i l u st p2; cases st <;> exact h)
      obtain ⟨h1, h2⟩ := ba2 h
      obtain ⟨h3, h4⟩ := ba2 h2
      exact e_idx C h1 (sE a ea C h3) (sE b eb C h4)
    | _ => cases h
  | .slc a lo hi, sc, X, W, e, C, h => by
    cases e with
    | Subscript ea eb p =>
      cases eb with
      | Slice l u st p2 =>
        cases st with
        | none =>
          obtain ⟨h1, h2⟩ := ba2 (show (chkE T sc a ea && (chkO T sc lo l && chkO T sc hi u)) = true from h)
          obtain ⟨h3, h4⟩ := ba2 h2
          exact e_slc C (sE a ea C h1) (sO lo l C h3) (sO hi u C h4)
        | some _ => cases h
      | _ => cases h
    | _ => cases h
  | .b1 f r a, sc, X, W, e, C, h => by
    cases e with
    | Call fe l kws p =>
      match fe, l, kws, h with
      | .Name x p1, [e1], [], h =>
        obtain ⟨h1, h2⟩ := ba2 (show (b1Ok f && (T.cm || !b1C f) && (!r || b1L f) && bltB T sc x (b1N f) && notStar e1 && chkE T sc a e1) = true from h)
        obtain ⟨h3, h4⟩ := ba2 h1
        obtain ⟨h5, h6⟩ := ba2 h3
        obtain ⟨h7, h8⟩ := ba2 h5
        obtain ⟨h9, h10⟩ := ba2 h7
        exact e_b1 C h9 h10 h8 h6 h4 (sE a e1 C h2)
    | _ => cases h
  | .b2 f a b, sc, X, W, e, C, h => by
    cases e with
    | Call fe l kws p =>
      match fe, l, kws, h with
      | .Name x p1, [e1, e2], [], h =>
        obtain ⟨h1, h2⟩ := ba2 (show (T.cm && bltB T sc x (b2N f) && notStar e1 && notStar e2 && (chkE T sc a e1 && chkE T sc b e2)) = true from h)
        obtain ⟨h3, h4⟩ := ba2 h1
        obtain ⟨h5', h6⟩ := ba2 h3
        obtain ⟨hcm, h5⟩ := ba2 h5'
        obtain ⟨h7, h8⟩ := ba2 h2
        exact e_b2 C hcm h5 h6 h4 (sE a e1 C h7) (sE b e2 C h8)
    | _ => cases h
  | .isi a t, sc, X, W, e, C, h => by
    cases e with
    | Call fe l kws p =>
      match fe, l, kws, h with
      | .Name x p1, [e1, .Name y p2], [], h =>
        obtain ⟨h1, h2⟩ := ba2 (show (bltB T sc x "isinstance" && bltB T sc y (tyS t) && notStar e1 && chkE T sc a e1) = true from h)
        obtain ⟨h3, h4⟩ := ba2 h1
        obtain ⟨h5, h6⟩ := ba2 h3
        exact e_isi C h5 h6 h4 (sE a e1 C h2)
    | _ => cases h
  | .lenset a, sc, X, W, e, C, h => by cases e <;> cases h
  | .call f es, sc, X, W, e, C, h => by
    cases e with
    | Call fe l kws p =>
      match fe, kws, h with
      | .Name x p1, [], h =>
        obtain ⟨h1, h2⟩ := ba2 (show (T.cm && gloB sc x && okName x && fnB x l.length T.fns[f]? && decide (l ≠ []) && chkL T sc es l) = true from h)
        obtain ⟨h3, h4⟩ := ba2 h1
        obtain ⟨h5, h6⟩ := ba2 h3
        obtain ⟨h7', h8⟩ := ba2 h5
        obtain ⟨hcm, h7⟩ := ba2 h7'
        cases e1 : T.fns[f]? with
        | none => rw [e1] at h6; cases h6
        | some q =>
          obtain ⟨y, n⟩ := q
          rw [e1] at h6
          obtain ⟨h9, h10⟩ := ba2 h6
          obtain rfl := of_decide_eq_true h9
          exact e_call C hcm h7 h8 e1 (of_decide_eq_true h10) (of_decide_eq_true h4) h2 (sL es l C h2)
    | _ => cases h
  | .comp r own tg it ifs elt, sc, X, W, e, C, h => by
    cases e with
    | ListComp e1 gs s p =>
      match gs, h with
      | [⟨eg, ei, es, k'⟩], h =>
        obtain ⟨h1, h2⟩ := ba2 (show (T.cm && decide (k' = 0) && blkC T.N sc s (ownOf T own) && tgIn own tg && decide (own.all (fun i => decide (i < T.N.length))) && notSet ei && (chkG T s tg eg && (chkI T sc it eg ei && (chkQ T s ifs es && chkE T s elt e1)))) = true from h)
        obtain ⟨h3, h4⟩ := ba2 h1
        obtain ⟨h5, h6⟩ := ba2 h3
        obtain ⟨h7, h8⟩ := ba2 h5
        obtain ⟨h9', h10⟩ := ba2 h7
        obtain ⟨hcm, h9⟩ := ba2 h9'
        obtain ⟨g1, g2⟩ := ba2 h2
        obtain ⟨g3, g4⟩ := ba2 g2
        obtain ⟨g5, g6⟩ := ba2 g4
        obtain rfl := of_decide_eq_true h9
        exact e_comp C hcm h10 h8 h4 g1 (sI it eg ei C g3) (fun X' _ C' => sQ ifs es C' g5) fun X' _ C' => sE elt e1 C' g6
    | _ => cases h
  | .mth m o es, sc, X, W, e, C, h => by
    cases e with
    | Call fe l kws p =>
      match fe, kws, h with
      | .Attribute oe name ap, [], h =>
        obtain ⟨h1, h2⟩ := ba2 (show (decide (name = mtN m) && (ap.endLine == p.line) && baseB oe && decide (l.length < 29) && mtB m && (chkE T sc o oe && chkL T sc es l)) = true from h)
        obtain ⟨h3, h4⟩ := ba2 h1
        obtain ⟨h5, h6⟩ := ba2 h3
        obtain ⟨h7, h8⟩ := ba2 h5
        obtain ⟨h9, h10⟩ := ba2 h7
        obtain ⟨g1, g2⟩ := ba2 h2
        exact e_mth C (of_decide_eq_true h9) h10 h8 (of_decide_eq_true h6) h4 g2 (sE o oe C g1) (sL es l C g2)
    | _ => cases h
  | .isE i row, sc, X, W, e, C, h => by
    cases e with
    | Call fe l kws p =>
      match fe, l, kws, h with
      | .Name x p1, [.Name z p3, .Name y p2], [], h =>
        obtain ⟨h1, h2⟩ := ba2 (show (!T.cm && bltB T sc x "isinstance" && nameB T sc i z && T.ex.contains (y, row) && decide (row.length = T.cls.length) && okName y && gloB sc y) = true from h)
        obtain ⟨h3, h4⟩ := ba2 h1
        obtain ⟨h5, h6⟩ := ba2 h3
        obtain ⟨h7, h8⟩ := ba2 h5
        obtain ⟨h9, h10⟩ := ba2 h7
        obtain ⟨h11, h12⟩ := ba2 h9
        exact e_isE C (by simpa using h11) h12 h10 (by simpa using h8) (of_decide_eq_true h6) h4 h2
    | _ => cases h
  | .fz a, sc, X, W, e, C, h => e_fz C (sE a e C (by cases e <;> exact h))
theorem sL {T : Tb} {c : Calls} {k : Nat} : ∀ (es : Exs) {sc : Scope} {X : Cx} {W : WX} (l : List Expr), Ct T c k W sc X → chkL T sc es l = true → SA X T W l (evL c es)
  | .nil, sc, X, W, l, C, h => by
    cases l with
    | nil => exact a_nil C
    | cons _ _ => cases h
  | .cons a r, sc, X, W, l, C, h => by
    cases l with
    | nil => cases h
    | cons e l =>
      obtain ⟨h1, h2⟩ := ba2 (show (notStar e && (chkE T sc a e && chkL T sc r l)) = true from h)
      obtain ⟨h3, h4⟩ := ba2 h2
      exact a_cons C h1 (sE a e C h3) (sL r l C h4)
theorem sO {T : Tb} {c : Calls} {k : Nat} : ∀ (o : Op) {sc : Scope} {X : Cx} {W : WX} (e : Option Expr), Ct T c k W sc X → chkO T sc o e = true → SO X T W e (evO c o)
  | .none, sc, X, W, e, C, h => by
    cases e with
    | none => exact o_none C
    | some _ => cases h
  | .some a, sc, X, W, e, C, h => by
    cases e with
    | none => cases h
    | some e => exact o_some C (sE a e C h)
theorem sQ {T : Tb} {c : Calls} {k : Nat} : ∀ (o : Op') {sc : Scope} {X : Cx} {W : WX} (es : List Expr), Ct T c k W sc X → chkQ T sc o es = true → PTs X es (tM X.K (caT X.K T) W (fun _ a b => a = b) (evQ c o))
  | .none, sc, X, W, es, C, h => by
    cases es with
    | nil => exact q_none C
    | cons _ _ => cases h
  | .some t, sc, X, W, es, C, h => by
    match es, h with
    | [e], h => exact q_some C (sT t e C h).1
theorem sT {T : Tb} {c : Calls} {k : Nat} : ∀ (t : Te) {sc : Scope} {X : Cx} {W : WX} (e : Expr), Ct T c k W sc X → chkT T sc t e = true → ST X T W e (evT c t) ∧ (isBo e = true → SW X T W e (evT c t))
  | .tr a, sc, X, W, e, C, h => by
    obtain ⟨h1, h2⟩ := ba2 (show (plainT e && chkE T sc a e) = true from h)
    exact ⟨t_tr C h1 (sE a e C h2), fun hb => by cases e <;> first | (cases hb; done) | (cases h1)⟩
  | .cmp o a b, sc, X, W, e, C, h => by
    cases e with
    | Compare ea ops es p =>
      match ops, es, h with
      | [op], [eb], h =>
        obtain ⟨h1, h2⟩ := ba2 (show (copB o op && notSet eb && (chkE T sc a ea && chkE T sc b eb)) = true from h)
        obtain ⟨h3, h4⟩ := ba2 h1
        obtain ⟨h5, h6⟩ := ba2 h2
        exact ⟨t_cmp C h3 h4 (sE a ea C h5) (sE b eb C h6), fun hb => by cases hb⟩
    | _ => cases h
  | .cmp2 o o2 a b d, sc, X, W, e, C, h => by
    cases e with
    | Compare ea ops es p =>
      match ops, es, h with
      | [op, op'], [eb, ed], h =>
        obtain ⟨h1, h2⟩ := ba2 (show (copB o op && copB o2 op' && notSet ed && (chkE T sc a ea && (chkE T sc b eb && chkE T sc d ed))) = true from h)
        obtain ⟨h3, h4⟩ := ba2 h1
        obtain ⟨h7, h8⟩ := ba2 h3
        obtain ⟨h5, h6⟩ := ba2 h2
        obtain ⟨h9, h10⟩ := ba2 h6
        exact ⟨t_cmp2 C h7 h8 h4 (sE a ea C h5) (sE b eb C h9) (sE d ed C h10), fun hb => by cases hb⟩
    | _ => cases h
  | .not t, sc, X, W, e, C, h => by
    cases e with
    | UnaryOp op ea p =>
      cases op with
      | Not => exact ⟨t_not C (sT t ea C h).1, fun hb => by cases hb⟩
      | _ => cases h
    | _ => cases h
  | .and a b, sc, X, W, e, C, h => by
    cases e with
    | BoolOp op es p =>
      match op, es, h with
      | .And, [e1, e2], h =>
        obtain ⟨h1, h2⟩ := ba2 (show (chkT T sc a e1 && chkT T sc b e2) = true from h)
        have key : SW X T W (.BoolOp .And [e1, e2] p) (evT c (.and a b)) := w_and C (sT a e1 C h1).1 (pw_and1 (sT b e2 C h2).1)
        exact ⟨key.pt, fun _ => key⟩
      | .And, e1 :: e2 :: e3 :: r, h =>
        obtain ⟨h1, h2⟩ := ba2 (show (chkT T sc a e1 && chkT T sc b (.BoolOp .And (e2 :: e3 :: r) p)) = true from h)
        have key : SW X T W (.BoolOp .And (e1 :: e2 :: e3 :: r) p) (evT c (.and a b)) := w_and C (sT a e1 C h1).1 ((sT b _ C h2).2 rfl)
        exact ⟨key.pt, fun _ => key⟩
    | _ => cases h
  | .or a b, sc, X, W, e, C, h => by
    cases e with
    | BoolOp op es p =>
      match op, es, h with
      | .Or, [e1, e2], h =>
        obtain ⟨h1, h2⟩ := ba2 (show (chkT T sc a e1 && chkT T sc b e2) = true from h)
        have key : SW X T W (.BoolOp .Or [e1, e2] p) (evT c (.or a b)) := w_or C (sT a e1 C h1).1 (pw_or1 (sT b e2 C h2).1)
        exact ⟨key.pt, fun _ => key⟩
      | .Or, e1 :: e2 :: e3 :: r, h =>
        obtain ⟨h1, h2⟩ := ba2 (show (chkT T sc a e1 && chkT T sc b (.BoolOp .Or (e2 :: e3 :: r) p)) = true from h)
        have key : SW X T W (.BoolOp .Or (e1 :: e2 :: e3 :: r) p) (evT c (.or a b)) := w_or C (sT a e1 C h1).1 ((sT b _ C h2).2 rfl)
        exact ⟨key.pt, fun _ => key⟩
    | _ => cases h
theorem sI {T : Tb} {c : Calls} {k : Nat} : ∀ (s : Src) {sc : Scope} {X : Cx} {W : WX} (tg e : Expr), Ct T c k W sc X → chkI T sc s tg e = true → SI X T W tg e (evI c s)
  | .e a, sc, X, W, tg, e, C, h => by
    have h' : chkE T sc a e = true := (ba2 (show (srcB T e && chkE T sc a e) = true from h)).2
    exact i_e C (sE a e C h')
  | .rng es, sc, X, W, tg, e, C, h => by
    cases e with
    | Call fe l kws p =>
      match fe, kws, h with
      | .Name x p1, [], h =>
        obtain ⟨h1, h2⟩ := ba2 (show (bltB T sc x "range" && decide (l.length = 1 ∨ l.length = 2 ∨ l.length = 3) && chkL T sc es l) = true from h)
        obtain ⟨h3, h4⟩ := ba2 h1
        have ha := sL es l C h2
        rcases of_decide_eq_true h4 with h4 | h4 | h4
        · exact i_rng C h3 (.inl h4) h2 ha
        · exact i_rng C h3 (.inr h4) h2 ha
        · match l, h4 with
          | [e1, e2, e3], _ => exact i_rng3 C h3 h2 ha
    | _ => cases h
  | .enu a, sc, X, W, tg, e, C, h => by
    cases tg with
    | Tuple ts kk pt =>
      cases e with
      | Call fe l kws p =>
        match fe, l, kws, h with
        | .Name x p1, [e1], [], h =>
          obtain ⟨h1, h2⟩ := ba2 (show (bltB T sc x "enumerate" && notStar e1 && chkE T sc a e1) = true from h)
          obtain ⟨h3, h4⟩ := ba2 h1
          exact i_enu C h3 h4 (sE a e1 C h2)
      | _ => cases h
    | _ => cases h
  | .zip a b, sc, X, W, tg, e, C, h => by
    cases tg with
    | Tuple ts kk pt =>
      cases e with
      | Call fe l kws p =>
        match fe, l, kws, h with
        | .Name x p1, [e1, e2], [], h =>
          obtain ⟨h1, h2⟩ := ba2 (show (bltB T sc x "zip" && notStar e1 && notStar e2 && (chkE T sc a e1 && chkE T sc b e2)) = true from h)
          obtain ⟨h3, h4⟩ := ba2 h1
          obtain ⟨h5, h6⟩ := ba2 h3
          obtain ⟨h7, h8⟩ := ba2 h2
          exact i_zip C h5 h6 h4 (sE a e1 C h7) (sE b e2 C h8)
      | _ => cases h
    | _ => cases h
  | .rev a, sc, X, W, tg, e, C, h => by
    cases e with
    | Call fe l kws p =>
      match fe, l, kws, h with
      | .Name x p1, [e1], [], h =>
        obtain ⟨h1, h2⟩ := ba2 (show (bltB T sc x "reversed" && notStar e1 && chkE T sc a e1) = true from h)
        obtain ⟨h3, h4⟩ := ba2 h1
        exact i_rev C h3 h4 (sE a e1 C h2)
    | _ => cases h
end
end Ev

namespace Ev
open PySem PySem.Spec PyProof.Rows L2
inductive SRes where
  | nx (env : Env) (st : Store) | rt (va : Va) (st : Store) | er (c : Nat) (env : Env) (st : Store) | no
def SRes.bind (r : SRes) (k : Env → Store → SRes) : SRes := match r with
  | .nx env st => k env st
  | .rt va st => .rt va st
  | .er c env st => .er c env st
  | .no => .no
def Res.bindS {α : Type} (r : Res α) (env : Env) (k : α → Store → SRes) : SRes := match r with
  | .ok a st => k a st
  | .er c st => .er c env st
  | .no => .no
mutual
inductive Stm where
  | asg (tg : Tg) (e : Ex) | par (is : List Nat) (es : Exs) | put (o i e : Ex) | exp (e : Ex)
  | ret (e : Ex) | retN | ite (t : Te) (a b : Stms) | for_ (tg : Tg) (it : Src) (b : Stms) | whl (t : Te) (b : Stms)
  | rse (c : Nat) | pas | try_ (b : Stms) (hs : Hds) (o : Stms)
inductive Stms where
  | nil | cons (s : Stm) (r : Stms)
inductive Hds where
  | nil | cons (row : List Bool) (nm : Option Nat) (b : Stms) (r : Hds) | rse (row : List Bool) (n : Nat) (r : Hds)
end
def SRes.tr (r : SRes) (kn : Env → Store → SRes) (ke : Nat → Env → Store → SRes) : SRes := match r with
  | .nx env st => kn env st
  | .rt va st => .rt va st
  | .er n env st => ke n env st
  | .no => .no
/-- an except suite raises nothing -/
def noEr : SRes → SRes
  | .er _ _ _ => .no
  | r => r
/-- .. and its name goes -/
def unS (i : Nat) : SRes → SRes
  | .nx env st => .nx (env.set i none) st
  | .rt va st => .rt va st
  | _ => .no
/-- wherever the error stands -/
noncomputable def exq (f : Nat → SRes) : SRes := open Classical in if ∀ a, f a = f 0 then f 0 else .no
/-- in an except suite c tells the error that is handled -/
def cE (a n : Nat) : Calls := fun _ _ st => .ok (.d (.tup [.int a, .int n])) st
def c0 : Calls := fun _ _ _ => .no
def setT (tg : Tg) (va : Va) (env : Env) : Option Env := match tg with
  | .v i => some (env.set i (some va))
  | .t is => match va with
    | .d d => bindT (.t is) d env
    | _ => none
def setM (tg : Tg) (va : Va) (env : Env) (st : Store) : SRes := match setT tg va env with
  | some env1 => .nx env1 st
  | none => .no
def setsM : List Nat → List Va → Env → Option Env
  | [], [], env => some env
  | i :: is, v :: vs, env => setsM is vs (env.set i (some v))
  | _, _, _ => none
def parM (is : List Nat) (vs : List Va) (env : Env) (st : Store) : SRes := match setsM is vs env with
  | some env1 => .nx env1 st
  | none => .no
def putO (o : Option Ob) (i x : D) : Option Ob := match o with
  | some (.lst ds) => match i with
    | .int j => (ixAt ds.length j).map fun n => .lst (ds.set n x)
    | _ => none
  | _ => none
def putR (i : Nat) (o : Option Ob) (env : Env) (st : Store) : SRes := match o with
  | some o => .nx env (st.set i o)
  | none => .no
def putM (vo vi vx : Va) (env : Env) (st : Store) : SRes := match vo, vi, vx with
  | .r i, .d y, .d x => putR i (putO st[i]? y x) env st
  | _, _, _ => .no
def forM (bd : D → Env → Option Env) (body : Env → Store → SRes) (gd : Store → Bool) : List D → Env → Store → SRes
  | [], env, st => .nx env st
  | x :: xs, env, st => match bd x env with
    | none => .no
    | some env1 => (body env1 st).bind fun env2 st2 => if gd st2 then forM bd body gd xs env2 st2 else .no
def whM (cond : Env → Store → Res Bool) (body : Env → Store → SRes) : Nat → Env → Store → SRes
  | 0, _, _ => .no
  | n + 1, env, st => (cond env st).bindS env fun k st1 => if k then (body env st1).bind fun env2 st2 => whM cond body n env2 st2 else .nx env st1
/-- the turns of a while, at most -/
def fuel : Nat := 2 ^ 80
noncomputable section
mutual
def evS (c : Calls) : Stm → Env → Store → SRes
  | .asg tg e, env, st => (evE c e env st).bindS env fun va st1 => setM tg va env st1
  | .par is es, env, st => (evL c es env st).bindS env fun vs st1 => parM is vs env st1
  | .put o i e, env, st => (evE c e env st).bindS env fun vx st1 => (evE c o env st1).bindS env fun vo st2 => (evE c i env st2).bindS env fun vi st3 => putM vo vi vx env st3
  | .exp e, env, st => (evE c e env st).bindS env fun _ st1 => .nx env st1
  | .ret e, env, st => (evE c e env st).bindS env fun va st1 => .rt va st1
  | .retN, _, st => .rt (.d .non) st
  | .ite t a b, env, st => (evT c t env st).bindS env fun k st1 => if k then evSs c a env st1 else evSs c b env st1
  | .for_ tg it b, env, st => (evI c it env st).bindS env fun w st1 => forM (bindT tg) (fun e s => evSs c b e s) w.2 w.1 env st1
  | .whl t b, env, st => whM (fun e s => evT c t e s) (fun e s => evSs c b e s) fuel env st
  | .rse k, env, st => .er (2 * k) env st
  | .pas, env, st => .nx env st
  | .try_ b hs o, env, st => (evSs c b env st).tr (fun env1 st1 => evSs c o env1 st1) (fun n env1 st1 => evH hs n env1 st1)
def evSs (c : Calls) : Stms → Env → Store → SRes
  | .nil, env, st => .nx env st
  | .cons s r, env, st => (evS c s env st).bind fun env1 st1 => evSs c r env1 st1
def evH : Hds → Nat → Env → Store → SRes
  | .nil, n, env, st => .er (2 * (n / 2) + 1) env st
  | .cons row nm b r, n, env, st => match row[n / 2]? with
    | some true => (match nm with
      | none => noEr (evSs c0 b env st)
      | some i => exq fun a => unS i (evSs (cE a n) b (env.set i (some (.e a))) st))
    | some false => evH r n env st
    | none => .no
  | .rse row k r, n, env, st => match row[n / 2]? with
    | some true => if n % 2 = 0 then .er (2 * k + 1) env st else .no
    | some false => evH r n env st
    | none => .no
end
end

section
variable {K : PySem.W.Frag} {ca : Nat → Addr} {W : WX} {w w' : Wd}
def postS (K : PySem.W.Frag) (ca : Nat → Addr) (W : WX) (w : Wd) (E : Ends) : SRes → Prop
  | .nx env st => ∀ (w' : Wd) (σ' : Sl), w'.st = st → w'.Ok K → w.Le w' → EnvR K w' env σ' → E.nx σ' w'.H
  | .rt va st => ∀ (v : V) (w' : Wd), w'.st = st → w'.Ok K → w.Le w' → RV K w' va v → E.rt v w'.H
  | .er c env st => ∀ (w' : Wd) (σ' : Sl), w'.st = st → w'.Ok K → w.Le w' → EnvR K w' env σ' → W (.ref (ca c)) (ct c) σ' w'.H
  | .no => False
def tS (K : PySem.W.Frag) (ca : Nat → Addr) (W : WX) (m : Env → Store → SRes) : TS := fun E σ H =>
  ∃ (env : Env) (w : Wd), w.H = H ∧ w.Ok K ∧ EnvR K w env σ ∧ postS K ca W w E (m env w.st)
theorem postS.mono {E : Ends} (l : w.Le w') : ∀ {r : SRes}, postS K ca W w E r → postS K ca W w' E r
  | .nx _ _, h => fun w2 σ e ok l2 r => h w2 σ e ok (l.trans l2) r
  | .rt _ _, h => fun v w2 e ok l2 r => h v w2 e ok (l.trans l2) r
  | .er _ _ _, h => fun w2 σ e ok l2 r => h w2 σ e ok (l.trans l2) r
  | .no, h => h
theorem postS.bind {E : Ends} {k : Env → Store → SRes} : ∀ {r : SRes}, postS K ca W w E (r.bind k) →
    postS K ca W w { E with nx := fun σ H => ∃ (env : Env) (w1 : Wd), w1.H = H ∧ w1.Ok K ∧ w.Le w1 ∧ EnvR K w1 env σ ∧ postS K ca W w1 E (k env w1.st) } r
  | .nx env st, h => fun w1 σ e ok l r => ⟨env, w1, rfl, ok, l, r, by subst e; exact postS.mono l h⟩
  | .rt _ _, h => h
  | .er _ _ _, h => h
  | .no, h => h
theorem postS.bindS {α β : Type} {R : Wd → α → β → Prop} {E : Ends} {env : Env} {σ : Sl} {k : α → Store → SRes} (He : EnvR K w env σ) : ∀ {r : Res α}, postS K ca W w E (r.bindS env k) →
    post K ca W R w σ (fun b H => ∃ (a : α) (w1 : Wd), w1.H = H ∧ w1.Ok K ∧ w.Le w1 ∧ R w1 a b ∧ EnvR K w1 env σ ∧ postS K ca W w1 E (k a w1.st)) r
  | .ok a st, h => fun b w1 e ok l r => ⟨a, w1, rfl, ok, l, r, He.mono l, by subst e; exact postS.mono l h⟩
  | .er c st, h => fun w1 e ok l => h w1 σ e ok l (He.mono l)
  | .no, h => h
theorem postS.ends {E E' : Ends} : ∀ {r : SRes}, postS K ca W w E r → (∀ σ H, E.nx σ H → E'.nx σ H) → (∀ v H, E.rt v H → E'.rt v H) → postS K ca W w E' r
  | .nx _ _, h, h1, h2 => fun w2 σ e ok l2 r => h1 _ _ (h w2 σ e ok l2 r)
  | .rt _ _, h, h1, h2 => fun v w2 e ok l2 r => h2 _ _ (h v w2 e ok l2 r)
  | .er _ _ _, h, h1, h2 => h
  | .no, h, h1, h2 => h
theorem PS.imp {X : Cx} {s : Stmt} {t t' : TS} (h : PS X s t) (i : ∀ E σ H, t' E σ H → t E σ H) : PS X s t' := ⟨fun pins s σ H E I hw => h.run pins s σ H E I (i E σ H hw)⟩
theorem PSs.imp {X : Cx} {s : List Stmt} {t t' : TS} (h : PSs X s t) (i : ∀ E σ H, t' E σ H → t E σ H) : PSs X s t' := ⟨fun pins s σ H E I hw => h.run pins s σ H E I (i E σ H hw)⟩
end
section
variable {T : Tb} {sc : Scope} {X : Cx} {c : Calls} {k : Nat} {W : WX}
abbrev SS (X : Cx) (T : Tb) (W : WX) (s : Stmt) (m : Env → Store → SRes) : Prop := PS X s (tS X.K (caT X.K T) W m)
abbrev SSs (X : Cx) (T : Tb) (W : WX) (s : List Stmt) (m : Env → Store → SRes) : Prop := PSs X s (tS X.K (caT X.K T) W m)
theorem ss_nil : SSs X T W [] (evSs c .nil) := by
  refine PSs.imp pss_nil fun E σ H h => ?_
  obtain ⟨env, w, rfl, ok, e, p⟩ := h
  simp only [evSs] at p
  exact p w σ rfl ok Wd.Le.refl e
theorem ss_cons {a : Stm} {r : Stms} {s : Stmt} {l : List Stmt} (h1 : SS X T W s (evS c a)) (h2 : SSs X T W l (evSs c r)) : SSs X T W (s :: l) (evSs c (.cons a r)) := by
  refine PSs.imp (pss_cons h1 h2) fun E σ H h => ?_
  obtain ⟨env, w, rfl, ok, e, p⟩ := h
  simp only [evSs] at p
  refine ⟨env, w, rfl, ok, e, p.bind.ends (fun σ' H' q => ?_) fun v H' q => q⟩
  obtain ⟨env1, w1, rfl, ok1, l1, e1, p1⟩ := q
  exact ⟨env1, w1, rfl, ok1, e1, p1⟩
theorem s_pas {p : Pos} : SS X T W (.Pass p) (evS c .pas) := by
  refine PS.imp ps_pass fun E σ H h => ?_
  obtain ⟨env, w, rfl, ok, e, p⟩ := h
  simp only [evS] at p
  exact p w σ rfl ok Wd.Le.refl e
theorem s_ret {a : Ex} {e : Expr} {p : Pos} (ha : SE X T W e (evE c a)) : SS X T W (.Return (some e) p) (evS c (.ret a)) := by
  refine PS.imp (ps_ret ha) fun E σ H h => ?_
  obtain ⟨env, w, rfl, ok, e, p⟩ := h
  simp only [evS] at p
  refine ⟨env, w, rfl, ok, e, (postS.bindS (R := RV X.K) e p).imp fun v H1 q => ?_⟩
  obtain ⟨va, w1, rfl, ok1, l1, r1, e1, p1⟩ := q
  exact p1 v w1 rfl ok1 Wd.Le.refl r1
theorem s_retN {p : Pos} : SS X T W (.Return none p) (evS c .retN) := by
  refine PS.imp ps_retN fun E σ H h => ?_
  obtain ⟨env, w, rfl, ok, e, p⟩ := h
  simp only [evS] at p
  exact p .non w rfl ok Wd.Le.refl .non
theorem s_ite {t : Te} {a b : Stms} {et : Expr} {la lb : List Stmt} {p : Pos} (ht : ST X T W et (evT c t)) (ha : SSs X T W la (evSs c a)) (hb : SSs X T W lb (evSs c b)) : SS X T W (.If et la lb p) (evS c (.ite t a b)) := by
  refine PS.imp (ps_if ht ha hb) fun E σ H h => ?_
  obtain ⟨env, w, rfl, ok, e, p⟩ := h
  simp only [evS] at p
  refine ⟨env, w, rfl, ok, e, (postS.bindS (R := fun _ a b => a = b) e p).imp fun b H1 q => ?_⟩
  obtain ⟨kb, w1, rfl, ok1, l1, rfl, e1, p1⟩ := q
  cases kb with
  | true => exact ⟨env, w1, rfl, ok1, e1, by simpa using p1⟩
  | false => exact ⟨env, w1, rfl, ok1, e1, by simpa using p1⟩
end
end Ev

namespace Ev
open PySem PySem.Spec PyProof.Rows L2
def notTup : Expr → Bool
  | .Tuple .. => false
  | _ => true
/-- stored without an exchange -/
def asgB (sc : Scope) : Expr → Expr → Bool
  | .Name x _, .ListComp _ _ s _ => decide (sc.names.lookup x = some .cell) || (s.names.any fun p => p.1 == x && (p.2 == .local || p.2 == .cell))
  | .Name _ _, v => notComp v
  | .Tuple _ _ _, v => notComp v && notTup v
  | _, _ => false
/-- a comprehension's list stored by an exchange -/
def lcB (sc : Scope) : Expr → Expr → Bool
  | .Name x px, .ListComp _ _ s p => decide (sc.names.lookup x = some .local) && (px.line == p.line) && !(s.names.any fun p => p.1 == x && (p.2 == .local || p.2 == .cell))
  | _, _ => false
def isCp : Ex → Bool
  | .comp .. => true
  | _ => false
structure Cs (T : Tb) (c : Calls) (k : Nat) (W : WX) (sc : Scope) (X : Cx) : Prop extends Ct T c k W sc X where
  kind : X.env.scope.kind = .function
  stk : X.stack = X.env :: X.outer
  frm : X.env.frame = some X.env.locals
  pat : T.rs = true → ∀ hd : Option Value, PassesOwnAt (model X.prog X.w) (X.A.mark hd) X.A X.env X.xe
  exc : ∀ (i : Nat) (x : Str), T.cls[i]? = some x → ExcC X.K (He.ga X.K x)
section
variable {T : Tb} {sc : Scope} {X : Cx} {c : Calls} {k : Nat} {W : WX}
theorem sw_no {v : Expr} (h : notComp v = true) (t : Option Expr) (l : Nat) (env : PySem.Env) : swapsWith v t l env = pure false := by
  cases v <;> first | rfl | cases h
theorem sw_of (C : Cs T c k W sc X) {t v : Expr} (h : asgB sc t v = true) (l : Nat) : swapsWithSole [t] v l X.env = pure false := by
  cases t with
  | Name x px =>
    show swapsWith v (some (.Name x px)) l X.env = pure false
    cases v with
    | ListComp e gs s p =>
      have h : (decide (sc.names.lookup x = some .cell) || (s.names.any fun p => p.1 == x && (p.2 == .local || p.2 == .cell))) = true := h
      unfold swapsWith
      have hk : X.env.kindOf x = X.env.scope.names.lookup x := rfl
      rcases Bool.or_eq_true _ _ ▸ h with h | h
      · have e := (C.cel x (of_decide_eq_true h)).1
        simp only [hk, e]
        have : (some NameKind.cell == some NameKind.local) = false := by decide
        simp [this]
      · simp only [h, Bool.not_true, Bool.and_false]
    | _ => refine sw_no ?_ _ _ _; exact h
  | Tuple ts kk p =>
    have h : (notComp v && notTup v) = true := h
    show swapsWith v (some (.Tuple ts kk p)) l X.env = pure false
    exact sw_no (ba2 h).1 _ _ _
  | _ => cases h
theorem st_of {t v : Expr} (h : asgB sc t v = true) (env : PySem.Env) : swappedStores [t] v env = pure none := by
  cases t with
  | Name x px => rfl
  | Tuple ts kk p =>
    have h : (notComp v && notTup v) = true := h
    have h2 := (ba2 h).2
    cases v <;> first | rfl | cases h2
  | _ => cases h
theorem as_of {t v : Expr} (h : asgB sc t v = true) (env : PySem.Env) : (assignEach [t] env).map (·.2) = [assign t env] := by
  cases t <;> first | rfl | cases h
theorem set_sound {K : PySem.W.Frag} {ca : Nat → Addr} {w : Wd} {tg : Tg} {va : Va} {x : V} {env : Env} {σ : Sl} {E : Ends} (ok : w.Ok K) (r : RV K w va x) (e : EnvR K w env σ) (p : postS K ca W w E (setM tg va env w.st)) : gT K tg x σ w.H E.nx := by
  unfold setM at p
  cases h : setT tg va env with
  | none => rw [h] at p; exact p.elim
  | some env1 =>
    rw [h] at p
    cases tg with
    | v i =>
      cases h
      exact p w _ rfl ok Wd.Le.refl (e.set r)
    | t is =>
      cases va with
      | d d => exact bind_ok (b := false) h (.inl r) (fun h => nomatch h) e fun σ2 E2 _ _ => p w σ2 rfl ok Wd.Le.refl E2
      | r _ => cases h
      | e _ => cases h
theorem s_asg (C : Cs T c k W sc X) {tg : Tg} {a : Ex} {t v : Expr} {p : Pos} (h : asgB sc t v = true) (hg : chkG T sc tg t = true) (ha : SE X T W v (evE c a)) : SS X T W (.Assign [t] v p) (evS c (.asg tg a)) := by
  refine PS.imp (ps_asg ha (g_of C.toCt hg) (sw_of C h _) (st_of h _) (as_of h _)) fun E σ H h => ?_
  obtain ⟨env, w, rfl, ok, e, p⟩ := h
  simp only [evS] at p
  refine ⟨env, w, rfl, ok, e, (postS.bindS (R := RV X.K) e p).imp fun x H1 q => ?_⟩
  obtain ⟨va, w1, rfl, ok1, l1, r1, e1, p1⟩ := q
  exact set_sound ok1 r1 e1 p1
theorem s_lc (C : Cs T c k W sc X) (hcm : T.cm = true) {i : Nat} {x : Str} {px : Pos} {r : Bool} {own : List Nat} {tg : Tg} {it : Src} {ifs : Op'} {elt : Ex} {e eg ei : Expr} {es : List Expr} {s : Scope} {p ps : Pos}
    (hx : chkG T sc (.v i) (.Name x px) = true) (h : lcB sc (.Name x px) (.ListComp e [⟨eg, ei, es, 0⟩] s p) = true)
    (hb : blkC T.N sc s (ownOf T own) = true) (ht : tgIn own tg = true) (hs : notSet ei = true) (hg : chkG T s tg eg = true) (hi : SI X T W eg ei (evI c it))
    (hq : ∀ X', X'.K = X.K → Ct T c k W0 s X' → PTs X' es (tM X'.K (caT X'.K T) W0 (fun _ a b => a = b) (evQ c ifs))) (he : ∀ X', X'.K = X.K → Ct T c k W0 s X' → SE X' T W0 e (evE c elt)) :
    SS X T W (.Assign [.Name x px] (.ListComp e [⟨eg, ei, es, 0⟩] s p) ps) (evS c (.asg (.v i) (.comp r own tg it ifs elt))) := by
  have C0 := C.toCt
  obtain ⟨l1, l2⟩ := ba2 (show (decide (sc.names.lookup x = some .local) && (px.line == p.line) && !(s.names.any fun p => p.1 == x && (p.2 == .local || p.2 == .cell))) = true from h)
  obtain ⟨l3, l4⟩ := ba2 l1
  have hyl := C.loc x (of_decide_eq_true l3)
  have l2' : (s.names.any fun p => p.1 == x && (p.2 == .local || p.2 == .cell)) = false := by simpa using l2
  have ok0 : BlkOk X.N X.env.scope s (ownOf T own) := blk_up C0 hb
  obtain ⟨g1, g2⟩ := ba2 (show ((decide (T.N[i]? = some x) && okName x) && _) = true from hx)
  obtain ⟨g3, g4⟩ := ba2 g1
  refine PS.imp (ps_setLc (i := i) (own := ownOf T own) (g := gT X.K tg) (tt := tM X.K (caT X.K T) W0 (fun _ a b => a = b) (evQ c ifs)) (te := tM X.K (caT X.K T) W0 (RV X.K) (evE c elt)) (C.calm hcm) (by rw [C.nm]; exact C.nd) (by rw [C.nm]; exact of_decide_eq_true g3) hyl (sw_true C.kind hyl l4 l2') hi ok0 (fun s0 H Ca cl fp => g_of (blk_ct C0 hcm s0 H Ca cl fp) hg) (fun s0 H Ca cl fp => hq (X.blk s0 H s (compEnvC s cl Ca X.env) fp) rfl (blk_ct C0 hcm s0 H Ca cl fp)) (fun s0 H Ca cl fp => he (X.blk s0 H s (compEnvC s cl Ca X.env) fp) rfl (blk_ct C0 hcm s0 H Ca cl fp)) (fold_of hs X.env)) fun E σ H h => ?_
  rw [own_map]
  obtain ⟨env, w, rfl, ok, e, p⟩ := h
  simp only [evS] at p
  refine lc_of (r := r) (tup_tg hg) ht σ w.H _ ⟨env, w, rfl, ok, e, (postS.bindS (R := RV X.K) e p).imp fun x H1 q => ?_⟩
  obtain ⟨va, w1, rfl, ok1, l1, r1, e1, p1⟩ := q
  exact set_sound (tg := .v i) ok1 r1 e1 p1
theorem s_exp {a : Ex} {v : Expr} {p : Pos} (h : notComp v = true) (ha : SE X T W v (evE c a)) : SS X T W (.Expr v p) (evS c (.exp a)) := by
  refine PS.imp (ps_expr ha (sw_no h _ _ _)) fun E σ H h => ?_
  obtain ⟨env, w, rfl, ok, e, p⟩ := h
  simp only [evS] at p
  refine ⟨env, w, rfl, ok, e, (postS.bindS (R := RV X.K) e p).imp fun x H1 q => ?_⟩
  obtain ⟨va, w1, rfl, ok1, l1, r1, e1, p1⟩ := q
  exact p1 w1 σ rfl ok1 Wd.Le.refl e1
/-- o[i] = v -/
def rPut (K : PySem.W.Frag) : V → V → V → Hp → (Hp → Prop) → Prop := fun o i v H Q => rSetL o i v H Q
theorem set_any : PSet X (rPut X.K) := set_list
theorem ixAt_ixN {n : Nat} {i : Int} {j : Nat} (h : ixAt n i = some j) : ixN n i = some j := h
theorem put_sound {K : PySem.W.Frag} {ca : Nat → Addr} {w : Wd} {vo vi vx : Va} {o i x : V} {env : Env} {σ : Sl} {E : Ends} (ok : w.Ok K) (ro : RV K w vo o) (ri : RV K w vi i) (rx : RV K w vx x) (e : EnvR K w env σ) (p : postS K ca W w E (putM vo vi vx env w.st)) :
    rPut K o i x w.H fun H3 => E.nx σ H3 := by
  cases vo with
  | d _ => exact p.elim
  | e _ => exact p.elim
  | r n =>
    cases vi with
    | r _ => exact p.elim
    | e _ => exact p.elim
    | d y =>
      cases vx with
      | r _ => exact p.elim
      | e _ => exact p.elim
      | d z =>
        obtain ⟨a, ha, rfl⟩ := ro
        simp only [putM] at p
        cases h0 : w.st[n]? with
        | none => rw [h0] at p; exact p.elim
        | some ob =>
          rw [h0] at p
          have obr := ok.obj n a ob h0 ha
          cases ob with
          | dead => exact p.elim
          | dct ks vs => exact p.elim
          | lst ds =>
            cases y with
            | int j =>
              simp only [putO] at p
              cases hj : ixAt ds.length j with
              | none => rw [hj] at p; exact p.elim
              | some m =>
                rw [hj] at p
                obtain ⟨us, h1, h2, h3⟩ := obr
                obtain ⟨ok', l'⟩ := set_lst ok h0 ha (RpL.set rx m h2) (by rw [List.length_set]; exact h3)
                have ei : i = .int j := by
                  have q : Rp K w.M w.H (.int j) i := ri
                  cases q; rfl
                exact ⟨a, us, j, m, rfl, ei, h1, by rw [← h2.length]; exact ixAt_ixN hj, p _ σ rfl ok' l' (e.mono l')⟩
            | _ => exact p.elim
theorem s_put (C : Cs T c k W sc X) {o i a : Ex} {eo ei v : Expr} {p p1 : Pos} (hn : notSlice ei = true) (hc : notComp v = true) (ho : SE X T W eo (evE c o)) (hi : SE X T W ei (evE c i)) (ha : SE X T W v (evE c a)) :
    SS X T W (.Assign [.Subscript eo ei p1] v p) (evS c (.put o i a)) := by
  refine PS.imp (ps_asg ha (pg_sub ho hi set_any (fun v => by cases ei <;> first | rfl | cases hn)) (show swapsWith v (some (.Subscript eo ei p1)) p.line X.env = pure false from sw_no hc _ _ _) rfl rfl) fun E σ H h => ?_
  obtain ⟨env, w, rfl, ok, e, p⟩ := h
  simp only [evS] at p
  refine ⟨env, w, rfl, ok, e, (postS.bindS (R := RV X.K) e p).imp fun x H1 q => ?_⟩
  obtain ⟨vx, w1, rfl, ok1, l1, r1, e1, p1⟩ := q
  refine ⟨env, w1, rfl, ok1, e1, (postS.bindS (R := RV X.K) e1 p1).imp fun y H2 q => ?_⟩
  obtain ⟨vo, w2, rfl, ok2, l2, r2, e2, p2⟩ := q
  refine ⟨env, w2, rfl, ok2, e2, (postS.bindS (R := RV X.K) e2 p2).imp fun z H3 q => ?_⟩
  obtain ⟨vi, w3, rfl, ok3, l3, r3, e3, p3⟩ := q
  exact put_sound ok3 (r2.mono l3) r3 ((r1.mono l2).mono l3) e3 p3
theorem s_whl (C : Cs T c k W sc X) {t : Te} {b : Stms} {et : Expr} {l : List Stmt} {p : Pos} (ht : ST X T W et (evT c t)) (hb : SSs X T W l (evSs c b)) : SS X T W (.While et l [] p) (evS c (.whl t b)) := by
  refine PS.imp (ps_while C.pass ht hb) fun E σ H h => ?_
  obtain ⟨env, w, rfl, ok, e, p⟩ := h
  simp only [evS] at p
  refine ⟨fun m σ H => ∃ (env : Env) (w1 : Wd), w1.H = H ∧ w1.Ok X.K ∧ EnvR X.K w1 env σ ∧ postS X.K (caT X.K T) W w1 E (whM (fun e s => evT c t e s) (fun e s => evSs c b e s) m env w1.st), ⟨fuel, env, w, rfl, ok, e, p⟩, fun m σ H h => ?_⟩
  obtain ⟨env1, w1, rfl, ok1, e1, p1⟩ := h
  cases m with
  | zero => exact p1.elim
  | succ m =>
    simp only [whM] at p1
    refine ⟨env1, w1, rfl, ok1, e1, (postS.bindS (R := fun _ a b => a = b) e1 p1).imp fun kb H2 q => ?_⟩
    obtain ⟨kb, w2, rfl, ok2, l2, rfl, e2, p2⟩ := q
    cases kb with
    | false => exact p2 w2 σ rfl ok2 Wd.Le.refl e2
    | true =>
      refine ⟨fun σ H => ∃ (env : Env) (w1 : Wd), w1.H = H ∧ w1.Ok X.K ∧ EnvR X.K w1 env σ ∧ postS X.K (caT X.K T) W w1 E (whM (fun e s => evT c t e s) (fun e s => evSs c b e s) m env w1.st), fun σ' H' h => ⟨m, Nat.lt_succ_self m, h⟩, ?_⟩
      refine ⟨env1, w2, rfl, ok2, e2, p2.bind.ends (fun σ' H' q => ?_) fun v H' q => q⟩
      obtain ⟨env3, w3, rfl, ok3, l3, e3, p3⟩ := q
      exact ⟨env3, w3, rfl, ok3, e3, p3⟩
theorem s_for (C : Cs T c k W sc X) (hcm : T.cm = true) {tg : Tg} {it : Src} {b : Stms} {eg ei : Expr} {l : List Stmt} {p : Pos} (hs : notSet ei = true) (hg : chkG T sc tg eg = true) (hi : SI X T W eg ei (evI c it)) (hb : SSs X T W l (evSs c b)) :
    SS X T W (.For eg ei l [] p) (evS c (.for_ tg it b)) := by
  refine PS.imp (ps_for C.pass (C.calm hcm) hi (g_of C.toCt hg) hb (fold_of hs X.env)) fun E σ H h => ?_
  obtain ⟨env, w, rfl, ok, e, p⟩ := h
  simp only [evS] at p
  refine ⟨env, w, rfl, ok, e, (postS.bindS (R := fun w wk J => Yl (isTupE eg) X.K J w wk) e p).imp fun J H1 q => ?_⟩
  obtain ⟨wk, w1, rfl, ok1, l1, yl, e1, p1⟩ := q
  obtain ⟨y1, y2, y3, y4⟩ := yl
  refine ⟨fun i m σ H => m = wk.1.length - i ∧ i ≤ wk.1.length ∧ ∃ (env : Env) (w' : Wd), w'.H = H ∧ w'.Ok X.K ∧ w1.Le w' ∧ wk.2 w'.st = true ∧ EnvR X.K w' env σ ∧ postS X.K (caT X.K T) W w' E (forM (bindT tg) (fun e s => evSs c b e s) wk.2 (wk.1.drop i) env w'.st),
    ⟨wk.1.length, rfl, Nat.zero_le _, env, w1, rfl, ok1, Wd.Le.refl, y3, e1, by rw [List.drop_zero]; exact p1⟩, ?_⟩
  rintro i m σ2 H2 ⟨rfl, hi', env2, w2, rfl, ok2, l2, g2, e2, p2⟩
  by_cases hlt : i < wk.1.length
  · right
    obtain ⟨go, yld⟩ := y1 i w2 l2.lm ok2 g2 hlt
    refine ⟨go, fun σ H' => ∃ (env : Env) (w' : Wd), w'.H = H' ∧ w'.Ok X.K ∧ w1.Le w' ∧ wk.2 w'.st = true ∧ EnvR X.K w' env σ ∧ postS X.K (caT X.K T) W w' E (forM (bindT tg) (fun e s => evSs c b e s) wk.2 (wk.1.drop (i + 1)) env w'.st),
      fun σ' H' hN => ⟨wk.1.length - (i + 1), by omega, rfl, hlt, hN⟩, fun x H' hy => ?_⟩
    obtain ⟨ex, d, hd, rd⟩ := yld x H' hy
    rw [List.getElem?_eq_getElem hlt] at hd
    cases hd
    rw [List.drop_eq_getElem_cons hlt] at p2
    simp only [forM] at p2
    cases hb1 : bindT tg wk.1[i] env2 with
    | none => rw [hb1] at p2; exact p2.elim
    | some env3 =>
      rw [hb1] at p2
      obtain ⟨okx, lx⟩ := Wd.ext ok2 ex
      refine bind_ok (w := ⟨H', w2.st, w2.adr, w2.hid⟩) hb1 rd (tup_tg hg) (e2.mono lx) fun σ3 E3 _ _ => ?_
      refine ⟨env3, ⟨H', w2.st, w2.adr, w2.hid⟩, rfl, okx, E3, (p2.mono lx).bind.ends (fun σ' H' q => ?_) fun v H' q => q⟩
      obtain ⟨env4, w4, rfl, ok4, l4, e4, p4⟩ := q
      by_cases hgd : wk.2 w4.st = true
      · rw [if_pos hgd] at p4
        exact ⟨env4, w4, rfl, ok4, (l2.trans lx).trans l4, hgd, e4, p4⟩
      · rw [if_neg hgd] at p4
        exact p4.elim
  · left
    have hi2 : i = wk.1.length := by omega
    subst hi2
    rw [List.drop_length] at p2
    exact ⟨y2 w2 l2.lm ok2 g2, p2 w2 σ2 rfl ok2 Wd.Le.refl e2⟩
theorem ve_facts : ExcBaseFacts "ValueError" "ValueError.__new__" "ValueError.__init__" He.veBase := PySem.F.excBase_ValueError
theorem ct_even (n : Nat) : ct (2 * n) = none := by unfold ct; rw [if_pos (by omega)]
theorem s_rse (C : Cs T c k W sc X) (hcm : T.cm = true) {n : Nat} {y m : Str} {j : Nat} {p p1 p2 p3 : Pos} (hc : T.cls[n]? = some y) (hg : gloB sc y = true) (ho : okName y = true) :
    SS X T W (.Raise (some (.Call (.Name y p1) [.Constant (.str m) j p3] [] p2)) none p) (evS c (.rse n)) := by
  obtain ⟨c1, c2, c3, c4, c5⟩ := C.cls n y hc
  refine PS.imp (L2N.ps_raise (C.calm hcm) C.takes.n (L2N.pmk_own ve_facts c2 c1 c3 (raises_own c4 c5) (glo_of C.toCt hg) (okN ho).1)) fun E σ H h => ?_
  obtain ⟨env, w, rfl, ok, e, p⟩ := h
  simp only [evS] at p
  have ec : caT X.K T (2 * n) = He.ga X.K y := by
    unfold caT
    rw [show 2 * n / 2 = n by omega, hc]
  have := p w σ rfl ok Wd.Le.refl e
  rw [ec, ct_even] at this
  exact ⟨rfl, this⟩
end
end Ev

namespace Ev
open PySem PySem.Spec PyProof.Rows L2
theorem sky_imp {h B : Heap} {l : List PySem.Env} {a L : Addr} {Z Z' : Obj → Prop} (z : ∀ o, Z o → Z' o) (x : Sky B l a Z L h) : Sky B l a Z' L h := by
  rcases x with ⟨x1, x2, x3, oe, vs, x4, x5, x6⟩ | x | ⟨x1, x2, x3, x4⟩
  · exact .inl ⟨x1, x2, x3, oe, vs, x4, z _ x5, x6⟩
  · exact .inr (.inl (L2H.flyingZ_imp z x))
  · exact .inr (.inr ⟨x1, x2, x3, L2H.tracedZ_imp z x4⟩)
theorem xe_up {X : Cx} {W : WX} {u : Value} {s' : Shared} (x : L2N.XE X W u s') : XE X W u s' := by
  obtain ⟨a, B, sI, pins, σ, H, cls, d, e, I, nb, up, sky, r⟩ := x
  exact ⟨a, B, sI, pins, σ, H, cls, d, e, I, nb, up, sky_imp (fun _ z => z.zc) sky, r⟩
theorem takesB_up {X : Cx} {Wt : WX} (tk : Takes X Wt) : TakesB X fun cls _ σ H => Wt cls none σ H :=
  ⟨fun u s' x => tk u s' (by
    obtain ⟨a, B, sI, pins, σ, H, cls, d, e, I, nb, up, sky, na, os, ag, rfl, w⟩ := xe_up x
    exact ⟨a, B, sI, pins, σ, H, cls, none, e, I, nb, up, sky, na, os, ag, w⟩), fun u s' x => tk u s' (by
    obtain ⟨a, B, sI, pins, σ, H, cls, d, e, I, nb, up, sky, na, os, ag, rfl, w⟩ := x
    exact ⟨a, B, sI, pins, σ, H, cls, none, e, I, nb, up, sky, na, os, ag, w⟩)⟩
def Tb.inTry (T : Tb) : Tb := { T with rs := false }
def Tb.suite (T : Tb) : Tb := { T with fns := [], cm := false, rs := false }
section
variable {T : Tb} {sc : Scope} {X : Cx} {c : Calls} {k : Nat} {W : WX}
theorem Cs.inTry (C : Cs T c k W sc X) (hcm : T.cm = true) {pn : List (Addr × Obj)} {xe : Value → Shared → Prop} {W' : WX} (tk : TakesB (X.tr pn xe) W') (hp : PassesOwn (model X.prog X.w) X.A X.env xe) : Cs T.inTry c k W' sc (X.tr pn xe) where
  glo := C.glo
  loc := C.loc
  cel := C.cel
  fre := C.fre
  calm := C.calm
  room := C.room
  un := C.un
  ex := C.ex
  exh := fun h => by
    have h' : T.cm = false := h
    rw [hcm] at h'; cases h'
  nd := C.nd
  nm := C.nm
  takes := tk
  pass := hp
  free := C.free
  gl := C.gl
  cls := C.cls
  fn := C.fn
  kind := C.kind
  stk := C.stk
  frm := C.frm
  pat := fun h => by cases h
  exc := C.exc
theorem takes_no {X : Cx} : TakesB X fun _ _ _ _ => False :=
  ⟨fun _ _ ⟨_, _, _, _, _, _, _, _, _, _, _, _, _, _, _, _, w⟩ => w.2.elim, fun _ _ ⟨_, _, _, _, _, _, _, _, _, _, _, _, _, _, _, _, w⟩ => w.2.elim⟩
theorem Cs.suite (C : Cs T c k W sc X) {a : Addr} {pn : List (Addr × Obj)} {c' : Calls} (h : ∀ (x n : Int) (st st' : Store), c' 0 [] st = .ok (.d (.tup [.int x, .int n])) st' → st' = st ∧ CallR (X.suite a pn) (.builtin "isinstance") (rIsE X.K (caT X.K T n.toNat) x.toNat)) : Cs T.suite c' k (fun _ _ _ _ => False) sc (X.suite a pn) where
  glo := C.glo
  loc := C.loc
  cel := C.cel
  fre := C.fre
  calm := fun h => by cases h
  room := fun h => by cases h
  un := C.un
  ex := C.ex
  exh := fun _ => h
  nd := C.nd
  nm := C.nm
  takes := takes_no
  pass := PassesOwn.never
  free := C.free
  gl := C.gl
  cls := C.cls
  fn := fun i x n e => by
    have e' : ([] : List (Str × Nat))[i]? = some (x, n) := e
    simp at e'
  kind := C.kind
  stk := C.stk
  frm := C.frm
  pat := fun h => by cases h
  exc := C.exc
theorem postS.tr {K : PySem.W.Frag} {ca : Nat → Addr} {W W' : WX} {w : Wd} {E : Ends} {kn : Env → Store → SRes} {ke : Nat → Env → Store → SRes} :
    ∀ {r : SRes}, postS K ca W w E (r.tr kn ke) → (∀ (n : Nat) (env : Env) (w1 : Wd) (σ : Sl), w1.Ok K → EnvR K w1 env σ → postS K ca W w1 E (ke n env w1.st) → W' (.ref (ca n)) (ct n) σ w1.H) → postS K ca W' w { E with nx := fun σ H => tS K ca W kn E σ H } r
  | .nx env st, h, _ => fun w1 σ e ok l r => ⟨env, w1, rfl, ok, r, by subst e; exact postS.mono l h⟩
  | .rt _ _, h, _ => h
  | .er n env st, h, q => fun w1 σ e ok l r => q n env w1 σ ok r (by subst e; exact postS.mono l h)
  | .no, h, _ => h
theorem postS.noEr {K : PySem.W.Frag} {ca : Nat → Addr} {W W' : WX} {w : Wd} {E : Ends} : ∀ {r : SRes}, postS K ca W w E (noEr r) → postS K ca W' w E r
  | .nx _ _, h => h
  | .rt _ _, h => h
  | .er _ _ _, h => h.elim
  | .no, h => h
theorem EnvR.unset {K : PySem.W.Frag} {w : Wd} {env : Env} {σ : Sl} (E : EnvR K w env σ) (i : Nat) : EnvR K w (env.set i none) (σ.set i none) := by
  have := E.wipe [i]
  have e : L2.wipe σ [i] = σ.set i none := by
    simp [L2.wipe]
  rw [e] at this
  exact this
theorem postS.unS {K : PySem.W.Frag} {ca : Nat → Addr} {W W' : WX} {w : Wd} {E : Ends} {i : Nat} : ∀ {r : SRes}, postS K ca W w E (unS i r) →
    postS K ca W' w { nx := fun σ' H' => E.nx (σ'.set i none) H', rt := E.rt, bk := fun σ' H' => E.bk (σ'.set i none) H', ct := fun σ' H' => E.ct (σ'.set i none) H' } r
  | .nx _ _, h => fun w2 σ e ok l r => h w2 _ e ok l (r.unset i)
  | .rt _ _, h => h
  | .er _ _ _, h => h.elim
  | .no, h => h
theorem exq_at {f : Nat → SRes} {r : SRes} (h : exq f = r) (hr : r ≠ .no) (a : Nat) : f a = r := by
  unfold exq at h
  split at h
  · rename_i q
    rw [q a]; exact h
  · exact absurd h.symm hr
theorem exq_const (r : SRes) : exq (fun _ => r) = r := by
  unfold exq
  rw [if_pos fun _ => rfl]
theorem post_exq {K : PySem.W.Frag} {ca : Nat → Addr} {W : WX} {w : Wd} {E : Ends} {f : Nat → SRes} (h : postS K ca W w E (exq f)) (a : Nat) : postS K ca W w E (f a) := by
  by_cases q : exq f = .no
  · rw [q] at h; exact h.elim
  · rw [exq_at rfl q a]; exact h
theorem ct_odd (n : Nat) : ct (2 * n + 1) = some 1 := by unfold ct; rw [if_neg (by omega)]
/-- the class that a clause names -/
theorem names_of (C : Ct T c k W sc X) {y : Str} {row : List Bool} (h : (T.ex.contains (y, row) && decide (row.length = T.cls.length) && okName y && gloB sc y) = true) :
    Names X y (cvOf X.K y) ∧ ∀ n b, row[n / 2]? = some b → PySem.W.exmOne X.K (.ref (caT X.K T n)) (cvOf X.K y) = some b ∧ ∃ x, T.cls[n / 2]? = some x ∧ caT X.K T n = He.ga X.K x := by
  obtain ⟨h1, h2⟩ := ba2 h
  obtain ⟨h3, h4⟩ := ba2 h1
  obtain ⟨h5, h6⟩ := ba2 h3
  have hl := of_decide_eq_true h6
  obtain ⟨q1, q2⟩ := C.ex _ (show (y, row) ∈ T.ex by simpa using h5)
  refine ⟨⟨glo_of C h2, (okN h4).1, ?_⟩, fun n b hr => ?_⟩
  · rcases q1 with ⟨rfl, hm⟩ | ⟨hne, hm⟩
    · have hv2 : bootBuiltins ("ValueError" : Str) = some (.type "ValueError") := by decide +kernel
      refine .inr ⟨hm, ?_, (okN h4).2.2⟩
      unfold cvOf
      rw [if_pos rfl]
      exact hv2
    · refine .inl ?_
      unfold cvOf
      rw [if_neg hne]
      exact hm
  · have hj : n / 2 < T.cls.length := by
      rw [← hl]
      exact (List.getElem?_eq_some_iff.mp hr).1
    have hcls : T.cls[n / 2]? = some T.cls[n / 2] := List.getElem?_eq_getElem hj
    have e : caT X.K T n = He.ga X.K T.cls[n / 2] := by
      unfold caT
      rw [hcls]
    exact ⟨by rw [e]; exact (q2 _ _ b hcls hr).1, _, hcls, e⟩
/-- what goes out of a try -/
def wOut (W : WX) : WX := fun cls d σ H => d = none ∧ W cls (some 1) σ H
end
section
variable {T : Tb} {sc : Scope} {X : Cx} {c : Calls} {k : Nat} {W : WX}
/-- the clauses, each with what its suite does -/
def hdL (K : PySem.W.Frag) (ca : Nat → Addr) : Hds → List ExceptHandler → List (Value × (Addr → Value → Option Addr → TS))
  | .cons _ _ b r, .ExceptHandler (some (.Name y _)) _ _ _ :: l => (cvOf K y, fun _ _ _ => tS K ca (fun _ _ _ _ => False) (evSs c0 b)) :: hdL K ca r l
  | _, _ => []
def exB (T : Tb) (sc : Scope) (y : Str) (row : List Bool) : Bool := T.ex.contains (y, row) && decide (row.length = T.cls.length) && okName y && gloB sc y
theorem c0_sut {X : Cx} {a : Addr} {pn : List (Addr × Obj)} : ∀ (x n : Int) (st st' : Store), c0 0 [] st = .ok (.d (.tup [.int x, .int n])) st' → st' = st ∧ CallR (X.suite a pn) (.builtin "isinstance") (rIsE X.K (caT X.K T n.toNat) x.toNat) := fun _ _ _ _ h => by cases h
theorem out_of {K : PySem.W.Frag} {T : Tb} {w : Wd} {σ : Sl} {env : Env} {E : Ends} {n : Nat} (ok : w.Ok K) (e : EnvR K w env σ) (p : postS K (caT K T) W w E (.er (2 * (n / 2) + 1) env w.st)) : wOut W (.ref (caT K T n)) none σ w.H := by
  have := p w σ rfl ok Wd.Le.refl e
  rw [ct_odd] at this
  have e2 : caT K T (2 * (n / 2) + 1) = caT K T n := by
    unfold caT
    rw [show (2 * (n / 2) + 1) / 2 = n / 2 by omega]
  rw [e2] at this
  exact ⟨rfl, this⟩
/-- clauses without names -/
inductive HdR (T : Tb) (sc : Scope) (X : Cx) : Hds → List ExceptHandler → Prop
  | nil : HdR T sc X .nil []
  | cons {row : List Bool} {b : Stms} {r : Hds} {y : Str} {b₀ : Stmt} {suite : List Stmt} {p p' : Pos} {l : List ExceptHandler} : exB T sc y row = true →
      (∀ (a : Addr) (oe : Obj) (pn : List (Addr × Obj)), SSs (X.suite a ((a, oe) :: pn)) T.suite (fun _ _ _ _ => False) (b₀ :: suite) (evSs c0 b)) → HdR T sc X r l →
      HdR T sc X (.cons row none b r) (.ExceptHandler (some (.Name y p)) none (b₀ :: suite) p' :: l)
theorem hds_ok (C : Ct T c k W sc X) : ∀ {hs : Hds} {l : List ExceptHandler}, HdR T sc X hs l → HdsOk X l (hdL X.K (caT X.K T) hs l)
  | _, _, .nil => .nil
  | _, _, .cons h1 h2 r => .cons (names_of C h1).1 (fun a oe cls d pn _ _ => h2 a oe pn) (hds_ok C r)
theorem hds_w (C : Ct T c k W sc X) {D : Ends} {σ : Sl} {w : Wd} {env : Env} {n : Nat} (ok : w.Ok X.K) (e : EnvR X.K w env σ) : ∀ {hs : Hds} {l : List ExceptHandler}, HdR T sc X hs l →
    postS X.K (caT X.K T) W w D (evH hs n env w.st) → wMany X.K (wOut W) D (hdL X.K (caT X.K T) hs l) (.ref (caT X.K T n)) none σ w.H
  | _, _, .nil, p => by
    simp only [evH] at p
    exact out_of ok e p
  | _, _, .cons (row := row) (b := b) (r := r) (l := l) h1 h2 hr, p => by
    simp only [evH] at p
    cases hb : row[n / 2]? with
    | none => rw [hb] at p; exact p.elim
    | some bb =>
      rw [hb] at p
      obtain ⟨q1, q2⟩ := names_of C h1
      refine ⟨bb, (q2 n bb hb).1, fun e1 a _ => ?_, fun e1 => ?_⟩
      · subst e1
        exact ⟨env, w, rfl, ok, e, postS.noEr p⟩
      · subst e1
        exact hds_w C ok e hr p
/-- try: .. except A: .. except B: .. else: .. -/
theorem s_many (C : Cs T c k W sc X) {b o : Stms} {hs : Hds} {lb lo : List Stmt} {h₀ : ExceptHandler} {lh : List ExceptHandler} {p : Pos} (hh : HdR T sc X hs (h₀ :: lh)) (ho : SSs X T W lo (evSs c o))
    (hb : ∀ (W' : WX) (pn : List (Addr × Obj)) (xe : Value → Shared → Prop), TakesB (X.tr pn xe) W' → PassesOwn (model X.prog X.w) X.A X.env xe → SSs (X.tr pn xe) T.inTry W' lb (evSs c b)) :
    SS X T W (.Try lb (h₀ :: lh) lo [] p) (evS c (.try_ b hs o)) := by
  refine PS.imp (ps_try_manyE (tb := fun W' => tS X.K (caT X.K T) (fun cls _ σ H => W' cls none σ H) (evSs c b)) (Wout := wOut W) ho C.stk C.frm C.takes.z (fun W' pn xe tk hp => hb _ pn xe (takesB_up tk) hp) (hds_ok C.toCt hh)) fun E σ H h => ?_
  obtain ⟨env, w, rfl, ok, e, p⟩ := h
  simp only [evS] at p
  exact ⟨env, w, rfl, ok, e, p.tr fun n env1 w1 σ1 ok1 e1 p1 => hds_w C.toCt ok1 e1 hh p1⟩
/-- try: .. except A as n: .. -/
theorem s_as (C : Cs T c k W sc X) {b b' : Stms} {row : List Bool} {i : Nat} {y nm : Str} {lb suite : List Stmt} {b₀ : Stmt} {p p1 p2 : Pos} (h1 : exB T sc y row = true) (hi : T.N[i]? = some nm) (hl : sc.names.lookup nm = some .local)
    (hb : ∀ (W' : WX) (pn : List (Addr × Obj)) (xe : Value → Shared → Prop), TakesB (X.tr pn xe) W' → PassesOwn (model X.prog X.w) X.A X.env xe → SSs (X.tr pn xe) T.inTry W' lb (evSs c b))
    (hsu : ∀ (a : Addr) (pn : List (Addr × Obj)) (c' : Calls), Cs T.suite c' k (fun _ _ _ _ => False) sc (X.suite a pn) → SSs (X.suite a pn) T.suite (fun _ _ _ _ => False) (b₀ :: suite) (evSs c' b')) :
    SS X T W (.Try lb [.ExceptHandler (some (.Name y p1)) (some nm) (b₀ :: suite) p2] [] [] p) (evS c (.try_ b (.cons row (some i) b' .nil) .nil)) := by
  obtain ⟨q1, q2⟩ := names_of C.toCt h1
  refine PS.imp (ps_try_as (i := i) (tb := fun W' => tS X.K (caT X.K T) (fun cls _ σ H => W' cls none σ H) (evSs c b)) (Wout := wOut W)
    (ts := fun a cls d E σ H => ∃ (n : Nat) (x : Str), T.cls[n / 2]? = some x ∧ cls = .ref (caT X.K T n) ∧ caT X.K T n = He.ga X.K x ∧ d = none ∧ tS X.K (caT X.K T) (fun _ _ _ _ => False) (evSs (cE a n) b') E σ H)
    C.stk C.frm (by rw [C.nm]; exact C.nd) (by rw [C.nm]; exact hi) (C.loc nm hl) q1 C.takes.z (fun W' pn xe tk hp => hb _ pn xe (takesB_up tk) hp) fun a oe cls d pn hz hv => ⟨fun pins s σ H E I hw => ?_⟩) fun E σ H h => ?_
  · obtain ⟨n, x, hx, rfl, hg, rfl, hw⟩ := hw
    refine (hsu a ((a, oe) :: pn) (cE a n) (C.suite fun x' n' st st' hc => ?_)).run pins s σ H E I hw
    cases hc
    have hE : ExcC X.K (caT X.K T n) := by rw [hg]; exact C.exc _ _ hx
    exact ⟨rfl, call_isE hE hz hv⟩
  · obtain ⟨env, w, rfl, ok, e, p⟩ := h
    simp only [evS] at p
    refine ⟨env, w, rfl, ok, e, (p.tr fun n env1 w1 σ1 ok1 e1 p1 => ?_).ends (fun σ' H' q => ?_) fun v H' q => q⟩
    · simp only [evH] at p1
      cases hbr : row[n / 2]? with
      | none => rw [hbr] at p1; exact p1.elim
      | some bb =>
        rw [hbr] at p1
        obtain ⟨g1, x, hx, hg⟩ := q2 n bb hbr
        refine ⟨bb, g1, fun e2 a _ => ?_, fun e2 => ?_⟩
        · subst e2
          exact ⟨n, x, hx, rfl, hg, rfl, env1.set i (some (.e a)), w1, rfl, ok1, e1.set (va := .e a) rfl, (post_exq p1 a).unS⟩
        · subst e2
          exact out_of ok1 e1 p1
    · obtain ⟨env2, w2, rfl, ok2, e2, p2⟩ := q
      simp only [evSs] at p2
      exact p2 w2 σ' rfl ok2 Wd.Le.refl e2
end
section
variable {X : Cx} {x : Str} {cv : Value} {body rest orelse : List Stmt} {first : Stmt} {pN pH pT : Pos} {tb : WX → TS} {ts : Addr → Value → Option Addr → TS} {Wo : WX} {u : TS}
/-- nobody catches it: it flies on -/
theorem fly_on {D : Ends} {a : Addr} {B hp : Heap} {sI s' : Shared} {pins : List (Addr × Obj)} {σ : Sl} {H : Hp} {cls : Value} {d : Option Addr} (hs : X.stack = X.env :: X.outer) (hf : X.env.frame = some X.env.locals) (tk : Takes X Wo) (J : Inv X pins σ H sI)
    (nb : ∀ b o, sI.heap.get? b = some o → b ∉ frs X.stack → B.get? b = some o) (up : sI.heap.UpToSlots hp) (fl : HandSPX.FlyingZ B (X.env :: X.outer) a (Zc cls d) hp) (na : H a = none) (os : s'.os = sI.os) (ag : AllBare s'.gens) (w : Wo cls d σ H) :
    wpAny (model X.prog X.w) X.A (handleBy (.ref a) X.env []) (SP X pins D) X.xe { s' with heap := hp } := by
  have last : wpAny (model X.prog X.w) X.A (setFlight (.ref a) X.env.frame) (fun _ s4 => wpAny (model X.prog X.w) X.A (throw (.ref a) : Sem Flow) (SP X pins D) X.xe s4) X.xe { s' with heap := hp } := by
    rw [hf]
    exact HandSPX.setFlight_upZ fl fun h4 held up4 => wpAny_throw (tk _ _ ⟨a, B, sI, pins, σ, H, cls, d, rfl, J, nb, up.trans up4, .inr (.inr (hs ▸ held)), na, os, ag, w⟩)
  apply wpAny_handleBy_nil
  obtain ⟨_, _, _, oe, vs, T, oT, ts', he, hz, hd, h1, _⟩ := id fl
  unfold PySem.passOn
  apply wpAny_bind
  apply wpAny_field he hd h1
  have nn : ¬ ((Value.ref T == Value.none) = true) := by simp
  rw [if_neg nn]
  first | exact wpAny_bind (wpAny_pure (wpAny_bind last)) | exact wpAny_bind last
/-- an error comes to the clause -/
theorem comes {D : Ends} {a : Addr} {B : Heap} {sI s' : Shared} {pins : List (Addr × Obj)} {σ : Sl} {H : Hp} {cls : Value} {d : Option Addr} {Z : Obj → Prop} {bb : Bool} (ok : X.Ok) (hs : X.stack = X.env :: X.outer) (hf : X.env.frame = some X.env.locals) (hc : Names X x cv)
    (hpa : ∀ hd : Option Value, PassesOwnAt (model X.prog X.w) (X.A.mark hd) X.A X.env X.xe) (tk : Takes X Wo)
    (hsu : ∀ (a : Addr) (oe : Obj) (cls : Value) (d : Option Addr) (pn : List (Addr × Obj)), L2N.Zn cls d oe → Takes (L2H.suiteX X a ((a, oe) :: pn)) Wo → L2H.HotC (L2H.suiteX X a ((a, oe) :: pn)) → PSs (L2H.suiteX X a ((a, oe) :: pn)) (first :: rest) (ts a cls d))
    (land : ∀ {Q : Unit → Shared → Prop}, (∀ h', HandSPX.FlyingZ B (X.env :: X.outer) a Z h' → s'.heap.UpToSlots h' → Q () { s' with heap := h' }) → wpAny (model X.prog X.w) X.A (noteFrame (.ref a) X.env) (fun _ s₂ => wpAny (model X.prog X.w) X.A (setFlight (.ref a) none) Q X.xe s₂) X.xe s') (zc : ∀ o, Z o → Zc cls d o) (zn : bb = true → ∀ o, Z o → L2N.Zn cls d o) (J : Inv X pins σ H sI) (nb : ∀ b o, sI.heap.get? b = some o → b ∉ frs X.stack → B.get? b = some o) (up : sI.heap.UpToSlots s'.heap)
    (na : H a = none) (os : s'.os = sI.os) (ag : AllBare s'.gens) (hm : PySem.W.exmOne X.K cls cv = some bb) (hyes : bb = true → ts a cls d D σ H) (hno : bb = false → Wo cls d σ H) :
    wpAny (model X.prog X.w) X.A (noteFrame (.ref a) X.env) (fun _ s₂ => wpAny (model X.prog X.w) X.A (setFlight (.ref a) none) (fun _ s₃ =>
      wpAny (model X.prog X.w) X.A (handleBy (.ref a) X.env [.ExceptHandler (some (.Name x pN)) none (first :: rest) pH]) (SP X pins D) X.xe s₃) X.xe s₂) X.xe s' := by
  refine land fun h3 fl3 up3 => ?_
  have J3 : Inv X pins σ H { s' with heap := h3 } := J.landed nb fl3.1 (up.trans up3) os ag
  obtain ⟨oe3, vs3, he3, hz3, hd3⟩ := fl3.there
  have out : a ∉ frs (X.env :: X.outer) := fun hmem => by
    obtain ⟨_, o', e', q'⟩ := fl3.2.2.1.mem hmem
    rw [he3] at e'
    cases e'
    exact q' _ hd3
  have nL : a ≠ X.env.locals := fun z => out (List.mem_filterMap.mpr ⟨X.env, List.mem_cons_self, by rw [hf, z]⟩)
  have nF : a ∉ X.fs := fun hmem => by
    obtain ⟨e, q1, q2⟩ := List.mem_filterMap.mp hmem
    exact out (List.mem_filterMap.mpr ⟨e, List.mem_cons_of_mem _ q1, q2⟩)
  have S3 := J3.suite he3 hd3 na nL nF
  have ty : PySem.W.Looks (model X.prog X.w) h3 (typeOf (.ref a)) cls := fun A Q E s k q => wpAny_typeOf_ref (k _ _ he3) (by rw [(zc _ hz3).1]; exact q)
  have nameIs : ∀ {Q E : Value → Shared → Prop}, Q cv { s' with heap := h3 } → wpAny (model X.prog X.w) (X.A.mark (some (.ref a))) (eval (.Name x pN) X.env) Q E { s' with heap := h3 } := fun {Q E} q => by
    obtain ⟨hg, hdb, hmg | ⟨hmg, hv, hnn⟩⟩ := hc
    · exact ld_glob (X := X.suite a ((a, oe3) :: (X.pn ++ pins))) S3 hg hmg q hdb
    · exact ld_blt (X := X.suite a ((a, oe3) :: (X.pn ++ pins))) S3 hg hmg hv q hnn hdb
  refine wpAny_handleBy_cons (codeAny_handlers_test (nameIs ((PySem.W.exm_one (M := model X.prog X.w) J3.kIn ty hm).here ?_))) (fun q => nomatch q)
  cases bb with
  | false => exact fly_on hs hf tk J nb (up.trans up3) (L2H.flyingZ_imp zc fl3) na os ag (hno rfl)
  | true =>
    refine codeAny_handlers_suite (HandSPX.lands_againZ fl3 fun h4 fl4 up4 => ?_)
    have J4 : Inv X pins σ H { s' with heap := h4 } := J.landed nb fl4.1 ((up.trans up3).trans up4) os ag
    obtain ⟨oe4, vs4, he4, hz4, hd4⟩ := fl4.there
    have z4 := zn rfl _ hz4
    have takes4 : Takes (L2H.suiteX X a ((a, oe4) :: (X.pn ++ pins))) Wo := fun u2 s2 ⟨a2, B2, sI2, _, σ2, H2, cls2, d2, e2, I2, r2⟩ => tk u2 s2 ⟨a2, B2, sI2, pins, σ2, H2, cls2, d2, e2, L2H.unsuiteX I2 ok, r2⟩
    have hot : L2H.HotC (L2H.suiteX X a ((a, oe4) :: (X.pn ++ pins))) := ⟨(a, oe4), ⟨rfl, vs4, hd4, z4.2.2 vs4 hd4⟩, List.mem_cons_self⟩
    have S4 := L2H.suiteX_of (J4.suite he4 hd4 na nL nF)
    refine wpAny_mono ((hsu a oe4 cls d (X.pn ++ pins) z4 takes4 hot).run [] _ _ H _ S4 (hyes rfl)) (fun f s6 sp => ?_) (fun e6 s6 z => hpa (some (.ref a)) e6 s6 z)
    cases f with
    | ret v =>
      obtain ⟨v6, σ6, H6, S6, r6, q6⟩ := sp
      exact ⟨v6, σ6, H6, L2H.unsuiteX S6 ok, r6, q6⟩
    | next => obtain ⟨σ6, H6, S6, q6⟩ := sp; exact ⟨σ6, H6, L2H.unsuiteX S6 ok, q6⟩
    | brk => obtain ⟨σ6, H6, S6, q6⟩ := sp; exact ⟨σ6, H6, L2H.unsuiteX S6 ok, q6⟩
    | cont => obtain ⟨σ6, H6, S6, q6⟩ := sp; exact ⟨σ6, H6, L2H.unsuiteX S6 ok, q6⟩
theorem ps_try_rse (ho : PSs X orelse u) (hs : X.stack = X.env :: X.outer) (hf : X.env.frame = some X.env.locals) (hc : Names X x cv) (hpa : ∀ hd : Option Value, PassesOwnAt (model X.prog X.w) (X.A.mark hd) X.A X.env X.xe) (tk : Takes X Wo)
    (hb : ∀ (W : WX) (pn : List (Addr × Obj)) (xe : Value → Shared → Prop), L2N.Takes (X.tr pn xe) W → Takes (X.tr pn xe) (L2H.wPass X.K cv Wo) → PassesOwn (model X.prog X.w) X.A X.env xe → PSs (X.tr pn xe) body (tb W))
    (hsu : ∀ (a : Addr) (oe : Obj) (cls : Value) (d : Option Addr) (pn : List (Addr × Obj)), L2N.Zn cls d oe → Takes (L2H.suiteX X a ((a, oe) :: pn)) Wo → L2H.HotC (L2H.suiteX X a ((a, oe) :: pn)) → PSs (L2H.suiteX X a ((a, oe) :: pn)) (first :: rest) (ts a cls d)) :
    PS X (.Try body [.ExceptHandler (some (.Name x pN)) none (first :: rest) pH] orelse [] pT) (fun D σ H => tb (wOnly X.K cv ts Wo D) { D with nx := u D } σ H) := by
  constructor
  intro pins s σ H D I h
  have ok := I.ok
  have fr : X.A.frames = some (X.env :: X.outer) := ok.frames.trans (congrArg some hs)
  refine wpAny_Try_except (wpAny_mono ((hb (wOnly X.K cv ts Wo D) (X.pn ++ pins) _ (fun uu s' xx => ?a) (fun uu s' xx => ?b) PassesOwn.looking).run [] s σ H { D with nx := u D } (I.toTry _) h) (fun f s1 sp => ?c) fun e s1 he => he)
  case a =>
    obtain ⟨a, B, sI, pins', σ', H', cls, d, rfl, J', nb, up, sky, na, os, ag, b, hb1, hyes, hno⟩ := xx
    exact comes ok hs hf hc hpa tk hsu (fun q => L2N.Sky.land L2N.Zn.steady fr hf (hs ▸ sky : Sky B (X.env :: X.outer) a _ X.env.locals s'.heap) q) (fun _ z => z.zc) (fun _ _ z => z) (J'.ofTry ok) nb up na os ag hb1 (fun e => hyes e a na) hno
  case b =>
    obtain ⟨a, B, sI, pins', σ', H', cls, d, rfl, J', nb, up, sky, na, os, ag, hb1, hno⟩ := xx
    exact comes ok hs hf hc hpa tk (bb := false) hsu (fun q => Sky.land Zc.steady fr hf (hs ▸ sky : Sky B (X.env :: X.outer) a _ X.env.locals s'.heap) q) (fun _ z => z) (fun e => Bool.noConfusion e) (J'.ofTry ok) nb up na os ag hb1 (fun e => Bool.noConfusion e) (fun _ => hno)
  case c =>
    cases f with
    | next => obtain ⟨σ1, H1, J1, q⟩ := sp; exact ho.run pins s1 σ1 H1 D (J1.ofTry ok) q
    | brk => obtain ⟨σ1, H1, J1, q⟩ := sp; exact ⟨σ1, H1, J1.ofTry ok, q⟩
    | cont => obtain ⟨σ1, H1, J1, q⟩ := sp; exact ⟨σ1, H1, J1.ofTry ok, q⟩
    | ret v => obtain ⟨v1, σ1, H1, J1, r, q⟩ := sp; exact ⟨v1, σ1, H1, J1.ofTry ok, r, q⟩
end
section
variable {T : Tb} {sc : Scope} {X : Cx} {c : Calls} {k : Nat} {W : WX}
/-- the two takes of a try whose suite raises -/
theorem takesB_rse {X : Cx} {Wt Wp : WX} (tn : L2N.Takes X Wt) (tz : Takes X Wp) : TakesB X fun cls h σ H => (h = none ∧ Wt cls none σ H) ∨ (h = some 1 ∧ Wp cls none σ H) :=
  ⟨fun u s' x => tn u s' (by
    obtain ⟨a, B, sI, pins, σ, H, cls, d, e, I, nb, up, sky, na, os, ag, rfl, w⟩ := x
    rcases w with w | w
    · exact ⟨a, B, sI, pins, σ, H, cls, none, e, I, nb, up, sky, na, os, ag, w.2⟩
    · exact nomatch w.1), fun u s' x => tz u s' (by
    obtain ⟨a, B, sI, pins, σ, H, cls, d, e, I, nb, up, sky, na, os, ag, rfl, w⟩ := x
    rcases w with w | w
    · exact nomatch w.1
    · exact ⟨a, B, sI, pins, σ, H, cls, none, e, I, nb, up, sky, na, os, ag, w.2⟩)⟩
theorem s_rseT (C : Cs T c k W sc X) (hrs : T.rs = true) {b o : Stms} {row : List Bool} {n : Nat} {j : Nat} {y z m : Str} {lb lo : List Stmt} {p p1 p2 p3 p4 p5 p6 : Pos} (h1 : exB T sc y row = true) (hn : T.cls[n]? = some z) (hg : gloB sc z = true) (hz : okName z = true) (ho : SSs X T W lo (evSs c o))
    (hb : ∀ (W' : WX) (pn : List (Addr × Obj)) (xe : Value → Shared → Prop), TakesB (X.tr pn xe) W' → PassesOwn (model X.prog X.w) X.A X.env xe → SSs (X.tr pn xe) T.inTry W' lb (evSs c b)) :
    SS X T W (.Try lb [.ExceptHandler (some (.Name y p1)) none [.Raise (some (.Call (.Name z p2) [.Constant (.str m) j p3] [] p4)) none p5] p6] lo [] p) (evS c (.try_ b (.rse row n .nil) o)) := by
  obtain ⟨q1, q2⟩ := names_of C.toCt h1
  obtain ⟨r1, r2, r3, r4, r5⟩ := C.cls n z hn
  refine PS.imp (ps_try_rse (tb := fun W' => tS X.K (caT X.K T) (fun cls h σ H => (h = none ∧ W' cls none σ H) ∨ (h = some 1 ∧ L2H.wPass X.K (cvOf X.K y) (wOut W) cls none σ H)) (evSs c b)) (Wo := wOut W)
    (ts := fun _ _ _ _ σ H => wOut W (.ref (He.ga X.K z)) none σ H) ho C.stk C.frm q1 (C.pat hrs) C.takes.z (fun W' pn xe tn tz hp => hb _ pn xe (takesB_rse tn tz) hp) fun a oe cls d pn hzn tk hot => ?_) fun E σ H h => ?_
  · refine PSs.imp (pss_cons (L2H.ps_raiseH hot tk (L2N.pmk_own (X := L2H.suiteX X a ((a, oe) :: pn)) ve_facts r2 r1 r3 (raises_own r4 r5) (glo_of C.toCt hg) (okN hz).1)) pss_nil) fun E σ H hw => hw
  · obtain ⟨env, w, rfl, ok, e, p⟩ := h
    simp only [evS] at p
    refine ⟨env, w, rfl, ok, e, p.tr fun n' env1 w1 σ1 ok1 e1 p1 => ?_⟩
    simp only [evH] at p1
    cases hbr : row[n' / 2]? with
    | none => rw [hbr] at p1; exact p1.elim
    | some bb =>
      rw [hbr] at p1
      obtain ⟨g1, _⟩ := q2 n' bb hbr
      cases bb with
      | false =>
        have out := out_of ok1 e1 p1
        by_cases hp : n' % 2 = 0
        · refine .inl ⟨by unfold ct; rw [if_pos hp], false, g1, (fun e => Bool.noConfusion e), fun _ => out⟩
        · exact .inr ⟨by unfold ct; rw [if_neg hp], g1, out⟩
      | true =>
        by_cases hp : n' % 2 = 0
        · simp only [if_pos hp] at p1
          have := p1 w1 σ1 rfl ok1 Wd.Le.refl e1
          rw [ct_odd] at this
          have e2 : caT X.K T (2 * n + 1) = He.ga X.K z := by
            unfold caT
            rw [show (2 * n + 1) / 2 = n by omega, hn]
          rw [e2] at this
          exact .inl ⟨by unfold ct; rw [if_pos hp], true, g1, (fun _ _ _ => ⟨rfl, this⟩), fun e => Bool.noConfusion e⟩
        · simp only [if_neg hp] at p1
          exact p1.elim
end
end Ev

namespace Ev
open PySem PySem.Spec PyProof.Rows L2
/-- except A as n: .. -/
def asOf : List ExceptHandler → List Stmt → Option (Str × Str × List Stmt)
  | [.ExceptHandler (some (.Name y _)) (some n) (b :: l) _], [] => some (y, n, b :: l)
  | _, _ => none
/-- except A: raise B(..) -/
def rseOf : List ExceptHandler → Option (Str × Str)
  | [.ExceptHandler (some (.Name y _)) none [.Raise (some (.Call (.Name x _) [.Constant (.str _) _ _] [] _)) none _] _] => some (y, x)
  | _ => none
/-- except A: .. -/
def hdOf : List ExceptHandler → Option (Str × List Stmt × List ExceptHandler)
  | .ExceptHandler (some (.Name y _)) none (b :: l) _ :: r => some (y, b :: l, r)
  | _ => none
theorem asOf_eq {lh : List ExceptHandler} {lo : List Stmt} {q : Str × Str × List Stmt} (h : asOf lh lo = some q) : lo = [] ∧ ∃ p1 p2 b l, q.2.2 = b :: l ∧ lh = [.ExceptHandler (some (.Name q.1 p1)) (some q.2.1) (b :: l) p2] := by
  unfold asOf at h
  split at h
  · cases h; exact ⟨rfl, _, _, _, _, rfl, rfl⟩
  · cases h
theorem rseOf_eq {lh : List ExceptHandler} {q : Str × Str} (h : rseOf lh = some q) : ∃ p1 p2 p3 p4 p5 p6 m j, lh = [.ExceptHandler (some (.Name q.1 p1)) none [.Raise (some (.Call (.Name q.2 p2) [.Constant (.str m) j p3] [] p4)) none p5] p6] := by
  unfold rseOf at h
  split at h
  · cases h; exact ⟨_, _, _, _, _, _, _, _, rfl⟩
  · cases h
theorem hdOf_eq {lh : List ExceptHandler} {q : Str × List Stmt × List ExceptHandler} (h : hdOf lh = some q) : ∃ p1 p2 b l, q.2.1 = b :: l ∧ lh = .ExceptHandler (some (.Name q.1 p1)) none (b :: l) p2 :: q.2.2 := by
  unfold hdOf at h
  split at h
  · cases h; exact ⟨_, _, _, _, rfl, rfl⟩
  · cases h
mutual
def chkS (T : Tb) (sc : Scope) : Stm → Stmt → Bool
  | .put o i a, .Assign [.Subscript eo ei _] v _ => notSlice ei && notComp v && (chkE T sc o eo && (chkE T sc i ei && chkE T sc a v))
  | .asg tg a, .Assign [t] v _ => (asgB sc t v || (lcB sc t v && isCp a)) && chkG T sc tg t && chkE T sc a v
  | .exp a, .Expr v _ => notComp v && chkE T sc a v
  | .ret a, .Return (some e) _ => chkE T sc a e
  | .retN, .Return none _ => true
  | .ite t a b, .If et la lb _ => chkT T sc t et && (chkSs T sc a la && chkSs T sc b lb)
  | .for_ tg it b, .For eg ei l [] _ => T.cm && notSet ei && chkG T sc tg eg && (chkI T sc it eg ei && chkSs T sc b l)
  | .whl t b, .While et l [] _ => chkT T sc t et && chkSs T sc b l
  | .pas, .Pass _ => true
  | .try_ b hs o, .Try lb lh lo [] _ => T.cm && chkSs T.inTry sc b lb && (chkY T sc hs lh lo && chkSs T sc o lo)
  | .rse n, .Raise (some (.Call (.Name x _) [.Constant (.str _) _ _] [] _)) none _ => T.cm && decide (T.cls[n]? = some x) && gloB sc x && okName x
  | _, _ => false
def chkSs (T : Tb) (sc : Scope) : Stms → List Stmt → Bool
  | .nil, [] => true
  | .cons s r, t :: l => chkS T sc s t && chkSs T sc r l
  | _, _ => false
def chkY (T : Tb) (sc : Scope) : Hds → List ExceptHandler → List Stmt → Bool
  | .cons row (some i) b .nil, lh, lo => match asOf lh lo with
    | some q => exB T sc q.1 row && decide (T.N[i]? = some q.2.1) && decide (sc.names.lookup q.2.1 = some .local) && chkSs T.suite sc b q.2.2
    | none => false
  | .rse row k .nil, lh, _ => match rseOf lh with
    | some q => T.rs && exB T sc q.1 row && decide (T.cls[k]? = some q.2) && gloB sc q.2 && okName q.2
    | none => false
  | .cons row none b r, lh, _ => match hdOf lh with
    | some q => exB T sc q.1 row && chkSs T.suite sc b q.2.1 && chkHs T sc r q.2.2
    | none => false
  | _, _, _ => false
def chkHs (T : Tb) (sc : Scope) : Hds → List ExceptHandler → Bool
  | .nil, lh => lh.isEmpty
  | .cons row none b r, lh => match hdOf lh with
    | some q => exB T sc q.1 row && chkSs T.suite sc b q.2.1 && chkHs T sc r q.2.2
    | none => false
  | _, _ => false
end
section
variable {T : Tb} {sc : Scope} {X : Cx} {c : Calls} {k : Nat} {W : WX}
theorem s_asgC (C : Cs T c k W sc X) {tg : Tg} {a : Ex} {t v : Expr} {p : Pos} (h : (asgB sc t v || (lcB sc t v && isCp a)) = true) (hg : chkG T sc tg t = true) (ha : chkE T sc a v = true) : SS X T W (.Assign [t] v p) (evS c (.asg tg a)) := by
  rcases (Bool.or_eq_true _ _ ▸ h : _ = true ∨ _ = true) with h | h
  · exact s_asg C h hg (sE a v C.toCt ha)
  · obtain ⟨h, hcp⟩ := ba2 h
    cases t with
    | Name x px =>
      cases v with
      | ListComp e1 gs s p1 =>
        cases tg with
        | t is => cases hg
        | v i =>
          cases a with
          | comp r own tg it ifs elt =>
            match gs, ha, h with
            | [⟨eg, ei, es, k'⟩], ha, h =>
              obtain ⟨h1, h2⟩ := ba2 (show (T.cm && decide (k' = 0) && blkC T.N sc s (ownOf T own) && tgIn own tg && decide (own.all (fun i => decide (i < T.N.length))) && notSet ei && (chkG T s tg eg && (chkI T sc it eg ei && (chkQ T s ifs es && chkE T s elt e1)))) = true from ha)
              obtain ⟨h3, h4⟩ := ba2 h1
              obtain ⟨h5, h6⟩ := ba2 h3
              obtain ⟨h7, h8⟩ := ba2 h5
              obtain ⟨h9', h10⟩ := ba2 h7
              obtain ⟨hcm, h9⟩ := ba2 h9'
              obtain ⟨g1, g2⟩ := ba2 h2
              obtain ⟨g3, g4⟩ := ba2 g2
              obtain ⟨g5, g6⟩ := ba2 g4
              obtain rfl := of_decide_eq_true h9
              exact s_lc C hcm hg (ba2 h).1 h10 h8 h4 g1 (sI it eg ei C.toCt g3) (fun X' _ C' => sQ ifs es C' g5) fun X' _ C' => sE elt e1 C' g6
          | fz a => cases hcp
          | _ => cases ha
      | _ => cases h
    | _ => cases h
end
mutual
theorem sS {T : Tb} {c : Calls} {k : Nat} {sc : Scope} {X : Cx} {W : WX} (C : Cs T c k W sc X) : ∀ (S : Stm) (s : Stmt), chkS T sc S s = true → SS X T W s (evS c S)
  | .put o i a, s, h => by
    cases s with
    | Assign ts v p =>
      match ts, h with
      | [.Subscript eo ei p1], h =>
        obtain ⟨h1, h2⟩ := ba2 (show (notSlice ei && notComp v && (chkE T sc o eo && (chkE T sc i ei && chkE T sc a v))) = true from h)
        obtain ⟨h3, h4⟩ := ba2 h1
        obtain ⟨h5, h6⟩ := ba2 h2
        obtain ⟨h7, h8⟩ := ba2 h6
        exact s_put C h3 h4 (sE o eo C.toCt h5) (sE i ei C.toCt h7) (sE a v C.toCt h8)
    | _ => cases h
  | .asg tg a, s, h => by
    cases s with
    | Assign ts v p =>
      match ts, h with
      | [t], h =>
        obtain ⟨h1, h2⟩ := ba2 (show ((asgB sc t v || (lcB sc t v && isCp a)) && chkG T sc tg t && chkE T sc a v) = true from h)
        obtain ⟨h3, h4⟩ := ba2 h1
        exact s_asgC C h3 h4 h2
    | _ => cases h
  | .exp a, s, h => by
    cases s with
    | Expr v p =>
      obtain ⟨h1, h2⟩ := ba2 (show (notComp v && chkE T sc a v) = true from h)
      exact s_exp h1 (sE a v C.toCt h2)
    | _ => cases h
  | .ret a, s, h => by
    cases s with
    | Return e p =>
      cases e with
      | none => cases h
      | some e => exact s_ret (sE a e C.toCt h)
    | _ => cases h
  | .retN, s, h => by
    cases s with
    | Return e p =>
      cases e with
      | none => exact s_retN
      | some e => cases h
    | _ => cases h
  | .ite t a b, s, h => by
    cases s with
    | If et la lb p =>
      obtain ⟨h1, h2⟩ := ba2 (show (chkT T sc t et && (chkSs T sc a la && chkSs T sc b lb)) = true from h)
      obtain ⟨h3, h4⟩ := ba2 h2
      exact s_ite (sT t et C.toCt h1).1 (sSs C a la h3) (sSs C b lb h4)
    | _ => cases h
  | .for_ tg it b, s, h => by
    cases s with
    | For eg ei l o p =>
      cases o with
      | cons _ _ => cases h
      | nil =>
        obtain ⟨h1, h2⟩ := ba2 (show (T.cm && notSet ei && chkG T sc tg eg && (chkI T sc it eg ei && chkSs T sc b l)) = true from h)
        obtain ⟨h3', h4⟩ := ba2 h1
        obtain ⟨hcm, h3⟩ := ba2 h3'
        obtain ⟨h5, h6⟩ := ba2 h2
        exact s_for C hcm h3 h4 (sI it eg ei C.toCt h5) (sSs C b l h6)
    | _ => cases h
  | .whl t b, s, h => by
    cases s with
    | While et l o p =>
      cases o with
      | cons _ _ => cases h
      | nil =>
        obtain ⟨h1, h2⟩ := ba2 (show (chkT T sc t et && chkSs T sc b l) = true from h)
        exact s_whl C (sT t et C.toCt h1).1 (sSs C b l h2)
    | _ => cases h
  | .pas, s, h => by
    cases s with
    | Pass p => exact s_pas
    | _ => cases h
  | .par is es, s, h => by cases s <;> cases h
  | .rse n, s, h => by
    cases s with
    | Raise e f p =>
      match e, f, h with
      | some (.Call (.Name x p1) [.Constant (.str m) j p3] [] p2), none, h =>
        obtain ⟨h1, h2⟩ := ba2 (show (T.cm && decide (T.cls[n]? = some x) && gloB sc x && okName x) = true from h)
        obtain ⟨h3', h4⟩ := ba2 h1
        obtain ⟨hcm, h3⟩ := ba2 h3'
        exact s_rse C hcm (of_decide_eq_true h3) h4 h2
    | _ => cases h
  | .try_ b hs o, s, h => by
    cases s with
    | Try lb lh lo lf p =>
      cases lf with
      | cons _ _ => cases h
      | nil =>
        obtain ⟨h1, h2⟩ := ba2 (show (T.cm && chkSs T.inTry sc b lb && (chkY T sc hs lh lo && chkSs T sc o lo)) = true from h)
        obtain ⟨hcm, h3⟩ := ba2 h1
        obtain ⟨h4, h5⟩ := ba2 h2
        exact sY C hcm hs lh lo h4 (sSs C o lo h5) (fun W' pn xe tk hp => sSs (C.inTry hcm tk hp) b lb h3) (by
          intro e
          subst e
          cases o with
          | nil => rfl
          | cons _ _ => cases h5)
    | _ => cases h
theorem sSs {T : Tb} {c : Calls} {k : Nat} {sc : Scope} {X : Cx} {W : WX} (C : Cs T c k W sc X) : ∀ (S : Stms) (l : List Stmt), chkSs T sc S l = true → SSs X T W l (evSs c S)
  | .nil, l, h => by
    cases l with
    | nil => exact ss_nil
    | cons _ _ => cases h
  | .cons s r, l, h => by
    cases l with
    | nil => cases h
    | cons t l =>
      obtain ⟨h1, h2⟩ := ba2 (show (chkS T sc s t && chkSs T sc r l) = true from h)
      exact ss_cons (sS C s t h1) (sSs C r l h2)
theorem sY {T : Tb} {c : Calls} {k : Nat} {sc : Scope} {X : Cx} {W : WX} (C : Cs T c k W sc X) (hcm : T.cm = true) {b o : Stms} {lb : List Stmt} {p : Pos} : ∀ (hs : Hds) (lh : List ExceptHandler) (lo : List Stmt), chkY T sc hs lh lo = true → SSs X T W lo (evSs c o) →
    (∀ (W' : WX) (pn : List (Addr × Obj)) (xe : Value → Shared → Prop), TakesB (X.tr pn xe) W' → PassesOwn (model X.prog X.w) X.A X.env xe → SSs (X.tr pn xe) T.inTry W' lb (evSs c b)) → (lo = [] → o = .nil) →
    SS X T W (.Try lb lh lo [] p) (evS c (.try_ b hs o))
  | .nil, lh, lo, h, _, _, _ => by cases h
  | .rse row n .nil, lh, lo, h, ho, hb, _ => by
    have h' : (match rseOf lh with
      | some q => T.rs && exB T sc q.1 row && decide (T.cls[n]? = some q.2) && gloB sc q.2 && okName q.2
      | none => false) = true := h
    cases e : rseOf lh with
    | none => rw [e] at h'; cases h'
    | some q =>
      rw [e] at h'
      obtain ⟨p1, p2, p3, p4, p5, p6, m, j, rfl⟩ := rseOf_eq e
      obtain ⟨h1, h2⟩ := ba2 h'
      obtain ⟨h3, h4⟩ := ba2 h1
      obtain ⟨h5, h6⟩ := ba2 h3
      obtain ⟨h7, h8⟩ := ba2 h5
      exact s_rseT C h7 h8 (of_decide_eq_true h6) h4 h2 ho hb
  | .rse row n (.cons _ _ _ _), lh, lo, h, _, _, _ => by cases h
  | .rse row n (.rse _ _ _), lh, lo, h, _, _, _ => by cases h
  | .cons row (some i) b' .nil, lh, lo, h, ho, hb, hn => by
    have h' : (match asOf lh lo with
      | some q => exB T sc q.1 row && decide (T.N[i]? = some q.2.1) && decide (sc.names.lookup q.2.1 = some .local) && chkSs T.suite sc b' q.2.2
      | none => false) = true := h
    cases e : asOf lh lo with
    | none => rw [e] at h'; cases h'
    | some q =>
      rw [e] at h'
      obtain ⟨rfl, p1, p2, b₀, l, e2, rfl⟩ := asOf_eq e
      obtain ⟨h1, h2⟩ := ba2 h'
      obtain ⟨h3, h4⟩ := ba2 h1
      obtain ⟨h5, h6⟩ := ba2 h3
      rw [hn rfl]
      exact s_as C h5 (of_decide_eq_true h6) (of_decide_eq_true h4) hb fun a pn c' C' => sSs C' b' _ (by rw [← e2]; exact h2)
  | .cons row (some i) b' (.cons _ _ _ _), lh, lo, h, _, _, _ => by cases h
  | .cons row (some i) b' (.rse _ _ _), lh, lo, h, _, _, _ => by cases h
  | .cons row none b' r, lh, lo, h, ho, hb, _ => by
    have h' : (match hdOf lh with
      | some q => exB T sc q.1 row && chkSs T.suite sc b' q.2.1 && chkHs T sc r q.2.2
      | none => false) = true := by cases r <;> exact h
    cases e : hdOf lh with
    | none => rw [e] at h'; cases h'
    | some q =>
      rw [e] at h'
      obtain ⟨p1, p2, b₀, l, e2, rfl⟩ := hdOf_eq e
      obtain ⟨h1, h2⟩ := ba2 h'
      obtain ⟨h3, h4⟩ := ba2 h1
      exact s_many C (.cons h3 (fun a oe pn => sSs (C.suite c0_sut) b' _ (by rw [← e2]; exact h4)) (sHs C r q.2.2 h2)) ho hb
theorem sHs {T : Tb} {c : Calls} {k : Nat} {sc : Scope} {X : Cx} {W : WX} (C : Cs T c k W sc X) : ∀ (hs : Hds) (l : List ExceptHandler), chkHs T sc hs l = true → HdR T sc X hs l
  | .nil, l, h => by
    cases l with
    | nil => exact .nil
    | cons _ _ => cases h
  | .rse row n r, l, h => by cases h
  | .cons row (some i) b' r, l, h => by cases h
  | .cons row none b' r, lh, h => by
    have h' : (match hdOf lh with
      | some q => exB T sc q.1 row && chkSs T.suite sc b' q.2.1 && chkHs T sc r q.2.2
      | none => false) = true := h
    cases e : hdOf lh with
    | none => rw [e] at h'; cases h'
    | some q =>
      rw [e] at h'
      obtain ⟨p1, p2, b₀, l, e2, rfl⟩ := hdOf_eq e
      obtain ⟨h1, h2⟩ := ba2 h'
      obtain ⟨h3, h4⟩ := ba2 h1
      exact .cons h3 (fun a oe pn => sSs (C.suite c0_sut) b' _ (by rw [← e2]; exact h4)) (sHs C r q.2.2 h2)
end
end Ev

namespace Ev
open PySem PySem.Spec PyProof.Rows L2
/-- a def: parameters, slots, body -/
structure Fn where
  p : Nat
  n : Nat
  b : Stms
def start' (n : Nat) (vs : List Va) : Env := vs.map some ++ List.replicate (n - vs.length) none
def exitO (n : Nat) (o : Option Ob) (st : Store) : Res Va := match o with
  | some o => .ok (.r n) (st.take n ++ [o])
  | none => .no
def exitV (n : Nat) : SRes → Res Va
  | .nx _ st => .ok (.d .non) (st.take n)
  | .rt (.d x) st => .ok (.d x) (st.take n)
  | .rt (.r i) st => if i < n then .ok (.r i) (st.take n) else exitO n st[i]? st
  | .rt (.e _) _ => .no
  | .er c _ st => .er c (st.take n)
  | .no => .no
noncomputable def runF (c : Calls) (o : Option Fn) (vs : List Va) (st : Store) : Res Va := match o with
  | some f => if vs.length = f.p then exitV st.length (evSs c f.b (start' f.n vs) st) else .no
  | none => .no
/-- a program's defs called, so deep at most -/
noncomputable def callM (fs : List Fn) : Nat → Calls
  | 0, _, _, _ => .no
  | k + 1, f, vs, st => runF (callM fs k) fs[f]? vs st

section
variable {K : PySem.W.Frag} {ca : Nat → Addr} {w w' : Wd}
/-- a part of a store, its places told by φ -/
theorem part_ok (ok : w'.Ok K) (l : w.Le w') {st2 : Store} {adr2 : List Addr} (φ : Nat → Nat) (hl : adr2.length = st2.length) (h1 : ∀ (j : Nat) (o : Ob), st2[j]? = some o → w'.st[φ j]? = some o)
    (h2 : ∀ (j : Nat) (a : Addr), adr2[j]? = some a → w'.adr[φ j]? = some a) (inj : ∀ i j : Nat, i < st2.length → j < st2.length → φ i = φ j → i = j) (hpre : ∀ (i : Nat) (a : Addr), w.adr[i]? = some a → adr2[i]? = some a) :
    (Wd.mk w'.H st2 adr2 w'.hid).Ok K ∧ w.Le ⟨w'.H, st2, adr2, w'.hid⟩ ∧ ∀ (d : D) (v : V), Rp K w'.M w'.H d v → Rp K (Wd.mk w'.H st2 adr2 w'.hid).M w'.H d v := by
  have mi : ∀ b, (Wd.mk w'.H st2 adr2 w'.hid).M b → w'.M b := fun b m => by
    rcases m with ⟨j, o, g1, g2, g3⟩ | m
    · exact .inl ⟨φ j, o, h1 j o g1, g2, h2 j b g3⟩
    · exact .inr m
  have lt : ∀ {j : Nat} {o : Ob}, st2[j]? = some o → j < st2.length := fun {j o} h => by
    rcases Nat.lt_or_ge j st2.length with q | q
    · exact q
    · rw [List.getElem?_eq_none q] at h; cases h
  refine ⟨⟨hl, fun p q b o o' g1 g2 g3 g4 g5 g6 => inj p q (lt g1) (lt g3) (ok.inj (φ p) (φ q) b o o' (h1 p o g1) g2 (h1 q o' g3) g4 (h2 p b g5) (h2 q b g6)), fun j b o g1 g2 => ?_, fun j b o g1 g2 g3 => ok.nohid (φ j) b o (h1 j o g1) g2 (h2 j b g3), ok.hids⟩,
    ⟨⟨hpre, l.lm.keep, fun a o g m => l.lm.mt a o g (mi a m)⟩, l.hid, l.hk⟩, fun d v r => r.mono Ext.refl.kp fun b _ _ m => mi b m⟩
  exact (ok.obj (φ j) b o (h1 j o g1) (h2 j b g2)).mono Ext.refl.kp (fun b _ _ m => mi b m) fun _ h => h
theorem take_get {α : Type} {l : List α} {n j : Nat} {a : α} (h : (l.take n)[j]? = some a) : l[j]? = some a ∧ j < n := by
  rw [List.getElem?_take] at h
  split at h
  · exact ⟨h, by assumption⟩
  · cases h
theorem take_ok (ok : w'.Ok K) (l : w.Le w') (ok0 : w.Ok K) : (Wd.mk w'.H (w'.st.take w.st.length) (w'.adr.take w.st.length) w'.hid).Ok K ∧ w.Le ⟨w'.H, w'.st.take w.st.length, w'.adr.take w.st.length, w'.hid⟩ ∧
    ∀ (d : D) (v : V), Rp K w'.M w'.H d v → Rp K (Wd.mk w'.H (w'.st.take w.st.length) (w'.adr.take w.st.length) w'.hid).M w'.H d v := by
  refine part_ok ok l (fun j => j) (by rw [List.length_take, List.length_take, ok.len]) (fun j o h => (take_get h).1) (fun j o h => (take_get h).1) (fun i j _ _ h => h) fun i a h => ?_
  have hi : i < w.st.length := by
    rw [← ok0.len]
    rcases Nat.lt_or_ge i w.adr.length with q | q
    · exact q
    · rw [List.getElem?_eq_none q] at h; cases h
  rw [List.getElem?_take, if_pos hi]
  exact l.lm.pre i a h
theorem exit_ok {E : XK} {Q : VK} (ok0 : w.Ok K) {r : SRes} (p : post K ca (fun cls d _ H => E cls d H) (RV K) w [] Q (exitV w.st.length r)) :
    postS K ca (fun cls d _ H => E cls d H) w { nx := fun _ H' => Q .non H', rt := Q } r := by
  cases r with
  | nx env st =>
    rintro w' σ' rfl ok' l e
    obtain ⟨ok2, l2, _⟩ := take_ok ok' l ok0
    exact p .non ⟨w'.H, w'.st.take w.st.length, w'.adr.take w.st.length, w'.hid⟩ rfl ok2 l2 .non
  | er c env st =>
    rintro w' σ' rfl ok' l e
    obtain ⟨ok2, l2, _⟩ := take_ok ok' l ok0
    exact p ⟨w'.H, w'.st.take w.st.length, w'.adr.take w.st.length, w'.hid⟩ rfl ok2 l2
  | no => exact p
  | rt va st =>
    rintro v w' rfl ok' l rv
    obtain ⟨ok2, l2, mr⟩ := take_ok ok' l ok0
    cases va with
    | e _ => exact p.elim
    | d x => exact p v ⟨w'.H, w'.st.take w.st.length, w'.adr.take w.st.length, w'.hid⟩ rfl ok2 l2 (mr x v rv)
    | r i =>
      simp only [exitV] at p
      obtain ⟨a, ha, rfl⟩ := rv
      by_cases hi : i < w.st.length
      · rw [if_pos hi] at p
        exact p (.ref a) ⟨w'.H, w'.st.take w.st.length, w'.adr.take w.st.length, w'.hid⟩ rfl ok2 l2 ⟨a, by rw [List.getElem?_take, if_pos hi]; exact ha, rfl⟩
      · rw [if_neg hi] at p
        cases h0 : w'.st[i]? with
        | none => rw [h0] at p; exact p.elim
        | some o =>
          rw [h0] at p
          have hn : w.st.length ≤ i := Nat.le_of_not_lt hi
          have hil : i < w'.st.length := by
            rcases Nat.lt_or_ge i w'.st.length with q | q
            · exact q
            · rw [List.getElem?_eq_none q] at h0; cases h0
          have tl : (w'.st.take w.st.length).length = w.st.length := by rw [List.length_take]; omega
          have tr : (w'.adr.take w.st.length).length = w.st.length := by rw [List.length_take, ok'.len]; omega
          have get2 : ∀ {α : Type} {l : List α} {x y : α} {j : Nat}, (l.take w.st.length).length = w.st.length → l[i]? = some x → (l.take w.st.length ++ [x])[j]? = some y → l[if j = w.st.length then i else j]? = some y := fun {α l x y j} tl hx h => by
            by_cases hj : j < w.st.length
            · rw [List.getElem?_append_left (by omega)] at h
              rw [if_neg (by omega)]
              exact (take_get h).1
            · rw [List.getElem?_append_right (by omega), tl] at h
              have : j = w.st.length := by
                rcases Nat.lt_or_ge (j - w.st.length) 1 with q | q
                · omega
                · rw [List.getElem?_eq_none (by simpa using q)] at h; cases h
              subst this
              rw [Nat.sub_self] at h
              cases h
              rw [if_pos rfl]
              exact hx
          obtain ⟨ok3, l3, mr3⟩ := part_ok (w := w) (st2 := w'.st.take w.st.length ++ [o]) (adr2 := w'.adr.take w.st.length ++ [a]) ok' l (fun j => if j = w.st.length then i else j) (by rw [List.length_append, List.length_append, tl, tr]; rfl)
            (fun j o' h => get2 tl h0 h) (fun j a' h => get2 tr ha h) (fun p q hp hq h => by
              have hp' : p < w.st.length + 1 := by simpa [tl] using hp
              have hq' : q < w.st.length + 1 := by simpa [tl] using hq
              split at h <;> split at h <;> omega) fun j b h => by
              have hj : j < w.st.length := by
                rw [← ok0.len]
                rcases Nat.lt_or_ge j w.adr.length with q | q
                · exact q
                · rw [List.getElem?_eq_none q] at h; cases h
              rw [List.getElem?_append_left (by omega), List.getElem?_take, if_pos hj]
              exact l.lm.pre j b h
          exact p (.ref a) ⟨w'.H, w'.st.take w.st.length ++ [o], w'.adr.take w.st.length ++ [a], w'.hid⟩ rfl ok3 l3 ⟨a, by rw [List.getElem?_append_right (by omega), tr, Nat.sub_self]; rfl, rfl⟩
theorem RVL.get : ∀ {vas : List Va} {vs : List V} {i : Nat} {va : Va}, RVL K w vas vs → vas[i]? = some va → ∃ v, vs[i]? = some v ∧ RV K w va v
  | _, _, _, _, .nil, e => by simp at e
  | _, _, 0, _, .cons r _, e => by simp at e; subst e; exact ⟨_, rfl, r⟩
  | _, _, i + 1, d, .cons _ t, e => by
    obtain ⟨v, h1, h2⟩ := RVL.get (i := i) (va := d) t (by simpa using e)
    exact ⟨v, by simpa using h1, h2⟩
theorem start_ok {N : List Str} {vas : List Va} {vs : List V} (r : RVL K w vas vs) (hn : vs.length ≤ N.length) : EnvR K w (start' N.length vas) (L2.start N vs) := by
  have hl := r.length
  refine ⟨by simp only [start', L2.start, List.length_append, List.length_map, List.length_replicate, hl], fun i va e => ?_⟩
  simp only [start'] at e
  simp only [L2.start]
  by_cases hi : i < vas.length
  · rw [List.getElem?_append_left (by simpa using hi), List.getElem?_map] at e
    rw [List.getElem?_append_left (by simpa [← hl] using hi), List.getElem?_map]
    cases h : vas[i]? with
    | none => rw [h] at e; cases e
    | some x =>
      rw [h] at e
      cases e
      obtain ⟨v, h1, h2⟩ := r.get h
      exact ⟨v, by rw [h1]; rfl, h2⟩
  · rw [List.getElem?_append_right (by simpa using hi), List.getElem?_replicate] at e
    split at e <;> cases e
end

structure Df where
  d : He.DefD
  ps : List Str
  N : List Str
  b : Stms
def Df.fn (f : Df) : Fn := ⟨f.ps.length, f.N.length, f.b⟩
def parB (sc : Scope) (x : Str) : Bool := match sc.names.lookup x with
  | some .local | some .cell => true
  | _ => false
def scB (N ps : List Str) (sc : Scope) : Bool := decide (sc.kind = .function) && !sc.isCoroutine && !sc.isGenerator && decide N.Nodup && decide (N.take ps.length = ps) && ps.all (parB sc) && sc.names.all (fun y => y.2 != .free)
theorem scB_ok {N ps : List Str} {sc : Scope} (h : scB N ps sc = true) : FnScope N ps sc := by
  unfold scB at h
  obtain ⟨h, h7⟩ := ba2 h
  obtain ⟨h, h6⟩ := ba2 h
  obtain ⟨h, h5⟩ := ba2 h
  obtain ⟨h, h4⟩ := ba2 h
  obtain ⟨h, h3⟩ := ba2 h
  obtain ⟨h1, h2⟩ := ba2 h
  refine ⟨of_decide_eq_true h1, by simpa using h2, by simpa using h3, of_decide_eq_true h4, of_decide_eq_true h5, fun x hx => ?_, fun y hy => ?_⟩
  · have := List.all_eq_true.mp h6 x hx
    unfold parB at this
    split at this
    · left; assumption
    · right; assumption
    · cases this
  · have := List.all_eq_true.mp h7 y hy
    simpa using this
def Df.B (T : Tb) (f : Df) : Bool := scB f.N f.ps f.d.scope && decide (f.ps.length ≤ f.N.length) && chkSs { T with N := f.N } f.d.scope f.b f.d.body
/-- what the head tells of the module -/
structure Md (T : Tb) (L : List Df) (K : PySem.W.Frag) (mg : Str → Option Value) : Prop where
  free : ∀ x : Str, x ∈ T.free → mg x = none
  gl : ∀ (i : Nat) (x : Str) (d : D), T.gn[i]? = some (x, d) → ∃ u v, mg x = some u ∧ RelV v u ∧ ∀ M H, Rp K M H d v
  cls : ∀ (i : Nat) (x : Str), T.cls[i]? = some x → mg x = some (.ref (He.ga K x)) ∧ PySem.W.excIn K (He.ga K x) He.veBase "ValueError.__new__" = true ∧ PySem.W.keepIn K (.ref (He.ga K x)) = true ∧
    PySem.W.subIn K (.ref (He.ga K x)) (.type "BaseException") = some true ∧ PySem.W.typeIn K (.ref (He.ga K x)) = some (.type "type")
  ex : ∀ q ∈ T.ex, ExOk K mg T.cls q
  exc : ∀ (i : Nat) (x : Str), T.cls[i]? = some x → ExcC K (He.ga K x)
  cm : T.cm = true
  fn : ∀ (i : Nat) (x : Str) (n : Nat), T.fns[i]? = some (x, n) → ∃ f fd df, L[i]? = some df ∧ n = df.ps.length ∧ mg x = some (.ref f) ∧ Binds K fd df.ps [] ∧ FunD K df.d.name df.d.qual df.d.params df.d.body df.d.scope [] [] f fd
variable {P : Program} {w : World} {K : PySem.W.Frag} {mg : Str → Option Value} {base : Heap}
theorem fn_df {T : Tb} {L : List Df} (G : Md T L K mg) (hL : L.all (Df.B T) = true) (k : Nat)
    (ih : ∀ (i : Nat) (x : Str) (n : Nat), T.fns[i]? = some (x, n) → ∃ f fd ps, mg x = some (.ref f) ∧ PySem.W.keepIn K (.ref f) = true ∧ Binds K fd ps [] ∧ FnOk P w K mg base (CXB P w) k f fd ps (spF K T (callM (L.map Df.fn) k) i n))
    {i : Nat} {df : Df} {f : Addr} {fd : FuncData} (h1 : L[i]? = some df) (h5 : FunD K df.d.name df.d.qual df.d.params df.d.body df.d.scope [] [] f fd) :
    FnOk P w K mg base (CXB P w) (k + 1) f fd df.ps (spF K T (callM (L.map Df.fn) (k + 1)) i df.ps.length) := by
  have hdf := List.all_eq_true.mp hL df (List.mem_of_getElem? h1)
  obtain ⟨hd, hchk⟩ := ba2 hdf
  obtain ⟨hsc, hle⟩ := ba2 hd
  have S := scB_ok hsc
  refine h5.ok S (fun vs H Q E s => ?_) fun cdv A outer s H vs Q E hr hsp => ?_
  · obtain ⟨_, _, _, _, _, hl, _⟩ := s
    exact hl
  · obtain ⟨w0, vas, rfl, ok, rl, hl, p⟩ := hsp
    let X : Cx := cxOf (CXB P w) P w K mg base df.N df.d.qual df.d.scope f cdv A outer s w0.H E
    have tk : TakesB X (fun cls d _ H => E cls d H) := takesB_of rfl rfl rfl rfl
    have C : Cs { T with N := df.N } (callM (L.map Df.fn) k) k (fun cls d _ H => E cls d H) df.d.scope X :=
      { glo := fun x h => h, loc := fun x h => h, cel := fun x h => ⟨h, rfl⟩, fre := fun x h => .inr h, calm := fun _ => rfl, room := fun _ => hr, un := by { have h1 : Room k X.A := hr; have h2 := h1.un; omega }, ex := G.ex, exc := G.exc, exh := fun h => by { have h2 := G.cm; have h3 : T.cm = false := h; rw [h2] at h3; cases h3 }, stk := rfl, frm := rfl, pat := fun _ hd => L2H.passesAt_of (X := X) rfl hd, nd := S.nd, nm := rfl, takes := tk, pass := passes_of rfl,
        free := G.free, gl := G.gl, cls := G.cls, fn := fun i x n h => ih i x n h, kind := S.kind }
    refine ⟨tS K (caT K T) (fun cls d _ H => E cls d H) (evSs (callM (L.map Df.fn) k) df.b), sSs C df.b df.d.body hchk, start' df.N.length vas, w0, rfl, ok, start_ok rl (by rw [hl]; exact of_decide_eq_true hle), exit_ok ok ?_⟩
    have e1 : (L.map Df.fn)[i]? = some df.fn := by rw [List.getElem?_map, h1]; rfl
    simp only [callM, e1, runF] at p
    have hp : vas.length = df.fn.p := by
      rw [rl.length, hl]; rfl
    rw [if_pos hp] at p
    exact p
theorem fn_all {T : Tb} {L : List Df} (G : Md T L K mg) (hL : L.all (Df.B T) = true) : ∀ (k i : Nat) (x : Str) (n : Nat), T.fns[i]? = some (x, n) →
    ∃ f fd ps, mg x = some (.ref f) ∧ PySem.W.keepIn K (.ref f) = true ∧ Binds K fd ps [] ∧ FnOk P w K mg base (CXB P w) k f fd ps (spF K T (callM (L.map Df.fn) k) i n)
  | 0, i, x, n, h => by
    obtain ⟨f, fd, df, h1, h2, h3, h4, h5⟩ := G.fn i x n h
    refine ⟨f, fd, df.ps, h3, h5.kp, h4, ⟨fun vs H Q E s => ?_, fun A outer s H args us vs Q E hr e0 hb r hsp => ?_⟩⟩
    · obtain ⟨_, _, _, _, _, _, p⟩ := s
      exact p.elim
    · obtain ⟨_, _, _, _, _, _, p⟩ := hsp
      exact p.elim
  | k + 1, i, x, n, h => by
    obtain ⟨f, fd, df, h1, rfl, h3, h4, h5⟩ := G.fn i x n h
    exact ⟨f, fd, df.ps, h3, h5.kp, h4, fn_df G hL k (fn_all G hL k) h1 h5⟩
end Ev

namespace Ev
open PySem PySem.Spec PyProof.Rows L2
def faD : Str × D → He.Fa
  | (x, .int i) => .int x i
  | (x, .str s) => .str x (toS s)
  | (x, _) => .free x
def gnB : Str × D → Bool
  | (_, .int _) => true
  | (_, .str s) => decide (s.length ≤ SZ)
  | _ => false
/-- the facts of a module's tables -/
def faOf (T : Tb) : List He.Fa := T.free.map He.Fa.free ++ (T.fns.map (fun q => He.Fa.glo q.1) ++ (T.gn.map faD ++ ((T.cls.flatMap fun x => [He.Fa.glo x, He.Fa.exc x]) ++ T.ex.map fun q : Str × List Bool => if q.1 = ("ValueError" : Str) then He.Fa.free q.1 else He.Fa.glo q.1)))
/-- isinstance asks an error of the class x rightly -/
def excB (K : PySem.W.Frag) (x : Str) : Bool :=
  decide (PySem.W.findIn K (.ref (He.ga K x)) "__getattribute__" = some (some (.builtin "BaseException.__getattribute__"))) && (decide (PySem.W.findIn K (.ref (He.ga K x)) "__getattr__" = some none) && (decide (PySem.W.subIn K (.ref (He.ga K x)) (.type "BaseException") = some true) &&
    (PySem.W.hasDictIn K (He.ga K x) && (decide (PySem.W.findIn K (.ref (He.ga K x)) "__class__" = some (some (.builtin "object.__class__"))) && (decide (PySem.W.specialIn K (.builtin "object.__class__") "__get__" = some (some (.builtin "getset_descriptor.__get__"))) &&
      (decide (PySem.W.takesIn K (.builtin "object.__class__") = some true) && decide (PySem.W.mroIn K (He.ga K x) (.type "object") = some true)))))))
theorem excB_ok {K : PySem.W.Frag} {x : Str} (h : excB K x = true) : ExcC K (He.ga K x) := by
  obtain ⟨h1, h⟩ := ba2 h
  obtain ⟨h2, h⟩ := ba2 h
  obtain ⟨h3, h⟩ := ba2 h
  obtain ⟨h4, h⟩ := ba2 h
  obtain ⟨h5, h⟩ := ba2 h
  obtain ⟨h6, h⟩ := ba2 h
  obtain ⟨h7, h8⟩ := ba2 h
  exact ⟨of_decide_eq_true h1, of_decide_eq_true h2, of_decide_eq_true h3, h4, of_decide_eq_true h5, of_decide_eq_true h6, of_decide_eq_true h7, of_decide_eq_true h8⟩
def rowsB (K : PySem.W.Frag) (y : Str) : List Str → List Bool → Bool
  | x :: xs, b :: bs => decide (PySem.W.exmOne K (.ref (He.ga K x)) (cvOf K y) = some b) && (decide (PySem.W.kitOne K (.ref (He.ga K x)) (cvOf K y) = some b) && rowsB K y xs bs)
  | _, _ => true
theorem rowsB_at {K : PySem.W.Frag} {y : Str} : ∀ {xs : List Str} {bs : List Bool}, rowsB K y xs bs = true → ∀ (j : Nat) (x : Str) (b : Bool), xs[j]? = some x → bs[j]? = some b → PySem.W.exmOne K (.ref (He.ga K x)) (cvOf K y) = some b ∧ PySem.W.kitOne K (.ref (He.ga K x)) (cvOf K y) = some b
  | [], _, _, j, x, b, h, _ => by simp at h
  | _ :: _, [], _, j, x, b, _, h => by simp at h
  | x' :: xs, b' :: bs, h, j, x, b, h1, h2 => by
    obtain ⟨g1, g⟩ := ba2 h
    obtain ⟨g2, g3⟩ := ba2 g
    cases j with
    | zero =>
      simp at h1 h2
      subst h1 h2
      exact ⟨of_decide_eq_true g1, of_decide_eq_true g2⟩
    | succ j => exact rowsB_at g3 j x b (by simpa using h1) (by simpa using h2)
/-- the further facts of a module's errors -/
def exqB (T : Tb) (K : PySem.W.Frag) : Bool := (T.ex.all fun q => rowsB K q.1 T.cls q.2) && T.cls.all (excB K)
def rowB : Str × Nat → Df → Bool := fun q f => decide (f.d.at_ = (q.1, none)) && decide (q.2 = f.ps.length) && f.d.dfl.isEmpty && f.d.kwd.isEmpty
def tabB : List (Str × Nat) → List Df → Bool
  | [], _ => true
  | q :: r, f :: l => rowB q f && tabB r l
  | _ :: _, [] => false
theorem tabB_at : ∀ {fs : List (Str × Nat)} {L : List Df} {i : Nat} {q : Str × Nat}, tabB fs L = true → fs[i]? = some q → ∃ f, L[i]? = some f ∧ rowB q f = true
  | [], _, _, _, _, e => by simp at e
  | _ :: _, [], _, _, h, _ => by cases h
  | q' :: r, f :: l, 0, q, h, e => by
    simp at e; subst e
    exact ⟨f, rfl, (ba2 h).1⟩
  | q' :: r, f :: l, i + 1, q, h, e => by
    obtain ⟨g, h1, h2⟩ := tabB_at (i := i) (ba2 h).2 (by simpa using e)
    exact ⟨g, by simpa using h1, h2⟩
/-- a def's arguments are bound -/
def Bd (df : Df) : Prop := ∀ (K : PySem.W.Frag) (f : Addr) (fd : FuncData), FunD K df.d.name df.d.qual df.d.params df.d.body df.d.scope [] [] f fd → Binds K fd df.ps []
section
variable {P : Program} {w : World} {K : PySem.W.Frag} {h : Heap} {mg : Str → Option Value}
theorem fact_of {fa : List He.Fa} {fn : List He.DefD} (c : He.SaysD fa fn K) {f : He.Fa} (m : f ∈ fa) : f.ok K = true := by
  obtain ⟨i, e⟩ := List.getElem?_of_mem m
  exact c.fact i e
theorem md_of {T : Tb} {L : List Df} (X : K.In h) (G : h.Ns mainGlobals mg) (c : He.SaysD (faOf T) (L.map (·.d)) K) (cx : exqB T K = true) (hcm : T.cm = true) (hg : T.gn.all gnB = true) (ht : tabB T.fns L = true) (hb : ∀ df ∈ L, Bd df) : Md T L K mg := by
  refine ⟨fun x hx => ?_, fun i x d e => ?_, fun i x e => ?_, fun q hq => ?_, fun i x e => ?_, hcm, fun i x n e => ?_⟩
  · exact He.free_ok X G (fact_of c (List.mem_append_left _ (List.mem_map_of_mem hx)))
  · have hm := List.mem_of_getElem? e
    have f := fact_of c (f := faD (x, d)) (List.mem_append_right _ (List.mem_append_right _ (List.mem_append_left _ (List.mem_map_of_mem hm))))
    have b := List.all_eq_true.mp hg _ hm
    cases d with
    | int i =>
      obtain ⟨t, e1⟩ := He.int_ok X G f
      exact ⟨_, .int i, e1, ⟨t, rfl⟩, fun _ _ => .int i⟩
    | str s =>
      obtain ⟨t, e1⟩ := He.str_ok X G f
      refine ⟨_, .str (toS s), e1, ⟨t, rfl⟩, fun _ _ => .str s ?_⟩
      have := of_decide_eq_true (show decide (s.length ≤ SZ) = true from b)
      rw [sizeLine_eq]; exact this
    | _ => cases b
  · have hm := List.mem_of_getElem? e
    have m1 : ∀ f ∈ [He.Fa.glo x, He.Fa.exc x], f ∈ faOf T := fun f hf => List.mem_append_right _ (List.mem_append_right _ (List.mem_append_right _ (List.mem_append_left _ (List.mem_flatMap.mpr ⟨x, hm, hf⟩))))
    have g := fact_of c (m1 (.glo x) List.mem_cons_self)
    have q := fact_of c (m1 (.exc x) (List.mem_cons_of_mem _ List.mem_cons_self))
    exact ⟨He.glo_ok X G g, He.exc_ok q⟩
  · have f := fact_of c (List.mem_append_right _ (List.mem_append_right _ (List.mem_append_right _ (List.mem_append_right _ (List.mem_map_of_mem (f := fun q : Str × List Bool => if q.1 = ("ValueError" : Str) then He.Fa.free q.1 else He.Fa.glo q.1) hq)))))
    refine ⟨?_, rowsB_at (List.all_eq_true.mp (ba2 cx).1 q hq)⟩
    by_cases hv : q.1 = ("ValueError" : Str)
    · simp only [hv, if_true] at f
      exact .inl ⟨hv, by rw [hv]; exact He.free_ok X G f⟩
    · simp only [hv, if_false] at f
      exact .inr ⟨hv, He.glo_ok X G f⟩
  · exact excB_ok (List.all_eq_true.mp (ba2 cx).2 x (List.mem_of_getElem? e))
  · obtain ⟨df, h1, h2⟩ := tabB_at ht e
    obtain ⟨h2, h6⟩ := ba2 h2
    obtain ⟨h2, h5⟩ := ba2 h2
    obtain ⟨h3, h4⟩ := ba2 h2
    have h3 := of_decide_eq_true h3
    have h4 := of_decide_eq_true h4
    have f := fact_of c (f := .glo x) (List.mem_append_right _ (List.mem_append_left _ (List.mem_map_of_mem (f := fun q => He.Fa.glo q.1) (List.mem_of_getElem? e))))
    obtain ⟨fd, F⟩ := c.def_ i (d := df.d) (by rw [List.getElem?_map, h1]; rfl)
    have e5 : df.d.dfl = [] := by simpa using h5
    have e6 : df.d.kwd = [] := by simpa using h6
    have F' : FunD K df.d.name df.d.qual df.d.params df.d.body df.d.scope [] [] (He.ga K x) fd := by
      have q1 : df.d.dvs K = [] := by unfold He.DefD.dvs; rw [e5]; rfl
      have q2 : df.d.kws K = [] := by unfold He.DefD.kws; rw [e6]; rfl
      have q3 : He.fAd K df.d.at_ = He.ga K x := by rw [h3]; rfl
      rw [q1, q2, q3] at F
      exact F
    exact ⟨He.ga K x, fd, df, h1, h4, He.glo_ok X G f, hb df (List.mem_of_getElem? h1) K _ fd F', F'⟩
/-- the law's promise: it answers yes -/
theorem law_of {T : Tb} {c : Calls} {i : Nat} {H : Hp} {a : Addr} {ns : List Int} (hz : ns.length ≤ sizeLine) (hS : SqL K H a (ns.map V.int)) (e : c i [.d (.lst (ns.map D.int))] [] = .ok (.d (.bl true)) []) :
    spF K T c i 1 [.ref a] H (fun v _ => v = .bl true) fun _ _ _ => False := by
  have r : ∀ l : List Int, RpL K (fun _ => False) H (l.map D.int) (l.map V.int) := fun l => by
    induction l with
    | nil => exact .nil
    | cons x r ih => exact .cons (.int x) ih
  have nm : ∀ b, ¬ (Wd.mk H [] [] []).M b := fun b m => by
    rcases m with ⟨i, o, h, _⟩ | h
    · simp at h
    · cases h
  have L : LsM K (Wd.mk H [] [] []).M H a (ns.map V.int) := hS.imp (fun h => ⟨h, nm a⟩) id
  refine ⟨⟨H, [], [], []⟩, [.d (.lst (ns.map D.int))], rfl, ⟨rfl, ?_, ?_, ?_, ?_⟩, .cons ?_ .nil, rfl, ?_⟩
  · intro i j a o o' h; simp at h
  · intro i a o h; simp at h
  · intro i a o h; simp at h
  · intro a h; cases h
  · exact .lst L ((r ns).mono Ext.refl.kp fun b _ _ m => (nm b m).elim) (by rw [List.length_map]; exact hz)
  · rw [show (Wd.mk H [] [] []).st = ([] : Store) from rfl, e]
    intro b w' _ _ _ rb
    have q : Rp K w'.M w'.H (.bl true) b := rb
    cases q
    rfl
/-- whatever the world -/
def CXA (P : Program) : CXT := fun outer H s E u s' => ∃ w, CXB P w outer H s E u s'
theorem cxa_no {H : Hp} {s : Shared} {e : Value} {s' : Shared} (h : CXA P [] H s (fun _ _ _ => False) e s') : False := by
  obtain ⟨w, h | h⟩ := h
  · obtain ⟨_, _, _, _, _, _, _, _, _, _, _, _, _, z⟩ := h
    exact z
  · obtain ⟨_, _, _, _, _, _, _, _, _, _, _, _, _, z⟩ := h
    exact z
theorem fn_cxa {base : Heap} {k : Nat} {f : Addr} {fd : FuncData} {ps : List Str} {sp : Sp} (F : FnOk P w K mg base (CXB P w) k f fd ps sp) : FnOk P w K mg base (CXA P) k f fd ps sp := by
  refine ⟨F.len, fun A outer s H args us vs Q E hr e0 hb r hsp => codeAny_mono (F.run A outer s H args us vs Q E hr e0 hb r hsp) fun r s' h => ?_⟩
  unfold CR at h ⊢
  split at h
  · exact h
  · exact h
  · exact ⟨w, h⟩
end
end Ev

namespace Ev
noncomputable section
inductive okR {α : Type} : Res α → (α → Store → Prop) → Prop where
  | ok {Q : α → Store → Prop} {a : α} {st : Store} (h : Q a st) : okR (.ok a st) Q
inductive okS : SRes → (Env → Store → Prop) → (Va → Store → Prop) → Prop where
  | nx {N : Env → Store → Prop} {R : Va → Store → Prop} {env : Env} {st : Store} (h : N env st) : okS (.nx env st) N R
  | rt {N : Env → Store → Prop} {R : Va → Store → Prop} {va : Va} {st : Store} (h : R va st) : okS (.rt va st) N R
section
variable {α β : Type} {Q Q' : α → Store → Prop} {N N' : Env → Store → Prop} {R R' : Va → Store → Prop}
theorem okR.mono {r : Res α} (h : okR r Q) (i : ∀ a st, Q a st → Q' a st) : okR r Q' := by
  cases h with
  | ok h => exact .ok (i _ _ h)
theorem okR.ex {r : Res α} (h : okR r Q) : ∃ a st, r = .ok a st ∧ Q a st := by
  cases h with
  | ok h => exact ⟨_, _, rfl, h⟩
theorem okR_bind {r : Res β} {k : β → Store → Res α} (h : okR r fun b st => okR (k b st) Q) : okR (r.bind k) Q := by
  cases h with
  | ok h => exact h
theorem okS_bindS {r : Res β} {env : Env} {k : β → Store → SRes} (h : okR r fun b st => okS (k b st) N R) : okS (r.bindS env k) N R := by
  cases h with
  | ok h => exact h
theorem okS_bind {r : SRes} {k : Env → Store → SRes} (h : okS r (fun e st => okS (k e st) N R) R) : okS (r.bind k) N R := by
  cases h with
  | nx h => exact h
  | rt h => exact .rt h
theorem okS.mono {r : SRes} (h : okS r N R) (i : ∀ a st, N a st → N' a st) (j : ∀ a st, R a st → R' a st) : okS r N' R' := by
  cases h with
  | nx h => exact .nx (i _ _ h)
  | rt h => exact .rt (j _ _ h)
/-- a walk: I by what is left -/
theorem forM_ok {bd : D → Env → Option Env} {body : Env → Store → SRes} {gd : Store → Bool} (I : List D → Env → Store → Prop)
    (step : ∀ x xs env st, I (x :: xs) env st → ∃ env1, bd x env = some env1 ∧ okS (body env1 st) (fun e s => gd s = true ∧ I xs e s) R) :
    ∀ (xs : List D) (env : Env) (st : Store), I xs env st → okS (forM bd body gd xs env st) (fun e s => I [] e s) R
  | [], env, st, h => .nx h
  | x :: xs, env, st, h => by
    obtain ⟨env1, e1, h1⟩ := step x xs env st h
    simp only [forM, e1]
    refine okS_bind (h1.mono (fun e s q => ?_) fun _ _ q => q)
    rw [if_pos q.1]
    exact forM_ok I step xs e s q.2
/-- a while: I by a measure below the fuel -/
theorem whM_ok {cond : Env → Store → Res Bool} {body : Env → Store → SRes} (I : Nat → Env → Store → Prop)
    (step : ∀ m env st, I m env st → okR (cond env st) fun b s => if b = true then okS (body env s) (fun e s => ∃ m', m' < m ∧ I m' e s) R else N env s) :
    ∀ (f m : Nat) (env : Env) (st : Store), m < f → I m env st → okS (whM cond body f env st) N R
  | 0, _, _, _, h, _ => absurd h (Nat.not_lt_zero _)
  | f + 1, m, env, st, hm, h => by
    simp only [whM]
    refine okS_bindS ((step m env st h).mono fun b s q => ?_)
    cases b with
    | false => exact .nx (by simpa using q)
    | true =>
      rw [if_pos rfl] at q
      refine okS_bind (okS.mono q (fun e s q => ?_) fun _ _ q => q)
      obtain ⟨m', h1, h2⟩ := q
      exact whM_ok I step f m' e s (by omega) h2
end
theorem exit_nx {n : Nat} {env : Env} {st : Store} : exitV n (.nx env st) = .ok (.d .non) (st.take n) := id rfl
theorem exit_d {n : Nat} {x : D} {st : Store} : exitV n (.rt (.d x) st) = .ok (.d x) (st.take n) := id rfl
/-- a row: a list of one number -/
def Row (st : Store) (i : Nat) (v : Int) : Prop := st[i]? = some (.lst [.int v])
def sR (st : Store) (i : Nat) (v : Int) : Store := st.set i (.lst [.int v])
theorem Row.lt {st : Store} {i : Nat} {v : Int} (h : Row st i v) : i < st.length := by
  rcases Nat.lt_or_ge i st.length with q | q
  · exact q
  · rw [Row, List.getElem?_eq_none q] at h; cases h
theorem Row.set {st : Store} {i : Nat} {v u : Int} (h : Row st i v) : Row (sR st i u) i u := List.getElem?_set_self h.lt
theorem sR_sR {st : Store} {i : Nat} {v u : Int} : sR (sR st i v) i u = sR st i u := List.set_set ..
theorem sR_len {st : Store} {i : Nat} {v : Int} : (sR st i v).length = st.length := List.length_set
theorem sR_take {st : Store} {i : Nat} {v : Int} : (sR st i v).take st.length = sR st i v := List.take_of_length_le (Nat.le_of_eq sR_len)
theorem take_self {st : Store} : st.take st.length = st := List.take_length
theorem mul_c {i j : Int} (h : j.natAbs < 2 ^ 64) : mulOk i j = true := by unfold mulOk; rw [decide_eq_true h, Bool.or_true, Bool.true_or]
theorem mul_c' {i j : Int} (h : i.natAbs < 2 ^ 64) : mulOk i j = true := by unfold mulOk; rw [decide_eq_true h, Bool.true_or, Bool.true_or]
theorem o_add {i j : Int} : opBin .add (.int i) (.int j) = some (.int (i + j)) := id rfl
theorem o_sub {i j : Int} : opBin .sub (.int i) (.int j) = some (.int (i - j)) := id rfl
theorem o_mulR {i j : Int} (h : j.natAbs < 2 ^ 64) : opBin .mul (.int i) (.int j) = some (.int (i * j)) := by simp only [opBin, mul_c h, if_true]
theorem o_mulL {i j : Int} (h : i.natAbs < 2 ^ 64) : opBin .mul (.int i) (.int j) = some (.int (i * j)) := by simp only [opBin, mul_c' h, if_true]
theorem o_mod {i j : Int} (h : 0 < j) : opBin .mod (.int i) (.int j) = some (.int (i % j)) := by simp only [opBin, h, if_true]
theorem o_div {i j : Int} (h : 0 < j) (h2 : j.natAbs < 2 ^ 64) : opBin .fdiv (.int i) (.int j) = some (.int (i / j)) := by
  have : j.natAbs < 2 ^ 4096 := Nat.lt_trans h2 (by decide +kernel)
  simp only [opBin]
  rw [if_pos ⟨h, this⟩]
section
variable {α β : Type}
theorem r_ok {a : α} {st : Store} {k : α → Store → Res β} : (Res.ok a st).bind k = k a st := id rfl
theorem s_ok {a : α} {st : Store} {env : Env} {k : α → Store → SRes} : (Res.ok a st).bindS env k = k a st := id rfl
theorem s_nx {env : Env} {st : Store} {k : Env → Store → SRes} : (SRes.nx env st).bind k = k env st := id rfl
theorem s_rt {va : Va} {st : Store} {k : Env → Store → SRes} : (SRes.rt va st).bind k = .rt va st := id rfl
theorem s_er {c : Nat} {env : Env} {st : Store} {k : Env → Store → SRes} : (SRes.er c env st).bind k = .er c env st := id rfl
theorem l_d {x : D} {st : Store} {k : D → Res α} : ldk (.d x) st k = k x := id rfl
theorem l_l {i : Nat} {ds : List D} {st : Store} {k : D → Res α} (h : st[i]? = some (.lst ds)) : ldk (.r i) st k = k (.lst ds) := by
  have e : ld st (.r i) = some (.lst ds) := by simp only [ld, h]
  unfold ldk; rw [e]
theorem v_some {x : D} {st : Store} : ofO (some x) st = .ok (.d x) st := id rfl
theorem b_some {x : Bool} {st : Store} : ofB (some x) st = .ok x st := id rfl
theorem b_some' {x : Bool} {st : Store} : ofB' (some x) st = .ok (.d (.bl x)) st := id rfl
theorem set_v {i : Nat} {va : Va} {env : Env} {st : Store} : setM (.v i) va env st = .nx (env.set i (some va)) st := id rfl
theorem ix_0 {α : Type} {x : α} {xs : List α} : getIx (x :: xs) 0 = some x := by
  unfold getIx ixAt
  rw [if_pos (by omega), if_pos (by rw [List.length_cons]; omega)]; rfl
theorem put_row {i : Nat} {v u : Int} {env : Env} {st : Store} (h : Row st i v) : putM (.r i) (.d (.int 0)) (.d (.int u)) env st = .nx env (sR st i u) := by
  have h' : st[i]? = some (.lst [.int v]) := h
  simp only [putM, h', putO]
  rfl
theorem c_eq {i j : Int} : opCmp .eq (.int i) (.int j) = some (i == j) := by
  show (if eqOk (.int i) (.int j) then some (D.eqv (.int i) (.int j)) else none) = _
  rw [if_pos (by simp [eqOk, D.flat, D.depth])]; rfl
theorem c_ne {i j : Int} : opCmp .ne (.int i) (.int j) = some (!(i == j)) := by
  show (if eqOk (.int i) (.int j) then some (!D.eqv (.int i) (.int j)) else none) = _
  rw [if_pos (by simp [eqOk, D.flat, D.depth])]; rfl
theorem c_lt {i j : Int} : opCmp .lt (.int i) (.int j) = some (decide (i < j)) := id rfl
theorem c_gt {i j : Int} : opCmp .gt (.int i) (.int j) = some (decide (j < i)) := id rfl
theorem c_le {i j : Int} : opCmp .le (.int i) (.int j) = some (!decide (j < i)) := id rfl
theorem c_ge {i j : Int} : opCmp .ge (.int i) (.int j) = some (!decide (i < j)) := id rfl
theorem c_eqs {i j : List Nat} : opCmp .eq (.str i) (.str j) = some (i == j) := by
  show (if eqOk (.str i) (.str j) then some (D.eqv (.str i) (.str j)) else none) = _
  rw [if_pos (by simp [eqOk, D.flat, D.depth])]; rfl
end
theorem o_pow {i j : Int} (h : 0 ≤ j) (h1 : j ≤ 1000) (h2 : i.natAbs < 2 ^ 64) : opBin .pow (.int i) (.int j) = some (.int (i ^ j.toNat)) := by
  simp only [opBin]
  rw [if_pos ⟨h, h1, h2⟩]
theorem b_lenL {ds : List D} : opB1 .len (.lst ds) = some (.int ds.length) := id rfl
theorem b_lenT {ds : List D} : opB1 .len (.tup ds) = some (.int ds.length) := id rfl
theorem b_lenS {s : List Nat} : opB1 .len (.str s) = some (.int s.length) := id rfl
theorem intsOf_map : ∀ ns : List Int, intsOf (ns.map D.int) = some ns
  | [] => rfl
  | n :: r => by simp only [List.map_cons, intsOf, intsOf_map r, Option.map]
theorem b_sum {ns : List Int} : opB1 .sum (.lst (ns.map D.int)) = some (.int ns.sum) := by simp only [opB1, intsOf_map, Option.map]
theorem b_min {i j : Int} : opB2 .min (.int i) (.int j) = some (.int (if j < i then j else i)) := id rfl
theorem b_max {i j : Int} : opB2 .max (.int i) (.int j) = some (.int (if j > i then j else i)) := id rfl
theorem mkO_f {x : D} {st : Store} : mkO false (some x) st = .ok (.d x) st := id rfl
theorem mk_f {x : D} {st : Store} : mk false x st = .ok (.d x) st := id rfl
theorem mk_t {ds : List D} {st : Store} : mk true (.lst ds) st = .ok (.r st.length) (st ++ [.lst ds]) := id rfl
theorem ds_nil : dsOf [] = some [] := id rfl
def consO (x : D) (o : Option (List D)) : Option (List D) := o.map (x :: ·)
theorem ds_cons {x : D} {r : List Va} : dsOf (.d x :: r) = consO x (dsOf r) := id rfl
theorem ds_consO {x : D} {r : List D} : consO x (some r) = some (x :: r) := id rfl
def lstK (r : Bool) (st : Store) (o : Option (List D)) : Res Va := match o with
  | some ds => mk r (.lst ds) st
  | none => .no
def tupK (st : Store) (o : Option (List D)) : Res Va := match o with
  | some ds => .ok (.d (.tup ds)) st
  | none => .no
theorem lstV_of {r : Bool} {vs : List Va} {st : Store} : lstV r vs st = lstK r st (dsOf vs) := id rfl
theorem lstV_ofK {r : Bool} {ds : List D} {st : Store} : lstK r st (some ds) = mk r (.lst ds) st := id rfl
theorem tupV_of {vs : List Va} {st : Store} : tupV vs st = tupK st (dsOf vs) := id rfl
theorem tupV_ofK {ds : List D} {st : Store} : tupK st (some ds) = .ok (.d (.tup ds)) st := id rfl
theorem exit_new {st : Store} {o : Ob} : exitV st.length (.rt (.r st.length) (st ++ [o])) = .ok (.r st.length) (st ++ [o]) := by
  have e : (st ++ [o])[st.length]? = some o := by rw [List.getElem?_append_right (Nat.le_refl _), Nat.sub_self]; rfl
  simp only [exitV]
  rw [if_neg (Nat.lt_irrefl _), e]
  simp only [exitO]
  rw [List.take_left']
  rfl
theorem ixAt_nat {n j : Nat} (h : j < n) : ixAt n (j : Int) = some j := by
  unfold ixAt
  rw [if_pos (by omega), if_pos (by omega)]; rfl
theorem ix_nat {α : Type} {xs : List α} {j : Nat} (h : j < xs.length) : getIx xs (j : Int) = some xs[j] := by
  unfold getIx
  rw [ixAt_nat h]
  exact List.getElem?_eq_getElem h
theorem ix_int {α : Type} {xs : List α} {i : Int} (h0 : 0 ≤ i) (h : i < xs.length) : ∃ x, getIx xs i = some x ∧ x ∈ xs := by
  obtain ⟨j, rfl⟩ := Int.eq_ofNat_of_zero_le h0
  have hj : j < xs.length := by omega
  exact ⟨xs[j], ix_nat hj, List.getElem_mem hj⟩
theorem wk_rng {n : Int} {st : Store} (h0 : -(2 ^ 62) ≤ n) (h : n ≤ SZ) : wkR [.d (.int n)] st = .ok (rngL 0 n, fun _ => true) st := by
  simp only [wkR, rngOf]
  rw [if_pos ⟨h0, h⟩]
theorem rngL_succ {lo : Int} {n : Nat} : rngL lo ((n : Int) + 1) = .int lo :: rngL (lo + 1) n := by
  unfold rngL
  have e1 : ((n : Int) + 1).toNat = n + 1 := by omega
  have e2 : (n : Int).toNat = n := by omega
  rw [e1, e2, List.range_succ_eq_map, List.map_cons, List.map_map]
  congr 1
  · simp
  · apply List.map_congr_left
    intro k _
    simp only [Function.comp, Nat.succ_eq_add_one, D.int.injEq]
    omega
/-- for v in range(..): I by the turn -/
theorem for_rng {i : Nat} {body : Env → Store → SRes} {gd : Store → Bool} {R : Va → Store → Prop} (I : Nat → Env → Store → Prop) (N : Nat) {lo : Int} :
    ∀ (n j : Nat) (env : Env) (st : Store), j + n = N → (∀ j env st, j < N → I j env st → okS (body (env.set i (some (.d (.int (lo + j))))) st) (fun e s => gd s = true ∧ I (j + 1) e s) R) →
    I j env st → okS (forM (bindT (.v i)) body gd (rngL (lo + j) n) env st) (fun e s => I N e s) R
  | 0, j, env, st, e, step, h => by
    obtain rfl : j = N := by omega
    exact .nx h
  | n + 1, j, env, st, e, step, h => by
    have e1 : rngL (lo + j) ((n + 1 : Nat) : Int) = .int (lo + j) :: rngL (lo + ((j + 1 : Nat) : Int)) n := by
      rw [show (((n + 1 : Nat) : Int)) = (n : Int) + 1 by omega, rngL_succ]
      congr 2
      omega
    rw [e1]
    simp only [forM, bindT]
    refine okS_bind ((step j env st (by omega) h).mono (fun e' s q => ?_) fun _ _ q => q)
    rw [if_pos q.1]
    exact for_rng I N n (j + 1) e' s (by omega) step q.2
theorem for_range {i : Nat} {body : Env → Store → SRes} {gd : Store → Bool} {R : Va → Store → Prop} {n : Int} {env : Env} {st : Store} (I : Nat → Env → Store → Prop)
    (step : ∀ j env st, j < n.toNat → I j env st → okS (body (env.set i (some (.d (.int j)))) st) (fun e s => gd s = true ∧ I (j + 1) e s) R) (h : I 0 env st) : okS (forM (bindT (.v i)) body gd (rngL 0 n) env st) (fun e s => I n.toNat e s) R := by
  have e : rngL 0 n = rngL (0 + ((0 : Nat) : Int)) ((n.toNat : Nat) : Int) := by
    unfold rngL
    rw [Int.toNat_natCast]
    rfl
  rw [e]
  exact for_rng I n.toNat n.toNat 0 env st (by omega) (fun j env st hj h => by rw [Int.zero_add]; exact step j env st hj h) h
section
variable {α β : Type}
theorem okR_ok {a : α} {st : Store} {Q : α → Store → Prop} : okR (.ok a st) Q = Q a st := propext ⟨fun h => by cases h with | ok h => exact h, .ok⟩
theorem okS_nx {env : Env} {st : Store} {N : Env → Store → Prop} {R : Va → Store → Prop} : okS (.nx env st) N R = N env st := propext ⟨fun h => by cases h with | nx h => exact h, .nx⟩
theorem okS_rt {va : Va} {st : Store} {N : Env → Store → Prop} {R : Va → Store → Prop} : okS (.rt va st) N R = R va st := propext ⟨fun h => by cases h with | rt h => exact h, .rt⟩
/-- a call by what its body does -/
theorem okR_exit {n : Nat} {r : SRes} {Q : Va → Store → Prop} (h : okS r (fun _ st => Q (.d .non) (st.take n)) fun va st => okR (exitV n (.rt va st)) Q) : okR (exitV n r) Q := by
  cases h with
  | nx h => exact .ok h
  | rt h => exact h
end
theorem o_adds {x y : List Nat} (h : x.length + y.length ≤ SZ) : opBin .add (.str x) (.str y) = some (.str (x ++ y)) := by simp only [opBin]; rw [if_pos h]
theorem o_addt {x y : List D} (h : x.length + y.length ≤ SZ) : opBin .add (.tup x) (.tup y) = some (.tup (x ++ y)) := by simp only [opBin]; rw [if_pos h]
theorem o_addl {x y : List D} (h : x.length + y.length ≤ SZ) : opBin .add (.lst x) (.lst y) = some (.lst (x ++ y)) := by simp only [opBin]; rw [if_pos h]
theorem cut_le {α : Type} {xs : List α} {lo hi : Option Int} : (cut xs lo hi).length ≤ xs.length := by
  unfold cut
  rw [List.length_take, List.length_drop]; omega
theorem idx_l {ds : List D} {i : Int} : opIdx (.lst ds) (.int i) = getIx ds i := id rfl
theorem idx_t {ds : List D} {i : Int} : opIdx (.tup ds) (.int i) = getIx ds i := id rfl
theorem idx_s {s : List Nat} {i : Int} : opIdx (.str s) (.int i) = (getIx s i).map fun c => .str [c] := id rfl
theorem idx_sI {s : List Nat} {i : Int} (h0 : 0 ≤ i) (h : i < s.length) : ∃ c, opIdx (.str s) (.int i) = some (.str [c]) ∧ c ∈ s := by
  obtain ⟨c, h1, h2⟩ := ix_int h0 h
  exact ⟨c, by rw [idx_s, h1]; rfl, h2⟩
theorem idx_lI {s : List D} {i : Int} (h0 : 0 ≤ i) (h : i < s.length) : ∃ c, opIdx (.lst s) (.int i) = some c ∧ c ∈ s := ix_int h0 h
theorem slc_s {s : List Nat} {lo hi : Option Int} : opSlc (.str s) lo hi = some (.str (cut s lo hi)) := id rfl
theorem slc_l {s : List D} {lo hi : Option Int} : opSlc (.lst s) lo hi = some (.lst (cut s lo hi)) := id rfl
theorem slc_t {s : List D} {lo hi : Option Int} : opSlc (.tup s) lo hi = some (.tup (cut s lo hi)) := id rfl
theorem beq_t {i j : Int} (h : i = j) : (i == j) = true := beq_iff_eq.mpr h
theorem beq_f {i j : Int} (h : i ≠ j) : (i == j) = false := beq_eq_false_iff_ne.mpr h
theorem compM_map {α : Type} {bd : D → Env → Option Env} {cond : Env → Store → Res Bool} {elt : Env → Store → Res Va} {gd : Store → Bool} {env : Env} {st : Store} (f : α → D) (g : α → D) (hg : gd st = true) : ∀ (ys : List α),
    (∀ y ∈ ys, ∃ env1, bd (f y) env = some env1 ∧ cond env1 st = .ok true st ∧ elt env1 st = .ok (.d (g y)) st) → compM bd cond elt gd (ys.map f) env st = .ok (ys.map g) st
  | [], _ => rfl
  | y :: ys, h => by
    obtain ⟨env1, h1, h2, h3⟩ := h y List.mem_cons_self
    have ih := compM_map f g hg ys fun z hz => h z (List.mem_cons_of_mem _ hz)
    simp only [List.map_cons, compM, h1, h2, h3, if_true, hg, ih]
theorem compM_filter {α : Type} {bd : D → Env → Option Env} {cond : Env → Store → Res Bool} {elt : Env → Store → Res Va} {gd : Store → Bool} {env : Env} {st : Store} (f : α → D) (g : α → D) (p : α → Bool) (hg : gd st = true) : ∀ (ys : List α),
    (∀ y ∈ ys, ∃ env1, bd (f y) env = some env1 ∧ cond env1 st = .ok (p y) st ∧ (p y = true → elt env1 st = .ok (.d (g y)) st)) → compM bd cond elt gd (ys.map f) env st = .ok ((ys.filter p).map g) st
  | [], _ => rfl
  | y :: ys, h => by
    obtain ⟨env1, h1, h2, h3⟩ := h y List.mem_cons_self
    have ih := compM_filter f g p hg ys fun z hz => h z (List.mem_cons_of_mem _ hz)
    cases hp : p y with
    | true =>
      have h3 := h3 hp
      rw [hp] at h2
      simp only [List.map_cons, compM, h1, h2, h3, if_true, hg, ih, List.filter_cons, hp]
    | false =>
      rw [hp] at h2
      simp only [List.map_cons, compM, h1, h2, if_true, hg, ih, List.filter_cons, hp, Bool.false_eq_true, if_false]
theorem blsOf_map {α : Type} (f : α → Bool) : ∀ ys : List α, blsOf (ys.map fun y => .bl (f y)) = some (ys.map f)
  | [] => rfl
  | y :: ys => by simp only [List.map_cons, blsOf, blsOf_map f ys, Option.map]
theorem b_all {α : Type} {f : α → Bool} {ys : List α} : opB1 .all (.lst (ys.map fun y => .bl (f y))) = some (.bl (ys.all f)) := by
  simp only [opB1, blsOf_map, Option.map, List.all_map]; rfl
theorem b_any {α : Type} {f : α → Bool} {ys : List α} : opB1 .any (.lst (ys.map fun y => .bl (f y))) = some (.bl (ys.any f)) := by
  simp only [opB1, blsOf_map, Option.map, List.any_map]; rfl
theorem c_ins {x y : List Nat} : opCmp .isin (.str x) (.str y) = some (subL x y) := id rfl
theorem c_isb {x y : Bool} : opCmp .is (.bl x) (.bl y) = some (x == y) := id rfl
theorem c_nebb {x y : Bool} : opCmp .ne (.bl x) (.bl y) = some (!(x == y)) := by
  show (if eqOk (.bl x) (.bl y) then some (!D.eqv (.bl x) (.bl y)) else none) = _
  rw [if_pos (by simp [eqOk, D.flat, D.depth])]; rfl
theorem c_eqbb {x y : Bool} : opCmp .eq (.bl x) (.bl y) = some (x == y) := by
  show (if eqOk (.bl x) (.bl y) then some (D.eqv (.bl x) (.bl y)) else none) = _
  rw [if_pos (by simp [eqOk, D.flat, D.depth])]; rfl
theorem isi_bl {x : Bool} : opIsi .bool (.bl x) = some true := id rfl
theorem bindT_v {i : Nat} {x : D} {env : Env} : bindT (.v i) x env = some (env.set i (some (.d x))) := id rfl
theorem dec_t {i : Decidable True} : @decide True i = true := decide_eq_true trivial
theorem dec_f {i : Decidable False} : @decide False i = false := decide_eq_false id
def seqS (c : Calls) (r : Stms) (x : SRes) : SRes := x.bind (evSs c r)
theorem q_nx {c : Calls} {r : Stms} {e : Env} {st : Store} : seqS c r (.nx e st) = evSs c r e st := id rfl
theorem q_rt {c : Calls} {r : Stms} {v : Va} {st : Store} : seqS c r (.rt v st) = .rt v st := id rfl
theorem q_er {c : Calls} {r : Stms} {v : Nat} {e : Env} {st : Store} : seqS c r (.er v e st) = .er v e st := id rfl
theorem okS_seq {c : Calls} {r : Stms} {x : SRes} {N N' : Env → Store → Prop} {R : Va → Store → Prop} (h : okS x N' R) (i : ∀ e st, N' e st → okS (evSs c r e st) N R) : okS (seqS c r x) N R :=
  okS_bind (h.mono i fun _ _ q => q)
def s1 {α : Type} (k : α → Store → SRes) (env : Env) (r : Res α) : SRes := r.bindS env k
theorem s1_ok {α : Type} {k : α → Store → SRes} {env : Env} {a : α} {st : Store} : s1 k env (.ok a st) = k a st := id rfl
theorem s1_er {α : Type} {k : α → Store → SRes} {env : Env} {a : Nat} {st : Store} : s1 k env (.er a st) = .er a env st := id rfl
def asgK (tg : Tg) (env : Env) (va : Va) (st : Store) : SRes := setM tg va env st
def putK1 (c : Calls) (o i : Ex) (env : Env) (vx : Va) (st : Store) : SRes := (evE c o env st).bindS env fun vo st2 => (evE c i env st2).bindS env fun vi st3 => putM vo vi vx env st3
def putK2 (c : Calls) (i : Ex) (env : Env) (vx vo : Va) (st : Store) : SRes := (evE c i env st).bindS env fun vi st3 => putM vo vi vx env st3
def putK3 (env : Env) (vx vo vi : Va) (st : Store) : SRes := putM vo vi vx env st
def expK (env : Env) (_ : Va) (st : Store) : SRes := .nx env st
def retK (va : Va) (st : Store) : SRes := .rt va st
def iteK (c : Calls) (a b : Stms) (env : Env) (k : Bool) (st : Store) : SRes := if k then evSs c a env st else evSs c b env st
def forK (c : Calls) (tg : Tg) (b : Stms) (env : Env) (w : Wk) (st : Store) : SRes := forM (bindT tg) (evSs c b) w.2 w.1 env st
def parK (is : List Nat) (env : Env) (vs : List Va) (st : Store) : SRes := parM is vs env st
section
variable {c : Calls} {env : Env} {st : Store}
theorem p_nil : evSs c .nil env st = .nx env st := id rfl
theorem p_cons {s : Stm} {r : Stms} : evSs c (.cons s r) env st = seqS c r (evS c s env st) := id rfl
theorem p_asg {tg : Tg} {e : Ex} : evS c (.asg tg e) env st = s1 (asgK tg env) env (evE c e env st) := id rfl
theorem p_asgK {i : Nat} {va : Va} : asgK (.v i) env va st = .nx (env.set i (some va)) st := id rfl
theorem p_par {is : List Nat} {es : Exs} : evS c (.par is es) env st = s1 (parK is env) env (evL c es env st) := id rfl
theorem p_put {o i e : Ex} : evS c (.put o i e) env st = s1 (putK1 c o i env) env (evE c e env st) := id rfl
theorem p_put1 {o i : Ex} {vx : Va} : putK1 c o i env vx st = s1 (putK2 c i env vx) env (evE c o env st) := id rfl
theorem p_put2 {i : Ex} {vx vo : Va} : putK2 c i env vx vo st = s1 (putK3 env vx vo) env (evE c i env st) := id rfl
theorem p_exp {e : Ex} : evS c (.exp e) env st = s1 (expK env) env (evE c e env st) := id rfl
theorem p_expK {v : Va} : expK env v st = .nx env st := id rfl
theorem p_ret {e : Ex} : evS c (.ret e) env st = s1 retK env (evE c e env st) := id rfl
theorem p_retK {v : Va} : retK v st = .rt v st := id rfl
theorem p_retN : evS c .retN env st = .rt (.d .non) st := id rfl
theorem p_pas : evS c .pas env st = .nx env st := id rfl
theorem p_ite {t : Te} {a b : Stms} : evS c (.ite t a b) env st = s1 (iteK c a b env) env (evT c t env st) := id rfl
theorem p_ite_t {a b : Stms} : iteK c a b env true st = evSs c a env st := id rfl
theorem p_ite_f {a b : Stms} : iteK c a b env false st = evSs c b env st := id rfl
theorem p_for {tg : Tg} {it : Src} {b : Stms} : evS c (.for_ tg it b) env st = s1 (forK c tg b env) env (evI c it env st) := id rfl
theorem p_forK {tg : Tg} {b : Stms} {xs : List D} {gd : Store → Bool} : forK c tg b env (xs, gd) st = forM (bindT tg) (evSs c b) gd xs env st := id rfl
theorem p_whl {t : Te} {b : Stms} : evS c (.whl t b) env st = whM (evT c t) (evSs c b) fuel env st := id rfl
end
def varR (o : Option (Option Va)) (st : Store) : Res Va := match o with
  | some (some v) => .ok v st
  | _ => .no
def e1 {α β : Type} (k : α → Store → Res β) (r : Res α) : Res β := r.bind k
theorem e1_ok {α β : Type} {k : α → Store → Res β} {a : α} {st : Store} : e1 k (.ok a st) = k a st := id rfl
theorem e1_er {α β : Type} {k : α → Store → Res β} {a : Nat} {st : Store} : e1 k (.er a st) = .er a st := id rfl
def e2 {β : Type} (c : Calls) (b : Ex) (env : Env) (k : Va → Va → Store → Res β) (va : Va) (st : Store) : Res β := (evE c b env st).bind (k va)
theorem e2_ok {β : Type} {c : Calls} {b : Ex} {env : Env} {k : Va → Va → Store → Res β} {va : Va} {st : Store} : e2 c b env k va st = e1 (k va) (evE c b env st) := id rfl
def kBin (o : Bop) (va vb : Va) (st : Store) : Res Va := ldk va st fun x => ldk vb st fun y => ofO (opBin o x y) st
def kCmp (o : Cop) (va vb : Va) (st : Store) : Res Va := ldk va st fun x => ldk vb st fun y => ofB' (opCmp o x y) st
def kCmpT (o : Cop) (va vb : Va) (st : Store) : Res Bool := ldk va st fun x => ldk vb st fun y => ofB (opCmp o x y) st
def kIdx (va vb : Va) (st : Store) : Res Va := ldk va st fun x => ldk vb st fun y => ofO (opIdx x y) st
def kB2 (f : B2) (va vb : Va) (st : Store) : Res Va := ldk va st fun x => ldk vb st fun y => ofO (opB2 f x y) st
def kB1 (f : B1) (r : Bool) (va : Va) (st : Store) : Res Va := ldk va st fun x => mkO r (opB1 f x) st
def kIsi (t : Ty) (va : Va) (st : Store) : Res Va := ldk va st fun x => ofB' (opIsi t x) st
def kNot (va : Va) (st : Store) : Res Va := ldk va st fun x => .ok (.d (.bl (!truD x))) st
def kTr (va : Va) (st : Store) : Res Bool := ldk va st fun x => .ok (truD x) st
def kAnd (c : Calls) (b : Ex) (env : Env) (va : Va) (st : Store) : Res Va := ldk va st fun x => if truD x then evE c b env st else .ok va st
def kOr (c : Calls) (b : Ex) (env : Env) (va : Va) (st : Store) : Res Va := ldk va st fun x => if truD x then .ok va st else evE c b env st
def kIfe (c : Calls) (a b : Ex) (env : Env) (k : Bool) (st : Store) : Res Va := if k then evE c a env st else evE c b env st
def andB (c : Calls) (b : Te) (env : Env) (k : Bool) (st : Store) : Res Bool := if k then evT c b env st else .ok false st
def orB (c : Calls) (b : Te) (env : Env) (k : Bool) (st : Store) : Res Bool := if k then .ok true st else evT c b env st
def notB (k : Bool) (st : Store) : Res Bool := .ok (!k) st
def lK (c : Calls) (r : Exs) (env : Env) (v : Va) (st : Store) : Res (List Va) := (evL c r env st).bind fun vs st2 => .ok (v :: vs) st2
def lK2 (v : Va) (vs : List Va) (st : Store) : Res (List Va) := .ok (v :: vs) st
def kSlc1 (c : Calls) (lo hi : Op) (env : Env) (va : Va) (st : Store) : Res Va := (evO c lo env st).bind fun l st2 => (evO c hi env st2).bind fun h st3 => ldk va st3 fun x => ofO (opSlc x l h) st3
def kSlc2 (c : Calls) (hi : Op) (env : Env) (va : Va) (l : Option Int) (st : Store) : Res Va := (evO c hi env st).bind fun h st3 => ldk va st3 fun x => ofO (opSlc x l h) st3
def kSlc3 (va : Va) (l h : Option Int) (st : Store) : Res Va := ldk va st fun x => ofO (opSlc x l h) st
def k21 (c : Calls) (o p : Cop) (b e : Ex) (env : Env) (va : Va) (st : Store) : Res Va := (evE c b env st).bind fun vb st2 => ldk va st2 fun x => ldk vb st2 fun y => (ofB (opCmp o x y) st2).bind fun k st3 =>
      if k then (evE c e env st3).bind fun ve st4 => ldk vb st4 fun y => ldk ve st4 fun z => ofB' (opCmp p y z) st4 else .ok (.d (.bl false)) st3
def k22 (c : Calls) (o p : Cop) (e : Ex) (env : Env) (va vb : Va) (st : Store) : Res Va := ldk va st fun x => ldk vb st fun y => (ofB (opCmp o x y) st).bind fun k st3 =>
      if k then (evE c e env st3).bind fun ve st4 => ldk vb st4 fun y => ldk ve st4 fun z => ofB' (opCmp p y z) st4 else .ok (.d (.bl false)) st3
def k23 (c : Calls) (p : Cop) (e : Ex) (env : Env) (vb : Va) (k : Bool) (st : Store) : Res Va := if k then (evE c e env st).bind fun ve st4 => ldk vb st4 fun y => ldk ve st4 fun z => ofB' (opCmp p y z) st4 else .ok (.d (.bl false)) st
def t21 (c : Calls) (o p : Cop) (b e : Ex) (env : Env) (va : Va) (st : Store) : Res Bool := (evE c b env st).bind fun vb st2 => ldk va st2 fun x => ldk vb st2 fun y => (ofB (opCmp o x y) st2).bind fun k st3 =>
      if k then (evE c e env st3).bind fun ve st4 => ldk vb st4 fun y => ldk ve st4 fun z => ofB (opCmp p y z) st4 else .ok false st3
def t22 (c : Calls) (o p : Cop) (e : Ex) (env : Env) (va vb : Va) (st : Store) : Res Bool := ldk va st fun x => ldk vb st fun y => (ofB (opCmp o x y) st).bind fun k st3 =>
      if k then (evE c e env st3).bind fun ve st4 => ldk vb st4 fun y => ldk ve st4 fun z => ofB (opCmp p y z) st4 else .ok false st3
def t23 (c : Calls) (p : Cop) (e : Ex) (env : Env) (vb : Va) (k : Bool) (st : Store) : Res Bool := if k then (evE c e env st).bind fun ve st4 => ldk vb st4 fun y => ldk ve st4 fun z => ofB (opCmp p y z) st4 else .ok false st
def kMth (c : Calls) (m : Mt) (es : Exs) (env : Env) (vo : Va) (st : Store) : Res Va := ldk vo st fun x => if mtAt m x then (evL c es env st).bind fun vs st2 => mthV m vo vs st2 else .no
def kEnu (va : Va) (st : Store) : Res Wk := ldk va st fun x => wkN va st x
def kItm (va : Va) (st : Store) : Res Wk := ldk va st fun x => wkE va st x
def kRev (va : Va) (st : Store) : Res Wk := ldk va st fun x => wkV va st x
def kZip (va vb : Va) (st : Store) : Res Wk := ldk va st fun x => ldk vb st fun y => wkZ va vb st x y
def kComp (c : Calls) (r : Bool) (own : List Nat) (tg : Tg) (ifs : Op') (elt : Ex) (env : Env) (w : Wk) (st : Store) : Res Va :=
  (compM (bindT tg) (evQ c ifs) (evE c elt) w.2 w.1 (wipeE own env) st).bind fun ys st2 => mk r (.lst ys) st2
def kLst (r : Bool) (ys : List D) (st : Store) : Res Va := mk r (.lst ys) st
section
variable {c : Calls} {env : Env} {st : Store}
theorem x_var {i : Nat} : evE c (.var i) env st = varR env[i]? st := id rfl
theorem x_varR {v : Va} : varR (some (some v)) st = .ok v st := id rfl
theorem x_gl {i : Nat} {x : D} : evE c (.gl i x) env st = .ok (.d x) st := id rfl
theorem x_non : evE c .non env st = .ok (.d .non) st := id rfl
theorem x_bl {x : Bool} : evE c (.bl x) env st = .ok (.d (.bl x)) st := id rfl
theorem x_int {x : Int} : evE c (.int x) env st = .ok (.d (.int x)) st := id rfl
theorem x_str {x : List Nat} : evE c (.str x) env st = .ok (.d (.str x)) st := id rfl
theorem x_bin {o : Bop} {a b : Ex} : evE c (.bin o a b) env st = e1 (e2 c b env (kBin o)) (evE c a env st) := id rfl
theorem x_binK {o : Bop} {x y : D} : kBin o (.d x) (.d y) st = ofO (opBin o x y) st := id rfl
theorem x_neg {a : Ex} : evE c (.neg a) env st = e1 negV (evE c a env st) := id rfl
theorem x_negK {x : Int} : negV (.d (.int x)) st = .ok (.d (.int (-x))) st := id rfl
theorem x_not {a : Ex} : evE c (.not a) env st = e1 kNot (evE c a env st) := id rfl
theorem x_notK {x : D} : kNot (.d x) st = .ok (.d (.bl (!truD x))) st := id rfl
theorem x_cmp {o : Cop} {a b : Ex} : evE c (.cmp o a b) env st = e1 (e2 c b env (kCmp o)) (evE c a env st) := id rfl
theorem x_cmpK {o : Cop} {x y : D} : kCmp o (.d x) (.d y) st = ofB' (opCmp o x y) st := id rfl
theorem x_cmp2 {o p : Cop} {a b e : Ex} : evE c (.cmp2 o p a b e) env st = e1 (k21 c o p b e env) (evE c a env st) := id rfl
theorem x_k21 {o p : Cop} {b e : Ex} {va : Va} : k21 c o p b e env va st = e1 (k22 c o p e env va) (evE c b env st) := id rfl
theorem x_k22 {o p : Cop} {e : Ex} {x y : D} : k22 c o p e env (.d x) (.d y) st = e1 (k23 c p e env (.d y)) (ofB (opCmp o x y) st) := id rfl
theorem x_k23t {p : Cop} {e : Ex} {vb : Va} : k23 c p e env vb true st = e1 (kCmp p vb) (evE c e env st) := id rfl
theorem x_k23f {p : Cop} {e : Ex} {vb : Va} : k23 c p e env vb false st = .ok (.d (.bl false)) st := id rfl
theorem x_and {a b : Ex} : evE c (.and a b) env st = e1 (kAnd c b env) (evE c a env st) := id rfl
theorem x_or {a b : Ex} : evE c (.or a b) env st = e1 (kOr c b env) (evE c a env st) := id rfl
theorem x_andT {b : Ex} {x : D} (h : truD x = true) : kAnd c b env (.d x) st = evE c b env st := by show (if truD x then _ else _) = _; rw [h]; rfl
theorem x_andF {b : Ex} {x : D} (h : truD x = false) : kAnd c b env (.d x) st = .ok (.d x) st := by show (if truD x then _ else _) = _; rw [h]; rfl
theorem x_orT {b : Ex} {x : D} (h : truD x = true) : kOr c b env (.d x) st = .ok (.d x) st := by show (if truD x then _ else _) = _; rw [h]; rfl
theorem x_orF {b : Ex} {x : D} (h : truD x = false) : kOr c b env (.d x) st = evE c b env st := by show (if truD x then _ else _) = _; rw [h]; rfl
theorem x_ife {t : Te} {a b : Ex} : evE c (.ife t a b) env st = e1 (kIfe c a b env) (evT c t env st) := id rfl
theorem x_ifeT {a b : Ex} : kIfe c a b env true st = evE c a env st := id rfl
theorem x_ifeF {a b : Ex} : kIfe c a b env false st = evE c b env st := id rfl
theorem x_tup {es : Exs} : evE c (.tup es) env st = e1 tupV (evL c es env st) := id rfl
theorem x_lst {r : Bool} {es : Exs} : evE c (.lst r es) env st = e1 (lstV r) (evL c es env st) := id rfl
theorem x_idx {a b : Ex} : evE c (.idx a b) env st = e1 (e2 c b env kIdx) (evE c a env st) := id rfl
theorem x_idxK {x y : D} : kIdx (.d x) (.d y) st = ofO (opIdx x y) st := id rfl
theorem x_idxR {i : Nat} {y : D} {ds : List D} (h : st[i]? = some (.lst ds)) : kIdx (.r i) (.d y) st = ofO (opIdx (.lst ds) y) st := by unfold kIdx; rw [l_l h]; rfl
theorem x_slc {a : Ex} {lo hi : Op} : evE c (.slc a lo hi) env st = e1 (kSlc1 c lo hi env) (evE c a env st) := id rfl
theorem x_slc1 {lo hi : Op} {va : Va} : kSlc1 c lo hi env va st = e1 (kSlc2 c hi env va) (evO c lo env st) := id rfl
theorem x_slc2 {hi : Op} {va : Va} {l : Option Int} : kSlc2 c hi env va l st = e1 (kSlc3 va l) (evO c hi env st) := id rfl
theorem x_slc3 {x : D} {l h : Option Int} : kSlc3 (.d x) l h st = ofO (opSlc x l h) st := id rfl
theorem x_on : evO c .none env st = .ok none st := id rfl
theorem x_os {e : Ex} : evO c (.some e) env st = e1 intV (evE c e env st) := id rfl
theorem x_intV {i : Int} : intV (.d (.int i)) st = .ok (some i) st := id rfl
theorem x_b1 {f : B1} {r : Bool} {a : Ex} : evE c (.b1 f r a) env st = e1 (kB1 f r) (evE c a env st) := id rfl
theorem x_b1K {f : B1} {r : Bool} {x : D} : kB1 f r (.d x) st = mkO r (opB1 f x) st := id rfl
theorem x_b1R {f : B1} {r : Bool} {i : Nat} {ds : List D} (h : st[i]? = some (.lst ds)) : kB1 f r (.r i) st = mkO r (opB1 f (.lst ds)) st := by unfold kB1; rw [l_l h]
theorem x_b2 {f : B2} {a b : Ex} : evE c (.b2 f a b) env st = e1 (e2 c b env (kB2 f)) (evE c a env st) := id rfl
theorem x_b2K {f : B2} {x y : D} : kB2 f (.d x) (.d y) st = ofO (opB2 f x y) st := id rfl
theorem x_isi {a : Ex} {t : Ty} : evE c (.isi a t) env st = e1 (kIsi t) (evE c a env st) := id rfl
theorem x_isiK {x : D} {t : Ty} : kIsi t (.d x) st = ofB' (opIsi t x) st := id rfl
theorem x_call {f : Nat} {es : Exs} : evE c (.call f es) env st = e1 (c f) (evL c es env st) := id rfl
theorem x_comp {r : Bool} {own : List Nat} {tg : Tg} {it : Src} {ifs : Op'} {elt : Ex} : evE c (.comp r own tg it ifs elt) env st = e1 (kComp c r own tg ifs elt env) (evI c it env st) := id rfl
theorem x_compK {r : Bool} {own : List Nat} {tg : Tg} {ifs : Op'} {elt : Ex} {xs : List D} {gd : Store → Bool} : kComp c r own tg ifs elt env (xs, gd) st = e1 (kLst r) (compM (bindT tg) (evQ c ifs) (evE c elt) gd xs (wipeE own env) st) := id rfl
theorem x_kLst {ys : List D} : kLst false ys st = .ok (.d (.lst ys)) st := id rfl
theorem x_mth {m : Mt} {o : Ex} {es : Exs} : evE c (.mth m o es) env st = e1 (kMth c m es env) (evE c o env st) := id rfl
theorem x_fz {a : Ex} : evE c (.fz a) env st = e1 fzV (evE c a env st) := id rfl
theorem x_fzd {x : D} : fzV (.d x) st = .ok (.d x) st := id rfl
theorem x_lnil : evL c .nil env st = .ok [] st := id rfl
theorem x_lcons {e : Ex} {r : Exs} : evL c (.cons e r) env st = e1 (lK c r env) (evE c e env st) := id rfl
theorem x_lK {r : Exs} {v : Va} : lK c r env v st = e1 (lK2 v) (evL c r env st) := id rfl
theorem x_lK2 {v : Va} {vs : List Va} : lK2 v vs st = .ok (v :: vs) st := id rfl
theorem x_qn : evQ c .none env st = .ok true st := id rfl
theorem x_qs {t : Te} : evQ c (.some t) env st = evT c t env st := id rfl
theorem t_trE {a : Ex} : evT c (.tr a) env st = e1 kTr (evE c a env st) := id rfl
theorem t_trK {x : D} : kTr (.d x) st = .ok (truD x) st := id rfl
theorem t_cmpE {o : Cop} {a b : Ex} : evT c (.cmp o a b) env st = e1 (e2 c b env (kCmpT o)) (evE c a env st) := id rfl
theorem t_cmpK {o : Cop} {x y : D} : kCmpT o (.d x) (.d y) st = ofB (opCmp o x y) st := id rfl
theorem t_cmp2E {o p : Cop} {a b e : Ex} : evT c (.cmp2 o p a b e) env st = e1 (t21 c o p b e env) (evE c a env st) := id rfl
theorem t_t21 {o p : Cop} {b e : Ex} {va : Va} : t21 c o p b e env va st = e1 (t22 c o p e env va) (evE c b env st) := id rfl
theorem t_t22 {o p : Cop} {e : Ex} {x y : D} : t22 c o p e env (.d x) (.d y) st = e1 (t23 c p e env (.d y)) (ofB (opCmp o x y) st) := id rfl
theorem t_t23t {p : Cop} {e : Ex} {vb : Va} : t23 c p e env vb true st = e1 (kCmpT p vb) (evE c e env st) := id rfl
theorem t_t23f {p : Cop} {e : Ex} {vb : Va} : t23 c p e env vb false st = .ok false st := id rfl
theorem t_notE {t : Te} : evT c (.not t) env st = e1 notB (evT c t env st) := id rfl
theorem t_notK {b : Bool} : notB b st = .ok (!b) st := id rfl
theorem t_andE {a b : Te} : evT c (.and a b) env st = e1 (andB c b env) (evT c a env st) := id rfl
theorem t_andT {b : Te} : andB c b env true st = evT c b env st := id rfl
theorem t_andF {b : Te} : andB c b env false st = .ok false st := id rfl
theorem t_orE {a b : Te} : evT c (.or a b) env st = e1 (orB c b env) (evT c a env st) := id rfl
theorem t_orT {b : Te} : orB c b env true st = .ok true st := id rfl
theorem t_orF {b : Te} : orB c b env false st = evT c b env st := id rfl
theorem i_eE {a : Ex} : evI c (.e a) env st = e1 kItm (evE c a env st) := id rfl
theorem i_strK {s : List Nat} : kItm (.d (.str s)) st = .ok (s.map fun c => .str [c], fun _ => true) st := id rfl
theorem i_lstK {xs : List D} : kItm (.d (.lst xs)) st = .ok (xs, fun _ => true) st := id rfl
theorem i_tupK {xs : List D} : kItm (.d (.tup xs)) st = .ok (xs, fun _ => true) st := id rfl
theorem i_rngE {es : Exs} : evI c (.rng es) env st = e1 wkR (evL c es env st) := id rfl
theorem i_enuE {a : Ex} : evI c (.enu a) env st = e1 kEnu (evE c a env st) := id rfl
theorem i_enuK {xs : List D} : kEnu (.d (.lst xs)) st = .ok (enuL 0 xs, fun _ => true) st := id rfl
theorem i_revE {a : Ex} : evI c (.rev a) env st = e1 kRev (evE c a env st) := id rfl
theorem i_zipE {a b : Ex} : evI c (.zip a b) env st = e1 (e2 c b env kZip) (evE c a env st) := id rfl
theorem i_zipL {xs ys : List D} : kZip (.d (.lst xs)) (.d (.lst ys)) st = .ok (zipL xs ys, fun _ => true) st := id rfl
theorem i_zipT {xs ys : List D} : kZip (.d (.tup xs)) (.d (.tup ys)) st = .ok (zipL xs ys, fun _ => true) st := id rfl
end
def trK (c : Calls) (hs : Hds) (o : Stms) (r : SRes) : SRes := r.tr (evSs c o) (evH hs)
def hdK (nm : Option Nat) (b : Stms) (r : Hds) (n : Nat) (env : Env) (st : Store) (o : Option Bool) : SRes := match o with
  | some true => (match nm with
    | none => noEr (evSs c0 b env st)
    | some i => exq fun a => unS i (evSs (cE a n) b (env.set i (some (.e a))) st))
  | some false => evH r n env st
  | none => .no
def hrK (k : Nat) (r : Hds) (n : Nat) (env : Env) (st : Store) (o : Option Bool) : SRes := match o with
  | some true => if n % 2 = 0 then .er (2 * k + 1) env st else .no
  | some false => evH r n env st
  | none => .no
section
variable {c : Calls} {env : Env} {st : Store}
theorem p_rse {k : Nat} : evS c (.rse k) env st = .er (2 * k) env st := id rfl
theorem p_try {b : Stms} {hs : Hds} {o : Stms} : evS c (.try_ b hs o) env st = trK c hs o (evSs c b env st) := id rfl
theorem tr_nx {hs : Hds} {o : Stms} : trK c hs o (.nx env st) = evSs c o env st := id rfl
theorem tr_rt {hs : Hds} {o : Stms} {va : Va} : trK c hs o (.rt va st) = .rt va st := id rfl
theorem tr_er {hs : Hds} {o : Stms} {n : Nat} : trK c hs o (.er n env st) = evH hs n env st := id rfl
theorem h_nil {n : Nat} : evH .nil n env st = .er (2 * (n / 2) + 1) env st := id rfl
theorem h_cons {row : List Bool} {nm : Option Nat} {b : Stms} {r : Hds} {n : Nat} : evH (.cons row nm b r) n env st = hdK nm b r n env st row[n / 2]? := id rfl
theorem h_rse {row : List Bool} {k : Nat} {r : Hds} {n : Nat} : evH (.rse row k r) n env st = hrK k r n env st row[n / 2]? := id rfl
theorem h_t0 {b : Stms} {r : Hds} {n : Nat} : hdK none b r n env st (some true) = noEr (evSs c0 b env st) := id rfl
theorem h_tS {i : Nat} {b : Stms} {r : Hds} {n : Nat} : hdK (some i) b r n env st (some true) = exq fun a => unS i (evSs (cE a n) b (env.set i (some (.e a))) st) := id rfl
theorem h_f {nm : Option Nat} {b : Stms} {r : Hds} {n : Nat} : hdK nm b r n env st (some false) = evH r n env st := id rfl
theorem hr_t {k : Nat} {r : Hds} {n : Nat} (h : n % 2 = 0) : hrK k r n env st (some true) = .er (2 * k + 1) env st := by show (if n % 2 = 0 then _ else _) = _; rw [if_pos h]
theorem hr_f {k : Nat} {r : Hds} {n : Nat} : hrK k r n env st (some false) = evH r n env st := id rfl
theorem no_nx : noEr (.nx env st) = .nx env st := id rfl
theorem no_rt {va : Va} : noEr (.rt va st) = .rt va st := id rfl
theorem un_nx {i : Nat} : unS i (.nx env st) = .nx (env.set i none) st := id rfl
theorem un_rt {i : Nat} {va : Va} : unS i (.rt va st) = .rt va st := id rfl
theorem exq_of {f : Nat → SRes} {r : SRes} (h : ∀ a, f a = r) : exq f = r := by
  have : f = fun _ => r := funext h
  rw [this]; exact exq_const r
def isEV (c : Calls) (row : List Bool) (o : Option (Option Va)) (st : Store) : Res Va := match o with
  | some (some (.e a)) => isEM a row (c 0 [] st)
  | _ => .no
theorem x_isE {i : Nat} {row : List Bool} : evE c (.isE i row) env st = isEV c row env[i]? st := id rfl
theorem x_isEV {a n : Nat} {row : List Bool} : isEV (cE a n) row (some (some (.e a))) st = ofB' row[n / 2]? st := by
  simp only [isEV, cE, isEM, if_true, Int.toNat_natCast]
theorem b_dictT {ds : List D} : opB1 .dict (.tup ds) = (dictOf ds [] []).map fun q => .dct q.1 q.2 := id rfl
theorem b_tupL {ds : List D} : opB1 .tuple (.lst ds) = some (.tup ds) := id rfl
theorem exit_er {n c : Nat} : exitV n (.er c env st) = .er c (st.take n) := id rfl
/-- a thing of the store: a list -/
theorem x_app0 {es : Exs} {i : Nat} {ds : List D} (h : st[i]? = some (.lst ds)) : kMth c .lapp es env (.r i) st = e1 (mthV .lapp (.r i)) (evL c es env st) := by
  unfold kMth
  rw [l_l h]
  rfl
theorem x_app1 {i : Nat} {ds : List D} {x : D} (h : st[i]? = some (.lst ds)) (z : ds.length < SZ) : mthV .lapp (.r i) [.d x] st = .ok (.d .non) (st.set i (.lst (ds ++ [x]))) := by
  have e : effO .lapp st[i]? [x] = some (.lst (ds ++ [x]), .non) := by
    rw [h]
    show (if ds.length < SZ then _ else _) = _
    rw [if_pos z]
  show effR i (effO .lapp st[i]? [x]) st = _
  rw [e]; rfl
end
end
end Ev

namespace Ev
theorem callM_of {fs : List Fn} {i p n : Nat} {b : Stms} (h : fs[i]? = some ⟨p, n, b⟩) {k : Nat} {vs : List Va} {st : Store} (hl : vs.length = p) : callM fs (k + 1) i vs st = exitV st.length (evSs (callM fs k) b (start' n vs) st) := by
  simp only [callM, h, runF]
  rw [if_pos hl]
theorem call_1 {fs : List Fn} {i n : Nat} {b : Stms} (h : fs[i]? = some ⟨1, n, b⟩) (r : Env) (hr : List.replicate (n - 1) none = r) {k : Nat} {v1 : Va} {st : Store} : callM fs (k + 1) i [v1] st = exitV st.length (evSs (callM fs k) b (some v1 :: r) st) := by
  subst hr; exact callM_of h rfl
theorem call_2 {fs : List Fn} {i n : Nat} {b : Stms} (h : fs[i]? = some ⟨2, n, b⟩) (r : Env) (hr : List.replicate (n - 2) none = r) {k : Nat} {v1 v2 : Va} {st : Store} : callM fs (k + 1) i [v1, v2] st = exitV st.length (evSs (callM fs k) b (some v1 :: some v2 :: r) st) := by
  subst hr; exact callM_of h rfl
theorem call_3 {fs : List Fn} {i n : Nat} {b : Stms} (h : fs[i]? = some ⟨3, n, b⟩) (r : Env) (hr : List.replicate (n - 3) none = r) {k : Nat} {v1 v2 v3 : Va} {st : Store} : callM fs (k + 1) i [v1, v2, v3] st = exitV st.length (evSs (callM fs k) b (some v1 :: some v2 :: some v3 :: r) st) := by
  subst hr; exact callM_of h rfl
theorem o_div' {i j : Int} (h : 0 < j) (h2 : j.natAbs < 2 ^ 4096) : opBin .fdiv (.int i) (.int j) = some (.int (i / j)) := by
  simp only [opBin]
  rw [if_pos ⟨h, h2⟩]
def B_digit : Stms := .cons (.asg (.v 2) (.bin .mod (.idx (.var 0) (.int 0)) (.var 1))) (.cons (.put (.var 0) (.int 0) (.bin .fdiv (.idx (.var 0) (.int 0)) (.var 1))) (.cons (.ret (.var 2)) .nil))
theorem digit_ok {fs : List Fn} {d : Nat} (hd : fs[d]? = some ⟨2, 3, B_digit⟩) (k : Nat) {st : Store} {i : Nat} {v m : Int} (h : Row st i v) (hm : 0 < m) (hb : m.natAbs < 2 ^ 4096) :
    callM fs (k + 1) d [.r i, .d (.int m)] st = .ok (.d (.int (v % m))) (sR st i (v / m)) := by
  rw [call_2 hd [none] rfl]
  unfold B_digit
  simp (decide := true) only [q_nx, q_rt, q_er, s1_ok, s1_er, p_nil, p_cons, p_asg, p_asgK, p_par, p_put, p_put1, p_put2, p_exp, p_expK, p_ret, p_retK, p_retN, p_pas, p_ite, p_ite_t, p_ite_f, p_for, p_forK, p_whl, e1_ok, e1_er, e2_ok, x_var, x_varR, x_gl, x_non, x_bl, x_int, x_str, x_bin, x_binK, x_neg, x_negK, x_not, x_notK, x_cmp, x_cmpK, x_cmp2, x_k21, x_k22, x_k23t, x_k23f, x_and, x_or, x_andT, x_andF, x_orT, x_orF, x_ife, x_ifeT, x_ifeF, x_tup, x_lst, x_idx, x_idxK, x_slc, x_slc1, x_slc2, x_slc3, x_on, x_os, x_intV, x_b1, x_b1K, x_b2, x_b2K, x_isi, x_isiK, x_call, x_comp, x_compK, x_kLst, x_mth, x_fz, x_fzd, x_lnil, x_lcons, x_lK, x_lK2, x_qn, x_qs, t_trE, t_trK, t_cmpE, t_cmpK, t_cmp2E, t_t21, t_t22, t_t23t, t_t23f, t_notE, t_notK, t_andE, t_andT, t_andF, t_orE, t_orT, t_orF, i_eE, i_strK, i_lstK, i_tupK, i_rngE, i_enuE, i_enuK, i_revE, i_zipE, i_zipL, i_zipT, v_some, b_some, b_some', List.getElem?_cons_zero, List.getElem?_cons_succ, List.set_cons_zero, List.set_cons_succ, okR_ok, okS_nx, okS_rt, o_add, o_sub, o_mod, o_div, o_mulR, o_mulL, o_pow, b_lenL, b_lenT, b_lenS, b_sum, b_min, b_max, mkO_f, mk_f, mk_t, ds_nil, ds_cons, ds_consO, lstV_of, lstV_ofK, tupV_of, tupV_ofK, exit_new, c_eq, c_ne, c_lt, c_gt, c_le, c_ge, c_eqs, exit_d, take_self, if_true, if_false, Bool.false_eq_true, Bool.true_eq_false, Bool.not_true, Bool.not_false, Int.reduceToNat, Int.reducePow, wk_rng, slc_s, slc_l, slc_t, idx_l, idx_t, c_ins, c_isb, c_nebb, c_eqbb, isi_bl, wipeE, List.foldl_cons, List.foldl_nil, bindT_v, truD, dec_t, dec_f, p_rse, p_try, tr_nx, tr_rt, tr_er, h_nil, h_cons, h_rse, h_t0, h_tS, h_f, hr_t, hr_f, no_nx, no_rt, un_nx, un_rt, x_isE, x_isEV, b_tupL, exit_er, Nat.reduceMul, Nat.reduceDiv, Nat.reduceAdd, Nat.reduceMod, x_idxR h, opIdx, ix_0, o_mod hm, o_div' hm hb, putK3, put_row h]
  rw [← sR_len (st := st) (i := i) (v := v / m), take_self]
theorem p64 {m : Int} (h : m.natAbs < 2 ^ 64) : m.natAbs < 2 ^ 4096 := Nat.lt_trans h (by decide +kernel)
def B_mixed : Stms := .cons (.asg (.v 2) (.bin .mod (.bin .mul (.bin .add (.bin .add (.bin .mod (.var 0) (.int 1000000007)) (.bin .mul (.int 7919) (.var 1))) (.int 1)) (.int 48271)) (.int 2147483647)))
  (.cons (.ret (.bin .mod (.bin .mul (.bin .mod (.bin .mul (.var 2) (.var 2)) (.int 2147483629)) (.int 69621)) (.int 2147483647))) .nil)
theorem mixed_ok {fs : List Fn} {d : Nat} (hd : fs[d]? = some ⟨2, 3, B_mixed⟩) (k : Nat) {st : Store} {a b : Int} : ∃ c : Int, callM fs (k + 1) d [.d (.int a), .d (.int b)] st = .ok (.d (.int c)) st := by
  rw [call_2 hd [none] rfl]
  refine ⟨(((a % 1000000007 + 7919 * b + 1) * 48271 % 2147483647) * ((a % 1000000007 + 7919 * b + 1) * 48271 % 2147483647) % 2147483629 * 69621) % 2147483647, ?_⟩
  unfold B_mixed
  simp (decide := true) only [q_nx, q_rt, q_er, s1_ok, s1_er, p_nil, p_cons, p_asg, p_asgK, p_par, p_put, p_put1, p_put2, p_exp, p_expK, p_ret, p_retK, p_retN, p_pas, p_ite, p_ite_t, p_ite_f, p_for, p_forK, p_whl, e1_ok, e1_er, e2_ok, x_var, x_varR, x_gl, x_non, x_bl, x_int, x_str, x_bin, x_binK, x_neg, x_negK, x_not, x_notK, x_cmp, x_cmpK, x_cmp2, x_k21, x_k22, x_k23t, x_k23f, x_and, x_or, x_andT, x_andF, x_orT, x_orF, x_ife, x_ifeT, x_ifeF, x_tup, x_lst, x_idx, x_idxK, x_slc, x_slc1, x_slc2, x_slc3, x_on, x_os, x_intV, x_b1, x_b1K, x_b2, x_b2K, x_isi, x_isiK, x_call, x_comp, x_compK, x_kLst, x_mth, x_fz, x_fzd, x_lnil, x_lcons, x_lK, x_lK2, x_qn, x_qs, t_trE, t_trK, t_cmpE, t_cmpK, t_cmp2E, t_t21, t_t22, t_t23t, t_t23f, t_notE, t_notK, t_andE, t_andT, t_andF, t_orE, t_orT, t_orF, i_eE, i_strK, i_lstK, i_tupK, i_rngE, i_enuE, i_enuK, i_revE, i_zipE, i_zipL, i_zipT, v_some, b_some, b_some', List.getElem?_cons_zero, List.getElem?_cons_succ, List.set_cons_zero, List.set_cons_succ, okR_ok, okS_nx, okS_rt, o_add, o_sub, o_mod, o_div, o_mulR, o_mulL, o_pow, b_lenL, b_lenT, b_lenS, b_sum, b_min, b_max, mkO_f, mk_f, mk_t, ds_nil, ds_cons, ds_consO, lstV_of, lstV_ofK, tupV_of, tupV_ofK, exit_new, c_eq, c_ne, c_lt, c_gt, c_le, c_ge, c_eqs, exit_d, take_self, if_true, if_false, Bool.false_eq_true, Bool.true_eq_false, Bool.not_true, Bool.not_false, Int.reduceToNat, Int.reducePow, wk_rng, slc_s, slc_l, slc_t, idx_l, idx_t, c_ins, c_isb, c_nebb, c_eqbb, isi_bl, wipeE, List.foldl_cons, List.foldl_nil, bindT_v, truD, dec_t, dec_f, p_rse, p_try, tr_nx, tr_rt, tr_er, h_nil, h_cons, h_rse, h_t0, h_tS, h_f, hr_t, hr_f, no_nx, no_rt, un_nx, un_rt, x_isE, x_isEV, b_tupL, exit_er, Nat.reduceMul, Nat.reduceDiv, Nat.reduceAdd, Nat.reduceMod]
  rw [o_mulR (by omega)]
  simp (decide := true) only [q_nx, q_rt, q_er, s1_ok, s1_er, p_nil, p_cons, p_asg, p_asgK, p_par, p_put, p_put1, p_put2, p_exp, p_expK, p_ret, p_retK, p_retN, p_pas, p_ite, p_ite_t, p_ite_f, p_for, p_forK, p_whl, e1_ok, e1_er, e2_ok, x_var, x_varR, x_gl, x_non, x_bl, x_int, x_str, x_bin, x_binK, x_neg, x_negK, x_not, x_notK, x_cmp, x_cmpK, x_cmp2, x_k21, x_k22, x_k23t, x_k23f, x_and, x_or, x_andT, x_andF, x_orT, x_orF, x_ife, x_ifeT, x_ifeF, x_tup, x_lst, x_idx, x_idxK, x_slc, x_slc1, x_slc2, x_slc3, x_on, x_os, x_intV, x_b1, x_b1K, x_b2, x_b2K, x_isi, x_isiK, x_call, x_comp, x_compK, x_kLst, x_mth, x_fz, x_fzd, x_lnil, x_lcons, x_lK, x_lK2, x_qn, x_qs, t_trE, t_trK, t_cmpE, t_cmpK, t_cmp2E, t_t21, t_t22, t_t23t, t_t23f, t_notE, t_notK, t_andE, t_andT, t_andF, t_orE, t_orT, t_orF, i_eE, i_strK, i_lstK, i_tupK, i_rngE, i_enuE, i_enuK, i_revE, i_zipE, i_zipL, i_zipT, v_some, b_some, b_some', List.getElem?_cons_zero, List.getElem?_cons_succ, List.set_cons_zero, List.set_cons_succ, okR_ok, okS_nx, okS_rt, o_add, o_sub, o_mod, o_div, o_mulR, o_mulL, o_pow, b_lenL, b_lenT, b_lenS, b_sum, b_min, b_max, mkO_f, mk_f, mk_t, ds_nil, ds_cons, ds_consO, lstV_of, lstV_ofK, tupV_of, tupV_ofK, exit_new, c_eq, c_ne, c_lt, c_gt, c_le, c_ge, c_eqs, exit_d, take_self, if_true, if_false, Bool.false_eq_true, Bool.true_eq_false, Bool.not_true, Bool.not_false, Int.reduceToNat, Int.reducePow, wk_rng, slc_s, slc_l, slc_t, idx_l, idx_t, c_ins, c_isb, c_nebb, c_eqbb, isi_bl, wipeE, List.foldl_cons, List.foldl_nil, bindT_v, truD, dec_t, dec_f, p_rse, p_try, tr_nx, tr_rt, tr_er, h_nil, h_cons, h_rse, h_t0, h_tS, h_f, hr_t, hr_f, no_nx, no_rt, un_nx, un_rt, x_isE, x_isEV, b_tupL, exit_er, Nat.reduceMul, Nat.reduceDiv, Nat.reduceAdd, Nat.reduceMod]
def B_stream (m : Nat) : Stms := .cons (.asg (.v 2) (.int 0)) (.cons (.for_ (.v 3) (.rng (.cons (.var 1) (.cons (.b1 .len false (.var 0)) (.cons (.int 9) .nil))))
    (.cons (.asg (.v 2) (.bin .add (.bin .mul (.var 2) (.bin .pow (.int 10) (.int 60))) (.bin .mod (.idx (.var 0) (.var 3)) (.bin .pow (.int 10) (.int 60))))) .nil))
  (.cons (.ite (.cmp .ge (.var 2) (.bin .pow (.int 10) (.int 18))) (.cons (.ret (.lst true (.cons (.var 2) .nil))) .nil) .nil)
  (.cons (.asg (.v 4) (.int 0))
  (.cons (.for_ (.v 3) (.rng (.cons (.int 9) .nil)) (.cons (.asg (.v 4) (.bin .add (.bin .mul (.var 4) (.int 2147483647)) (.call m (.cons (.bin .add (.bin .add (.var 2) (.bin .mul (.int 1009) (.var 1))) (.b1 .len false (.var 0))) (.cons (.var 3) .nil))))) .nil))
  (.cons (.ret (.lst true (.cons (.bin .fdiv (.var 4) (.int 8)) .nil))) .nil)))))
theorem wk_rng3 {lo hi c : Int} {st : Store} (h : -(2 ^ 61) ≤ lo ∧ lo < 2 ^ 61 ∧ -(2 ^ 61) ≤ hi ∧ hi < 2 ^ 61 ∧ 0 < c ∧ c < 536870912 ∧ hi - lo ≤ SZ) : wkR [.d (.int lo), .d (.int hi), .d (.int c)] st = .ok (rngC lo c (rngN lo hi c), fun _ => true) st := by
  simp only [wkR, rngOf]
  rw [if_pos h]
theorem rngC_get {lo c : Int} {n : Nat} : ∀ x ∈ rngC lo c n, ∃ j : Nat, j < n ∧ x = .int (lo + (j : Int) * c) := fun x hx => by
  unfold rngC at hx
  obtain ⟨j, h1, rfl⟩ := List.mem_map.mp hx
  exact ⟨j, List.mem_range.mp h1, rfl⟩
theorem rngN_lt {lo hi c : Int} (hc : 0 < c) {j : Nat} (h : j < rngN lo hi c) : lo + (j : Int) * c < hi ∧ lo < hi := by
  unfold rngN at h
  split at h
  · rename_i hlt
    have h1 : (j : Int) ≤ (hi - lo - 1) / c := by omega
    have h2 : (j : Int) * c ≤ (hi - lo - 1) / c * c := Int.mul_le_mul_of_nonneg_right h1 (by omega)
    have h3 := Int.ediv_mul_le (hi - lo - 1) (show c ≠ 0 by omega)
    omega
  · omega
/-- a walk whose items are told -/
theorem forM_mem {bd : D → Env → Option Env} {body : Env → Store → SRes} {gd : Store → Bool} {R : Va → Store → Prop} (P : D → Prop) (N : Nat) (I : Nat → Env → Store → Prop)
    (step : ∀ j x env st, j < N → P x → I j env st → ∃ env1, bd x env = some env1 ∧ okS (body env1 st) (fun e s => gd s = true ∧ I (j + 1) e s) R) :
    ∀ (xs : List D) (j : Nat) (env : Env) (st : Store), j + xs.length = N → (∀ x ∈ xs, P x) → I j env st → okS (forM bd body gd xs env st) (fun e s => I N e s) R
  | [], j, env, st, e, _, h => by
    obtain rfl : j = N := by simpa using e
    exact .nx h
  | x :: xs, j, env, st, e, hp, h => by
    rw [List.length_cons] at e
    obtain ⟨env1, e1, h1⟩ := step j x env st (by omega) (hp x List.mem_cons_self) h
    simp only [forM, e1]
    refine okS_bind (h1.mono (fun e s q => ?_) fun _ _ q => q)
    rw [if_pos q.1]
    exact forM_mem P N I step xs (j + 1) e s (by omega) (fun y hy => hp y (List.mem_cons_of_mem _ hy)) q.2
theorem o_mulB {i j : Int} (h1 : i.natAbs < 2 ^ 4096) (h2 : j.natAbs < 2 ^ 4096) : opBin .mul (.int i) (.int j) = some (.int (i * j)) := by
  have : mulOk i j = true := by unfold mulOk; rw [decide_eq_true h1, decide_eq_true h2, Bool.and_self, Bool.or_true]
  simp only [opBin, this, if_true]
theorem stream_ok {fs : List Fn} {d m : Nat} (hd : fs[d]? = some ⟨2, 5, B_stream m⟩) (hm : fs[m]? = some ⟨2, 3, B_mixed⟩) (k : Nat) {st : Store} {ns : List Int} {j : Nat} (hl : ns.length ≤ 64) (hj : j ≤ 1000) :
    ∃ v : Int, callM fs (k + 2) d [.d (.lst (ns.map D.int)), .d (.int j)] st = .ok (.r st.length) (st ++ [.lst [.int v]]) := by
  have key : okR (callM fs (k + 2) d [.d (.lst (ns.map D.int)), .d (.int j)] st) fun va st' => ∃ v : Int, va = .r st.length ∧ st' = st ++ [.lst [.int v]] := by
    rw [call_2 hd [none, none, none] rfl]
    refine okR_exit ?_
    unfold B_stream
    simp (decide := true) only [q_nx, q_rt, q_er, s1_ok, s1_er, p_nil, p_cons, p_asg, p_asgK, p_par, p_put, p_put1, p_put2, p_exp, p_expK, p_ret, p_retK, p_retN, p_pas, p_ite, p_ite_t, p_ite_f, p_for, p_forK, p_whl, e1_ok, e1_er, e2_ok, x_var, x_varR, x_gl, x_non, x_bl, x_int, x_str, x_bin, x_binK, x_neg, x_negK, x_not, x_notK, x_cmp, x_cmpK, x_cmp2, x_k21, x_k22, x_k23t, x_k23f, x_and, x_or, x_andT, x_andF, x_orT, x_orF, x_ife, x_ifeT, x_ifeF, x_tup, x_lst, x_idx, x_idxK, x_slc, x_slc1, x_slc2, x_slc3, x_on, x_os, x_intV, x_b1, x_b1K, x_b2, x_b2K, x_isi, x_isiK, x_call, x_comp, x_compK, x_kLst, x_mth, x_fz, x_fzd, x_lnil, x_lcons, x_lK, x_lK2, x_qn, x_qs, t_trE, t_trK, t_cmpE, t_cmpK, t_cmp2E, t_t21, t_t22, t_t23t, t_t23f, t_notE, t_notK, t_andE, t_andT, t_andF, t_orE, t_orT, t_orF, i_eE, i_strK, i_lstK, i_tupK, i_rngE, i_enuE, i_enuK, i_revE, i_zipE, i_zipL, i_zipT, v_some, b_some, b_some', List.getElem?_cons_zero, List.getElem?_cons_succ, List.set_cons_zero, List.set_cons_succ, okR_ok, okS_nx, okS_rt, o_add, o_sub, o_mod, o_div, o_mulR, o_mulL, o_pow, b_lenL, b_lenT, b_lenS, b_sum, b_min, b_max, mkO_f, mk_f, mk_t, ds_nil, ds_cons, ds_consO, lstV_of, lstV_ofK, tupV_of, tupV_ofK, exit_new, c_eq, c_ne, c_lt, c_gt, c_le, c_ge, c_eqs, exit_d, take_self, if_true, if_false, Bool.false_eq_true, Bool.true_eq_false, Bool.not_true, Bool.not_false, Int.reduceToNat, Int.reducePow, wk_rng, slc_s, slc_l, slc_t, idx_l, idx_t, c_ins, c_isb, c_nebb, c_eqbb, isi_bl, wipeE, List.foldl_cons, List.foldl_nil, bindT_v, truD, dec_t, dec_f, p_rse, p_try, tr_nx, tr_rt, tr_er, h_nil, h_cons, h_rse, h_t0, h_tS, h_f, hr_t, hr_f, no_nx, no_rt, un_nx, un_rt, x_isE, x_isEV, b_tupL, exit_er, Nat.reduceMul, Nat.reduceDiv, Nat.reduceAdd, Nat.reduceMod, List.length_map]
    rw [wk_rng3 (by refine ⟨?_, ?_, ?_, ?_, ?_, ?_, ?_⟩ <;> first | omega | (show _ ≤ (16777216 : Int); omega))]
    simp (decide := true) only [q_nx, q_rt, q_er, s1_ok, s1_er, p_nil, p_cons, p_asg, p_asgK, p_par, p_put, p_put1, p_put2, p_exp, p_expK, p_ret, p_retK, p_retN, p_pas, p_ite, p_ite_t, p_ite_f, p_for, p_forK, p_whl, e1_ok, e1_er, e2_ok, x_var, x_varR, x_gl, x_non, x_bl, x_int, x_str, x_bin, x_binK, x_neg, x_negK, x_not, x_notK, x_cmp, x_cmpK, x_cmp2, x_k21, x_k22, x_k23t, x_k23f, x_and, x_or, x_andT, x_andF, x_orT, x_orF, x_ife, x_ifeT, x_ifeF, x_tup, x_lst, x_idx, x_idxK, x_slc, x_slc1, x_slc2, x_slc3, x_on, x_os, x_intV, x_b1, x_b1K, x_b2, x_b2K, x_isi, x_isiK, x_call, x_comp, x_compK, x_kLst, x_mth, x_fz, x_fzd, x_lnil, x_lcons, x_lK, x_lK2, x_qn, x_qs, t_trE, t_trK, t_cmpE, t_cmpK, t_cmp2E, t_t21, t_t22, t_t23t, t_t23f, t_notE, t_notK, t_andE, t_andT, t_andF, t_orE, t_orT, t_orF, i_eE, i_strK, i_lstK, i_tupK, i_rngE, i_enuE, i_enuK, i_revE, i_zipE, i_zipL, i_zipT, v_some, b_some, b_some', List.getElem?_cons_zero, List.getElem?_cons_succ, List.set_cons_zero, List.set_cons_succ, okR_ok, okS_nx, okS_rt, o_add, o_sub, o_mod, o_div, o_mulR, o_mulL, o_pow, b_lenL, b_lenT, b_lenS, b_sum, b_min, b_max, mkO_f, mk_f, mk_t, ds_nil, ds_cons, ds_consO, lstV_of, lstV_ofK, tupV_of, tupV_ofK, exit_new, c_eq, c_ne, c_lt, c_gt, c_le, c_ge, c_eqs, exit_d, take_self, if_true, if_false, Bool.false_eq_true, Bool.true_eq_false, Bool.not_true, Bool.not_false, Int.reduceToNat, Int.reducePow, wk_rng, slc_s, slc_l, slc_t, idx_l, idx_t, c_ins, c_isb, c_nebb, c_eqbb, isi_bl, wipeE, List.foldl_cons, List.foldl_nil, bindT_v, truD, dec_t, dec_f, p_rse, p_try, tr_nx, tr_rt, tr_er, h_nil, h_cons, h_rse, h_t0, h_tS, h_f, hr_t, hr_f, no_nx, no_rt, un_nx, un_rt, x_isE, x_isEV, b_tupL, exit_er, Nat.reduceMul, Nat.reduceDiv, Nat.reduceAdd, Nat.reduceMod]
    have hcount : (rngC (j : Int) 9 (rngN (j : Int) (ns.length : Int) 9)).length ≤ 8 := by
      unfold rngC
      rw [List.length_map, List.length_range]
      unfold rngN
      split <;> omega
    refine okS_seq (forM_mem (fun x => ∃ q : Nat, q < ns.length ∧ x = .int q) _ (fun t env s => s = st ∧ ∃ (c : Int) (x y : Option Va), c.natAbs < 10 ^ (60 * t) ∧ env = [some (.d (.lst (ns.map D.int))), some (.d (.int j)), some (.d (.int c)), x, y]) (fun t x env s ht hx h => ?_) _ 0 _ _ (Nat.zero_add _) (fun x hx => ?_) ⟨rfl, 0, _, _, by decide, rfl⟩) ?_
    · obtain ⟨q, hq, rfl⟩ := hx
      obtain ⟨rfl, c, x, y, hc, rfl⟩ := h
      refine ⟨_, rfl, ?_⟩
      have h480 : (10 : Nat) ^ (60 * t) ≤ 10 ^ 480 := Nat.pow_le_pow_right (by decide) (by omega)
      have hc2 : c.natAbs < 2 ^ 4096 := Nat.lt_of_lt_of_le (Nat.lt_of_lt_of_le hc h480) (by decide +kernel)
      simp (decide := true) only [q_nx, q_rt, q_er, s1_ok, s1_er, p_nil, p_cons, p_asg, p_asgK, p_par, p_put, p_put1, p_put2, p_exp, p_expK, p_ret, p_retK, p_retN, p_pas, p_ite, p_ite_t, p_ite_f, p_for, p_forK, p_whl, e1_ok, e1_er, e2_ok, x_var, x_varR, x_gl, x_non, x_bl, x_int, x_str, x_bin, x_binK, x_neg, x_negK, x_not, x_notK, x_cmp, x_cmpK, x_cmp2, x_k21, x_k22, x_k23t, x_k23f, x_and, x_or, x_andT, x_andF, x_orT, x_orF, x_ife, x_ifeT, x_ifeF, x_tup, x_lst, x_idx, x_idxK, x_slc, x_slc1, x_slc2, x_slc3, x_on, x_os, x_intV, x_b1, x_b1K, x_b2, x_b2K, x_isi, x_isiK, x_call, x_comp, x_compK, x_kLst, x_mth, x_fz, x_fzd, x_lnil, x_lcons, x_lK, x_lK2, x_qn, x_qs, t_trE, t_trK, t_cmpE, t_cmpK, t_cmp2E, t_t21, t_t22, t_t23t, t_t23f, t_notE, t_notK, t_andE, t_andT, t_andF, t_orE, t_orT, t_orF, i_eE, i_strK, i_lstK, i_tupK, i_rngE, i_enuE, i_enuK, i_revE, i_zipE, i_zipL, i_zipT, v_some, b_some, b_some', List.getElem?_cons_zero, List.getElem?_cons_succ, List.set_cons_zero, List.set_cons_succ, okR_ok, okS_nx, okS_rt, o_add, o_sub, o_mod, o_div, o_mulR, o_mulL, o_pow, b_lenL, b_lenT, b_lenS, b_sum, b_min, b_max, mkO_f, mk_f, mk_t, ds_nil, ds_cons, ds_consO, lstV_of, lstV_ofK, tupV_of, tupV_ofK, exit_new, c_eq, c_ne, c_lt, c_gt, c_le, c_ge, c_eqs, exit_d, take_self, if_true, if_false, Bool.false_eq_true, Bool.true_eq_false, Bool.not_true, Bool.not_false, Int.reduceToNat, Int.reducePow, wk_rng, slc_s, slc_l, slc_t, idx_l, idx_t, c_ins, c_isb, c_nebb, c_eqbb, isi_bl, wipeE, List.foldl_cons, List.foldl_nil, bindT_v, truD, dec_t, dec_f, p_rse, p_try, tr_nx, tr_rt, tr_er, h_nil, h_cons, h_rse, h_t0, h_tS, h_f, hr_t, hr_f, no_nx, no_rt, un_nx, un_rt, x_isE, x_isEV, b_tupL, exit_er, Nat.reduceMul, Nat.reduceDiv, Nat.reduceAdd, Nat.reduceMod, o_mulB hc2 (show (1000000000000000000000000000000000000000000000000000000000000 : Int).natAbs < 2 ^ 4096 by decide +kernel)]
      rw [ix_nat (by simpa using hq)]
      simp (decide := true) only [q_nx, q_rt, q_er, s1_ok, s1_er, p_nil, p_cons, p_asg, p_asgK, p_par, p_put, p_put1, p_put2, p_exp, p_expK, p_ret, p_retK, p_retN, p_pas, p_ite, p_ite_t, p_ite_f, p_for, p_forK, p_whl, e1_ok, e1_er, e2_ok, x_var, x_varR, x_gl, x_non, x_bl, x_int, x_str, x_bin, x_binK, x_neg, x_negK, x_not, x_notK, x_cmp, x_cmpK, x_cmp2, x_k21, x_k22, x_k23t, x_k23f, x_and, x_or, x_andT, x_andF, x_orT, x_orF, x_ife, x_ifeT, x_ifeF, x_tup, x_lst, x_idx, x_idxK, x_slc, x_slc1, x_slc2, x_slc3, x_on, x_os, x_intV, x_b1, x_b1K, x_b2, x_b2K, x_isi, x_isiK, x_call, x_comp, x_compK, x_kLst, x_mth, x_fz, x_fzd, x_lnil, x_lcons, x_lK, x_lK2, x_qn, x_qs, t_trE, t_trK, t_cmpE, t_cmpK, t_cmp2E, t_t21, t_t22, t_t23t, t_t23f, t_notE, t_notK, t_andE, t_andT, t_andF, t_orE, t_orT, t_orF, i_eE, i_strK, i_lstK, i_tupK, i_rngE, i_enuE, i_enuK, i_revE, i_zipE, i_zipL, i_zipT, v_some, b_some, b_some', List.getElem?_cons_zero, List.getElem?_cons_succ, List.set_cons_zero, List.set_cons_succ, okR_ok, okS_nx, okS_rt, o_add, o_sub, o_mod, o_div, o_mulR, o_mulL, o_pow, b_lenL, b_lenT, b_lenS, b_sum, b_min, b_max, mkO_f, mk_f, mk_t, ds_nil, ds_cons, ds_consO, lstV_of, lstV_ofK, tupV_of, tupV_ofK, exit_new, c_eq, c_ne, c_lt, c_gt, c_le, c_ge, c_eqs, exit_d, take_self, if_true, if_false, Bool.false_eq_true, Bool.true_eq_false, Bool.not_true, Bool.not_false, Int.reduceToNat, Int.reducePow, wk_rng, slc_s, slc_l, slc_t, idx_l, idx_t, c_ins, c_isb, c_nebb, c_eqbb, isi_bl, wipeE, List.foldl_cons, List.foldl_nil, bindT_v, truD, dec_t, dec_f, p_rse, p_try, tr_nx, tr_rt, tr_er, h_nil, h_cons, h_rse, h_t0, h_tS, h_f, hr_t, hr_f, no_nx, no_rt, un_nx, un_rt, x_isE, x_isEV, b_tupL, exit_er, Nat.reduceMul, Nat.reduceDiv, Nat.reduceAdd, Nat.reduceMod, List.getElem_map]
      refine ⟨trivial, trivial, _, _, _, ?_, rfl⟩
      have e1 : (10 : Nat) ^ (60 * (t + 1)) = 10 ^ (60 * t) * 10 ^ 60 := by rw [show 60 * (t + 1) = 60 * t + 60 by omega, Nat.pow_add]
      have h1 : (c * 1000000000000000000000000000000000000000000000000000000000000).natAbs = c.natAbs * 10 ^ 60 := by rw [Int.natAbs_mul]; rfl
      have h2 : 0 ≤ ns[q] % 1000000000000000000000000000000000000000000000000000000000000 ∧ ns[q] % 1000000000000000000000000000000000000000000000000000000000000 < 1000000000000000000000000000000000000000000000000000000000000 := by omega
      have h3 : (c.natAbs + 1) * 10 ^ 60 ≤ 10 ^ (60 * t) * 10 ^ 60 := Nat.mul_le_mul_right _ hc
      rw [e1]
      have h4 : (10 : Nat) ^ 60 = 1000000000000000000000000000000000000000000000000000000000000 := by decide
      rw [h4] at *
      omega
    · obtain ⟨q, h1, rfl⟩ := rngC_get x hx
      have h2 := rngN_lt (by omega) h1
      exact ⟨(j + q * 9), by omega, by congr 1⟩
    · rintro env s ⟨rfl, c, x, y, hc, rfl⟩
      by_cases h : c < 1000000000000000000
      · simp (decide := true) only [q_nx, q_rt, q_er, s1_ok, s1_er, p_nil, p_cons, p_asg, p_asgK, p_par, p_put, p_put1, p_put2, p_exp, p_expK, p_ret, p_retK, p_retN, p_pas, p_ite, p_ite_t, p_ite_f, p_for, p_forK, p_whl, e1_ok, e1_er, e2_ok, x_var, x_varR, x_gl, x_non, x_bl, x_int, x_str, x_bin, x_binK, x_neg, x_negK, x_not, x_notK, x_cmp, x_cmpK, x_cmp2, x_k21, x_k22, x_k23t, x_k23f, x_and, x_or, x_andT, x_andF, x_orT, x_orF, x_ife, x_ifeT, x_ifeF, x_tup, x_lst, x_idx, x_idxK, x_slc, x_slc1, x_slc2, x_slc3, x_on, x_os, x_intV, x_b1, x_b1K, x_b2, x_b2K, x_isi, x_isiK, x_call, x_comp, x_compK, x_kLst, x_mth, x_fz, x_fzd, x_lnil, x_lcons, x_lK, x_lK2, x_qn, x_qs, t_trE, t_trK, t_cmpE, t_cmpK, t_cmp2E, t_t21, t_t22, t_t23t, t_t23f, t_notE, t_notK, t_andE, t_andT, t_andF, t_orE, t_orT, t_orF, i_eE, i_strK, i_lstK, i_tupK, i_rngE, i_enuE, i_enuK, i_revE, i_zipE, i_zipL, i_zipT, v_some, b_some, b_some', List.getElem?_cons_zero, List.getElem?_cons_succ, List.set_cons_zero, List.set_cons_succ, okR_ok, okS_nx, okS_rt, o_add, o_sub, o_mod, o_div, o_mulR, o_mulL, o_pow, b_lenL, b_lenT, b_lenS, b_sum, b_min, b_max, mkO_f, mk_f, mk_t, ds_nil, ds_cons, ds_consO, lstV_of, lstV_ofK, tupV_of, tupV_ofK, exit_new, c_eq, c_ne, c_lt, c_gt, c_le, c_ge, c_eqs, exit_d, take_self, if_true, if_false, Bool.false_eq_true, Bool.true_eq_false, Bool.not_true, Bool.not_false, Int.reduceToNat, Int.reducePow, wk_rng, slc_s, slc_l, slc_t, idx_l, idx_t, c_ins, c_isb, c_nebb, c_eqbb, isi_bl, wipeE, List.foldl_cons, List.foldl_nil, bindT_v, truD, dec_t, dec_f, p_rse, p_try, tr_nx, tr_rt, tr_er, h_nil, h_cons, h_rse, h_t0, h_tS, h_f, hr_t, hr_f, no_nx, no_rt, un_nx, un_rt, x_isE, x_isEV, b_tupL, exit_er, Nat.reduceMul, Nat.reduceDiv, Nat.reduceAdd, Nat.reduceMod, decide_eq_true h]
        refine okS_seq (for_range (fun _ env s2 => s2 = s ∧ ∃ (f : Int) (x : Option Va), env = [some (.d (.lst (ns.map D.int))), some (.d (.int j)), some (.d (.int c)), x, some (.d (.int f))]) (fun t env s2 ht h => ?_) ⟨rfl, 0, _, rfl⟩) ?_
        · obtain ⟨rfl, f, x, rfl⟩ := h
          simp (decide := true) only [q_nx, q_rt, q_er, s1_ok, s1_er, p_nil, p_cons, p_asg, p_asgK, p_par, p_put, p_put1, p_put2, p_exp, p_expK, p_ret, p_retK, p_retN, p_pas, p_ite, p_ite_t, p_ite_f, p_for, p_forK, p_whl, e1_ok, e1_er, e2_ok, x_var, x_varR, x_gl, x_non, x_bl, x_int, x_str, x_bin, x_binK, x_neg, x_negK, x_not, x_notK, x_cmp, x_cmpK, x_cmp2, x_k21, x_k22, x_k23t, x_k23f, x_and, x_or, x_andT, x_andF, x_orT, x_orF, x_ife, x_ifeT, x_ifeF, x_tup, x_lst, x_idx, x_idxK, x_slc, x_slc1, x_slc2, x_slc3, x_on, x_os, x_intV, x_b1, x_b1K, x_b2, x_b2K, x_isi, x_isiK, x_call, x_comp, x_compK, x_kLst, x_mth, x_fz, x_fzd, x_lnil, x_lcons, x_lK, x_lK2, x_qn, x_qs, t_trE, t_trK, t_cmpE, t_cmpK, t_cmp2E, t_t21, t_t22, t_t23t, t_t23f, t_notE, t_notK, t_andE, t_andT, t_andF, t_orE, t_orT, t_orF, i_eE, i_strK, i_lstK, i_tupK, i_rngE, i_enuE, i_enuK, i_revE, i_zipE, i_zipL, i_zipT, v_some, b_some, b_some', List.getElem?_cons_zero, List.getElem?_cons_succ, List.set_cons_zero, List.set_cons_succ, okR_ok, okS_nx, okS_rt, o_add, o_sub, o_mod, o_div, o_mulR, o_mulL, o_pow, b_lenL, b_lenT, b_lenS, b_sum, b_min, b_max, mkO_f, mk_f, mk_t, ds_nil, ds_cons, ds_consO, lstV_of, lstV_ofK, tupV_of, tupV_ofK, exit_new, c_eq, c_ne, c_lt, c_gt, c_le, c_ge, c_eqs, exit_d, take_self, if_true, if_false, Bool.false_eq_true, Bool.true_eq_false, Bool.not_true, Bool.not_false, Int.reduceToNat, Int.reducePow, wk_rng, slc_s, slc_l, slc_t, idx_l, idx_t, c_ins, c_isb, c_nebb, c_eqbb, isi_bl, wipeE, List.foldl_cons, List.foldl_nil, bindT_v, truD, dec_t, dec_f, p_rse, p_try, tr_nx, tr_rt, tr_er, h_nil, h_cons, h_rse, h_t0, h_tS, h_f, hr_t, hr_f, no_nx, no_rt, un_nx, un_rt, x_isE, x_isEV, b_tupL, exit_er, Nat.reduceMul, Nat.reduceDiv, Nat.reduceAdd, Nat.reduceMod, List.length_map]
          obtain ⟨z, hz⟩ := mixed_ok hm k (st := s2) (a := c + 1009 * j + ns.length) (b := t)
          simp (decide := true) only [q_nx, q_rt, q_er, s1_ok, s1_er, p_nil, p_cons, p_asg, p_asgK, p_par, p_put, p_put1, p_put2, p_exp, p_expK, p_ret, p_retK, p_retN, p_pas, p_ite, p_ite_t, p_ite_f, p_for, p_forK, p_whl, e1_ok, e1_er, e2_ok, x_var, x_varR, x_gl, x_non, x_bl, x_int, x_str, x_bin, x_binK, x_neg, x_negK, x_not, x_notK, x_cmp, x_cmpK, x_cmp2, x_k21, x_k22, x_k23t, x_k23f, x_and, x_or, x_andT, x_andF, x_orT, x_orF, x_ife, x_ifeT, x_ifeF, x_tup, x_lst, x_idx, x_idxK, x_slc, x_slc1, x_slc2, x_slc3, x_on, x_os, x_intV, x_b1, x_b1K, x_b2, x_b2K, x_isi, x_isiK, x_call, x_comp, x_compK, x_kLst, x_mth, x_fz, x_fzd, x_lnil, x_lcons, x_lK, x_lK2, x_qn, x_qs, t_trE, t_trK, t_cmpE, t_cmpK, t_cmp2E, t_t21, t_t22, t_t23t, t_t23f, t_notE, t_notK, t_andE, t_andT, t_andF, t_orE, t_orT, t_orF, i_eE, i_strK, i_lstK, i_tupK, i_rngE, i_enuE, i_enuK, i_revE, i_zipE, i_zipL, i_zipT, v_some, b_some, b_some', List.getElem?_cons_zero, List.getElem?_cons_succ, List.set_cons_zero, List.set_cons_succ, okR_ok, okS_nx, okS_rt, o_add, o_sub, o_mod, o_div, o_mulR, o_mulL, o_pow, b_lenL, b_lenT, b_lenS, b_sum, b_min, b_max, mkO_f, mk_f, mk_t, ds_nil, ds_cons, ds_consO, lstV_of, lstV_ofK, tupV_of, tupV_ofK, exit_new, c_eq, c_ne, c_lt, c_gt, c_le, c_ge, c_eqs, exit_d, take_self, if_true, if_false, Bool.false_eq_true, Bool.true_eq_false, Bool.not_true, Bool.not_false, Int.reduceToNat, Int.reducePow, wk_rng, slc_s, slc_l, slc_t, idx_l, idx_t, c_ins, c_isb, c_nebb, c_eqbb, isi_bl, wipeE, List.foldl_cons, List.foldl_nil, bindT_v, truD, dec_t, dec_f, p_rse, p_try, tr_nx, tr_rt, tr_er, h_nil, h_cons, h_rse, h_t0, h_tS, h_f, hr_t, hr_f, no_nx, no_rt, un_nx, un_rt, x_isE, x_isEV, b_tupL, exit_er, Nat.reduceMul, Nat.reduceDiv, Nat.reduceAdd, Nat.reduceMod, hz]
          exact ⟨trivial, trivial, _, _, rfl⟩
        · rintro env s ⟨rfl, f, x, rfl⟩
          simp (decide := true) only [q_nx, q_rt, q_er, s1_ok, s1_er, p_nil, p_cons, p_asg, p_asgK, p_par, p_put, p_put1, p_put2, p_exp, p_expK, p_ret, p_retK, p_retN, p_pas, p_ite, p_ite_t, p_ite_f, p_for, p_forK, p_whl, e1_ok, e1_er, e2_ok, x_var, x_varR, x_gl, x_non, x_bl, x_int, x_str, x_bin, x_binK, x_neg, x_negK, x_not, x_notK, x_cmp, x_cmpK, x_cmp2, x_k21, x_k22, x_k23t, x_k23f, x_and, x_or, x_andT, x_andF, x_orT, x_orF, x_ife, x_ifeT, x_ifeF, x_tup, x_lst, x_idx, x_idxK, x_slc, x_slc1, x_slc2, x_slc3, x_on, x_os, x_intV, x_b1, x_b1K, x_b2, x_b2K, x_isi, x_isiK, x_call, x_comp, x_compK, x_kLst, x_mth, x_fz, x_fzd, x_lnil, x_lcons, x_lK, x_lK2, x_qn, x_qs, t_trE, t_trK, t_cmpE, t_cmpK, t_cmp2E, t_t21, t_t22, t_t23t, t_t23f, t_notE, t_notK, t_andE, t_andT, t_andF, t_orE, t_orT, t_orF, i_eE, i_strK, i_lstK, i_tupK, i_rngE, i_enuE, i_enuK, i_revE, i_zipE, i_zipL, i_zipT, v_some, b_some, b_some', List.getElem?_cons_zero, List.getElem?_cons_succ, List.set_cons_zero, List.set_cons_succ, okR_ok, okS_nx, okS_rt, o_add, o_sub, o_mod, o_div, o_mulR, o_mulL, o_pow, b_lenL, b_lenT, b_lenS, b_sum, b_min, b_max, mkO_f, mk_f, mk_t, ds_nil, ds_cons, ds_consO, lstV_of, lstV_ofK, tupV_of, tupV_ofK, exit_new, c_eq, c_ne, c_lt, c_gt, c_le, c_ge, c_eqs, exit_d, take_self, if_true, if_false, Bool.false_eq_true, Bool.true_eq_false, Bool.not_true, Bool.not_false, Int.reduceToNat, Int.reducePow, wk_rng, slc_s, slc_l, slc_t, idx_l, idx_t, c_ins, c_isb, c_nebb, c_eqbb, isi_bl, wipeE, List.foldl_cons, List.foldl_nil, bindT_v, truD, dec_t, dec_f, p_rse, p_try, tr_nx, tr_rt, tr_er, h_nil, h_cons, h_rse, h_t0, h_tS, h_f, hr_t, hr_f, no_nx, no_rt, un_nx, un_rt, x_isE, x_isEV, b_tupL, exit_er, Nat.reduceMul, Nat.reduceDiv, Nat.reduceAdd, Nat.reduceMod]
          exact ⟨_, trivial, rfl⟩
      · simp (decide := true) only [q_nx, q_rt, q_er, s1_ok, s1_er, p_nil, p_cons, p_asg, p_asgK, p_par, p_put, p_put1, p_put2, p_exp, p_expK, p_ret, p_retK, p_retN, p_pas, p_ite, p_ite_t, p_ite_f, p_for, p_forK, p_whl, e1_ok, e1_er, e2_ok, x_var, x_varR, x_gl, x_non, x_bl, x_int, x_str, x_bin, x_binK, x_neg, x_negK, x_not, x_notK, x_cmp, x_cmpK, x_cmp2, x_k21, x_k22, x_k23t, x_k23f, x_and, x_or, x_andT, x_andF, x_orT, x_orF, x_ife, x_ifeT, x_ifeF, x_tup, x_lst, x_idx, x_idxK, x_slc, x_slc1, x_slc2, x_slc3, x_on, x_os, x_intV, x_b1, x_b1K, x_b2, x_b2K, x_isi, x_isiK, x_call, x_comp, x_compK, x_kLst, x_mth, x_fz, x_fzd, x_lnil, x_lcons, x_lK, x_lK2, x_qn, x_qs, t_trE, t_trK, t_cmpE, t_cmpK, t_cmp2E, t_t21, t_t22, t_t23t, t_t23f, t_notE, t_notK, t_andE, t_andT, t_andF, t_orE, t_orT, t_orF, i_eE, i_strK, i_lstK, i_tupK, i_rngE, i_enuE, i_enuK, i_revE, i_zipE, i_zipL, i_zipT, v_some, b_some, b_some', List.getElem?_cons_zero, List.getElem?_cons_succ, List.set_cons_zero, List.set_cons_succ, okR_ok, okS_nx, okS_rt, o_add, o_sub, o_mod, o_div, o_mulR, o_mulL, o_pow, b_lenL, b_lenT, b_lenS, b_sum, b_min, b_max, mkO_f, mk_f, mk_t, ds_nil, ds_cons, ds_consO, lstV_of, lstV_ofK, tupV_of, tupV_ofK, exit_new, c_eq, c_ne, c_lt, c_gt, c_le, c_ge, c_eqs, exit_d, take_self, if_true, if_false, Bool.false_eq_true, Bool.true_eq_false, Bool.not_true, Bool.not_false, Int.reduceToNat, Int.reducePow, wk_rng, slc_s, slc_l, slc_t, idx_l, idx_t, c_ins, c_isb, c_nebb, c_eqbb, isi_bl, wipeE, List.foldl_cons, List.foldl_nil, bindT_v, truD, dec_t, dec_f, p_rse, p_try, tr_nx, tr_rt, tr_er, h_nil, h_cons, h_rse, h_t0, h_tS, h_f, hr_t, hr_f, no_nx, no_rt, un_nx, un_rt, x_isE, x_isEV, b_tupL, exit_er, Nat.reduceMul, Nat.reduceDiv, Nat.reduceAdd, Nat.reduceMod, decide_eq_false h]
        exact ⟨c, trivial, rfl⟩
  obtain ⟨va, st', e, v, rfl, rfl⟩ := key.ex
  exact ⟨v, e⟩
end Ev

namespace Ev
abbrev tNum : List Nat := [110, 117, 109, 98, 101, 114]
abbrev tTxt : List Nat := [116, 101, 120, 116]
abbrev tCho : List Nat := [99, 104, 111, 105, 99, 101]
abbrev tLst : List Nat := [108, 105, 115, 116]
abbrev tRec : List Nat := [114, 101, 99, 111, 114, 100]
abbrev tRow : List Nat := [114, 111, 119, 115]
abbrev tEach : List Nat := [101, 97, 99, 104]
mutual
inductive Kd where
  | num (lo hi : Int) | txt (n : Int) | cho (ws : List (List Nat)) | lst (k : Kd) (n : Int) | rcd (f : Fl) | rws (key : List Nat) (f : Fl) (n : Int)
inductive Fl where
  | nil | cons (n : List Nat) (k : Kd) (r : Fl)
end
instance : Inhabited Kd := ⟨.txt 0⟩
mutual
def Kd.d : Kd → D
  | .num lo hi => .tup [.str tNum, .int lo, .int hi]
  | .txt n => .tup [.str tTxt, .int n]
  | .cho ws => .tup [.str tCho, .tup (ws.map D.str)]
  | .lst k n => .tup [.str tLst, k.d, .int n]
  | .rcd f => .tup [.str tRec, .tup f.ds]
  | .rws key f n => .tup [.str tRow, .str key, .tup [.str tRec, .tup f.ds], .int n]
def Fl.ds : Fl → List D
  | .nil => []
  | .cons n k r => .tup [.str n, k.d] :: r.ds
end
def Fl.ns : Fl → List (List Nat)
  | .nil => []
  | .cons n _ r => n :: r.ns
def Fl.get (s : List Nat) : Fl → Option Kd
  | .nil => none
  | .cons n k r => if n = s then some k else r.get s
def Fl.snoc (n : List Nat) (k : Kd) : Fl → Fl
  | .nil => .cons n k .nil
  | .cons m j r => .cons m j (r.snoc n k)
theorem Fl.snoc_ds (n : List Nat) (k : Kd) : ∀ f : Fl, (f.snoc n k).ds = f.ds ++ [.tup [.str n, k.d]]
  | .nil => rfl
  | .cons m j r => by simp only [Fl.snoc, Fl.ds, Fl.snoc_ds n k r, List.cons_append]
theorem Fl.snoc_ns (n : List Nat) (k : Kd) : ∀ f : Fl, (f.snoc n k).ns = f.ns ++ [n]
  | .nil => rfl
  | .cons m j r => by simp only [Fl.snoc, Fl.ns, Fl.snoc_ns n k r, List.cons_append]
def Fl.len : Fl → Nat
  | .nil => 0
  | .cons _ _ r => r.len + 1
theorem Fl.ds_len : ∀ f : Fl, f.ds.length = f.len
  | .nil => rfl
  | .cons _ _ r => by simp only [Fl.ds, Fl.len, List.length_cons, Fl.ds_len r]
theorem Fl.ns_len : ∀ f : Fl, f.ns.length = f.len
  | .nil => rfl
  | .cons _ _ r => by simp only [Fl.ns, Fl.len, List.length_cons, Fl.ns_len r]
theorem Fl.get_none {s : List Nat} : ∀ {f : Fl}, s ∉ f.ns → f.get s = none
  | .nil, _ => rfl
  | .cons n k r, h => by
    simp only [Fl.ns, List.mem_cons, not_or] at h
    simp only [Fl.get]
    rw [if_neg (fun e => h.1 e.symm), Fl.get_none h.2]
mutual
/-- names once, and none of them each -/
def Kd.ok : Kd → Prop
  | .lst k _ => k.ok
  | .rcd f => f.ns.Nodup ∧ tEach ∉ f.ns ∧ f.ok
  | .rws _ f _ => f.ns.Nodup ∧ tEach ∉ f.ns ∧ f.ok
  | _ => True
def Fl.ok : Fl → Prop
  | .nil => True
  | .cons _ k r => k.ok ∧ r.ok
end
mutual
/-- how long a path within is -/
def Kd.dep : Kd → Nat
  | .lst k _ => k.dep + 1
  | .rcd f => f.dep
  | .rws _ f _ => f.dep + 1
  | _ => 0
def Fl.dep : Fl → Nat
  | .nil => 0
  | .cons _ k r => max (k.dep + 1) r.dep
end
theorem Fl.snoc_ok {n : List Nat} {k : Kd} : ∀ {f : Fl}, f.ok → k.ok → (f.snoc n k).ok
  | .nil, _, h => ⟨h, trivial⟩
  | .cons m j r, h, h2 => ⟨h.1, Fl.snoc_ok h.2 h2⟩
theorem Fl.snoc_dep {n : List Nat} {k : Kd} : ∀ {f : Fl}, (f.snoc n k).dep = max f.dep (k.dep + 1)
  | .nil => by simp only [Fl.snoc, Fl.dep]; omega
  | .cons m j r => by simp only [Fl.snoc, Fl.dep, Fl.snoc_dep (f := r)]; omega
theorem Fl.get_ok {s : List Nat} {k : Kd} : ∀ {f : Fl}, f.ok → f.get s = some k → k.ok
  | .nil, _, h => by cases h
  | .cons n j r, h, e => by
    simp only [Fl.get] at e
    split at e
    · cases e; exact h.1
    · exact Fl.get_ok h.2 e
/-- one step on -/
def Kd.on (s : List Nat) : Kd → Option Kd
  | .lst k _ => if s = tEach then some k else none
  | .rws _ f _ => if s = tEach then some (.rcd f) else none
  | .rcd f => if s = tEach then none else f.get s
  | _ => none
theorem Kd.on_ok {s : List Nat} {k j : Kd} (h : k.ok) (e : k.on s = some j) : j.ok := by
  cases k with
  | lst k n =>
    simp only [Kd.on] at e
    split at e
    · cases e; exact h
    · cases e
  | rcd f =>
    simp only [Kd.on] at e
    split at e
    · cases e
    · exact Fl.get_ok h.2.2 e
  | rws key f n =>
    simp only [Kd.on] at e
    split at e
    · cases e; exact h
    · cases e
  | _ => cases e
/-- a whole path on -/
def Kd.go : List (List Nat) → Kd → Option Kd
  | [], k => some k
  | s :: r, k => (k.on s).bind (Kd.go r)
theorem Kd.go_app : ∀ (p q : List (List Nat)) (k : Kd), Kd.go (p ++ q) k = (Kd.go p k).bind (Kd.go q)
  | [], q, k => rfl
  | s :: p, q, k => by
    simp only [List.cons_append, Kd.go]
    cases k.on s with
    | none => rfl
    | some j => exact Kd.go_app p q j
theorem Kd.go_ok : ∀ {p : List (List Nat)} {k j : Kd}, k.ok → Kd.go p k = some j → j.ok
  | [], k, j, h, e => by cases e; exact h
  | s :: p, k, j, h, e => by
    simp only [Kd.go] at e
    cases h1 : k.on s with
    | none => rw [h1] at e; cases e
    | some i => rw [h1] at e; exact Kd.go_ok (Kd.on_ok h h1) e
mutual
theorem D.eqv_refl : ∀ {d : D}, d.flat = true → D.eqv d d = true
  | .non, _ => rfl
  | .bl b, _ => by simp [D.eqv]
  | .int i, _ => by simp [D.eqv]
  | .str s, _ => by simp [D.eqv]
  | .lst xs, h => by simp only [D.eqv]; exact D.eqvL_refl (by simpa only [D.flat] using h)
  | .tup xs, h => by simp only [D.eqv]; exact D.eqvL_refl (by simpa only [D.flat] using h)
  | .dct _ _, h => by cases h
theorem D.eqvL_refl : ∀ {ds : List D}, D.flatL ds = true → D.eqvL ds ds = true
  | [], _ => rfl
  | d :: ds, h => by
    simp only [D.flatL, Bool.and_eq_true] at h
    simp only [D.eqvL, D.eqv_refl h.1, D.eqvL_refl h.2, Bool.and_self]
end
theorem flat_strs : ∀ ws : List (List Nat), D.flatL (ws.map D.str) = true
  | [] => rfl
  | _ :: r => by simp only [List.map_cons, D.flatL, D.flat, flat_strs r, Bool.and_self]
theorem depth_strs : ∀ ws : List (List Nat), D.depthL (ws.map D.str) = 0
  | [] => rfl
  | _ :: r => by simp only [List.map_cons, D.depthL, D.depth, depth_strs r, Nat.max_self]
mutual
theorem Kd.flat : ∀ k : Kd, k.d.flat = true
  | .num _ _ => rfl
  | .txt _ => rfl
  | .cho ws => by simp only [Kd.d, D.flat, D.flatL, flat_strs, Bool.and_self]
  | .lst k n => by simp only [Kd.d, D.flat, D.flatL, Kd.flat k, Bool.and_self]
  | .rcd f => by simp only [Kd.d, D.flat, D.flatL, Fl.flat f, Bool.and_self]
  | .rws _ f _ => by simp only [Kd.d, D.flat, D.flatL, Fl.flat f, Bool.and_self]
theorem Fl.flat : ∀ f : Fl, D.flatL f.ds = true
  | .nil => rfl
  | .cons n k r => by simp only [Fl.ds, D.flat, D.flatL, Kd.flat k, Fl.flat r, Bool.and_self]
end
mutual
/-- how deep the data is -/
theorem Kd.deep : ∀ k : Kd, k.d.depth ≤ 4 * k.dep + 4
  | .num _ _ => by simp [Kd.d, D.depth, D.depthL]
  | .txt _ => by simp [Kd.d, D.depth, D.depthL]
  | .cho ws => by simp only [Kd.d, D.depth, D.depthL, depth_strs]; omega
  | .lst k n => by have := Kd.deep k; simp only [Kd.d, D.depth, D.depthL, Kd.dep]; omega
  | .rcd f => by have := Fl.deep f; simp only [Kd.d, D.depth, D.depthL, Kd.dep]; omega
  | .rws _ f _ => by have := Fl.deep f; simp only [Kd.d, D.depth, D.depthL, Kd.dep]; omega
theorem Fl.deep : ∀ f : Fl, D.depthL f.ds ≤ 4 * f.dep + 1
  | .nil => by simp [Fl.ds, D.depthL]
  | .cons n k r => by have := Kd.deep k; have := Fl.deep r; simp only [Fl.ds, D.depth, D.depthL, Fl.dep]; omega
end
theorem eqOk_self {d : D} (h : d.flat = true) (h2 : d.depth ≤ 180) : eqOk d d = true := by
  unfold eqOk
  simp only [h, Bool.and_self, Bool.true_and, Nat.min_self]
  exact decide_eq_true h2
theorem c_ne_self {d : D} (h : d.flat = true) (h2 : d.depth ≤ 180) : opCmp .ne d d = some false := by
  show (if eqOk d d then some (!D.eqv d d) else none) = _
  rw [if_pos (eqOk_self h h2), D.eqv_refl h]; rfl
theorem c_eq_self {d : D} (h : d.flat = true) (h2 : d.depth ≤ 180) : opCmp .eq d d = some true := by
  show (if eqOk d d then some (D.eqv d d) else none) = _
  rw [if_pos (eqOk_self h h2), D.eqv_refl h]
theorem is_non (d : D) : opCmp .is d .non = some (match d with | .non => true | _ => false) := by cases d <;> rfl
theorem isnot_non (d : D) : opCmp .isnot d .non = some (match d with | .non => false | _ => true) := by cases d <;> rfl
def optK : Option Kd → D
  | some k => k.d
  | none => .non
theorem nn_is : opCmp .is .non .non = some true := id rfl
theorem nn_isnot : opCmp .isnot .non .non = some false := id rfl
theorem kd_non (k : Kd) : opCmp .is k.d .non = some false := by cases k <;> rfl
theorem kd_not (k : Kd) : opCmp .isnot k.d .non = some true := by cases k <;> rfl
theorem ixk0 {α : Type} {x : α} {xs : List α} : getIx (x :: xs) 0 = some x := ix_0
theorem ixk1 {α : Type} {x y : α} {xs : List α} : getIx (x :: y :: xs) 1 = some y := by
  unfold getIx ixAt
  rw [if_pos (by omega), if_pos (by rw [List.length_cons, List.length_cons]; omega)]; rfl
theorem ixk2 {α : Type} {x y z : α} {xs : List α} : getIx (x :: y :: z :: xs) 2 = some z := by
  unfold getIx ixAt
  rw [if_pos (by omega), if_pos (by rw [List.length_cons, List.length_cons, List.length_cons]; omega)]; rfl
theorem ixk3 {α : Type} {x y z u : α} {xs : List α} : getIx (x :: y :: z :: u :: xs) 3 = some u := by
  unfold getIx ixAt
  rw [if_pos (by omega), if_pos (by rw [List.length_cons, List.length_cons, List.length_cons, List.length_cons]; omega)]; rfl
def B_field_kind : Stms :=
 (.cons (.for_ (.t [2, 3]) (.e (.idx (.var 0) (.int 1))) (.cons (.ite (.cmp .eq (.var 2) (.var 1)) (.cons (.ret (.var 3))
 .nil) .nil)
 .nil))
 (.cons (.ret .non)
 .nil))
theorem beq_dec (a b : List Nat) : (a == b) = decide (a = b) := by
  by_cases h : a = b
  · subst h; simp
  · rw [decide_eq_false h, beq_eq_false_iff_ne]; exact h
theorem field_loop {c : Calls} {kd : D} {s : List Nat} {st : Store} : ∀ (f : Fl) (x y : Option Va), ∃ x' y' : Option Va,
    forM (bindT (.t [2, 3])) (evSs c (.cons (.ite (.cmp .eq (.var 2) (.var 1)) (.cons (.ret (.var 3)) .nil) .nil) .nil)) (fun _ => true) f.ds [some (.d kd), some (.d (.str s)), x, y] st =
      (match f.get s with
        | some k => .rt (.d k.d) st
        | none => .nx [some (.d kd), some (.d (.str s)), x', y'] st)
  | .nil, x, y => ⟨x, y, rfl⟩
  | .cons n k r, x, y => by
    obtain ⟨x', y', ih⟩ := field_loop r (some (.d (.str n))) (some (.d k.d))
    refine ⟨x', y', ?_⟩
    simp only [Fl.ds, forM, bindT, List.length_cons, List.length_nil, if_true, List.zip_cons_cons, List.zip_nil_right, List.foldl_cons, List.foldl_nil, List.set_cons_succ, List.set_cons_zero, Fl.get]
    by_cases h : n = s
    · subst h
      simp (decide := true) only [q_nx, q_rt, q_er, s1_ok, s1_er, p_nil, p_cons, p_asg, p_asgK, p_par, p_put, p_put1, p_put2, p_exp, p_expK, p_ret, p_retK, p_retN, p_pas, p_ite, p_ite_t, p_ite_f, p_for, p_forK, p_whl, e1_ok, e1_er, e2_ok, x_var, x_varR, x_gl, x_non, x_bl, x_int, x_str, x_bin, x_binK, x_neg, x_negK, x_not, x_notK, x_cmp, x_cmpK, x_cmp2, x_k21, x_k22, x_k23t, x_k23f, x_and, x_or, x_andT, x_andF, x_orT, x_orF, x_ife, x_ifeT, x_ifeF, x_tup, x_lst, x_idx, x_idxK, x_slc, x_slc1, x_slc2, x_slc3, x_on, x_os, x_intV, x_b1, x_b1K, x_b2, x_b2K, x_isi, x_isiK, x_call, x_comp, x_compK, x_kLst, x_mth, x_fz, x_fzd, x_lnil, x_lcons, x_lK, x_lK2, x_qn, x_qs, t_trE, t_trK, t_cmpE, t_cmpK, t_cmp2E, t_t21, t_t22, t_t23t, t_t23f, t_notE, t_notK, t_andE, t_andT, t_andF, t_orE, t_orT, t_orF, i_eE, i_strK, i_lstK, i_tupK, i_rngE, i_enuE, i_enuK, i_revE, i_zipE, i_zipL, i_zipT, v_some, b_some, b_some', List.getElem?_cons_zero, List.getElem?_cons_succ, List.set_cons_zero, List.set_cons_succ, okR_ok, okS_nx, okS_rt, o_add, o_sub, o_mod, o_div, o_mulR, o_mulL, o_pow, b_lenL, b_lenT, b_lenS, b_sum, b_min, b_max, mkO_f, mk_f, mk_t, ds_nil, ds_cons, ds_consO, lstV_of, lstV_ofK, tupV_of, tupV_ofK, exit_new, c_eq, c_ne, c_lt, c_gt, c_le, c_ge, c_eqs, exit_d, take_self, if_true, if_false, Bool.false_eq_true, Bool.true_eq_false, Bool.not_true, Bool.not_false, Int.reduceToNat, Int.reducePow, wk_rng, slc_s, slc_l, slc_t, idx_l, idx_t, c_ins, c_isb, c_nebb, c_eqbb, isi_bl, wipeE, List.foldl_cons, List.foldl_nil, bindT_v, truD, dec_t, dec_f, p_rse, p_try, tr_nx, tr_rt, tr_er, h_nil, h_cons, h_rse, h_t0, h_tS, h_f, hr_t, hr_f, no_nx, no_rt, un_nx, un_rt, x_isE, x_isEV, b_tupL, exit_er, Nat.reduceMul, Nat.reduceDiv, Nat.reduceAdd, Nat.reduceMod, BEq.rfl]
      simp only [SRes.bind, if_true]
    · simp (decide := true) only [q_nx, q_rt, q_er, s1_ok, s1_er, p_nil, p_cons, p_asg, p_asgK, p_par, p_put, p_put1, p_put2, p_exp, p_expK, p_ret, p_retK, p_retN, p_pas, p_ite, p_ite_t, p_ite_f, p_for, p_forK, p_whl, e1_ok, e1_er, e2_ok, x_var, x_varR, x_gl, x_non, x_bl, x_int, x_str, x_bin, x_binK, x_neg, x_negK, x_not, x_notK, x_cmp, x_cmpK, x_cmp2, x_k21, x_k22, x_k23t, x_k23f, x_and, x_or, x_andT, x_andF, x_orT, x_orF, x_ife, x_ifeT, x_ifeF, x_tup, x_lst, x_idx, x_idxK, x_slc, x_slc1, x_slc2, x_slc3, x_on, x_os, x_intV, x_b1, x_b1K, x_b2, x_b2K, x_isi, x_isiK, x_call, x_comp, x_compK, x_kLst, x_mth, x_fz, x_fzd, x_lnil, x_lcons, x_lK, x_lK2, x_qn, x_qs, t_trE, t_trK, t_cmpE, t_cmpK, t_cmp2E, t_t21, t_t22, t_t23t, t_t23f, t_notE, t_notK, t_andE, t_andT, t_andF, t_orE, t_orT, t_orF, i_eE, i_strK, i_lstK, i_tupK, i_rngE, i_enuE, i_enuK, i_revE, i_zipE, i_zipL, i_zipT, v_some, b_some, b_some', List.getElem?_cons_zero, List.getElem?_cons_succ, List.set_cons_zero, List.set_cons_succ, okR_ok, okS_nx, okS_rt, o_add, o_sub, o_mod, o_div, o_mulR, o_mulL, o_pow, b_lenL, b_lenT, b_lenS, b_sum, b_min, b_max, mkO_f, mk_f, mk_t, ds_nil, ds_cons, ds_consO, lstV_of, lstV_ofK, tupV_of, tupV_ofK, exit_new, c_eq, c_ne, c_lt, c_gt, c_le, c_ge, c_eqs, exit_d, take_self, if_true, if_false, Bool.false_eq_true, Bool.true_eq_false, Bool.not_true, Bool.not_false, Int.reduceToNat, Int.reducePow, wk_rng, slc_s, slc_l, slc_t, idx_l, idx_t, c_ins, c_isb, c_nebb, c_eqbb, isi_bl, wipeE, List.foldl_cons, List.foldl_nil, bindT_v, truD, dec_t, dec_f, p_rse, p_try, tr_nx, tr_rt, tr_er, h_nil, h_cons, h_rse, h_t0, h_tS, h_f, hr_t, hr_f, no_nx, no_rt, un_nx, un_rt, x_isE, x_isEV, b_tupL, exit_er, Nat.reduceMul, Nat.reduceDiv, Nat.reduceAdd, Nat.reduceMod, beq_dec, decide_eq_false h]
      simp only [SRes.bind, if_neg h, if_true]
      exact ih
theorem field_kind_ok {fs : List Fn} {i : Nat} (hi : fs[i]? = some ⟨2, 4, B_field_kind⟩) (k : Nat) {st : Store} {f : Fl} {s : List Nat} {kd : D} (hk : opIdx kd (.int 1) = some (.tup f.ds)) :
    callM fs (k + 1) i [.d kd, .d (.str s)] st = .ok (.d (optK (f.get s))) st := by
  rw [call_2 hi [none, none] rfl]
  unfold B_field_kind
  obtain ⟨x', y', e⟩ := field_loop (c := callM fs k) (kd := kd) (s := s) (st := st) f none none
  simp (decide := true) only [q_nx, q_rt, q_er, s1_ok, s1_er, p_nil, p_cons, p_asg, p_asgK, p_par, p_put, p_put1, p_put2, p_exp, p_expK, p_ret, p_retK, p_retN, p_pas, p_ite, p_ite_t, p_ite_f, p_for, p_forK, p_whl, e1_ok, e1_er, e2_ok, x_var, x_varR, x_gl, x_non, x_bl, x_int, x_str, x_bin, x_binK, x_neg, x_negK, x_not, x_notK, x_cmp, x_cmpK, x_cmp2, x_k21, x_k22, x_k23t, x_k23f, x_and, x_or, x_andT, x_andF, x_orT, x_orF, x_ife, x_ifeT, x_ifeF, x_tup, x_lst, x_idx, x_idxK, x_slc, x_slc1, x_slc2, x_slc3, x_on, x_os, x_intV, x_b1, x_b1K, x_b2, x_b2K, x_isi, x_isiK, x_call, x_comp, x_compK, x_kLst, x_mth, x_fz, x_fzd, x_lnil, x_lcons, x_lK, x_lK2, x_qn, x_qs, t_trE, t_trK, t_cmpE, t_cmpK, t_cmp2E, t_t21, t_t22, t_t23t, t_t23f, t_notE, t_notK, t_andE, t_andT, t_andF, t_orE, t_orT, t_orF, i_eE, i_strK, i_lstK, i_tupK, i_rngE, i_enuE, i_enuK, i_revE, i_zipE, i_zipL, i_zipT, v_some, b_some, b_some', List.getElem?_cons_zero, List.getElem?_cons_succ, List.set_cons_zero, List.set_cons_succ, okR_ok, okS_nx, okS_rt, o_add, o_sub, o_mod, o_div, o_mulR, o_mulL, o_pow, b_lenL, b_lenT, b_lenS, b_sum, b_min, b_max, mkO_f, mk_f, mk_t, ds_nil, ds_cons, ds_consO, lstV_of, lstV_ofK, tupV_of, tupV_ofK, exit_new, c_eq, c_ne, c_lt, c_gt, c_le, c_ge, c_eqs, exit_d, take_self, if_true, if_false, Bool.false_eq_true, Bool.true_eq_false, Bool.not_true, Bool.not_false, Int.reduceToNat, Int.reducePow, wk_rng, slc_s, slc_l, slc_t, idx_l, idx_t, c_ins, c_isb, c_nebb, c_eqbb, isi_bl, wipeE, List.foldl_cons, List.foldl_nil, bindT_v, truD, dec_t, dec_f, p_rse, p_try, tr_nx, tr_rt, tr_er, h_nil, h_cons, h_rse, h_t0, h_tS, h_f, hr_t, hr_f, no_nx, no_rt, un_nx, un_rt, x_isE, x_isEV, b_tupL, exit_er, Nat.reduceMul, Nat.reduceDiv, Nat.reduceAdd, Nat.reduceMod, hk, e]
  cases f.get s with
  | none => simp (decide := true) only [q_nx, q_rt, q_er, s1_ok, s1_er, p_nil, p_cons, p_asg, p_asgK, p_par, p_put, p_put1, p_put2, p_exp, p_expK, p_ret, p_retK, p_retN, p_pas, p_ite, p_ite_t, p_ite_f, p_for, p_forK, p_whl, e1_ok, e1_er, e2_ok, x_var, x_varR, x_gl, x_non, x_bl, x_int, x_str, x_bin, x_binK, x_neg, x_negK, x_not, x_notK, x_cmp, x_cmpK, x_cmp2, x_k21, x_k22, x_k23t, x_k23f, x_and, x_or, x_andT, x_andF, x_orT, x_orF, x_ife, x_ifeT, x_ifeF, x_tup, x_lst, x_idx, x_idxK, x_slc, x_slc1, x_slc2, x_slc3, x_on, x_os, x_intV, x_b1, x_b1K, x_b2, x_b2K, x_isi, x_isiK, x_call, x_comp, x_compK, x_kLst, x_mth, x_fz, x_fzd, x_lnil, x_lcons, x_lK, x_lK2, x_qn, x_qs, t_trE, t_trK, t_cmpE, t_cmpK, t_cmp2E, t_t21, t_t22, t_t23t, t_t23f, t_notE, t_notK, t_andE, t_andT, t_andF, t_orE, t_orT, t_orF, i_eE, i_strK, i_lstK, i_tupK, i_rngE, i_enuE, i_enuK, i_revE, i_zipE, i_zipL, i_zipT, v_some, b_some, b_some', List.getElem?_cons_zero, List.getElem?_cons_succ, List.set_cons_zero, List.set_cons_succ, okR_ok, okS_nx, okS_rt, o_add, o_sub, o_mod, o_div, o_mulR, o_mulL, o_pow, b_lenL, b_lenT, b_lenS, b_sum, b_min, b_max, mkO_f, mk_f, mk_t, ds_nil, ds_cons, ds_consO, lstV_of, lstV_ofK, tupV_of, tupV_ofK, exit_new, c_eq, c_ne, c_lt, c_gt, c_le, c_ge, c_eqs, exit_d, take_self, if_true, if_false, Bool.false_eq_true, Bool.true_eq_false, Bool.not_true, Bool.not_false, Int.reduceToNat, Int.reducePow, wk_rng, slc_s, slc_l, slc_t, idx_l, idx_t, c_ins, c_isb, c_nebb, c_eqbb, isi_bl, wipeE, List.foldl_cons, List.foldl_nil, bindT_v, truD, dec_t, dec_f, p_rse, p_try, tr_nx, tr_rt, tr_er, h_nil, h_cons, h_rse, h_t0, h_tS, h_f, hr_t, hr_f, no_nx, no_rt, un_nx, un_rt, x_isE, x_isEV, b_tupL, exit_er, Nat.reduceMul, Nat.reduceDiv, Nat.reduceAdd, Nat.reduceMod, optK]
  | some k => simp (decide := true) only [q_nx, q_rt, q_er, s1_ok, s1_er, p_nil, p_cons, p_asg, p_asgK, p_par, p_put, p_put1, p_put2, p_exp, p_expK, p_ret, p_retK, p_retN, p_pas, p_ite, p_ite_t, p_ite_f, p_for, p_forK, p_whl, e1_ok, e1_er, e2_ok, x_var, x_varR, x_gl, x_non, x_bl, x_int, x_str, x_bin, x_binK, x_neg, x_negK, x_not, x_notK, x_cmp, x_cmpK, x_cmp2, x_k21, x_k22, x_k23t, x_k23f, x_and, x_or, x_andT, x_andF, x_orT, x_orF, x_ife, x_ifeT, x_ifeF, x_tup, x_lst, x_idx, x_idxK, x_slc, x_slc1, x_slc2, x_slc3, x_on, x_os, x_intV, x_b1, x_b1K, x_b2, x_b2K, x_isi, x_isiK, x_call, x_comp, x_compK, x_kLst, x_mth, x_fz, x_fzd, x_lnil, x_lcons, x_lK, x_lK2, x_qn, x_qs, t_trE, t_trK, t_cmpE, t_cmpK, t_cmp2E, t_t21, t_t22, t_t23t, t_t23f, t_notE, t_notK, t_andE, t_andT, t_andF, t_orE, t_orT, t_orF, i_eE, i_strK, i_lstK, i_tupK, i_rngE, i_enuE, i_enuK, i_revE, i_zipE, i_zipL, i_zipT, v_some, b_some, b_some', List.getElem?_cons_zero, List.getElem?_cons_succ, List.set_cons_zero, List.set_cons_succ, okR_ok, okS_nx, okS_rt, o_add, o_sub, o_mod, o_div, o_mulR, o_mulL, o_pow, b_lenL, b_lenT, b_lenS, b_sum, b_min, b_max, mkO_f, mk_f, mk_t, ds_nil, ds_cons, ds_consO, lstV_of, lstV_ofK, tupV_of, tupV_ofK, exit_new, c_eq, c_ne, c_lt, c_gt, c_le, c_ge, c_eqs, exit_d, take_self, if_true, if_false, Bool.false_eq_true, Bool.true_eq_false, Bool.not_true, Bool.not_false, Int.reduceToNat, Int.reducePow, wk_rng, slc_s, slc_l, slc_t, idx_l, idx_t, c_ins, c_isb, c_nebb, c_eqbb, isi_bl, wipeE, List.foldl_cons, List.foldl_nil, bindT_v, truD, dec_t, dec_f, p_rse, p_try, tr_nx, tr_rt, tr_er, h_nil, h_cons, h_rse, h_t0, h_tS, h_f, hr_t, hr_f, no_nx, no_rt, un_nx, un_rt, x_isE, x_isEV, b_tupL, exit_er, Nat.reduceMul, Nat.reduceDiv, Nat.reduceAdd, Nat.reduceMod, optK]

def B_kind_of_items (eBadPath : Nat) : Stms :=
 (.cons (.ite (.cmp .eq (.idx (.var 0) (.int 0)) (.str [108, 105, 115, 116])) (.cons (.ret (.idx (.var 0) (.int 1)))
 .nil) .nil)
 (.cons (.ite (.cmp .eq (.idx (.var 0) (.int 0)) (.str [114, 111, 119, 115])) (.cons (.ret (.idx (.var 0) (.int 2)))
 .nil) .nil)
 (.cons (.rse eBadPath)
 .nil)))
def B_kind_one_on (ckind_of_items : Nat) (cfield_kind : Nat) (gEACH : Nat) (eBadPath : Nat) : Stms :=
 (.cons (.ite (.cmp .eq (.var 1) (.gl gEACH (.str [101, 97, 99, 104]))) (.cons (.ret (.call ckind_of_items (.cons (.var 0) .nil)))
 .nil) .nil)
 (.cons (.asg (.v 2) .non)
 (.cons (.ite (.cmp .eq (.idx (.var 0) (.int 0)) (.str [114, 101, 99, 111, 114, 100])) (.cons (.asg (.v 2) (.call cfield_kind (.cons (.var 0) (.cons (.var 1) .nil))))
 .nil) .nil)
 (.cons (.ite (.cmp .is (.var 2) .non) (.cons (.rse eBadPath)
 .nil) .nil)
 (.cons (.ret (.var 2))
 .nil)))))
def B_kind_at (ckind_one_on : Nat) (gMOST_STEPS : Nat) (eBadPath : Nat) : Stms :=
 (.cons (.ite (.cmp .gt (.b1 .len false (.var 1)) (.gl gMOST_STEPS (.int 8))) (.cons (.rse eBadPath)
 .nil) .nil)
 (.cons (.for_ (.v 2) (.e (.var 1)) (.cons (.asg (.v 0) (.call ckind_one_on (.cons (.var 0) (.cons (.var 2) .nil))))
 .nil))
 (.cons (.ret (.var 0))
 .nil)))
/-- the word of a kind -/
def Kd.tag : Kd → List Nat
  | .num _ _ => tNum
  | .txt _ => tTxt
  | .cho _ => tCho
  | .lst _ _ => tLst
  | .rcd _ => tRec
  | .rws _ _ _ => tRow
theorem tag_ix (k : Kd) : opIdx k.d (.int 0) = some (.str k.tag) := by cases k <;> (rw [Kd.d, idx_t, ix_0]; rfl)
def onRes (e : Nat) (st : Store) : Option Kd → Res Va
  | some k => .ok (.d k.d) st
  | none => .er e st
def itemsK : Kd → Option Kd
  | .lst k _ => some k
  | .rws _ f _ => some (.rcd f)
  | _ => none
theorem of_items_ok {fs : List Fn} {i e : Nat} (hi : fs[i]? = some ⟨1, 1, B_kind_of_items e⟩) (k : Nat) {st : Store} (kd : Kd) :
    callM fs (k + 1) i [.d kd.d] st = onRes (2 * e) st (itemsK kd) := by
  rw [call_1 hi [] rfl]
  unfold B_kind_of_items
  cases kd <;> simp (decide := true) only [q_nx, q_rt, q_er, s1_ok, s1_er, p_nil, p_cons, p_asg, p_asgK, p_par, p_put, p_put1, p_put2, p_exp, p_expK, p_ret, p_retK, p_retN, p_pas, p_ite, p_ite_t, p_ite_f, p_for, p_forK, p_whl, e1_ok, e1_er, e2_ok, x_var, x_varR, x_gl, x_non, x_bl, x_int, x_str, x_bin, x_binK, x_neg, x_negK, x_not, x_notK, x_cmp, x_cmpK, x_cmp2, x_k21, x_k22, x_k23t, x_k23f, x_and, x_or, x_andT, x_andF, x_orT, x_orF, x_ife, x_ifeT, x_ifeF, x_tup, x_lst, x_idx, x_idxK, x_slc, x_slc1, x_slc2, x_slc3, x_on, x_os, x_intV, x_b1, x_b1K, x_b2, x_b2K, x_isi, x_isiK, x_call, x_comp, x_compK, x_kLst, x_mth, x_fz, x_fzd, x_lnil, x_lcons, x_lK, x_lK2, x_qn, x_qs, t_trE, t_trK, t_cmpE, t_cmpK, t_cmp2E, t_t21, t_t22, t_t23t, t_t23f, t_notE, t_notK, t_andE, t_andT, t_andF, t_orE, t_orT, t_orF, i_eE, i_strK, i_lstK, i_tupK, i_rngE, i_enuE, i_enuK, i_revE, i_zipE, i_zipL, i_zipT, v_some, b_some, b_some', List.getElem?_cons_zero, List.getElem?_cons_succ, List.set_cons_zero, List.set_cons_succ, okR_ok, okS_nx, okS_rt, o_add, o_sub, o_mod, o_div, o_mulR, o_mulL, o_pow, b_lenL, b_lenT, b_lenS, b_sum, b_min, b_max, mkO_f, mk_f, mk_t, ds_nil, ds_cons, ds_consO, lstV_of, lstV_ofK, tupV_of, tupV_ofK, exit_new, c_eq, c_ne, c_lt, c_gt, c_le, c_ge, c_eqs, exit_d, take_self, if_true, if_false, Bool.false_eq_true, Bool.true_eq_false, Bool.not_true, Bool.not_false, Int.reduceToNat, Int.reducePow, wk_rng, slc_s, slc_l, slc_t, idx_l, idx_t, c_ins, c_isb, c_nebb, c_eqbb, isi_bl, wipeE, List.foldl_cons, List.foldl_nil, bindT_v, truD, dec_t, dec_f, p_rse, p_try, tr_nx, tr_rt, tr_er, h_nil, h_cons, h_rse, h_t0, h_tS, h_f, hr_t, hr_f, no_nx, no_rt, un_nx, un_rt, x_isE, x_isEV, b_tupL, exit_er, Nat.reduceMul, Nat.reduceDiv, Nat.reduceAdd, Nat.reduceMod, tag_ix, Kd.tag, List.cons_beq_cons, Nat.reduceBEq, Bool.false_and, Bool.true_and, Bool.and_false, BEq.rfl, itemsK, onRes] <;> simp only [Kd.d] <;> simp (decide := true) only [q_nx, q_rt, q_er, s1_ok, s1_er, p_nil, p_cons, p_asg, p_asgK, p_par, p_put, p_put1, p_put2, p_exp, p_expK, p_ret, p_retK, p_retN, p_pas, p_ite, p_ite_t, p_ite_f, p_for, p_forK, p_whl, e1_ok, e1_er, e2_ok, x_var, x_varR, x_gl, x_non, x_bl, x_int, x_str, x_bin, x_binK, x_neg, x_negK, x_not, x_notK, x_cmp, x_cmpK, x_cmp2, x_k21, x_k22, x_k23t, x_k23f, x_and, x_or, x_andT, x_andF, x_orT, x_orF, x_ife, x_ifeT, x_ifeF, x_tup, x_lst, x_idx, x_idxK, x_slc, x_slc1, x_slc2, x_slc3, x_on, x_os, x_intV, x_b1, x_b1K, x_b2, x_b2K, x_isi, x_isiK, x_call, x_comp, x_compK, x_kLst, x_mth, x_fz, x_fzd, x_lnil, x_lcons, x_lK, x_lK2, x_qn, x_qs, t_trE, t_trK, t_cmpE, t_cmpK, t_cmp2E, t_t21, t_t22, t_t23t, t_t23f, t_notE, t_notK, t_andE, t_andT, t_andF, t_orE, t_orT, t_orF, i_eE, i_strK, i_lstK, i_tupK, i_rngE, i_enuE, i_enuK, i_revE, i_zipE, i_zipL, i_zipT, v_some, b_some, b_some', List.getElem?_cons_zero, List.getElem?_cons_succ, List.set_cons_zero, List.set_cons_succ, okR_ok, okS_nx, okS_rt, o_add, o_sub, o_mod, o_div, o_mulR, o_mulL, o_pow, b_lenL, b_lenT, b_lenS, b_sum, b_min, b_max, mkO_f, mk_f, mk_t, ds_nil, ds_cons, ds_consO, lstV_of, lstV_ofK, tupV_of, tupV_ofK, exit_new, c_eq, c_ne, c_lt, c_gt, c_le, c_ge, c_eqs, exit_d, take_self, if_true, if_false, Bool.false_eq_true, Bool.true_eq_false, Bool.not_true, Bool.not_false, Int.reduceToNat, Int.reducePow, wk_rng, slc_s, slc_l, slc_t, idx_l, idx_t, c_ins, c_isb, c_nebb, c_eqbb, isi_bl, wipeE, List.foldl_cons, List.foldl_nil, bindT_v, truD, dec_t, dec_f, p_rse, p_try, tr_nx, tr_rt, tr_er, h_nil, h_cons, h_rse, h_t0, h_tS, h_f, hr_t, hr_f, no_nx, no_rt, un_nx, un_rt, x_isE, x_isEV, b_tupL, exit_er, Nat.reduceMul, Nat.reduceDiv, Nat.reduceAdd, Nat.reduceMod, ixk1, ixk2]
theorem one_on_ok {fs : List Fn} {i i1 i2 g e : Nat} (hi : fs[i]? = some ⟨2, 3, B_kind_one_on i1 i2 g e⟩) (h1 : fs[i1]? = some ⟨1, 1, B_kind_of_items e⟩) (h2 : fs[i2]? = some ⟨2, 4, B_field_kind⟩) (k : Nat) {st : Store} (kd : Kd) (s : List Nat) :
    callM fs (k + 2) i [.d kd.d, .d (.str s)] st = onRes (2 * e) st (kd.on s) := by
  rw [call_2 hi [none] rfl]
  unfold B_kind_one_on
  by_cases hs : s = tEach
  · subst hs
    simp (decide := true) only [q_nx, q_rt, q_er, s1_ok, s1_er, p_nil, p_cons, p_asg, p_asgK, p_par, p_put, p_put1, p_put2, p_exp, p_expK, p_ret, p_retK, p_retN, p_pas, p_ite, p_ite_t, p_ite_f, p_for, p_forK, p_whl, e1_ok, e1_er, e2_ok, x_var, x_varR, x_gl, x_non, x_bl, x_int, x_str, x_bin, x_binK, x_neg, x_negK, x_not, x_notK, x_cmp, x_cmpK, x_cmp2, x_k21, x_k22, x_k23t, x_k23f, x_and, x_or, x_andT, x_andF, x_orT, x_orF, x_ife, x_ifeT, x_ifeF, x_tup, x_lst, x_idx, x_idxK, x_slc, x_slc1, x_slc2, x_slc3, x_on, x_os, x_intV, x_b1, x_b1K, x_b2, x_b2K, x_isi, x_isiK, x_call, x_comp, x_compK, x_kLst, x_mth, x_fz, x_fzd, x_lnil, x_lcons, x_lK, x_lK2, x_qn, x_qs, t_trE, t_trK, t_cmpE, t_cmpK, t_cmp2E, t_t21, t_t22, t_t23t, t_t23f, t_notE, t_notK, t_andE, t_andT, t_andF, t_orE, t_orT, t_orF, i_eE, i_strK, i_lstK, i_tupK, i_rngE, i_enuE, i_enuK, i_revE, i_zipE, i_zipL, i_zipT, v_some, b_some, b_some', List.getElem?_cons_zero, List.getElem?_cons_succ, List.set_cons_zero, List.set_cons_succ, okR_ok, okS_nx, okS_rt, o_add, o_sub, o_mod, o_div, o_mulR, o_mulL, o_pow, b_lenL, b_lenT, b_lenS, b_sum, b_min, b_max, mkO_f, mk_f, mk_t, ds_nil, ds_cons, ds_consO, lstV_of, lstV_ofK, tupV_of, tupV_ofK, exit_new, c_eq, c_ne, c_lt, c_gt, c_le, c_ge, c_eqs, exit_d, take_self, if_true, if_false, Bool.false_eq_true, Bool.true_eq_false, Bool.not_true, Bool.not_false, Int.reduceToNat, Int.reducePow, wk_rng, slc_s, slc_l, slc_t, idx_l, idx_t, c_ins, c_isb, c_nebb, c_eqbb, isi_bl, wipeE, List.foldl_cons, List.foldl_nil, bindT_v, truD, dec_t, dec_f, p_rse, p_try, tr_nx, tr_rt, tr_er, h_nil, h_cons, h_rse, h_t0, h_tS, h_f, hr_t, hr_f, no_nx, no_rt, un_nx, un_rt, x_isE, x_isEV, b_tupL, exit_er, Nat.reduceMul, Nat.reduceDiv, Nat.reduceAdd, Nat.reduceMod, BEq.rfl, of_items_ok h1 k (st := st) kd]
    cases kd <;> simp only [itemsK, Kd.on, onRes, if_true] <;> simp (decide := true) only [q_nx, q_rt, q_er, s1_ok, s1_er, p_nil, p_cons, p_asg, p_asgK, p_par, p_put, p_put1, p_put2, p_exp, p_expK, p_ret, p_retK, p_retN, p_pas, p_ite, p_ite_t, p_ite_f, p_for, p_forK, p_whl, e1_ok, e1_er, e2_ok, x_var, x_varR, x_gl, x_non, x_bl, x_int, x_str, x_bin, x_binK, x_neg, x_negK, x_not, x_notK, x_cmp, x_cmpK, x_cmp2, x_k21, x_k22, x_k23t, x_k23f, x_and, x_or, x_andT, x_andF, x_orT, x_orF, x_ife, x_ifeT, x_ifeF, x_tup, x_lst, x_idx, x_idxK, x_slc, x_slc1, x_slc2, x_slc3, x_on, x_os, x_intV, x_b1, x_b1K, x_b2, x_b2K, x_isi, x_isiK, x_call, x_comp, x_compK, x_kLst, x_mth, x_fz, x_fzd, x_lnil, x_lcons, x_lK, x_lK2, x_qn, x_qs, t_trE, t_trK, t_cmpE, t_cmpK, t_cmp2E, t_t21, t_t22, t_t23t, t_t23f, t_notE, t_notK, t_andE, t_andT, t_andF, t_orE, t_orT, t_orF, i_eE, i_strK, i_lstK, i_tupK, i_rngE, i_enuE, i_enuK, i_revE, i_zipE, i_zipL, i_zipT, v_some, b_some, b_some', List.getElem?_cons_zero, List.getElem?_cons_succ, List.set_cons_zero, List.set_cons_succ, okR_ok, okS_nx, okS_rt, o_add, o_sub, o_mod, o_div, o_mulR, o_mulL, o_pow, b_lenL, b_lenT, b_lenS, b_sum, b_min, b_max, mkO_f, mk_f, mk_t, ds_nil, ds_cons, ds_consO, lstV_of, lstV_ofK, tupV_of, tupV_ofK, exit_new, c_eq, c_ne, c_lt, c_gt, c_le, c_ge, c_eqs, exit_d, take_self, if_true, if_false, Bool.false_eq_true, Bool.true_eq_false, Bool.not_true, Bool.not_false, Int.reduceToNat, Int.reducePow, wk_rng, slc_s, slc_l, slc_t, idx_l, idx_t, c_ins, c_isb, c_nebb, c_eqbb, isi_bl, wipeE, List.foldl_cons, List.foldl_nil, bindT_v, truD, dec_t, dec_f, p_rse, p_try, tr_nx, tr_rt, tr_er, h_nil, h_cons, h_rse, h_t0, h_tS, h_f, hr_t, hr_f, no_nx, no_rt, un_nx, un_rt, x_isE, x_isEV, b_tupL, exit_er, Nat.reduceMul, Nat.reduceDiv, Nat.reduceAdd, Nat.reduceMod]
  · simp (decide := true) only [q_nx, q_rt, q_er, s1_ok, s1_er, p_nil, p_cons, p_asg, p_asgK, p_par, p_put, p_put1, p_put2, p_exp, p_expK, p_ret, p_retK, p_retN, p_pas, p_ite, p_ite_t, p_ite_f, p_for, p_forK, p_whl, e1_ok, e1_er, e2_ok, x_var, x_varR, x_gl, x_non, x_bl, x_int, x_str, x_bin, x_binK, x_neg, x_negK, x_not, x_notK, x_cmp, x_cmpK, x_cmp2, x_k21, x_k22, x_k23t, x_k23f, x_and, x_or, x_andT, x_andF, x_orT, x_orF, x_ife, x_ifeT, x_ifeF, x_tup, x_lst, x_idx, x_idxK, x_slc, x_slc1, x_slc2, x_slc3, x_on, x_os, x_intV, x_b1, x_b1K, x_b2, x_b2K, x_isi, x_isiK, x_call, x_comp, x_compK, x_kLst, x_mth, x_fz, x_fzd, x_lnil, x_lcons, x_lK, x_lK2, x_qn, x_qs, t_trE, t_trK, t_cmpE, t_cmpK, t_cmp2E, t_t21, t_t22, t_t23t, t_t23f, t_notE, t_notK, t_andE, t_andT, t_andF, t_orE, t_orT, t_orF, i_eE, i_strK, i_lstK, i_tupK, i_rngE, i_enuE, i_enuK, i_revE, i_zipE, i_zipL, i_zipT, v_some, b_some, b_some', List.getElem?_cons_zero, List.getElem?_cons_succ, List.set_cons_zero, List.set_cons_succ, okR_ok, okS_nx, okS_rt, o_add, o_sub, o_mod, o_div, o_mulR, o_mulL, o_pow, b_lenL, b_lenT, b_lenS, b_sum, b_min, b_max, mkO_f, mk_f, mk_t, ds_nil, ds_cons, ds_consO, lstV_of, lstV_ofK, tupV_of, tupV_ofK, exit_new, c_eq, c_ne, c_lt, c_gt, c_le, c_ge, c_eqs, exit_d, take_self, if_true, if_false, Bool.false_eq_true, Bool.true_eq_false, Bool.not_true, Bool.not_false, Int.reduceToNat, Int.reducePow, wk_rng, slc_s, slc_l, slc_t, idx_l, idx_t, c_ins, c_isb, c_nebb, c_eqbb, isi_bl, wipeE, List.foldl_cons, List.foldl_nil, bindT_v, truD, dec_t, dec_f, p_rse, p_try, tr_nx, tr_rt, tr_er, h_nil, h_cons, h_rse, h_t0, h_tS, h_f, hr_t, hr_f, no_nx, no_rt, un_nx, un_rt, x_isE, x_isEV, b_tupL, exit_er, Nat.reduceMul, Nat.reduceDiv, Nat.reduceAdd, Nat.reduceMod, beq_dec, decide_eq_false hs, tag_ix]
    cases kd with
    | rcd f =>
      have e1 : opIdx (Kd.rcd f).d (.int 1) = some (.tup f.ds) := by rw [Kd.d, idx_t, ixk1]
      simp (decide := true) only [q_nx, q_rt, q_er, s1_ok, s1_er, p_nil, p_cons, p_asg, p_asgK, p_par, p_put, p_put1, p_put2, p_exp, p_expK, p_ret, p_retK, p_retN, p_pas, p_ite, p_ite_t, p_ite_f, p_for, p_forK, p_whl, e1_ok, e1_er, e2_ok, x_var, x_varR, x_gl, x_non, x_bl, x_int, x_str, x_bin, x_binK, x_neg, x_negK, x_not, x_notK, x_cmp, x_cmpK, x_cmp2, x_k21, x_k22, x_k23t, x_k23f, x_and, x_or, x_andT, x_andF, x_orT, x_orF, x_ife, x_ifeT, x_ifeF, x_tup, x_lst, x_idx, x_idxK, x_slc, x_slc1, x_slc2, x_slc3, x_on, x_os, x_intV, x_b1, x_b1K, x_b2, x_b2K, x_isi, x_isiK, x_call, x_comp, x_compK, x_kLst, x_mth, x_fz, x_fzd, x_lnil, x_lcons, x_lK, x_lK2, x_qn, x_qs, t_trE, t_trK, t_cmpE, t_cmpK, t_cmp2E, t_t21, t_t22, t_t23t, t_t23f, t_notE, t_notK, t_andE, t_andT, t_andF, t_orE, t_orT, t_orF, i_eE, i_strK, i_lstK, i_tupK, i_rngE, i_enuE, i_enuK, i_revE, i_zipE, i_zipL, i_zipT, v_some, b_some, b_some', List.getElem?_cons_zero, List.getElem?_cons_succ, List.set_cons_zero, List.set_cons_succ, okR_ok, okS_nx, okS_rt, o_add, o_sub, o_mod, o_div, o_mulR, o_mulL, o_pow, b_lenL, b_lenT, b_lenS, b_sum, b_min, b_max, mkO_f, mk_f, mk_t, ds_nil, ds_cons, ds_consO, lstV_of, lstV_ofK, tupV_of, tupV_ofK, exit_new, c_eq, c_ne, c_lt, c_gt, c_le, c_ge, c_eqs, exit_d, take_self, if_true, if_false, Bool.false_eq_true, Bool.true_eq_false, Bool.not_true, Bool.not_false, Int.reduceToNat, Int.reducePow, wk_rng, slc_s, slc_l, slc_t, idx_l, idx_t, c_ins, c_isb, c_nebb, c_eqbb, isi_bl, wipeE, List.foldl_cons, List.foldl_nil, bindT_v, truD, dec_t, dec_f, p_rse, p_try, tr_nx, tr_rt, tr_er, h_nil, h_cons, h_rse, h_t0, h_tS, h_f, hr_t, hr_f, no_nx, no_rt, un_nx, un_rt, x_isE, x_isEV, b_tupL, exit_er, Nat.reduceMul, Nat.reduceDiv, Nat.reduceAdd, Nat.reduceMod, Kd.tag, field_kind_ok h2 k (st := st) (s := s) e1, Kd.on, if_neg hs]
      cases f.get s with
      | none => simp (decide := true) only [q_nx, q_rt, q_er, s1_ok, s1_er, p_nil, p_cons, p_asg, p_asgK, p_par, p_put, p_put1, p_put2, p_exp, p_expK, p_ret, p_retK, p_retN, p_pas, p_ite, p_ite_t, p_ite_f, p_for, p_forK, p_whl, e1_ok, e1_er, e2_ok, x_var, x_varR, x_gl, x_non, x_bl, x_int, x_str, x_bin, x_binK, x_neg, x_negK, x_not, x_notK, x_cmp, x_cmpK, x_cmp2, x_k21, x_k22, x_k23t, x_k23f, x_and, x_or, x_andT, x_andF, x_orT, x_orF, x_ife, x_ifeT, x_ifeF, x_tup, x_lst, x_idx, x_idxK, x_slc, x_slc1, x_slc2, x_slc3, x_on, x_os, x_intV, x_b1, x_b1K, x_b2, x_b2K, x_isi, x_isiK, x_call, x_comp, x_compK, x_kLst, x_mth, x_fz, x_fzd, x_lnil, x_lcons, x_lK, x_lK2, x_qn, x_qs, t_trE, t_trK, t_cmpE, t_cmpK, t_cmp2E, t_t21, t_t22, t_t23t, t_t23f, t_notE, t_notK, t_andE, t_andT, t_andF, t_orE, t_orT, t_orF, i_eE, i_strK, i_lstK, i_tupK, i_rngE, i_enuE, i_enuK, i_revE, i_zipE, i_zipL, i_zipT, v_some, b_some, b_some', List.getElem?_cons_zero, List.getElem?_cons_succ, List.set_cons_zero, List.set_cons_succ, okR_ok, okS_nx, okS_rt, o_add, o_sub, o_mod, o_div, o_mulR, o_mulL, o_pow, b_lenL, b_lenT, b_lenS, b_sum, b_min, b_max, mkO_f, mk_f, mk_t, ds_nil, ds_cons, ds_consO, lstV_of, lstV_ofK, tupV_of, tupV_ofK, exit_new, c_eq, c_ne, c_lt, c_gt, c_le, c_ge, c_eqs, exit_d, take_self, if_true, if_false, Bool.false_eq_true, Bool.true_eq_false, Bool.not_true, Bool.not_false, Int.reduceToNat, Int.reducePow, wk_rng, slc_s, slc_l, slc_t, idx_l, idx_t, c_ins, c_isb, c_nebb, c_eqbb, isi_bl, wipeE, List.foldl_cons, List.foldl_nil, bindT_v, truD, dec_t, dec_f, p_rse, p_try, tr_nx, tr_rt, tr_er, h_nil, h_cons, h_rse, h_t0, h_tS, h_f, hr_t, hr_f, no_nx, no_rt, un_nx, un_rt, x_isE, x_isEV, b_tupL, exit_er, Nat.reduceMul, Nat.reduceDiv, Nat.reduceAdd, Nat.reduceMod, optK, onRes, nn_is]
      | some j => simp (decide := true) only [q_nx, q_rt, q_er, s1_ok, s1_er, p_nil, p_cons, p_asg, p_asgK, p_par, p_put, p_put1, p_put2, p_exp, p_expK, p_ret, p_retK, p_retN, p_pas, p_ite, p_ite_t, p_ite_f, p_for, p_forK, p_whl, e1_ok, e1_er, e2_ok, x_var, x_varR, x_gl, x_non, x_bl, x_int, x_str, x_bin, x_binK, x_neg, x_negK, x_not, x_notK, x_cmp, x_cmpK, x_cmp2, x_k21, x_k22, x_k23t, x_k23f, x_and, x_or, x_andT, x_andF, x_orT, x_orF, x_ife, x_ifeT, x_ifeF, x_tup, x_lst, x_idx, x_idxK, x_slc, x_slc1, x_slc2, x_slc3, x_on, x_os, x_intV, x_b1, x_b1K, x_b2, x_b2K, x_isi, x_isiK, x_call, x_comp, x_compK, x_kLst, x_mth, x_fz, x_fzd, x_lnil, x_lcons, x_lK, x_lK2, x_qn, x_qs, t_trE, t_trK, t_cmpE, t_cmpK, t_cmp2E, t_t21, t_t22, t_t23t, t_t23f, t_notE, t_notK, t_andE, t_andT, t_andF, t_orE, t_orT, t_orF, i_eE, i_strK, i_lstK, i_tupK, i_rngE, i_enuE, i_enuK, i_revE, i_zipE, i_zipL, i_zipT, v_some, b_some, b_some', List.getElem?_cons_zero, List.getElem?_cons_succ, List.set_cons_zero, List.set_cons_succ, okR_ok, okS_nx, okS_rt, o_add, o_sub, o_mod, o_div, o_mulR, o_mulL, o_pow, b_lenL, b_lenT, b_lenS, b_sum, b_min, b_max, mkO_f, mk_f, mk_t, ds_nil, ds_cons, ds_consO, lstV_of, lstV_ofK, tupV_of, tupV_ofK, exit_new, c_eq, c_ne, c_lt, c_gt, c_le, c_ge, c_eqs, exit_d, take_self, if_true, if_false, Bool.false_eq_true, Bool.true_eq_false, Bool.not_true, Bool.not_false, Int.reduceToNat, Int.reducePow, wk_rng, slc_s, slc_l, slc_t, idx_l, idx_t, c_ins, c_isb, c_nebb, c_eqbb, isi_bl, wipeE, List.foldl_cons, List.foldl_nil, bindT_v, truD, dec_t, dec_f, p_rse, p_try, tr_nx, tr_rt, tr_er, h_nil, h_cons, h_rse, h_t0, h_tS, h_f, hr_t, hr_f, no_nx, no_rt, un_nx, un_rt, x_isE, x_isEV, b_tupL, exit_er, Nat.reduceMul, Nat.reduceDiv, Nat.reduceAdd, Nat.reduceMod, optK, onRes, kd_non]
    | _ => simp (decide := true) only [q_nx, q_rt, q_er, s1_ok, s1_er, p_nil, p_cons, p_asg, p_asgK, p_par, p_put, p_put1, p_put2, p_exp, p_expK, p_ret, p_retK, p_retN, p_pas, p_ite, p_ite_t, p_ite_f, p_for, p_forK, p_whl, e1_ok, e1_er, e2_ok, x_var, x_varR, x_gl, x_non, x_bl, x_int, x_str, x_bin, x_binK, x_neg, x_negK, x_not, x_notK, x_cmp, x_cmpK, x_cmp2, x_k21, x_k22, x_k23t, x_k23f, x_and, x_or, x_andT, x_andF, x_orT, x_orF, x_ife, x_ifeT, x_ifeF, x_tup, x_lst, x_idx, x_idxK, x_slc, x_slc1, x_slc2, x_slc3, x_on, x_os, x_intV, x_b1, x_b1K, x_b2, x_b2K, x_isi, x_isiK, x_call, x_comp, x_compK, x_kLst, x_mth, x_fz, x_fzd, x_lnil, x_lcons, x_lK, x_lK2, x_qn, x_qs, t_trE, t_trK, t_cmpE, t_cmpK, t_cmp2E, t_t21, t_t22, t_t23t, t_t23f, t_notE, t_notK, t_andE, t_andT, t_andF, t_orE, t_orT, t_orF, i_eE, i_strK, i_lstK, i_tupK, i_rngE, i_enuE, i_enuK, i_revE, i_zipE, i_zipL, i_zipT, v_some, b_some, b_some', List.getElem?_cons_zero, List.getElem?_cons_succ, List.set_cons_zero, List.set_cons_succ, okR_ok, okS_nx, okS_rt, o_add, o_sub, o_mod, o_div, o_mulR, o_mulL, o_pow, b_lenL, b_lenT, b_lenS, b_sum, b_min, b_max, mkO_f, mk_f, mk_t, ds_nil, ds_cons, ds_consO, lstV_of, lstV_ofK, tupV_of, tupV_ofK, exit_new, c_eq, c_ne, c_lt, c_gt, c_le, c_ge, c_eqs, exit_d, take_self, if_true, if_false, Bool.false_eq_true, Bool.true_eq_false, Bool.not_true, Bool.not_false, Int.reduceToNat, Int.reducePow, wk_rng, slc_s, slc_l, slc_t, idx_l, idx_t, c_ins, c_isb, c_nebb, c_eqbb, isi_bl, wipeE, List.foldl_cons, List.foldl_nil, bindT_v, truD, dec_t, dec_f, p_rse, p_try, tr_nx, tr_rt, tr_er, h_nil, h_cons, h_rse, h_t0, h_tS, h_f, hr_t, hr_f, no_nx, no_rt, un_nx, un_rt, x_isE, x_isEV, b_tupL, exit_er, Nat.reduceMul, Nat.reduceDiv, Nat.reduceAdd, Nat.reduceMod, Kd.tag, Kd.on, if_neg hs, onRes, nn_is]
theorem at_loop {c : Calls} {e : Nat} {p : D} {st : Store} {j : Nat} (hc : ∀ (kd : Kd) (s : List Nat), c j [.d kd.d, .d (.str s)] st = onRes (2 * e) st (kd.on s)) : ∀ (path : List (List Nat)) (kd : Kd) (x : Option Va), ∃ (env' : Env) (x' : Option Va),
    forM (bindT (.v 2)) (evSs c (.cons (.asg (.v 0) (.call j (.cons (.var 0) (.cons (.var 2) .nil)))) .nil)) (fun _ => true) (path.map D.str) [some (.d kd.d), some (.d p), x] st =
      (match kd.go path with
        | some k => .nx [some (.d k.d), some (.d p), x'] st
        | none => .er (2 * e) env' st)
  | [], kd, x => ⟨[], x, rfl⟩
  | s :: r, kd, x => by
    cases h : kd.on s with
    | none =>
      refine ⟨[some (.d kd.d), some (.d p), some (.d (.str s))], none, ?_⟩
      simp only [List.map_cons, forM, bindT_v, List.set_cons_succ, List.set_cons_zero, Kd.go, h, Option.bind_none]
      simp (decide := true) only [q_nx, q_rt, q_er, s1_ok, s1_er, p_nil, p_cons, p_asg, p_asgK, p_par, p_put, p_put1, p_put2, p_exp, p_expK, p_ret, p_retK, p_retN, p_pas, p_ite, p_ite_t, p_ite_f, p_for, p_forK, p_whl, e1_ok, e1_er, e2_ok, x_var, x_varR, x_gl, x_non, x_bl, x_int, x_str, x_bin, x_binK, x_neg, x_negK, x_not, x_notK, x_cmp, x_cmpK, x_cmp2, x_k21, x_k22, x_k23t, x_k23f, x_and, x_or, x_andT, x_andF, x_orT, x_orF, x_ife, x_ifeT, x_ifeF, x_tup, x_lst, x_idx, x_idxK, x_slc, x_slc1, x_slc2, x_slc3, x_on, x_os, x_intV, x_b1, x_b1K, x_b2, x_b2K, x_isi, x_isiK, x_call, x_comp, x_compK, x_kLst, x_mth, x_fz, x_fzd, x_lnil, x_lcons, x_lK, x_lK2, x_qn, x_qs, t_trE, t_trK, t_cmpE, t_cmpK, t_cmp2E, t_t21, t_t22, t_t23t, t_t23f, t_notE, t_notK, t_andE, t_andT, t_andF, t_orE, t_orT, t_orF, i_eE, i_strK, i_lstK, i_tupK, i_rngE, i_enuE, i_enuK, i_revE, i_zipE, i_zipL, i_zipT, v_some, b_some, b_some', List.getElem?_cons_zero, List.getElem?_cons_succ, List.set_cons_zero, List.set_cons_succ, okR_ok, okS_nx, okS_rt, o_add, o_sub, o_mod, o_div, o_mulR, o_mulL, o_pow, b_lenL, b_lenT, b_lenS, b_sum, b_min, b_max, mkO_f, mk_f, mk_t, ds_nil, ds_cons, ds_consO, lstV_of, lstV_ofK, tupV_of, tupV_ofK, exit_new, c_eq, c_ne, c_lt, c_gt, c_le, c_ge, c_eqs, exit_d, take_self, if_true, if_false, Bool.false_eq_true, Bool.true_eq_false, Bool.not_true, Bool.not_false, Int.reduceToNat, Int.reducePow, wk_rng, slc_s, slc_l, slc_t, idx_l, idx_t, c_ins, c_isb, c_nebb, c_eqbb, isi_bl, wipeE, List.foldl_cons, List.foldl_nil, bindT_v, truD, dec_t, dec_f, p_rse, p_try, tr_nx, tr_rt, tr_er, h_nil, h_cons, h_rse, h_t0, h_tS, h_f, hr_t, hr_f, no_nx, no_rt, un_nx, un_rt, x_isE, x_isEV, b_tupL, exit_er, Nat.reduceMul, Nat.reduceDiv, Nat.reduceAdd, Nat.reduceMod, hc, h, onRes]
      rfl
    | some k =>
      obtain ⟨env', x', ih⟩ := at_loop hc r k (some (.d (.str s)))
      refine ⟨env', x', ?_⟩
      simp only [List.map_cons, forM, bindT_v, List.set_cons_succ, List.set_cons_zero, Kd.go, h, Option.bind_some]
      simp (decide := true) only [q_nx, q_rt, q_er, s1_ok, s1_er, p_nil, p_cons, p_asg, p_asgK, p_par, p_put, p_put1, p_put2, p_exp, p_expK, p_ret, p_retK, p_retN, p_pas, p_ite, p_ite_t, p_ite_f, p_for, p_forK, p_whl, e1_ok, e1_er, e2_ok, x_var, x_varR, x_gl, x_non, x_bl, x_int, x_str, x_bin, x_binK, x_neg, x_negK, x_not, x_notK, x_cmp, x_cmpK, x_cmp2, x_k21, x_k22, x_k23t, x_k23f, x_and, x_or, x_andT, x_andF, x_orT, x_orF, x_ife, x_ifeT, x_ifeF, x_tup, x_lst, x_idx, x_idxK, x_slc, x_slc1, x_slc2, x_slc3, x_on, x_os, x_intV, x_b1, x_b1K, x_b2, x_b2K, x_isi, x_isiK, x_call, x_comp, x_compK, x_kLst, x_mth, x_fz, x_fzd, x_lnil, x_lcons, x_lK, x_lK2, x_qn, x_qs, t_trE, t_trK, t_cmpE, t_cmpK, t_cmp2E, t_t21, t_t22, t_t23t, t_t23f, t_notE, t_notK, t_andE, t_andT, t_andF, t_orE, t_orT, t_orF, i_eE, i_strK, i_lstK, i_tupK, i_rngE, i_enuE, i_enuK, i_revE, i_zipE, i_zipL, i_zipT, v_some, b_some, b_some', List.getElem?_cons_zero, List.getElem?_cons_succ, List.set_cons_zero, List.set_cons_succ, okR_ok, okS_nx, okS_rt, o_add, o_sub, o_mod, o_div, o_mulR, o_mulL, o_pow, b_lenL, b_lenT, b_lenS, b_sum, b_min, b_max, mkO_f, mk_f, mk_t, ds_nil, ds_cons, ds_consO, lstV_of, lstV_ofK, tupV_of, tupV_ofK, exit_new, c_eq, c_ne, c_lt, c_gt, c_le, c_ge, c_eqs, exit_d, take_self, if_true, if_false, Bool.false_eq_true, Bool.true_eq_false, Bool.not_true, Bool.not_false, Int.reduceToNat, Int.reducePow, wk_rng, slc_s, slc_l, slc_t, idx_l, idx_t, c_ins, c_isb, c_nebb, c_eqbb, isi_bl, wipeE, List.foldl_cons, List.foldl_nil, bindT_v, truD, dec_t, dec_f, p_rse, p_try, tr_nx, tr_rt, tr_er, h_nil, h_cons, h_rse, h_t0, h_tS, h_f, hr_t, hr_f, no_nx, no_rt, un_nx, un_rt, x_isE, x_isEV, b_tupL, exit_er, Nat.reduceMul, Nat.reduceDiv, Nat.reduceAdd, Nat.reduceMod, hc, h, onRes]
      simp only [SRes.bind, if_true]
      exact ih
/-- a path of texts -/
def pD (p : List (List Nat)) : D := .tup (p.map D.str)
theorem kind_at_ok {fs : List Fn} {i i0 i1 i2 g g2 e : Nat} (hi : fs[i]? = some ⟨2, 3, B_kind_at i0 g2 e⟩) (h0 : fs[i0]? = some ⟨2, 3, B_kind_one_on i1 i2 g e⟩) (h1 : fs[i1]? = some ⟨1, 1, B_kind_of_items e⟩) (h2 : fs[i2]? = some ⟨2, 4, B_field_kind⟩) (k : Nat) {st : Store} (kd : Kd) (p : List (List Nat)) :
    callM fs (k + 3) i [.d kd.d, .d (pD p)] st = onRes (2 * e) st (if 8 < p.length then none else kd.go p) := by
  rw [call_2 hi [none] rfl]
  unfold B_kind_at
  by_cases h : 8 < p.length
  · have h' : (8 : Int) < (p.length : Int) := by omega
    simp (decide := true) only [q_nx, q_rt, q_er, s1_ok, s1_er, p_nil, p_cons, p_asg, p_asgK, p_par, p_put, p_put1, p_put2, p_exp, p_expK, p_ret, p_retK, p_retN, p_pas, p_ite, p_ite_t, p_ite_f, p_for, p_forK, p_whl, e1_ok, e1_er, e2_ok, x_var, x_varR, x_gl, x_non, x_bl, x_int, x_str, x_bin, x_binK, x_neg, x_negK, x_not, x_notK, x_cmp, x_cmpK, x_cmp2, x_k21, x_k22, x_k23t, x_k23f, x_and, x_or, x_andT, x_andF, x_orT, x_orF, x_ife, x_ifeT, x_ifeF, x_tup, x_lst, x_idx, x_idxK, x_slc, x_slc1, x_slc2, x_slc3, x_on, x_os, x_intV, x_b1, x_b1K, x_b2, x_b2K, x_isi, x_isiK, x_call, x_comp, x_compK, x_kLst, x_mth, x_fz, x_fzd, x_lnil, x_lcons, x_lK, x_lK2, x_qn, x_qs, t_trE, t_trK, t_cmpE, t_cmpK, t_cmp2E, t_t21, t_t22, t_t23t, t_t23f, t_notE, t_notK, t_andE, t_andT, t_andF, t_orE, t_orT, t_orF, i_eE, i_strK, i_lstK, i_tupK, i_rngE, i_enuE, i_enuK, i_revE, i_zipE, i_zipL, i_zipT, v_some, b_some, b_some', List.getElem?_cons_zero, List.getElem?_cons_succ, List.set_cons_zero, List.set_cons_succ, okR_ok, okS_nx, okS_rt, o_add, o_sub, o_mod, o_div, o_mulR, o_mulL, o_pow, b_lenL, b_lenT, b_lenS, b_sum, b_min, b_max, mkO_f, mk_f, mk_t, ds_nil, ds_cons, ds_consO, lstV_of, lstV_ofK, tupV_of, tupV_ofK, exit_new, c_eq, c_ne, c_lt, c_gt, c_le, c_ge, c_eqs, exit_d, take_self, if_true, if_false, Bool.false_eq_true, Bool.true_eq_false, Bool.not_true, Bool.not_false, Int.reduceToNat, Int.reducePow, wk_rng, slc_s, slc_l, slc_t, idx_l, idx_t, c_ins, c_isb, c_nebb, c_eqbb, isi_bl, wipeE, List.foldl_cons, List.foldl_nil, bindT_v, truD, dec_t, dec_f, p_rse, p_try, tr_nx, tr_rt, tr_er, h_nil, h_cons, h_rse, h_t0, h_tS, h_f, hr_t, hr_f, no_nx, no_rt, un_nx, un_rt, x_isE, x_isEV, b_tupL, exit_er, Nat.reduceMul, Nat.reduceDiv, Nat.reduceAdd, Nat.reduceMod, pD, List.length_map, decide_eq_true h', if_pos h, onRes]
  · have h' : ¬ (8 : Int) < (p.length : Int) := by omega
    obtain ⟨env', x', e1⟩ := at_loop (c := callM fs (k + 2)) (p := pD p) (fun kd s => one_on_ok h0 h1 h2 k kd s) p kd none
    simp (decide := true) only [q_nx, q_rt, q_er, s1_ok, s1_er, p_nil, p_cons, p_asg, p_asgK, p_par, p_put, p_put1, p_put2, p_exp, p_expK, p_ret, p_retK, p_retN, p_pas, p_ite, p_ite_t, p_ite_f, p_for, p_forK, p_whl, e1_ok, e1_er, e2_ok, x_var, x_varR, x_gl, x_non, x_bl, x_int, x_str, x_bin, x_binK, x_neg, x_negK, x_not, x_notK, x_cmp, x_cmpK, x_cmp2, x_k21, x_k22, x_k23t, x_k23f, x_and, x_or, x_andT, x_andF, x_orT, x_orF, x_ife, x_ifeT, x_ifeF, x_tup, x_lst, x_idx, x_idxK, x_slc, x_slc1, x_slc2, x_slc3, x_on, x_os, x_intV, x_b1, x_b1K, x_b2, x_b2K, x_isi, x_isiK, x_call, x_comp, x_compK, x_kLst, x_mth, x_fz, x_fzd, x_lnil, x_lcons, x_lK, x_lK2, x_qn, x_qs, t_trE, t_trK, t_cmpE, t_cmpK, t_cmp2E, t_t21, t_t22, t_t23t, t_t23f, t_notE, t_notK, t_andE, t_andT, t_andF, t_orE, t_orT, t_orF, i_eE, i_strK, i_lstK, i_tupK, i_rngE, i_enuE, i_enuK, i_revE, i_zipE, i_zipL, i_zipT, v_some, b_some, b_some', List.getElem?_cons_zero, List.getElem?_cons_succ, List.set_cons_zero, List.set_cons_succ, okR_ok, okS_nx, okS_rt, o_add, o_sub, o_mod, o_div, o_mulR, o_mulL, o_pow, b_lenL, b_lenT, b_lenS, b_sum, b_min, b_max, mkO_f, mk_f, mk_t, ds_nil, ds_cons, ds_consO, lstV_of, lstV_ofK, tupV_of, tupV_ofK, exit_new, c_eq, c_ne, c_lt, c_gt, c_le, c_ge, c_eqs, exit_d, take_self, if_true, if_false, Bool.false_eq_true, Bool.true_eq_false, Bool.not_true, Bool.not_false, Int.reduceToNat, Int.reducePow, wk_rng, slc_s, slc_l, slc_t, idx_l, idx_t, c_ins, c_isb, c_nebb, c_eqbb, isi_bl, wipeE, List.foldl_cons, List.foldl_nil, bindT_v, truD, dec_t, dec_f, p_rse, p_try, tr_nx, tr_rt, tr_er, h_nil, h_cons, h_rse, h_t0, h_tS, h_f, hr_t, hr_f, no_nx, no_rt, un_nx, un_rt, x_isE, x_isEV, b_tupL, exit_er, Nat.reduceMul, Nat.reduceDiv, Nat.reduceAdd, Nat.reduceMod, pD, List.length_map, decide_eq_false h', if_neg h]
    simp only [pD] at e1
    rw [e1]
    cases kd.go p with
    | none => simp (decide := true) only [q_nx, q_rt, q_er, s1_ok, s1_er, p_nil, p_cons, p_asg, p_asgK, p_par, p_put, p_put1, p_put2, p_exp, p_expK, p_ret, p_retK, p_retN, p_pas, p_ite, p_ite_t, p_ite_f, p_for, p_forK, p_whl, e1_ok, e1_er, e2_ok, x_var, x_varR, x_gl, x_non, x_bl, x_int, x_str, x_bin, x_binK, x_neg, x_negK, x_not, x_notK, x_cmp, x_cmpK, x_cmp2, x_k21, x_k22, x_k23t, x_k23f, x_and, x_or, x_andT, x_andF, x_orT, x_orF, x_ife, x_ifeT, x_ifeF, x_tup, x_lst, x_idx, x_idxK, x_slc, x_slc1, x_slc2, x_slc3, x_on, x_os, x_intV, x_b1, x_b1K, x_b2, x_b2K, x_isi, x_isiK, x_call, x_comp, x_compK, x_kLst, x_mth, x_fz, x_fzd, x_lnil, x_lcons, x_lK, x_lK2, x_qn, x_qs, t_trE, t_trK, t_cmpE, t_cmpK, t_cmp2E, t_t21, t_t22, t_t23t, t_t23f, t_notE, t_notK, t_andE, t_andT, t_andF, t_orE, t_orT, t_orF, i_eE, i_strK, i_lstK, i_tupK, i_rngE, i_enuE, i_enuK, i_revE, i_zipE, i_zipL, i_zipT, v_some, b_some, b_some', List.getElem?_cons_zero, List.getElem?_cons_succ, List.set_cons_zero, List.set_cons_succ, okR_ok, okS_nx, okS_rt, o_add, o_sub, o_mod, o_div, o_mulR, o_mulL, o_pow, b_lenL, b_lenT, b_lenS, b_sum, b_min, b_max, mkO_f, mk_f, mk_t, ds_nil, ds_cons, ds_consO, lstV_of, lstV_ofK, tupV_of, tupV_ofK, exit_new, c_eq, c_ne, c_lt, c_gt, c_le, c_ge, c_eqs, exit_d, take_self, if_true, if_false, Bool.false_eq_true, Bool.true_eq_false, Bool.not_true, Bool.not_false, Int.reduceToNat, Int.reducePow, wk_rng, slc_s, slc_l, slc_t, idx_l, idx_t, c_ins, c_isb, c_nebb, c_eqbb, isi_bl, wipeE, List.foldl_cons, List.foldl_nil, bindT_v, truD, dec_t, dec_f, p_rse, p_try, tr_nx, tr_rt, tr_er, h_nil, h_cons, h_rse, h_t0, h_tS, h_f, hr_t, hr_f, no_nx, no_rt, un_nx, un_rt, x_isE, x_isEV, b_tupL, exit_er, Nat.reduceMul, Nat.reduceDiv, Nat.reduceAdd, Nat.reduceMod, onRes]
    | some j => simp (decide := true) only [q_nx, q_rt, q_er, s1_ok, s1_er, p_nil, p_cons, p_asg, p_asgK, p_par, p_put, p_put1, p_put2, p_exp, p_expK, p_ret, p_retK, p_retN, p_pas, p_ite, p_ite_t, p_ite_f, p_for, p_forK, p_whl, e1_ok, e1_er, e2_ok, x_var, x_varR, x_gl, x_non, x_bl, x_int, x_str, x_bin, x_binK, x_neg, x_negK, x_not, x_notK, x_cmp, x_cmpK, x_cmp2, x_k21, x_k22, x_k23t, x_k23f, x_and, x_or, x_andT, x_andF, x_orT, x_orF, x_ife, x_ifeT, x_ifeF, x_tup, x_lst, x_idx, x_idxK, x_slc, x_slc1, x_slc2, x_slc3, x_on, x_os, x_intV, x_b1, x_b1K, x_b2, x_b2K, x_isi, x_isiK, x_call, x_comp, x_compK, x_kLst, x_mth, x_fz, x_fzd, x_lnil, x_lcons, x_lK, x_lK2, x_qn, x_qs, t_trE, t_trK, t_cmpE, t_cmpK, t_cmp2E, t_t21, t_t22, t_t23t, t_t23f, t_notE, t_notK, t_andE, t_andT, t_andF, t_orE, t_orT, t_orF, i_eE, i_strK, i_lstK, i_tupK, i_rngE, i_enuE, i_enuK, i_revE, i_zipE, i_zipL, i_zipT, v_some, b_some, b_some', List.getElem?_cons_zero, List.getElem?_cons_succ, List.set_cons_zero, List.set_cons_succ, okR_ok, okS_nx, okS_rt, o_add, o_sub, o_mod, o_div, o_mulR, o_mulL, o_pow, b_lenL, b_lenT, b_lenS, b_sum, b_min, b_max, mkO_f, mk_f, mk_t, ds_nil, ds_cons, ds_consO, lstV_of, lstV_ofK, tupV_of, tupV_ofK, exit_new, c_eq, c_ne, c_lt, c_gt, c_le, c_ge, c_eqs, exit_d, take_self, if_true, if_false, Bool.false_eq_true, Bool.true_eq_false, Bool.not_true, Bool.not_false, Int.reduceToNat, Int.reducePow, wk_rng, slc_s, slc_l, slc_t, idx_l, idx_t, c_ins, c_isb, c_nebb, c_eqbb, isi_bl, wipeE, List.foldl_cons, List.foldl_nil, bindT_v, truD, dec_t, dec_f, p_rse, p_try, tr_nx, tr_rt, tr_er, h_nil, h_cons, h_rse, h_t0, h_tS, h_f, hr_t, hr_f, no_nx, no_rt, un_nx, un_rt, x_isE, x_isEV, b_tupL, exit_er, Nat.reduceMul, Nat.reduceDiv, Nat.reduceAdd, Nat.reduceMod, onRes]
def B_law_led : Stms :=
 (.cons (.for_ (.v 2) (.e (.var 1)) (.cons (.ite (.and (.cmp .eq (.var 2) (.str [101, 97, 99, 104])) (.cmp .eq (.idx (.var 0) (.int 0)) (.str [108, 105, 115, 116]))) (.cons (.asg (.v 0) (.idx (.var 0) (.int 1)))
 .nil) (.cons (.ite (.and (.cmp .eq (.var 2) (.str [101, 97, 99, 104])) (.cmp .eq (.idx (.var 0) (.int 0)) (.str [114, 111, 119, 115]))) (.cons (.asg (.v 0) (.idx (.var 0) (.int 2)))
 .nil) (.cons (.ite (.and (.cmp .eq (.idx (.var 0) (.int 0)) (.str [114, 101, 99, 111, 114, 100])) (.cmp .isin (.var 2) (.b1 .dict false (.idx (.var 0) (.int 1))))) (.cons (.asg (.v 0) (.idx (.b1 .dict false (.idx (.var 0) (.int 1))) (.var 2)))
 .nil) (.cons (.ret .non)
 .nil))
 .nil))
 .nil))
 .nil))
 (.cons (.ret (.var 0))
 .nil))
/-- a dict of fields -/
theorem put_new {n : List Nat} {x : D} : ∀ {ns : List (List Nat)} {vs : List D}, n ∉ ns → ns.length = vs.length → dputL (.str n) x (ns.map D.str) vs = (ns.map D.str ++ [.str n], vs ++ [x])
  | [], [], _, _ => rfl
  | [], _ :: _, _, h => by simp at h
  | _ :: _, [], _, h => by simp at h
  | m :: ns, v :: vs, h, hl => by
    simp only [List.mem_cons, not_or] at h
    have hm : (m == n) = false := beq_eq_false_iff_ne.mpr fun e => h.1 e.symm
    simp only [List.map_cons, dputL, D.eqv, hm, Bool.false_eq_true, if_false, put_new h.2 (by simpa using hl), List.cons_append]
def Fl.vs : Fl → List D
  | .nil => []
  | .cons _ k r => k.d :: r.vs
theorem Fl.vs_len : ∀ f : Fl, f.ns.length = f.vs.length
  | .nil => rfl
  | .cons _ _ r => by simp only [Fl.ns, Fl.vs, List.length_cons, Fl.vs_len r]
theorem dict_fl : ∀ (f : Fl) (ns : List (List Nat)) (vs : List D), (ns ++ f.ns).Nodup → ns.length = vs.length → dictOf f.ds (ns.map D.str) vs = some ((ns ++ f.ns).map D.str, vs ++ f.vs)
  | .nil, ns, vs, _, _ => by simp only [Fl.ds, dictOf, Fl.ns, Fl.vs, List.append_nil]
  | .cons n k r, ns, vs, h, hl => by
    have hn : n ∉ ns := fun hm => by
      rw [List.nodup_append] at h
      exact h.2.2 n hm n (by simp [Fl.ns]) rfl
    simp only [Fl.ds, dictOf, isKey, if_true, put_new hn hl]
    have e : ns ++ (Fl.cons n k r).ns = (ns ++ [n]) ++ r.ns := by simp [Fl.ns]
    rw [e] at h ⊢
    have := dict_fl r (ns ++ [n]) (vs ++ [k.d]) h (by simp [hl])
    simp only [List.map_append, List.map_cons, List.map_nil] at this ⊢
    rw [this]
    simp [Fl.vs]
theorem b_dictF {f : Fl} (h : f.ns.Nodup) : opB1 .dict (.tup f.ds) = some (.dct (f.ns.map D.str) f.vs) := by
  rw [b_dictT]
  have := dict_fl f [] [] (by simpa using h) rfl
  simp only [List.map_nil, List.nil_append] at this
  rw [this]; rfl
theorem in_fl {s : List Nat} : ∀ (f : Fl) (vs : List D), opCmp .isin (.str s) (.dct (f.ns.map D.str) vs) = some (f.get s).isSome := by
  intro f vs
  show some ((f.ns.map D.str).any fun d => D.eqv d (.str s)) = _
  congr 1
  induction f using Fl.rec (motive_1 := fun _ => True) with
  | nil => rfl
  | cons n k r _ ih =>
    simp only [Fl.ns, List.map_cons, List.any_cons, D.eqv, Fl.get]
    by_cases h : n = s
    · subst h; simp
    · rw [if_neg h, beq_eq_false_iff_ne.mpr h, Bool.false_or]; exact ih
  | _ => trivial
theorem ix_fl {s : List Nat} {j : Kd} : ∀ {f : Fl}, f.get s = some j → opIdx (.dct (f.ns.map D.str) f.vs) (.str s) = some j.d := by
  intro f
  show _ → lookD (f.ns.map D.str) f.vs (.str s) = _
  induction f using Fl.rec (motive_1 := fun _ => True) with
  | nil => intro h; cases h
  | cons n k r _ ih =>
    intro h
    simp only [Fl.get] at h
    simp only [Fl.ns, Fl.vs, List.map_cons, lookD, D.eqv]
    by_cases e : n = s
    · rw [if_pos e] at h
      cases h
      subst e
      simp
    · rw [if_neg e] at h
      have hn : (n == s) = false := beq_eq_false_iff_ne.mpr e
      simp only [hn, Bool.false_eq_true, if_false]
      exact ih h
  | _ => trivial
theorem led_loop {c : Calls} {p : D} {st : Store} : ∀ (path : List (List Nat)) (kd : Kd) (x : Option Va), kd.ok → ∃ x' : Option Va,
    forM (bindT (.v 2)) (evSs c (.cons (.ite (.and (.cmp .eq (.var 2) (.str [101, 97, 99, 104])) (.cmp .eq (.idx (.var 0) (.int 0)) (.str [108, 105, 115, 116]))) (.cons (.asg (.v 0) (.idx (.var 0) (.int 1)))
 .nil) (.cons (.ite (.and (.cmp .eq (.var 2) (.str [101, 97, 99, 104])) (.cmp .eq (.idx (.var 0) (.int 0)) (.str [114, 111, 119, 115]))) (.cons (.asg (.v 0) (.idx (.var 0) (.int 2)))
 .nil) (.cons (.ite (.and (.cmp .eq (.idx (.var 0) (.int 0)) (.str [114, 101, 99, 111, 114, 100])) (.cmp .isin (.var 2) (.b1 .dict false (.idx (.var 0) (.int 1))))) (.cons (.asg (.v 0) (.idx (.b1 .dict false (.idx (.var 0) (.int 1))) (.var 2)))
 .nil) (.cons (.ret .non)
 .nil))
 .nil))
 .nil))
 .nil)) (fun _ => true) (path.map D.str) [some (.d kd.d), some (.d p), x] st =
      (match kd.go path with
        | some k => .nx [some (.d k.d), some (.d p), x'] st
        | none => .rt (.d .non) st)
  | [], kd, x, _ => ⟨x, rfl⟩
  | s :: r, kd, x, hk => by
    cases h : kd.on s with
    | none =>
      refine ⟨none, ?_⟩
      simp only [List.map_cons, forM, bindT_v, List.set_cons_succ, List.set_cons_zero, Kd.go, h, Option.bind_none]
      by_cases hs : s = tEach
      · subst hs
        cases kd with
        | lst k n => simp [Kd.on] at h
        | rws key f n => simp [Kd.on] at h
        | rcd f =>
          have e1 : opIdx (Kd.rcd f).d (.int 1) = some (.tup f.ds) := by rw [Kd.d, idx_t, ixk1]
          have hg : f.get tEach = none := Fl.get_none hk.2.1
          have hin := in_fl (s := tEach) f f.vs
          rw [hg] at hin
          simp (decide := true) only [q_nx, q_rt, q_er, s1_ok, s1_er, p_nil, p_cons, p_asg, p_asgK, p_par, p_put, p_put1, p_put2, p_exp, p_expK, p_ret, p_retK, p_retN, p_pas, p_ite, p_ite_t, p_ite_f, p_for, p_forK, p_whl, e1_ok, e1_er, e2_ok, x_var, x_varR, x_gl, x_non, x_bl, x_int, x_str, x_bin, x_binK, x_neg, x_negK, x_not, x_notK, x_cmp, x_cmpK, x_cmp2, x_k21, x_k22, x_k23t, x_k23f, x_and, x_or, x_andT, x_andF, x_orT, x_orF, x_ife, x_ifeT, x_ifeF, x_tup, x_lst, x_idx, x_idxK, x_slc, x_slc1, x_slc2, x_slc3, x_on, x_os, x_intV, x_b1, x_b1K, x_b2, x_b2K, x_isi, x_isiK, x_call, x_comp, x_compK, x_kLst, x_mth, x_fz, x_fzd, x_lnil, x_lcons, x_lK, x_lK2, x_qn, x_qs, t_trE, t_trK, t_cmpE, t_cmpK, t_cmp2E, t_t21, t_t22, t_t23t, t_t23f, t_notE, t_notK, t_andE, t_andT, t_andF, t_orE, t_orT, t_orF, i_eE, i_strK, i_lstK, i_tupK, i_rngE, i_enuE, i_enuK, i_revE, i_zipE, i_zipL, i_zipT, v_some, b_some, b_some', List.getElem?_cons_zero, List.getElem?_cons_succ, List.set_cons_zero, List.set_cons_succ, okR_ok, okS_nx, okS_rt, o_add, o_sub, o_mod, o_div, o_mulR, o_mulL, o_pow, b_lenL, b_lenT, b_lenS, b_sum, b_min, b_max, mkO_f, mk_f, mk_t, ds_nil, ds_cons, ds_consO, lstV_of, lstV_ofK, tupV_of, tupV_ofK, exit_new, c_eq, c_ne, c_lt, c_gt, c_le, c_ge, c_eqs, exit_d, take_self, if_true, if_false, Bool.false_eq_true, Bool.true_eq_false, Bool.not_true, Bool.not_false, Int.reduceToNat, Int.reducePow, wk_rng, slc_s, slc_l, slc_t, idx_l, idx_t, c_ins, c_isb, c_nebb, c_eqbb, isi_bl, wipeE, List.foldl_cons, List.foldl_nil, bindT_v, truD, dec_t, dec_f, p_rse, p_try, tr_nx, tr_rt, tr_er, h_nil, h_cons, h_rse, h_t0, h_tS, h_f, hr_t, hr_f, no_nx, no_rt, un_nx, un_rt, x_isE, x_isEV, b_tupL, exit_er, Nat.reduceMul, Nat.reduceDiv, Nat.reduceAdd, Nat.reduceMod, tag_ix, Kd.tag, e1, b_dictF hk.1, hin, Option.isSome_none, beq_dec]
          rfl
        | _ => simp (decide := true) only [q_nx, q_rt, q_er, s1_ok, s1_er, p_nil, p_cons, p_asg, p_asgK, p_par, p_put, p_put1, p_put2, p_exp, p_expK, p_ret, p_retK, p_retN, p_pas, p_ite, p_ite_t, p_ite_f, p_for, p_forK, p_whl, e1_ok, e1_er, e2_ok, x_var, x_varR, x_gl, x_non, x_bl, x_int, x_str, x_bin, x_binK, x_neg, x_negK, x_not, x_notK, x_cmp, x_cmpK, x_cmp2, x_k21, x_k22, x_k23t, x_k23f, x_and, x_or, x_andT, x_andF, x_orT, x_orF, x_ife, x_ifeT, x_ifeF, x_tup, x_lst, x_idx, x_idxK, x_slc, x_slc1, x_slc2, x_slc3, x_on, x_os, x_intV, x_b1, x_b1K, x_b2, x_b2K, x_isi, x_isiK, x_call, x_comp, x_compK, x_kLst, x_mth, x_fz, x_fzd, x_lnil, x_lcons, x_lK, x_lK2, x_qn, x_qs, t_trE, t_trK, t_cmpE, t_cmpK, t_cmp2E, t_t21, t_t22, t_t23t, t_t23f, t_notE, t_notK, t_andE, t_andT, t_andF, t_orE, t_orT, t_orF, i_eE, i_strK, i_lstK, i_tupK, i_rngE, i_enuE, i_enuK, i_revE, i_zipE, i_zipL, i_zipT, v_some, b_some, b_some', List.getElem?_cons_zero, List.getElem?_cons_succ, List.set_cons_zero, List.set_cons_succ, okR_ok, okS_nx, okS_rt, o_add, o_sub, o_mod, o_div, o_mulR, o_mulL, o_pow, b_lenL, b_lenT, b_lenS, b_sum, b_min, b_max, mkO_f, mk_f, mk_t, ds_nil, ds_cons, ds_consO, lstV_of, lstV_ofK, tupV_of, tupV_ofK, exit_new, c_eq, c_ne, c_lt, c_gt, c_le, c_ge, c_eqs, exit_d, take_self, if_true, if_false, Bool.false_eq_true, Bool.true_eq_false, Bool.not_true, Bool.not_false, Int.reduceToNat, Int.reducePow, wk_rng, slc_s, slc_l, slc_t, idx_l, idx_t, c_ins, c_isb, c_nebb, c_eqbb, isi_bl, wipeE, List.foldl_cons, List.foldl_nil, bindT_v, truD, dec_t, dec_f, p_rse, p_try, tr_nx, tr_rt, tr_er, h_nil, h_cons, h_rse, h_t0, h_tS, h_f, hr_t, hr_f, no_nx, no_rt, un_nx, un_rt, x_isE, x_isEV, b_tupL, exit_er, Nat.reduceMul, Nat.reduceDiv, Nat.reduceAdd, Nat.reduceMod, tag_ix, Kd.tag, beq_dec]; rfl
      · cases kd with
        | rcd f =>
          have e1 : opIdx (Kd.rcd f).d (.int 1) = some (.tup f.ds) := by rw [Kd.d, idx_t, ixk1]
          have hg : f.get s = none := by simpa [Kd.on, hs] using h
          have hin := in_fl (s := s) f f.vs
          rw [hg] at hin
          simp (decide := true) only [q_nx, q_rt, q_er, s1_ok, s1_er, p_nil, p_cons, p_asg, p_asgK, p_par, p_put, p_put1, p_put2, p_exp, p_expK, p_ret, p_retK, p_retN, p_pas, p_ite, p_ite_t, p_ite_f, p_for, p_forK, p_whl, e1_ok, e1_er, e2_ok, x_var, x_varR, x_gl, x_non, x_bl, x_int, x_str, x_bin, x_binK, x_neg, x_negK, x_not, x_notK, x_cmp, x_cmpK, x_cmp2, x_k21, x_k22, x_k23t, x_k23f, x_and, x_or, x_andT, x_andF, x_orT, x_orF, x_ife, x_ifeT, x_ifeF, x_tup, x_lst, x_idx, x_idxK, x_slc, x_slc1, x_slc2, x_slc3, x_on, x_os, x_intV, x_b1, x_b1K, x_b2, x_b2K, x_isi, x_isiK, x_call, x_comp, x_compK, x_kLst, x_mth, x_fz, x_fzd, x_lnil, x_lcons, x_lK, x_lK2, x_qn, x_qs, t_trE, t_trK, t_cmpE, t_cmpK, t_cmp2E, t_t21, t_t22, t_t23t, t_t23f, t_notE, t_notK, t_andE, t_andT, t_andF, t_orE, t_orT, t_orF, i_eE, i_strK, i_lstK, i_tupK, i_rngE, i_enuE, i_enuK, i_revE, i_zipE, i_zipL, i_zipT, v_some, b_some, b_some', List.getElem?_cons_zero, List.getElem?_cons_succ, List.set_cons_zero, List.set_cons_succ, okR_ok, okS_nx, okS_rt, o_add, o_sub, o_mod, o_div, o_mulR, o_mulL, o_pow, b_lenL, b_lenT, b_lenS, b_sum, b_min, b_max, mkO_f, mk_f, mk_t, ds_nil, ds_cons, ds_consO, lstV_of, lstV_ofK, tupV_of, tupV_ofK, exit_new, c_eq, c_ne, c_lt, c_gt, c_le, c_ge, c_eqs, exit_d, take_self, if_true, if_false, Bool.false_eq_true, Bool.true_eq_false, Bool.not_true, Bool.not_false, Int.reduceToNat, Int.reducePow, wk_rng, slc_s, slc_l, slc_t, idx_l, idx_t, c_ins, c_isb, c_nebb, c_eqbb, isi_bl, wipeE, List.foldl_cons, List.foldl_nil, bindT_v, truD, dec_t, dec_f, p_rse, p_try, tr_nx, tr_rt, tr_er, h_nil, h_cons, h_rse, h_t0, h_tS, h_f, hr_t, hr_f, no_nx, no_rt, un_nx, un_rt, x_isE, x_isEV, b_tupL, exit_er, Nat.reduceMul, Nat.reduceDiv, Nat.reduceAdd, Nat.reduceMod, beq_dec, decide_eq_false hs, tag_ix, Kd.tag, e1, b_dictF hk.1, hin, Option.isSome_none]
          rfl
        | _ => simp (decide := true) only [q_nx, q_rt, q_er, s1_ok, s1_er, p_nil, p_cons, p_asg, p_asgK, p_par, p_put, p_put1, p_put2, p_exp, p_expK, p_ret, p_retK, p_retN, p_pas, p_ite, p_ite_t, p_ite_f, p_for, p_forK, p_whl, e1_ok, e1_er, e2_ok, x_var, x_varR, x_gl, x_non, x_bl, x_int, x_str, x_bin, x_binK, x_neg, x_negK, x_not, x_notK, x_cmp, x_cmpK, x_cmp2, x_k21, x_k22, x_k23t, x_k23f, x_and, x_or, x_andT, x_andF, x_orT, x_orF, x_ife, x_ifeT, x_ifeF, x_tup, x_lst, x_idx, x_idxK, x_slc, x_slc1, x_slc2, x_slc3, x_on, x_os, x_intV, x_b1, x_b1K, x_b2, x_b2K, x_isi, x_isiK, x_call, x_comp, x_compK, x_kLst, x_mth, x_fz, x_fzd, x_lnil, x_lcons, x_lK, x_lK2, x_qn, x_qs, t_trE, t_trK, t_cmpE, t_cmpK, t_cmp2E, t_t21, t_t22, t_t23t, t_t23f, t_notE, t_notK, t_andE, t_andT, t_andF, t_orE, t_orT, t_orF, i_eE, i_strK, i_lstK, i_tupK, i_rngE, i_enuE, i_enuK, i_revE, i_zipE, i_zipL, i_zipT, v_some, b_some, b_some', List.getElem?_cons_zero, List.getElem?_cons_succ, List.set_cons_zero, List.set_cons_succ, okR_ok, okS_nx, okS_rt, o_add, o_sub, o_mod, o_div, o_mulR, o_mulL, o_pow, b_lenL, b_lenT, b_lenS, b_sum, b_min, b_max, mkO_f, mk_f, mk_t, ds_nil, ds_cons, ds_consO, lstV_of, lstV_ofK, tupV_of, tupV_ofK, exit_new, c_eq, c_ne, c_lt, c_gt, c_le, c_ge, c_eqs, exit_d, take_self, if_true, if_false, Bool.false_eq_true, Bool.true_eq_false, Bool.not_true, Bool.not_false, Int.reduceToNat, Int.reducePow, wk_rng, slc_s, slc_l, slc_t, idx_l, idx_t, c_ins, c_isb, c_nebb, c_eqbb, isi_bl, wipeE, List.foldl_cons, List.foldl_nil, bindT_v, truD, dec_t, dec_f, p_rse, p_try, tr_nx, tr_rt, tr_er, h_nil, h_cons, h_rse, h_t0, h_tS, h_f, hr_t, hr_f, no_nx, no_rt, un_nx, un_rt, x_isE, x_isEV, b_tupL, exit_er, Nat.reduceMul, Nat.reduceDiv, Nat.reduceAdd, Nat.reduceMod, beq_dec, decide_eq_false hs, tag_ix, Kd.tag]; rfl
    | some j =>
      obtain ⟨x', ih⟩ := led_loop r j (some (.d (.str s))) (Kd.on_ok hk h)
      refine ⟨x', ?_⟩
      simp only [List.map_cons, forM, bindT_v, List.set_cons_succ, List.set_cons_zero, Kd.go, h, Option.bind_some]
      by_cases hs : s = tEach
      · subst hs
        cases kd with
        | lst k n =>
          obtain rfl : k = j := by simpa [Kd.on] using h
          have e1 : opIdx (Kd.lst k n).d (.int 1) = some k.d := by rw [Kd.d, idx_t, ixk1]
          simp (decide := true) only [q_nx, q_rt, q_er, s1_ok, s1_er, p_nil, p_cons, p_asg, p_asgK, p_par, p_put, p_put1, p_put2, p_exp, p_expK, p_ret, p_retK, p_retN, p_pas, p_ite, p_ite_t, p_ite_f, p_for, p_forK, p_whl, e1_ok, e1_er, e2_ok, x_var, x_varR, x_gl, x_non, x_bl, x_int, x_str, x_bin, x_binK, x_neg, x_negK, x_not, x_notK, x_cmp, x_cmpK, x_cmp2, x_k21, x_k22, x_k23t, x_k23f, x_and, x_or, x_andT, x_andF, x_orT, x_orF, x_ife, x_ifeT, x_ifeF, x_tup, x_lst, x_idx, x_idxK, x_slc, x_slc1, x_slc2, x_slc3, x_on, x_os, x_intV, x_b1, x_b1K, x_b2, x_b2K, x_isi, x_isiK, x_call, x_comp, x_compK, x_kLst, x_mth, x_fz, x_fzd, x_lnil, x_lcons, x_lK, x_lK2, x_qn, x_qs, t_trE, t_trK, t_cmpE, t_cmpK, t_cmp2E, t_t21, t_t22, t_t23t, t_t23f, t_notE, t_notK, t_andE, t_andT, t_andF, t_orE, t_orT, t_orF, i_eE, i_strK, i_lstK, i_tupK, i_rngE, i_enuE, i_enuK, i_revE, i_zipE, i_zipL, i_zipT, v_some, b_some, b_some', List.getElem?_cons_zero, List.getElem?_cons_succ, List.set_cons_zero, List.set_cons_succ, okR_ok, okS_nx, okS_rt, o_add, o_sub, o_mod, o_div, o_mulR, o_mulL, o_pow, b_lenL, b_lenT, b_lenS, b_sum, b_min, b_max, mkO_f, mk_f, mk_t, ds_nil, ds_cons, ds_consO, lstV_of, lstV_ofK, tupV_of, tupV_ofK, exit_new, c_eq, c_ne, c_lt, c_gt, c_le, c_ge, c_eqs, exit_d, take_self, if_true, if_false, Bool.false_eq_true, Bool.true_eq_false, Bool.not_true, Bool.not_false, Int.reduceToNat, Int.reducePow, wk_rng, slc_s, slc_l, slc_t, idx_l, idx_t, c_ins, c_isb, c_nebb, c_eqbb, isi_bl, wipeE, List.foldl_cons, List.foldl_nil, bindT_v, truD, dec_t, dec_f, p_rse, p_try, tr_nx, tr_rt, tr_er, h_nil, h_cons, h_rse, h_t0, h_tS, h_f, hr_t, hr_f, no_nx, no_rt, un_nx, un_rt, x_isE, x_isEV, b_tupL, exit_er, Nat.reduceMul, Nat.reduceDiv, Nat.reduceAdd, Nat.reduceMod, tag_ix, Kd.tag, e1, beq_dec]
          simp only [SRes.bind, if_true]
          exact ih
        | rws key f n =>
          obtain rfl : Kd.rcd f = j := by simpa [Kd.on] using h
          have e1 : opIdx (Kd.rws key f n).d (.int 2) = some (Kd.rcd f).d := by
            show opIdx (.tup [_, _, _, _]) (.int 2) = _
            rw [idx_t, ixk2]; rfl
          simp (decide := true) only [q_nx, q_rt, q_er, s1_ok, s1_er, p_nil, p_cons, p_asg, p_asgK, p_par, p_put, p_put1, p_put2, p_exp, p_expK, p_ret, p_retK, p_retN, p_pas, p_ite, p_ite_t, p_ite_f, p_for, p_forK, p_whl, e1_ok, e1_er, e2_ok, x_var, x_varR, x_gl, x_non, x_bl, x_int, x_str, x_bin, x_binK, x_neg, x_negK, x_not, x_notK, x_cmp, x_cmpK, x_cmp2, x_k21, x_k22, x_k23t, x_k23f, x_and, x_or, x_andT, x_andF, x_orT, x_orF, x_ife, x_ifeT, x_ifeF, x_tup, x_lst, x_idx, x_idxK, x_slc, x_slc1, x_slc2, x_slc3, x_on, x_os, x_intV, x_b1, x_b1K, x_b2, x_b2K, x_isi, x_isiK, x_call, x_comp, x_compK, x_kLst, x_mth, x_fz, x_fzd, x_lnil, x_lcons, x_lK, x_lK2, x_qn, x_qs, t_trE, t_trK, t_cmpE, t_cmpK, t_cmp2E, t_t21, t_t22, t_t23t, t_t23f, t_notE, t_notK, t_andE, t_andT, t_andF, t_orE, t_orT, t_orF, i_eE, i_strK, i_lstK, i_tupK, i_rngE, i_enuE, i_enuK, i_revE, i_zipE, i_zipL, i_zipT, v_some, b_some, b_some', List.getElem?_cons_zero, List.getElem?_cons_succ, List.set_cons_zero, List.set_cons_succ, okR_ok, okS_nx, okS_rt, o_add, o_sub, o_mod, o_div, o_mulR, o_mulL, o_pow, b_lenL, b_lenT, b_lenS, b_sum, b_min, b_max, mkO_f, mk_f, mk_t, ds_nil, ds_cons, ds_consO, lstV_of, lstV_ofK, tupV_of, tupV_ofK, exit_new, c_eq, c_ne, c_lt, c_gt, c_le, c_ge, c_eqs, exit_d, take_self, if_true, if_false, Bool.false_eq_true, Bool.true_eq_false, Bool.not_true, Bool.not_false, Int.reduceToNat, Int.reducePow, wk_rng, slc_s, slc_l, slc_t, idx_l, idx_t, c_ins, c_isb, c_nebb, c_eqbb, isi_bl, wipeE, List.foldl_cons, List.foldl_nil, bindT_v, truD, dec_t, dec_f, p_rse, p_try, tr_nx, tr_rt, tr_er, h_nil, h_cons, h_rse, h_t0, h_tS, h_f, hr_t, hr_f, no_nx, no_rt, un_nx, un_rt, x_isE, x_isEV, b_tupL, exit_er, Nat.reduceMul, Nat.reduceDiv, Nat.reduceAdd, Nat.reduceMod, tag_ix, Kd.tag, e1, beq_dec]
          simp only [SRes.bind, if_true]
          exact ih
        | rcd f => simp [Kd.on] at h
        | _ => cases h
      · cases kd with
        | rcd f =>
          have e1 : opIdx (Kd.rcd f).d (.int 1) = some (.tup f.ds) := by rw [Kd.d, idx_t, ixk1]
          have hg : f.get s = some j := by simpa [Kd.on, hs] using h
          have hin := in_fl (s := s) f f.vs
          rw [hg] at hin
          simp (decide := true) only [q_nx, q_rt, q_er, s1_ok, s1_er, p_nil, p_cons, p_asg, p_asgK, p_par, p_put, p_put1, p_put2, p_exp, p_expK, p_ret, p_retK, p_retN, p_pas, p_ite, p_ite_t, p_ite_f, p_for, p_forK, p_whl, e1_ok, e1_er, e2_ok, x_var, x_varR, x_gl, x_non, x_bl, x_int, x_str, x_bin, x_binK, x_neg, x_negK, x_not, x_notK, x_cmp, x_cmpK, x_cmp2, x_k21, x_k22, x_k23t, x_k23f, x_and, x_or, x_andT, x_andF, x_orT, x_orF, x_ife, x_ifeT, x_ifeF, x_tup, x_lst, x_idx, x_idxK, x_slc, x_slc1, x_slc2, x_slc3, x_on, x_os, x_intV, x_b1, x_b1K, x_b2, x_b2K, x_isi, x_isiK, x_call, x_comp, x_compK, x_kLst, x_mth, x_fz, x_fzd, x_lnil, x_lcons, x_lK, x_lK2, x_qn, x_qs, t_trE, t_trK, t_cmpE, t_cmpK, t_cmp2E, t_t21, t_t22, t_t23t, t_t23f, t_notE, t_notK, t_andE, t_andT, t_andF, t_orE, t_orT, t_orF, i_eE, i_strK, i_lstK, i_tupK, i_rngE, i_enuE, i_enuK, i_revE, i_zipE, i_zipL, i_zipT, v_some, b_some, b_some', List.getElem?_cons_zero, List.getElem?_cons_succ, List.set_cons_zero, List.set_cons_succ, okR_ok, okS_nx, okS_rt, o_add, o_sub, o_mod, o_div, o_mulR, o_mulL, o_pow, b_lenL, b_lenT, b_lenS, b_sum, b_min, b_max, mkO_f, mk_f, mk_t, ds_nil, ds_cons, ds_consO, lstV_of, lstV_ofK, tupV_of, tupV_ofK, exit_new, c_eq, c_ne, c_lt, c_gt, c_le, c_ge, c_eqs, exit_d, take_self, if_true, if_false, Bool.false_eq_true, Bool.true_eq_false, Bool.not_true, Bool.not_false, Int.reduceToNat, Int.reducePow, wk_rng, slc_s, slc_l, slc_t, idx_l, idx_t, c_ins, c_isb, c_nebb, c_eqbb, isi_bl, wipeE, List.foldl_cons, List.foldl_nil, bindT_v, truD, dec_t, dec_f, p_rse, p_try, tr_nx, tr_rt, tr_er, h_nil, h_cons, h_rse, h_t0, h_tS, h_f, hr_t, hr_f, no_nx, no_rt, un_nx, un_rt, x_isE, x_isEV, b_tupL, exit_er, Nat.reduceMul, Nat.reduceDiv, Nat.reduceAdd, Nat.reduceMod, beq_dec, decide_eq_false hs, tag_ix, Kd.tag, e1, b_dictF hk.1, hin, Option.isSome_some, ix_fl hg]
          simp only [SRes.bind, if_true]
          exact ih
        | lst k n => simp [Kd.on, hs] at h
        | rws key f n => simp [Kd.on, hs] at h
        | _ => cases h
theorem led_ok {fs : List Fn} {i : Nat} (hi : fs[i]? = some ⟨2, 3, B_law_led⟩) (k : Nat) {st : Store} (kd : Kd) (h : kd.ok) (p : List (List Nat)) :
    callM fs (k + 1) i [.d kd.d, .d (pD p)] st = .ok (.d (optK (kd.go p))) st := by
  rw [call_2 hi [none] rfl]
  unfold B_law_led
  obtain ⟨x', e⟩ := led_loop (c := callM fs k) (p := pD p) (st := st) p kd none h
  simp only [pD] at e
  simp (decide := true) only [q_nx, q_rt, q_er, s1_ok, s1_er, p_nil, p_cons, p_asg, p_asgK, p_par, p_put, p_put1, p_put2, p_exp, p_expK, p_ret, p_retK, p_retN, p_pas, p_ite, p_ite_t, p_ite_f, p_for, p_forK, p_whl, e1_ok, e1_er, e2_ok, x_var, x_varR, x_gl, x_non, x_bl, x_int, x_str, x_bin, x_binK, x_neg, x_negK, x_not, x_notK, x_cmp, x_cmpK, x_cmp2, x_k21, x_k22, x_k23t, x_k23f, x_and, x_or, x_andT, x_andF, x_orT, x_orF, x_ife, x_ifeT, x_ifeF, x_tup, x_lst, x_idx, x_idxK, x_slc, x_slc1, x_slc2, x_slc3, x_on, x_os, x_intV, x_b1, x_b1K, x_b2, x_b2K, x_isi, x_isiK, x_call, x_comp, x_compK, x_kLst, x_mth, x_fz, x_fzd, x_lnil, x_lcons, x_lK, x_lK2, x_qn, x_qs, t_trE, t_trK, t_cmpE, t_cmpK, t_cmp2E, t_t21, t_t22, t_t23t, t_t23f, t_notE, t_notK, t_andE, t_andT, t_andF, t_orE, t_orT, t_orF, i_eE, i_strK, i_lstK, i_tupK, i_rngE, i_enuE, i_enuK, i_revE, i_zipE, i_zipL, i_zipT, v_some, b_some, b_some', List.getElem?_cons_zero, List.getElem?_cons_succ, List.set_cons_zero, List.set_cons_succ, okR_ok, okS_nx, okS_rt, o_add, o_sub, o_mod, o_div, o_mulR, o_mulL, o_pow, b_lenL, b_lenT, b_lenS, b_sum, b_min, b_max, mkO_f, mk_f, mk_t, ds_nil, ds_cons, ds_consO, lstV_of, lstV_ofK, tupV_of, tupV_ofK, exit_new, c_eq, c_ne, c_lt, c_gt, c_le, c_ge, c_eqs, exit_d, take_self, if_true, if_false, Bool.false_eq_true, Bool.true_eq_false, Bool.not_true, Bool.not_false, Int.reduceToNat, Int.reducePow, wk_rng, slc_s, slc_l, slc_t, idx_l, idx_t, c_ins, c_isb, c_nebb, c_eqbb, isi_bl, wipeE, List.foldl_cons, List.foldl_nil, bindT_v, truD, dec_t, dec_f, p_rse, p_try, tr_nx, tr_rt, tr_er, h_nil, h_cons, h_rse, h_t0, h_tS, h_f, hr_t, hr_f, no_nx, no_rt, un_nx, un_rt, x_isE, x_isEV, b_tupL, exit_er, Nat.reduceMul, Nat.reduceDiv, Nat.reduceAdd, Nat.reduceMod, pD, e]
  cases kd.go p with
  | none => simp (decide := true) only [q_nx, q_rt, q_er, s1_ok, s1_er, p_nil, p_cons, p_asg, p_asgK, p_par, p_put, p_put1, p_put2, p_exp, p_expK, p_ret, p_retK, p_retN, p_pas, p_ite, p_ite_t, p_ite_f, p_for, p_forK, p_whl, e1_ok, e1_er, e2_ok, x_var, x_varR, x_gl, x_non, x_bl, x_int, x_str, x_bin, x_binK, x_neg, x_negK, x_not, x_notK, x_cmp, x_cmpK, x_cmp2, x_k21, x_k22, x_k23t, x_k23f, x_and, x_or, x_andT, x_andF, x_orT, x_orF, x_ife, x_ifeT, x_ifeF, x_tup, x_lst, x_idx, x_idxK, x_slc, x_slc1, x_slc2, x_slc3, x_on, x_os, x_intV, x_b1, x_b1K, x_b2, x_b2K, x_isi, x_isiK, x_call, x_comp, x_compK, x_kLst, x_mth, x_fz, x_fzd, x_lnil, x_lcons, x_lK, x_lK2, x_qn, x_qs, t_trE, t_trK, t_cmpE, t_cmpK, t_cmp2E, t_t21, t_t22, t_t23t, t_t23f, t_notE, t_notK, t_andE, t_andT, t_andF, t_orE, t_orT, t_orF, i_eE, i_strK, i_lstK, i_tupK, i_rngE, i_enuE, i_enuK, i_revE, i_zipE, i_zipL, i_zipT, v_some, b_some, b_some', List.getElem?_cons_zero, List.getElem?_cons_succ, List.set_cons_zero, List.set_cons_succ, okR_ok, okS_nx, okS_rt, o_add, o_sub, o_mod, o_div, o_mulR, o_mulL, o_pow, b_lenL, b_lenT, b_lenS, b_sum, b_min, b_max, mkO_f, mk_f, mk_t, ds_nil, ds_cons, ds_consO, lstV_of, lstV_ofK, tupV_of, tupV_ofK, exit_new, c_eq, c_ne, c_lt, c_gt, c_le, c_ge, c_eqs, exit_d, take_self, if_true, if_false, Bool.false_eq_true, Bool.true_eq_false, Bool.not_true, Bool.not_false, Int.reduceToNat, Int.reducePow, wk_rng, slc_s, slc_l, slc_t, idx_l, idx_t, c_ins, c_isb, c_nebb, c_eqbb, isi_bl, wipeE, List.foldl_cons, List.foldl_nil, bindT_v, truD, dec_t, dec_f, p_rse, p_try, tr_nx, tr_rt, tr_er, h_nil, h_cons, h_rse, h_t0, h_tS, h_f, hr_t, hr_f, no_nx, no_rt, un_nx, un_rt, x_isE, x_isEV, b_tupL, exit_er, Nat.reduceMul, Nat.reduceDiv, Nat.reduceAdd, Nat.reduceMod, optK]
  | some j => simp (decide := true) only [q_nx, q_rt, q_er, s1_ok, s1_er, p_nil, p_cons, p_asg, p_asgK, p_par, p_put, p_put1, p_put2, p_exp, p_expK, p_ret, p_retK, p_retN, p_pas, p_ite, p_ite_t, p_ite_f, p_for, p_forK, p_whl, e1_ok, e1_er, e2_ok, x_var, x_varR, x_gl, x_non, x_bl, x_int, x_str, x_bin, x_binK, x_neg, x_negK, x_not, x_notK, x_cmp, x_cmpK, x_cmp2, x_k21, x_k22, x_k23t, x_k23f, x_and, x_or, x_andT, x_andF, x_orT, x_orF, x_ife, x_ifeT, x_ifeF, x_tup, x_lst, x_idx, x_idxK, x_slc, x_slc1, x_slc2, x_slc3, x_on, x_os, x_intV, x_b1, x_b1K, x_b2, x_b2K, x_isi, x_isiK, x_call, x_comp, x_compK, x_kLst, x_mth, x_fz, x_fzd, x_lnil, x_lcons, x_lK, x_lK2, x_qn, x_qs, t_trE, t_trK, t_cmpE, t_cmpK, t_cmp2E, t_t21, t_t22, t_t23t, t_t23f, t_notE, t_notK, t_andE, t_andT, t_andF, t_orE, t_orT, t_orF, i_eE, i_strK, i_lstK, i_tupK, i_rngE, i_enuE, i_enuK, i_revE, i_zipE, i_zipL, i_zipT, v_some, b_some, b_some', List.getElem?_cons_zero, List.getElem?_cons_succ, List.set_cons_zero, List.set_cons_succ, okR_ok, okS_nx, okS_rt, o_add, o_sub, o_mod, o_div, o_mulR, o_mulL, o_pow, b_lenL, b_lenT, b_lenS, b_sum, b_min, b_max, mkO_f, mk_f, mk_t, ds_nil, ds_cons, ds_consO, lstV_of, lstV_ofK, tupV_of, tupV_ofK, exit_new, c_eq, c_ne, c_lt, c_gt, c_le, c_ge, c_eqs, exit_d, take_self, if_true, if_false, Bool.false_eq_true, Bool.true_eq_false, Bool.not_true, Bool.not_false, Int.reduceToNat, Int.reducePow, wk_rng, slc_s, slc_l, slc_t, idx_l, idx_t, c_ins, c_isb, c_nebb, c_eqbb, isi_bl, wipeE, List.foldl_cons, List.foldl_nil, bindT_v, truD, dec_t, dec_f, p_rse, p_try, tr_nx, tr_rt, tr_er, h_nil, h_cons, h_rse, h_t0, h_tS, h_f, hr_t, hr_f, no_nx, no_rt, un_nx, un_rt, x_isE, x_isEV, b_tupL, exit_er, Nat.reduceMul, Nat.reduceDiv, Nat.reduceAdd, Nat.reduceMod, optK]
end Ev

namespace Ev
theorem row_at {st : Store} {i : Nat} (hi : i < st.length) {u : Int} : Row (sR st i u) i u := List.getElem?_set_self hi
section
variable {fs : List Fn} {d : Nat} (hd : fs[d]? = some ⟨2, 3, B_digit⟩) (k : Nat) {st : Store} {i : Nat} (hi : i < st.length)
include hd hi
theorem digS {u m : Int} (hm : 0 < m) (hb : m.natAbs < 2 ^ 64) : callM fs (k + 1) d [.r i, .d (.int m)] (sR st i u) = .ok (.d (.int (u % m))) (sR st i (u / m)) := by
  rw [digit_ok hd k (row_at hi) hm (p64 hb), sR_sR]
end
theorem takeS {st : Store} {r : Nat} {u v : Int} : (sR st r u).take (sR st r v).length = sR st r u := by
  rw [sR_len]
  exact List.take_of_length_le (Nat.le_of_eq sR_len)
def nm (s : List Nat) : Prop := 1 ≤ s.length ∧ s.length ≤ 8 ∧ (∀ c ∈ s, 97 ≤ c ∧ c ≤ 122) ∧ s ≠ tEach
instance (s : List Nat) : Decidable (nm s) := inferInstanceAs (Decidable (_ ∧ _ ∧ _ ∧ _))
def asc (ns : List (List Nat)) : Prop := ns.Pairwise fun a b => ltL a b = true
instance (ns : List (List Nat)) : Decidable (asc ns) := inferInstanceAs (Decidable (List.Pairwise _ _))
abbrev B30 : Int := 1000000000000000000000000000000
def isLf : Kd → Bool
  | .num _ _ | .txt _ => true
  | _ => false
mutual
def Kd.wf : Kd → Prop
  | .num lo hi => -B30 ≤ lo ∧ lo ≤ hi ∧ hi ≤ B30
  | .txt n => 0 ≤ n ∧ n ≤ 60
  | .cho ws => 1 ≤ ws.length ∧ ws.length ≤ 8 ∧ ws.Nodup ∧ ∀ w ∈ ws, nm w
  | .lst k n => k.wf ∧ 0 ≤ n ∧ n ≤ 8
  | .rcd f => f.ns.length ≤ 8 ∧ asc f.ns ∧ (∀ n ∈ f.ns, nm n) ∧ f.wf
  | .rws key f n => f.ns.length ≤ 8 ∧ asc f.ns ∧ (∀ n ∈ f.ns, nm n) ∧ f.wf ∧ 0 ≤ n ∧ n ≤ 8 ∧ ∃ k, f.get key = some k ∧ isLf k = true
def Fl.wf : Fl → Prop
  | .nil => True
  | .cons _ k r => k.wf ∧ r.wf
end
theorem ltL_irrefl : ∀ s : List Nat, ltL s s = false
  | [] => rfl
  | x :: s => by simp only [ltL, if_true]; exact ltL_irrefl s
theorem asc_nodup {ns : List (List Nat)} (h : asc ns) : ns.Nodup := List.Pairwise.imp (fun {a b} h e => by subst e; rw [ltL_irrefl] at h; cases h) h
mutual
theorem Kd.wf_ok : ∀ {k : Kd}, k.wf → k.ok
  | .num _ _, _ => trivial
  | .txt _, _ => trivial
  | .cho _, _ => trivial
  | .lst k _, h => (Kd.wf_ok h.1 : k.ok)
  | .rcd f, h => ⟨asc_nodup h.2.1, fun hm => (h.2.2.1 _ hm).2.2.2 rfl, Fl.wf_ok h.2.2.2⟩
  | .rws _ f _, h => ⟨asc_nodup h.2.1, fun hm => (h.2.2.1 _ hm).2.2.2 rfl, Fl.wf_ok h.2.2.2.1⟩
theorem Fl.wf_ok : ∀ {f : Fl}, f.wf → f.ok
  | .nil, _ => trivial
  | .cons _ k r, h => ⟨Kd.wf_ok h.1, Fl.wf_ok h.2⟩
end
theorem Fl.snoc_wf {n : List Nat} {k : Kd} : ∀ {f : Fl}, f.wf → k.wf → (f.snoc n k).wf
  | .nil, _, h => ⟨h, trivial⟩
  | .cons m j r, h, h2 => ⟨h.1, Fl.snoc_wf h.2 h2⟩
theorem Fl.get_snoc {n : List Nat} {k : Kd} : ∀ {f : Fl}, n ∉ f.ns → (f.snoc n k).get n = some k
  | .nil, _ => by simp [Fl.snoc, Fl.get]
  | .cons m j r, h => by
    simp only [Fl.ns, List.mem_cons, not_or] at h
    simp only [Fl.snoc, Fl.get]
    rw [if_neg (fun e => h.1 e.symm)]
    exact Fl.get_snoc h.2
mutual
/-- how many kinds it is, those within it too -/
def Kd.cnt : Kd → Nat
  | .lst k _ => k.cnt + 1
  | .rcd f => f.cnt + 1
  | .rws _ f _ => f.cnt + 2
  | _ => 1
def Fl.cnt : Fl → Nat
  | .nil => 0
  | .cons _ k r => k.cnt + r.cnt
end
theorem Fl.snoc_cnt {n : List Nat} {k : Kd} : ∀ {f : Fl}, (f.snoc n k).cnt = f.cnt + k.cnt
  | .nil => by simp only [Fl.snoc, Fl.cnt]; omega
  | .cons m j r => by simp only [Fl.snoc, Fl.cnt, Fl.snoc_cnt (f := r)]; omega
def B_law_leaf (cl_digit : Nat) : Stms :=
 (.cons (.asg (.v 1) (.call cl_digit (.cons (.var 0) (.cons (.int 4) .nil))))
 (.cons (.ite (.cmp .eq (.var 1) (.int 0)) (.cons (.ret (.tup (.cons (.str [116, 101, 120, 116]) (.cons (.idx (.lst false (.cons (.int 0) (.cons (.int 1) (.cons (.int 3) (.cons (.int 5) (.cons (.int 60) .nil)))))) (.call cl_digit (.cons (.var 0) (.cons (.int 5) .nil)))) .nil))))
 .nil) .nil)
 (.cons (.ite (.cmp .eq (.var 1) (.int 1)) (.cons (.ret (.tup (.cons (.str [99, 104, 111, 105, 99, 101]) (.cons (.slc (.tup (.cons (.str [98]) (.cons (.str [97]) (.cons (.str [110, 111]) (.cons (.str [121, 101, 115]) .nil))))) (.some (.call cl_digit (.cons (.var 0) (.cons (.int 3) .nil)))) .none) .nil))))
 .nil) .nil)
 (.cons (.asg (.v 2) (.idx (.lst false (.cons (.int 0) (.cons (.int 0) (.cons (.neg (.int 7)) (.cons (.int 10) (.cons (.int 3) (.cons (.neg (.bin .pow (.int 10) (.int 30))) .nil))))))) (.call cl_digit (.cons (.var 0) (.cons (.int 6) .nil)))))
 (.cons (.ret (.tup (.cons (.str [110, 117, 109, 98, 101, 114]) (.cons (.var 2) (.cons (.b2 .min (.bin .pow (.int 10) (.int 30)) (.bin .add (.var 2) (.idx (.lst false (.cons (.int 9) (.cons (.int 0) (.cons (.int 30) (.cons (.int 99) (.cons (.int 20) (.cons (.bin .pow (.int 10) (.int 30)) .nil))))))) (.call cl_digit (.cons (.var 0) (.cons (.int 6) .nil)))))) .nil)))))
 .nil)))))
def lfW : List (List Nat) := [[98], [97], [110, 111], [121, 101, 115]]
theorem lfW_ok (n : Nat) (h : n < 3) : (Kd.cho (lfW.drop n)).wf := by
  have : n = 0 ∨ n = 1 ∨ n = 2 := by omega
  rcases this with rfl | rfl | rfl <;> exact ⟨by decide, by decide, by decide, by decide⟩
theorem cut_from {α : Type} {xs : List α} {n : Nat} (h : n ≤ xs.length) : cut xs (some (n : Int)) none = xs.drop n := by
  unfold cut clip
  simp only
  rw [if_neg (by omega)]
  have e : min (n : Int).toNat xs.length = n := by omega
  rw [e]
  exact List.take_of_length_le (by rw [List.length_drop]; exact Nat.le_refl _)
theorem int_mem {u m : Int} (ls : List Int) (hl : (ls.length : Int) = m) (hm : 0 < m) : ∃ x, getIx (ls.map D.int) (u % m) = some (.int x) ∧ x ∈ ls := by
  obtain ⟨x, h1, h2⟩ := ix_int (xs := ls.map D.int) (i := u % m) (Int.emod_nonneg _ (by omega)) (by rw [List.length_map, hl]; exact Int.emod_lt_of_pos u hm)
  obtain ⟨y, hy, rfl⟩ := List.mem_map.mp h2
  exact ⟨y, h1, hy⟩
section
variable {fs : List Fn} {d : Nat} (hd : fs[d]? = some ⟨2, 3, B_digit⟩)
include hd
theorem leaf_ok {l : Nat} (hl : fs[l]? = some ⟨1, 3, B_law_leaf d⟩) (k : Nat) {st : Store} {r : Nat} (hr : r < st.length) (v : Int) :
    ∃ (kd : Kd) (v' : Int), callM fs (k + 2) l [.r r] (sR st r v) = .ok (.d kd.d) (sR st r v') ∧ kd.wf ∧ kd.dep = 0 ∧ kd.cnt = 1 := by
  rw [call_1 hl [none, none] rfl]
  unfold B_law_leaf
  by_cases h0 : v % 4 = 0
  · obtain ⟨n, e, hn⟩ := int_mem (u := v / 4) (m := 5) [0, 1, 3, 5, 60] rfl (by decide)
    simp only [List.map_cons, List.map_nil] at e
    refine ⟨.txt n, v / 4 / 5, ?_, ?_, rfl, rfl⟩
    · simp (decide := true) only [q_nx, q_rt, q_er, s1_ok, s1_er, p_nil, p_cons, p_asg, p_asgK, p_par, p_put, p_put1, p_put2, p_exp, p_expK, p_ret, p_retK, p_retN, p_pas, p_ite, p_ite_t, p_ite_f, p_for, p_forK, p_whl, e1_ok, e1_er, e2_ok, x_var, x_varR, x_gl, x_non, x_bl, x_int, x_str, x_bin, x_binK, x_neg, x_negK, x_not, x_notK, x_cmp, x_cmpK, x_cmp2, x_k21, x_k22, x_k23t, x_k23f, x_and, x_or, x_andT, x_andF, x_orT, x_orF, x_ife, x_ifeT, x_ifeF, x_tup, x_lst, x_idx, x_idxK, x_slc, x_slc1, x_slc2, x_slc3, x_on, x_os, x_intV, x_b1, x_b1K, x_b2, x_b2K, x_isi, x_isiK, x_call, x_comp, x_compK, x_kLst, x_mth, x_fz, x_fzd, x_lnil, x_lcons, x_lK, x_lK2, x_qn, x_qs, t_trE, t_trK, t_cmpE, t_cmpK, t_cmp2E, t_t21, t_t22, t_t23t, t_t23f, t_notE, t_notK, t_andE, t_andT, t_andF, t_orE, t_orT, t_orF, i_eE, i_strK, i_lstK, i_tupK, i_rngE, i_enuE, i_enuK, i_revE, i_zipE, i_zipL, i_zipT, v_some, b_some, b_some', List.getElem?_cons_zero, List.getElem?_cons_succ, List.set_cons_zero, List.set_cons_succ, okR_ok, okS_nx, okS_rt, o_add, o_sub, o_mod, o_div, o_mulR, o_mulL, o_pow, b_lenL, b_lenT, b_lenS, b_sum, b_min, b_max, mkO_f, mk_f, mk_t, ds_nil, ds_cons, ds_consO, lstV_of, lstV_ofK, tupV_of, tupV_ofK, exit_new, c_eq, c_ne, c_lt, c_gt, c_le, c_ge, c_eqs, exit_d, take_self, if_true, if_false, Bool.false_eq_true, Bool.true_eq_false, Bool.not_true, Bool.not_false, Int.reduceToNat, Int.reducePow, wk_rng, slc_s, slc_l, slc_t, idx_l, idx_t, c_ins, c_isb, c_nebb, c_eqbb, isi_bl, wipeE, List.foldl_cons, List.foldl_nil, bindT_v, truD, dec_t, dec_f, p_rse, p_try, tr_nx, tr_rt, tr_er, h_nil, h_cons, h_rse, h_t0, h_tS, h_f, hr_t, hr_f, no_nx, no_rt, un_nx, un_rt, x_isE, x_isEV, b_tupL, exit_er, Nat.reduceMul, Nat.reduceDiv, Nat.reduceAdd, Nat.reduceMod, digS hd k hr, beq_t h0, e, takeS, Kd.d]
    · simp only [List.mem_cons, List.not_mem_nil, or_false] at hn
      show 0 ≤ n ∧ n ≤ 60
      omega
  · by_cases h1 : v % 4 = 1
    · have e : ((v / 4 % 3).toNat : Int) = v / 4 % 3 := by omega
      refine ⟨.cho (lfW.drop (v / 4 % 3).toNat), v / 4 / 3, ?_, lfW_ok _ (by omega), rfl, rfl⟩
      have e2 : cut [D.str [98], D.str [97], D.str [110, 111], D.str [121, 101, 115]] (some (v / 4 % 3)) none = (lfW.drop (v / 4 % 3).toNat).map D.str := by
        rw [← e, cut_from (by simp only [List.length_cons, List.length_nil]; omega), List.map_drop]
        rfl
      simp (decide := true) only [q_nx, q_rt, q_er, s1_ok, s1_er, p_nil, p_cons, p_asg, p_asgK, p_par, p_put, p_put1, p_put2, p_exp, p_expK, p_ret, p_retK, p_retN, p_pas, p_ite, p_ite_t, p_ite_f, p_for, p_forK, p_whl, e1_ok, e1_er, e2_ok, x_var, x_varR, x_gl, x_non, x_bl, x_int, x_str, x_bin, x_binK, x_neg, x_negK, x_not, x_notK, x_cmp, x_cmpK, x_cmp2, x_k21, x_k22, x_k23t, x_k23f, x_and, x_or, x_andT, x_andF, x_orT, x_orF, x_ife, x_ifeT, x_ifeF, x_tup, x_lst, x_idx, x_idxK, x_slc, x_slc1, x_slc2, x_slc3, x_on, x_os, x_intV, x_b1, x_b1K, x_b2, x_b2K, x_isi, x_isiK, x_call, x_comp, x_compK, x_kLst, x_mth, x_fz, x_fzd, x_lnil, x_lcons, x_lK, x_lK2, x_qn, x_qs, t_trE, t_trK, t_cmpE, t_cmpK, t_cmp2E, t_t21, t_t22, t_t23t, t_t23f, t_notE, t_notK, t_andE, t_andT, t_andF, t_orE, t_orT, t_orF, i_eE, i_strK, i_lstK, i_tupK, i_rngE, i_enuE, i_enuK, i_revE, i_zipE, i_zipL, i_zipT, v_some, b_some, b_some', List.getElem?_cons_zero, List.getElem?_cons_succ, List.set_cons_zero, List.set_cons_succ, okR_ok, okS_nx, okS_rt, o_add, o_sub, o_mod, o_div, o_mulR, o_mulL, o_pow, b_lenL, b_lenT, b_lenS, b_sum, b_min, b_max, mkO_f, mk_f, mk_t, ds_nil, ds_cons, ds_consO, lstV_of, lstV_ofK, tupV_of, tupV_ofK, exit_new, c_eq, c_ne, c_lt, c_gt, c_le, c_ge, c_eqs, exit_d, take_self, if_true, if_false, Bool.false_eq_true, Bool.true_eq_false, Bool.not_true, Bool.not_false, Int.reduceToNat, Int.reducePow, wk_rng, slc_s, slc_l, slc_t, idx_l, idx_t, c_ins, c_isb, c_nebb, c_eqbb, isi_bl, wipeE, List.foldl_cons, List.foldl_nil, bindT_v, truD, dec_t, dec_f, p_rse, p_try, tr_nx, tr_rt, tr_er, h_nil, h_cons, h_rse, h_t0, h_tS, h_f, hr_t, hr_f, no_nx, no_rt, un_nx, un_rt, x_isE, x_isEV, b_tupL, exit_er, Nat.reduceMul, Nat.reduceDiv, Nat.reduceAdd, Nat.reduceMod, digS hd k hr, beq_f h0, beq_t h1, e2, takeS, Kd.d]
    · obtain ⟨a, e1, ha⟩ := int_mem (u := v / 4) (m := 6) [0, 0, -7, 10, 3, -1000000000000000000000000000000] rfl (by decide)
      obtain ⟨b, e2, hb⟩ := int_mem (u := v / 4 / 6) (m := 6) [9, 0, 30, 99, 20, 1000000000000000000000000000000] rfl (by decide)
      simp only [List.map_cons, List.map_nil] at e1 e2
      refine ⟨.num a (if a + b < B30 then a + b else B30), v / 4 / 6 / 6, ?_, ?_, rfl, rfl⟩
      · simp (decide := true) only [q_nx, q_rt, q_er, s1_ok, s1_er, p_nil, p_cons, p_asg, p_asgK, p_par, p_put, p_put1, p_put2, p_exp, p_expK, p_ret, p_retK, p_retN, p_pas, p_ite, p_ite_t, p_ite_f, p_for, p_forK, p_whl, e1_ok, e1_er, e2_ok, x_var, x_varR, x_gl, x_non, x_bl, x_int, x_str, x_bin, x_binK, x_neg, x_negK, x_not, x_notK, x_cmp, x_cmpK, x_cmp2, x_k21, x_k22, x_k23t, x_k23f, x_and, x_or, x_andT, x_andF, x_orT, x_orF, x_ife, x_ifeT, x_ifeF, x_tup, x_lst, x_idx, x_idxK, x_slc, x_slc1, x_slc2, x_slc3, x_on, x_os, x_intV, x_b1, x_b1K, x_b2, x_b2K, x_isi, x_isiK, x_call, x_comp, x_compK, x_kLst, x_mth, x_fz, x_fzd, x_lnil, x_lcons, x_lK, x_lK2, x_qn, x_qs, t_trE, t_trK, t_cmpE, t_cmpK, t_cmp2E, t_t21, t_t22, t_t23t, t_t23f, t_notE, t_notK, t_andE, t_andT, t_andF, t_orE, t_orT, t_orF, i_eE, i_strK, i_lstK, i_tupK, i_rngE, i_enuE, i_enuK, i_revE, i_zipE, i_zipL, i_zipT, v_some, b_some, b_some', List.getElem?_cons_zero, List.getElem?_cons_succ, List.set_cons_zero, List.set_cons_succ, okR_ok, okS_nx, okS_rt, o_add, o_sub, o_mod, o_div, o_mulR, o_mulL, o_pow, b_lenL, b_lenT, b_lenS, b_sum, b_min, b_max, mkO_f, mk_f, mk_t, ds_nil, ds_cons, ds_consO, lstV_of, lstV_ofK, tupV_of, tupV_ofK, exit_new, c_eq, c_ne, c_lt, c_gt, c_le, c_ge, c_eqs, exit_d, take_self, if_true, if_false, Bool.false_eq_true, Bool.true_eq_false, Bool.not_true, Bool.not_false, Int.reduceToNat, Int.reducePow, wk_rng, slc_s, slc_l, slc_t, idx_l, idx_t, c_ins, c_isb, c_nebb, c_eqbb, isi_bl, wipeE, List.foldl_cons, List.foldl_nil, bindT_v, truD, dec_t, dec_f, p_rse, p_try, tr_nx, tr_rt, tr_er, h_nil, h_cons, h_rse, h_t0, h_tS, h_f, hr_t, hr_f, no_nx, no_rt, un_nx, un_rt, x_isE, x_isEV, b_tupL, exit_er, Nat.reduceMul, Nat.reduceDiv, Nat.reduceAdd, Nat.reduceMod, digS hd k hr, beq_f h0, beq_f h1, e1, e2, takeS, Kd.d, Int.reduceNeg]
      · simp only [List.mem_cons, List.not_mem_nil, or_false] at ha hb
        show -B30 ≤ a ∧ a ≤ _ ∧ _ ≤ B30
        have hB : B30 = 1000000000000000000000000000000 := rfl
        split <;> omega

end
def B_law_record (cl_digit : Nat) (cl_kind : Nat) : Stms :=
 (.cons (.asg (.v 3) (.lst true .nil))
 (.cons (.for_ (.v 4) (.e (.var 2)) (.cons (.ite (.cmp .gt (.call cl_digit (.cons (.var 0) (.cons (.int 3) .nil))) (.int 0)) (.cons (.exp (.mth .lapp (.var 3) (.cons (.tup (.cons (.var 4) (.cons (.call cl_kind (.cons (.var 0) (.cons (.bin .sub (.var 1) (.int 1)) .nil))) .nil))) .nil)))
 .nil) .nil)
 .nil))
 (.cons (.ret (.tup (.cons (.str [114, 101, 99, 111, 114, 100]) (.cons (.b1 .tuple false (.var 3)) .nil))))
 .nil)))
def B_law_rows (cl_record : Nat) (cl_digit : Nat) : Stms :=
 (.cons (.asg (.v 2) (.call cl_record (.cons (.var 0) (.cons (.bin .sub (.var 1) (.int 1)) (.cons (.lst false (.cons (.str [97]) (.cons (.str [98]) .nil))) .nil)))))
 (.cons (.asg (.v 3) (.idx (.lst false (.cons (.tup (.cons (.str [110, 117, 109, 98, 101, 114]) (.cons (.neg (.int 3)) (.cons (.int 40) .nil)))) (.cons (.tup (.cons (.str [116, 101, 120, 116]) (.cons (.int 3) .nil))) .nil))) (.call cl_digit (.cons (.var 0) (.cons (.int 2) .nil)))))
 (.cons (.asg (.v 4) (.idx (.lst false (.cons (.int 0) (.cons (.int 1) (.cons (.int 2) (.cons (.int 3) (.cons (.int 8) .nil)))))) (.call cl_digit (.cons (.var 0) (.cons (.int 5) .nil)))))
 (.cons (.ret (.tup (.cons (.str [114, 111, 119, 115]) (.cons (.str [105, 100]) (.cons (.tup (.cons (.str [114, 101, 99, 111, 114, 100]) (.cons (.bin .add (.idx (.var 2) (.int 1)) (.tup (.cons (.tup (.cons (.str [105, 100]) (.cons (.var 3) .nil))) .nil))) .nil))) (.cons (.var 4) .nil))))))
 .nil))))
def B_law_kind (cl_digit : Nat) (cl_leaf : Nat) (cl_kind : Nat) (cl_rows : Nat) (cl_record : Nat) : Stms :=
 (.cons (.asg (.v 2) (.call cl_digit (.cons (.var 0) (.cons (.int 8) .nil))))
 (.cons (.ite (.or (.cmp .le (.var 1) (.int 0)) (.cmp .lt (.var 2) (.int 4))) (.cons (.ret (.call cl_leaf (.cons (.var 0) .nil)))
 .nil) .nil)
 (.cons (.ite (.cmp .eq (.var 2) (.int 4)) (.cons (.ret (.tup (.cons (.str [108, 105, 115, 116]) (.cons (.call cl_kind (.cons (.var 0) (.cons (.bin .sub (.var 1) (.int 1)) .nil))) (.cons (.idx (.lst false (.cons (.int 0) (.cons (.int 1) (.cons (.int 2) (.cons (.int 8) .nil))))) (.call cl_digit (.cons (.var 0) (.cons (.int 4) .nil)))) .nil)))))
 .nil) .nil)
 (.cons (.ite (.and (.cmp .eq (.var 2) (.int 5)) (.cmp .gt (.var 1) (.int 1))) (.cons (.ret (.call cl_rows (.cons (.var 0) (.cons (.var 1) .nil))))
 .nil) .nil)
 (.cons (.ret (.call cl_record (.cons (.var 0) (.cons (.var 1) (.cons (.lst false (.cons (.str [97]) (.cons (.str [98]) .nil))) .nil)))))
 .nil)))))
/-- what is promised of the kinds so deep -/
def GenK (fs : List Fn) (j k : Nat) (t : Nat) : Prop := ∀ {st : Store} {r : Nat}, r < st.length → ∀ v : Int, ∃ (kd : Kd) (v' : Int), callM fs k j [.r r, .d (.int (t : Int))] (sR st r v) = .ok (.d kd.d) (sR st r v') ∧ kd.wf ∧ kd.dep ≤ t ∧ kd.cnt ≤ 4 ^ t
theorem sR_app {st : Store} {r : Nat} {u : Int} {o : Ob} (hr : r < st.length) : sR (st ++ [o]) r u = sR st r u ++ [o] := by
  unfold sR
  rw [List.set_append_left _ _ hr]
theorem get_last {st : Store} {r : Nat} {u : Int} {o : Ob} : (sR st r u ++ [o])[(sR st r u).length]? = some o := by
  rw [List.getElem?_append_right (Nat.le_refl _), Nat.sub_self]; rfl
theorem set_last {st : Store} {o o' : Ob} : (st ++ [o]).set st.length o' = st ++ [o'] := by
  rw [List.set_append_right _ _ (Nat.le_refl _), Nat.sub_self]; rfl
theorem take_last {st : Store} {o : Ob} : (st ++ [o]).take st.length = st := List.take_left' rfl
theorem gdOf_d {x : D} {st : Store} : gdOf (.d x) st = fun _ => true := id rfl
theorem asc_sub {a b : List (List Nat)} (h : a.Sublist b) (hb : asc b) : asc a := List.Pairwise.sublist h hb
def idK : List D := [.tup [.str tNum, .int (-3), .int 40], .tup [.str tTxt, .int 3]]
theorem idK_at (u : Int) : ∃ kd : Kd, getIx [.tup [.str [110, 117, 109, 98, 101, 114], .int (-3), .int 40], .tup [.str [116, 101, 120, 116], .int 3]] (u % 2) = some kd.d ∧ kd.wf ∧ kd.dep = 0 ∧ kd.cnt = 1 ∧ isLf kd = true := by
  obtain ⟨x, h1, h2⟩ := ix_int (xs := ([.tup [.str [110, 117, 109, 98, 101, 114], .int (-3), .int 40], .tup [.str [116, 101, 120, 116], .int 3]] : List D)) (i := u % 2) (by omega) (by simp only [List.length_cons, List.length_nil]; omega)
  rcases List.mem_cons.mp h2 with rfl | h2
  · exact ⟨.num (-3) 40, h1, by show -B30 ≤ -3 ∧ (-3 : Int) ≤ 40 ∧ (40 : Int) ≤ B30; decide, rfl, rfl, rfl⟩
  · rcases List.mem_cons.mp h2 with rfl | h2
    · exact ⟨.txt 3, h1, by show (0 : Int) ≤ 3 ∧ (3 : Int) ≤ 60; decide, rfl, rfl, rfl⟩
    · cases h2
abbrev nAB : List (List Nat) := [[97], [98]]
abbrev nABI : List (List Nat) := [[97], [98], [105, 100]]
section
variable {fs : List Fn} {d l j jr rc : Nat} (hd : fs[d]? = some ⟨2, 3, B_digit⟩)
include hd
theorem record_ok (hc : fs[rc]? = some ⟨3, 5, B_law_record d j⟩) {k t : Nat} (ih : GenK fs j (k + 1) t) {names : List (List Nat)} (ha : asc names) (hn : ∀ n ∈ names, nm n) (h8 : names.length ≤ 8) {st : Store} {r : Nat} (hr : r < st.length) (v : Int) :
    ∃ (f : Fl) (v' : Int), callM fs (k + 2) rc [.r r, .d (.int ((t + 1 : Nat) : Int)), .d (.lst (names.map D.str))] (sR st r v) = .ok (.d (Kd.rcd f).d) (sR st r v') ∧ f.ns.Sublist names ∧ f.wf ∧ f.dep ≤ t + 1 ∧ f.cnt ≤ f.ns.length * 4 ^ t := by
  have key : okR (callM fs (k + 2) rc [.r r, .d (.int ((t + 1 : Nat) : Int)), .d (.lst (names.map D.str))] (sR st r v)) fun va s => ∃ (f : Fl) (v' : Int), va = .d (Kd.rcd f).d ∧ s = sR st r v' ∧ f.ns.Sublist names ∧ f.wf ∧ f.dep ≤ t + 1 ∧ f.cnt ≤ f.ns.length * 4 ^ t := by
    rw [call_3 hc [none, none] rfl]
    refine okR_exit ?_
    unfold B_law_record
    simp (decide := true) only [q_nx, q_rt, q_er, s1_ok, s1_er, p_nil, p_cons, p_asg, p_asgK, p_par, p_put, p_put1, p_put2, p_exp, p_expK, p_ret, p_retK, p_retN, p_pas, p_ite, p_ite_t, p_ite_f, p_for, p_forK, p_whl, e1_ok, e1_er, e2_ok, x_var, x_varR, x_gl, x_non, x_bl, x_int, x_str, x_bin, x_binK, x_neg, x_negK, x_not, x_notK, x_cmp, x_cmpK, x_cmp2, x_k21, x_k22, x_k23t, x_k23f, x_and, x_or, x_andT, x_andF, x_orT, x_orF, x_ife, x_ifeT, x_ifeF, x_tup, x_lst, x_idx, x_idxK, x_slc, x_slc1, x_slc2, x_slc3, x_on, x_os, x_intV, x_b1, x_b1K, x_b2, x_b2K, x_isi, x_isiK, x_call, x_comp, x_compK, x_kLst, x_mth, x_fz, x_fzd, x_lnil, x_lcons, x_lK, x_lK2, x_qn, x_qs, t_trE, t_trK, t_cmpE, t_cmpK, t_cmp2E, t_t21, t_t22, t_t23t, t_t23f, t_notE, t_notK, t_andE, t_andT, t_andF, t_orE, t_orT, t_orF, i_eE, i_strK, i_lstK, i_tupK, i_rngE, i_enuE, i_enuK, i_revE, i_zipE, i_zipL, i_zipT, v_some, b_some, b_some', List.getElem?_cons_zero, List.getElem?_cons_succ, List.set_cons_zero, List.set_cons_succ, okR_ok, okS_nx, okS_rt, o_add, o_sub, o_mod, o_div, o_mulR, o_mulL, o_pow, b_lenL, b_lenT, b_lenS, b_sum, b_min, b_max, mkO_f, mk_f, mk_t, ds_nil, ds_cons, ds_consO, lstV_of, lstV_ofK, tupV_of, tupV_ofK, exit_new, c_eq, c_ne, c_lt, c_gt, c_le, c_ge, c_eqs, exit_d, take_self, if_true, if_false, Bool.false_eq_true, Bool.true_eq_false, Bool.not_true, Bool.not_false, Int.reduceToNat, Int.reducePow, wk_rng, slc_s, slc_l, slc_t, idx_l, idx_t, c_ins, c_isb, c_nebb, c_eqbb, isi_bl, wipeE, List.foldl_cons, List.foldl_nil, bindT_v, truD, dec_t, dec_f, p_rse, p_try, tr_nx, tr_rt, tr_er, h_nil, h_cons, h_rse, h_t0, h_tS, h_f, hr_t, hr_f, no_nx, no_rt, un_nx, un_rt, x_isE, x_isEV, b_tupL, exit_er, Nat.reduceMul, Nat.reduceDiv, Nat.reduceAdd, Nat.reduceMod]
    refine okS_seq (forM_ok (fun xs env s => ∃ (p q : List (List Nat)) (f : Fl) (u : Int) (x : Option Va), names = p ++ q ∧ xs = q.map D.str ∧ f.ns.Sublist p ∧ f.wf ∧ (f.dep ≤ t + 1 ∧ f.cnt ≤ f.ns.length * 4 ^ t) ∧ s = sR st r u ++ [.lst f.ds] ∧
      env = [some (.r r), some (.d (.int ((t + 1 : Nat) : Int))), some (.d (.lst (names.map D.str))), some (.r (sR st r v).length), x]) (fun y xs env s h => ?_) _ _ _ ⟨[], names, .nil, v, none, rfl, rfl, List.Sublist.refl _, trivial, ⟨Nat.zero_le _, Nat.zero_le _⟩, rfl, rfl⟩) ?_
    · obtain ⟨p, q, f, u, x, e1, e2, e3, e4, e5, rfl, rfl⟩ := h
      cases q with
      | nil => cases e2
      | cons n q =>
        rw [List.map_cons] at e2
        obtain ⟨rfl, rfl⟩ := List.cons.inj e2
        refine ⟨_, rfl, ?_⟩
        have e1' : names = (p ++ [n]) ++ q := by rw [e1, List.append_assoc]; rfl
        have hr2 : r < (st ++ [Ob.lst f.ds]).length := by rw [List.length_append]; omega
        have ed : ∀ u : Int, callM fs (k + 1) d [.r r, .d (.int 3)] (sR st r u ++ [.lst f.ds]) = .ok (.d (.int (u % 3))) (sR st r (u / 3) ++ [.lst f.ds]) := fun u => by
          rw [← sR_app hr, digS hd k hr2 (by decide) (by decide), sR_app hr]
        by_cases h0 : 0 < u % 3
        · obtain ⟨kd, v', c1, c2, c3, c4⟩ := ih hr2 (u / 3)
          rw [sR_app hr, sR_app hr] at c1
          have et : ((t + 1 : Nat) : Int) - 1 = (t : Int) := by omega
          have hlen : f.ds.length < SZ := by
            have h1 : f.ds.length ≤ p.length := by rw [Fl.ds_len, ← Fl.ns_len]; exact e3.length_le
            have h2 : p.length ≤ 8 := by rw [e1, List.length_append] at h8; omega
            show _ < 16777216
            omega
          have eL : (sR st r v).length = (sR st r v').length := by rw [sR_len, sR_len]
          have eL2 : (sR st r v).length = (sR st r (u / 3)).length := by rw [sR_len, sR_len]
          simp (decide := true) only [q_nx, q_rt, q_er, s1_ok, s1_er, p_nil, p_cons, p_asg, p_asgK, p_par, p_put, p_put1, p_put2, p_exp, p_expK, p_ret, p_retK, p_retN, p_pas, p_ite, p_ite_t, p_ite_f, p_for, p_forK, p_whl, e1_ok, e1_er, e2_ok, x_var, x_varR, x_gl, x_non, x_bl, x_int, x_str, x_bin, x_binK, x_neg, x_negK, x_not, x_notK, x_cmp, x_cmpK, x_cmp2, x_k21, x_k22, x_k23t, x_k23f, x_and, x_or, x_andT, x_andF, x_orT, x_orF, x_ife, x_ifeT, x_ifeF, x_tup, x_lst, x_idx, x_idxK, x_slc, x_slc1, x_slc2, x_slc3, x_on, x_os, x_intV, x_b1, x_b1K, x_b2, x_b2K, x_isi, x_isiK, x_call, x_comp, x_compK, x_kLst, x_mth, x_fz, x_fzd, x_lnil, x_lcons, x_lK, x_lK2, x_qn, x_qs, t_trE, t_trK, t_cmpE, t_cmpK, t_cmp2E, t_t21, t_t22, t_t23t, t_t23f, t_notE, t_notK, t_andE, t_andT, t_andF, t_orE, t_orT, t_orF, i_eE, i_strK, i_lstK, i_tupK, i_rngE, i_enuE, i_enuK, i_revE, i_zipE, i_zipL, i_zipT, v_some, b_some, b_some', List.getElem?_cons_zero, List.getElem?_cons_succ, List.set_cons_zero, List.set_cons_succ, okR_ok, okS_nx, okS_rt, o_add, o_sub, o_mod, o_div, o_mulR, o_mulL, o_pow, b_lenL, b_lenT, b_lenS, b_sum, b_min, b_max, mkO_f, mk_f, mk_t, ds_nil, ds_cons, ds_consO, lstV_of, lstV_ofK, tupV_of, tupV_ofK, exit_new, c_eq, c_ne, c_lt, c_gt, c_le, c_ge, c_eqs, exit_d, take_self, if_true, if_false, Bool.false_eq_true, Bool.true_eq_false, Bool.not_true, Bool.not_false, Int.reduceToNat, Int.reducePow, wk_rng, slc_s, slc_l, slc_t, idx_l, idx_t, c_ins, c_isb, c_nebb, c_eqbb, isi_bl, wipeE, List.foldl_cons, List.foldl_nil, bindT_v, truD, dec_t, dec_f, p_rse, p_try, tr_nx, tr_rt, tr_er, h_nil, h_cons, h_rse, h_t0, h_tS, h_f, hr_t, hr_f, no_nx, no_rt, un_nx, un_rt, x_isE, x_isEV, b_tupL, exit_er, Nat.reduceMul, Nat.reduceDiv, Nat.reduceAdd, Nat.reduceMod, ed, decide_eq_true h0]
          rw [eL2, x_app0 get_last]
          simp (decide := true) only [q_nx, q_rt, q_er, s1_ok, s1_er, p_nil, p_cons, p_asg, p_asgK, p_par, p_put, p_put1, p_put2, p_exp, p_expK, p_ret, p_retK, p_retN, p_pas, p_ite, p_ite_t, p_ite_f, p_for, p_forK, p_whl, e1_ok, e1_er, e2_ok, x_var, x_varR, x_gl, x_non, x_bl, x_int, x_str, x_bin, x_binK, x_neg, x_negK, x_not, x_notK, x_cmp, x_cmpK, x_cmp2, x_k21, x_k22, x_k23t, x_k23f, x_and, x_or, x_andT, x_andF, x_orT, x_orF, x_ife, x_ifeT, x_ifeF, x_tup, x_lst, x_idx, x_idxK, x_slc, x_slc1, x_slc2, x_slc3, x_on, x_os, x_intV, x_b1, x_b1K, x_b2, x_b2K, x_isi, x_isiK, x_call, x_comp, x_compK, x_kLst, x_mth, x_fz, x_fzd, x_lnil, x_lcons, x_lK, x_lK2, x_qn, x_qs, t_trE, t_trK, t_cmpE, t_cmpK, t_cmp2E, t_t21, t_t22, t_t23t, t_t23f, t_notE, t_notK, t_andE, t_andT, t_andF, t_orE, t_orT, t_orF, i_eE, i_strK, i_lstK, i_tupK, i_rngE, i_enuE, i_enuK, i_revE, i_zipE, i_zipL, i_zipT, v_some, b_some, b_some', List.getElem?_cons_zero, List.getElem?_cons_succ, List.set_cons_zero, List.set_cons_succ, okR_ok, okS_nx, okS_rt, o_add, o_sub, o_mod, o_div, o_mulR, o_mulL, o_pow, b_lenL, b_lenT, b_lenS, b_sum, b_min, b_max, mkO_f, mk_f, mk_t, ds_nil, ds_cons, ds_consO, lstV_of, lstV_ofK, tupV_of, tupV_ofK, exit_new, c_eq, c_ne, c_lt, c_gt, c_le, c_ge, c_eqs, exit_d, take_self, if_true, if_false, Bool.false_eq_true, Bool.true_eq_false, Bool.not_true, Bool.not_false, Int.reduceToNat, Int.reducePow, wk_rng, slc_s, slc_l, slc_t, idx_l, idx_t, c_ins, c_isb, c_nebb, c_eqbb, isi_bl, wipeE, List.foldl_cons, List.foldl_nil, bindT_v, truD, dec_t, dec_f, p_rse, p_try, tr_nx, tr_rt, tr_er, h_nil, h_cons, h_rse, h_t0, h_tS, h_f, hr_t, hr_f, no_nx, no_rt, un_nx, un_rt, x_isE, x_isEV, b_tupL, exit_er, Nat.reduceMul, Nat.reduceDiv, Nat.reduceAdd, Nat.reduceMod, et, c1]
          rw [← eL2, eL, x_app1 get_last hlen, set_last]
          simp (decide := true) only [q_nx, q_rt, q_er, s1_ok, s1_er, p_nil, p_cons, p_asg, p_asgK, p_par, p_put, p_put1, p_put2, p_exp, p_expK, p_ret, p_retK, p_retN, p_pas, p_ite, p_ite_t, p_ite_f, p_for, p_forK, p_whl, e1_ok, e1_er, e2_ok, x_var, x_varR, x_gl, x_non, x_bl, x_int, x_str, x_bin, x_binK, x_neg, x_negK, x_not, x_notK, x_cmp, x_cmpK, x_cmp2, x_k21, x_k22, x_k23t, x_k23f, x_and, x_or, x_andT, x_andF, x_orT, x_orF, x_ife, x_ifeT, x_ifeF, x_tup, x_lst, x_idx, x_idxK, x_slc, x_slc1, x_slc2, x_slc3, x_on, x_os, x_intV, x_b1, x_b1K, x_b2, x_b2K, x_isi, x_isiK, x_call, x_comp, x_compK, x_kLst, x_mth, x_fz, x_fzd, x_lnil, x_lcons, x_lK, x_lK2, x_qn, x_qs, t_trE, t_trK, t_cmpE, t_cmpK, t_cmp2E, t_t21, t_t22, t_t23t, t_t23f, t_notE, t_notK, t_andE, t_andT, t_andF, t_orE, t_orT, t_orF, i_eE, i_strK, i_lstK, i_tupK, i_rngE, i_enuE, i_enuK, i_revE, i_zipE, i_zipL, i_zipT, v_some, b_some, b_some', List.getElem?_cons_zero, List.getElem?_cons_succ, List.set_cons_zero, List.set_cons_succ, okR_ok, okS_nx, okS_rt, o_add, o_sub, o_mod, o_div, o_mulR, o_mulL, o_pow, b_lenL, b_lenT, b_lenS, b_sum, b_min, b_max, mkO_f, mk_f, mk_t, ds_nil, ds_cons, ds_consO, lstV_of, lstV_ofK, tupV_of, tupV_ofK, exit_new, c_eq, c_ne, c_lt, c_gt, c_le, c_ge, c_eqs, exit_d, take_self, if_true, if_false, Bool.false_eq_true, Bool.true_eq_false, Bool.not_true, Bool.not_false, Int.reduceToNat, Int.reducePow, wk_rng, slc_s, slc_l, slc_t, idx_l, idx_t, c_ins, c_isb, c_nebb, c_eqbb, isi_bl, wipeE, List.foldl_cons, List.foldl_nil, bindT_v, truD, dec_t, dec_f, p_rse, p_try, tr_nx, tr_rt, tr_er, h_nil, h_cons, h_rse, h_t0, h_tS, h_f, hr_t, hr_f, no_nx, no_rt, un_nx, un_rt, x_isE, x_isEV, b_tupL, exit_er, Nat.reduceMul, Nat.reduceDiv, Nat.reduceAdd, Nat.reduceMod]
          refine ⟨trivial, p ++ [n], q, f.snoc n kd, v', some (.d (.str n)), e1', rfl, ?_, Fl.snoc_wf e4 c2, ?_, ?_, ?_⟩
          · rw [Fl.snoc_ns]; exact e3.append (List.Sublist.refl _)
          · have := e5.1
            have := e5.2
            rw [Fl.snoc_dep, Fl.snoc_cnt, Fl.snoc_ns, List.length_append, List.length_singleton, Nat.succ_mul]
            omega
          · rw [Fl.snoc_ds]
          · rfl
        · simp (decide := true) only [q_nx, q_rt, q_er, s1_ok, s1_er, p_nil, p_cons, p_asg, p_asgK, p_par, p_put, p_put1, p_put2, p_exp, p_expK, p_ret, p_retK, p_retN, p_pas, p_ite, p_ite_t, p_ite_f, p_for, p_forK, p_whl, e1_ok, e1_er, e2_ok, x_var, x_varR, x_gl, x_non, x_bl, x_int, x_str, x_bin, x_binK, x_neg, x_negK, x_not, x_notK, x_cmp, x_cmpK, x_cmp2, x_k21, x_k22, x_k23t, x_k23f, x_and, x_or, x_andT, x_andF, x_orT, x_orF, x_ife, x_ifeT, x_ifeF, x_tup, x_lst, x_idx, x_idxK, x_slc, x_slc1, x_slc2, x_slc3, x_on, x_os, x_intV, x_b1, x_b1K, x_b2, x_b2K, x_isi, x_isiK, x_call, x_comp, x_compK, x_kLst, x_mth, x_fz, x_fzd, x_lnil, x_lcons, x_lK, x_lK2, x_qn, x_qs, t_trE, t_trK, t_cmpE, t_cmpK, t_cmp2E, t_t21, t_t22, t_t23t, t_t23f, t_notE, t_notK, t_andE, t_andT, t_andF, t_orE, t_orT, t_orF, i_eE, i_strK, i_lstK, i_tupK, i_rngE, i_enuE, i_enuK, i_revE, i_zipE, i_zipL, i_zipT, v_some, b_some, b_some', List.getElem?_cons_zero, List.getElem?_cons_succ, List.set_cons_zero, List.set_cons_succ, okR_ok, okS_nx, okS_rt, o_add, o_sub, o_mod, o_div, o_mulR, o_mulL, o_pow, b_lenL, b_lenT, b_lenS, b_sum, b_min, b_max, mkO_f, mk_f, mk_t, ds_nil, ds_cons, ds_consO, lstV_of, lstV_ofK, tupV_of, tupV_ofK, exit_new, c_eq, c_ne, c_lt, c_gt, c_le, c_ge, c_eqs, exit_d, take_self, if_true, if_false, Bool.false_eq_true, Bool.true_eq_false, Bool.not_true, Bool.not_false, Int.reduceToNat, Int.reducePow, wk_rng, slc_s, slc_l, slc_t, idx_l, idx_t, c_ins, c_isb, c_nebb, c_eqbb, isi_bl, wipeE, List.foldl_cons, List.foldl_nil, bindT_v, truD, dec_t, dec_f, p_rse, p_try, tr_nx, tr_rt, tr_er, h_nil, h_cons, h_rse, h_t0, h_tS, h_f, hr_t, hr_f, no_nx, no_rt, un_nx, un_rt, x_isE, x_isEV, b_tupL, exit_er, Nat.reduceMul, Nat.reduceDiv, Nat.reduceAdd, Nat.reduceMod, ed, decide_eq_false h0]
          exact ⟨trivial, p ++ [n], q, f, u / 3, _, e1', rfl, e3.trans (List.sublist_append_left _ _), e4, e5, rfl, rfl⟩
    · rintro env s ⟨p, q, f, u, x, e1, e2, e3, e4, e5, rfl, rfl⟩
      obtain rfl : q = [] := by
        cases q with
        | nil => rfl
        | cons _ _ => cases e2
      have eL : (sR st r v).length = (sR st r u).length := by rw [sR_len, sR_len]
      simp (decide := true) only [q_nx, q_rt, q_er, s1_ok, s1_er, p_nil, p_cons, p_asg, p_asgK, p_par, p_put, p_put1, p_put2, p_exp, p_expK, p_ret, p_retK, p_retN, p_pas, p_ite, p_ite_t, p_ite_f, p_for, p_forK, p_whl, e1_ok, e1_er, e2_ok, x_var, x_varR, x_gl, x_non, x_bl, x_int, x_str, x_bin, x_binK, x_neg, x_negK, x_not, x_notK, x_cmp, x_cmpK, x_cmp2, x_k21, x_k22, x_k23t, x_k23f, x_and, x_or, x_andT, x_andF, x_orT, x_orF, x_ife, x_ifeT, x_ifeF, x_tup, x_lst, x_idx, x_idxK, x_slc, x_slc1, x_slc2, x_slc3, x_on, x_os, x_intV, x_b1, x_b1K, x_b2, x_b2K, x_isi, x_isiK, x_call, x_comp, x_compK, x_kLst, x_mth, x_fz, x_fzd, x_lnil, x_lcons, x_lK, x_lK2, x_qn, x_qs, t_trE, t_trK, t_cmpE, t_cmpK, t_cmp2E, t_t21, t_t22, t_t23t, t_t23f, t_notE, t_notK, t_andE, t_andT, t_andF, t_orE, t_orT, t_orF, i_eE, i_strK, i_lstK, i_tupK, i_rngE, i_enuE, i_enuK, i_revE, i_zipE, i_zipL, i_zipT, v_some, b_some, b_some', List.getElem?_cons_zero, List.getElem?_cons_succ, List.set_cons_zero, List.set_cons_succ, okR_ok, okS_nx, okS_rt, o_add, o_sub, o_mod, o_div, o_mulR, o_mulL, o_pow, b_lenL, b_lenT, b_lenS, b_sum, b_min, b_max, mkO_f, mk_f, mk_t, ds_nil, ds_cons, ds_consO, lstV_of, lstV_ofK, tupV_of, tupV_ofK, exit_new, c_eq, c_ne, c_lt, c_gt, c_le, c_ge, c_eqs, exit_d, take_self, if_true, if_false, Bool.false_eq_true, Bool.true_eq_false, Bool.not_true, Bool.not_false, Int.reduceToNat, Int.reducePow, wk_rng, slc_s, slc_l, slc_t, idx_l, idx_t, c_ins, c_isb, c_nebb, c_eqbb, isi_bl, wipeE, List.foldl_cons, List.foldl_nil, bindT_v, truD, dec_t, dec_f, p_rse, p_try, tr_nx, tr_rt, tr_er, h_nil, h_cons, h_rse, h_t0, h_tS, h_f, hr_t, hr_f, no_nx, no_rt, un_nx, un_rt, x_isE, x_isEV, b_tupL, exit_er, Nat.reduceMul, Nat.reduceDiv, Nat.reduceAdd, Nat.reduceMod]
      rw [eL, x_b1R get_last]
      simp (decide := true) only [q_nx, q_rt, q_er, s1_ok, s1_er, p_nil, p_cons, p_asg, p_asgK, p_par, p_put, p_put1, p_put2, p_exp, p_expK, p_ret, p_retK, p_retN, p_pas, p_ite, p_ite_t, p_ite_f, p_for, p_forK, p_whl, e1_ok, e1_er, e2_ok, x_var, x_varR, x_gl, x_non, x_bl, x_int, x_str, x_bin, x_binK, x_neg, x_negK, x_not, x_notK, x_cmp, x_cmpK, x_cmp2, x_k21, x_k22, x_k23t, x_k23f, x_and, x_or, x_andT, x_andF, x_orT, x_orF, x_ife, x_ifeT, x_ifeF, x_tup, x_lst, x_idx, x_idxK, x_slc, x_slc1, x_slc2, x_slc3, x_on, x_os, x_intV, x_b1, x_b1K, x_b2, x_b2K, x_isi, x_isiK, x_call, x_comp, x_compK, x_kLst, x_mth, x_fz, x_fzd, x_lnil, x_lcons, x_lK, x_lK2, x_qn, x_qs, t_trE, t_trK, t_cmpE, t_cmpK, t_cmp2E, t_t21, t_t22, t_t23t, t_t23f, t_notE, t_notK, t_andE, t_andT, t_andF, t_orE, t_orT, t_orF, i_eE, i_strK, i_lstK, i_tupK, i_rngE, i_enuE, i_enuK, i_revE, i_zipE, i_zipL, i_zipT, v_some, b_some, b_some', List.getElem?_cons_zero, List.getElem?_cons_succ, List.set_cons_zero, List.set_cons_succ, okR_ok, okS_nx, okS_rt, o_add, o_sub, o_mod, o_div, o_mulR, o_mulL, o_pow, b_lenL, b_lenT, b_lenS, b_sum, b_min, b_max, mkO_f, mk_f, mk_t, ds_nil, ds_cons, ds_consO, lstV_of, lstV_ofK, tupV_of, tupV_ofK, exit_new, c_eq, c_ne, c_lt, c_gt, c_le, c_ge, c_eqs, exit_d, take_self, if_true, if_false, Bool.false_eq_true, Bool.true_eq_false, Bool.not_true, Bool.not_false, Int.reduceToNat, Int.reducePow, wk_rng, slc_s, slc_l, slc_t, idx_l, idx_t, c_ins, c_isb, c_nebb, c_eqbb, isi_bl, wipeE, List.foldl_cons, List.foldl_nil, bindT_v, truD, dec_t, dec_f, p_rse, p_try, tr_nx, tr_rt, tr_er, h_nil, h_cons, h_rse, h_t0, h_tS, h_f, hr_t, hr_f, no_nx, no_rt, un_nx, un_rt, x_isE, x_isEV, b_tupL, exit_er, Nat.reduceMul, Nat.reduceDiv, Nat.reduceAdd, Nat.reduceMod, take_last]
      exact ⟨f, u, rfl, rfl, by rw [e1, List.append_nil]; exact e3, e4, e5⟩
  obtain ⟨va, s, e, f, v', rfl, rfl, q⟩ := key.ex
  exact ⟨f, v', e, q⟩
theorem rows_ok {rw_ : Nat} (hw : fs[rw_]? = some ⟨2, 5, B_law_rows rc d⟩) (hc : fs[rc]? = some ⟨3, 5, B_law_record d j⟩) {k t : Nat} (ih : GenK fs j (k + 1) t) {st : Store} {r : Nat} (hr : r < st.length) (v : Int) :
    ∃ (kd : Kd) (v' : Int), callM fs (k + 3) rw_ [.r r, .d (.int ((t + 2 : Nat) : Int))] (sR st r v) = .ok (.d kd.d) (sR st r v') ∧ kd.wf ∧ kd.dep ≤ t + 2 ∧ kd.cnt ≤ 4 ^ (t + 2) := by
  obtain ⟨f, v1, c1, c2, c3, c4, c5⟩ := record_ok hd hc ih (names := nAB) (by decide) (by decide) (by decide) hr v
  obtain ⟨kk, e1, k1, k2, k3, k4⟩ := idK_at v1
  obtain ⟨n, e2, hn⟩ := int_mem (u := v1 / 2) (m := 5) [0, 1, 2, 3, 8] rfl (by decide)
  simp only [List.map_cons, List.map_nil] at c1 e2
  have l2 : f.ns.length ≤ 2 := c2.length_le
  have hz : f.ds.length + [D.tup [D.str [105, 100], kk.d]].length ≤ SZ := by
    rw [Fl.ds_len, ← Fl.ns_len]
    show f.ns.length + 1 ≤ 16777216
    omega
  have et : ((t + 2 : Nat) : Int) - 1 = ((t + 1 : Nat) : Int) := by omega
  have sub : (f.snoc [105, 100] kk).ns.Sublist nABI := by
    rw [Fl.snoc_ns]
    exact c2.append (List.Sublist.refl [[105, 100]])
  have nid : [105, 100] ∉ f.ns := fun h => by
    have := c2.subset h
    exact absurd this (by decide)
  have eR : opIdx (Kd.rcd f).d (.int 1) = some (.tup f.ds) := by rw [Kd.d, idx_t, ixk1]
  refine ⟨.rws [105, 100] (f.snoc [105, 100] kk) n, v1 / 2 / 5, ?_, ⟨?_, asc_sub sub (by decide), fun m hm => ?_, Fl.snoc_wf c3 k1, ?_, ?_, kk, Fl.get_snoc nid, k4⟩, ?_, ?_⟩
  · rw [call_2 hw [none, none, none] rfl]
    unfold B_law_rows
    simp (decide := true) only [q_nx, q_rt, q_er, s1_ok, s1_er, p_nil, p_cons, p_asg, p_asgK, p_par, p_put, p_put1, p_put2, p_exp, p_expK, p_ret, p_retK, p_retN, p_pas, p_ite, p_ite_t, p_ite_f, p_for, p_forK, p_whl, e1_ok, e1_er, e2_ok, x_var, x_varR, x_gl, x_non, x_bl, x_int, x_str, x_bin, x_binK, x_neg, x_negK, x_not, x_notK, x_cmp, x_cmpK, x_cmp2, x_k21, x_k22, x_k23t, x_k23f, x_and, x_or, x_andT, x_andF, x_orT, x_orF, x_ife, x_ifeT, x_ifeF, x_tup, x_lst, x_idx, x_idxK, x_slc, x_slc1, x_slc2, x_slc3, x_on, x_os, x_intV, x_b1, x_b1K, x_b2, x_b2K, x_isi, x_isiK, x_call, x_comp, x_compK, x_kLst, x_mth, x_fz, x_fzd, x_lnil, x_lcons, x_lK, x_lK2, x_qn, x_qs, t_trE, t_trK, t_cmpE, t_cmpK, t_cmp2E, t_t21, t_t22, t_t23t, t_t23f, t_notE, t_notK, t_andE, t_andT, t_andF, t_orE, t_orT, t_orF, i_eE, i_strK, i_lstK, i_tupK, i_rngE, i_enuE, i_enuK, i_revE, i_zipE, i_zipL, i_zipT, v_some, b_some, b_some', List.getElem?_cons_zero, List.getElem?_cons_succ, List.set_cons_zero, List.set_cons_succ, okR_ok, okS_nx, okS_rt, o_add, o_sub, o_mod, o_div, o_mulR, o_mulL, o_pow, b_lenL, b_lenT, b_lenS, b_sum, b_min, b_max, mkO_f, mk_f, mk_t, ds_nil, ds_cons, ds_consO, lstV_of, lstV_ofK, tupV_of, tupV_ofK, exit_new, c_eq, c_ne, c_lt, c_gt, c_le, c_ge, c_eqs, exit_d, take_self, if_true, if_false, Bool.false_eq_true, Bool.true_eq_false, Bool.not_true, Bool.not_false, Int.reduceToNat, Int.reducePow, wk_rng, slc_s, slc_l, slc_t, idx_l, idx_t, c_ins, c_isb, c_nebb, c_eqbb, isi_bl, wipeE, List.foldl_cons, List.foldl_nil, bindT_v, truD, dec_t, dec_f, p_rse, p_try, tr_nx, tr_rt, tr_er, h_nil, h_cons, h_rse, h_t0, h_tS, h_f, hr_t, hr_f, no_nx, no_rt, un_nx, un_rt, x_isE, x_isEV, b_tupL, exit_er, Nat.reduceMul, Nat.reduceDiv, Nat.reduceAdd, Nat.reduceMod, et, c1, digS hd (k + 1) hr, e1, e2, ixk1, o_addt hz, Int.reduceNeg, takeS, Kd.d, Fl.snoc_ds]
  · have := sub.length_le
    exact Nat.le_trans this (by decide)
  · have : m ∈ nABI := sub.subset hm
    exact (show ∀ x ∈ nABI, nm x by decide) m this
  · simp only [List.mem_cons, List.not_mem_nil, or_false] at hn; omega
  · simp only [List.mem_cons, List.not_mem_nil, or_false] at hn; omega
  · show (f.snoc _ kk).dep + 1 ≤ _
    rw [Fl.snoc_dep]; omega
  · show (f.snoc _ kk).cnt + 2 ≤ _
    rw [Fl.snoc_cnt, k3]
    have h1 : f.ns.length * 4 ^ t ≤ 2 * 4 ^ t := Nat.mul_le_mul_right _ l2
    have h2 : 1 ≤ 4 ^ t := Nat.one_le_pow _ _ (by decide)
    have h3 : 4 ^ (t + 2) = 4 ^ t * 16 := by rw [Nat.pow_add]
    omega
theorem kind_ok {rw_ : Nat} (hl : fs[l]? = some ⟨1, 3, B_law_leaf d⟩) (hj : fs[j]? = some ⟨2, 3, B_law_kind d l j rw_ rc⟩) (hw : fs[rw_]? = some ⟨2, 5, B_law_rows rc d⟩) (hc : fs[rc]? = some ⟨3, 5, B_law_record d j⟩) :
    ∀ t k : Nat, 3 * t + 4 ≤ k → GenK fs j k t := by
  intro t
  induction t using Nat.strongRecOn with
  | ind t ih =>
    intro k hk st r hr v
    obtain ⟨k, rfl⟩ : ∃ q, k = q + 4 := ⟨k - 4, by omega⟩
    rw [call_2 hj [none] rfl]
    unfold B_law_kind
    obtain ⟨kd, v1, c1, c2, c3, c4⟩ := leaf_ok hd hl (k + 1) hr (v / 8)
    have one : kd.cnt ≤ 4 ^ t := by rw [c4]; exact Nat.one_le_pow _ _ (by decide)
    cases t with
    | zero =>
      refine ⟨kd, v1, ?_, c2, by omega, one⟩
      simp (decide := true) only [q_nx, q_rt, q_er, s1_ok, s1_er, p_nil, p_cons, p_asg, p_asgK, p_par, p_put, p_put1, p_put2, p_exp, p_expK, p_ret, p_retK, p_retN, p_pas, p_ite, p_ite_t, p_ite_f, p_for, p_forK, p_whl, e1_ok, e1_er, e2_ok, x_var, x_varR, x_gl, x_non, x_bl, x_int, x_str, x_bin, x_binK, x_neg, x_negK, x_not, x_notK, x_cmp, x_cmpK, x_cmp2, x_k21, x_k22, x_k23t, x_k23f, x_and, x_or, x_andT, x_andF, x_orT, x_orF, x_ife, x_ifeT, x_ifeF, x_tup, x_lst, x_idx, x_idxK, x_slc, x_slc1, x_slc2, x_slc3, x_on, x_os, x_intV, x_b1, x_b1K, x_b2, x_b2K, x_isi, x_isiK, x_call, x_comp, x_compK, x_kLst, x_mth, x_fz, x_fzd, x_lnil, x_lcons, x_lK, x_lK2, x_qn, x_qs, t_trE, t_trK, t_cmpE, t_cmpK, t_cmp2E, t_t21, t_t22, t_t23t, t_t23f, t_notE, t_notK, t_andE, t_andT, t_andF, t_orE, t_orT, t_orF, i_eE, i_strK, i_lstK, i_tupK, i_rngE, i_enuE, i_enuK, i_revE, i_zipE, i_zipL, i_zipT, v_some, b_some, b_some', List.getElem?_cons_zero, List.getElem?_cons_succ, List.set_cons_zero, List.set_cons_succ, okR_ok, okS_nx, okS_rt, o_add, o_sub, o_mod, o_div, o_mulR, o_mulL, o_pow, b_lenL, b_lenT, b_lenS, b_sum, b_min, b_max, mkO_f, mk_f, mk_t, ds_nil, ds_cons, ds_consO, lstV_of, lstV_ofK, tupV_of, tupV_ofK, exit_new, c_eq, c_ne, c_lt, c_gt, c_le, c_ge, c_eqs, exit_d, take_self, if_true, if_false, Bool.false_eq_true, Bool.true_eq_false, Bool.not_true, Bool.not_false, Int.reduceToNat, Int.reducePow, wk_rng, slc_s, slc_l, slc_t, idx_l, idx_t, c_ins, c_isb, c_nebb, c_eqbb, isi_bl, wipeE, List.foldl_cons, List.foldl_nil, bindT_v, truD, dec_t, dec_f, p_rse, p_try, tr_nx, tr_rt, tr_er, h_nil, h_cons, h_rse, h_t0, h_tS, h_f, hr_t, hr_f, no_nx, no_rt, un_nx, un_rt, x_isE, x_isEV, b_tupL, exit_er, Nat.reduceMul, Nat.reduceDiv, Nat.reduceAdd, Nat.reduceMod, digS hd (k + 2) hr, Int.ofNat_zero, c1, takeS, Int.lt_irrefl]
    | succ t =>
      have hp : ¬ ((t + 1 : Nat) : Int) ≤ 0 := by omega
      have hp' : (0 : Int) < ((t + 1 : Nat) : Int) := by omega
      have et : ((t + 1 : Nat) : Int) - 1 = (t : Int) := by omega
      by_cases h4 : v % 8 < 4
      · refine ⟨kd, v1, ?_, c2, by omega, one⟩
        simp (decide := true) only [q_nx, q_rt, q_er, s1_ok, s1_er, p_nil, p_cons, p_asg, p_asgK, p_par, p_put, p_put1, p_put2, p_exp, p_expK, p_ret, p_retK, p_retN, p_pas, p_ite, p_ite_t, p_ite_f, p_for, p_forK, p_whl, e1_ok, e1_er, e2_ok, x_var, x_varR, x_gl, x_non, x_bl, x_int, x_str, x_bin, x_binK, x_neg, x_negK, x_not, x_notK, x_cmp, x_cmpK, x_cmp2, x_k21, x_k22, x_k23t, x_k23f, x_and, x_or, x_andT, x_andF, x_orT, x_orF, x_ife, x_ifeT, x_ifeF, x_tup, x_lst, x_idx, x_idxK, x_slc, x_slc1, x_slc2, x_slc3, x_on, x_os, x_intV, x_b1, x_b1K, x_b2, x_b2K, x_isi, x_isiK, x_call, x_comp, x_compK, x_kLst, x_mth, x_fz, x_fzd, x_lnil, x_lcons, x_lK, x_lK2, x_qn, x_qs, t_trE, t_trK, t_cmpE, t_cmpK, t_cmp2E, t_t21, t_t22, t_t23t, t_t23f, t_notE, t_notK, t_andE, t_andT, t_andF, t_orE, t_orT, t_orF, i_eE, i_strK, i_lstK, i_tupK, i_rngE, i_enuE, i_enuK, i_revE, i_zipE, i_zipL, i_zipT, v_some, b_some, b_some', List.getElem?_cons_zero, List.getElem?_cons_succ, List.set_cons_zero, List.set_cons_succ, okR_ok, okS_nx, okS_rt, o_add, o_sub, o_mod, o_div, o_mulR, o_mulL, o_pow, b_lenL, b_lenT, b_lenS, b_sum, b_min, b_max, mkO_f, mk_f, mk_t, ds_nil, ds_cons, ds_consO, lstV_of, lstV_ofK, tupV_of, tupV_ofK, exit_new, c_eq, c_ne, c_lt, c_gt, c_le, c_ge, c_eqs, exit_d, take_self, if_true, if_false, Bool.false_eq_true, Bool.true_eq_false, Bool.not_true, Bool.not_false, Int.reduceToNat, Int.reducePow, wk_rng, slc_s, slc_l, slc_t, idx_l, idx_t, c_ins, c_isb, c_nebb, c_eqbb, isi_bl, wipeE, List.foldl_cons, List.foldl_nil, bindT_v, truD, dec_t, dec_f, p_rse, p_try, tr_nx, tr_rt, tr_er, h_nil, h_cons, h_rse, h_t0, h_tS, h_f, hr_t, hr_f, no_nx, no_rt, un_nx, un_rt, x_isE, x_isEV, b_tupL, exit_er, Nat.reduceMul, Nat.reduceDiv, Nat.reduceAdd, Nat.reduceMod, digS hd (k + 2) hr, decide_eq_true hp', decide_eq_true h4, c1, takeS]
      · by_cases e4 : v % 8 = 4
        · obtain ⟨kd2, v2, g1, g2, g3, g4⟩ := ih t (by omega) (k + 3) (by omega) hr (v / 8)
          obtain ⟨n, e2, hn⟩ := int_mem (u := v2) (m := 4) [0, 1, 2, 8] rfl (by decide)
          simp only [List.map_cons, List.map_nil] at e2
          refine ⟨.lst kd2 n, v2 / 4, ?_, ⟨g2, ?_, ?_⟩, ?_, ?_⟩
          · simp (decide := true) only [q_nx, q_rt, q_er, s1_ok, s1_er, p_nil, p_cons, p_asg, p_asgK, p_par, p_put, p_put1, p_put2, p_exp, p_expK, p_ret, p_retK, p_retN, p_pas, p_ite, p_ite_t, p_ite_f, p_for, p_forK, p_whl, e1_ok, e1_er, e2_ok, x_var, x_varR, x_gl, x_non, x_bl, x_int, x_str, x_bin, x_binK, x_neg, x_negK, x_not, x_notK, x_cmp, x_cmpK, x_cmp2, x_k21, x_k22, x_k23t, x_k23f, x_and, x_or, x_andT, x_andF, x_orT, x_orF, x_ife, x_ifeT, x_ifeF, x_tup, x_lst, x_idx, x_idxK, x_slc, x_slc1, x_slc2, x_slc3, x_on, x_os, x_intV, x_b1, x_b1K, x_b2, x_b2K, x_isi, x_isiK, x_call, x_comp, x_compK, x_kLst, x_mth, x_fz, x_fzd, x_lnil, x_lcons, x_lK, x_lK2, x_qn, x_qs, t_trE, t_trK, t_cmpE, t_cmpK, t_cmp2E, t_t21, t_t22, t_t23t, t_t23f, t_notE, t_notK, t_andE, t_andT, t_andF, t_orE, t_orT, t_orF, i_eE, i_strK, i_lstK, i_tupK, i_rngE, i_enuE, i_enuK, i_revE, i_zipE, i_zipL, i_zipT, v_some, b_some, b_some', List.getElem?_cons_zero, List.getElem?_cons_succ, List.set_cons_zero, List.set_cons_succ, okR_ok, okS_nx, okS_rt, o_add, o_sub, o_mod, o_div, o_mulR, o_mulL, o_pow, b_lenL, b_lenT, b_lenS, b_sum, b_min, b_max, mkO_f, mk_f, mk_t, ds_nil, ds_cons, ds_consO, lstV_of, lstV_ofK, tupV_of, tupV_ofK, exit_new, c_eq, c_ne, c_lt, c_gt, c_le, c_ge, c_eqs, exit_d, take_self, if_true, if_false, Bool.false_eq_true, Bool.true_eq_false, Bool.not_true, Bool.not_false, Int.reduceToNat, Int.reducePow, wk_rng, slc_s, slc_l, slc_t, idx_l, idx_t, c_ins, c_isb, c_nebb, c_eqbb, isi_bl, wipeE, List.foldl_cons, List.foldl_nil, bindT_v, truD, dec_t, dec_f, p_rse, p_try, tr_nx, tr_rt, tr_er, h_nil, h_cons, h_rse, h_t0, h_tS, h_f, hr_t, hr_f, no_nx, no_rt, un_nx, un_rt, x_isE, x_isEV, b_tupL, exit_er, Nat.reduceMul, Nat.reduceDiv, Nat.reduceAdd, Nat.reduceMod, digS hd (k + 2) hr, decide_eq_true hp', decide_eq_false h4, beq_t e4, et, g1, e2, takeS, Kd.d]
          · simp only [List.mem_cons, List.not_mem_nil, or_false] at hn; omega
          · simp only [List.mem_cons, List.not_mem_nil, or_false] at hn; omega
          · show kd2.dep + 1 ≤ _
            omega
          · show kd2.cnt + 1 ≤ _
            have : 1 ≤ 4 ^ t := Nat.one_le_pow _ _ (by decide)
            rw [Nat.pow_succ]; omega
        · by_cases e5 : v % 8 = 5 ∧ 1 ≤ t
          · obtain ⟨t, rfl⟩ : ∃ q, t = q + 1 := ⟨t - 1, by omega⟩
            obtain ⟨kd2, v2, g1, g2, g3, g4⟩ := rows_ok hd hw hc (k := k) (t := t) (ih t (by omega) (k + 1) (by omega)) hr (v / 8)
            have h1 : (1 : Int) < ((t + 1 + 1 : Nat) : Int) := by omega
            refine ⟨kd2, v2, ?_, g2, g3, g4⟩
            simp (decide := true) only [q_nx, q_rt, q_er, s1_ok, s1_er, p_nil, p_cons, p_asg, p_asgK, p_par, p_put, p_put1, p_put2, p_exp, p_expK, p_ret, p_retK, p_retN, p_pas, p_ite, p_ite_t, p_ite_f, p_for, p_forK, p_whl, e1_ok, e1_er, e2_ok, x_var, x_varR, x_gl, x_non, x_bl, x_int, x_str, x_bin, x_binK, x_neg, x_negK, x_not, x_notK, x_cmp, x_cmpK, x_cmp2, x_k21, x_k22, x_k23t, x_k23f, x_and, x_or, x_andT, x_andF, x_orT, x_orF, x_ife, x_ifeT, x_ifeF, x_tup, x_lst, x_idx, x_idxK, x_slc, x_slc1, x_slc2, x_slc3, x_on, x_os, x_intV, x_b1, x_b1K, x_b2, x_b2K, x_isi, x_isiK, x_call, x_comp, x_compK, x_kLst, x_mth, x_fz, x_fzd, x_lnil, x_lcons, x_lK, x_lK2, x_qn, x_qs, t_trE, t_trK, t_cmpE, t_cmpK, t_cmp2E, t_t21, t_t22, t_t23t, t_t23f, t_notE, t_notK, t_andE, t_andT, t_andF, t_orE, t_orT, t_orF, i_eE, i_strK, i_lstK, i_tupK, i_rngE, i_enuE, i_enuK, i_revE, i_zipE, i_zipL, i_zipT, v_some, b_some, b_some', List.getElem?_cons_zero, List.getElem?_cons_succ, List.set_cons_zero, List.set_cons_succ, okR_ok, okS_nx, okS_rt, o_add, o_sub, o_mod, o_div, o_mulR, o_mulL, o_pow, b_lenL, b_lenT, b_lenS, b_sum, b_min, b_max, mkO_f, mk_f, mk_t, ds_nil, ds_cons, ds_consO, lstV_of, lstV_ofK, tupV_of, tupV_ofK, exit_new, c_eq, c_ne, c_lt, c_gt, c_le, c_ge, c_eqs, exit_d, take_self, if_true, if_false, Bool.false_eq_true, Bool.true_eq_false, Bool.not_true, Bool.not_false, Int.reduceToNat, Int.reducePow, wk_rng, slc_s, slc_l, slc_t, idx_l, idx_t, c_ins, c_isb, c_nebb, c_eqbb, isi_bl, wipeE, List.foldl_cons, List.foldl_nil, bindT_v, truD, dec_t, dec_f, p_rse, p_try, tr_nx, tr_rt, tr_er, h_nil, h_cons, h_rse, h_t0, h_tS, h_f, hr_t, hr_f, no_nx, no_rt, un_nx, un_rt, x_isE, x_isEV, b_tupL, exit_er, Nat.reduceMul, Nat.reduceDiv, Nat.reduceAdd, Nat.reduceMod, digS hd (k + 2) hr, decide_eq_true hp', decide_eq_false h4, beq_f e4, beq_t e5.1, decide_eq_true h1, g1, takeS]
          · obtain ⟨f, v2, g1, g2, g3, g4, g5⟩ := record_ok hd hc (k := k + 1) (t := t) (ih t (by omega) (k + 2) (by omega)) (names := nAB) (by decide) (by decide) (by decide) hr (v / 8)
            simp only [List.map_cons, List.map_nil] at g1
            have l2 : f.ns.length ≤ 2 := g2.length_le
            refine ⟨.rcd f, v2, ?_, ⟨by omega, asc_sub g2 (by decide), fun m hm => (show ∀ x ∈ nAB, nm x by decide) m (g2.subset hm), g3⟩, g4, ?_⟩
            · by_cases e6 : v % 8 = 5
              · have h1 : ¬ (1 : Int) < ((t + 1 : Nat) : Int) := by omega
                simp (decide := true) only [q_nx, q_rt, q_er, s1_ok, s1_er, p_nil, p_cons, p_asg, p_asgK, p_par, p_put, p_put1, p_put2, p_exp, p_expK, p_ret, p_retK, p_retN, p_pas, p_ite, p_ite_t, p_ite_f, p_for, p_forK, p_whl, e1_ok, e1_er, e2_ok, x_var, x_varR, x_gl, x_non, x_bl, x_int, x_str, x_bin, x_binK, x_neg, x_negK, x_not, x_notK, x_cmp, x_cmpK, x_cmp2, x_k21, x_k22, x_k23t, x_k23f, x_and, x_or, x_andT, x_andF, x_orT, x_orF, x_ife, x_ifeT, x_ifeF, x_tup, x_lst, x_idx, x_idxK, x_slc, x_slc1, x_slc2, x_slc3, x_on, x_os, x_intV, x_b1, x_b1K, x_b2, x_b2K, x_isi, x_isiK, x_call, x_comp, x_compK, x_kLst, x_mth, x_fz, x_fzd, x_lnil, x_lcons, x_lK, x_lK2, x_qn, x_qs, t_trE, t_trK, t_cmpE, t_cmpK, t_cmp2E, t_t21, t_t22, t_t23t, t_t23f, t_notE, t_notK, t_andE, t_andT, t_andF, t_orE, t_orT, t_orF, i_eE, i_strK, i_lstK, i_tupK, i_rngE, i_enuE, i_enuK, i_revE, i_zipE, i_zipL, i_zipT, v_some, b_some, b_some', List.getElem?_cons_zero, List.getElem?_cons_succ, List.set_cons_zero, List.set_cons_succ, okR_ok, okS_nx, okS_rt, o_add, o_sub, o_mod, o_div, o_mulR, o_mulL, o_pow, b_lenL, b_lenT, b_lenS, b_sum, b_min, b_max, mkO_f, mk_f, mk_t, ds_nil, ds_cons, ds_consO, lstV_of, lstV_ofK, tupV_of, tupV_ofK, exit_new, c_eq, c_ne, c_lt, c_gt, c_le, c_ge, c_eqs, exit_d, take_self, if_true, if_false, Bool.false_eq_true, Bool.true_eq_false, Bool.not_true, Bool.not_false, Int.reduceToNat, Int.reducePow, wk_rng, slc_s, slc_l, slc_t, idx_l, idx_t, c_ins, c_isb, c_nebb, c_eqbb, isi_bl, wipeE, List.foldl_cons, List.foldl_nil, bindT_v, truD, dec_t, dec_f, p_rse, p_try, tr_nx, tr_rt, tr_er, h_nil, h_cons, h_rse, h_t0, h_tS, h_f, hr_t, hr_f, no_nx, no_rt, un_nx, un_rt, x_isE, x_isEV, b_tupL, exit_er, Nat.reduceMul, Nat.reduceDiv, Nat.reduceAdd, Nat.reduceMod, digS hd (k + 2) hr, decide_eq_true hp', decide_eq_false h4, beq_f e4, beq_t e6, decide_eq_false h1, g1, takeS]
              · simp (decide := true) only [q_nx, q_rt, q_er, s1_ok, s1_er, p_nil, p_cons, p_asg, p_asgK, p_par, p_put, p_put1, p_put2, p_exp, p_expK, p_ret, p_retK, p_retN, p_pas, p_ite, p_ite_t, p_ite_f, p_for, p_forK, p_whl, e1_ok, e1_er, e2_ok, x_var, x_varR, x_gl, x_non, x_bl, x_int, x_str, x_bin, x_binK, x_neg, x_negK, x_not, x_notK, x_cmp, x_cmpK, x_cmp2, x_k21, x_k22, x_k23t, x_k23f, x_and, x_or, x_andT, x_andF, x_orT, x_orF, x_ife, x_ifeT, x_ifeF, x_tup, x_lst, x_idx, x_idxK, x_slc, x_slc1, x_slc2, x_slc3, x_on, x_os, x_intV, x_b1, x_b1K, x_b2, x_b2K, x_isi, x_isiK, x_call, x_comp, x_compK, x_kLst, x_mth, x_fz, x_fzd, x_lnil, x_lcons, x_lK, x_lK2, x_qn, x_qs, t_trE, t_trK, t_cmpE, t_cmpK, t_cmp2E, t_t21, t_t22, t_t23t, t_t23f, t_notE, t_notK, t_andE, t_andT, t_andF, t_orE, t_orT, t_orF, i_eE, i_strK, i_lstK, i_tupK, i_rngE, i_enuE, i_enuK, i_revE, i_zipE, i_zipL, i_zipT, v_some, b_some, b_some', List.getElem?_cons_zero, List.getElem?_cons_succ, List.set_cons_zero, List.set_cons_succ, okR_ok, okS_nx, okS_rt, o_add, o_sub, o_mod, o_div, o_mulR, o_mulL, o_pow, b_lenL, b_lenT, b_lenS, b_sum, b_min, b_max, mkO_f, mk_f, mk_t, ds_nil, ds_cons, ds_consO, lstV_of, lstV_ofK, tupV_of, tupV_ofK, exit_new, c_eq, c_ne, c_lt, c_gt, c_le, c_ge, c_eqs, exit_d, take_self, if_true, if_false, Bool.false_eq_true, Bool.true_eq_false, Bool.not_true, Bool.not_false, Int.reduceToNat, Int.reducePow, wk_rng, slc_s, slc_l, slc_t, idx_l, idx_t, c_ins, c_isb, c_nebb, c_eqbb, isi_bl, wipeE, List.foldl_cons, List.foldl_nil, bindT_v, truD, dec_t, dec_f, p_rse, p_try, tr_nx, tr_rt, tr_er, h_nil, h_cons, h_rse, h_t0, h_tS, h_f, hr_t, hr_f, no_nx, no_rt, un_nx, un_rt, x_isE, x_isEV, b_tupL, exit_er, Nat.reduceMul, Nat.reduceDiv, Nat.reduceAdd, Nat.reduceMod, digS hd (k + 2) hr, decide_eq_true hp', decide_eq_false h4, beq_f e4, beq_f e6, g1, takeS]
            · show f.cnt + 1 ≤ _
              have h1 : f.ns.length * 4 ^ t ≤ 2 * 4 ^ t := Nat.mul_le_mul_right _ l2
              have : 1 ≤ 4 ^ t := Nat.one_le_pow _ _ (by decide)
              rw [Nat.pow_succ]; omega
end
end Ev

namespace Ev
def B_law_shape (cl_record : Nat) (cl_leaf : Nat) : Stms :=
 (.cons (.asg (.v 1) (.call cl_record (.cons (.var 0) (.cons (.int 3) (.cons (.lst false (.cons (.str [97]) (.cons (.str [98]) (.cons (.str [98, 111, 120]) (.cons (.str [110]) (.cons (.str [116]) .nil)))))) .nil)))))
 (.cons (.ite (.cmp .eq (.bin .mod (.idx (.var 0) (.int 0)) (.int 8)) (.int 5)) (.cons (.asg (.v 1) (.tup (.cons (.str [114, 101, 99, 111, 114, 100]) (.cons (.bin .add (.idx (.var 1) (.int 1)) (.tup (.cons (.tup (.cons (.str [117]) (.cons (.call cl_leaf (.cons (.var 0) .nil)) .nil))) (.cons (.tup (.cons (.str [119]) (.cons (.call cl_leaf (.cons (.var 0) .nil)) .nil))) .nil)))) .nil))))
 .nil) .nil)
 (.cons (.ret (.var 1))
 .nil)))
abbrev nS5 : List (List Nat) := [[97], [98], [98, 111, 120], [110], [116]]
abbrev nS7 : List (List Nat) := [[97], [98], [98, 111, 120], [110], [116], [117], [119]]
theorem row_ix {st : Store} {r : Nat} (hr : r < st.length) {u : Int} : kIdx (.r r) (.d (.int 0)) (sR st r u) = .ok (.d (.int u)) (sR st r u) := by
  rw [x_idxR (row_at hr), idx_l, ix_0]; rfl
section
variable {fs : List Fn} {d l j rc rw_ sh : Nat} (hd : fs[d]? = some ⟨2, 3, B_digit⟩) (hl : fs[l]? = some ⟨1, 3, B_law_leaf d⟩) (hj : fs[j]? = some ⟨2, 3, B_law_kind d l j rw_ rc⟩) (hw : fs[rw_]? = some ⟨2, 5, B_law_rows rc d⟩) (hc : fs[rc]? = some ⟨3, 5, B_law_record d j⟩)
include hd hl hj hw hc
theorem shape_ok (hs : fs[sh]? = some ⟨1, 2, B_law_shape rc l⟩) (k : Nat) {st : Store} {r : Nat} (hr : r < st.length) (v : Int) :
    ∃ (f : Fl) (v' : Int), callM fs (k + 15) sh [.r r] (sR st r v) = .ok (.d (Kd.rcd f).d) (sR st r v') ∧ (Kd.rcd f).wf ∧ (Kd.rcd f).dep ≤ 3 ∧ (Kd.rcd f).cnt ≤ 100 ∧ f.ns.Sublist nS7 := by
  obtain ⟨f, v1, c1, c2, c3, c4, c5⟩ := record_ok hd hc (k := k + 12) (t := 2) (kind_ok hd hl hj hw hc 2 (k + 13) (by omega)) (names := nS5) (by decide) (by decide) (by decide) hr v
  simp only [List.map_cons, List.map_nil] at c1
  have c1 : callM fs (k + 14) rc [.r r, .d (.int 3), .d (.lst [.str [97], .str [98], .str [98, 111, 120], .str [110], .str [116]])] (sR st r v) = .ok (.d (Kd.rcd f).d) (sR st r v1) := c1
  have l5 : f.ns.length ≤ 5 := c2.length_le
  have hcn : f.cnt ≤ 80 := by
    have : f.ns.length * 4 ^ 2 ≤ 5 * 4 ^ 2 := Nat.mul_le_mul_right _ l5
    omega
  have nmS : ∀ m ∈ nS7, nm m := by decide
  have ascS : asc nS7 := by decide
  by_cases h5 : v1 % 8 = 5
  · obtain ⟨ka, v2, a1, a2, a3, a4⟩ := leaf_ok hd hl (k + 12) hr v1
    obtain ⟨kb, v3, b1, b2, b3, b4⟩ := leaf_ok hd hl (k + 12) hr v2
    have hz : f.ds.length + [D.tup [D.str [117], ka.d], D.tup [D.str [119], kb.d]].length ≤ SZ := by
      rw [Fl.ds_len, ← Fl.ns_len]
      show f.ns.length + 2 ≤ 16777216
      omega
    have sub : ((f.snoc [117] ka).snoc [119] kb).ns.Sublist nS7 := by
      rw [Fl.snoc_ns, Fl.snoc_ns, List.append_assoc]
      exact c2.append (List.Sublist.refl [[117], [119]])
    have eR : opIdx (Kd.rcd f).d (.int 1) = some (.tup f.ds) := by rw [Kd.d, idx_t, ixk1]
    refine ⟨(f.snoc [117] ka).snoc [119] kb, v3, ?_, ⟨Nat.le_trans sub.length_le (by decide), asc_sub sub ascS, fun m hm => nmS m (sub.subset hm), Fl.snoc_wf (Fl.snoc_wf c3 a2) b2⟩, ?_, ?_, sub⟩
    · rw [call_1 hs [none] rfl]
      unfold B_law_shape
      simp (decide := true) only [q_nx, q_rt, q_er, s1_ok, s1_er, p_nil, p_cons, p_asg, p_asgK, p_par, p_put, p_put1, p_put2, p_exp, p_expK, p_ret, p_retK, p_retN, p_pas, p_ite, p_ite_t, p_ite_f, p_for, p_forK, p_whl, e1_ok, e1_er, e2_ok, x_var, x_varR, x_gl, x_non, x_bl, x_int, x_str, x_bin, x_binK, x_neg, x_negK, x_not, x_notK, x_cmp, x_cmpK, x_cmp2, x_k21, x_k22, x_k23t, x_k23f, x_and, x_or, x_andT, x_andF, x_orT, x_orF, x_ife, x_ifeT, x_ifeF, x_tup, x_lst, x_idx, x_idxK, x_slc, x_slc1, x_slc2, x_slc3, x_on, x_os, x_intV, x_b1, x_b1K, x_b2, x_b2K, x_isi, x_isiK, x_call, x_comp, x_compK, x_kLst, x_mth, x_fz, x_fzd, x_lnil, x_lcons, x_lK, x_lK2, x_qn, x_qs, t_trE, t_trK, t_cmpE, t_cmpK, t_cmp2E, t_t21, t_t22, t_t23t, t_t23f, t_notE, t_notK, t_andE, t_andT, t_andF, t_orE, t_orT, t_orF, i_eE, i_strK, i_lstK, i_tupK, i_rngE, i_enuE, i_enuK, i_revE, i_zipE, i_zipL, i_zipT, v_some, b_some, b_some', List.getElem?_cons_zero, List.getElem?_cons_succ, List.set_cons_zero, List.set_cons_succ, okR_ok, okS_nx, okS_rt, o_add, o_sub, o_mod, o_div, o_mulR, o_mulL, o_pow, b_lenL, b_lenT, b_lenS, b_sum, b_min, b_max, mkO_f, mk_f, mk_t, ds_nil, ds_cons, ds_consO, lstV_of, lstV_ofK, tupV_of, tupV_ofK, exit_new, c_eq, c_ne, c_lt, c_gt, c_le, c_ge, c_eqs, exit_d, take_self, if_true, if_false, Bool.false_eq_true, Bool.true_eq_false, Bool.not_true, Bool.not_false, Int.reduceToNat, Int.reducePow, wk_rng, slc_s, slc_l, slc_t, idx_l, idx_t, c_ins, c_isb, c_nebb, c_eqbb, isi_bl, wipeE, List.foldl_cons, List.foldl_nil, bindT_v, truD, dec_t, dec_f, p_rse, p_try, tr_nx, tr_rt, tr_er, h_nil, h_cons, h_rse, h_t0, h_tS, h_f, hr_t, hr_f, no_nx, no_rt, un_nx, un_rt, x_isE, x_isEV, b_tupL, exit_er, Nat.reduceMul, Nat.reduceDiv, Nat.reduceAdd, Nat.reduceMod, c1, row_ix hr, beq_t h5, eR, a1, b1, o_addt hz, takeS]
      simp only [Kd.d, Fl.snoc_ds, List.append_assoc, List.cons_append, List.nil_append]
    · show Fl.dep _ ≤ 3
      rw [Fl.snoc_dep, Fl.snoc_dep]; omega
    · show Fl.cnt _ + 1 ≤ 100
      rw [Fl.snoc_cnt, Fl.snoc_cnt]; omega
  · refine ⟨f, v1, ?_, ⟨by omega, asc_sub c2 (by decide), fun m hm => (show ∀ x ∈ nS5, nm x by decide) m (c2.subset hm), c3⟩, c4, ?_, c2.trans (by decide)⟩
    · rw [call_1 hs [none] rfl]
      unfold B_law_shape
      simp (decide := true) only [q_nx, q_rt, q_er, s1_ok, s1_er, p_nil, p_cons, p_asg, p_asgK, p_par, p_put, p_put1, p_put2, p_exp, p_expK, p_ret, p_retK, p_retN, p_pas, p_ite, p_ite_t, p_ite_f, p_for, p_forK, p_whl, e1_ok, e1_er, e2_ok, x_var, x_varR, x_gl, x_non, x_bl, x_int, x_str, x_bin, x_binK, x_neg, x_negK, x_not, x_notK, x_cmp, x_cmpK, x_cmp2, x_k21, x_k22, x_k23t, x_k23f, x_and, x_or, x_andT, x_andF, x_orT, x_orF, x_ife, x_ifeT, x_ifeF, x_tup, x_lst, x_idx, x_idxK, x_slc, x_slc1, x_slc2, x_slc3, x_on, x_os, x_intV, x_b1, x_b1K, x_b2, x_b2K, x_isi, x_isiK, x_call, x_comp, x_compK, x_kLst, x_mth, x_fz, x_fzd, x_lnil, x_lcons, x_lK, x_lK2, x_qn, x_qs, t_trE, t_trK, t_cmpE, t_cmpK, t_cmp2E, t_t21, t_t22, t_t23t, t_t23f, t_notE, t_notK, t_andE, t_andT, t_andF, t_orE, t_orT, t_orF, i_eE, i_strK, i_lstK, i_tupK, i_rngE, i_enuE, i_enuK, i_revE, i_zipE, i_zipL, i_zipT, v_some, b_some, b_some', List.getElem?_cons_zero, List.getElem?_cons_succ, List.set_cons_zero, List.set_cons_succ, okR_ok, okS_nx, okS_rt, o_add, o_sub, o_mod, o_div, o_mulR, o_mulL, o_pow, b_lenL, b_lenT, b_lenS, b_sum, b_min, b_max, mkO_f, mk_f, mk_t, ds_nil, ds_cons, ds_consO, lstV_of, lstV_ofK, tupV_of, tupV_ofK, exit_new, c_eq, c_ne, c_lt, c_gt, c_le, c_ge, c_eqs, exit_d, take_self, if_true, if_false, Bool.false_eq_true, Bool.true_eq_false, Bool.not_true, Bool.not_false, Int.reduceToNat, Int.reducePow, wk_rng, slc_s, slc_l, slc_t, idx_l, idx_t, c_ins, c_isb, c_nebb, c_eqbb, isi_bl, wipeE, List.foldl_cons, List.foldl_nil, bindT_v, truD, dec_t, dec_f, p_rse, p_try, tr_nx, tr_rt, tr_er, h_nil, h_cons, h_rse, h_t0, h_tS, h_f, hr_t, hr_f, no_nx, no_rt, un_nx, un_rt, x_isE, x_isEV, b_tupL, exit_er, Nat.reduceMul, Nat.reduceDiv, Nat.reduceAdd, Nat.reduceMod, c1, row_ix hr, beq_f h5, takeS]
    · show f.cnt + 1 ≤ 100
      omega
end
def B_law_ways (cl_ways : Nat) : Stms :=
 (.cons (.asg (.v 2) (.lst false (.cons (.tup (.cons (.var 1) (.cons (.var 0) .nil))) .nil)))
 (.cons (.ite (.cmp .eq (.idx (.var 0) (.int 0)) (.str [114, 101, 99, 111, 114, 100])) (.cons (.for_ (.t [3, 4]) (.e (.idx (.var 0) (.int 1))) (.cons (.asg (.v 2) (.bin .add (.var 2) (.call cl_ways (.cons (.var 4) (.cons (.bin .add (.var 1) (.tup (.cons (.var 3) .nil))) .nil)))))
 .nil))
 .nil) .nil)
 (.cons (.ite (.cmp .eq (.idx (.var 0) (.int 0)) (.str [108, 105, 115, 116])) (.cons (.asg (.v 2) (.bin .add (.var 2) (.call cl_ways (.cons (.idx (.var 0) (.int 1)) (.cons (.bin .add (.var 1) (.tup (.cons (.str [101, 97, 99, 104]) .nil))) .nil)))))
 .nil) .nil)
 (.cons (.ite (.cmp .eq (.idx (.var 0) (.int 0)) (.str [114, 111, 119, 115])) (.cons (.asg (.v 2) (.bin .add (.var 2) (.call cl_ways (.cons (.idx (.var 0) (.int 2)) (.cons (.bin .add (.var 1) (.tup (.cons (.str [101, 97, 99, 104]) .nil))) .nil)))))
 .nil) .nil)
 (.cons (.ret (.var 2))
 .nil)))))
abbrev Pth := List (List Nat)
mutual
def Kd.ways (p : Pth) : Kd → List (Pth × Kd)
  | .lst k n => (p, .lst k n) :: k.ways (p ++ [tEach])
  | .rcd f => (p, .rcd f) :: f.ways p
  | .rws key f n => (p, .rws key f n) :: (p ++ [tEach], .rcd f) :: f.ways (p ++ [tEach])
  | .num lo hi => [(p, .num lo hi)]
  | .txt n => [(p, .txt n)]
  | .cho ws => [(p, .cho ws)]
def Fl.ways (p : Pth) : Fl → List (Pth × Kd)
  | .nil => []
  | .cons n k r => k.ways (p ++ [n]) ++ r.ways p
end
def wD (q : Pth × Kd) : D := .tup [pD q.1, q.2.d]
mutual
theorem Kd.ways_len (p : Pth) : ∀ k : Kd, (k.ways p).length = k.cnt
  | .lst k n => by simp only [Kd.ways, List.length_cons, Kd.ways_len _ k, Kd.cnt]
  | .rcd f => by simp only [Kd.ways, List.length_cons, Fl.ways_len _ f, Kd.cnt]
  | .rws key f n => by simp only [Kd.ways, List.length_cons, Fl.ways_len _ f, Kd.cnt]
  | .num lo hi => rfl
  | .txt n => rfl
  | .cho ws => rfl
theorem Fl.ways_len (p : Pth) : ∀ f : Fl, (f.ways p).length = f.cnt
  | .nil => rfl
  | .cons n k r => by simp only [Fl.ways, List.length_append, Kd.ways_len _ k, Fl.ways_len _ r, Fl.cnt]
end
mutual
/-- each leads where it says -/
theorem Kd.ways_go (p : Pth) : ∀ {k : Kd}, k.ok → ∀ q ∈ k.ways p, ∃ s, q.1 = p ++ s ∧ k.go s = some q.2 ∧ s.length ≤ k.dep
  | .lst k n, h, q, hq => by
    simp only [Kd.ways, List.mem_cons] at hq
    rcases hq with rfl | hq
    · exact ⟨[], by simp, rfl, Nat.zero_le _⟩
    · obtain ⟨s, e1, e2, e3⟩ := Kd.ways_go (p ++ [tEach]) (show k.ok from h) q hq
      refine ⟨tEach :: s, by rw [e1, List.append_assoc]; rfl, ?_, by simp only [List.length_cons, Kd.dep]; omega⟩
      simp only [Kd.go, Kd.on, if_true, Option.bind_some]; exact e2
  | .rcd f, h, q, hq => by
    simp only [Kd.ways, List.mem_cons] at hq
    rcases hq with rfl | hq
    · exact ⟨[], by simp, rfl, Nat.zero_le _⟩
    · obtain ⟨n, k, s, e0, e1, e2, e3, e4⟩ := Fl.ways_go p (show f.ok from h.2.2) h.1 q hq
      refine ⟨n :: s, e1, ?_, by simp only [List.length_cons, Kd.dep]; omega⟩
      have hn : n ≠ tEach := fun e => h.2.1 (e ▸ e4)
      simp only [Kd.go, Kd.on, if_neg hn, e0, Option.bind_some]; exact e2
  | .rws key f n, h, q, hq => by
    simp only [Kd.ways, List.mem_cons] at hq
    rcases hq with rfl | rfl | hq
    · exact ⟨[], by simp, rfl, Nat.zero_le _⟩
    · exact ⟨[tEach], rfl, by simp [Kd.go, Kd.on], by simp only [List.length_cons, List.length_nil, Kd.dep]; omega⟩
    · obtain ⟨m, k, s, e0, e1, e2, e3, e4⟩ := Fl.ways_go (p ++ [tEach]) (show f.ok from h.2.2) h.1 q hq
      refine ⟨tEach :: m :: s, by rw [e1, List.append_assoc]; rfl, ?_, by simp only [List.length_cons, Kd.dep]; omega⟩
      have hn : m ≠ tEach := fun e => h.2.1 (e ▸ e4)
      simp only [Kd.go, Kd.on, if_true, if_neg hn, e0, Option.bind_some]; exact e2
  | .num lo hi, h, q, hq => by
    obtain rfl : q = (p, .num lo hi) := by simpa [Kd.ways] using hq
    exact ⟨[], by simp, rfl, Nat.zero_le _⟩
  | .txt n, h, q, hq => by
    obtain rfl : q = (p, .txt n) := by simpa [Kd.ways] using hq
    exact ⟨[], by simp, rfl, Nat.zero_le _⟩
  | .cho ws, h, q, hq => by
    obtain rfl : q = (p, .cho ws) := by simpa [Kd.ways] using hq
    exact ⟨[], by simp, rfl, Nat.zero_le _⟩
theorem Fl.ways_go (p : Pth) : ∀ {f : Fl}, f.ok → f.ns.Nodup → ∀ q ∈ f.ways p, ∃ n k s, f.get n = some k ∧ q.1 = p ++ n :: s ∧ k.go s = some q.2 ∧ s.length + 1 ≤ f.dep ∧ n ∈ f.ns
  | .nil, _, _, q, hq => by cases hq
  | .cons m k r, h, hn, q, hq => by
    simp only [Fl.ways, List.mem_append] at hq
    simp only [Fl.ns, List.nodup_cons] at hn
    rcases hq with hq | hq
    · obtain ⟨s, e1, e2, e3⟩ := Kd.ways_go (p ++ [m]) h.1 q hq
      exact ⟨m, k, s, by simp [Fl.get], by rw [e1, List.append_assoc]; rfl, e2, by simp only [Fl.dep]; omega, by simp [Fl.ns]⟩
    · obtain ⟨n, k', s, e0, e1, e2, e3, e4⟩ := Fl.ways_go p h.2 hn.2 q hq
      refine ⟨n, k', s, ?_, e1, e2, by simp only [Fl.dep]; omega, by simp only [Fl.ns, List.mem_cons]; exact .inr e4⟩
      simp only [Fl.get]
      rw [if_neg (fun e : m = n => hn.1 (by rw [e]; exact e4))]
      exact e0
end
theorem pD_app {p : Pth} {n : List Nat} (h : p.length + 1 ≤ 1000) : opBin .add (pD p) (.tup [.str n]) = some (pD (p ++ [n])) := by
  unfold pD
  rw [o_addt (by rw [List.length_map]; show p.length + 1 ≤ 16777216; omega), List.map_append]
  rfl
section
variable {fs : List Fn} {w : Nat} (hw : fs[w]? = some ⟨2, 5, B_law_ways w⟩)
include hw
mutual
theorem ways_ok : ∀ (kd : Kd) (k : Nat) {st : Store} (p : Pth), kd.dep < k → p.length + kd.dep ≤ 1000 → kd.cnt ≤ 10000 → callM fs k w [.d kd.d, .d (pD p)] st = .ok (.d (.lst ((kd.ways p).map wD))) st
  | .lst kd n, k, st, p, hk, hp, hc => by
    obtain ⟨k, rfl⟩ : ∃ q, k = q + 1 := ⟨k - 1, by omega⟩
    simp only [Kd.dep, Kd.cnt] at hk hp hc
    have ih := ways_ok kd k (st := st) (p ++ [tEach]) (by omega) (by rw [List.length_append]; simp only [List.length_cons, List.length_nil]; omega) (by omega)
    have hz : [D.tup [pD p, (Kd.lst kd n).d]].length + ((kd.ways (p ++ [tEach])).map wD).length ≤ SZ := by
      rw [List.length_map, Kd.ways_len]
      show 1 + _ ≤ 16777216
      omega
    have e1 : opIdx (Kd.lst kd n).d (.int 1) = some kd.d := by rw [Kd.d, idx_t, ixk1]
    rw [call_2 hw [none, none, none] rfl]
    unfold B_law_ways
    simp (decide := true) only [q_nx, q_rt, q_er, s1_ok, s1_er, p_nil, p_cons, p_asg, p_asgK, p_par, p_put, p_put1, p_put2, p_exp, p_expK, p_ret, p_retK, p_retN, p_pas, p_ite, p_ite_t, p_ite_f, p_for, p_forK, p_whl, e1_ok, e1_er, e2_ok, x_var, x_varR, x_gl, x_non, x_bl, x_int, x_str, x_bin, x_binK, x_neg, x_negK, x_not, x_notK, x_cmp, x_cmpK, x_cmp2, x_k21, x_k22, x_k23t, x_k23f, x_and, x_or, x_andT, x_andF, x_orT, x_orF, x_ife, x_ifeT, x_ifeF, x_tup, x_lst, x_idx, x_idxK, x_slc, x_slc1, x_slc2, x_slc3, x_on, x_os, x_intV, x_b1, x_b1K, x_b2, x_b2K, x_isi, x_isiK, x_call, x_comp, x_compK, x_kLst, x_mth, x_fz, x_fzd, x_lnil, x_lcons, x_lK, x_lK2, x_qn, x_qs, t_trE, t_trK, t_cmpE, t_cmpK, t_cmp2E, t_t21, t_t22, t_t23t, t_t23f, t_notE, t_notK, t_andE, t_andT, t_andF, t_orE, t_orT, t_orF, i_eE, i_strK, i_lstK, i_tupK, i_rngE, i_enuE, i_enuK, i_revE, i_zipE, i_zipL, i_zipT, v_some, b_some, b_some', List.getElem?_cons_zero, List.getElem?_cons_succ, List.set_cons_zero, List.set_cons_succ, okR_ok, okS_nx, okS_rt, o_add, o_sub, o_mod, o_div, o_mulR, o_mulL, o_pow, b_lenL, b_lenT, b_lenS, b_sum, b_min, b_max, mkO_f, mk_f, mk_t, ds_nil, ds_cons, ds_consO, lstV_of, lstV_ofK, tupV_of, tupV_ofK, exit_new, c_eq, c_ne, c_lt, c_gt, c_le, c_ge, c_eqs, exit_d, take_self, if_true, if_false, Bool.false_eq_true, Bool.true_eq_false, Bool.not_true, Bool.not_false, Int.reduceToNat, Int.reducePow, wk_rng, slc_s, slc_l, slc_t, idx_l, idx_t, c_ins, c_isb, c_nebb, c_eqbb, isi_bl, wipeE, List.foldl_cons, List.foldl_nil, bindT_v, truD, dec_t, dec_f, p_rse, p_try, tr_nx, tr_rt, tr_er, h_nil, h_cons, h_rse, h_t0, h_tS, h_f, hr_t, hr_f, no_nx, no_rt, un_nx, un_rt, x_isE, x_isEV, b_tupL, exit_er, Nat.reduceMul, Nat.reduceDiv, Nat.reduceAdd, Nat.reduceMod, tag_ix, Kd.tag, beq_dec, e1, pD_app (show p.length + 1 ≤ 1000 by omega), ih, o_addl hz]
    rfl
  | .rcd f, k, st, p, hk, hp, hc => by
    obtain ⟨k, rfl⟩ : ∃ q, k = q + 1 := ⟨k - 1, by omega⟩
    simp only [Kd.dep, Kd.cnt] at hk hp hc
    have e1 : opIdx (Kd.rcd f).d (.int 1) = some (.tup f.ds) := by rw [Kd.d, idx_t, ixk1]
    obtain ⟨x, y, e⟩ := wayL_ok f k (st := st) p (Kd.rcd f).d [D.tup [pD p, (Kd.rcd f).d]] none none (by omega) (by omega) (by simp only [List.length_cons, List.length_nil]; omega)
    rw [call_2 hw [none, none, none] rfl]
    unfold B_law_ways
    simp (decide := true) only [q_nx, q_rt, q_er, s1_ok, s1_er, p_nil, p_cons, p_asg, p_asgK, p_par, p_put, p_put1, p_put2, p_exp, p_expK, p_ret, p_retK, p_retN, p_pas, p_ite, p_ite_t, p_ite_f, p_for, p_forK, p_whl, e1_ok, e1_er, e2_ok, x_var, x_varR, x_gl, x_non, x_bl, x_int, x_str, x_bin, x_binK, x_neg, x_negK, x_not, x_notK, x_cmp, x_cmpK, x_cmp2, x_k21, x_k22, x_k23t, x_k23f, x_and, x_or, x_andT, x_andF, x_orT, x_orF, x_ife, x_ifeT, x_ifeF, x_tup, x_lst, x_idx, x_idxK, x_slc, x_slc1, x_slc2, x_slc3, x_on, x_os, x_intV, x_b1, x_b1K, x_b2, x_b2K, x_isi, x_isiK, x_call, x_comp, x_compK, x_kLst, x_mth, x_fz, x_fzd, x_lnil, x_lcons, x_lK, x_lK2, x_qn, x_qs, t_trE, t_trK, t_cmpE, t_cmpK, t_cmp2E, t_t21, t_t22, t_t23t, t_t23f, t_notE, t_notK, t_andE, t_andT, t_andF, t_orE, t_orT, t_orF, i_eE, i_strK, i_lstK, i_tupK, i_rngE, i_enuE, i_enuK, i_revE, i_zipE, i_zipL, i_zipT, v_some, b_some, b_some', List.getElem?_cons_zero, List.getElem?_cons_succ, List.set_cons_zero, List.set_cons_succ, okR_ok, okS_nx, okS_rt, o_add, o_sub, o_mod, o_div, o_mulR, o_mulL, o_pow, b_lenL, b_lenT, b_lenS, b_sum, b_min, b_max, mkO_f, mk_f, mk_t, ds_nil, ds_cons, ds_consO, lstV_of, lstV_ofK, tupV_of, tupV_ofK, exit_new, c_eq, c_ne, c_lt, c_gt, c_le, c_ge, c_eqs, exit_d, take_self, if_true, if_false, Bool.false_eq_true, Bool.true_eq_false, Bool.not_true, Bool.not_false, Int.reduceToNat, Int.reducePow, wk_rng, slc_s, slc_l, slc_t, idx_l, idx_t, c_ins, c_isb, c_nebb, c_eqbb, isi_bl, wipeE, List.foldl_cons, List.foldl_nil, bindT_v, truD, dec_t, dec_f, p_rse, p_try, tr_nx, tr_rt, tr_er, h_nil, h_cons, h_rse, h_t0, h_tS, h_f, hr_t, hr_f, no_nx, no_rt, un_nx, un_rt, x_isE, x_isEV, b_tupL, exit_er, Nat.reduceMul, Nat.reduceDiv, Nat.reduceAdd, Nat.reduceMod, tag_ix, Kd.tag, beq_dec, e1, e]
    rfl
  | .rws key f n, k, st, p, hk, hp, hc => by
    obtain ⟨k, rfl⟩ : ∃ q, k = q + 2 := ⟨k - 2, by simp only [Kd.dep] at hk; omega⟩
    simp only [Kd.dep, Kd.cnt] at hk hp hc
    have e2 : opIdx (Kd.rws key f n).d (.int 2) = some (Kd.rcd f).d := by
      show opIdx (.tup [_, _, _, _]) (.int 2) = _
      rw [idx_t, ixk2]; rfl
    have e1 : opIdx (Kd.rcd f).d (.int 1) = some (.tup f.ds) := by rw [Kd.d, idx_t, ixk1]
    obtain ⟨x, y, e⟩ := wayL_ok f k (st := st) (p ++ [tEach]) (Kd.rcd f).d [D.tup [pD (p ++ [tEach]), (Kd.rcd f).d]] none none (by omega) (by rw [List.length_append]; simp only [List.length_cons, List.length_nil]; omega) (by simp only [List.length_cons, List.length_nil]; omega)
    have ih : callM fs (k + 1) w [.d (Kd.rcd f).d, .d (pD (p ++ [tEach]))] st = .ok (.d (.lst (((Kd.rcd f).ways (p ++ [tEach])).map wD))) st := by
      rw [call_2 hw [none, none, none] rfl]
      unfold B_law_ways
      simp (decide := true) only [q_nx, q_rt, q_er, s1_ok, s1_er, p_nil, p_cons, p_asg, p_asgK, p_par, p_put, p_put1, p_put2, p_exp, p_expK, p_ret, p_retK, p_retN, p_pas, p_ite, p_ite_t, p_ite_f, p_for, p_forK, p_whl, e1_ok, e1_er, e2_ok, x_var, x_varR, x_gl, x_non, x_bl, x_int, x_str, x_bin, x_binK, x_neg, x_negK, x_not, x_notK, x_cmp, x_cmpK, x_cmp2, x_k21, x_k22, x_k23t, x_k23f, x_and, x_or, x_andT, x_andF, x_orT, x_orF, x_ife, x_ifeT, x_ifeF, x_tup, x_lst, x_idx, x_idxK, x_slc, x_slc1, x_slc2, x_slc3, x_on, x_os, x_intV, x_b1, x_b1K, x_b2, x_b2K, x_isi, x_isiK, x_call, x_comp, x_compK, x_kLst, x_mth, x_fz, x_fzd, x_lnil, x_lcons, x_lK, x_lK2, x_qn, x_qs, t_trE, t_trK, t_cmpE, t_cmpK, t_cmp2E, t_t21, t_t22, t_t23t, t_t23f, t_notE, t_notK, t_andE, t_andT, t_andF, t_orE, t_orT, t_orF, i_eE, i_strK, i_lstK, i_tupK, i_rngE, i_enuE, i_enuK, i_revE, i_zipE, i_zipL, i_zipT, v_some, b_some, b_some', List.getElem?_cons_zero, List.getElem?_cons_succ, List.set_cons_zero, List.set_cons_succ, okR_ok, okS_nx, okS_rt, o_add, o_sub, o_mod, o_div, o_mulR, o_mulL, o_pow, b_lenL, b_lenT, b_lenS, b_sum, b_min, b_max, mkO_f, mk_f, mk_t, ds_nil, ds_cons, ds_consO, lstV_of, lstV_ofK, tupV_of, tupV_ofK, exit_new, c_eq, c_ne, c_lt, c_gt, c_le, c_ge, c_eqs, exit_d, take_self, if_true, if_false, Bool.false_eq_true, Bool.true_eq_false, Bool.not_true, Bool.not_false, Int.reduceToNat, Int.reducePow, wk_rng, slc_s, slc_l, slc_t, idx_l, idx_t, c_ins, c_isb, c_nebb, c_eqbb, isi_bl, wipeE, List.foldl_cons, List.foldl_nil, bindT_v, truD, dec_t, dec_f, p_rse, p_try, tr_nx, tr_rt, tr_er, h_nil, h_cons, h_rse, h_t0, h_tS, h_f, hr_t, hr_f, no_nx, no_rt, un_nx, un_rt, x_isE, x_isEV, b_tupL, exit_er, Nat.reduceMul, Nat.reduceDiv, Nat.reduceAdd, Nat.reduceMod, tag_ix, Kd.tag, beq_dec, e1, e]
      rfl
    have hz : [D.tup [pD p, (Kd.rws key f n).d]].length + (((Kd.rcd f).ways (p ++ [tEach])).map wD).length ≤ SZ := by
      rw [List.length_map, Kd.ways_len]
      show 1 + (f.cnt + 1) ≤ 16777216
      omega
    rw [call_2 hw [none, none, none] rfl]
    unfold B_law_ways
    simp (decide := true) only [q_nx, q_rt, q_er, s1_ok, s1_er, p_nil, p_cons, p_asg, p_asgK, p_par, p_put, p_put1, p_put2, p_exp, p_expK, p_ret, p_retK, p_retN, p_pas, p_ite, p_ite_t, p_ite_f, p_for, p_forK, p_whl, e1_ok, e1_er, e2_ok, x_var, x_varR, x_gl, x_non, x_bl, x_int, x_str, x_bin, x_binK, x_neg, x_negK, x_not, x_notK, x_cmp, x_cmpK, x_cmp2, x_k21, x_k22, x_k23t, x_k23f, x_and, x_or, x_andT, x_andF, x_orT, x_orF, x_ife, x_ifeT, x_ifeF, x_tup, x_lst, x_idx, x_idxK, x_slc, x_slc1, x_slc2, x_slc3, x_on, x_os, x_intV, x_b1, x_b1K, x_b2, x_b2K, x_isi, x_isiK, x_call, x_comp, x_compK, x_kLst, x_mth, x_fz, x_fzd, x_lnil, x_lcons, x_lK, x_lK2, x_qn, x_qs, t_trE, t_trK, t_cmpE, t_cmpK, t_cmp2E, t_t21, t_t22, t_t23t, t_t23f, t_notE, t_notK, t_andE, t_andT, t_andF, t_orE, t_orT, t_orF, i_eE, i_strK, i_lstK, i_tupK, i_rngE, i_enuE, i_enuK, i_revE, i_zipE, i_zipL, i_zipT, v_some, b_some, b_some', List.getElem?_cons_zero, List.getElem?_cons_succ, List.set_cons_zero, List.set_cons_succ, okR_ok, okS_nx, okS_rt, o_add, o_sub, o_mod, o_div, o_mulR, o_mulL, o_pow, b_lenL, b_lenT, b_lenS, b_sum, b_min, b_max, mkO_f, mk_f, mk_t, ds_nil, ds_cons, ds_consO, lstV_of, lstV_ofK, tupV_of, tupV_ofK, exit_new, c_eq, c_ne, c_lt, c_gt, c_le, c_ge, c_eqs, exit_d, take_self, if_true, if_false, Bool.false_eq_true, Bool.true_eq_false, Bool.not_true, Bool.not_false, Int.reduceToNat, Int.reducePow, wk_rng, slc_s, slc_l, slc_t, idx_l, idx_t, c_ins, c_isb, c_nebb, c_eqbb, isi_bl, wipeE, List.foldl_cons, List.foldl_nil, bindT_v, truD, dec_t, dec_f, p_rse, p_try, tr_nx, tr_rt, tr_er, h_nil, h_cons, h_rse, h_t0, h_tS, h_f, hr_t, hr_f, no_nx, no_rt, un_nx, un_rt, x_isE, x_isEV, b_tupL, exit_er, Nat.reduceMul, Nat.reduceDiv, Nat.reduceAdd, Nat.reduceMod, tag_ix, Kd.tag, beq_dec, e2, pD_app (show p.length + 1 ≤ 1000 by omega), ih, o_addl hz]
    rfl
  | .num lo hi, k, st, p, hk, hp, hc => by
    obtain ⟨k, rfl⟩ : ∃ q, k = q + 1 := ⟨k - 1, by omega⟩
    rw [call_2 hw [none, none, none] rfl]
    unfold B_law_ways
    simp (decide := true) only [q_nx, q_rt, q_er, s1_ok, s1_er, p_nil, p_cons, p_asg, p_asgK, p_par, p_put, p_put1, p_put2, p_exp, p_expK, p_ret, p_retK, p_retN, p_pas, p_ite, p_ite_t, p_ite_f, p_for, p_forK, p_whl, e1_ok, e1_er, e2_ok, x_var, x_varR, x_gl, x_non, x_bl, x_int, x_str, x_bin, x_binK, x_neg, x_negK, x_not, x_notK, x_cmp, x_cmpK, x_cmp2, x_k21, x_k22, x_k23t, x_k23f, x_and, x_or, x_andT, x_andF, x_orT, x_orF, x_ife, x_ifeT, x_ifeF, x_tup, x_lst, x_idx, x_idxK, x_slc, x_slc1, x_slc2, x_slc3, x_on, x_os, x_intV, x_b1, x_b1K, x_b2, x_b2K, x_isi, x_isiK, x_call, x_comp, x_compK, x_kLst, x_mth, x_fz, x_fzd, x_lnil, x_lcons, x_lK, x_lK2, x_qn, x_qs, t_trE, t_trK, t_cmpE, t_cmpK, t_cmp2E, t_t21, t_t22, t_t23t, t_t23f, t_notE, t_notK, t_andE, t_andT, t_andF, t_orE, t_orT, t_orF, i_eE, i_strK, i_lstK, i_tupK, i_rngE, i_enuE, i_enuK, i_revE, i_zipE, i_zipL, i_zipT, v_some, b_some, b_some', List.getElem?_cons_zero, List.getElem?_cons_succ, List.set_cons_zero, List.set_cons_succ, okR_ok, okS_nx, okS_rt, o_add, o_sub, o_mod, o_div, o_mulR, o_mulL, o_pow, b_lenL, b_lenT, b_lenS, b_sum, b_min, b_max, mkO_f, mk_f, mk_t, ds_nil, ds_cons, ds_consO, lstV_of, lstV_ofK, tupV_of, tupV_ofK, exit_new, c_eq, c_ne, c_lt, c_gt, c_le, c_ge, c_eqs, exit_d, take_self, if_true, if_false, Bool.false_eq_true, Bool.true_eq_false, Bool.not_true, Bool.not_false, Int.reduceToNat, Int.reducePow, wk_rng, slc_s, slc_l, slc_t, idx_l, idx_t, c_ins, c_isb, c_nebb, c_eqbb, isi_bl, wipeE, List.foldl_cons, List.foldl_nil, bindT_v, truD, dec_t, dec_f, p_rse, p_try, tr_nx, tr_rt, tr_er, h_nil, h_cons, h_rse, h_t0, h_tS, h_f, hr_t, hr_f, no_nx, no_rt, un_nx, un_rt, x_isE, x_isEV, b_tupL, exit_er, Nat.reduceMul, Nat.reduceDiv, Nat.reduceAdd, Nat.reduceMod, tag_ix, Kd.tag, beq_dec]
    rfl
  | .txt n, k, st, p, hk, hp, hc => by
    obtain ⟨k, rfl⟩ : ∃ q, k = q + 1 := ⟨k - 1, by omega⟩
    rw [call_2 hw [none, none, none] rfl]
    unfold B_law_ways
    simp (decide := true) only [q_nx, q_rt, q_er, s1_ok, s1_er, p_nil, p_cons, p_asg, p_asgK, p_par, p_put, p_put1, p_put2, p_exp, p_expK, p_ret, p_retK, p_retN, p_pas, p_ite, p_ite_t, p_ite_f, p_for, p_forK, p_whl, e1_ok, e1_er, e2_ok, x_var, x_varR, x_gl, x_non, x_bl, x_int, x_str, x_bin, x_binK, x_neg, x_negK, x_not, x_notK, x_cmp, x_cmpK, x_cmp2, x_k21, x_k22, x_k23t, x_k23f, x_and, x_or, x_andT, x_andF, x_orT, x_orF, x_ife, x_ifeT, x_ifeF, x_tup, x_lst, x_idx, x_idxK, x_slc, x_slc1, x_slc2, x_slc3, x_on, x_os, x_intV, x_b1, x_b1K, x_b2, x_b2K, x_isi, x_isiK, x_call, x_comp, x_compK, x_kLst, x_mth, x_fz, x_fzd, x_lnil, x_lcons, x_lK, x_lK2, x_qn, x_qs, t_trE, t_trK, t_cmpE, t_cmpK, t_cmp2E, t_t21, t_t22, t_t23t, t_t23f, t_notE, t_notK, t_andE, t_andT, t_andF, t_orE, t_orT, t_orF, i_eE, i_strK, i_lstK, i_tupK, i_rngE, i_enuE, i_enuK, i_revE, i_zipE, i_zipL, i_zipT, v_some, b_some, b_some', List.getElem?_cons_zero, List.getElem?_cons_succ, List.set_cons_zero, List.set_cons_succ, okR_ok, okS_nx, okS_rt, o_add, o_sub, o_mod, o_div, o_mulR, o_mulL, o_pow, b_lenL, b_lenT, b_lenS, b_sum, b_min, b_max, mkO_f, mk_f, mk_t, ds_nil, ds_cons, ds_consO, lstV_of, lstV_ofK, tupV_of, tupV_ofK, exit_new, c_eq, c_ne, c_lt, c_gt, c_le, c_ge, c_eqs, exit_d, take_self, if_true, if_false, Bool.false_eq_true, Bool.true_eq_false, Bool.not_true, Bool.not_false, Int.reduceToNat, Int.reducePow, wk_rng, slc_s, slc_l, slc_t, idx_l, idx_t, c_ins, c_isb, c_nebb, c_eqbb, isi_bl, wipeE, List.foldl_cons, List.foldl_nil, bindT_v, truD, dec_t, dec_f, p_rse, p_try, tr_nx, tr_rt, tr_er, h_nil, h_cons, h_rse, h_t0, h_tS, h_f, hr_t, hr_f, no_nx, no_rt, un_nx, un_rt, x_isE, x_isEV, b_tupL, exit_er, Nat.reduceMul, Nat.reduceDiv, Nat.reduceAdd, Nat.reduceMod, tag_ix, Kd.tag, beq_dec]
    rfl
  | .cho ws, k, st, p, hk, hp, hc => by
    obtain ⟨k, rfl⟩ : ∃ q, k = q + 1 := ⟨k - 1, by omega⟩
    rw [call_2 hw [none, none, none] rfl]
    unfold B_law_ways
    simp (decide := true) only [q_nx, q_rt, q_er, s1_ok, s1_er, p_nil, p_cons, p_asg, p_asgK, p_par, p_put, p_put1, p_put2, p_exp, p_expK, p_ret, p_retK, p_retN, p_pas, p_ite, p_ite_t, p_ite_f, p_for, p_forK, p_whl, e1_ok, e1_er, e2_ok, x_var, x_varR, x_gl, x_non, x_bl, x_int, x_str, x_bin, x_binK, x_neg, x_negK, x_not, x_notK, x_cmp, x_cmpK, x_cmp2, x_k21, x_k22, x_k23t, x_k23f, x_and, x_or, x_andT, x_andF, x_orT, x_orF, x_ife, x_ifeT, x_ifeF, x_tup, x_lst, x_idx, x_idxK, x_slc, x_slc1, x_slc2, x_slc3, x_on, x_os, x_intV, x_b1, x_b1K, x_b2, x_b2K, x_isi, x_isiK, x_call, x_comp, x_compK, x_kLst, x_mth, x_fz, x_fzd, x_lnil, x_lcons, x_lK, x_lK2, x_qn, x_qs, t_trE, t_trK, t_cmpE, t_cmpK, t_cmp2E, t_t21, t_t22, t_t23t, t_t23f, t_notE, t_notK, t_andE, t_andT, t_andF, t_orE, t_orT, t_orF, i_eE, i_strK, i_lstK, i_tupK, i_rngE, i_enuE, i_enuK, i_revE, i_zipE, i_zipL, i_zipT, v_some, b_some, b_some', List.getElem?_cons_zero, List.getElem?_cons_succ, List.set_cons_zero, List.set_cons_succ, okR_ok, okS_nx, okS_rt, o_add, o_sub, o_mod, o_div, o_mulR, o_mulL, o_pow, b_lenL, b_lenT, b_lenS, b_sum, b_min, b_max, mkO_f, mk_f, mk_t, ds_nil, ds_cons, ds_consO, lstV_of, lstV_ofK, tupV_of, tupV_ofK, exit_new, c_eq, c_ne, c_lt, c_gt, c_le, c_ge, c_eqs, exit_d, take_self, if_true, if_false, Bool.false_eq_true, Bool.true_eq_false, Bool.not_true, Bool.not_false, Int.reduceToNat, Int.reducePow, wk_rng, slc_s, slc_l, slc_t, idx_l, idx_t, c_ins, c_isb, c_nebb, c_eqbb, isi_bl, wipeE, List.foldl_cons, List.foldl_nil, bindT_v, truD, dec_t, dec_f, p_rse, p_try, tr_nx, tr_rt, tr_er, h_nil, h_cons, h_rse, h_t0, h_tS, h_f, hr_t, hr_f, no_nx, no_rt, un_nx, un_rt, x_isE, x_isEV, b_tupL, exit_er, Nat.reduceMul, Nat.reduceDiv, Nat.reduceAdd, Nat.reduceMod, tag_ix, Kd.tag, beq_dec]
    rfl
theorem wayL_ok : ∀ (f : Fl) (k : Nat) {st : Store} (p : Pth) (kd : D) (acc : List D) (x y : Option Va), f.dep ≤ k → p.length + f.dep ≤ 1000 → acc.length + f.cnt ≤ 10000 → ∃ x' y' : Option Va,
    forM (bindT (.t [3, 4])) (evSs (callM fs k) (.cons (.asg (.v 2) (.bin .add (.var 2) (.call w (.cons (.var 4) (.cons (.bin .add (.var 1) (.tup (.cons (.var 3) .nil))) .nil))))) .nil)) (fun _ => true) f.ds [some (.d kd), some (.d (pD p)), some (.d (.lst acc)), x, y] st =
      .nx [some (.d kd), some (.d (pD p)), some (.d (.lst (acc ++ (f.ways p).map wD))), x', y'] st
  | .nil, k, st, p, kd, acc, x, y, _, _, _ => ⟨x, y, by simp only [Fl.ds, forM, Fl.ways, List.map_nil, List.append_nil]⟩
  | .cons n k0 r, k, st, p, kd, acc, x, y, hk, hp, hc => by
    simp only [Fl.dep, Fl.cnt] at hk hp hc
    have ih := ways_ok k0 k (st := st) (p ++ [n]) (by omega) (by rw [List.length_append]; simp only [List.length_cons, List.length_nil]; omega) (by omega)
    have hz : acc.length + ((k0.ways (p ++ [n])).map wD).length ≤ SZ := by
      rw [List.length_map, Kd.ways_len]
      show _ ≤ 16777216
      omega
    obtain ⟨x', y', ih2⟩ := wayL_ok r k (st := st) p kd (acc ++ (k0.ways (p ++ [n])).map wD) (some (.d (.str n))) (some (.d k0.d)) (by omega) (by omega) (by rw [List.length_append, List.length_map, Kd.ways_len]; omega)
    refine ⟨x', y', ?_⟩
    simp only [Fl.ds, forM, bindT, List.length_cons, List.length_nil, if_true, List.zip_cons_cons, List.zip_nil_right, List.foldl_cons, List.foldl_nil, List.set_cons_succ, List.set_cons_zero]
    simp (decide := true) only [q_nx, q_rt, q_er, s1_ok, s1_er, p_nil, p_cons, p_asg, p_asgK, p_par, p_put, p_put1, p_put2, p_exp, p_expK, p_ret, p_retK, p_retN, p_pas, p_ite, p_ite_t, p_ite_f, p_for, p_forK, p_whl, e1_ok, e1_er, e2_ok, x_var, x_varR, x_gl, x_non, x_bl, x_int, x_str, x_bin, x_binK, x_neg, x_negK, x_not, x_notK, x_cmp, x_cmpK, x_cmp2, x_k21, x_k22, x_k23t, x_k23f, x_and, x_or, x_andT, x_andF, x_orT, x_orF, x_ife, x_ifeT, x_ifeF, x_tup, x_lst, x_idx, x_idxK, x_slc, x_slc1, x_slc2, x_slc3, x_on, x_os, x_intV, x_b1, x_b1K, x_b2, x_b2K, x_isi, x_isiK, x_call, x_comp, x_compK, x_kLst, x_mth, x_fz, x_fzd, x_lnil, x_lcons, x_lK, x_lK2, x_qn, x_qs, t_trE, t_trK, t_cmpE, t_cmpK, t_cmp2E, t_t21, t_t22, t_t23t, t_t23f, t_notE, t_notK, t_andE, t_andT, t_andF, t_orE, t_orT, t_orF, i_eE, i_strK, i_lstK, i_tupK, i_rngE, i_enuE, i_enuK, i_revE, i_zipE, i_zipL, i_zipT, v_some, b_some, b_some', List.getElem?_cons_zero, List.getElem?_cons_succ, List.set_cons_zero, List.set_cons_succ, okR_ok, okS_nx, okS_rt, o_add, o_sub, o_mod, o_div, o_mulR, o_mulL, o_pow, b_lenL, b_lenT, b_lenS, b_sum, b_min, b_max, mkO_f, mk_f, mk_t, ds_nil, ds_cons, ds_consO, lstV_of, lstV_ofK, tupV_of, tupV_ofK, exit_new, c_eq, c_ne, c_lt, c_gt, c_le, c_ge, c_eqs, exit_d, take_self, if_true, if_false, Bool.false_eq_true, Bool.true_eq_false, Bool.not_true, Bool.not_false, Int.reduceToNat, Int.reducePow, wk_rng, slc_s, slc_l, slc_t, idx_l, idx_t, c_ins, c_isb, c_nebb, c_eqbb, isi_bl, wipeE, List.foldl_cons, List.foldl_nil, bindT_v, truD, dec_t, dec_f, p_rse, p_try, tr_nx, tr_rt, tr_er, h_nil, h_cons, h_rse, h_t0, h_tS, h_f, hr_t, hr_f, no_nx, no_rt, un_nx, un_rt, x_isE, x_isEV, b_tupL, exit_er, Nat.reduceMul, Nat.reduceDiv, Nat.reduceAdd, Nat.reduceMod, pD_app (show p.length + 1 ≤ 1000 by omega), ih, o_addl hz]
    simp only [SRes.bind, if_true, Fl.ways, List.map_append, ← List.append_assoc]
    exact ih2
end
end
def B_law_odd (cl_digit : Nat) : Stms :=
 (.cons (.asg (.v 2) (.idx (.lst false (.cons (.str [101, 97, 99, 104]) (.cons (.str [97]) (.cons (.str [98]) (.cons (.str [122, 122]) (.cons (.str []) (.cons (.str [105, 100]) (.cons (.str [65]) (.cons (.str [116]) .nil))))))))) (.call cl_digit (.cons (.var 1) (.cons (.int 8) .nil)))))
 (.cons (.asg (.v 3) (.call cl_digit (.cons (.var 1) (.cons (.bin .add (.b1 .len false (.var 0)) (.int 1)) .nil))))
 (.cons (.asg (.v 4) (.call cl_digit (.cons (.var 1) (.cons (.int 4) .nil))))
 (.cons (.ite (.cmp .eq (.var 4) (.int 0)) (.cons (.ret (.bin .add (.bin .add (.slc (.var 0) .none (.some (.var 3))) (.tup (.cons (.var 2) .nil))) (.slc (.var 0) (.some (.var 3)) .none)))
 .nil) .nil)
 (.cons (.ite (.cmp .eq (.var 4) (.int 1)) (.cons (.ret (.bin .add (.bin .add (.slc (.var 0) .none (.some (.var 3))) (.tup (.cons (.var 2) .nil))) (.slc (.var 0) (.some (.bin .add (.var 3) (.int 1))) .none)))
 .nil) .nil)
 (.cons (.ite (.cmp .eq (.var 4) (.int 2)) (.cons (.ret (.bin .add (.slc (.var 0) .none (.some (.var 3))) (.slc (.var 0) (.some (.bin .add (.var 3) (.int 1))) .none)))
 .nil) .nil)
 (.cons (.ret (.slc (.bin .add (.var 0) (.bin .mul (.tup (.cons (.var 2) .nil)) (.int 9))) .none (.some (.int 9))))
 .nil)))))))
theorem cut_map {α β : Type} (f : α → β) (xs : List α) (lo hi : Option Int) : cut (xs.map f) lo hi = (cut xs lo hi).map f := by
  unfold cut
  rw [List.length_map, List.map_take, List.map_drop]
theorem slc_p (p : Pth) (lo hi : Option Int) : opSlc (pD p) lo hi = some (pD (cut p lo hi)) := by
  show some (D.tup (cut (p.map D.str) lo hi)) = _
  rw [cut_map]; rfl
theorem add_p {p q : Pth} (h : p.length + q.length ≤ 10000) : opBin .add (pD p) (pD q) = some (pD (p ++ q)) := by
  unfold pD
  rw [o_addt (by rw [List.length_map, List.length_map]; show _ ≤ 16777216; omega), List.map_append]
theorem one_p (s : List Nat) : D.tup [.str s] = pD [s] := rfl
theorem len_p (p : Pth) : opB1 .len (pD p) = some (.int p.length) := by
  unfold pD
  rw [b_lenT, List.length_map]
theorem o_mulT {x : List D} {j : Int} (h : 2 ≤ j ∧ j ≤ 1000 ∧ x ≠ [] ∧ x.length ≤ 1000) : opBin .mul (.tup x) (.int j) = some (.tup (rep x j.toNat)) := by
  show (if _ then _ else _) = _
  rw [if_pos h]
theorem rep_p (s : List Nat) : opBin .mul (pD [s]) (.int 9) = some (pD [s, s, s, s, s, s, s, s, s]) := by
  show opBin .mul (.tup [.str s]) (.int 9) = _
  rw [o_mulT (by simp)]; rfl
theorem str_mem {u m : Int} (ls : List (List Nat)) (hl : (ls.length : Int) = m) (hm : 0 < m) : ∃ x, getIx (ls.map D.str) (u % m) = some (.str x) ∧ x ∈ ls := by
  obtain ⟨x, h1, h2⟩ := ix_int (xs := ls.map D.str) (i := u % m) (Int.emod_nonneg _ (by omega)) (by rw [List.length_map, hl]; exact Int.emod_lt_of_pos u hm)
  obtain ⟨y, hy, rfl⟩ := List.mem_map.mp h2
  exact ⟨y, h1, hy⟩
theorem odd_body {fs : List Fn} {d : Nat} (hd : fs[d]? = some ⟨2, 3, B_digit⟩) (k : Nat) {st : Store} {r : Nat} (hr : r < st.length) (v : Int) (p : Pth) (hp : p.length ≤ 1000) {N : Env → Store → Prop} :
    okS (evSs (callM fs (k + 1)) (B_law_odd d) [some (.d (pD p)), some (.r r), none, none, none] (sR st r v)) N fun va s => okR (exitV (sR st r v).length (.rt va s)) fun va s => ∃ (q : Pth) (v' : Int), va = .d (pD q) ∧ s = sR st r v' := by
  unfold B_law_odd
  obtain ⟨t, e1, _⟩ := str_mem (u := v) (m := 8) [[101, 97, 99, 104], [97], [98], [122, 122], [], [105, 100], [65], [116]] rfl (by decide)
  simp only [List.map_cons, List.map_nil] at e1
  have d2 := digS hd k hr (u := v / 8) (m := (p.length : Int) + 1) (by omega) (by
    have : ((p.length : Int) + 1).natAbs = p.length + 1 := by omega
    rw [this]; omega)
  have cl : ∀ lo hi, (cut p lo hi).length ≤ p.length := fun lo hi => cut_le
  have a1 : ∀ lo hi, opBin .add (pD (cut p lo hi)) (pD [t]) = some (pD (cut p lo hi ++ [t])) := fun lo hi => add_p (by have := cl lo hi; simp only [List.length_cons, List.length_nil]; omega)
  have a2 : ∀ lo hi lo' hi', opBin .add (pD (cut p lo hi ++ [t])) (pD (cut p lo' hi')) = some (pD (cut p lo hi ++ [t] ++ cut p lo' hi')) := fun lo hi lo' hi' => add_p (by have := cl lo hi; have := cl lo' hi'; rw [List.length_append]; simp only [List.length_cons, List.length_nil]; omega)
  have a3 : ∀ lo hi lo' hi', opBin .add (pD (cut p lo hi)) (pD (cut p lo' hi')) = some (pD (cut p lo hi ++ cut p lo' hi')) := fun lo hi lo' hi' => add_p (by have := cl lo hi; have := cl lo' hi'; omega)
  have a4 : opBin .add (pD p) (pD [t, t, t, t, t, t, t, t, t]) = some (pD (p ++ [t, t, t, t, t, t, t, t, t])) := add_p (by simp only [List.length_cons, List.length_nil]; omega)
  by_cases w0 : v / 8 / ((p.length : Int) + 1) % 4 = 0
  · simp (decide := true) only [q_nx, q_rt, q_er, s1_ok, s1_er, p_nil, p_cons, p_asg, p_asgK, p_par, p_put, p_put1, p_put2, p_exp, p_expK, p_ret, p_retK, p_retN, p_pas, p_ite, p_ite_t, p_ite_f, p_for, p_forK, p_whl, e1_ok, e1_er, e2_ok, x_var, x_varR, x_gl, x_non, x_bl, x_int, x_str, x_bin, x_binK, x_neg, x_negK, x_not, x_notK, x_cmp, x_cmpK, x_cmp2, x_k21, x_k22, x_k23t, x_k23f, x_and, x_or, x_andT, x_andF, x_orT, x_orF, x_ife, x_ifeT, x_ifeF, x_tup, x_lst, x_idx, x_idxK, x_slc, x_slc1, x_slc2, x_slc3, x_on, x_os, x_intV, x_b1, x_b1K, x_b2, x_b2K, x_isi, x_isiK, x_call, x_comp, x_compK, x_kLst, x_mth, x_fz, x_fzd, x_lnil, x_lcons, x_lK, x_lK2, x_qn, x_qs, t_trE, t_trK, t_cmpE, t_cmpK, t_cmp2E, t_t21, t_t22, t_t23t, t_t23f, t_notE, t_notK, t_andE, t_andT, t_andF, t_orE, t_orT, t_orF, i_eE, i_strK, i_lstK, i_tupK, i_rngE, i_enuE, i_enuK, i_revE, i_zipE, i_zipL, i_zipT, v_some, b_some, b_some', List.getElem?_cons_zero, List.getElem?_cons_succ, List.set_cons_zero, List.set_cons_succ, okR_ok, okS_nx, okS_rt, o_add, o_sub, o_mod, o_div, o_mulR, o_mulL, o_pow, b_lenL, b_lenT, b_lenS, b_sum, b_min, b_max, mkO_f, mk_f, mk_t, ds_nil, ds_cons, ds_consO, lstV_of, lstV_ofK, tupV_of, tupV_ofK, exit_new, c_eq, c_ne, c_lt, c_gt, c_le, c_ge, c_eqs, exit_d, take_self, if_true, if_false, Bool.false_eq_true, Bool.true_eq_false, Bool.not_true, Bool.not_false, Int.reduceToNat, Int.reducePow, wk_rng, slc_s, slc_l, slc_t, idx_l, idx_t, c_ins, c_isb, c_nebb, c_eqbb, isi_bl, wipeE, List.foldl_cons, List.foldl_nil, bindT_v, truD, dec_t, dec_f, p_rse, p_try, tr_nx, tr_rt, tr_er, h_nil, h_cons, h_rse, h_t0, h_tS, h_f, hr_t, hr_f, no_nx, no_rt, un_nx, un_rt, x_isE, x_isEV, b_tupL, exit_er, Nat.reduceMul, Nat.reduceDiv, Nat.reduceAdd, Nat.reduceMod, digS hd k hr, e1, len_p, d2, beq_t w0, slc_p, one_p, a1, a2, takeS]
    exact ⟨_, _, rfl, rfl⟩
  · by_cases w1 : v / 8 / ((p.length : Int) + 1) % 4 = 1
    · simp (decide := true) only [q_nx, q_rt, q_er, s1_ok, s1_er, p_nil, p_cons, p_asg, p_asgK, p_par, p_put, p_put1, p_put2, p_exp, p_expK, p_ret, p_retK, p_retN, p_pas, p_ite, p_ite_t, p_ite_f, p_for, p_forK, p_whl, e1_ok, e1_er, e2_ok, x_var, x_varR, x_gl, x_non, x_bl, x_int, x_str, x_bin, x_binK, x_neg, x_negK, x_not, x_notK, x_cmp, x_cmpK, x_cmp2, x_k21, x_k22, x_k23t, x_k23f, x_and, x_or, x_andT, x_andF, x_orT, x_orF, x_ife, x_ifeT, x_ifeF, x_tup, x_lst, x_idx, x_idxK, x_slc, x_slc1, x_slc2, x_slc3, x_on, x_os, x_intV, x_b1, x_b1K, x_b2, x_b2K, x_isi, x_isiK, x_call, x_comp, x_compK, x_kLst, x_mth, x_fz, x_fzd, x_lnil, x_lcons, x_lK, x_lK2, x_qn, x_qs, t_trE, t_trK, t_cmpE, t_cmpK, t_cmp2E, t_t21, t_t22, t_t23t, t_t23f, t_notE, t_notK, t_andE, t_andT, t_andF, t_orE, t_orT, t_orF, i_eE, i_strK, i_lstK, i_tupK, i_rngE, i_enuE, i_enuK, i_revE, i_zipE, i_zipL, i_zipT, v_some, b_some, b_some', List.getElem?_cons_zero, List.getElem?_cons_succ, List.set_cons_zero, List.set_cons_succ, okR_ok, okS_nx, okS_rt, o_add, o_sub, o_mod, o_div, o_mulR, o_mulL, o_pow, b_lenL, b_lenT, b_lenS, b_sum, b_min, b_max, mkO_f, mk_f, mk_t, ds_nil, ds_cons, ds_consO, lstV_of, lstV_ofK, tupV_of, tupV_ofK, exit_new, c_eq, c_ne, c_lt, c_gt, c_le, c_ge, c_eqs, exit_d, take_self, if_true, if_false, Bool.false_eq_true, Bool.true_eq_false, Bool.not_true, Bool.not_false, Int.reduceToNat, Int.reducePow, wk_rng, slc_s, slc_l, slc_t, idx_l, idx_t, c_ins, c_isb, c_nebb, c_eqbb, isi_bl, wipeE, List.foldl_cons, List.foldl_nil, bindT_v, truD, dec_t, dec_f, p_rse, p_try, tr_nx, tr_rt, tr_er, h_nil, h_cons, h_rse, h_t0, h_tS, h_f, hr_t, hr_f, no_nx, no_rt, un_nx, un_rt, x_isE, x_isEV, b_tupL, exit_er, Nat.reduceMul, Nat.reduceDiv, Nat.reduceAdd, Nat.reduceMod, digS hd k hr, e1, len_p, d2, beq_f w0, beq_t w1, slc_p, one_p, a1, a2, takeS]
      exact ⟨_, _, rfl, rfl⟩
    · by_cases w2 : v / 8 / ((p.length : Int) + 1) % 4 = 2
      · simp (decide := true) only [q_nx, q_rt, q_er, s1_ok, s1_er, p_nil, p_cons, p_asg, p_asgK, p_par, p_put, p_put1, p_put2, p_exp, p_expK, p_ret, p_retK, p_retN, p_pas, p_ite, p_ite_t, p_ite_f, p_for, p_forK, p_whl, e1_ok, e1_er, e2_ok, x_var, x_varR, x_gl, x_non, x_bl, x_int, x_str, x_bin, x_binK, x_neg, x_negK, x_not, x_notK, x_cmp, x_cmpK, x_cmp2, x_k21, x_k22, x_k23t, x_k23f, x_and, x_or, x_andT, x_andF, x_orT, x_orF, x_ife, x_ifeT, x_ifeF, x_tup, x_lst, x_idx, x_idxK, x_slc, x_slc1, x_slc2, x_slc3, x_on, x_os, x_intV, x_b1, x_b1K, x_b2, x_b2K, x_isi, x_isiK, x_call, x_comp, x_compK, x_kLst, x_mth, x_fz, x_fzd, x_lnil, x_lcons, x_lK, x_lK2, x_qn, x_qs, t_trE, t_trK, t_cmpE, t_cmpK, t_cmp2E, t_t21, t_t22, t_t23t, t_t23f, t_notE, t_notK, t_andE, t_andT, t_andF, t_orE, t_orT, t_orF, i_eE, i_strK, i_lstK, i_tupK, i_rngE, i_enuE, i_enuK, i_revE, i_zipE, i_zipL, i_zipT, v_some, b_some, b_some', List.getElem?_cons_zero, List.getElem?_cons_succ, List.set_cons_zero, List.set_cons_succ, okR_ok, okS_nx, okS_rt, o_add, o_sub, o_mod, o_div, o_mulR, o_mulL, o_pow, b_lenL, b_lenT, b_lenS, b_sum, b_min, b_max, mkO_f, mk_f, mk_t, ds_nil, ds_cons, ds_consO, lstV_of, lstV_ofK, tupV_of, tupV_ofK, exit_new, c_eq, c_ne, c_lt, c_gt, c_le, c_ge, c_eqs, exit_d, take_self, if_true, if_false, Bool.false_eq_true, Bool.true_eq_false, Bool.not_true, Bool.not_false, Int.reduceToNat, Int.reducePow, wk_rng, slc_s, slc_l, slc_t, idx_l, idx_t, c_ins, c_isb, c_nebb, c_eqbb, isi_bl, wipeE, List.foldl_cons, List.foldl_nil, bindT_v, truD, dec_t, dec_f, p_rse, p_try, tr_nx, tr_rt, tr_er, h_nil, h_cons, h_rse, h_t0, h_tS, h_f, hr_t, hr_f, no_nx, no_rt, un_nx, un_rt, x_isE, x_isEV, b_tupL, exit_er, Nat.reduceMul, Nat.reduceDiv, Nat.reduceAdd, Nat.reduceMod, digS hd k hr, e1, len_p, d2, beq_f w0, beq_f w1, beq_t w2, slc_p, a3, takeS]
        exact ⟨_, _, rfl, rfl⟩
      · simp (decide := true) only [q_nx, q_rt, q_er, s1_ok, s1_er, p_nil, p_cons, p_asg, p_asgK, p_par, p_put, p_put1, p_put2, p_exp, p_expK, p_ret, p_retK, p_retN, p_pas, p_ite, p_ite_t, p_ite_f, p_for, p_forK, p_whl, e1_ok, e1_er, e2_ok, x_var, x_varR, x_gl, x_non, x_bl, x_int, x_str, x_bin, x_binK, x_neg, x_negK, x_not, x_notK, x_cmp, x_cmpK, x_cmp2, x_k21, x_k22, x_k23t, x_k23f, x_and, x_or, x_andT, x_andF, x_orT, x_orF, x_ife, x_ifeT, x_ifeF, x_tup, x_lst, x_idx, x_idxK, x_slc, x_slc1, x_slc2, x_slc3, x_on, x_os, x_intV, x_b1, x_b1K, x_b2, x_b2K, x_isi, x_isiK, x_call, x_comp, x_compK, x_kLst, x_mth, x_fz, x_fzd, x_lnil, x_lcons, x_lK, x_lK2, x_qn, x_qs, t_trE, t_trK, t_cmpE, t_cmpK, t_cmp2E, t_t21, t_t22, t_t23t, t_t23f, t_notE, t_notK, t_andE, t_andT, t_andF, t_orE, t_orT, t_orF, i_eE, i_strK, i_lstK, i_tupK, i_rngE, i_enuE, i_enuK, i_revE, i_zipE, i_zipL, i_zipT, v_some, b_some, b_some', List.getElem?_cons_zero, List.getElem?_cons_succ, List.set_cons_zero, List.set_cons_succ, okR_ok, okS_nx, okS_rt, o_add, o_sub, o_mod, o_div, o_mulR, o_mulL, o_pow, b_lenL, b_lenT, b_lenS, b_sum, b_min, b_max, mkO_f, mk_f, mk_t, ds_nil, ds_cons, ds_consO, lstV_of, lstV_ofK, tupV_of, tupV_ofK, exit_new, c_eq, c_ne, c_lt, c_gt, c_le, c_ge, c_eqs, exit_d, take_self, if_true, if_false, Bool.false_eq_true, Bool.true_eq_false, Bool.not_true, Bool.not_false, Int.reduceToNat, Int.reducePow, wk_rng, slc_s, slc_l, slc_t, idx_l, idx_t, c_ins, c_isb, c_nebb, c_eqbb, isi_bl, wipeE, List.foldl_cons, List.foldl_nil, bindT_v, truD, dec_t, dec_f, p_rse, p_try, tr_nx, tr_rt, tr_er, h_nil, h_cons, h_rse, h_t0, h_tS, h_f, hr_t, hr_f, no_nx, no_rt, un_nx, un_rt, x_isE, x_isEV, b_tupL, exit_er, Nat.reduceMul, Nat.reduceDiv, Nat.reduceAdd, Nat.reduceMod, digS hd k hr, e1, len_p, d2, beq_f w0, beq_f w1, beq_f w2, slc_p, one_p, rep_p, a4, takeS]
        exact ⟨_, _, rfl, rfl⟩
theorem odd_ok {fs : List Fn} {d o : Nat} (hd : fs[d]? = some ⟨2, 3, B_digit⟩) (ho : fs[o]? = some ⟨2, 5, B_law_odd d⟩) (k : Nat) {st : Store} {r : Nat} (hr : r < st.length) (v : Int) (p : Pth) (hp : p.length ≤ 1000) :
    ∃ (q : Pth) (v' : Int), callM fs (k + 2) o [.d (pD p), .r r] (sR st r v) = .ok (.d (pD q)) (sR st r v') := by
  have key : okR (callM fs (k + 2) o [.d (pD p), .r r] (sR st r v)) fun va s => ∃ (q : Pth) (v' : Int), va = .d (pD q) ∧ s = sR st r v' := by
    rw [call_2 ho [none, none, none] rfl]
    refine okR_exit ?_
    exact odd_body hd k hr v p hp
  obtain ⟨va, s, e, q, v', rfl, rfl⟩ := key.ex
  exact ⟨q, v', e⟩
theorem Fl.get_dep {s : List Nat} {j : Kd} : ∀ {f : Fl}, f.get s = some j → j.dep + 1 ≤ f.dep
  | .nil, h => by cases h
  | .cons n k r, h => by
    simp only [Fl.get] at h
    simp only [Fl.dep]
    split at h
    · cases h; omega
    · have := Fl.get_dep h; omega
theorem Kd.on_dep {s : List Nat} {k j : Kd} (h : k.on s = some j) : j.dep ≤ k.dep := by
  cases k with
  | lst k n =>
    simp only [Kd.on] at h
    split at h
    · cases h; simp only [Kd.dep]; omega
    · cases h
  | rcd f =>
    simp only [Kd.on] at h
    split at h
    · cases h
    · have := Fl.get_dep h; simp only [Kd.dep]; omega
  | rws key f n =>
    simp only [Kd.on] at h
    split at h
    · cases h; simp only [Kd.dep]; omega
    · cases h
  | _ => cases h
theorem Kd.go_dep : ∀ {p : Pth} {k j : Kd}, k.go p = some j → j.dep ≤ k.dep
  | [], k, j, h => by cases h; exact Nat.le_refl _
  | s :: p, k, j, h => by
    simp only [Kd.go] at h
    cases h1 : k.on s with
    | none => rw [h1] at h; cases h
    | some i => rw [h1] at h; exact Nat.le_trans (Kd.go_dep h) (Kd.on_dep h1)
theorem go_flat {p : Pth} {k j : Kd} (h : k.go p = some j) (hd : k.dep ≤ 40) : j.d.depth ≤ 180 := by
  have := Kd.deep j
  have := Kd.go_dep h
  omega
theorem row_new {s : Store} {v : Int} : sR (s ++ [.lst [.int v]]) s.length v = s ++ [.lst [.int v]] := set_last
end Ev

namespace Lw
open PySem PySem.Spec PyProof.Rows L2 Ev
def top (i : Nat) : Stmt := PySem.Challenge.pw_oldhands_k08_kinds_at_paths.main.body.getD i (.Pass ⟨0, 0, 0, 0⟩)
def b_field_kind : Stms :=
 (.cons (.for_ (.t [2, 3]) (.e (.idx (.var 0) (.int 1))) (.cons (.ite (.cmp .eq (.var 2) (.var 1)) (.cons (.ret (.var 3))
 .nil) .nil)
 .nil))
 (.cons (.ret .non)
 .nil))
def f_field_kind : Df := ⟨⟨("field_kind", none), "field_kind", "field_kind", defArgs (top 6), defBody (top 6), defScope (top 6), [], []⟩, ["kind", "name"], ["kind", "name", "other", "inner"], b_field_kind⟩
theorem d_field_kind : Bd f_field_kind := fun K f fd F => F.bindsN fun _ _ _ _ _ _ us hl => match us, hl with | [_, _], _ => rfl
def b_kind_of_items : Stms :=
 (.cons (.ite (.cmp .eq (.idx (.var 0) (.int 0)) (.str [108, 105, 115, 116])) (.cons (.ret (.idx (.var 0) (.int 1)))
 .nil) .nil)
 (.cons (.ite (.cmp .eq (.idx (.var 0) (.int 0)) (.str [114, 111, 119, 115])) (.cons (.ret (.idx (.var 0) (.int 2)))
 .nil) .nil)
 (.cons (.rse 0)
 .nil)))
def f_kind_of_items : Df := ⟨⟨("kind_of_items", none), "kind_of_items", "kind_of_items", defArgs (top 10), defBody (top 10), defScope (top 10), [], []⟩, ["kind"], ["kind"], b_kind_of_items⟩
theorem d_kind_of_items : Bd f_kind_of_items := fun K f fd F => F.bindsN fun _ _ _ _ _ _ us hl => match us, hl with | [_], _ => rfl
def b_kind_one_on : Stms :=
 (.cons (.ite (.cmp .eq (.var 1) (.gl 0 (.str [101, 97, 99, 104]))) (.cons (.ret (.call 1 (.cons (.var 0) .nil)))
 .nil) .nil)
 (.cons (.asg (.v 2) .non)
 (.cons (.ite (.cmp .eq (.idx (.var 0) (.int 0)) (.str [114, 101, 99, 111, 114, 100])) (.cons (.asg (.v 2) (.call 0 (.cons (.var 0) (.cons (.var 1) .nil))))
 .nil) .nil)
 (.cons (.ite (.cmp .is (.var 2) .non) (.cons (.rse 0)
 .nil) .nil)
 (.cons (.ret (.var 2))
 .nil)))))
def f_kind_one_on : Df := ⟨⟨("kind_one_on", none), "kind_one_on", "kind_one_on", defArgs (top 11), defBody (top 11), defScope (top 11), [], []⟩, ["kind", "step"], ["kind", "step", "found"], b_kind_one_on⟩
theorem d_kind_one_on : Bd f_kind_one_on := fun K f fd F => F.bindsN fun _ _ _ _ _ _ us hl => match us, hl with | [_, _], _ => rfl
def b_kind_at : Stms :=
 (.cons (.ite (.cmp .gt (.b1 .len false (.var 1)) (.gl 1 (.int 8))) (.cons (.rse 0)
 .nil) .nil)
 (.cons (.for_ (.v 2) (.e (.var 1)) (.cons (.asg (.v 0) (.call 2 (.cons (.var 0) (.cons (.var 2) .nil))))
 .nil))
 (.cons (.ret (.var 0))
 .nil)))
def f_kind_at : Df := ⟨⟨("kind_at", none), "kind_at", "kind_at", defArgs (top 12), defBody (top 12), defScope (top 12), [], []⟩, ["kind", "path"], ["kind", "path", "step"], b_kind_at⟩
theorem d_kind_at : Bd f_kind_at := fun K f fd F => F.bindsN fun _ _ _ _ _ _ us hl => match us, hl with | [_, _], _ => rfl
def b__law_mixed : Stms :=
 (.cons (.asg (.v 2) (.bin .mod (.bin .mul (.bin .add (.bin .add (.bin .mod (.var 0) (.int 1000000007)) (.bin .mul (.int 7919) (.var 1))) (.int 1)) (.int 48271)) (.int 2147483647)))
 (.cons (.ret (.bin .mod (.bin .mul (.bin .mod (.bin .mul (.var 2) (.var 2)) (.int 2147483629)) (.int 69621)) (.int 2147483647)))
 .nil))
def f__law_mixed : Df := ⟨⟨("_law_mixed", none), "_law_mixed", "_law_mixed", defArgs (top 14), defBody (top 14), defScope (top 14), [], []⟩, ["cell", "k"], ["cell", "k", "stir"], b__law_mixed⟩
theorem d__law_mixed : Bd f__law_mixed := fun K f fd F => F.bindsN fun _ _ _ _ _ _ us hl => match us, hl with | [_, _], _ => rfl
def b__law_stream : Stms :=
 (.cons (.asg (.v 2) (.int 0))
 (.cons (.for_ (.v 3) (.rng (.cons (.var 1) (.cons (.b1 .len false (.var 0)) (.cons (.int 9) .nil)))) (.cons (.asg (.v 2) (.bin .add (.bin .mul (.var 2) (.bin .pow (.int 10) (.int 60))) (.bin .mod (.idx (.var 0) (.var 3)) (.bin .pow (.int 10) (.int 60)))))
 .nil))
 (.cons (.ite (.cmp .ge (.var 2) (.bin .pow (.int 10) (.int 18))) (.cons (.ret (.lst true (.cons (.var 2) .nil)))
 .nil) .nil)
 (.cons (.asg (.v 4) (.int 0))
 (.cons (.for_ (.v 3) (.rng (.cons (.int 9) .nil)) (.cons (.asg (.v 4) (.bin .add (.bin .mul (.var 4) (.int 2147483647)) (.call 4 (.cons (.bin .add (.bin .add (.var 2) (.bin .mul (.int 1009) (.var 1))) (.b1 .len false (.var 0))) (.cons (.var 3) .nil)))))
 .nil))
 (.cons (.ret (.lst true (.cons (.bin .fdiv (.var 4) (.int 8)) .nil)))
 .nil))))))
def f__law_stream : Df := ⟨⟨("_law_stream", none), "_law_stream", "_law_stream", defArgs (top 15), defBody (top 15), defScope (top 15), [], []⟩, ["script", "k"], ["script", "k", "cell", "j", "found"], b__law_stream⟩
theorem d__law_stream : Bd f__law_stream := fun K f fd F => F.bindsN fun _ _ _ _ _ _ us hl => match us, hl with | [_, _], _ => rfl
def b__law_digit : Stms :=
 (.cons (.asg (.v 2) (.bin .mod (.idx (.var 0) (.int 0)) (.var 1)))
 (.cons (.put (.var 0) (.int 0) (.bin .fdiv (.idx (.var 0) (.int 0)) (.var 1)))
 (.cons (.ret (.var 2))
 .nil)))
def f__law_digit : Df := ⟨⟨("_law_digit", none), "_law_digit", "_law_digit", defArgs (top 16), defBody (top 16), defScope (top 16), [], []⟩, ["row", "many"], ["row", "many", "digit"], b__law_digit⟩
theorem d__law_digit : Bd f__law_digit := fun K f fd F => F.bindsN fun _ _ _ _ _ _ us hl => match us, hl with | [_, _], _ => rfl
def b__law_leaf : Stms :=
 (.cons (.asg (.v 1) (.call 6 (.cons (.var 0) (.cons (.int 4) .nil))))
 (.cons (.ite (.cmp .eq (.var 1) (.int 0)) (.cons (.ret (.tup (.cons (.str [116, 101, 120, 116]) (.cons (.idx (.lst false (.cons (.int 0) (.cons (.int 1) (.cons (.int 3) (.cons (.int 5) (.cons (.int 60) .nil)))))) (.call 6 (.cons (.var 0) (.cons (.int 5) .nil)))) .nil))))
 .nil) .nil)
 (.cons (.ite (.cmp .eq (.var 1) (.int 1)) (.cons (.ret (.tup (.cons (.str [99, 104, 111, 105, 99, 101]) (.cons (.slc (.tup (.cons (.str [98]) (.cons (.str [97]) (.cons (.str [110, 111]) (.cons (.str [121, 101, 115]) .nil))))) (.some (.call 6 (.cons (.var 0) (.cons (.int 3) .nil)))) .none) .nil))))
 .nil) .nil)
 (.cons (.asg (.v 2) (.idx (.lst false (.cons (.int 0) (.cons (.int 0) (.cons (.neg (.int 7)) (.cons (.int 10) (.cons (.int 3) (.cons (.neg (.bin .pow (.int 10) (.int 30))) .nil))))))) (.call 6 (.cons (.var 0) (.cons (.int 6) .nil)))))
 (.cons (.ret (.tup (.cons (.str [110, 117, 109, 98, 101, 114]) (.cons (.var 2) (.cons (.b2 .min (.bin .pow (.int 10) (.int 30)) (.bin .add (.var 2) (.idx (.lst false (.cons (.int 9) (.cons (.int 0) (.cons (.int 30) (.cons (.int 99) (.cons (.int 20) (.cons (.bin .pow (.int 10) (.int 30)) .nil))))))) (.call 6 (.cons (.var 0) (.cons (.int 6) .nil)))))) .nil)))))
 .nil)))))
def f__law_leaf : Df := ⟨⟨("_law_leaf", none), "_law_leaf", "_law_leaf", defArgs (top 17), defBody (top 17), defScope (top 17), [], []⟩, ["row"], ["row", "way", "low"], b__law_leaf⟩
theorem d__law_leaf : Bd f__law_leaf := fun K f fd F => F.bindsN fun _ _ _ _ _ _ us hl => match us, hl with | [_], _ => rfl
def b__law_record : Stms :=
 (.cons (.asg (.v 3) (.lst true .nil))
 (.cons (.for_ (.v 4) (.e (.var 2)) (.cons (.ite (.cmp .gt (.call 6 (.cons (.var 0) (.cons (.int 3) .nil))) (.int 0)) (.cons (.exp (.mth .lapp (.var 3) (.cons (.tup (.cons (.var 4) (.cons (.call 10 (.cons (.var 0) (.cons (.bin .sub (.var 1) (.int 1)) .nil))) .nil))) .nil)))
 .nil) .nil)
 .nil))
 (.cons (.ret (.tup (.cons (.str [114, 101, 99, 111, 114, 100]) (.cons (.b1 .tuple false (.var 3)) .nil))))
 .nil)))
def f__law_record : Df := ⟨⟨("_law_record", none), "_law_record", "_law_record", defArgs (top 18), defBody (top 18), defScope (top 18), [], []⟩, ["row", "deep", "names"], ["row", "deep", "names", "fields", "name"], b__law_record⟩
theorem d__law_record : Bd f__law_record := fun K f fd F => F.bindsN fun _ _ _ _ _ _ us hl => match us, hl with | [_, _, _], _ => rfl
def b__law_rows : Stms :=
 (.cons (.asg (.v 2) (.call 8 (.cons (.var 0) (.cons (.bin .sub (.var 1) (.int 1)) (.cons (.lst false (.cons (.str [97]) (.cons (.str [98]) .nil))) .nil)))))
 (.cons (.asg (.v 3) (.idx (.lst false (.cons (.tup (.cons (.str [110, 117, 109, 98, 101, 114]) (.cons (.neg (.int 3)) (.cons (.int 40) .nil)))) (.cons (.tup (.cons (.str [116, 101, 120, 116]) (.cons (.int 3) .nil))) .nil))) (.call 6 (.cons (.var 0) (.cons (.int 2) .nil)))))
 (.cons (.asg (.v 4) (.idx (.lst false (.cons (.int 0) (.cons (.int 1) (.cons (.int 2) (.cons (.int 3) (.cons (.int 8) .nil)))))) (.call 6 (.cons (.var 0) (.cons (.int 5) .nil)))))
 (.cons (.ret (.tup (.cons (.str [114, 111, 119, 115]) (.cons (.str [105, 100]) (.cons (.tup (.cons (.str [114, 101, 99, 111, 114, 100]) (.cons (.bin .add (.idx (.var 2) (.int 1)) (.tup (.cons (.tup (.cons (.str [105, 100]) (.cons (.var 3) .nil))) .nil))) .nil))) (.cons (.var 4) .nil))))))
 .nil))))
def f__law_rows : Df := ⟨⟨("_law_rows", none), "_law_rows", "_law_rows", defArgs (top 19), defBody (top 19), defScope (top 19), [], []⟩, ["row", "deep"], ["row", "deep", "inner", "key", "most"], b__law_rows⟩
theorem d__law_rows : Bd f__law_rows := fun K f fd F => F.bindsN fun _ _ _ _ _ _ us hl => match us, hl with | [_, _], _ => rfl
def b__law_kind : Stms :=
 (.cons (.asg (.v 2) (.call 6 (.cons (.var 0) (.cons (.int 8) .nil))))
 (.cons (.ite (.or (.cmp .le (.var 1) (.int 0)) (.cmp .lt (.var 2) (.int 4))) (.cons (.ret (.call 7 (.cons (.var 0) .nil)))
 .nil) .nil)
 (.cons (.ite (.cmp .eq (.var 2) (.int 4)) (.cons (.ret (.tup (.cons (.str [108, 105, 115, 116]) (.cons (.call 10 (.cons (.var 0) (.cons (.bin .sub (.var 1) (.int 1)) .nil))) (.cons (.idx (.lst false (.cons (.int 0) (.cons (.int 1) (.cons (.int 2) (.cons (.int 8) .nil))))) (.call 6 (.cons (.var 0) (.cons (.int 4) .nil)))) .nil)))))
 .nil) .nil)
 (.cons (.ite (.and (.cmp .eq (.var 2) (.int 5)) (.cmp .gt (.var 1) (.int 1))) (.cons (.ret (.call 9 (.cons (.var 0) (.cons (.var 1) .nil))))
 .nil) .nil)
 (.cons (.ret (.call 8 (.cons (.var 0) (.cons (.var 1) (.cons (.lst false (.cons (.str [97]) (.cons (.str [98]) .nil))) .nil)))))
 .nil)))))
def f__law_kind : Df := ⟨⟨("_law_kind", none), "_law_kind", "_law_kind", defArgs (top 20), defBody (top 20), defScope (top 20), [], []⟩, ["row", "deep"], ["row", "deep", "way"], b__law_kind⟩
theorem d__law_kind : Bd f__law_kind := fun K f fd F => F.bindsN fun _ _ _ _ _ _ us hl => match us, hl with | [_, _], _ => rfl
def b__law_shape : Stms :=
 (.cons (.asg (.v 1) (.call 8 (.cons (.var 0) (.cons (.int 3) (.cons (.lst false (.cons (.str [97]) (.cons (.str [98]) (.cons (.str [98, 111, 120]) (.cons (.str [110]) (.cons (.str [116]) .nil)))))) .nil)))))
 (.cons (.ite (.cmp .eq (.bin .mod (.idx (.var 0) (.int 0)) (.int 8)) (.int 5)) (.cons (.asg (.v 1) (.tup (.cons (.str [114, 101, 99, 111, 114, 100]) (.cons (.bin .add (.idx (.var 1) (.int 1)) (.tup (.cons (.tup (.cons (.str [117]) (.cons (.call 7 (.cons (.var 0) .nil)) .nil))) (.cons (.tup (.cons (.str [119]) (.cons (.call 7 (.cons (.var 0) .nil)) .nil))) .nil)))) .nil))))
 .nil) .nil)
 (.cons (.ret (.var 1))
 .nil)))
def f__law_shape : Df := ⟨⟨("_law_shape", none), "_law_shape", "_law_shape", defArgs (top 21), defBody (top 21), defScope (top 21), [], []⟩, ["row"], ["row", "shape"], b__law_shape⟩
theorem d__law_shape : Bd f__law_shape := fun K f fd F => F.bindsN fun _ _ _ _ _ _ us hl => match us, hl with | [_], _ => rfl
def b__law_ways : Stms :=
 (.cons (.asg (.v 2) (.lst false (.cons (.tup (.cons (.var 1) (.cons (.var 0) .nil))) .nil)))
 (.cons (.ite (.cmp .eq (.idx (.var 0) (.int 0)) (.str [114, 101, 99, 111, 114, 100])) (.cons (.for_ (.t [3, 4]) (.e (.idx (.var 0) (.int 1))) (.cons (.asg (.v 2) (.bin .add (.var 2) (.call 12 (.cons (.var 4) (.cons (.bin .add (.var 1) (.tup (.cons (.var 3) .nil))) .nil)))))
 .nil))
 .nil) .nil)
 (.cons (.ite (.cmp .eq (.idx (.var 0) (.int 0)) (.str [108, 105, 115, 116])) (.cons (.asg (.v 2) (.bin .add (.var 2) (.call 12 (.cons (.idx (.var 0) (.int 1)) (.cons (.bin .add (.var 1) (.tup (.cons (.str [101, 97, 99, 104]) .nil))) .nil)))))
 .nil) .nil)
 (.cons (.ite (.cmp .eq (.idx (.var 0) (.int 0)) (.str [114, 111, 119, 115])) (.cons (.asg (.v 2) (.bin .add (.var 2) (.call 12 (.cons (.idx (.var 0) (.int 2)) (.cons (.bin .add (.var 1) (.tup (.cons (.str [101, 97, 99, 104]) .nil))) .nil)))))
 .nil) .nil)
 (.cons (.ret (.var 2))
 .nil)))))
def f__law_ways : Df := ⟨⟨("_law_ways", none), "_law_ways", "_law_ways", defArgs (top 22), defBody (top 22), defScope (top 22), [], []⟩, ["kind", "path"], ["kind", "path", "found", "name", "one"], b__law_ways⟩
theorem d__law_ways : Bd f__law_ways := fun K f fd F => F.bindsN fun _ _ _ _ _ _ us hl => match us, hl with | [_, _], _ => rfl
def b__law_refused : Stms :=
 (.cons (.asg (.v 2) (.lst false .nil))
 (.cons (.try_ (.cons (.exp (.call 3 (.cons (.var 0) (.cons (.var 1) .nil))))
 .nil) (.cons [true] (some 3) (.cons (.asg (.v 2) (.lst false (.cons (.isE 3 [true]) (.cons (.isE 3 [true]) (.cons (.isE 3 [false]) (.cons (.isE 3 [false]) .nil))))))
 .nil) .nil) .nil)
 (.cons (.ret (.cmp .eq (.var 2) (.lst false (.cons (.bl true) (.cons (.bl true) (.cons (.bl false) (.cons (.bl false) .nil)))))))
 .nil)))
def f__law_refused : Df := ⟨⟨("_law_refused", none), "_law_refused", "_law_refused", defArgs (top 23), defBody (top 23), defScope (top 23), [], []⟩, ["kind", "path"], ["kind", "path", "signs", "e"], b__law_refused⟩
theorem d__law_refused : Bd f__law_refused := fun K f fd F => F.bindsN fun _ _ _ _ _ _ us hl => match us, hl with | [_, _], _ => rfl
def b__law_led : Stms :=
 (.cons (.for_ (.v 2) (.e (.var 1)) (.cons (.ite (.and (.cmp .eq (.var 2) (.str [101, 97, 99, 104])) (.cmp .eq (.idx (.var 0) (.int 0)) (.str [108, 105, 115, 116]))) (.cons (.asg (.v 0) (.idx (.var 0) (.int 1)))
 .nil) (.cons (.ite (.and (.cmp .eq (.var 2) (.str [101, 97, 99, 104])) (.cmp .eq (.idx (.var 0) (.int 0)) (.str [114, 111, 119, 115]))) (.cons (.asg (.v 0) (.idx (.var 0) (.int 2)))
 .nil) (.cons (.ite (.and (.cmp .eq (.idx (.var 0) (.int 0)) (.str [114, 101, 99, 111, 114, 100])) (.cmp .isin (.var 2) (.b1 .dict false (.idx (.var 0) (.int 1))))) (.cons (.asg (.v 0) (.idx (.b1 .dict false (.idx (.var 0) (.int 1))) (.var 2)))
 .nil) (.cons (.ret .non)
 .nil))
 .nil))
 .nil))
 .nil))
 (.cons (.ret (.var 0))
 .nil))
def f__law_led : Df := ⟨⟨("_law_led", none), "_law_led", "_law_led", defArgs (top 24), defBody (top 24), defScope (top 24), [], []⟩, ["kind", "path"], ["kind", "path", "turned_to"], b__law_led⟩
theorem d__law_led : Bd f__law_led := fun K f fd F => F.bindsN fun _ _ _ _ _ _ us hl => match us, hl with | [_, _], _ => rfl
def b__law_odd : Stms :=
 (.cons (.asg (.v 2) (.idx (.lst false (.cons (.str [101, 97, 99, 104]) (.cons (.str [97]) (.cons (.str [98]) (.cons (.str [122, 122]) (.cons (.str []) (.cons (.str [105, 100]) (.cons (.str [65]) (.cons (.str [116]) .nil))))))))) (.call 6 (.cons (.var 1) (.cons (.int 8) .nil)))))
 (.cons (.asg (.v 3) (.call 6 (.cons (.var 1) (.cons (.bin .add (.b1 .len false (.var 0)) (.int 1)) .nil))))
 (.cons (.asg (.v 4) (.call 6 (.cons (.var 1) (.cons (.int 4) .nil))))
 (.cons (.ite (.cmp .eq (.var 4) (.int 0)) (.cons (.ret (.bin .add (.bin .add (.slc (.var 0) .none (.some (.var 3))) (.tup (.cons (.var 2) .nil))) (.slc (.var 0) (.some (.var 3)) .none)))
 .nil) .nil)
 (.cons (.ite (.cmp .eq (.var 4) (.int 1)) (.cons (.ret (.bin .add (.bin .add (.slc (.var 0) .none (.some (.var 3))) (.tup (.cons (.var 2) .nil))) (.slc (.var 0) (.some (.bin .add (.var 3) (.int 1))) .none)))
 .nil) .nil)
 (.cons (.ite (.cmp .eq (.var 4) (.int 2)) (.cons (.ret (.bin .add (.slc (.var 0) .none (.some (.var 3))) (.slc (.var 0) (.some (.bin .add (.var 3) (.int 1))) .none)))
 .nil) .nil)
 (.cons (.ret (.slc (.bin .add (.var 0) (.bin .mul (.tup (.cons (.var 2) .nil)) (.int 9))) .none (.some (.int 9))))
 .nil)))))))
def f__law_odd : Df := ⟨⟨("_law_odd", none), "_law_odd", "_law_odd", defArgs (top 25), defBody (top 25), defScope (top 25), [], []⟩, ["path", "row"], ["path", "row", "turned_to", "at", "way"], b__law_odd⟩
theorem d__law_odd : Bd f__law_odd := fun K f fd F => F.bindsN fun _ _ _ _ _ _ us hl => match us, hl with | [_, _], _ => rfl
def b_law : Stms :=
 (.cons (.for_ (.v 1) (.rng (.cons (.int 3) .nil)) (.cons (.asg (.v 2) (.call 5 (.cons (.var 0) (.cons (.var 1) .nil))))
 (.cons (.asg (.v 3) (.call 11 (.cons (.var 2) .nil)))
 (.cons (.for_ (.t [4, 5]) (.e (.call 12 (.cons (.var 3) (.cons (.tup .nil) .nil)))) (.cons (.ite (.cmp .ne (.call 3 (.cons (.var 3) (.cons (.var 4) .nil))) (.var 5)) (.cons (.ret (.bl false))
 .nil) .nil)
 (.cons (.asg (.v 6) (.call 15 (.cons (.var 4) (.cons (.var 2) .nil))))
 (.cons (.asg (.v 7) (.call 14 (.cons (.var 3) (.cons (.var 6) .nil))))
 (.cons (.ite (.cmp .gt (.b1 .len false (.var 6)) (.int 8)) (.cons (.asg (.v 7) .non)
 .nil) .nil)
 (.cons (.ite (.or (.and (.cmp .is (.var 7) .non) (.not (.tr (.call 13 (.cons (.var 3) (.cons (.var 6) .nil)))))) (.and (.cmp .isnot (.var 7) .non) (.cmp .ne (.call 3 (.cons (.var 3) (.cons (.var 6) .nil))) (.var 7)))) (.cons (.ret (.bl false))
 .nil) .nil)
 .nil))))))
 .nil))))
 (.cons (.ret (.bl true))
 .nil))
def f_law : Df := ⟨⟨("law", none), "law", "law", defArgs (top 26), defBody (top 26), defScope (top 26), [], []⟩, ["script"], ["script", "k", "row", "shape", "path", "kind", "odd", "due"], b_law⟩
theorem d_law : Bd f_law := fun K f fd F => F.bindsN fun _ _ _ _ _ _ us hl => match us, hl with | [_], _ => rfl
def L : List Df := [f_field_kind, f_kind_of_items, f_kind_one_on, f_kind_at, f__law_mixed, f__law_stream, f__law_digit, f__law_leaf, f__law_record, f__law_rows, f__law_kind, f__law_shape, f__law_ways, f__law_refused, f__law_led, f__law_odd, f_law]
def T : Tb := ⟨[], [("EACH", (.str [101, 97, 99, 104])), ("MOST_STEPS", (.int 8))], [("field_kind", 2), ("kind_of_items", 1), ("kind_one_on", 2), ("kind_at", 2), ("_law_mixed", 2), ("_law_stream", 2), ("_law_digit", 2), ("_law_leaf", 1), ("_law_record", 3), ("_law_rows", 2), ("_law_kind", 2), ("_law_shape", 1), ("_law_ways", 2), ("_law_refused", 2), ("_law_led", 2), ("_law_odd", 2), ("law", 1)], ["len", "range", "min", "tuple", "isinstance", "ValueError", "dict"], ["BadPath"], [("HandError", [true]), ("BadValue", [false]), ("BadKind", [false]), ("ValueError", [true]), ("BadPath", [true])], true, true⟩
def fs : List Fn := L.map Df.fn
theorem c_field_kind (k : Nat) (st : Store) (a0 a1 : Va) : callM fs (k + 1) 0 [a0, a1] st = exitV st.length (evSs (callM fs k) b_field_kind [some a0, some a1, none, none] st) := rfl
theorem c_kind_of_items (k : Nat) (st : Store) (a0 : Va) : callM fs (k + 1) 1 [a0] st = exitV st.length (evSs (callM fs k) b_kind_of_items [some a0] st) := rfl
theorem c_kind_one_on (k : Nat) (st : Store) (a0 a1 : Va) : callM fs (k + 1) 2 [a0, a1] st = exitV st.length (evSs (callM fs k) b_kind_one_on [some a0, some a1, none] st) := rfl
theorem c_kind_at (k : Nat) (st : Store) (a0 a1 : Va) : callM fs (k + 1) 3 [a0, a1] st = exitV st.length (evSs (callM fs k) b_kind_at [some a0, some a1, none] st) := rfl
theorem c__law_mixed (k : Nat) (st : Store) (a0 a1 : Va) : callM fs (k + 1) 4 [a0, a1] st = exitV st.length (evSs (callM fs k) b__law_mixed [some a0, some a1, none] st) := rfl
theorem c__law_stream (k : Nat) (st : Store) (a0 a1 : Va) : callM fs (k + 1) 5 [a0, a1] st = exitV st.length (evSs (callM fs k) b__law_stream [some a0, some a1, none, none, none] st) := rfl
theorem c__law_digit (k : Nat) (st : Store) (a0 a1 : Va) : callM fs (k + 1) 6 [a0, a1] st = exitV st.length (evSs (callM fs k) b__law_digit [some a0, some a1, none] st) := rfl
theorem c__law_leaf (k : Nat) (st : Store) (a0 : Va) : callM fs (k + 1) 7 [a0] st = exitV st.length (evSs (callM fs k) b__law_leaf [some a0, none, none] st) := rfl
theorem c__law_record (k : Nat) (st : Store) (a0 a1 a2 : Va) : callM fs (k + 1) 8 [a0, a1, a2] st = exitV st.length (evSs (callM fs k) b__law_record [some a0, some a1, some a2, none, none] st) := rfl
theorem c__law_rows (k : Nat) (st : Store) (a0 a1 : Va) : callM fs (k + 1) 9 [a0, a1] st = exitV st.length (evSs (callM fs k) b__law_rows [some a0, some a1, none, none, none] st) := rfl
theorem c__law_kind (k : Nat) (st : Store) (a0 a1 : Va) : callM fs (k + 1) 10 [a0, a1] st = exitV st.length (evSs (callM fs k) b__law_kind [some a0, some a1, none] st) := rfl
theorem c__law_shape (k : Nat) (st : Store) (a0 : Va) : callM fs (k + 1) 11 [a0] st = exitV st.length (evSs (callM fs k) b__law_shape [some a0, none] st) := rfl
theorem c__law_ways (k : Nat) (st : Store) (a0 a1 : Va) : callM fs (k + 1) 12 [a0, a1] st = exitV st.length (evSs (callM fs k) b__law_ways [some a0, some a1, none, none, none] st) := rfl
theorem c__law_refused (k : Nat) (st : Store) (a0 a1 : Va) : callM fs (k + 1) 13 [a0, a1] st = exitV st.length (evSs (callM fs k) b__law_refused [some a0, some a1, none, none] st) := rfl
theorem c__law_led (k : Nat) (st : Store) (a0 a1 : Va) : callM fs (k + 1) 14 [a0, a1] st = exitV st.length (evSs (callM fs k) b__law_led [some a0, some a1, none] st) := rfl
theorem c__law_odd (k : Nat) (st : Store) (a0 a1 : Va) : callM fs (k + 1) 15 [a0, a1] st = exitV st.length (evSs (callM fs k) b__law_odd [some a0, some a1, none, none, none] st) := rfl
theorem c_law (k : Nat) (st : Store) (a0 : Va) : callM fs (k + 1) 16 [a0] st = exitV st.length (evSs (callM fs k) b_law [some a0, none, none, none, none, none, none, none] st) := rfl
theorem hL : L.all (Df.B T) = true := by kernel_rfl
theorem hB : ∀ df ∈ L, Bd df := List.forall_mem_cons.mpr ⟨d_field_kind, List.forall_mem_cons.mpr ⟨d_kind_of_items, List.forall_mem_cons.mpr ⟨d_kind_one_on, List.forall_mem_cons.mpr ⟨d_kind_at, List.forall_mem_cons.mpr ⟨d__law_mixed, List.forall_mem_cons.mpr ⟨d__law_stream, List.forall_mem_cons.mpr ⟨d__law_digit, List.forall_mem_cons.mpr ⟨d__law_leaf, List.forall_mem_cons.mpr ⟨d__law_record, List.forall_mem_cons.mpr ⟨d__law_rows, List.forall_mem_cons.mpr ⟨d__law_kind, List.forall_mem_cons.mpr ⟨d__law_shape, List.forall_mem_cons.mpr ⟨d__law_ways, List.forall_mem_cons.mpr ⟨d__law_refused, List.forall_mem_cons.mpr ⟨d__law_led, List.forall_mem_cons.mpr ⟨d__law_odd, List.forall_mem_cons.mpr ⟨d_law, fun _ h => nomatch h⟩⟩⟩⟩⟩⟩⟩⟩⟩⟩⟩⟩⟩⟩⟩⟩⟩
abbrev R : PySem.W.OpenRow := PySem.W.OpenLaw.row PySem.Challenge.rw_oldhands_k08_kinds_at_paths
abbrev hk : PySem.W.Hook := He.hookX 4 (faOf T) (L.map (·.d)) [] [] (exqB T)
def ob (s : PySem.W.SharedT) : He.AlX := He.obsX 4 (faOf T) (L.map (·.d)) [] [] (exqB T) (HandSHeadRun.getT s)
theorem ob_eq (s : PySem.W.SharedT) : ob s = hk.obs s.abs := He.obsX_eq (HandSHeadRun.getT_eq s)
def lo : List Str := ["HandError", "BadKind", "BadValue", "BadPath", "field_kind", "EACH", "MOST_STEPS", "kind_of_items", "kind_one_on", "kind_at", "_law_mixed", "_law_stream", "_law_digit", "_law_leaf", "_law_record", "_law_rows", "_law_kind", "_law_shape", "_law_ways", "_law_refused", "_law_led", "_law_odd"]
theorem run (w : World) : HandSHeadRun.RunEq R (PySem.W.view R.prog [26]) hk ob 4000 lo w := by
  intro os
  kernel_rfl
def law_i : Nat := 16
end Lw
namespace Lw
open Ev
theorem i_fk : fs[0]? = some ⟨2, 4, B_field_kind⟩ := rfl
theorem i_of : fs[1]? = some ⟨1, 1, B_kind_of_items 0⟩ := rfl
theorem i_on : fs[2]? = some ⟨2, 3, B_kind_one_on 1 0 0 0⟩ := rfl
theorem i_at : fs[3]? = some ⟨2, 3, B_kind_at 2 1 0⟩ := rfl
theorem i_mx : fs[4]? = some ⟨2, 3, B_mixed⟩ := rfl
theorem i_st : fs[5]? = some ⟨2, 5, B_stream 4⟩ := rfl
theorem i_dg : fs[6]? = some ⟨2, 3, B_digit⟩ := rfl
theorem i_lf : fs[7]? = some ⟨1, 3, B_law_leaf 6⟩ := rfl
theorem i_rc : fs[8]? = some ⟨3, 5, B_law_record 6 10⟩ := rfl
theorem i_rw : fs[9]? = some ⟨2, 5, B_law_rows 8 6⟩ := rfl
theorem i_kd : fs[10]? = some ⟨2, 3, B_law_kind 6 7 10 9 8⟩ := rfl
theorem i_sh : fs[11]? = some ⟨1, 2, B_law_shape 8 7⟩ := rfl
theorem i_wy : fs[12]? = some ⟨2, 5, B_law_ways 12⟩ := rfl
theorem i_ld : fs[14]? = some ⟨2, 3, B_law_led⟩ := rfl
theorem i_od : fs[15]? = some ⟨2, 5, B_law_odd 6⟩ := rfl
theorem at_ok (k : Nat) {st : Store} (kd : Kd) (p : Pth) : callM fs (k + 3) 3 [.d kd.d, .d (pD p)] st = onRes 0 st (if 8 < p.length then none else kd.go p) := kind_at_ok i_at i_on i_of i_fk k kd p
theorem refused_ok (k : Nat) {st : Store} {kd : Kd} {p : Pth} (h : (if 8 < p.length then none else kd.go p) = none) : callM fs (k + 4) 13 [.d kd.d, .d (pD p)] st = .ok (.d (.bl true)) st := by
  have e := at_ok k (st := st) kd p
  rw [h] at e
  rw [c__law_refused]
  unfold b__law_refused
  simp (decide := true) only [q_nx, q_rt, q_er, s1_ok, s1_er, p_nil, p_cons, p_asg, p_asgK, p_par, p_put, p_put1, p_put2, p_exp, p_expK, p_ret, p_retK, p_retN, p_pas, p_ite, p_ite_t, p_ite_f, p_for, p_forK, p_whl, e1_ok, e1_er, e2_ok, x_var, x_varR, x_gl, x_non, x_bl, x_int, x_str, x_bin, x_binK, x_neg, x_negK, x_not, x_notK, x_cmp, x_cmpK, x_cmp2, x_k21, x_k22, x_k23t, x_k23f, x_and, x_or, x_andT, x_andF, x_orT, x_orF, x_ife, x_ifeT, x_ifeF, x_tup, x_lst, x_idx, x_idxK, x_slc, x_slc1, x_slc2, x_slc3, x_on, x_os, x_intV, x_b1, x_b1K, x_b2, x_b2K, x_isi, x_isiK, x_call, x_comp, x_compK, x_kLst, x_mth, x_fz, x_fzd, x_lnil, x_lcons, x_lK, x_lK2, x_qn, x_qs, t_trE, t_trK, t_cmpE, t_cmpK, t_cmp2E, t_t21, t_t22, t_t23t, t_t23f, t_notE, t_notK, t_andE, t_andT, t_andF, t_orE, t_orT, t_orF, i_eE, i_strK, i_lstK, i_tupK, i_rngE, i_enuE, i_enuK, i_revE, i_zipE, i_zipL, i_zipT, v_some, b_some, b_some', List.getElem?_cons_zero, List.getElem?_cons_succ, List.set_cons_zero, List.set_cons_succ, okR_ok, okS_nx, okS_rt, o_add, o_sub, o_mod, o_div, o_mulR, o_mulL, o_pow, b_lenL, b_lenT, b_lenS, b_sum, b_min, b_max, mkO_f, mk_f, mk_t, ds_nil, ds_cons, ds_consO, lstV_of, lstV_ofK, tupV_of, tupV_ofK, exit_new, c_eq, c_ne, c_lt, c_gt, c_le, c_ge, c_eqs, exit_d, take_self, if_true, if_false, Bool.false_eq_true, Bool.true_eq_false, Bool.not_true, Bool.not_false, Int.reduceToNat, Int.reducePow, wk_rng, slc_s, slc_l, slc_t, idx_l, idx_t, c_ins, c_isb, c_nebb, c_eqbb, isi_bl, wipeE, List.foldl_cons, List.foldl_nil, bindT_v, truD, dec_t, dec_f, p_rse, p_try, tr_nx, tr_rt, tr_er, h_nil, h_cons, h_rse, h_t0, h_tS, h_f, hr_t, hr_f, no_nx, no_rt, un_nx, un_rt, x_isE, x_isEV, b_tupL, exit_er, Nat.reduceMul, Nat.reduceDiv, Nat.reduceAdd, Nat.reduceMod, e, onRes]
  rw [exq_of (r := .nx [some (.d kd.d), some (.d (pD p)), some (.d (.lst [.bl true, .bl true, .bl false, .bl false])), none] st) fun a => by simp (decide := true) only [q_nx, q_rt, q_er, s1_ok, s1_er, p_nil, p_cons, p_asg, p_asgK, p_par, p_put, p_put1, p_put2, p_exp, p_expK, p_ret, p_retK, p_retN, p_pas, p_ite, p_ite_t, p_ite_f, p_for, p_forK, p_whl, e1_ok, e1_er, e2_ok, x_var, x_varR, x_gl, x_non, x_bl, x_int, x_str, x_bin, x_binK, x_neg, x_negK, x_not, x_notK, x_cmp, x_cmpK, x_cmp2, x_k21, x_k22, x_k23t, x_k23f, x_and, x_or, x_andT, x_andF, x_orT, x_orF, x_ife, x_ifeT, x_ifeF, x_tup, x_lst, x_idx, x_idxK, x_slc, x_slc1, x_slc2, x_slc3, x_on, x_os, x_intV, x_b1, x_b1K, x_b2, x_b2K, x_isi, x_isiK, x_call, x_comp, x_compK, x_kLst, x_mth, x_fz, x_fzd, x_lnil, x_lcons, x_lK, x_lK2, x_qn, x_qs, t_trE, t_trK, t_cmpE, t_cmpK, t_cmp2E, t_t21, t_t22, t_t23t, t_t23f, t_notE, t_notK, t_andE, t_andT, t_andF, t_orE, t_orT, t_orF, i_eE, i_strK, i_lstK, i_tupK, i_rngE, i_enuE, i_enuK, i_revE, i_zipE, i_zipL, i_zipT, v_some, b_some, b_some', List.getElem?_cons_zero, List.getElem?_cons_succ, List.set_cons_zero, List.set_cons_succ, okR_ok, okS_nx, okS_rt, o_add, o_sub, o_mod, o_div, o_mulR, o_mulL, o_pow, b_lenL, b_lenT, b_lenS, b_sum, b_min, b_max, mkO_f, mk_f, mk_t, ds_nil, ds_cons, ds_consO, lstV_of, lstV_ofK, tupV_of, tupV_ofK, exit_new, c_eq, c_ne, c_lt, c_gt, c_le, c_ge, c_eqs, exit_d, take_self, if_true, if_false, Bool.false_eq_true, Bool.true_eq_false, Bool.not_true, Bool.not_false, Int.reduceToNat, Int.reducePow, wk_rng, slc_s, slc_l, slc_t, idx_l, idx_t, c_ins, c_isb, c_nebb, c_eqbb, isi_bl, wipeE, List.foldl_cons, List.foldl_nil, bindT_v, truD, dec_t, dec_f, p_rse, p_try, tr_nx, tr_rt, tr_er, h_nil, h_cons, h_rse, h_t0, h_tS, h_f, hr_t, hr_f, no_nx, no_rt, un_nx, un_rt, x_isE, x_isEV, b_tupL, exit_er, Nat.reduceMul, Nat.reduceDiv, Nat.reduceAdd, Nat.reduceMod]]
  simp (decide := true) only [q_nx, q_rt, q_er, s1_ok, s1_er, p_nil, p_cons, p_asg, p_asgK, p_par, p_put, p_put1, p_put2, p_exp, p_expK, p_ret, p_retK, p_retN, p_pas, p_ite, p_ite_t, p_ite_f, p_for, p_forK, p_whl, e1_ok, e1_er, e2_ok, x_var, x_varR, x_gl, x_non, x_bl, x_int, x_str, x_bin, x_binK, x_neg, x_negK, x_not, x_notK, x_cmp, x_cmpK, x_cmp2, x_k21, x_k22, x_k23t, x_k23f, x_and, x_or, x_andT, x_andF, x_orT, x_orF, x_ife, x_ifeT, x_ifeF, x_tup, x_lst, x_idx, x_idxK, x_slc, x_slc1, x_slc2, x_slc3, x_on, x_os, x_intV, x_b1, x_b1K, x_b2, x_b2K, x_isi, x_isiK, x_call, x_comp, x_compK, x_kLst, x_mth, x_fz, x_fzd, x_lnil, x_lcons, x_lK, x_lK2, x_qn, x_qs, t_trE, t_trK, t_cmpE, t_cmpK, t_cmp2E, t_t21, t_t22, t_t23t, t_t23f, t_notE, t_notK, t_andE, t_andT, t_andF, t_orE, t_orT, t_orF, i_eE, i_strK, i_lstK, i_tupK, i_rngE, i_enuE, i_enuK, i_revE, i_zipE, i_zipL, i_zipT, v_some, b_some, b_some', List.getElem?_cons_zero, List.getElem?_cons_succ, List.set_cons_zero, List.set_cons_succ, okR_ok, okS_nx, okS_rt, o_add, o_sub, o_mod, o_div, o_mulR, o_mulL, o_pow, b_lenL, b_lenT, b_lenS, b_sum, b_min, b_max, mkO_f, mk_f, mk_t, ds_nil, ds_cons, ds_consO, lstV_of, lstV_ofK, tupV_of, tupV_ofK, exit_new, c_eq, c_ne, c_lt, c_gt, c_le, c_ge, c_eqs, exit_d, take_self, if_true, if_false, Bool.false_eq_true, Bool.true_eq_false, Bool.not_true, Bool.not_false, Int.reduceToNat, Int.reducePow, wk_rng, slc_s, slc_l, slc_t, idx_l, idx_t, c_ins, c_isb, c_nebb, c_eqbb, isi_bl, wipeE, List.foldl_cons, List.foldl_nil, bindT_v, truD, dec_t, dec_f, p_rse, p_try, tr_nx, tr_rt, tr_er, h_nil, h_cons, h_rse, h_t0, h_tS, h_f, hr_t, hr_f, no_nx, no_rt, un_nx, un_rt, x_isE, x_isEV, b_tupL, exit_er, Nat.reduceMul, Nat.reduceDiv, Nat.reduceAdd, Nat.reduceMod, c_eq_self (show (D.lst [.bl true, .bl true, .bl false, .bl false]).flat = true from rfl) (by decide)]
theorem law_true (ns : List Int) (h : ns.length ≤ 63) : callM fs 20 law_i [.d (.lst (ns.map D.int))] [] = .ok (.d (.bl true)) [] := by
  have key : okR (callM fs 20 16 [.d (.lst (ns.map D.int))] []) fun va st' => va = .d (.bl true) ∧ st' = [] := by
    rw [c_law]; unfold b_law
    refine okR_exit ?_
    simp (decide := true) only [q_nx, q_rt, q_er, s1_ok, s1_er, p_nil, p_cons, p_asg, p_asgK, p_par, p_put, p_put1, p_put2, p_exp, p_expK, p_ret, p_retK, p_retN, p_pas, p_ite, p_ite_t, p_ite_f, p_for, p_forK, p_whl, e1_ok, e1_er, e2_ok, x_var, x_varR, x_gl, x_non, x_bl, x_int, x_str, x_bin, x_binK, x_neg, x_negK, x_not, x_notK, x_cmp, x_cmpK, x_cmp2, x_k21, x_k22, x_k23t, x_k23f, x_and, x_or, x_andT, x_andF, x_orT, x_orF, x_ife, x_ifeT, x_ifeF, x_tup, x_lst, x_idx, x_idxK, x_slc, x_slc1, x_slc2, x_slc3, x_on, x_os, x_intV, x_b1, x_b1K, x_b2, x_b2K, x_isi, x_isiK, x_call, x_comp, x_compK, x_kLst, x_mth, x_fz, x_fzd, x_lnil, x_lcons, x_lK, x_lK2, x_qn, x_qs, t_trE, t_trK, t_cmpE, t_cmpK, t_cmp2E, t_t21, t_t22, t_t23t, t_t23f, t_notE, t_notK, t_andE, t_andT, t_andF, t_orE, t_orT, t_orF, i_eE, i_strK, i_lstK, i_tupK, i_rngE, i_enuE, i_enuK, i_revE, i_zipE, i_zipL, i_zipT, v_some, b_some, b_some', List.getElem?_cons_zero, List.getElem?_cons_succ, List.set_cons_zero, List.set_cons_succ, okR_ok, okS_nx, okS_rt, o_add, o_sub, o_mod, o_div, o_mulR, o_mulL, o_pow, b_lenL, b_lenT, b_lenS, b_sum, b_min, b_max, mkO_f, mk_f, mk_t, ds_nil, ds_cons, ds_consO, lstV_of, lstV_ofK, tupV_of, tupV_ofK, exit_new, c_eq, c_ne, c_lt, c_gt, c_le, c_ge, c_eqs, exit_d, take_self, if_true, if_false, Bool.false_eq_true, Bool.true_eq_false, Bool.not_true, Bool.not_false, Int.reduceToNat, Int.reducePow, wk_rng, slc_s, slc_l, slc_t, idx_l, idx_t, c_ins, c_isb, c_nebb, c_eqbb, isi_bl, wipeE, List.foldl_cons, List.foldl_nil, bindT_v, truD, dec_t, dec_f, p_rse, p_try, tr_nx, tr_rt, tr_er, h_nil, h_cons, h_rse, h_t0, h_tS, h_f, hr_t, hr_f, no_nx, no_rt, un_nx, un_rt, x_isE, x_isEV, b_tupL, exit_er, Nat.reduceMul, Nat.reduceDiv, Nat.reduceAdd, Nat.reduceMod]
    refine okS_seq (for_range (fun _ env s => ∃ x1 x2 x3 x4 x5 x6 x7 : Option Va, env = [some (.d (.lst (ns.map D.int))), x1, x2, x3, x4, x5, x6, x7]) (fun t env s ht h => ?_) ⟨_, _, _, _, _, _, _, rfl⟩) ?_
    · obtain ⟨x1, x2, x3, x4, x5, x6, x7, rfl⟩ := h
      obtain ⟨v, hv⟩ := stream_ok i_st i_mx 17 (st := s) (ns := ns) (j := t) (by omega) (by have : t < 3 := ht; omega)
      have hv : callM fs 19 5 [.d (.lst (ns.map D.int)), .d (.int t)] s = .ok (.r s.length) (sR (s ++ [.lst [.int v]]) s.length v) := by rw [row_new]; exact hv
      have hr : s.length < (s ++ [Ob.lst [.int v]]).length := by rw [List.length_append]; exact Nat.lt_succ_self _
      obtain ⟨f, v1, c1, c2, c3, c4, _⟩ := shape_ok i_dg i_lf i_kd i_rw i_rc i_sh 4 hr v
      have c1 : callM fs 19 11 [.r s.length] (sR (s ++ [.lst [.int v]]) s.length v) = _ := c1
      have hok := Kd.wf_ok c2
      have w1 := fun st => ways_ok i_wy (Kd.rcd f) 19 (st := st) [] (by omega) (by simp only [List.length_nil]; omega) (by omega)
      have w1 : ∀ st, callM fs 19 12 [.d (Kd.rcd f).d, .d (.tup [])] st = _ := w1
      simp (decide := true) only [q_nx, q_rt, q_er, s1_ok, s1_er, p_nil, p_cons, p_asg, p_asgK, p_par, p_put, p_put1, p_put2, p_exp, p_expK, p_ret, p_retK, p_retN, p_pas, p_ite, p_ite_t, p_ite_f, p_for, p_forK, p_whl, e1_ok, e1_er, e2_ok, x_var, x_varR, x_gl, x_non, x_bl, x_int, x_str, x_bin, x_binK, x_neg, x_negK, x_not, x_notK, x_cmp, x_cmpK, x_cmp2, x_k21, x_k22, x_k23t, x_k23f, x_and, x_or, x_andT, x_andF, x_orT, x_orF, x_ife, x_ifeT, x_ifeF, x_tup, x_lst, x_idx, x_idxK, x_slc, x_slc1, x_slc2, x_slc3, x_on, x_os, x_intV, x_b1, x_b1K, x_b2, x_b2K, x_isi, x_isiK, x_call, x_comp, x_compK, x_kLst, x_mth, x_fz, x_fzd, x_lnil, x_lcons, x_lK, x_lK2, x_qn, x_qs, t_trE, t_trK, t_cmpE, t_cmpK, t_cmp2E, t_t21, t_t22, t_t23t, t_t23f, t_notE, t_notK, t_andE, t_andT, t_andF, t_orE, t_orT, t_orF, i_eE, i_strK, i_lstK, i_tupK, i_rngE, i_enuE, i_enuK, i_revE, i_zipE, i_zipL, i_zipT, v_some, b_some, b_some', List.getElem?_cons_zero, List.getElem?_cons_succ, List.set_cons_zero, List.set_cons_succ, okR_ok, okS_nx, okS_rt, o_add, o_sub, o_mod, o_div, o_mulR, o_mulL, o_pow, b_lenL, b_lenT, b_lenS, b_sum, b_min, b_max, mkO_f, mk_f, mk_t, ds_nil, ds_cons, ds_consO, lstV_of, lstV_ofK, tupV_of, tupV_ofK, exit_new, c_eq, c_ne, c_lt, c_gt, c_le, c_ge, c_eqs, exit_d, take_self, if_true, if_false, Bool.false_eq_true, Bool.true_eq_false, Bool.not_true, Bool.not_false, Int.reduceToNat, Int.reducePow, wk_rng, slc_s, slc_l, slc_t, idx_l, idx_t, c_ins, c_isb, c_nebb, c_eqbb, isi_bl, wipeE, List.foldl_cons, List.foldl_nil, bindT_v, truD, dec_t, dec_f, p_rse, p_try, tr_nx, tr_rt, tr_er, h_nil, h_cons, h_rse, h_t0, h_tS, h_f, hr_t, hr_f, no_nx, no_rt, un_nx, un_rt, x_isE, x_isEV, b_tupL, exit_er, Nat.reduceMul, Nat.reduceDiv, Nat.reduceAdd, Nat.reduceMod, hv, c1, w1]
      refine okS_seq (forM_mem (fun x => ∃ q ∈ (Kd.rcd f).ways [], x = wD q) _ (fun _ env s2 => ∃ (u : Int) (y1 y2 y3 y4 : Option Va), s2 = sR (s ++ [Ob.lst [D.int v]]) s.length u ∧ env = [some (.d (.lst (ns.map D.int))), some (.d (.int t)), some (.r s.length), some (.d (Kd.rcd f).d), y1, y2, y3, y4]) (fun q x env s2 _ hx h => ?_) _ 0 _ _ rfl (fun x hx => ?_) ⟨v1, _, _, _, _, rfl, rfl⟩) ?_
      · obtain ⟨q, hq, rfl⟩ := hx
        obtain ⟨u, y1, y2, y3, y4, rfl, rfl⟩ := h
        refine ⟨_, rfl, ?_⟩
        obtain ⟨sp, e1, e2, e3⟩ := Kd.ways_go [] hok q hq
        rw [List.nil_append] at e1
        subst e1
        have hl : ¬ 8 < q.1.length := by omega
        have a1 := at_ok 16 (st := sR (s ++ [.lst [.int v]]) s.length u) (Kd.rcd f) q.1
        rw [if_neg hl, e2] at a1
        have a1 : callM fs 19 3 [.d (Kd.rcd f).d, .d (pD q.1)] (sR (s ++ [.lst [.int v]]) s.length u) = _ := a1
        have dq : q.2.d.depth ≤ 180 := go_flat e2 (by omega)
        obtain ⟨od, u2, o1⟩ := odd_ok i_dg i_od 17 hr u q.1 (by omega)
        have o1 : callM fs 19 15 [.d (pD q.1), .r s.length] (sR (s ++ [.lst [.int v]]) s.length u) = _ := o1
        have l1 := led_ok i_ld 18 (st := sR (s ++ [.lst [.int v]]) s.length u2) (Kd.rcd f) hok od
        have l1 : callM fs 19 14 [.d (Kd.rcd f).d, .d (pD od)] (sR (s ++ [.lst [.int v]]) s.length u2) = _ := l1
        have a2 := at_ok 16 (st := sR (s ++ [.lst [.int v]]) s.length u2) (Kd.rcd f) od
        have a2 : callM fs 19 3 [.d (Kd.rcd f).d, .d (pD od)] (sR (s ++ [.lst [.int v]]) s.length u2) = _ := a2
        simp only [wD]
        simp (decide := true) only [q_nx, q_rt, q_er, s1_ok, s1_er, p_nil, p_cons, p_asg, p_asgK, p_par, p_put, p_put1, p_put2, p_exp, p_expK, p_ret, p_retK, p_retN, p_pas, p_ite, p_ite_t, p_ite_f, p_for, p_forK, p_whl, e1_ok, e1_er, e2_ok, x_var, x_varR, x_gl, x_non, x_bl, x_int, x_str, x_bin, x_binK, x_neg, x_negK, x_not, x_notK, x_cmp, x_cmpK, x_cmp2, x_k21, x_k22, x_k23t, x_k23f, x_and, x_or, x_andT, x_andF, x_orT, x_orF, x_ife, x_ifeT, x_ifeF, x_tup, x_lst, x_idx, x_idxK, x_slc, x_slc1, x_slc2, x_slc3, x_on, x_os, x_intV, x_b1, x_b1K, x_b2, x_b2K, x_isi, x_isiK, x_call, x_comp, x_compK, x_kLst, x_mth, x_fz, x_fzd, x_lnil, x_lcons, x_lK, x_lK2, x_qn, x_qs, t_trE, t_trK, t_cmpE, t_cmpK, t_cmp2E, t_t21, t_t22, t_t23t, t_t23f, t_notE, t_notK, t_andE, t_andT, t_andF, t_orE, t_orT, t_orF, i_eE, i_strK, i_lstK, i_tupK, i_rngE, i_enuE, i_enuK, i_revE, i_zipE, i_zipL, i_zipT, v_some, b_some, b_some', List.getElem?_cons_zero, List.getElem?_cons_succ, List.set_cons_zero, List.set_cons_succ, okR_ok, okS_nx, okS_rt, o_add, o_sub, o_mod, o_div, o_mulR, o_mulL, o_pow, b_lenL, b_lenT, b_lenS, b_sum, b_min, b_max, mkO_f, mk_f, mk_t, ds_nil, ds_cons, ds_consO, lstV_of, lstV_ofK, tupV_of, tupV_ofK, exit_new, c_eq, c_ne, c_lt, c_gt, c_le, c_ge, c_eqs, exit_d, take_self, if_true, if_false, Bool.false_eq_true, Bool.true_eq_false, Bool.not_true, Bool.not_false, Int.reduceToNat, Int.reducePow, wk_rng, slc_s, slc_l, slc_t, idx_l, idx_t, c_ins, c_isb, c_nebb, c_eqbb, isi_bl, wipeE, List.foldl_cons, List.foldl_nil, bindT_v, truD, dec_t, dec_f, p_rse, p_try, tr_nx, tr_rt, tr_er, h_nil, h_cons, h_rse, h_t0, h_tS, h_f, hr_t, hr_f, no_nx, no_rt, un_nx, un_rt, x_isE, x_isEV, b_tupL, exit_er, Nat.reduceMul, Nat.reduceDiv, Nat.reduceAdd, Nat.reduceMod, List.zip_cons_cons, List.zip_nil_right, a1, onRes, c_ne_self (Kd.flat q.2) dq, o1, l1, len_p]
        by_cases hlen : 8 < od.length
        · have hlen' : (8 : Int) < (od.length : Int) := by omega
          have r1 := refused_ok 15 (st := sR (s ++ [.lst [.int v]]) s.length u2) (kd := Kd.rcd f) (p := od) (by rw [if_pos hlen])
          have r1 : callM fs 19 13 [.d (Kd.rcd f).d, .d (pD od)] (sR (s ++ [.lst [.int v]]) s.length u2) = _ := r1
          simp (decide := true) only [q_nx, q_rt, q_er, s1_ok, s1_er, p_nil, p_cons, p_asg, p_asgK, p_par, p_put, p_put1, p_put2, p_exp, p_expK, p_ret, p_retK, p_retN, p_pas, p_ite, p_ite_t, p_ite_f, p_for, p_forK, p_whl, e1_ok, e1_er, e2_ok, x_var, x_varR, x_gl, x_non, x_bl, x_int, x_str, x_bin, x_binK, x_neg, x_negK, x_not, x_notK, x_cmp, x_cmpK, x_cmp2, x_k21, x_k22, x_k23t, x_k23f, x_and, x_or, x_andT, x_andF, x_orT, x_orF, x_ife, x_ifeT, x_ifeF, x_tup, x_lst, x_idx, x_idxK, x_slc, x_slc1, x_slc2, x_slc3, x_on, x_os, x_intV, x_b1, x_b1K, x_b2, x_b2K, x_isi, x_isiK, x_call, x_comp, x_compK, x_kLst, x_mth, x_fz, x_fzd, x_lnil, x_lcons, x_lK, x_lK2, x_qn, x_qs, t_trE, t_trK, t_cmpE, t_cmpK, t_cmp2E, t_t21, t_t22, t_t23t, t_t23f, t_notE, t_notK, t_andE, t_andT, t_andF, t_orE, t_orT, t_orF, i_eE, i_strK, i_lstK, i_tupK, i_rngE, i_enuE, i_enuK, i_revE, i_zipE, i_zipL, i_zipT, v_some, b_some, b_some', List.getElem?_cons_zero, List.getElem?_cons_succ, List.set_cons_zero, List.set_cons_succ, okR_ok, okS_nx, okS_rt, o_add, o_sub, o_mod, o_div, o_mulR, o_mulL, o_pow, b_lenL, b_lenT, b_lenS, b_sum, b_min, b_max, mkO_f, mk_f, mk_t, ds_nil, ds_cons, ds_consO, lstV_of, lstV_ofK, tupV_of, tupV_ofK, exit_new, c_eq, c_ne, c_lt, c_gt, c_le, c_ge, c_eqs, exit_d, take_self, if_true, if_false, Bool.false_eq_true, Bool.true_eq_false, Bool.not_true, Bool.not_false, Int.reduceToNat, Int.reducePow, wk_rng, slc_s, slc_l, slc_t, idx_l, idx_t, c_ins, c_isb, c_nebb, c_eqbb, isi_bl, wipeE, List.foldl_cons, List.foldl_nil, bindT_v, truD, dec_t, dec_f, p_rse, p_try, tr_nx, tr_rt, tr_er, h_nil, h_cons, h_rse, h_t0, h_tS, h_f, hr_t, hr_f, no_nx, no_rt, un_nx, un_rt, x_isE, x_isEV, b_tupL, exit_er, Nat.reduceMul, Nat.reduceDiv, Nat.reduceAdd, Nat.reduceMod, decide_eq_true hlen', nn_is, nn_isnot, r1]
          exact ⟨trivial, _, _, _, _, _, rfl, rfl⟩
        · have hlen' : ¬ (8 : Int) < (od.length : Int) := by omega
          cases hg : (Kd.rcd f).go od with
          | none =>
            have r1 := refused_ok 15 (st := sR (s ++ [.lst [.int v]]) s.length u2) (kd := Kd.rcd f) (p := od) (by rw [if_neg hlen, hg])
            have r1 : callM fs 19 13 [.d (Kd.rcd f).d, .d (pD od)] (sR (s ++ [.lst [.int v]]) s.length u2) = _ := r1
            simp (decide := true) only [q_nx, q_rt, q_er, s1_ok, s1_er, p_nil, p_cons, p_asg, p_asgK, p_par, p_put, p_put1, p_put2, p_exp, p_expK, p_ret, p_retK, p_retN, p_pas, p_ite, p_ite_t, p_ite_f, p_for, p_forK, p_whl, e1_ok, e1_er, e2_ok, x_var, x_varR, x_gl, x_non, x_bl, x_int, x_str, x_bin, x_binK, x_neg, x_negK, x_not, x_notK, x_cmp, x_cmpK, x_cmp2, x_k21, x_k22, x_k23t, x_k23f, x_and, x_or, x_andT, x_andF, x_orT, x_orF, x_ife, x_ifeT, x_ifeF, x_tup, x_lst, x_idx, x_idxK, x_slc, x_slc1, x_slc2, x_slc3, x_on, x_os, x_intV, x_b1, x_b1K, x_b2, x_b2K, x_isi, x_isiK, x_call, x_comp, x_compK, x_kLst, x_mth, x_fz, x_fzd, x_lnil, x_lcons, x_lK, x_lK2, x_qn, x_qs, t_trE, t_trK, t_cmpE, t_cmpK, t_cmp2E, t_t21, t_t22, t_t23t, t_t23f, t_notE, t_notK, t_andE, t_andT, t_andF, t_orE, t_orT, t_orF, i_eE, i_strK, i_lstK, i_tupK, i_rngE, i_enuE, i_enuK, i_revE, i_zipE, i_zipL, i_zipT, v_some, b_some, b_some', List.getElem?_cons_zero, List.getElem?_cons_succ, List.set_cons_zero, List.set_cons_succ, okR_ok, okS_nx, okS_rt, o_add, o_sub, o_mod, o_div, o_mulR, o_mulL, o_pow, b_lenL, b_lenT, b_lenS, b_sum, b_min, b_max, mkO_f, mk_f, mk_t, ds_nil, ds_cons, ds_consO, lstV_of, lstV_ofK, tupV_of, tupV_ofK, exit_new, c_eq, c_ne, c_lt, c_gt, c_le, c_ge, c_eqs, exit_d, take_self, if_true, if_false, Bool.false_eq_true, Bool.true_eq_false, Bool.not_true, Bool.not_false, Int.reduceToNat, Int.reducePow, wk_rng, slc_s, slc_l, slc_t, idx_l, idx_t, c_ins, c_isb, c_nebb, c_eqbb, isi_bl, wipeE, List.foldl_cons, List.foldl_nil, bindT_v, truD, dec_t, dec_f, p_rse, p_try, tr_nx, tr_rt, tr_er, h_nil, h_cons, h_rse, h_t0, h_tS, h_f, hr_t, hr_f, no_nx, no_rt, un_nx, un_rt, x_isE, x_isEV, b_tupL, exit_er, Nat.reduceMul, Nat.reduceDiv, Nat.reduceAdd, Nat.reduceMod, decide_eq_false hlen', optK, nn_is, nn_isnot, r1]
            exact ⟨trivial, _, _, _, _, _, rfl, rfl⟩
          | some j =>
            have dj : j.d.depth ≤ 180 := go_flat hg (by omega)
            rw [if_neg hlen, hg] at a2
            simp (decide := true) only [q_nx, q_rt, q_er, s1_ok, s1_er, p_nil, p_cons, p_asg, p_asgK, p_par, p_put, p_put1, p_put2, p_exp, p_expK, p_ret, p_retK, p_retN, p_pas, p_ite, p_ite_t, p_ite_f, p_for, p_forK, p_whl, e1_ok, e1_er, e2_ok, x_var, x_varR, x_gl, x_non, x_bl, x_int, x_str, x_bin, x_binK, x_neg, x_negK, x_not, x_notK, x_cmp, x_cmpK, x_cmp2, x_k21, x_k22, x_k23t, x_k23f, x_and, x_or, x_andT, x_andF, x_orT, x_orF, x_ife, x_ifeT, x_ifeF, x_tup, x_lst, x_idx, x_idxK, x_slc, x_slc1, x_slc2, x_slc3, x_on, x_os, x_intV, x_b1, x_b1K, x_b2, x_b2K, x_isi, x_isiK, x_call, x_comp, x_compK, x_kLst, x_mth, x_fz, x_fzd, x_lnil, x_lcons, x_lK, x_lK2, x_qn, x_qs, t_trE, t_trK, t_cmpE, t_cmpK, t_cmp2E, t_t21, t_t22, t_t23t, t_t23f, t_notE, t_notK, t_andE, t_andT, t_andF, t_orE, t_orT, t_orF, i_eE, i_strK, i_lstK, i_tupK, i_rngE, i_enuE, i_enuK, i_revE, i_zipE, i_zipL, i_zipT, v_some, b_some, b_some', List.getElem?_cons_zero, List.getElem?_cons_succ, List.set_cons_zero, List.set_cons_succ, okR_ok, okS_nx, okS_rt, o_add, o_sub, o_mod, o_div, o_mulR, o_mulL, o_pow, b_lenL, b_lenT, b_lenS, b_sum, b_min, b_max, mkO_f, mk_f, mk_t, ds_nil, ds_cons, ds_consO, lstV_of, lstV_ofK, tupV_of, tupV_ofK, exit_new, c_eq, c_ne, c_lt, c_gt, c_le, c_ge, c_eqs, exit_d, take_self, if_true, if_false, Bool.false_eq_true, Bool.true_eq_false, Bool.not_true, Bool.not_false, Int.reduceToNat, Int.reducePow, wk_rng, slc_s, slc_l, slc_t, idx_l, idx_t, c_ins, c_isb, c_nebb, c_eqbb, isi_bl, wipeE, List.foldl_cons, List.foldl_nil, bindT_v, truD, dec_t, dec_f, p_rse, p_try, tr_nx, tr_rt, tr_er, h_nil, h_cons, h_rse, h_t0, h_tS, h_f, hr_t, hr_f, no_nx, no_rt, un_nx, un_rt, x_isE, x_isEV, b_tupL, exit_er, Nat.reduceMul, Nat.reduceDiv, Nat.reduceAdd, Nat.reduceMod, decide_eq_false hlen', optK, kd_non, kd_not, a2, onRes, c_ne_self (Kd.flat j) dj]
            exact ⟨trivial, _, _, _, _, _, rfl, rfl⟩
      · obtain ⟨q, hq, rfl⟩ := List.mem_map.mp hx
        exact ⟨q, hq, rfl⟩
      · rintro env s2 ⟨u, y1, y2, y3, y4, rfl, rfl⟩
        simp (decide := true) only [q_nx, q_rt, q_er, s1_ok, s1_er, p_nil, p_cons, p_asg, p_asgK, p_par, p_put, p_put1, p_put2, p_exp, p_expK, p_ret, p_retK, p_retN, p_pas, p_ite, p_ite_t, p_ite_f, p_for, p_forK, p_whl, e1_ok, e1_er, e2_ok, x_var, x_varR, x_gl, x_non, x_bl, x_int, x_str, x_bin, x_binK, x_neg, x_negK, x_not, x_notK, x_cmp, x_cmpK, x_cmp2, x_k21, x_k22, x_k23t, x_k23f, x_and, x_or, x_andT, x_andF, x_orT, x_orF, x_ife, x_ifeT, x_ifeF, x_tup, x_lst, x_idx, x_idxK, x_slc, x_slc1, x_slc2, x_slc3, x_on, x_os, x_intV, x_b1, x_b1K, x_b2, x_b2K, x_isi, x_isiK, x_call, x_comp, x_compK, x_kLst, x_mth, x_fz, x_fzd, x_lnil, x_lcons, x_lK, x_lK2, x_qn, x_qs, t_trE, t_trK, t_cmpE, t_cmpK, t_cmp2E, t_t21, t_t22, t_t23t, t_t23f, t_notE, t_notK, t_andE, t_andT, t_andF, t_orE, t_orT, t_orF, i_eE, i_strK, i_lstK, i_tupK, i_rngE, i_enuE, i_enuK, i_revE, i_zipE, i_zipL, i_zipT, v_some, b_some, b_some', List.getElem?_cons_zero, List.getElem?_cons_succ, List.set_cons_zero, List.set_cons_succ, okR_ok, okS_nx, okS_rt, o_add, o_sub, o_mod, o_div, o_mulR, o_mulL, o_pow, b_lenL, b_lenT, b_lenS, b_sum, b_min, b_max, mkO_f, mk_f, mk_t, ds_nil, ds_cons, ds_consO, lstV_of, lstV_ofK, tupV_of, tupV_ofK, exit_new, c_eq, c_ne, c_lt, c_gt, c_le, c_ge, c_eqs, exit_d, take_self, if_true, if_false, Bool.false_eq_true, Bool.true_eq_false, Bool.not_true, Bool.not_false, Int.reduceToNat, Int.reducePow, wk_rng, slc_s, slc_l, slc_t, idx_l, idx_t, c_ins, c_isb, c_nebb, c_eqbb, isi_bl, wipeE, List.foldl_cons, List.foldl_nil, bindT_v, truD, dec_t, dec_f, p_rse, p_try, tr_nx, tr_rt, tr_er, h_nil, h_cons, h_rse, h_t0, h_tS, h_f, hr_t, hr_f, no_nx, no_rt, un_nx, un_rt, x_isE, x_isEV, b_tupL, exit_er, Nat.reduceMul, Nat.reduceDiv, Nat.reduceAdd, Nat.reduceMod]
        exact ⟨trivial, _, _, _, _, _, _, _, rfl⟩
    · rintro env s ⟨x1, x2, x3, x4, x5, x6, x7, rfl⟩
      simp (decide := true) only [q_nx, q_rt, q_er, s1_ok, s1_er, p_nil, p_cons, p_asg, p_asgK, p_par, p_put, p_put1, p_put2, p_exp, p_expK, p_ret, p_retK, p_retN, p_pas, p_ite, p_ite_t, p_ite_f, p_for, p_forK, p_whl, e1_ok, e1_er, e2_ok, x_var, x_varR, x_gl, x_non, x_bl, x_int, x_str, x_bin, x_binK, x_neg, x_negK, x_not, x_notK, x_cmp, x_cmpK, x_cmp2, x_k21, x_k22, x_k23t, x_k23f, x_and, x_or, x_andT, x_andF, x_orT, x_orF, x_ife, x_ifeT, x_ifeF, x_tup, x_lst, x_idx, x_idxK, x_slc, x_slc1, x_slc2, x_slc3, x_on, x_os, x_intV, x_b1, x_b1K, x_b2, x_b2K, x_isi, x_isiK, x_call, x_comp, x_compK, x_kLst, x_mth, x_fz, x_fzd, x_lnil, x_lcons, x_lK, x_lK2, x_qn, x_qs, t_trE, t_trK, t_cmpE, t_cmpK, t_cmp2E, t_t21, t_t22, t_t23t, t_t23f, t_notE, t_notK, t_andE, t_andT, t_andF, t_orE, t_orT, t_orF, i_eE, i_strK, i_lstK, i_tupK, i_rngE, i_enuE, i_enuK, i_revE, i_zipE, i_zipL, i_zipT, v_some, b_some, b_some', List.getElem?_cons_zero, List.getElem?_cons_succ, List.set_cons_zero, List.set_cons_succ, okR_ok, okS_nx, okS_rt, o_add, o_sub, o_mod, o_div, o_mulR, o_mulL, o_pow, b_lenL, b_lenT, b_lenS, b_sum, b_min, b_max, mkO_f, mk_f, mk_t, ds_nil, ds_cons, ds_consO, lstV_of, lstV_ofK, tupV_of, tupV_ofK, exit_new, c_eq, c_ne, c_lt, c_gt, c_le, c_ge, c_eqs, exit_d, take_self, if_true, if_false, Bool.false_eq_true, Bool.true_eq_false, Bool.not_true, Bool.not_false, Int.reduceToNat, Int.reducePow, wk_rng, slc_s, slc_l, slc_t, idx_l, idx_t, c_ins, c_isb, c_nebb, c_eqbb, isi_bl, wipeE, List.foldl_cons, List.foldl_nil, bindT_v, truD, dec_t, dec_f, p_rse, p_try, tr_nx, tr_rt, tr_er, h_nil, h_cons, h_rse, h_t0, h_tS, h_f, hr_t, hr_f, no_nx, no_rt, un_nx, un_rt, x_isE, x_isEV, b_tupL, exit_er, Nat.reduceMul, Nat.reduceDiv, Nat.reduceAdd, Nat.reduceMod]
      exact ⟨trivial, List.take_zero⟩
  obtain ⟨va, st', e, rfl, rfl⟩ := key.ex
  exact e
end Lw

namespace Lw
open PySem PySem.Spec PyProof.Rows L2 Ev
theorem facts {w : World} {K : PySem.W.Frag} {h : Heap} {mg : Str → Option Value} {f : Addr} (X : K.In h) (G : h.Ns mainGlobals mg) (hfa : mg ("law" : Str) = some (.ref f)) (c : He.SaysD (faOf T) (L.map (·.d)) K) (cx : exqB T K = true) :
    ∃ fd : FuncData, (∀ (s : Shared) (v : Value), BindsTo s fd ⟨[v], []⟩ [("script", v)]) ∧ ∀ base : Heap, K.In base → base.Ns mainGlobals mg → FnOk PySem.Challenge.pw_oldhands_k08_kinds_at_paths w K mg base (CXA PySem.Challenge.pw_oldhands_k08_kinds_at_paths) 20 f fd ["script"] (spF K T (callM fs 20) law_i 1) := by
  have M := md_of (T := T) (L := L) X G c cx rfl (by decide +kernel) (by decide +kernel) hB
  obtain ⟨fd, F⟩ := c.def_ law_i (d := f_law.d) rfl
  have b := FunD.bindsA (ps := ["script"]) F fun _ _ _ _ _ _ us hl => match us, hl with | [_], _ => rfl
  have hg : mg ("law" : Str) = some (.ref (He.ga K "law")) := He.glo_ok X G (fact_of c (f := .glo "law") (by simp [faOf, T]))
  have e := hfa.symm.trans hg
  cases e
  exact ⟨fd, fun s v => b s [v] rfl, fun base _ _ => fn_cxa (fn_df M hL (20 - 1) (fn_all M hL (20 - 1)) (i := law_i) (df := f_law) rfl F)⟩
end Lw
open PySem PySem.W PySem.Calls PyProof.Rows
theorem PySem.Challenge.cw_oldhands_k08_kinds_at_paths_holds : PySem.Challenge.rw_oldhands_k08_kinds_at_paths.Holds := by
  w_on; o_law
  refine HandSHeadRun.head_any (r := OpenLaw.row PySem.Challenge.rw_oldhands_k08_kinds_at_paths) (q := view (OpenLaw.row PySem.Challenge.rw_oldhands_k08_kinds_at_paths).prog [26]) (H := Lw.hk) (ob := Lw.ob) (M := 4000) (loose := Lw.lo) (d := HandSHeadRun.topDef (OpenLaw.row PySem.Challenge.rw_oldhands_k08_kinds_at_paths).prog 26) (kwd := []) Lw.ob_eq
    (by kernel_rfl) (fun s => by kernel_rfl) Lw.run (by kernel_rfl) (by kernel_rfl) (by kernel_rfl) (by rfl) (by first | assumption | decide +kernel) (by decide +kernel) ⟨rfl, rfl, rfl, rfl, rfl, by decide +kernel⟩ ?hw ?hc
  case hw => w_witness2
  case hc =>
    refine L2.walk_ofE (l := PySem.Challenge.rw_oldhands_k08_kinds_at_paths) (n := 63) (k := 20) (x := "script") (CX := Ev.CXA PySem.Challenge.pw_oldhands_k08_kinds_at_paths) rfl (by decide) (by kernel_rfl) ⟨rfl, by decide, by decide⟩ ?F (fun _ _ _ _ z => Ev.cxa_no z)
    intro w mg fa h Y G hmg0
    obtain ⟨K, KX, c⟩ := Y
    have hmg : mg ("law" : PySem.Str) = some (.ref fa) := by
      have e : (HandSHeadRun.topDef (OpenLaw.row PySem.Challenge.rw_oldhands_k08_kinds_at_paths).prog 26).name = ("law" : PySem.Str) := by kernel_rfl
      rw [← e]
      exact hmg0
    obtain ⟨fd, hb, hF⟩ := Lw.facts (w := w) KX G hmg c.t.d c.more
    exact ⟨K, fd, Ev.spF K Lw.T (Ev.callM Lw.fs 20) Lw.law_i 1, KX, hb, fun H a ns hl _ hS => Ev.law_of (Nat.le_trans hl (by decide)) hS (Lw.law_true ns hl), hF⟩

