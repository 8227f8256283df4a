import PyProof.Rows.All
import Wide.All
import OpenK.AllK
import Wide.FinOn
import HandS.ForMost
import HandS.Deep
import HandS.TupAny
import HandS.Exc
import HandS.CallSlots
import HandS.IsInst
import HandS.SortInts
import HandS.Conv
import HandS.Zip
import HandS.Style
import KE.KSortedM
import HandS.SortRule
import HandS.Flow
import HandS.ListItems
import HandS.Iter
import HandS.Defaults
import HandS.HeadEnd
import KE.KStateDown
import HandS.Ends
import HandS.More
import HandS.Words
import HandS.WordsExc
import HandS.Head0
import HandS.Head1
import HandS.Head2
import HandS.HeadHook1
import HandS.HeadHook2
import HandS.HeadHook4
import PySem.Challenge.RW_stepcovers_k83_whole_told_back_by_all
section
set_option Elab.async false
set_option linter.all false
namespace Ih
open PySem

/-- a value: a reference is a place of the store; fn: a def of the table -/
inductive HV where
  | non | bl (b : Bool) | int (i : Int) | str (s : Str) | ref (n : Nat) | fn (g : Nat)
  deriving DecidableEq, Inhabited
/-- what stands in the store -/
inductive Cel where
  | lst (xs : List HV)
  | tup (xs : List HV)
  | fro (xs : List HV)
  | dic (kvs : List (L2.Key × HV))
  | dead
  deriving DecidableEq, Inhabited
abbrev Hs := List Cel
inductive Res (α : Type) where
  | ok (a : α) (st : Hs)
  | exc (c : Nat) (p : Option HV) (st : Hs)
  | bad
abbrev M (α : Type) := Hs → Res α
def ret {α : Type} (a : α) : M α := fun st => .ok a st
def bad {α : Type} : M α := fun _ => .bad
def Res.andThen {α β : Type} : Res α → (α → Hs → Res β) → Res β
  | .ok a st, f => f a st
  | .exc c p st, _ => .exc c p st
  | .bad, _ => .bad
def bnd {α β : Type} (m : M α) (f : α → M β) : M β := fun st => (m st).andThen fun a st' => f a st'
def alloc (c : Cel) : M HV := fun st => .ok (.ref st.length) (st ++ [c])

inductive Bop where | add | sub | mul | fdv | mod | pow | shl
  deriving DecidableEq
inductive Cop where | eq | ne | lt | le | gt | ge | is | isn | inn | nin
  deriving DecidableEq
inductive Ty where | lst | tup | dic | int | bl | str
  deriving DecidableEq
inductive Bi where | len | abs | int | sum | any | all | list | tuple | sorted | max1 | min1 | max2 | min2 | lrg1 | lrg2 | dict | litm
  deriving DecidableEq
inductive Me where | append | extend | pop0 | popi | items
  deriving DecidableEq
/-- a target -/
inductive Tg where
  | nm (i : Nat)
  | tp (ts : List Tg)
mutual
inductive Ex where
  | var (i : Nat) | non | bl (b : Bool) | int (i : Int) | str (s : Str) | gfn (g : Nat)
  | bin (op : Bop) (a b : Ex) | neg (a : Ex) | nt (a : Ex) | and (a b : Ex) | or (a b : Ex) | ife (c a b : Ex)
  | cmp (op : Cop) (a b : Ex) | cmp2 (o1 o2 : Cop) (a b c : Ex)
  | sub (a i : Ex) | slc (a : Ex) (lo hi : Exo) | rev (a : Ex) | stpL (a : Ex) (lo st : Exo)
  | tup (es : Exs) | lst (es : Exs) | dic0
  | call (g : Nat) (es : Exs) | callK (g : Nat) (es : Exs) (perm : List Nat)
  | bi (b : Bi) (es : Exs) | isi (a : Ex) (ts : List Ty)
  | met (m : Me) (a : Ex) (es : Exs)
  | com (tg : Tg) (it : It) (conds : Exs) (elt : Ex) (own : List Nat)
  | nev
inductive Exs where
  | nil | cons (e : Ex) (es : Exs)
inductive Exo where
  | none | some (e : Ex)
inductive It where
  | seq (e : Ex) | key (i : Nat) | rng1 (a : Ex) | rng2 (a b : Ex) | enm (e : Ex) | zip (a b : Ex)
end
mutual
inductive Sx where
  | ex (e : Ex) | asg (tg : Tg) (e : Ex) | par (i j : Nat) (a b : Ex) | sst (o i e : Ex)
  | ret (e : Ex) | retN | ite (c : Ex) (a b : Sxs) | forE (tg : Tg) (it : It) (b : Sxs) | whl (c : Ex) (b : Sxs) | pas | con | nev
inductive Sxs where
  | nil | cons (s : Sx) (ss : Sxs)
end

mutual
/-- the whole of a value as data -/
def rdD : Nat → Hs → HV → Option PyData
  | 0, _, _ => none
  | n + 1, st, v => match v with
    | .non => some .none
    | .bl b => some (.bool b)
    | .int i => some (.int i)
    | .str s => some (.str s)
    | .ref a => (match st[a]? with
      | some (.lst xs) => (rdDs n st xs).map .list
      | some (.fro xs) => (rdDs n st xs).map .list
      | some (.tup xs) => (rdDs n st xs).map .tuple
      | _ => none)
    | .fn _ => none
def rdDs : Nat → Hs → List HV → Option (List PyData)
  | 0, _, _ => none
  | n + 1, st, xs => match xs with
    | [] => some []
    | x :: r => (match rdD n st x, rdDs n st r with
      | some d, some ds => some (d :: ds)
      | _, _ => none)
end
/-- deep enough for what is shaped -/
def deepN : Nat := 20000000
def rd (st : Hs) (v : HV) : Option PyData := rdD deepN st v
/-- the items of a list or a tuple -/
def seqOf (st : Hs) : HV → Option (List HV)
  | .ref a => (match st[a]? with
    | some (.lst xs) => some xs
    | some (.fro xs) => some xs
    | some (.tup xs) => some xs
    | _ => none)
  | _ => none
def lstOf (st : Hs) : HV → Option (List HV)
  | .ref a => (match st[a]? with
    | some (.lst xs) => some xs
    | some (.fro xs) => some xs
    | _ => none)
  | _ => none
def tupOf (st : Hs) : HV → Option (List HV)
  | .ref a => (match st[a]? with
    | some (.tup xs) => some xs
    | _ => none)
  | _ => none
/-- the items of a list that may be changed -/
def mutOf (st : Hs) : HV → Option (Nat × List HV)
  | .ref a => (match st[a]? with
    | some (.lst xs) => some (a, xs)
    | _ => none)
  | _ => none
def dicOf (st : Hs) : HV → Option (List (L2.Key × HV))
  | .ref a => (match st[a]? with
    | some (.dic kvs) => some kvs
    | _ => none)
  | _ => none
def intsOf : List HV → Option (List Int)
  | [] => some []
  | .int i :: r => (intsOf r).map (i :: ·)
  | _ => none
def blsOf : List HV → Option (List Bool)
  | [] => some []
  | .bl i :: r => (blsOf r).map (i :: ·)
  | _ => none
def tru (st : Hs) : HV → Option Bool
  | .non => some false
  | .bl b => some b
  | .int i => some (i != 0)
  | .str s => if s.length ≤ sizeLine then some ((s.length : Int) != 0) else none
  | .ref a => (match st[a]? with
    | some (.lst xs) => some (!xs.isEmpty)
    | some (.fro xs) => some (!xs.isEmpty)
    | some (.tup xs) => some (!xs.isEmpty)
    | some (.dic kvs) => some (!kvs.isEmpty)
    | _ => none)
  | .fn _ => none
def tyOf (st : Hs) : HV → Option Ty
  | .bl _ => some .bl
  | .int _ => some .int
  | .str _ => some .str
  | .ref a => (match st[a]? with
    | some (.lst _) => some .lst
    | some (.fro _) => some .lst
    | some (.tup _) => some .tup
    | some (.dic _) => some .dic
    | _ => none)
  | _ => none
/-- isinstance: a bool is an int, too -/
def isTy (t : Ty) (T : Ty) : Bool := t = T || (t = .bl && T = .int)
def isiH (st : Hs) (v : HV) (ts : List Ty) : Option Bool := match v with
  | .non => some false
  | _ => (tyOf st v).map fun t => ts.any (isTy t)
def ofO {α : Type} (o : Option α) : M α := fun st => match o with
  | some a => .ok a st
  | none => .bad
def setAt (n : Nat) (c : Cel) : M Unit := fun st => .ok () (st.set n c)

/-- a value that is flat, as data -/
def HV.flat : HV → Option PyData
  | .non => some .none
  | .bl b => some (.bool b)
  | .int i => some (.int i)
  | .str s => some (.str s)
  | _ => none
def flats : List HV → Option (List PyData)
  | [] => some []
  | x :: r => (match x.flat, flats r with
    | some d, some ds => some (d :: ds)
    | _, _ => none)
/-- pairs of ints, as tuples -/
def prsOf (st : Hs) : List HV → Option (List (Int × Int))
  | [] => some []
  | x :: r => (match tupOf st x, prsOf st r with
    | some [.int a, .int b], some ps => some ((a, b) :: ps)
    | _, _ => none)
def cutL {α : Type} (xs : List α) (lo hi : Option Int) : List α := (xs.drop (HT.sIx xs.length 0 lo)).take (HT.sIx xs.length xs.length hi - HT.sIx xs.length 0 lo)
/-- bounds, said so that a reckoning by the kernel stops at once where a number is open -/
def ltZ (i : Int) (n : Nat) : Bool := match i with
  | .ofNat k => Nat.blt k n
  | .negSucc _ => true
def geZ (n : Nat) (i : Int) : Bool := match i with
  | .ofNat _ => true
  | .negSucc k => Nat.blt k n
theorem ltZ_eq {i : Int} {n : Nat} : ltZ i n = decide (i < n) := by
  cases i with
  | ofNat k =>
    show Nat.blt k n = decide ((k : Int) < (n : Int))
    rw [Bool.eq_iff_iff, Nat.blt_eq, decide_eq_true_eq]
    omega
  | negSucc k =>
    show true = decide (Int.negSucc k < (n : Int))
    rw [decide_eq_true (by omega)]
theorem geZ_eq {i : Int} {n : Nat} : geZ n i = decide (-(n : Int) ≤ i) := by
  cases i with
  | ofNat k =>
    show true = decide (-(n : Int) ≤ (k : Int))
    rw [decide_eq_true (by omega)]
  | negSucc k =>
    show Nat.blt k n = decide (-(n : Int) ≤ Int.negSucc k)
    rw [Bool.eq_iff_iff, Nat.blt_eq, decide_eq_true_eq]
    omega
theorem zfd {j : Int} : ltZ j 1073741824 = decide (j < 1073741824) := by rw [ltZ_eq]; rfl
theorem z6 {j : Int} : ltZ j 1000001 = decide (j ≤ 1000000) := by
  rw [ltZ_eq]
  exact decide_eq_decide.mpr (by omega)
theorem zl63 {j : Int} : ltZ j (2 ^ 63) = decide (j < 2 ^ 63) := by rw [ltZ_eq]; rfl
theorem zg63 {j : Int} : geZ (2 ^ 63) j = decide (-(2 ^ 63) ≤ j) := by rw [geZ_eq]; rfl
theorem zl62 {j : Int} : ltZ j (2 ^ 62) = decide (j < 2 ^ 62) := by rw [ltZ_eq]; rfl
theorem zg62 {j : Int} : geZ (2 ^ 62) j = decide (-(2 ^ 62) ≤ j) := by rw [geZ_eq]; rfl
def small64 (i : Int) : Bool := Nat.blt i.natAbs (2 ^ 64)
theorem small64_iff {i : Int} : small64 i = true ↔ -(2 ^ 64) < i ∧ i < 2 ^ 64 := by
  unfold small64
  rw [Nat.blt_eq]
  omega
def binH (op : Bop) (a b : HV) : M HV := fun st => match op, a, b with
  | .add, .int i, .int j => .ok (.int (i + j)) st
  | .sub, .int i, .int j => .ok (.int (i - j)) st
  | .mul, .int i, .int j => if small64 i || small64 j then .ok (.int (i * j)) st else .bad
  | .fdv, .int i, .int j => if decide (0 < j) && ltZ j 1073741824 then .ok (.int (i / j)) st else .bad
  | .mod, .int i, .int j => if decide (0 < j) then .ok (.int (i % j)) st else .bad
  | .pow, .int i, .int j => if decide (0 ≤ j) && (ltZ j 1000001 && decide (i.natAbs < 2 ^ 64)) then .ok (.int (i ^ j.toNat)) st else .bad
  | .shl, .int i, .int j => if decide (0 ≤ j) && (ltZ j 1000001 && decide (i.natAbs < 2 ^ 64)) then .ok (.int (i * 2 ^ j.toNat)) st else .bad
  | .add, a, b => (match mutOf st a, mutOf st b with
    | some (_, xs), some (_, ys) => if xs.length + ys.length ≤ sizeLine then alloc (.lst (xs ++ ys)) st else .bad
    | _, _ => .bad)
  | .mul, a, .int k => (match mutOf st a with
    | some (_, xs) => if geZ (2 ^ 63) k && (ltZ k (2 ^ 63) && decide (xs.length * k.toNat ≤ sizeLine)) then alloc (.lst (List.replicate k.toNat xs).flatten) st else .bad
    | _ => .bad)
  | _, _, _ => .bad
def cmpH (op : Cop) (a b : HV) : M HV := fun st => match op, a, b with
  | .lt, .int i, .int j => .ok (.bl (decide (i < j))) st
  | .le, .int i, .int j => .ok (.bl (decide (i ≤ j))) st
  | .gt, .int i, .int j => .ok (.bl (decide (j < i))) st
  | .ge, .int i, .int j => .ok (.bl (decide (j ≤ i))) st
  | .is, a, .non => .ok (.bl (decide (a = .non))) st
  | .isn, a, .non => .ok (.bl (!decide (a = .non))) st
  | .eq, a, b => (match rd st a, rd st b with
    | some d, some e => if SeqAt.shaped d && SeqAt.shaped e then .ok (.bl (PyData.eqv d e)) st else .bad
    | _, _ => .bad)
  | .ne, a, b => (match rd st a, rd st b with
    | some d, some e => if SeqAt.shaped d && SeqAt.shaped e then .ok (.bl (!PyData.eqv d e)) st else .bad
    | _, _ => .bad)
  | .inn, a, b => (match tupOf st b with
    | some xs => (match a.flat, flats xs with
      | some d, some ds => .ok (.bl (ds.any fun z => PyData.eqv z d)) st
      | _, _ => .bad)
    | none => (match rd st a, rd st b with
      | some d, some (.list ds) => if SeqAt.shaped d && SeqAt.shaped (.list ds) then .ok (.bl (ds.any fun z => PyData.eqv z d)) st else .bad
      | _, _ => .bad))
  | .nin, a, b => (match tupOf st b with
    | some xs => (match a.flat, flats xs with
      | some d, some ds => .ok (.bl (!ds.any fun z => PyData.eqv z d)) st
      | _, _ => .bad)
    | none => (match rd st a, rd st b with
      | some d, some (.list ds) => if SeqAt.shaped d && SeqAt.shaped (.list ds) then .ok (.bl (!ds.any fun z => PyData.eqv z d)) st else .bad
      | _, _ => .bad))
  | _, _, _ => .bad
def subH (a i : HV) : M HV := fun st => match a, i with
  | .str z, .int i => if z.length ≤ sizeLine then (match L2.atI z.cps.toList i with
    | some c => .ok (.str ⟨#[c]⟩) st
    | none => .bad) else .bad
  | a, .int i => (match seqOf st a with
    | some xs => (match L2.atI xs i with
      | some v => .ok v st
      | none => .bad)
    | none => .bad)
  | _, _ => .bad
def slcH (a : HV) (lo hi : Option Int) : M HV := fun st => match lstOf st a with
  | some xs => alloc (.lst (cutL xs lo hi)) st
  | none => (match tupOf st a with
    | some xs => if HT.sIx xs.length 0 lo = 0 ∧ HT.sIx xs.length xs.length hi = xs.length then .ok a st else alloc (.tup (cutL xs lo hi)) st
    | none => .bad)
def rgL (a b : Int) : List HV := (List.range (b - a).toNat).map fun i => HV.int (a + (i : Nat))
def rgOk (a b : Int) : Bool := geZ (2 ^ 62) a && (ltZ a (2 ^ 62) && (geZ (2 ^ 62) b && (ltZ b (2 ^ 62) && decide ((b - a).toNat ≤ 2 ^ 24))))
def maxI : Int → List Int → Int
  | m, [] => m
  | m, x :: r => maxI (if x > m then x else m) r
def minI : Int → List Int → Int
  | m, [] => m
  | m, x :: r => minI (if x < m then x else m) r
def insI (x : Int) : List Int → List Int
  | [] => [x]
  | y :: r => if x ≤ y then x :: y :: r else y :: insI x r
def sortI : List Int → List Int
  | [] => []
  | x :: r => insI x (sortI r)
/-- whether the one pair stands ahead of the other one, or is alike -/
def lexLe (p q : Int × Int) : Bool := if p.1 = q.1 then decide (p.2 ≤ q.2) else decide (p.1 < q.1)
def insK {α : Type} (k : α → Int × Int) (x : α) : List α → List α
  | [] => [x]
  | y :: r => if lexLe (k x) (k y) then x :: y :: r else y :: insK k x r
/-- sorted by pairs, alike ones in their order -/
def sortK {α : Type} (k : α → Int × Int) : List α → List α
  | [] => []
  | x :: r => insK k x (sortK k r)
/-- each k-th thing from the i-th on -/
def stepL {α : Type} (xs : List α) (i k : Nat) : List α := (List.range xs.length).filterMap fun m => xs[i + k * m]?
def stpH (a : HV) (l k : Option Int) : M HV := fun st => match lstOf st a, l, k with
  | some xs, some i, some j => if decide (0 ≤ i) && decide (1 ≤ j) then alloc (.lst (stepL xs i.toNat j.toNat)) st else .bad
  | _, _, _ => .bad
def biH (b : Bi) (xs : List HV) : M HV := fun st => match b, xs with
  | .len, [.str s] => if s.length ≤ sizeLine then .ok (.int s.length) st else .bad
  | .len, [a] => (match seqOf st a with
    | some xs => .ok (.int xs.length) st
    | none => .bad)
  | .abs, [.int i] => .ok (.int (if i < 0 then -i else i)) st
  | .int, [.int i] => .ok (.int i) st
  | .int, [.bl k] => .ok (.int (if k then 1 else 0)) st
  | .max2, [.int i, .int j] => .ok (.int (if j > i then j else i)) st
  | .min2, [.int i, .int j] => .ok (.int (if j < i then j else i)) st
  | .lrg1, [.int j] => if rgOk 0 j then alloc (.lst (rgL 0 j)) st else .bad
  | .lrg2, [.int i, .int j] => if rgOk i j then alloc (.lst (rgL i j)) st else .bad
  | .sum, [a] => (match (lstOf st a).bind intsOf with
    | some ns => .ok (.int ns.sum) st
    | none => .bad)
  | .any, [a] => (match (lstOf st a).bind blsOf with
    | some ns => .ok (.bl (ns.any id)) st
    | none => .bad)
  | .all, [a] => (match (lstOf st a).bind blsOf with
    | some ns => .ok (.bl (ns.all id)) st
    | none => (match (lstOf st a).bind intsOf with
      | some ns => .ok (.bl (ns.all fun i => i != 0)) st
      | none => .bad))
  | .max1, [a] => (match (lstOf st a).bind intsOf with
    | some (n :: ns) => .ok (.int (maxI n ns)) st
    | _ => .bad)
  | .min1, [a] => (match (lstOf st a).bind intsOf with
    | some (n :: ns) => .ok (.int (minI n ns)) st
    | _ => .bad)
  | .list, [a] => (match seqOf st a with
    | some xs => alloc (.lst xs) st
    | none => .bad)
  | .tuple, [a] => (match lstOf st a with
    | some xs => alloc (.tup xs) st
    | none => (match tupOf st a with
      | some _ => .ok a st
      | none => .bad))
  | .sorted, [a] => (match (lstOf st a).bind intsOf with
    | some ns => alloc (.lst ((sortI ns).map .int)) st
    | none => (match lstOf st a with
      | some xs => (match prsOf st xs with
        | some ps => alloc (.lst ((sortK (fun z => z.2) (xs.zip ps)).map fun z => z.1)) st
        | none => .bad)
      | none => .bad))
  | .dict, [a] => (match lstOf st a with
    | some [] => alloc (.dic []) st
    | _ => .bad)
  | .litm, [a] => (match dicOf st a with
    | some [] => alloc (.lst []) st
    | _ => .bad)
  | _, _ => .bad
def metH (m : Me) (a : HV) (xs : List HV) : M HV := fun st => match m, xs with
  | .append, [y] => (match mutOf st a with
    | some (n, xs) => if xs.length < sizeLine then .ok .non (st.set n (.lst (xs ++ [y]))) else .bad
    | none => .bad)
  | .extend, [b] => (match mutOf st a, mutOf st b with
    | some (n, xs), some (_, ys) => if xs.length + ys.length ≤ sizeLine then .ok .non (st.set n (.lst (xs ++ ys))) else .bad
    | _, _ => .bad)
  | .pop0, [] => (match mutOf st a with
    | some (n, xs) => (match xs[xs.length - 1]? with
      | some y => .ok y (st.set n (.lst xs.dropLast))
      | none => .bad)
    | none => .bad)
  | .popi, [.int i] => (match mutOf st a with
    | some (n, xs) => if geZ (2 ^ 63) i && ltZ i (2 ^ 63) then (match seqIndex? i xs.length with
      | some k => (match xs[k]? with
        | some y => .ok y (st.set n (.lst (xs.eraseIdx k)))
        | none => .bad)
      | none => .bad) else .bad
    | none => .bad)
  | _, _ => .bad
def sstH (o i e : HV) : M Unit := fun st => match mutOf st o, i with
  | some (n, xs), .int k => (match L2.ixN xs.length k with
    | some j => .ok () (st.set n (.lst (xs.set j e)))
    | none => .bad)
  | _, _ => .bad

abbrev Env := List (Option HV)
def getV (env : Env) (i : Nat) : M HV := fun st => match env[i]? with
  | some (some v) => .ok v st
  | _ => .bad
mutual
def asgV (st : Hs) : Tg → HV → Env → Option Env
  | .nm i, v, env => if i < env.length then some (env.set i (some v)) else none
  | .tp ts, v, env => (match tupOf st v with
    | some xs => if xs.length = ts.length then asgVs st ts xs env else none
    | none => none)
def asgVs (st : Hs) : List Tg → List HV → Env → Option Env
  | [], [], env => some env
  | t :: ts, x :: xs, env => (match asgV st t x env with
    | some env' => asgVs st ts xs env'
    | none => none)
  | _, _, _ => none
end
def wipeE (env : Env) : List Nat → Env
  | [] => env
  | i :: r => (wipeE env r).set i none

/-- the item of a turn: one value, or the values of a tuple that is made for the turn -/
inductive Iv where
  | one (v : HV)
  | many (vs : List HV)
def asgI (st : Hs) (tg : Tg) (env : Env) : Iv → Option Env
  | .one v => asgV st tg v env
  | .many vs => (match tg with
    | .tp ts => if vs.length = ts.length then asgVs st ts vs env else none
    | .nm _ => none)
/-- what is walked, as it stands at the start: the items; the cells that have to stand as they stood -/
structure Wk where
  items : List Iv
  held : List (Nat × Cel)
def Wk.stands (held : List (Nat × Cel)) (st : Hs) : Bool := held.all fun p => st[p.1]? == some p.2
def wkSeq (v : HV) : M Wk := fun st => match v with
  | .ref a => (match st[a]? with
    | some (.lst xs) => .ok ⟨xs.map .one, [(a, .lst xs)]⟩ st
    | some (.fro xs) => .ok ⟨xs.map .one, [(a, .fro xs)]⟩ st
    | some (.tup xs) => .ok ⟨xs.map .one, [(a, .tup xs)]⟩ st
    | _ => .bad)
  | _ => .bad
/-- a dict that has nothing is walked, too -/
def wkKey (v : HV) : M Wk := fun st => match dicOf st v with
  | some [] => .ok ⟨[], []⟩ st
  | _ => wkSeq v st
def wkRng (i j : HV) : M Wk := fun st => match i, j with
  | .int i, .int j => if geZ (2 ^ 62) i && (ltZ i (2 ^ 62) && (geZ (2 ^ 62) j && ltZ j (2 ^ 62))) then .ok ⟨(rgL i j).map .one, []⟩ st else .bad
  | _, _ => .bad
def enmFrom : Nat → List HV → List Iv
  | _, [] => []
  | n, x :: r => .many [.int n, x] :: enmFrom (n + 1) r
def wkEnm (v : HV) : M Wk := fun st => match v with
  | .ref a => (match st[a]? with
    | some (.lst xs) => .ok ⟨enmFrom 0 xs, [(a, .lst xs)]⟩ st
    | some (.fro xs) => .ok ⟨enmFrom 0 xs, [(a, .fro xs)]⟩ st
    | _ => .bad)
  | _ => .bad
def zipV : List HV → List HV → List Iv
  | x :: xs, y :: ys => .many [x, y] :: zipV xs ys
  | _, _ => []
def wkZip (v w : HV) : M Wk := fun st => match v, w with
  | .ref a, .ref b => (match st[a]?, st[b]? with
    | some (.lst xs), some (.lst ys) => .ok ⟨zipV xs ys, [(a, .lst xs), (b, .lst ys)]⟩ st
    | some (.tup xs), some (.tup ys) => .ok ⟨zipV xs ys, [(a, .tup xs), (b, .tup ys)]⟩ st
    | _, _ => .bad)
  | _, _ => .bad
/-- the turns of a list comprehension: d is the new list's place -/
def comH (d : Nat) (held : List (Nat × Cel)) (tg : Tg) (env : Env) (own : List Nat) (cond : Env → M Bool) (elt : Env → M HV) : List Iv → M HV
  | [] => fun st => if Wk.stands held st then .ok (.ref d) st else .bad
  | x :: r => fun st => if Wk.stands held st then (match asgI st tg env x with
    | some env' => if wipeE env' own = wipeE env own then (match cond env' st with
      | .ok true st1 => (match elt env' st1 with
        | .ok y st2 => (match st2[d]? with
          | some (.lst acc) => if acc.length < sizeLine then comH d held tg env own cond elt r (st2.set d (.lst (acc ++ [y]))) else .bad
          | _ => .bad)
        | _ => .bad)
      | .ok false st1 => comH d held tg env own cond elt r st1
      | _ => .bad) else .bad
    | none => .bad) else .bad

abbrev Rt := Nat → List HV → M HV
/-- the receiver of a list's method -/
def chkM (v : HV) : M Unit := fun st => if (mutOf st v).isSome then .ok () st else .bad
def testV (v : HV) : M Bool := fun st => ofO (tru st v) st
def exoV : HV → M (Option Int)
  | .int i => ret (some i)
  | _ => bad
def Exs.len : Exs → Nat
  | .nil => 0
  | .cons _ r => r.len + 1
mutual
def evE (R : Rt) (env : Env) : Ex → M HV
  | .var i => getV env i
  | .non => ret .non
  | .bl b => ret (.bl b)
  | .int i => ret (.int i)
  | .str s => ret (.str s)
  | .gfn g => ret (.fn g)
  | .bin op a b => bnd (evE R env a) fun x => bnd (evE R env b) fun y => binH op x y
  | .neg a => bnd (evE R env a) fun x => match x with
    | .int i => ret (.int (-i))
    | _ => bad
  | .nt a => bnd (bnd (evE R env a) testV) fun k => ret (.bl (!k))
  | .and a b => bnd (evE R env a) fun x => bnd (testV x) fun k => if k = true then evE R env b else ret x
  | .or a b => bnd (evE R env a) fun x => bnd (testV x) fun k => if k = true then ret x else evE R env b
  | .ife c a b => bnd (bnd (evE R env c) testV) fun k => if k = true then evE R env a else evE R env b
  | .cmp op a b => bnd (evE R env a) fun x => bnd (evE R env b) fun y => cmpH op x y
  | .cmp2 o1 o2 a b c => bnd (evE R env a) fun x => bnd (evE R env b) fun y => bnd (cmpH o1 x y) fun k => match k with
    | .bl true => bnd (evE R env c) fun z => cmpH o2 y z
    | .bl false => ret (.bl false)
    | _ => bad
  | .sub a i => bnd (evE R env a) fun x => bnd (evE R env i) fun y => subH x y
  | .slc a lo hi => bnd (evE R env a) fun x => bnd (evO R env lo) fun l => bnd (evO R env hi) fun h => slcH x l h
  | .rev a => bnd (evE R env a) fun x => fun st => match lstOf st x with
    | some xs => alloc (.lst xs.reverse) st
    | none => .bad
  | .stpL a l k => bnd (evE R env a) fun x => bnd (evO R env l) fun y => bnd (evO R env k) fun z => stpH x y z
  | .tup es => bnd (evEs R env es) fun xs => if xs.length ≤ sizeLine then alloc (.tup xs) else bad
  | .lst es => bnd (evEs R env es) fun xs => if xs.length ≤ sizeLine then alloc (.lst xs) else bad
  | .dic0 => alloc (.dic [])
  | .call g es => bnd (evEs R env es) fun xs => R g xs
  | .callK g es perm => bnd (evEs R env es) fun xs => R g (perm.map fun i => xs.getD i .non)
  | .bi b es => bnd (evEs R env es) fun xs => biH b xs
  | .isi a ts => bnd (evE R env a) fun x => fun st => ofO ((isiH st x ts).map .bl) st
  | .met m a es => bnd (evE R env a) fun x => bnd (chkM x) fun _ => bnd (evEs R env es) fun xs => metH m x xs
  | .com tg it conds elt own => bnd (evI R env it) fun w => bnd (alloc (.lst [])) fun d => match d with
    | .ref d => comH d w.held tg (wipeE env own) own (fun env' => evCs R env' conds) (fun env' => evE R env' elt) w.items
    | _ => bad
  | .nev => bad
def evEs (R : Rt) (env : Env) : Exs → M (List HV)
  | .nil => ret []
  | .cons e es => bnd (evE R env e) fun x => bnd (evEs R env es) fun xs => ret (x :: xs)
def evO (R : Rt) (env : Env) : Exo → M (Option Int)
  | .none => ret none
  | .some e => bnd (evE R env e) exoV
def evI (R : Rt) (env : Env) : It → M Wk
  | .seq e => bnd (evE R env e) wkSeq
  | .key i => bnd (getV env i) wkKey
  | .rng1 a => bnd (evE R env a) fun x => wkRng (.int 0) x
  | .rng2 a b => bnd (evE R env a) fun x => bnd (evE R env b) fun y => wkRng x y
  | .enm e => bnd (evE R env e) wkEnm
  | .zip a b => bnd (evE R env a) fun x => bnd (evE R env b) fun y => wkZip x y
/-- a clause's tests: none or one -/
def evCs (R : Rt) (env : Env) : Exs → M Bool
  | .nil => ret true
  | .cons c .nil => bnd (evE R env c) testV
  | .cons _ (.cons _ _) => bad
end

inductive Fl where
  | nx (env : Env) | ct (env : Env) | rt (v : HV) | xc (env : Env) (c : Nat) (p : Option HV)
/-- an exception of a part is kept beside the names as they stand -/
def tryE {α : Type} (env : Env) (m : M α) (f : α → M Fl) : M Fl := fun st => match m st with
  | .ok a st1 => f a st1
  | .exc c p st1 => .ok (.xc env c p) st1
  | .bad => .bad
/-- the turns of a for loop -/
def forH (held : List (Nat × Cel)) (tg : Tg) (body : Env → M Fl) : List Iv → Env → M Fl
  | [], env => fun st => if Wk.stands held st then .ok (.nx env) st else .bad
  | x :: r, env => fun st => if Wk.stands held st then (match asgI st tg env x with
    | some env' => (match body env' st with
      | .ok (.nx e) st1 => forH held tg body r e st1
      | .ok (.ct e) st1 => forH held tg body r e st1
      | .ok (.rt v) st1 => .ok (.rt v) st1
      | .ok (.xc e c p) st1 => .ok (.xc e c p) st1
      | .exc _ _ _ => .bad
      | .bad => .bad)
    | none => .bad) else .bad
/-- the turns of a while loop, at most so many -/
def whlH (cond : Env → M Bool) (body : Env → M Fl) : Nat → Env → M Fl
  | 0, _ => bad
  | n + 1, env => fun st => match cond env st with
    | .ok true st1 => (match body env st1 with
      | .ok (.nx e) st2 => whlH cond body n e st2
      | .ok (.ct e) st2 => whlH cond body n e st2
      | .ok (.rt v) st2 => .ok (.rt v) st2
      | .ok (.xc e c p) st2 => .ok (.xc e c p) st2
      | .exc _ _ _ => .bad
      | .bad => .bad)
    | .ok false st1 => .ok (.nx env) st1
    | .exc c p st1 => .ok (.xc env c p) st1
    | .bad => .bad
/-- the most turns of a while loop -/
def whlN : Nat := 1000000000000
mutual
def exS (R : Rt) : Sx → Env → M Fl
  | .ex e, env => tryE env (evE R env e) fun _ => ret (.nx env)
  | .asg tg e, env => tryE env (evE R env e) fun v => fun st => match asgV st tg v env with
    | some env' => .ok (.nx env') st
    | none => .bad
  | .par i j a b, env => tryE env (evEs R env (.cons a (.cons b .nil))) fun xs => match xs with
    | [x, y] => if i < env.length ∧ j < env.length then ret (.nx ((env.set i (some x)).set j (some y))) else bad
    | _ => bad
  | .sst o i e, env => tryE env (evE R env e) fun v => tryE env (evE R env o) fun x => tryE env (evE R env i) fun y => bnd (sstH x y v) fun _ => ret (.nx env)
  | .ret e, env => tryE env (evE R env e) fun v => ret (.rt v)
  | .retN, _ => ret (.rt .non)
  | .ite c a b, env => tryE env (bnd (evE R env c) testV) fun k => if k = true then exSs R a env else exSs R b env
  | .forE tg it b, env => tryE env (evI R env it) fun w => forH w.held tg (fun env' => exSs R b env') w.items env
  | .whl c b, env => whlH (fun env' => bnd (evE R env' c) testV) (fun env' => exSs R b env') whlN env
  | .pas, env => ret (.nx env)
  | .con, env => ret (.ct env)
  | .nev, _ => bad
def exSs (R : Rt) : Sxs → Env → M Fl
  | .nil, env => ret (.nx env)
  | .cons s ss, env => bnd (exS R s env) fun f => match f with
    | .nx env' => exSs R ss env'
    | f => ret f
end

structure Fn where
  ar : Nat
  ns : Nat
  body : Sxs
/-- a call of the g-th def, at most k calls deep -/
def runH (T : List Fn) : Nat → Rt
  | 0, _, _ => bad
  | k + 1, g, xs => match T[g]? with
    | some F => if xs.length = F.ar ∧ F.ar ≤ F.ns then bnd (exSs (runH T k) F.body (xs.map some ++ List.replicate (F.ns - F.ar) none)) fun f => match f with
      | .rt v => ret v
      | .nx _ => ret .non
      | .ct _ => bad
      | .xc _ c p => fun st => .exc c p st
      else bad
    | none => bad
end Ih
end
section
set_option Elab.async false
set_option linter.all false
namespace Ih
open PySem PySem.Spec PyProof.Rows L2

/-- where the defs and the exception classes stand; the field that an exception of a class keeps -/
structure Gi where
  fA : Nat → Addr
  cA : Nat → Addr
  cF : Nat → Option Str
def toV (G : Gi) (φ : List Addr) : HV → V
  | .non => .non
  | .bl b => .bl b
  | .int i => .int i
  | .str s => .str s
  | .ref n => .ref (φ[n]?.getD 0)
  | .fn g => .ref (G.fA g)
def wfV (n : Nat) : HV → Prop
  | .ref m => m < n
  | _ => True
def wfC (n : Nat) : Cel → Prop
  | .lst xs => ∀ x ∈ xs, wfV n x
  | .tup xs => ∀ x ∈ xs, wfV n x
  | .fro xs => ∀ x ∈ xs, wfV n x
  | .dic kvs => ∀ p ∈ kvs, wfV n p.2
  | .dead => True
def live : Cel → Prop
  | .lst _ => True
  | .tup _ => True
  | .dic _ => True
  | _ => False
/-- a list that is only read: the script -/
def FroOk (K : PySem.W.Frag) (H : Hp) (a : Addr) (xs : List V) : Prop :=
  (∃ o, H a = some (.frz o (.lst xs))) ∨
    ∃ (o : Obj) (its : Array Value) (n : Nat), K.lookup a = some o ∧ o.cls = .type "list" ∧ o.dict = none ∧ o.data = .seq its n ∧ its.size ≤ sizeLine ∧ Vals xs its.toList
theorem FroOk.sq {K : PySem.W.Frag} {H : Hp} {a : Addr} {xs : List V} (h : FroOk K H a xs) : SqL K H a xs := by
  rcases h with ⟨o, h⟩ | h
  · exact .inl (.inr ⟨o, h⟩)
  · exact .inr h
def CelOk (G : Gi) (K : PySem.W.Frag) (φ : List Addr) (H : Hp) (a : Addr) : Cel → Prop
  | .lst xs => H a = some (.lst (xs.map (toV G φ)))
  | .tup xs => H a = some (.tup (xs.map (toV G φ)))
  | .fro xs => FroOk K H a (xs.map (toV G φ))
  | .dic kvs => H a = some (.dK (kvs.map fun p => (p.1, toV G φ p.2)))
  | .dead => True
structure Rel (G : Gi) (K : PySem.W.Frag) (φ : List Addr) (st : Hs) (H : Hp) : Prop where
  len : φ.length = st.length
  at_ : ∀ (n : Nat) (c : Cel) (a : Addr), st[n]? = some c → φ[n]? = some a → CelOk G K φ H a c
  wf : ∀ (n : Nat) (c : Cel), st[n]? = some c → wfC st.length c
  sep : ∀ (m n : Nat) (a : Addr) (c d : Cel), φ[m]? = some a → φ[n]? = some a → st[m]? = some c → st[n]? = some d → live c → live d → m = n
/-- more places -/
def Ext (φ φ' : List Addr) : Prop := ∃ ψ, φ' = φ ++ ψ
theorem Ext.refl (φ : List Addr) : Ext φ φ := ⟨[], by simp⟩
theorem Ext.trans {a b c : List Addr} (h : Ext a b) (k : Ext b c) : Ext a c := by
  obtain ⟨x, rfl⟩ := h
  obtain ⟨y, rfl⟩ := k
  exact ⟨x ++ y, by simp⟩
theorem Ext.len {a b : List Addr} (h : Ext a b) : a.length ≤ b.length := by
  obtain ⟨x, rfl⟩ := h
  simp
theorem Ext.snoc (φ : List Addr) (p : Addr) : Ext φ (φ ++ [p]) := ⟨[p], rfl⟩
theorem Ext.get {a b : List Addr} (h : Ext a b) {n : Nat} (hn : n < a.length) : b[n]? = a[n]? := by
  obtain ⟨x, rfl⟩ := h
  exact List.getElem?_append_left hn
variable {G : Gi} {K : PySem.W.Frag} {φ φ' : List Addr} {st st' : Hs} {H H' : Hp}
theorem toV_ext {v : HV} (e : Ext φ φ') (h : wfV φ.length v) : toV G φ' v = toV G φ v := by
  cases v with
  | ref n =>
    show V.ref _ = V.ref _
    rw [e.get (show n < φ.length from h)]
  | _ => rfl
theorem mapV_ext {xs : List HV} (e : Ext φ φ') (h : ∀ x ∈ xs, wfV φ.length x) : xs.map (toV G φ') = xs.map (toV G φ) :=
  List.map_congr_left fun x hx => toV_ext e (h x hx)
theorem wfV.mono {m n : Nat} {v : HV} (h : wfV m v) (l : m ≤ n) : wfV n v := by
  cases v with
  | ref k => exact Nat.lt_of_lt_of_le (show k < m from h) l
  | _ => exact True.intro
theorem wfC.mono {m n : Nat} {c : Cel} (h : wfC m c) (l : m ≤ n) : wfC n c := by
  cases c with
  | lst xs => exact fun x hx => (h x hx).mono l
  | tup xs => exact fun x hx => (h x hx).mono l
  | fro xs => exact fun x hx => (h x hx).mono l
  | dic xs => exact fun x hx => (h x hx).mono l
  | dead => exact True.intro
theorem CelOk.map {a : Addr} {c : Cel} (h : CelOk G K φ H a c) (e : Ext φ φ') (w : wfC φ.length c) (hs : ∀ o, H a = some o → H' a = some o) : CelOk G K φ' H' a c := by
  cases c with
  | lst xs =>
    show H' a = some (.lst (xs.map (toV G φ')))
    rw [mapV_ext e w]
    exact hs _ h
  | tup xs =>
    show H' a = some (.tup (xs.map (toV G φ')))
    rw [mapV_ext e w]
    exact hs _ h
  | fro xs =>
    show FroOk K H' a (xs.map (toV G φ'))
    rw [mapV_ext e w]
    rcases h with ⟨o, h⟩ | h
    · exact .inl ⟨o, hs _ h⟩
    · exact .inr h
  | dic kvs =>
    show H' a = some (.dK (kvs.map fun p => (p.1, toV G φ' p.2)))
    have e2 : (kvs.map fun p => (p.1, toV G φ' p.2)) = kvs.map fun p => (p.1, toV G φ p.2) := List.map_congr_left fun p hp => by rw [toV_ext e (w p hp)]
    rw [e2]
    exact hs _ h
  | dead => exact True.intro
theorem CelOk.some_of {a : Addr} {c : Cel} (h : CelOk G K φ H a c) (l : live c) : ∃ o, H a = some o ∧ (∀ ob u, o ≠ .frz ob u) := by
  cases c with
  | lst xs => exact ⟨_, h, fun _ _ z => by cases z⟩
  | tup xs => exact ⟨_, h, fun _ _ z => by cases z⟩
  | dic xs => exact ⟨_, h, fun _ _ z => by cases z⟩
  | fro xs => exact l.elim
  | dead => exact l.elim
theorem get_snoc {α : Type} {xs : List α} {x y : α} {n : Nat} (h : (xs ++ [x])[n]? = some y) : (n < xs.length ∧ xs[n]? = some y) ∨ (n = xs.length ∧ y = x) := by
  by_cases hn : n < xs.length
  · rw [List.getElem?_append_left hn] at h
    exact .inl ⟨hn, h⟩
  · have hl := (List.getElem?_eq_some_iff.mp h).1
    rw [List.length_append, List.length_cons, List.length_nil] at hl
    have e : n = xs.length := by omega
    subst e
    rw [List.getElem?_concat_length] at h
    exact .inr ⟨rfl, (Option.some.inj h).symm⟩
/-- a new object, beside others that are not kept -/
theorem Rel.grow (r : Rel G K φ st H) {p : Addr} {c : Cel} (hp : H p = none) (hs : ∀ b o, H b = some o → H' b = some o) (w : wfC st.length c) (hc : CelOk G K (φ ++ [p]) H' p c) : Rel G K (φ ++ [p]) (st ++ [c]) H' := by
  have keep : ∀ {n : Nat} {d : Cel} {a : Addr}, st[n]? = some d → φ[n]? = some a → CelOk G K (φ ++ [p]) H' a d := fun {n d a} h1 h2 =>
    (r.at_ n d a h1 h2).map (Ext.snoc φ p) (by rw [r.len]; exact r.wf n d h1) fun u hu => hs a u hu
  refine ⟨by simp [r.len], fun n d a h1 h2 => ?_, fun n d h => ?_, fun m n a d e h1 h2 h3 h4 l1 l2 => ?_⟩
  · rcases get_snoc h1 with ⟨hn, h1⟩ | ⟨hn, rfl⟩
    · rw [List.getElem?_append_left (by rw [r.len]; exact hn)] at h2
      exact keep h1 h2
    · rw [hn, ← r.len, List.getElem?_concat_length] at h2
      cases h2
      exact hc
  · rw [List.length_append]
    rcases get_snoc h with ⟨hn, h⟩ | ⟨hn, rfl⟩
    · exact (r.wf n d h).mono (Nat.le_add_right _ _)
    · exact w.mono (Nat.le_add_right _ _)
  · have no : ∀ {k : Nat} {u : Cel}, φ[k]? = some p → st[k]? = some u → live u → False := fun {k u} a1 a2 a3 => by
      obtain ⟨ob, hob, _⟩ := (r.at_ k u p a2 a1).some_of a3
      rw [hp] at hob
      cases hob
    rcases get_snoc h3 with ⟨q1, k3⟩ | ⟨q1, e3⟩
    · rw [List.getElem?_append_left (by rw [r.len]; exact q1)] at h1
      rcases get_snoc h4 with ⟨q2, k4⟩ | ⟨q2, e4⟩
      · rw [List.getElem?_append_left (by rw [r.len]; exact q2)] at h2
        exact r.sep m n a d e h1 h2 k3 k4 l1 l2
      · rw [q2, ← r.len, List.getElem?_concat_length] at h2
        cases h2
        exact (no h1 k3 l1).elim
    · rcases get_snoc h4 with ⟨q2, k4⟩ | ⟨q2, _⟩
      · rw [List.getElem?_append_left (by rw [r.len]; exact q2)] at h2
        rw [q1, ← r.len, List.getElem?_concat_length] at h1
        cases h1
        exact (no h2 k4 l2).elim
      · rw [q1, q2]
/-- a new object -/
theorem Rel.alloc (r : Rel G K φ st H) {p : Addr} {c : Cel} {o : HO} (hp : H p = none) (w : wfC st.length c) (hc : CelOk G K (φ ++ [p]) (upd H p o) p c) : Rel G K (φ ++ [p]) (st ++ [c]) (upd H p o) :=
  r.grow hp (fun b u hu => by rw [upd_ne (ne_of_none hu hp)]; exact hu) w hc
/-- an object changed -/
theorem Rel.set (r : Rel G K φ st H) {n : Nat} {a : Addr} {c c' : Cel} {o : HO} (hn : st[n]? = some c) (ha : φ[n]? = some a) (l : live c) (w : wfC st.length c') (hc : CelOk G K φ (upd H a o) a c') : Rel G K φ (st.set n c') (upd H a o) := by
  have hlt : n < st.length := (List.getElem?_eq_some_iff.mp hn).1
  obtain ⟨ob, hob, hnf⟩ := (r.at_ n c a hn ha).some_of l
  refine ⟨by simp [r.len], fun m d b h1 h2 => ?_, fun m d h => ?_, fun m k b d e h1 h2 h3 h4 l1 l2 => ?_⟩
  · by_cases hm : n = m
    · subst hm
      rw [List.getElem?_set_self hlt] at h1
      cases h1
      rw [ha] at h2
      cases h2
      exact hc
    · rw [List.getElem?_set_ne hm] at h1
      have q := r.at_ m d b h1 h2
      cases d with
      | dead => exact True.intro
      | fro xs =>
        rcases q with ⟨o2, q⟩ | q
        · refine .inl ⟨o2, ?_⟩
          have e : b ≠ a := fun e => by
            rw [e, hob] at q
            exact hnf _ _ (Option.some.inj q)
          rw [upd_ne e]
          exact q
        · exact .inr q
      | _ =>
        refine q.map (Ext.refl φ) (by rw [r.len]; exact r.wf m _ h1) fun u hu => ?_
        have e : b ≠ a := fun e => hm (r.sep n m a c _ ha (e ▸ h2) hn h1 l True.intro)
        rw [upd_ne e]
        exact hu
  · rw [List.length_set]
    by_cases hm : n = m
    · subst hm
      rw [List.getElem?_set_self hlt] at h
      cases h
      exact w
    · rw [List.getElem?_set_ne hm] at h
      exact r.wf m d h
  · have fix : ∀ {i : Nat} {u : Cel}, (st.set n c')[i]? = some u → live u → ∃ v, st[i]? = some v ∧ live v := fun {i u} q1 q2 => by
      by_cases hi : n = i
      · subst hi
        exact ⟨c, hn, l⟩
      · rw [List.getElem?_set_ne hi] at q1
        exact ⟨u, q1, q2⟩
    obtain ⟨d', z1, z2⟩ := fix h3 l1
    obtain ⟨e', z3, z4⟩ := fix h4 l2
    exact r.sep m k b d' e' h1 h2 z1 z3 z2 z4
end Ih
end
section
set_option Elab.async false
set_option linter.all false
namespace Ih
open PySem PySem.Spec PyProof.Rows L2

def tU (X : Cx) (e : Expr) : TE := fun σ H Q => ∀ (pins : List (Addr × Obj)) (s : Shared), Inv X pins σ H s → wpAny (model X.prog X.w) X.A (eval e X.env) (EP X pins σ Q) X.xe s
def tUT (X : Cx) (e : Expr) : TT := fun σ H Q => ∀ (pins : List (Addr × Obj)) (s : Shared), Inv X pins σ H s → wpAny (model X.prog X.w) X.A (isTrue e X.env (eval e X.env)) (TP X pins σ Q) X.xe s
def tUA (X : Cx) (es : List Expr) : TA := fun σ H Q => ∀ (pos : Pos) (pins : List (Addr × Obj)) (s : Shared), Inv X pins σ H s → wpAny (model X.prog X.w) X.A (spliced (backTo pos (starEach es X.env))) (AP X pins σ Q) X.xe s
theorem pe_tU {X : Cx} {e : Expr} : PE X e (tU X e) := ⟨fun pins s _ _ _ I h => h pins s I⟩
theorem pt_tU {X : Cx} {e : Expr} : PT X e (tUT X e) := ⟨fun pins s _ _ _ I h => h pins s I⟩
theorem pa_tU {X : Cx} {es : List Expr} : PA X es (tUA X es) := ⟨fun pos pins s _ _ _ I h => h pos pins s I⟩
theorem PE.u {X : Cx} {e : Expr} {t : TE} {σ : L2.St} {H : Hp} {Q : VK} (h : PE X e t) (q : t σ H Q) : tU X e σ H Q := fun pins s I => h.run pins s σ H Q I q
theorem PT.u {X : Cx} {e : Expr} {t : TT} {σ : L2.St} {H : Hp} {Q : Bool → Hp → Prop} (h : PT X e t) (q : t σ H Q) : tUT X e σ H Q := fun pins s I => h.run pins s σ H Q I q
theorem PA.u {X : Cx} {es : List Expr} {t : TA} {σ : L2.St} {H : Hp} {Q : List V → Hp → Prop} (h : PA X es t) (q : t σ H Q) : tUA X es σ H Q := fun pos pins s I => h.run pos pins s σ H Q I q
theorem tU_mono {X : Cx} {e : Expr} {σ : L2.St} {H : Hp} {Q Q' : VK} (h : tU X e σ H Q) (k : ∀ v H', Q v H' → Q' v H') : tU X e σ H Q' := fun pins s I => thn (h pins s I) fun _ _ ⟨v, H', J, r, q⟩ => ⟨v, H', J, r, k v H' q⟩
theorem tUT_mono {X : Cx} {e : Expr} {σ : L2.St} {H : Hp} {Q Q' : Bool → Hp → Prop} (h : tUT X e σ H Q) (k : ∀ v H', Q v H' → Q' v H') : tUT X e σ H Q' := fun pins s I => thn (h pins s I) fun _ _ ⟨H', J, q⟩ => ⟨H', J, k _ H' q⟩
theorem tUA_mono {X : Cx} {e : List Expr} {σ : L2.St} {H : Hp} {Q Q' : List V → Hp → Prop} (h : tUA X e σ H Q) (k : ∀ v H', Q v H' → Q' v H') : tUA X e σ H Q' := fun pos pins s I => thn (h pos pins s I) fun _ _ ⟨v, H', J, r, q⟩ => ⟨v, H', J, r, k v H' q⟩

def toS (G : Gi) (φ : List Addr) (env : Env) : L2.St := env.map (Option.map (toV G φ))
def wfE (n : Nat) (env : Env) : Prop := ∀ v, some v ∈ env → wfV n v
/-- an exception of class c with the payload p -/
def ExIs (G : Gi) (φ : List Addr) (H : Hp) (c : Nat) (p : Option HV) (cls : Value) (d : Option Addr) : Prop :=
  cls = .ref (G.cA c) ∧ match p with
    | none => d = none
    | some v => ∃ a f, d = some a ∧ G.cF c = some f ∧ H a = some (.xd [(f, toV G φ v)])
def wfP (n : Nat) : Option HV → Prop
  | none => True
  | some v => wfV n v
/-- what is wished of the exception that a result is -/
def ExW {α : Type} (G : Gi) (K : PySem.W.Frag) (W : WX) (σ : L2.St) (φ : List Addr) (r : Res α) : Prop :=
  ∀ c p st', r = .exc c p st' → ∀ φ' H' cls d, Rel G K φ' st' H' → Ext φ φ' → wfP st'.length p → ExIs G φ' H' c p cls d → W cls d σ H'
def Post (G : Gi) (K : PySem.W.Frag) (φ : List Addr) (r : Res HV) : VK := fun v' H' => ∃ v st' φ', r = .ok v st' ∧ Rel G K φ' st' H' ∧ Ext φ φ' ∧ wfV st'.length v ∧ v' = toV G φ' v
def PostB (G : Gi) (K : PySem.W.Frag) (φ : List Addr) (r : Res Bool) : Bool → Hp → Prop := fun b H' => ∃ st' φ', r = .ok b st' ∧ Rel G K φ' st' H' ∧ Ext φ φ'
def PostA (G : Gi) (K : PySem.W.Frag) (φ : List Addr) (r : Res (List HV)) : List V → Hp → Prop := fun vs H' => ∃ xs st' φ', r = .ok xs st' ∧ Rel G K φ' st' H' ∧ Ext φ φ' ∧ (∀ x ∈ xs, wfV st'.length x) ∧ vs = xs.map (toV G φ')
structure Cf (G : Gi) (X : Cx) (σ : L2.St) (env : Env) (W : WX) (φ : List Addr) (st : Hs) (H : Hp) : Prop where
  tk : Takes X W
  rel : Rel G X.K φ st H
  sg : σ = toS G φ env
  wf : wfE st.length env
def SimE (G : Gi) (X : Cx) (R : Rt) (e : Expr) (x : Ex) : Prop :=
  ∀ σ env W φ st H, Cf G X σ env W φ st H → ExW G X.K W σ φ (evE R env x st) → evE R env x st ≠ .bad → tU X e σ H (Post G X.K φ (evE R env x st))
def SimT (G : Gi) (X : Cx) (R : Rt) (e : Expr) (x : Ex) : Prop :=
  ∀ σ env W φ st H, Cf G X σ env W φ st H → ExW G X.K W σ φ (bnd (evE R env x) testV st) → bnd (evE R env x) testV st ≠ .bad → tUT X e σ H (PostB G X.K φ (bnd (evE R env x) testV st))
def SimA (G : Gi) (X : Cx) (R : Rt) (es : List Expr) (xs : Exs) : Prop :=
  ∀ σ env W φ st H, Cf G X σ env W φ st H → ExW G X.K W σ φ (evEs R env xs st) → evEs R env xs st ≠ .bad → tUA X es σ H (PostA G X.K φ (evEs R env xs st))

section
variable {G : Gi} {X : Cx} {R : Rt} {σ : L2.St} {env : Env} {W : WX} {φ φ1 : List Addr} {st st1 : Hs} {H H1 : Hp}
theorem toS_ext (e : Ext φ φ1) (w : wfE φ.length env) : toS G φ1 env = toS G φ env := by
  refine List.map_congr_left fun o ho => ?_
  cases o with
  | none => rfl
  | some v => exact congrArg some (toV_ext e (w v ho))
theorem Cf.next (C : Cf G X σ env W φ st H) (r : Rel G X.K φ1 st1 H1) (e : Ext φ φ1) : Cf G X σ env W φ1 st1 H1 := by
  have w : wfE φ.length env := by rw [C.rel.len]; exact C.wf
  refine ⟨C.tk, r, by rw [toS_ext e w]; exact C.sg, fun v hv => (C.wf v hv).mono ?_⟩
  have := e.len
  rw [C.rel.len, r.len] at this
  exact this
theorem Rel.le (C : Rel G X.K φ st H) (r : Rel G X.K φ1 st1 H1) (e : Ext φ φ1) : st.length ≤ st1.length := by
  have := e.len
  rw [C.len, r.len] at this
  exact this
theorem ExW.ext {α : Type} {K : PySem.W.Frag} {r : Res α} (h : ExW G K W σ φ r) (e : Ext φ φ1) : ExW G K W σ φ1 r := fun c p st' hr φ' H' cls d R' E' => h c p st' hr φ' H' cls d R' (e.trans E')
theorem ExW.fst {α β : Type} {K : PySem.W.Frag} {r : Res α} {k : α → Hs → Res β} (h : ExW G K W σ φ (r.andThen k)) : ExW G K W σ φ r := fun c p st' hr => h c p st' (by rw [hr]; rfl)
theorem nb_fst {α β : Type} {r : Res α} {k : α → Hs → Res β} (h : r.andThen k ≠ .bad) : r ≠ .bad := fun e => h (by rw [e]; rfl)
theorem Post.ext {K : PySem.W.Frag} {r : Res HV} (e : Ext φ φ1) {v : V} {H' : Hp} (h : Post G K φ1 r v H') : Post G K φ r v H' := by
  obtain ⟨x, st', φ', a, b, c, d⟩ := h
  exact ⟨x, st', φ', a, b, e.trans c, d⟩
theorem PostB.ext {K : PySem.W.Frag} {r : Res Bool} (e : Ext φ φ1) {v : Bool} {H' : Hp} (h : PostB G K φ1 r v H') : PostB G K φ r v H' := by
  obtain ⟨st', φ', a, b, c⟩ := h
  exact ⟨st', φ', a, b, e.trans c⟩
theorem PostA.ext {K : PySem.W.Frag} {r : Res (List HV)} (e : Ext φ φ1) {v : List V} {H' : Hp} (h : PostA G K φ1 r v H') : PostA G K φ r v H' := by
  obtain ⟨x, st', φ', a, b, c, d⟩ := h
  exact ⟨x, st', φ', a, b, e.trans c, d⟩

/-- the first part of a longer evaluation -/
theorem fstE {e : Expr} {x : Ex} {β : Type} {k : HV → Hs → Res β} (S : SimE G X R e x) (C : Cf G X σ env W φ st H) {r : Res β} (er : r = (evE R env x st).andThen k) (hx : ExW G X.K W σ φ r) (hb : r ≠ .bad) {Q : VK}
    (h : ∀ v st1 φ1 H1, evE R env x st = .ok v st1 → Cf G X σ env W φ1 st1 H1 → Ext φ φ1 → wfV st1.length v → ExW G X.K W σ φ1 (k v st1) → k v st1 ≠ .bad → Q (toV G φ1 v) H1) : tU X e σ H Q := by
  subst er
  refine tU_mono (S σ env W φ st H C hx.fst (nb_fst hb)) fun v' H' ⟨v, st1, φ1, e1, r1, x1, w1, ev⟩ => ?_
  subst ev
  have z : (evE R env x st).andThen k = k v st1 := by rw [e1]; rfl
  rw [z] at hx hb
  exact h v st1 φ1 H' e1 (C.next r1 x1) x1 w1 (hx.ext x1) hb
theorem fstT {e : Expr} {x : Ex} {β : Type} {k : Bool → Hs → Res β} (S : SimT G X R e x) (C : Cf G X σ env W φ st H) {r : Res β} (er : r = (bnd (evE R env x) testV st).andThen k) (hx : ExW G X.K W σ φ r) (hb : r ≠ .bad) {Q : Bool → Hp → Prop}
    (h : ∀ b st1 φ1 H1, bnd (evE R env x) testV st = .ok b st1 → Cf G X σ env W φ1 st1 H1 → Ext φ φ1 → ExW G X.K W σ φ1 (k b st1) → k b st1 ≠ .bad → Q b H1) : tUT X e σ H Q := by
  subst er
  refine tUT_mono (S σ env W φ st H C hx.fst (nb_fst hb)) fun b H' ⟨st1, φ1, e1, r1, x1⟩ => ?_
  have z : (bnd (evE R env x) testV st).andThen k = k b st1 := by rw [e1]; rfl
  rw [z] at hx hb
  exact h b st1 φ1 H' e1 (C.next r1 x1) x1 (hx.ext x1) hb
theorem fstA {e : List Expr} {x : Exs} {β : Type} {k : List HV → Hs → Res β} (S : SimA G X R e x) (C : Cf G X σ env W φ st H) {r : Res β} (er : r = (evEs R env x st).andThen k) (hx : ExW G X.K W σ φ r) (hb : r ≠ .bad) {Q : List V → Hp → Prop}
    (h : ∀ vs st1 φ1 H1, evEs R env x st = .ok vs st1 → Cf G X σ env W φ1 st1 H1 → Ext φ φ1 → (∀ v ∈ vs, wfV st1.length v) → ExW G X.K W σ φ1 (k vs st1) → k vs st1 ≠ .bad → Q (vs.map (toV G φ1)) H1) : tUA X e σ H Q := by
  subst er
  refine tUA_mono (S σ env W φ st H C hx.fst (nb_fst hb)) fun v' H' ⟨v, st1, φ1, e1, r1, x1, w1, ev⟩ => ?_
  subst ev
  have z : (evEs R env x st).andThen k = k v st1 := by rw [e1]; rfl
  rw [z] at hx hb
  exact h v st1 φ1 H' e1 (C.next r1 x1) x1 w1 (hx.ext x1) hb
/-- a value that needs nothing -/
theorem post_ok {K : PySem.W.Frag} {v : HV} (r : Rel G K φ st H) (w : wfV st.length v) : Post G K φ (.ok v st) (toV G φ v) H := ⟨v, st, φ, rfl, r, Ext.refl φ, w, rfl⟩
theorem post_at {K : PySem.W.Frag} {v : HV} {r : Res HV} {v' : V} (R' : Rel G K φ st H) (e : r = .ok v st) (w : wfV st.length v) (ev : v' = toV G φ v) : Post G K φ r v' H := ⟨v, st, φ, e, R', Ext.refl φ, w, ev⟩
/-- a new object's place -/
theorem toV_new {p : Addr} (h : φ.length = st.length) : toV G (φ ++ [p]) (.ref st.length) = .ref p := by
  show V.ref _ = V.ref _
  rw [← h, List.getElem?_concat_length]
  rfl
/-- a new object -/
theorem post_new {K : PySem.W.Frag} {c : Cel} {o : HO} {p : Addr} (r : Rel G K φ st H) (hp : H p = none) (w : wfC st.length c) (hc : CelOk G K (φ ++ [p]) (upd H p o) p c) : Post G K φ (alloc c st) (.ref p) (upd H p o) :=
  ⟨.ref st.length, st ++ [c], φ ++ [p], rfl, r.alloc hp w hc, Ext.snoc φ p, by show st.length < (st ++ [c]).length; rw [List.length_append]; exact Nat.lt_succ_self _, (toV_new r.len).symm⟩
theorem wfV.phi {K : PySem.W.Frag} (r : Rel G K φ st H) {v : HV} (w : wfV st.length v) : wfV φ.length v := by rw [r.len]; exact w
theorem lst_ok {K : PySem.W.Frag} {xs : List HV} {p : Addr} (r : Rel G K φ st H) (w : ∀ x ∈ xs, wfV st.length x) : CelOk G K (φ ++ [p]) (upd H p (.lst (xs.map (toV G φ)))) p (.lst xs) := by
  show upd H p _ p = some (.lst (xs.map (toV G (φ ++ [p]))))
  rw [upd_same, mapV_ext (Ext.snoc φ p) fun x hx => (w x hx).phi r]
theorem tup_ok {K : PySem.W.Frag} {xs : List HV} {p : Addr} (r : Rel G K φ st H) (w : ∀ x ∈ xs, wfV st.length x) : CelOk G K (φ ++ [p]) (upd H p (.tup (xs.map (toV G φ)))) p (.tup xs) := by
  show upd H p _ p = some (.tup (xs.map (toV G (φ ++ [p]))))
  rw [upd_same, mapV_ext (Ext.snoc φ p) fun x hx => (w x hx).phi r]
theorem post_lst {K : PySem.W.Frag} {xs : List HV} {p : Addr} (r : Rel G K φ st H) (w : ∀ x ∈ xs, wfV st.length x) (hp : H p = none) : Post G K φ (alloc (.lst xs) st) (.ref p) (upd H p (.lst (xs.map (toV G φ)))) := post_new r hp w (lst_ok r w)
theorem post_tup {K : PySem.W.Frag} {xs : List HV} {p : Addr} (r : Rel G K φ st H) (w : ∀ x ∈ xs, wfV st.length x) (hp : H p = none) : Post G K φ (alloc (.tup xs) st) (.ref p) (upd H p (.tup (xs.map (toV G φ)))) := post_new r hp w (tup_ok r w)

theorem Rel.cell {K : PySem.W.Frag} (r : Rel G K φ st H) {n : Nat} {c : Cel} (h : st[n]? = some c) : ∃ a, φ[n]? = some a ∧ toV G φ (.ref n) = .ref a ∧ CelOk G K φ H a c := by
  have hl : n < φ.length := by rw [r.len]; exact (List.getElem?_eq_some_iff.mp h).1
  refine ⟨φ[n], List.getElem?_eq_getElem hl, ?_, r.at_ n c _ h (List.getElem?_eq_getElem hl)⟩
  show V.ref _ = V.ref _
  rw [List.getElem?_eq_getElem hl]
  rfl
theorem lstOf_ok {K : PySem.W.Frag} (r : Rel G K φ st H) {v : HV} {xs : List HV} (h : lstOf st v = some xs) : ∃ a, toV G φ v = .ref a ∧ SqL K H a (xs.map (toV G φ)) ∧ ∀ x ∈ xs, wfV st.length x := by
  cases v with
  | ref n =>
    cases e : st[n]? with
    | none => simp [lstOf, e] at h
    | some c =>
      simp only [lstOf, e] at h
      obtain ⟨a, _, ea, ok⟩ := r.cell e
      cases c with
      | lst ys => cases h; exact ⟨a, ea, .inl (.inl ok), r.wf n _ e⟩
      | fro ys => cases h; exact ⟨a, ea, ok.sq, r.wf n _ e⟩
      | _ => cases h
  | _ => cases h
theorem tupOf_ok {K : PySem.W.Frag} (r : Rel G K φ st H) {v : HV} {xs : List HV} (h : tupOf st v = some xs) : ∃ a, toV G φ v = .ref a ∧ SqT K H a (xs.map (toV G φ)) ∧ H a = some (.tup (xs.map (toV G φ))) ∧ ∀ x ∈ xs, wfV st.length x := by
  cases v with
  | ref n =>
    cases e : st[n]? with
    | none => simp [tupOf, e] at h
    | some c =>
      simp only [tupOf, e] at h
      obtain ⟨a, _, ea, ok⟩ := r.cell e
      cases c with
      | tup ys => cases h; exact ⟨a, ea, .inl (.inl ok), ok, r.wf n _ e⟩
      | _ => cases h
  | _ => cases h
theorem seqOf_ok {K : PySem.W.Frag} (r : Rel G K φ st H) {v : HV} {xs : List HV} (h : seqOf st v = some xs) : ∃ a, toV G φ v = .ref a ∧ (SqL K H a (xs.map (toV G φ)) ∨ SqT K H a (xs.map (toV G φ))) ∧ ∀ x ∈ xs, wfV st.length x := by
  cases v with
  | ref n =>
    cases e : st[n]? with
    | none => simp [seqOf, e] at h
    | some c =>
      simp only [seqOf, e] at h
      obtain ⟨a, _, ea, ok⟩ := r.cell e
      cases c with
      | lst ys => cases h; exact ⟨a, ea, .inl (.inl (.inl ok)), r.wf n _ e⟩
      | fro ys => cases h; exact ⟨a, ea, .inl ok.sq, r.wf n _ e⟩
      | tup ys => cases h; exact ⟨a, ea, .inr (.inl (.inl ok)), r.wf n _ e⟩
      | _ => cases h
  | _ => cases h
theorem mutOf_ok {K : PySem.W.Frag} (r : Rel G K φ st H) {v : HV} {n : Nat} {xs : List HV} (h : mutOf st v = some (n, xs)) : ∃ a, v = .ref n ∧ st[n]? = some (.lst xs) ∧ φ[n]? = some a ∧ toV G φ v = .ref a ∧ H a = some (.lst (xs.map (toV G φ))) ∧ ∀ x ∈ xs, wfV st.length x := by
  cases v with
  | ref m =>
    cases e : st[m]? with
    | none => simp [mutOf, e] at h
    | some c =>
      simp only [mutOf, e] at h
      obtain ⟨a, e2, ea, ok⟩ := r.cell e
      cases c with
      | lst ys => cases h; exact ⟨a, rfl, e, e2, ea, ok, r.wf _ _ e⟩
      | _ => cases h
  | _ => cases h
theorem intsOf_map {φ : List Addr} : ∀ {xs : List HV} {ns : List Int}, intsOf xs = some ns → xs.map (toV G φ) = ns.map V.int
  | [], ns, h => by cases h; rfl
  | .int i :: r, ns, h => by
    unfold intsOf at h
    cases e : intsOf r with
    | none => rw [e] at h; cases h
    | some ms =>
      rw [e] at h
      cases h
      rw [List.map_cons, intsOf_map e]
      rfl
  | .non :: _, _, h => by cases h
  | .bl _ :: _, _, h => by cases h
  | .str _ :: _, _, h => by cases h
  | .ref _ :: _, _, h => by cases h
  | .fn _ :: _, _, h => by cases h
theorem blsOf_map {φ : List Addr} : ∀ {xs : List HV} {ns : List Bool}, blsOf xs = some ns → xs.map (toV G φ) = ns.map V.bl
  | [], ns, h => by cases h; rfl
  | .bl i :: r, ns, h => by
    unfold blsOf at h
    cases e : blsOf r with
    | none => rw [e] at h; cases h
    | some ms =>
      rw [e] at h
      cases h
      rw [List.map_cons, blsOf_map e]
      rfl
  | .non :: _, _, h => by cases h
  | .int _ :: _, _, h => by cases h
  | .str _ :: _, _, h => by cases h
  | .ref _ :: _, _, h => by cases h
  | .fn _ :: _, _, h => by cases h
mutual
theorem rdD_ok {K : PySem.W.Frag} (r : Rel G K φ st H) : ∀ (n : Nat) (v : HV) (d : PyData), rdD n st v = some d → Dp K H (toV G φ v) d
  | 0, v, d, h => by unfold rdD at h; cases h
  | n + 1, .non, d, h => by unfold rdD at h; cases h; exact .non
  | n + 1, .bl b, d, h => by unfold rdD at h; cases h; exact .bl b
  | n + 1, .int b, d, h => by unfold rdD at h; cases h; exact .int b
  | n + 1, .str b, d, h => by unfold rdD at h; cases h; exact .str b
  | n + 1, .fn b, d, h => by unfold rdD at h; cases h
  | n + 1, .ref a, d, h => by
    unfold rdD at h
    cases e : st[a]? with
    | none => simp only [e] at h; cases h
    | some c =>
      simp only [e] at h
      obtain ⟨b, _, ea, ok⟩ := r.cell e
      rw [ea]
      cases c with
      | lst xs =>
        simp only at h
        cases q : rdDs n st xs with
        | none => rw [q] at h; cases h
        | some ds =>
          rw [q] at h
          cases h
          exact .lst (.inl (.inl ok)) (rdDs_ok r n xs ds q)
      | fro xs =>
        simp only at h
        cases q : rdDs n st xs with
        | none => rw [q] at h; cases h
        | some ds =>
          rw [q] at h
          cases h
          exact .lst ok.sq (rdDs_ok r n xs ds q)
      | tup xs =>
        simp only at h
        cases q : rdDs n st xs with
        | none => rw [q] at h; cases h
        | some ds =>
          rw [q] at h
          cases h
          exact .tup (.inl (.inl ok)) (rdDs_ok r n xs ds q)
      | _ => cases h
theorem rdDs_ok {K : PySem.W.Frag} (r : Rel G K φ st H) : ∀ (n : Nat) (xs : List HV) (ds : List PyData), rdDs n st xs = some ds → DpAll K H (xs.map (toV G φ)) ds
  | 0, _, _, h => by unfold rdDs at h; cases h
  | n + 1, [], ds, h => by unfold rdDs at h; cases h; exact .nil
  | n + 1, x :: xs, ds, h => by
    unfold rdDs at h
    simp only at h
    cases e1 : rdD n st x with
    | none => rw [e1] at h; cases h
    | some d =>
      cases e2 : rdDs n st xs with
      | none => rw [e1, e2] at h; cases h
      | some es =>
        rw [e1, e2] at h
        cases h
        exact .cons (rdD_ok r n x d e1) (rdDs_ok r n xs es e2)
end
end
end Ih
end
section
set_option Elab.async false
set_option linter.all false
set_option maxHeartbeats 1000000
namespace Ih
open PySem PySem.Spec PyProof.Rows L2
section
variable {G : Gi} {X : Cx} {φ : List Addr} {st : Hs} {H : Hp}
def opB : Bop → Operator
  | .add => .Add | .sub => .Sub | .mul => .Mult | .fdv => .FloorDiv | .mod => .Mod | .pow => .Pow | .shl => .LShift
def rB : Bop → R2
  | .add => fun x y H Q => rI0 (fun i j => .int (i + j)) x y H Q ∨ rCat x y H Q
  | .sub => rI0 fun i j => .int (i - j)
  | .mul => fun x y H Q => rI CMul (fun i j => .int (i * j)) x y H Q ∨ rRep x y H Q
  | .fdv => rI CDiv fun i j => .int (i / j)
  | .mod => rI (fun _ j => 0 < j) fun i j => .int (i % j)
  | .pow => rI CPow fun i j => .int (i ^ j.toNat)
  | .shl => rI CPow fun i j => .int (i * 2 ^ j.toNat)
theorem op_B (b : Bop) : OpR X (binaryOp (opB b)) (rB b) := by
  cases b with
  | add => exact op_add.or op_cat
  | sub => exact op_sub
  | mul => exact op_mul.or op_rep
  | fdv => exact op_fdiv
  | mod => exact op_mod
  | pow => exact op_pow
  | shl => exact op_shl
theorem small64_ok {i : Int} (h : small64 i = true) : -(2 ^ 64) < i ∧ i < 2 ^ 64 := by
  exact small64_iff.mp h
theorem int_post {K : PySem.W.Frag} (r : Rel G K φ st H) {i : Int} {Q : VK} {rs : Res HV} (e : rs = .ok (.int i) st) (q : ∀ v H', Post G K φ rs v H' → Q v H') : Q (.int i) H := q _ _ (post_at r e True.intro rfl)
theorem bl_post {K : PySem.W.Frag} (r : Rel G K φ st H) {i : Bool} {Q : VK} {rs : Res HV} (e : rs = .ok (.bl i) st) (q : ∀ v H', Post G K φ rs v H' → Q v H') : Q (.bl i) H := q _ _ (post_at r e True.intro rfl)
theorem wf_app {n : Nat} {xs ys : List HV} (a : ∀ x ∈ xs, wfV n x) (b : ∀ x ∈ ys, wfV n x) : ∀ x ∈ xs ++ ys, wfV n x := fun x h => (List.mem_append.mp h).elim (a x) (b x)
theorem map_rep {α β : Type} (f : α → β) (xs : List α) : ∀ k : Nat, (List.replicate k (xs.map f)).flatten = ((List.replicate k xs).flatten).map f
  | 0 => rfl
  | k + 1 => by rw [List.replicate_succ, List.replicate_succ, List.flatten_cons, List.flatten_cons, List.map_append, map_rep f xs k]
theorem cat_run {K : PySem.W.Frag} (r : Rel G K φ st H) {a b : HV} {Q : VK} (hb : binH .add a b st ≠ .bad)
    (he : binH .add a b st = (match mutOf st a, mutOf st b with
      | some (_, xs), some (_, ys) => if xs.length + ys.length ≤ sizeLine then alloc (.lst (xs ++ ys)) st else .bad
      | _, _ => .bad)) (q : ∀ v H', Post G K φ (binH .add a b st) v H' → Q v H') : rCat (toV G φ a) (toV G φ b) H Q := by
  rw [he] at hb q
  cases e1 : mutOf st a with
  | none => rw [e1] at hb; exact (hb rfl).elim
  | some p =>
    cases e2 : mutOf st b with
    | none => rw [e1, e2] at hb; exact (hb rfl).elim
    | some p2 =>
      obtain ⟨n, xs⟩ := p
      obtain ⟨m, ys⟩ := p2
      rw [e1, e2] at hb q
      simp only at hb q
      split at hb
      · rename_i hz
        rw [if_pos hz] at q
        obtain ⟨a1, rfl, s1, f1, v1, h1, w1⟩ := mutOf_ok r e1
        obtain ⟨a2, rfl, s2, f2, v2, h2, w2⟩ := mutOf_ok r e2
        refine ⟨a1, a2, _, _, v1, v2, h1, h2, by rw [List.length_map, List.length_map]; exact hz, fun p hp => q _ _ ?_⟩
        rw [← List.map_append]
        exact post_lst r (wf_app w1 w2) hp
      · exact (hb rfl).elim
theorem rep_run {K : PySem.W.Frag} (r : Rel G K φ st H) {a : HV} {k : Int} {Q : VK} (hb : binH .mul a (.int k) st ≠ .bad)
    (he : binH .mul a (.int k) st = (match mutOf st a with
      | some (_, xs) => if geZ (2 ^ 63) k && (ltZ k (2 ^ 63) && decide (xs.length * k.toNat ≤ sizeLine)) then alloc (.lst (List.replicate k.toNat xs).flatten) st else .bad
      | _ => .bad)) (q : ∀ v H', Post G K φ (binH .mul a (.int k) st) v H' → Q v H') : rRep (toV G φ a) (.int k) H Q := by
  rw [he] at hb q
  cases e1 : mutOf st a with
  | none => rw [e1] at hb; exact (hb rfl).elim
  | some p =>
    obtain ⟨n, xs⟩ := p
    rw [e1] at hb q
    simp only at hb q
    split at hb
    · rename_i hz
      rw [if_pos hz] at q
      simp only [zfd, z6, zl63, zg63, Bool.and_eq_true, decide_eq_true_eq] at hz
      obtain ⟨a1, rfl, s1, f1, v1, h1, w1⟩ := mutOf_ok r e1
      refine ⟨a1, k, _, v1, rfl, h1, hz.1, hz.2.1, by rw [List.length_map]; exact hz.2.2, fun p hp => q _ _ ?_⟩
      rw [map_rep]
      refine post_lst r (fun x hx => ?_) hp
      obtain ⟨l, hl, hx2⟩ := List.mem_flatten.mp hx
      rw [(List.mem_replicate.mp hl).2] at hx2
      exact w1 x hx2
    · exact (hb rfl).elim
theorem binH_ok {K : PySem.W.Frag} (r : Rel G K φ st H) {op : Bop} {a b : HV} {Q : VK} (hb : binH op a b st ≠ .bad) (q : ∀ v H', Post G K φ (binH op a b st) v H' → Q v H') : rB op (toV G φ a) (toV G φ b) H Q := by
  cases op with
  | add =>
    cases a <;> cases b
    case int.int i j => exact .inl ⟨i, j, rfl, rfl, int_post r rfl q⟩
    all_goals exact .inr (cat_run r hb rfl q)
  | sub =>
    cases a <;> cases b
    case int.int i j => exact ⟨i, j, rfl, rfl, int_post r rfl q⟩
    all_goals exact (hb rfl).elim
  | mul =>
    cases b
    case int j =>
      cases a
      case int i =>
        simp only [binH] at hb q
        split at hb
        · rename_i hz
          rw [if_pos hz] at q
          refine .inl ⟨i, j, rfl, rfl, ?_, int_post r rfl q⟩
          rcases (Bool.or_eq_true _ _).mp hz with z | z
          · exact .inl (small64_ok z)
          · exact .inr (small64_ok z)
        · exact (hb rfl).elim
      all_goals exact .inr (rep_run r hb rfl q)
    all_goals cases a <;> exact (hb rfl).elim
  | fdv =>
    cases a <;> cases b
    case int.int i j =>
      simp only [binH] at hb q
      split at hb
      · rename_i hz
        rw [if_pos hz] at q
        simp only [zfd, z6, zl63, zg63, Bool.and_eq_true, decide_eq_true_eq] at hz
        exact ⟨i, j, rfl, rfl, hz, int_post r rfl q⟩
      · exact (hb rfl).elim
    all_goals exact (hb rfl).elim
  | mod =>
    cases a <;> cases b
    case int.int i j =>
      simp only [binH] at hb q
      split at hb
      · rename_i hz
        rw [if_pos hz] at q
        simp only [decide_eq_true_eq] at hz
        exact ⟨i, j, rfl, rfl, hz, int_post r rfl q⟩
      · exact (hb rfl).elim
    all_goals exact (hb rfl).elim
  | pow =>
    cases a <;> cases b
    case int.int i j =>
      simp only [binH] at hb q
      split at hb
      · rename_i hz
        rw [if_pos hz] at q
        simp only [zfd, z6, zl63, zg63, Bool.and_eq_true, decide_eq_true_eq] at hz
        exact ⟨i, j, rfl, rfl, hz, int_post r rfl q⟩
      · exact (hb rfl).elim
    all_goals exact (hb rfl).elim
  | shl =>
    cases a <;> cases b
    case int.int i j =>
      simp only [binH] at hb q
      split at hb
      · rename_i hz
        rw [if_pos hz] at q
        simp only [zfd, z6, zl63, zg63, Bool.and_eq_true, decide_eq_true_eq] at hz
        exact ⟨i, j, rfl, rfl, hz, int_post r rfl q⟩
      · exact (hb rfl).elim
    all_goals exact (hb rfl).elim
/-- what an operator tells that ends well is no exception -/
theorem binH_exc {op : Bop} {a b : HV} {c p st'} : binH op a b st ≠ .exc c p st' := by
  intro h
  unfold binH at h
  split at h <;> (try split at h) <;> (try split at h) <;> first | (cases h; done) | (unfold alloc at h; cases h)

def opC : Cop → CmpOp
  | .eq => .Eq | .ne => .NotEq | .lt => .Lt | .le => .LtE | .gt => .Gt | .ge => .GtE | .is => .Is | .isn => .IsNot | .inn => .In | .nin => .NotIn
def rC (K : PySem.W.Frag) : Cop → R2
  | .eq => rEqD K
  | .ne => rNeD K
  | .lt => rI0 fun i j => .bl (decide (i < j))
  | .le => rI0 fun i j => .bl (decide (i ≤ j))
  | .gt => rI0 fun i j => .bl (decide (j < i))
  | .ge => rI0 fun i j => .bl (decide (j ≤ i))
  | .is => fun x y H Q => y = .non ∧ Q (.bl (decide (x = .non))) H
  | .isn => fun x y H Q => y = .non ∧ Q (.bl (!decide (x = .non))) H
  | .inn => fun x y H Q => rInD K x y H Q ∨ rIn K false x y H Q
  | .nin => fun x y H Q => rNotInD K x y H Q ∨ rIn K true x y H Q
theorem op_C (hu : X.A.units + 65 < cLine) (c : Cop) : OpR X (compareOp (opC c)) (rC X.K c) := by
  cases c with
  | eq => exact op_eqD (by omega)
  | ne => exact op_neD (by omega)
  | lt => exact op_lt
  | le => exact op_le
  | gt => exact op_gt
  | ge => exact op_ge
  | is => exact op_isN
  | isn => exact op_notN
  | inn => exact (op_inD hu).or op_in_seq
  | nin => exact (op_notInD hu).or op_notIn_seq
theorem toV_non (a : HV) : decide (toV G φ a = V.non) = decide (a = .non) := by
  cases a with
  | non => rfl
  | _ => exact (decide_eq_false (fun z => by cases z)).trans (decide_eq_false (fun z => by cases z)).symm
theorem cmpH_inn {a b : HV} : cmpH .inn a b st = (match tupOf st b with
    | some xs => (match a.flat, flats xs with
      | some d, some ds => .ok (.bl (ds.any fun z => PyData.eqv z d)) st
      | _, _ => .bad)
    | none => (match rd st a, rd st b with
      | some d, some (.list ds) => if SeqAt.shaped d && SeqAt.shaped (.list ds) then .ok (.bl (ds.any fun z => PyData.eqv z d)) st else .bad
      | _, _ => .bad)) := by cases b <;> rfl
theorem cmpH_nin {a b : HV} : cmpH .nin a b st = (match tupOf st b with
    | some xs => (match a.flat, flats xs with
      | some d, some ds => .ok (.bl (!ds.any fun z => PyData.eqv z d)) st
      | _, _ => .bad)
    | none => (match rd st a, rd st b with
      | some d, some (.list ds) => if SeqAt.shaped d && SeqAt.shaped (.list ds) then .ok (.bl (!ds.any fun z => PyData.eqv z d)) st else .bad
      | _, _ => .bad)) := by cases b <;> rfl
theorem flat_ok {v : HV} {d : PyData} (h : v.flat = some d) : flatV (toV G φ v) = true := by cases v <;> first | rfl | cases h
theorem flat_eq {v w : HV} {d e : PyData} (h : v.flat = some d) (k : w.flat = some e) : eqV (toV G φ v) (toV G φ w) = PyData.eqv d e := by
  cases v <;> cases w <;> first | (cases h; done) | (cases k; done) | (cases h; cases k; rfl)
theorem flats_ok {a : HV} {d : PyData} (h : a.flat = some d) : ∀ {xs : List HV} {ds : List PyData}, flats xs = some ds → flatV (toV G φ a) = true ∧ (xs.map (toV G φ)).all flatV = true ∧ inV (toV G φ a) (xs.map (toV G φ)) = ds.any fun z => PyData.eqv z d
  | [], ds, e => by cases e; exact ⟨flat_ok h, rfl, rfl⟩
  | x :: r, ds, e => by
    unfold flats at e
    cases e1 : x.flat with
    | none => rw [e1] at e; cases e
    | some b =>
      cases e2 : flats r with
      | none => rw [e1, e2] at e; cases e
      | some bs =>
        rw [e1, e2] at e
        cases e
        obtain ⟨f1, f2, f3⟩ := flats_ok h e2
        refine ⟨f1, ?_, ?_⟩
        · rw [List.map_cons, List.all_cons, f2, flat_ok e1]
          rfl
        · rw [List.map_cons, List.any_cons, ← f3]
          show (eqV (toV G φ x) (toV G φ a) || _) = _
          rw [flat_eq e1 h]
          rfl
theorem cmpH_ok {K : PySem.W.Frag} (r : Rel G K φ st H) {op : Cop} {a b : HV} {Q : VK} (hb : cmpH op a b st ≠ .bad) (q : ∀ v H', Post G K φ (cmpH op a b st) v H' → Q v H') : rC K op (toV G φ a) (toV G φ b) H Q := by
  have two : ∀ {f : PyData → PyData → Bool} {R : Res HV}, R = (match rd st a, rd st b with
      | some d, some e => if SeqAt.shaped d && SeqAt.shaped e then .ok (.bl (f d e)) st else .bad
      | _, _ => .bad) → R ≠ .bad → (∀ v H', Post G K φ R v H' → Q v H') →
      ∃ d e, Dp K H (toV G φ a) d ∧ Dp K H (toV G φ b) e ∧ SeqAt.shaped d = true ∧ SeqAt.shaped e = true ∧ Q (.bl (f d e)) H := fun {f R} eR hb q => by
    subst eR
    cases e1 : rd st a with
    | none => rw [e1] at hb; exact (hb rfl).elim
    | some d =>
      cases e2 : rd st b with
      | none => rw [e1, e2] at hb; exact (hb rfl).elim
      | some e =>
        rw [e1, e2] at hb q
        simp only at hb q
        split at hb
        · rename_i hz
          rw [if_pos hz] at q
          rw [Bool.and_eq_true] at hz
          exact ⟨d, e, rdD_ok r _ _ _ e1, rdD_ok r _ _ _ e2, hz.1, hz.2, bl_post r rfl q⟩
        · exact (hb rfl).elim
  have inn : ∀ {f : PyData → List PyData → Bool} {R : Res HV}, R = (match rd st a, rd st b with
      | some d, some (.list ds) => if SeqAt.shaped d && SeqAt.shaped (.list ds) then .ok (.bl (f d ds)) st else .bad
      | _, _ => .bad) → R ≠ .bad → (∀ v H', Post G K φ R v H' → Q v H') →
      ∃ d ds, Dp K H (toV G φ a) d ∧ Dp K H (toV G φ b) (.list ds) ∧ SeqAt.shaped d = true ∧ SeqAt.shaped (.list ds) = true ∧ Q (.bl (f d ds)) H := fun {f R} eR hb q => by
    subst eR
    cases e1 : rd st a with
    | none => rw [e1] at hb; exact (hb rfl).elim
    | some d =>
      cases e2 : rd st b with
      | none => rw [e1, e2] at hb; exact (hb rfl).elim
      | some e =>
        rw [e1, e2] at hb q
        cases e with
        | list ds =>
          simp only at hb q
          split at hb
          · rename_i hz
            rw [if_pos hz] at q
            rw [Bool.and_eq_true] at hz
            exact ⟨d, ds, rdD_ok r _ _ _ e1, rdD_ok r _ _ _ e2, hz.1, hz.2, bl_post r rfl q⟩
          · exact (hb rfl).elim
        | _ => exact (hb rfl).elim
  cases op with
  | eq => exact two (f := fun d e => PyData.eqv d e) rfl hb q
  | ne => exact two (f := fun d e => !PyData.eqv d e) rfl hb q
  | lt =>
    cases a <;> cases b
    case int.int i j => exact ⟨i, j, rfl, rfl, bl_post r rfl q⟩
    all_goals exact (hb rfl).elim
  | le =>
    cases a <;> cases b
    case int.int i j => exact ⟨i, j, rfl, rfl, bl_post r rfl q⟩
    all_goals exact (hb rfl).elim
  | gt =>
    cases a <;> cases b
    case int.int i j => exact ⟨i, j, rfl, rfl, bl_post r rfl q⟩
    all_goals exact (hb rfl).elim
  | ge =>
    cases a <;> cases b
    case int.int i j => exact ⟨i, j, rfl, rfl, bl_post r rfl q⟩
    all_goals exact (hb rfl).elim
  | is =>
    cases b
    case non =>
      refine ⟨rfl, ?_⟩
      rw [toV_non]
      exact bl_post r (by cases a <;> rfl) q
    all_goals cases a <;> exact (hb rfl).elim
  | isn =>
    cases b
    case non =>
      refine ⟨rfl, ?_⟩
      rw [toV_non]
      exact bl_post r (by cases a <;> rfl) q
    all_goals cases a <;> exact (hb rfl).elim
  | inn =>
    cases e : tupOf st b with
    | none =>
      have ec : cmpH .inn a b st = (match rd st a, rd st b with
        | some d, some (.list ds) => if SeqAt.shaped d && SeqAt.shaped (.list ds) then .ok (.bl (ds.any fun z => PyData.eqv z d)) st else .bad
        | _, _ => .bad) := by rw [cmpH_inn, e]
      exact .inl (inn (f := fun d ds => ds.any fun z => PyData.eqv z d) ec hb q)
    | some xs =>
      obtain ⟨p, ep, hs, _, _⟩ := tupOf_ok r e
      have ec : cmpH .inn a b st = (match a.flat, flats xs with
        | some d, some ds => .ok (.bl (ds.any fun z => PyData.eqv z d)) st
        | _, _ => .bad) := by rw [cmpH_inn, e]
      rw [ec] at hb q
      cases e1 : a.flat with
      | none => rw [e1] at hb; exact (hb rfl).elim
      | some d =>
        cases e2 : flats xs with
        | none => rw [e1, e2] at hb; exact (hb rfl).elim
        | some ds =>
          rw [e1, e2] at q
          obtain ⟨f1, f2, f3⟩ := flats_ok (G := G) (φ := φ) e1 e2
          refine .inr ⟨p, _, ep, .inr hs, f1, f2, ?_⟩
          rw [if_neg Bool.false_ne_true, f3]
          exact bl_post r rfl q
  | nin =>
    cases e : tupOf st b with
    | none =>
      have ec : cmpH .nin a b st = (match rd st a, rd st b with
        | some d, some (.list ds) => if SeqAt.shaped d && SeqAt.shaped (.list ds) then .ok (.bl (!ds.any fun z => PyData.eqv z d)) st else .bad
        | _, _ => .bad) := by rw [cmpH_nin, e]
      exact .inl (inn (f := fun d ds => !ds.any fun z => PyData.eqv z d) ec hb q)
    | some xs =>
      obtain ⟨p, ep, hs, _, _⟩ := tupOf_ok r e
      have ec : cmpH .nin a b st = (match a.flat, flats xs with
        | some d, some ds => .ok (.bl (!ds.any fun z => PyData.eqv z d)) st
        | _, _ => .bad) := by rw [cmpH_nin, e]
      rw [ec] at hb q
      cases e1 : a.flat with
      | none => rw [e1] at hb; exact (hb rfl).elim
      | some d =>
        cases e2 : flats xs with
        | none => rw [e1, e2] at hb; exact (hb rfl).elim
        | some ds =>
          rw [e1, e2] at q
          obtain ⟨f1, f2, f3⟩ := flats_ok (G := G) (φ := φ) e1 e2
          refine .inr ⟨p, _, ep, .inr hs, f1, f2, ?_⟩
          rw [if_pos rfl, f3]
          exact bl_post r rfl q
/-- a comparison tells a bool -/
theorem cmpH_bl {op : Cop} {a b v : HV} {st' : Hs} (h : cmpH op a b st = .ok v st') : ∃ k, v = .bl k ∧ st' = st := by
  unfold cmpH at h
  split at h <;> (repeat' split at h) <;> first | (cases h; exact ⟨_, rfl, rfl⟩) | (cases h; done)
theorem cmpH_exc {op : Cop} {a b : HV} {c p st'} : cmpH op a b st ≠ .exc c p st' := by
  intro h
  unfold cmpH at h
  split at h <;> (repeat' split at h) <;> (cases h; done)

theorem tru_ok' {K : PySem.W.Frag} (r : Rel G K φ st H) {v : HV} {k : Bool} (h : tru st v = some k) : TruV K (toV G φ v) H k := by
  cases v with
  | non => cases h; rfl
  | bl b => cases h; rfl
  | int i => cases h; rfl
  | str s =>
    simp only [tru] at h
    split at h
    · rename_i hz
      cases h
      exact ⟨hz, rfl⟩
    · cases h
  | fn g => cases h
  | ref n =>
    simp only [tru] at h
    cases e : st[n]? with
    | none => simp [e] at h
    | some c =>
      obtain ⟨a, _, ea, ok⟩ := r.cell e
      simp only [e] at h
      rw [ea]
      have em : ∀ xs : List HV, (!(xs.map (toV G φ)).isEmpty) = !xs.isEmpty := fun xs => by cases xs <;> rfl
      cases c with
      | lst xs => cases h; exact .inl ⟨_, .inl (.inl ok), (em xs).symm⟩
      | fro xs => cases h; exact .inl ⟨_, ok.sq, (em xs).symm⟩
      | tup xs => cases h; exact .inr (.inl ⟨_, .inl (.inl ok), (em xs).symm⟩)
      | dic kvs => cases h; exact .inr (.inr ⟨_, ok, by cases kvs <;> rfl⟩)
      | dead => cases h

theorem atI_map {α β : Type} (f : α → β) {xs : List α} {i : Int} {v : α} (h : L2.atI xs i = some v) : L2.atI (xs.map f) i = some (f v) := by
  unfold L2.atI at h ⊢
  rw [List.length_map]
  cases e : L2.ixN xs.length i with
  | none => rw [e] at h; cases h
  | some j =>
    rw [e] at h
    have h : xs[j]? = some v := h
    show (xs.map f)[j]? = _
    rw [List.getElem?_map, h]
    rfl
theorem atI_mem {α : Type} {xs : List α} {i : Int} {v : α} (h : L2.atI xs i = some v) : v ∈ xs := by
  unfold L2.atI at h
  cases e : L2.ixN xs.length i with
  | none => rw [e] at h; cases h
  | some j =>
    rw [e] at h
    exact List.mem_of_getElem? h
theorem subH_ok {K : PySem.W.Frag} (r : Rel G K φ st H) {a i : HV} {Q : VK} (hb : subH a i st ≠ .bad) (q : ∀ v H', Post G K φ (subH a i st) v H' → Q v H') : rIx K (toV G φ a) (toV G φ i) H Q := by
  have sq : ∀ {k : Int}, i = .int k → subH a i st = (match seqOf st a with
      | some xs => (match L2.atI xs k with
        | some v => .ok v st
        | none => .bad)
      | none => .bad) → rIx K (toV G φ a) (toV G φ i) H Q := fun {k} ei he => by
    subst ei
    rw [he] at hb q
    cases e1 : seqOf st a with
    | none => rw [e1] at hb; exact (hb rfl).elim
    | some xs =>
      rw [e1] at hb q
      simp only at hb q
      cases e2 : L2.atI xs k with
      | none => rw [e2] at hb; exact (hb rfl).elim
      | some v =>
        rw [e2] at hb q
        obtain ⟨b, eb, hs, w⟩ := seqOf_ok r e1
        have hv := q _ _ (post_at r rfl (w v (atI_mem e2)) rfl)
        rcases hs with hs | hs
        · exact .inl ⟨b, _, k, _, eb, rfl, hs, atI_map _ e2, hv⟩
        · exact .inr (.inl ⟨b, _, k, _, eb, rfl, hs, atI_map _ e2, hv⟩)
  cases i with
  | int k =>
    cases a with
    | str z =>
      simp only [subH] at hb q
      split at hb
      · rename_i hz
        rw [if_pos hz] at q
        cases e2 : L2.atI z.cps.toList k with
        | none => rw [e2] at hb; exact (hb rfl).elim
        | some c =>
          rw [e2] at hb q
          exact .inr (.inr ⟨z, k, c, rfl, rfl, hz, e2, q _ _ (post_at r rfl True.intro rfl)⟩)
      · exact (hb rfl).elim
    | _ => exact sq rfl rfl
  | _ => cases a <;> exact (hb rfl).elim
def rSl (K : PySem.W.Frag) : V → Option Int → Option Int → Hp → VK → Prop := fun x lo hi H Q => rSlL K x lo hi H Q ∨ rSlA K x lo hi H Q
theorem sl_S : SlR X (rSl X.K) := sl_list.or sl_tupA
theorem cutL_map {α β : Type} (f : α → β) (xs : List α) (lo hi : Option Int) : cutL (xs.map f) lo hi = (cutL xs lo hi).map f := by
  unfold cutL
  rw [List.length_map, List.map_take, List.map_drop]
theorem cutV_eq (xs : List V) (lo hi : Option Int) : cutV xs lo hi = cutL xs lo hi := rfl
theorem cutL_mem {α : Type} {xs : List α} {lo hi : Option Int} {x : α} (h : x ∈ cutL xs lo hi) : x ∈ xs := List.mem_of_mem_drop (List.mem_of_mem_take h)
theorem slcH_ok {K : PySem.W.Frag} (r : Rel G K φ st H) {a : HV} {lo hi : Option Int} {Q : VK} (hb : slcH a lo hi st ≠ .bad) (q : ∀ v H', Post G K φ (slcH a lo hi st) v H' → Q v H') : rSl K (toV G φ a) lo hi H Q := by
  unfold slcH at hb q
  cases e1 : lstOf st a with
  | some xs =>
    rw [e1] at hb q
    simp only at hb q
    obtain ⟨b, eb, hs, w⟩ := lstOf_ok r e1
    refine .inl ⟨b, _, eb, hs, fun p hp => q _ _ ?_⟩
    rw [cutV_eq, cutL_map]
    exact post_lst r (fun x hx => w x (cutL_mem hx)) hp
  | none =>
    rw [e1] at hb q
    simp only at hb q
    cases e2 : tupOf st a with
    | none => rw [e2] at hb; exact (hb rfl).elim
    | some xs =>
      rw [e2] at hb q
      simp only at hb q
      obtain ⟨b, eb, hs, _, w⟩ := tupOf_ok r e2
      refine .inr ⟨b, _, eb, hs, fun hw => ?_, fun hw p hp => ?_⟩
      · rw [List.length_map] at hw
        rw [if_pos hw] at q
        have z : wfV st.length a := by
          cases a with
          | ref n =>
            show n < st.length
            cases e : st[n]? with
            | none => simp [tupOf, e] at e2
            | some c => exact (List.getElem?_eq_some_iff.mp e).1
          | _ => exact True.intro
        exact q _ _ (post_at r rfl z eb.symm)
      · rw [List.length_map] at hw
        rw [if_neg hw] at q
        refine q _ _ ?_
        rw [cutV_eq, cutL_map]
        exact post_tup r (fun x hx => w x (cutL_mem hx)) hp
end
end Ih
end
section
set_option Elab.async false
set_option linter.all false
set_option maxHeartbeats 1000000
namespace Ih
open PySem PySem.Spec PyProof.Rows L2
theorem insI_perm (x : Int) : ∀ l : List Int, (insI x l).Perm (x :: l)
  | [] => .refl _
  | y :: r => by
    unfold insI
    split
    · exact .refl _
    · exact ((insI_perm x r).cons y).trans (List.Perm.swap x y r)
theorem sortI_perm : ∀ l : List Int, (sortI l).Perm l
  | [] => .refl _
  | x :: r => (insI_perm x (sortI r)).trans ((sortI_perm r).cons x)
theorem insI_sorted (x : Int) : ∀ l : List Int, l.Pairwise (· ≤ ·) → (insI x l).Pairwise (· ≤ ·)
  | [], _ => List.pairwise_singleton _ _
  | y :: r, h => by
    unfold insI
    split
    · rename_i hx
      refine List.pairwise_cons.mpr ⟨fun z hz => ?_, h⟩
      rcases List.mem_cons.mp hz with e | hz
      · rw [e]; exact hx
      · exact Int.le_trans hx ((List.pairwise_cons.mp h).1 z hz)
    · rename_i hx
      refine List.pairwise_cons.mpr ⟨fun z hz => ?_, insI_sorted x r (List.pairwise_cons.mp h).2⟩
      rcases List.mem_cons.mp ((insI_perm x r).mem_iff.mp hz) with e | hz
      · rw [e]; omega
      · exact (List.pairwise_cons.mp h).1 z hz
theorem sortI_sorted : ∀ l : List Int, (sortI l).Pairwise (· ≤ ·)
  | [] => .nil
  | x :: r => insI_sorted x _ (sortI_sorted r)
theorem sort_uniq {ns ms : List Int} (p : ms.Perm ns) (s : ms.Pairwise (· ≤ ·)) : ms = sortI ns :=
  List.Perm.eq_of_pairwise (fun a b _ _ h1 h2 => Int.le_antisymm h1 h2) s (sortI_sorted ns) (p.trans (sortI_perm ns).symm)
theorem maxI_spec : ∀ (l : List Int) (m : Int), maxI m l ∈ m :: l ∧ ∀ y ∈ m :: l, y ≤ maxI m l
  | [], m => by
    refine ⟨List.mem_cons_self, fun y h => ?_⟩
    rcases List.mem_cons.mp h with e | e
    · rw [e]; exact Int.le_refl _
    · cases e
  | x :: r, m => by
    unfold maxI
    obtain ⟨h1, h2⟩ := maxI_spec r (if x > m then x else m)
    refine ⟨?_, fun y hy => ?_⟩
    · rcases List.mem_cons.mp h1 with e | e
      · rw [e]
        split
        · exact List.mem_cons_of_mem _ List.mem_cons_self
        · exact List.mem_cons_self
      · exact List.mem_cons_of_mem _ (List.mem_cons_of_mem _ e)
    · have z := h2 _ List.mem_cons_self
      rcases List.mem_cons.mp hy with e | hy
      · rw [e]
        refine Int.le_trans ?_ z
        split <;> omega
      · rcases List.mem_cons.mp hy with e | hy
        · rw [e]
          refine Int.le_trans ?_ z
          split <;> omega
        · exact h2 y (List.mem_cons_of_mem _ hy)
theorem minI_spec : ∀ (l : List Int) (m : Int), minI m l ∈ m :: l ∧ ∀ y ∈ m :: l, minI m l ≤ y
  | [], m => by
    refine ⟨List.mem_cons_self, fun y h => ?_⟩
    rcases List.mem_cons.mp h with e | e
    · rw [e]; exact Int.le_refl _
    · cases e
  | x :: r, m => by
    unfold minI
    obtain ⟨h1, h2⟩ := minI_spec r (if x < m then x else m)
    refine ⟨?_, fun y hy => ?_⟩
    · rcases List.mem_cons.mp h1 with e | e
      · rw [e]
        split
        · exact List.mem_cons_of_mem _ List.mem_cons_self
        · exact List.mem_cons_self
      · exact List.mem_cons_of_mem _ (List.mem_cons_of_mem _ e)
    · have z := h2 _ List.mem_cons_self
      rcases List.mem_cons.mp hy with e | hy
      · rw [e]
        refine Int.le_trans z ?_
        split <;> omega
      · rcases List.mem_cons.mp hy with e | hy
        · rw [e]
          refine Int.le_trans z ?_
          split <;> omega
        · exact h2 y (List.mem_cons_of_mem _ hy)
theorem lexLe_eq {p q : Int × Int} : lexLe p q = !SrtO.lexB q p := by
  unfold lexLe SrtO.lexB
  by_cases h : p.1 = q.1
  · rw [if_pos h, if_pos h.symm]
    by_cases h2 : p.2 ≤ q.2
    · rw [decide_eq_true h2, decide_eq_false (by omega)]
      rfl
    · rw [decide_eq_false h2, decide_eq_true (by omega)]
      rfl
  · rw [if_neg h, if_neg fun e => h e.symm]
    by_cases h2 : p.1 < q.1
    · rw [decide_eq_true h2, decide_eq_false (by omega)]
      rfl
    · rw [decide_eq_false h2, decide_eq_true (by omega)]
      rfl
theorem insK_perm {α : Type} (k : α → Int × Int) (x : α) : ∀ l : List α, (insK k x l).Perm (x :: l)
  | [] => .refl _
  | y :: r => by
    unfold insK
    split
    · exact .refl _
    · exact ((insK_perm k x r).cons y).trans (.swap x y r)
theorem sortK_perm {α : Type} (k : α → Int × Int) : ∀ l : List α, (sortK k l).Perm l
  | [] => .refl _
  | x :: r => (insK_perm k x _).trans ((sortK_perm k r).cons x)
abbrev ltK {α : Type} (k : α → Int × Int) (x y : α) : Bool := SrtO.lexB (k x) (k y)
theorem ltK_swo {α : Type} (k : α → Int × Int) : SrtO.Swo (ltK k) := by
  refine ⟨fun x y h => ?_, fun x y z h1 h2 => ?_⟩
  · have h := SrtO.lexB_iff.mp h
    exact SrtO.lexB_no.mpr (by omega)
  · have h1 := SrtO.lexB_no.mp h1
    have h2 := SrtO.lexB_no.mp h2
    exact SrtO.lexB_no.mpr (by omega)
theorem insK_srtd {α : Type} (k : α → Int × Int) (x : α) : ∀ {l : List α}, SrtO.Srtd (ltK k) l → SrtO.Srtd (ltK k) (insK k x l)
  | [], _ => List.pairwise_singleton _ _
  | y :: r, h => by
    obtain ⟨h1, h2⟩ := List.pairwise_cons.mp h
    unfold insK
    split
    · rename_i q
      rw [lexLe_eq, Bool.not_eq_true'] at q
      refine List.pairwise_cons.mpr ⟨fun z hz => ?_, h⟩
      rcases List.mem_cons.mp hz with rfl | hz
      · exact q
      · exact (ltK_swo k).tr x y z q (h1 z hz)
    · rename_i q
      rw [lexLe_eq, Bool.not_eq_true', Bool.not_eq_false] at q
      refine List.pairwise_cons.mpr ⟨fun z hz => ?_, insK_srtd k x h2⟩
      rcases List.mem_cons.mp ((insK_perm k x r).mem_iff.mp hz) with rfl | hz
      · exact (ltK_swo k).asym _ _ q
      · exact h1 z hz
theorem sortK_srtd {α : Type} (k : α → Int × Int) : ∀ l : List α, SrtO.Srtd (ltK k) (sortK k l)
  | [] => .nil
  | x :: r => insK_srtd k x (sortK_srtd k r)
theorem insK_cls {α : Type} (k : α → Int × Int) (x u : α) : ∀ l : List α, (insK k x l).filter (SrtO.eqv (ltK k) u) = (x :: l).filter (SrtO.eqv (ltK k) u)
  | [] => rfl
  | y :: r => by
    unfold insK
    split
    · rfl
    · rename_i q
      rw [lexLe_eq, Bool.not_eq_true', Bool.not_eq_false] at q
      have ih := insK_cls k x u r
      rw [List.filter_cons, ih, List.filter_cons, List.filter_cons, List.filter_cons]
      cases ey : SrtO.eqv (ltK k) u y with
      | false => simp
      | true =>
        cases ex : SrtO.eqv (ltK k) u x with
        | false => simp
        | true =>
          obtain ⟨a1, a2⟩ := SrtO.eqv_iff.mp ey
          obtain ⟨b1, b2⟩ := SrtO.eqv_iff.mp ex
          have z := (ltK_swo k).tr x u y b1 a2
          have q : ltK k y x = true := q
          rw [z] at q
          cases q
theorem sortK_stb {α : Type} (k : α → Int × Int) : ∀ l : List α, SrtO.Stb (ltK k) (sortK k l) l
  | [] => ⟨.refl _, fun _ => rfl⟩
  | x :: r => ⟨sortK_perm k _, fun u => by
    have ih := (sortK_stb k r).cls u
    rw [sortK, insK_cls, List.filter_cons, List.filter_cons, ih]⟩
theorem sort_prs {L : List (HV × (Int × Int))} {f : HV → V} {k : V → Int × Int} {ys : List V} (hk : ∀ z ∈ L, k (f z.1) = z.2) (h1 : SrtO.Srtd (ltP k) ys) (h2 : SrtO.Stb (ltP k) ys (L.map fun z => f z.1)) : ys = ((sortK (fun z => z.2) L).map fun z => z.1).map f := by
  have O : SrtO.Swo (ltP k) := ltP_swo k
  have em : ((sortK (fun z : HV × (Int × Int) => z.2) L).map fun z => z.1).map f = (sortK (fun z => z.2) L).map fun z => f z.1 := by rw [List.map_map]; rfl
  rw [em]
  have hs : SrtO.Srtd (ltP k) ((sortK (fun z => z.2) L).map fun z => f z.1) := by
    refine List.pairwise_map.mpr ((sortK_srtd (fun z : HV × (Int × Int) => z.2) L).imp_of_mem fun {a b} ha hb h => ?_)
    have ka := hk a ((sortK_perm _ L).mem_iff.mp ha)
    have kb := hk b ((sortK_perm _ L).mem_iff.mp hb)
    show SrtO.lexB (k (f b.1)) (k (f a.1)) = false
    rw [ka, kb]
    exact h
  have hb : SrtO.Stb (ltP k) ((sortK (fun z => z.2) L).map fun z => f z.1) (L.map fun z => f z.1) := by
    refine ⟨(sortK_perm _ L).map _, fun u => ?_⟩
    have key : ∀ l : List (HV × (Int × Int)), (∀ z ∈ l, z ∈ L) → (l.map fun z => f z.1).filter (SrtO.eqv (ltP k) u) = (l.filter fun z => SrtO.eqv (fun p q => SrtO.lexB p q) (k u) z.2).map fun z => f z.1 := fun l hl => by
      rw [List.filter_map]
      congr 1
      refine List.filter_congr fun z hz => ?_
      show (!SrtO.lexB (k u) (k (f z.1)) && !SrtO.lexB (k (f z.1)) (k u)) = _
      rw [hk z (hl z hz)]
      rfl
    rw [key _ fun z hz => (sortK_perm _ L).mem_iff.mp hz, key _ fun z hz => hz]
    congr 1
    by_cases ex : ∃ z ∈ L, SrtO.eqv (fun p q => SrtO.lexB p q) (k u) z.2 = true
    · obtain ⟨w, hw, e⟩ := ex
      have sw : SrtO.Swo (fun p q : Int × Int => SrtO.lexB p q) := ltK_swo (fun p => p)
      have ec : (fun z : HV × (Int × Int) => SrtO.eqv (fun p q => SrtO.lexB p q) (k u) z.2) = SrtO.eqv (ltK fun z : HV × (Int × Int) => z.2) w := funext fun z => SrtO.eqv_trans sw e
      rw [ec]
      exact (sortK_stb (fun z : HV × (Int × Int) => z.2) L).cls w
    · have no : ∀ l : List (HV × (Int × Int)), (∀ z ∈ l, z ∈ L) → (l.filter fun z => SrtO.eqv (fun p q => SrtO.lexB p q) (k u) z.2) = [] := fun l hl => List.filter_eq_nil_iff.mpr fun z hz q => ex ⟨z, hl z hz, q⟩
      rw [no _ fun z hz => (sortK_perm _ L).mem_iff.mp hz, no L fun z hz => hz]
  exact SrtO.stb_uniq O h1 hs (h2.trans ⟨hb.perm.symm, fun u => (hb.cls u).symm⟩)
/-- the pair that a value is, in the heap -/
def prV (H : Hp) : V → Int × Int
  | .ref t => (match H t with
    | some (.tup [.int a, .int b]) => (a, b)
    | _ => (0, 0))
  | _ => (0, 0)
theorem truth_ints {prog : Program} {w : World} {A : Around} {its : List Value} {ns : List Int} (h : IntsAre its ns) : TruthOf prog w A (fun i v => its.toArray[i]? = some v) (fun i => (ns.map fun n => n != 0).getD i false) := by
  intro i v s Q E hv hq
  have key : ∀ (its : List Value) (ns : List Int) (i : Nat), IntsAre its ns → its[i]? = some v → ∃ n t, v = .int n t ∧ ns[i]? = some n := by
    intro its ns i h
    induction h generalizing i with
    | nil => intro e; simp at e
    | cons n t h ih =>
      intro e
      cases i with
      | zero => exact ⟨n, t, (Option.some.inj e).symm, rfl⟩
      | succ j => exact ih j e
  obtain ⟨n, t, rfl, hn⟩ := key its ns i h (by simpa using hv)
  have hg : (ns.map fun n => n != 0).getD i false = (n != 0) := by rw [List.getD_eq_getElem?_getD, List.getElem?_map, hn]; rfl
  have hq' : Q ((ns.map fun n => n != 0).getD i false) s := hq
  rw [hg] at hq'
  exact PyProof.Rows.truthy_int hq'
def rAllI (K : PySem.W.Frag) : List V → Hp → VK → Prop := fun vs H Q => ∃ (a : Addr) (ns : List Int), vs = [V.ref a] ∧ SqL K H a (ns.map V.int) ∧ Q (.bl (ns.all fun i => i != 0)) H
theorem cr_allI {X : Cx} (hc : X.calm = true) : CallR X (.builtin "all") (rAllI X.K) := by
  intro pins s σ H vs us Q I r ⟨a, ns, e, hs, q⟩
  subst e
  obtain ⟨its, rv, hl, _⟩ := I.list hs
  have hi := Vals.ints rv
  rw [Vals.ref1 r]
  refine call_all_walk (iter_any hl.isList fun s₂ e2 st hne => ?_)
  subst e2
  refine ⟨_, _, _, _, _, _, _, rfl, Walks.list (A := X.A.in1) (I.ok.hd hc) _ a hne its.toArray, st, truth_ints hi, fun h' tk hk => ⟨.bl _, H, I.kept fun b o eo => hk b o (fun hm => ?_) (Heap.get?_push_of_some _ eo), ?_, q⟩⟩
  · rcases List.mem_cons.mp hm with e1 | hm
    · exact absurd (e1 ▸ Heap.lt_size eo) (Nat.lt_irrefl _)
    · exact (List.not_mem_nil hm).elim
  · have e3 : (ns.all fun i => i != 0) = (ns.map fun n => n != 0).all id := by rw [List.all_map]; rfl
    show Value.bool _ = Value.bool _
    rw [e3, ← L2.all_range, List.size_toArray, List.length_map, ← hi.length]
/-- the callee of a built-in: a type or a function -/
def biV : Bi → Bool × String
  | .len => (false, "len") | .abs => (false, "abs") | .int => (true, "int") | .sum => (false, "sum") | .any => (false, "any") | .all => (false, "all")
  | .list => (true, "list") | .tuple => (true, "tuple") | .sorted => (false, "sorted") | .max1 => (false, "max") | .min1 => (false, "min") | .max2 => (false, "max") | .min2 => (false, "min")
  | .lrg1 => (true, "?") | .lrg2 => (true, "?") | .dict => (true, "dict") | .litm => (true, "?")
def biVal (b : Bi) : Value := if (biV b).1 then .type (biV b).2 else .builtin (biV b).2
def rBi (K : PySem.W.Frag) : Bi → List V → Hp → VK → Prop
  | .len => fun xs H Q => ∃ x n, xs = [x] ∧ LenV K x H n ∧ Q (.int n) H
  | .abs => fun xs H Q => ∃ i, xs = [.int i] ∧ Q (.int (if i < 0 then -i else i)) H
  | .int => fun xs H Q => (∃ i, xs = [.int i] ∧ Q (.int i) H) ∨ ∃ k, xs = [.bl k] ∧ Q (.int (if k then 1 else 0)) H
  | .max2 => fun xs H Q => ∃ i j, xs = [.int i, .int j] ∧ Q (.int (if j > i then j else i)) H
  | .min2 => fun xs H Q => ∃ i j, xs = [.int i, .int j] ∧ Q (.int (if j < i then j else i)) H
  | .sum => rSum K
  | .any => rAny K
  | .all => fun xs H Q => rAll K xs H Q ∨ rAllI K xs H Q
  | .max1 => rMax K
  | .min1 => rMin K
  | .list => fun xs H Q => ∃ p ys, xs = [.ref p] ∧ (SqL K H p ys ∨ SqT K H p ys) ∧ ∀ l, H l = none → Q (.ref l) (upd H l (.lst ys))
  | .tuple => fun xs H Q => ∃ p ys, xs = [.ref p] ∧ ((SqL K H p ys ∧ ∀ l, H l = none → Q (.ref l) (upd H l (.tup ys))) ∨ (SqT K H p ys ∧ Q (.ref p) H))
  | .sorted => fun xs H Q => rSortedI K xs H Q ∨ rSortedPO K xs H Q
  | .dict => fun xs H Q => ∃ a, xs = [.ref a] ∧ SqL K H a [] ∧ ∀ p, H p = none → Q (.ref p) (upd H p (.dK []))
  | _ => fun _ _ _ => False
theorem call_Bi {X : Cx} (hc : X.calm = true) (b : Bi) (hb : (biV b).2 ≠ "?") : CallR X (biVal b) (rBi X.K b) := by
  cases b with
  | len => exact call_len
  | abs => exact call_abs
  | int => exact call_int1
  | sum => exact cr_sum hc
  | any => exact cr_any hc
  | all =>
    intro pins s σ H xs us Q I r h
    rcases h with h | h
    · exact cr_all hc pins s σ H xs us Q I r h
    · exact cr_allI hc pins s σ H xs us Q I r h
  | list => exact call_list_of
  | tuple => exact call_tuple_of
  | sorted =>
    intro pins s σ H xs us Q I r h
    rcases h with h | h
    · exact cr_sortedI pins s σ H xs us Q I r h
    · exact cr_sortedPO pins s σ H xs us Q I r h
  | max1 => exact cr_max hc
  | min1 => exact cr_min hc
  | max2 => exact call_max2 hc
  | min2 => exact call_min2 hc
  | dict => exact fun pins s σ H xs us Q I r ⟨a, e, h, q⟩ => call_dictP hc pins s σ H xs us Q I r ⟨a, [], [], e, h, .nil, q⟩
  | _ => exact absurd rfl hb
section
variable {G : Gi} {φ : List Addr} {st : Hs} {H : Hp} {K : PySem.W.Frag}
theorem prs_all (r : Rel G K φ st H) : ∀ {xs : List HV} {ps : List (Int × Int)}, prsOf st xs = some ps → xs.length = ps.length ∧ ∀ z ∈ xs.zip ps, ∃ t, toV G φ z.1 = .ref t ∧ H t = some (.tup [.int z.2.1, .int z.2.2])
  | [], ps, e => by cases e; exact ⟨rfl, fun _ h => (List.not_mem_nil h).elim⟩
  | x :: xs, ps, e => by
    unfold prsOf at e
    split at e
    · rename_i a b qs e1 e2
      cases e
      obtain ⟨l, ih⟩ := prs_all r e2
      obtain ⟨t, et, _, ht, _⟩ := tupOf_ok r e1
      refine ⟨by rw [List.length_cons, List.length_cons, l], fun z hz => ?_⟩
      rw [List.zip_cons_cons] at hz
      rcases List.mem_cons.mp hz with rfl | hz
      · exact ⟨t, et, ht⟩
      · exact ih z hz
    · cases e
theorem prs_key (r : Rel G K φ st H) {xs : List HV} {ps : List (Int × Int)} (e : prsOf st xs = some ps) : ∃ k : V → Int × Int, (∀ x ∈ xs.map (toV G φ), ∃ t, x = V.ref t ∧ H t = some (.tup [.int (k x).1, .int (k x).2])) ∧ (xs.map (toV G φ) = (xs.zip ps).map fun z => toV G φ z.1) ∧ ∀ z ∈ xs.zip ps, k (toV G φ z.1) = z.2 := by
  obtain ⟨l, h⟩ := prs_all r e
  have kz : ∀ z ∈ xs.zip ps, prV H (toV G φ z.1) = z.2 := fun z hz => by
    obtain ⟨t, et, ht⟩ := h z hz
    rw [et]
    unfold prV
    dsimp only
    rw [ht]
  have em : xs.map (toV G φ) = (xs.zip ps).map fun z => toV G φ z.1 := by
    have : (xs.zip ps).map (fun z => z.1) = xs := List.map_fst_zip (by omega)
    conv => lhs; rw [← this]
    rw [List.map_map]
    rfl
  refine ⟨prV H, fun x hx => ?_, em, kz⟩
  rw [em] at hx
  obtain ⟨z, hz, rfl⟩ := List.mem_map.mp hx
  obtain ⟨t, et, ht⟩ := h z hz
  refine ⟨t, et, ?_⟩
  rw [kz z hz]
  exact ht
theorem wfV_at {v : HV} {xs : List HV} (h : seqOf st v = some xs) : wfV st.length v := by
  cases v with
  | ref n =>
    show n < st.length
    cases e : st[n]? with
    | none => simp [seqOf, e] at h
    | some c => exact (List.getElem?_eq_some_iff.mp e).1
  | _ => exact True.intro
theorem wfV_tup {v : HV} {xs : List HV} (h : tupOf st v = some xs) : wfV st.length v := by
  cases v with
  | ref n =>
    show n < st.length
    cases e : st[n]? with
    | none => simp [tupOf, e] at h
    | some c => exact (List.getElem?_eq_some_iff.mp e).1
  | _ => exact True.intro
theorem wf_ints (n : Nat) (ns : List Int) : ∀ x ∈ ns.map HV.int, wfV n x := fun x h => by
  obtain ⟨i, _, rfl⟩ := List.mem_map.mp h
  exact True.intro
theorem map_ints (ns : List Int) : (ns.map HV.int).map (toV G φ) = ns.map V.int := by rw [List.map_map]; rfl
/-- a list of ints -/
theorem ints_of {xs : List HV} {a : HV} {f : List Int → Res HV} (r : Rel G K φ st H) (hx : xs = [a]) {R : Res HV} (hR : R = (match (lstOf st a).bind intsOf with
    | some ns => f ns
    | none => .bad)) (hb : R ≠ .bad) : ∃ b ns, xs.map (toV G φ) = [V.ref b] ∧ SqL K H b (ns.map V.int) ∧ R = f ns := by
  subst hx hR
  cases e1 : lstOf st a with
  | none => rw [e1] at hb; exact (hb rfl).elim
  | some ys =>
    rw [e1] at hb
    cases e2 : intsOf ys with
    | none => simp [Option.bind, e2] at hb
    | some ns =>
      obtain ⟨b, eb, hs, w⟩ := lstOf_ok r e1
      rw [intsOf_map e2] at hs
      exact ⟨b, ns, by rw [List.map_cons, List.map_nil, eb], hs, by simp [Option.bind, e2]⟩
theorem bls_of {xs : List HV} {a : HV} {f : List Bool → Res HV} (r : Rel G K φ st H) (hx : xs = [a]) {R : Res HV} (hR : R = (match (lstOf st a).bind blsOf with
    | some ns => f ns
    | none => .bad)) (hb : R ≠ .bad) : ∃ b ns, xs.map (toV G φ) = [V.ref b] ∧ SqL K H b (ns.map V.bl) ∧ R = f ns := by
  subst hx hR
  cases e1 : lstOf st a with
  | none => rw [e1] at hb; exact (hb rfl).elim
  | some ys =>
    rw [e1] at hb
    cases e2 : blsOf ys with
    | none => simp [Option.bind, e2] at hb
    | some ns =>
      obtain ⟨b, eb, hs, w⟩ := lstOf_ok r e1
      rw [blsOf_map e2] at hs
      exact ⟨b, ns, by rw [List.map_cons, List.map_nil, eb], hs, by simp [Option.bind, e2]⟩
theorem one_arg' {b : Bi} {xs : List HV} (hb : biH b xs st ≠ .bad) (h2 : b ≠ .max2 ∧ b ≠ .min2 ∧ b ≠ .lrg1 ∧ b ≠ .lrg2) : ∃ a, xs = [a] := by
  cases xs with
  | nil => cases b <;> exact (hb rfl).elim
  | cons a r =>
    cases r with
    | nil => exact ⟨a, rfl⟩
    | cons c r => cases b <;> first | exact (hb rfl).elim | (cases a <;> exact (hb rfl).elim) | (obtain ⟨z1, z2, z3, z4⟩ := h2; first | exact (z1 rfl).elim | exact (z2 rfl).elim | exact (z3 rfl).elim | exact (z4 rfl).elim)
theorem dict_ok (r : Rel G K φ st H) {a : HV} {Q : VK} (hb : biH .dict [a] st ≠ .bad) (q : ∀ v H', Post G K φ (biH .dict [a] st) v H' → Q v H') : rBi K .dict ([a].map (toV G φ)) H Q := by
  cases e : lstOf st a with
  | none => exact (hb (by simp [biH, e])).elim
  | some xs =>
    cases xs with
    | nil =>
      obtain ⟨p, ep, hs, _⟩ := lstOf_ok r e
      refine ⟨p, by rw [List.map_cons, ep]; rfl, hs, fun l hl => q _ _ ?_⟩
      rw [show biH .dict [a] st = alloc (.dic []) st by simp [biH, e]]
      exact post_new (c := .dic []) r hl (fun _ h => (List.not_mem_nil h).elim) upd_same
    | cons x xs => exact (hb (by simp [biH, e])).elim
theorem biH_ok (r : Rel G K φ st H) {b : Bi} (hn : (biV b).2 ≠ "?") {xs : List HV} (wx : ∀ x ∈ xs, wfV st.length x) {Q : VK} (hb : biH b xs st ≠ .bad) (q : ∀ v H', Post G K φ (biH b xs st) v H' → Q v H') : rBi K b (xs.map (toV G φ)) H Q := by
  cases b with
  | dict =>
    obtain ⟨a, rfl⟩ := one_arg' hb (by decide)
    exact dict_ok r hb q
  | len =>
    obtain ⟨a, rfl⟩ := one_arg' hb (by decide)
    have sq : ∀ {ys}, seqOf st a = some ys → biH .len [a] st = .ok (.int ys.length) st → rBi K .len ([a].map (toV G φ)) H Q := fun {ys} e1 e2 => by
      obtain ⟨p, ep, hs, _⟩ := seqOf_ok r e1
      refine ⟨toV G φ a, ys.length, rfl, ?_, int_post r e2 q⟩
      rw [ep]
      rcases hs with hs | hs
      · exact .inl ⟨_, hs, by rw [List.length_map]⟩
      · exact .inr ⟨_, hs, by rw [List.length_map]⟩
    cases a with
    | str s =>
      simp only [biH] at hb q
      split at hb
      · rename_i hz
        rw [if_pos hz] at q
        exact ⟨.str s, s.length, rfl, ⟨hz, rfl⟩, int_post r rfl q⟩
      · exact (hb rfl).elim
    | ref n =>
      cases e : seqOf st (.ref n) with
      | none => simp [biH, e] at hb
      | some ys => exact sq e (by simp [biH, e])
    | _ => exact (hb rfl).elim
  | abs =>
    obtain ⟨a, rfl⟩ := one_arg' hb (by decide)
    cases a with
    | int i => exact ⟨i, rfl, int_post r rfl q⟩
    | _ => exact (hb rfl).elim
  | int =>
    obtain ⟨a, rfl⟩ := one_arg' hb (by decide)
    cases a with
    | int i => exact .inl ⟨i, rfl, int_post r rfl q⟩
    | bl k => exact .inr ⟨k, rfl, int_post r rfl q⟩
    | _ => exact (hb rfl).elim
  | max2 =>
    match xs, hb, q with
    | [.int i, .int j], hb, q => exact ⟨i, j, rfl, int_post r rfl q⟩
    | [], hb, _ => exact (hb rfl).elim
    | [a], hb, _ => cases a <;> exact (hb rfl).elim
    | a :: b :: c :: l, hb, _ => cases a <;> cases b <;> exact (hb rfl).elim
    | [.non, _], hb, _ => exact (hb rfl).elim
    | [.bl _, _], hb, _ => exact (hb rfl).elim
    | [.str _, _], hb, _ => exact (hb rfl).elim
    | [.ref _, _], hb, _ => exact (hb rfl).elim
    | [.fn _, _], hb, _ => exact (hb rfl).elim
    | [.int _, .non], hb, _ => exact (hb rfl).elim
    | [.int _, .bl _], hb, _ => exact (hb rfl).elim
    | [.int _, .str _], hb, _ => exact (hb rfl).elim
    | [.int _, .ref _], hb, _ => exact (hb rfl).elim
    | [.int _, .fn _], hb, _ => exact (hb rfl).elim
  | min2 =>
    match xs, hb, q with
    | [.int i, .int j], hb, q => exact ⟨i, j, rfl, int_post r rfl q⟩
    | [], hb, _ => exact (hb rfl).elim
    | [a], hb, _ => cases a <;> exact (hb rfl).elim
    | a :: b :: c :: l, hb, _ => cases a <;> cases b <;> exact (hb rfl).elim
    | [.non, _], hb, _ => exact (hb rfl).elim
    | [.bl _, _], hb, _ => exact (hb rfl).elim
    | [.str _, _], hb, _ => exact (hb rfl).elim
    | [.ref _, _], hb, _ => exact (hb rfl).elim
    | [.fn _, _], hb, _ => exact (hb rfl).elim
    | [.int _, .non], hb, _ => exact (hb rfl).elim
    | [.int _, .bl _], hb, _ => exact (hb rfl).elim
    | [.int _, .str _], hb, _ => exact (hb rfl).elim
    | [.int _, .ref _], hb, _ => exact (hb rfl).elim
    | [.int _, .fn _], hb, _ => exact (hb rfl).elim
  | sum =>
    obtain ⟨a, rfl⟩ := one_arg' hb (by decide)
    obtain ⟨p, ns, e1, hs, e2⟩ := ints_of (f := fun ns => .ok (.int ns.sum) st) r rfl rfl hb
    exact ⟨p, ns, e1, hs, int_post r e2 q⟩
  | any =>
    obtain ⟨a, rfl⟩ := one_arg' hb (by decide)
    obtain ⟨p, ns, e1, hs, e2⟩ := bls_of (f := fun ns => .ok (.bl (ns.any id)) st) r rfl rfl hb
    exact ⟨p, ns, e1, hs, bl_post r e2 q⟩
  | all =>
    obtain ⟨a, rfl⟩ := one_arg' hb (by decide)
    cases el : lstOf st a with
    | none =>
      refine (hb ?_).elim
      unfold biH
      dsimp only
      rw [el]
      rfl
    | some ys =>
      obtain ⟨p, ep, hs, w⟩ := lstOf_ok r el
      cases e2 : blsOf ys with
      | some ns =>
        have e3 : biH .all [a] st = .ok (.bl (ns.all id)) st := by
          unfold biH
          dsimp only
          rw [el]
          dsimp only [Option.bind]
          rw [e2]
        rw [blsOf_map e2] at hs
        exact .inl ⟨p, ns, by rw [List.map_cons, List.map_nil, ep], hs, bl_post r e3 q⟩
      | none =>
        cases e4 : intsOf ys with
        | none =>
          refine (hb ?_).elim
          unfold biH
          dsimp only
          rw [el]
          dsimp only [Option.bind]
          rw [e2]
          dsimp only
          rw [e4]
        | some ns =>
          have e3 : biH .all [a] st = .ok (.bl (ns.all fun i => i != 0)) st := by
            unfold biH
            dsimp only
            rw [el]
            dsimp only [Option.bind]
            rw [e2]
            dsimp only
            rw [e4]
          rw [intsOf_map e4] at hs
          exact .inr ⟨p, ns, by rw [List.map_cons, List.map_nil, ep], hs, bl_post r e3 q⟩
  | max1 =>
    obtain ⟨a, rfl⟩ := one_arg' hb (by decide)
    obtain ⟨p, ns, e1, hs, e2⟩ := ints_of (f := fun ns => match ns with
      | n :: ns => .ok (.int (maxI n ns)) st
      | [] => .bad) r rfl (by
        simp only [biH]
        cases (lstOf st a).bind intsOf with
        | none => rfl
        | some l => cases l <;> rfl) hb
    cases ns with
    | nil => exact (hb e2).elim
    | cons n ns =>
      refine ⟨p, n :: ns, e1, hs, Nat.succ_pos _, fun m h1 h2 => ?_⟩
      obtain ⟨k1, k2⟩ := maxI_spec ns n
      have e : m = maxI n ns := Int.le_antisymm (k2 m h1) (h2 _ k1)
      rw [e]
      exact int_post r e2 q
  | min1 =>
    obtain ⟨a, rfl⟩ := one_arg' hb (by decide)
    obtain ⟨p, ns, e1, hs, e2⟩ := ints_of (f := fun ns => match ns with
      | n :: ns => .ok (.int (minI n ns)) st
      | [] => .bad) r rfl (by
        simp only [biH]
        cases (lstOf st a).bind intsOf with
        | none => rfl
        | some l => cases l <;> rfl) hb
    cases ns with
    | nil => exact (hb e2).elim
    | cons n ns =>
      refine ⟨p, n :: ns, e1, hs, Nat.succ_pos _, fun m h1 h2 => ?_⟩
      obtain ⟨k1, k2⟩ := minI_spec ns n
      have e : m = minI n ns := Int.le_antisymm (h2 _ k1) (k2 m h1)
      rw [e]
      exact int_post r e2 q
  | list =>
    obtain ⟨a, rfl⟩ := one_arg' hb (by decide)
    cases e : seqOf st a with
    | none => simp [biH, e] at hb
    | some ys =>
      obtain ⟨p, ep, hs, w⟩ := seqOf_ok r e
      refine ⟨p, _, by rw [List.map_cons, List.map_nil, ep], hs, fun l hl => q _ _ ?_⟩
      rw [show biH .list [a] st = alloc (.lst ys) st by simp [biH, e]]
      exact post_lst r w hl
  | tuple =>
    obtain ⟨a, rfl⟩ := one_arg' hb (by decide)
    cases e : lstOf st a with
    | some ys =>
      obtain ⟨p, ep, hs, w⟩ := lstOf_ok r e
      refine ⟨p, _, by rw [List.map_cons, List.map_nil, ep], .inl ⟨hs, fun l hl => q _ _ ?_⟩⟩
      rw [show biH .tuple [a] st = alloc (.tup ys) st by simp [biH, e]]
      exact post_tup r w hl
    | none =>
      cases e2 : tupOf st a with
      | none => simp [biH, e, e2] at hb
      | some ys =>
        obtain ⟨p, ep, hs, _, w⟩ := tupOf_ok r e2
        refine ⟨p, _, by rw [List.map_cons, List.map_nil, ep], .inr ⟨hs, q _ _ ?_⟩⟩
        exact post_at r (by simp [biH, e, e2]) (wfV_tup e2) ep.symm
  | sorted =>
    obtain ⟨a, rfl⟩ := one_arg' hb (by decide)
    cases ei : (lstOf st a).bind intsOf with
    | some ns =>
      have e3 : biH .sorted [a] st = alloc (.lst ((sortI ns).map .int)) st := by simp only [biH, ei]
      cases el : lstOf st a with
      | none => rw [el] at ei; cases ei
      | some xs =>
        rw [el] at ei
        obtain ⟨p, ep, hs, w⟩ := lstOf_ok r el
        refine .inl ⟨p, ns, by rw [List.map_cons, List.map_nil, ep], by rw [← intsOf_map (G := G) (φ := φ) ei]; exact hs, fun ms l h1 h2 hl => q _ _ ?_⟩
        rw [sort_uniq h1 h2, e3, ← map_ints (G := G) (φ := φ)]
        exact post_lst r (wf_ints _ _) hl
    | none =>
      cases el : lstOf st a with
      | none =>
        refine (hb ?_).elim
        unfold biH
        dsimp only
        rw [ei]
        dsimp only
        rw [el]
      | some xs =>
        cases ep : prsOf st xs with
        | none =>
          refine (hb ?_).elim
          unfold biH
          dsimp only
          rw [ei]
          dsimp only
          rw [el]
          dsimp only
          rw [ep]
        | some ps =>
          have e3 : biH .sorted [a] st = alloc (.lst ((sortK (fun z => z.2) (xs.zip ps)).map fun z => z.1)) st := by
            unfold biH
            dsimp only
            rw [ei]
            dsimp only
            rw [el]
            dsimp only
            rw [ep]
          obtain ⟨p, ea, hs, w⟩ := lstOf_ok r el
          obtain ⟨k, hk1, hk3, hk2⟩ := prs_key (G := G) (φ := φ) r ep
          refine .inr ⟨p, _, k, by rw [List.map_cons, List.map_nil, ea], hs, hk1, fun ys l h1 h2 hl => q _ _ ?_⟩
          rw [e3, sort_prs hk2 h1 (hk3 ▸ h2)]
          refine post_lst r (fun y hy => ?_) hl
          obtain ⟨z, hz, rfl⟩ := List.mem_map.mp hy
          have hz2 := (sortK_perm (fun z : HV × (Int × Int) => z.2) (xs.zip ps)).mem_iff.mp hz
          exact w _ (List.of_mem_zip hz2).1
  | _ => exact (hn rfl).elim
theorem biH_exc {b : Bi} {xs : List HV} {c p st'} : biH b xs st ≠ .exc c p st' := by
  intro h
  unfold biH at h
  split at h <;> (repeat' split at h) <;> first | (cases h; done) | (unfold alloc at h; cases h; done)

def meN : Me → String
  | .append => "append" | .extend => "extend" | .pop0 => "pop" | .popi => "pop" | .items => "items"
def rMe : Me → V → List V → Hp → VK → Prop
  | .append => rAppend
  | .extend => rExtend
  | .pop0 => rPop
  | .popi => rPopAt
  | .items => fun _ _ _ _ => False
theorem post_set {n : Nat} {c' : Cel} {xs : List HV} {a : Addr} {v : HV} {o : HO} (r : Rel G K φ st H) (e : st[n]? = some (.lst xs)) (ea : φ[n]? = some a) (w : wfC st.length c') (hc : CelOk G K φ (upd H a o) a c') (wv : wfV st.length v) : Post G K φ (.ok v (st.set n c')) (toV G φ v) (upd H a o) :=
  ⟨v, _, φ, rfl, r.set e ea True.intro w hc, Ext.refl φ, by rw [List.length_set]; exact wv, rfl⟩
theorem lst_set {a : Addr} {xs : List HV} : CelOk G K φ (upd H a (.lst (xs.map (toV G φ)))) a (.lst xs) := upd_same
theorem erase_map {α β : Type} (f : α → β) : ∀ (l : List α) (j : Nat), (l.map f).eraseIdx j = (l.eraseIdx j).map f
  | [], _ => rfl
  | _ :: _, 0 => rfl
  | x :: l, j + 1 => congrArg (f x :: ·) (erase_map f l j)
theorem metH_ok (r : Rel G K φ st H) {m : Me} (hm : m ≠ .items) {a : HV} {xs : List HV} (wx : ∀ x ∈ xs, wfV st.length x) {Q : VK} (hb : metH m a xs st ≠ .bad) (q : ∀ v H', Post G K φ (metH m a xs st) v H' → Q v H') : rMe m (toV G φ a) (xs.map (toV G φ)) H Q := by
  cases e1 : mutOf st a with
  | none =>
    refine (hb ?_).elim
    cases m with
    | append => rcases xs with _ | ⟨y, _ | ⟨z, r⟩⟩ <;> simp [metH, e1]
    | extend => rcases xs with _ | ⟨y, _ | ⟨z, r⟩⟩ <;> simp [metH, e1]
    | pop0 => rcases xs with _ | ⟨y, r⟩ <;> simp [metH, e1]
    | popi => rcases xs with _ | ⟨y, _ | ⟨z, r⟩⟩ <;> (try cases y) <;> simp [metH, e1]
    | items => exact (hm rfl).elim
  | some p =>
    obtain ⟨n, ys⟩ := p
    obtain ⟨p, rfl, es, ef, ev, hp, w⟩ := mutOf_ok r e1
    have hlen : (ys.map (toV G φ)).length = ys.length := List.length_map _
    cases m with
    | append =>
      rcases xs with _ | ⟨y, _ | ⟨z, l⟩⟩
      · exact (hb rfl).elim
      · simp only [metH, e1] at hb q
        split at hb
        · rename_i hz
          rw [if_pos hz] at q
          refine ⟨p, _, toV G φ y, ev, rfl, hp, by rw [hlen]; exact hz, q _ _ ?_⟩
          rw [show ys.map (toV G φ) ++ [toV G φ y] = (ys ++ [y]).map (toV G φ) by rw [List.map_append]; rfl]
          exact post_set (v := .non) r es ef (wf_app w (fun x h => by rw [List.mem_singleton.mp h]; exact wx y List.mem_cons_self)) lst_set True.intro
        · exact (hb rfl).elim
      · exact (hb rfl).elim
    | extend =>
      rcases xs with _ | ⟨y, _ | ⟨z, l⟩⟩
      · exact (hb rfl).elim
      · cases e2 : mutOf st y with
        | none => simp [metH, e1, e2] at hb
        | some p2 =>
          obtain ⟨n2, zs⟩ := p2
          obtain ⟨p2, rfl, es2, ef2, ev2, hp2, w2⟩ := mutOf_ok r e2
          simp only [metH, e1, e2] at hb q
          split at hb
          · rename_i hz
            rw [if_pos hz] at q
            refine ⟨p, p2, _, _, ev, by rw [List.map_cons, List.map_nil, ev2], hp, hp2, by rw [hlen, List.length_map]; exact hz, q _ _ ?_⟩
            rw [← List.map_append]
            exact post_set (v := .non) r es ef (wf_app w w2) lst_set True.intro
          · exact (hb rfl).elim
      · exact (hb rfl).elim
    | pop0 =>
      rcases xs with _ | ⟨y, l⟩
      · simp only [metH, e1] at hb q
        cases e2 : ys[ys.length - 1]? with
        | none => rw [e2] at hb; exact (hb rfl).elim
        | some y =>
          rw [e2] at q
          refine ⟨p, _, toV G φ y, ev, rfl, hp, by rw [hlen, List.getElem?_map, e2]; rfl, q _ _ ?_⟩
          rw [← List.map_dropLast]
          exact post_set r es ef (fun x h => w x (List.dropLast_subset _ h)) lst_set (w y (List.mem_of_getElem? e2))
      · exact (hb rfl).elim
    | popi =>
      rcases xs with _ | ⟨y, _ | ⟨z, l⟩⟩
      · exact (hb rfl).elim
      · cases y with
        | int i =>
          simp only [metH, e1] at hb q
          split at hb
          · rename_i hz
            rw [if_pos hz] at q
            simp only [zl62, zg62, zl63, zg63, Bool.and_eq_true, decide_eq_true_eq] at hz
            cases e2 : seqIndex? i ys.length with
            | none => rw [e2] at hb; exact (hb rfl).elim
            | some k =>
              rw [e2] at hb q
              simp only at hb q
              cases e3 : ys[k]? with
              | none => rw [e3] at hb; exact (hb rfl).elim
              | some y =>
                rw [e3] at q
                refine ⟨p, _, i, k, toV G φ y, ev, rfl, hp, hz.1, hz.2, by rw [hlen]; exact e2, by rw [List.getElem?_map, e3]; rfl, q _ _ ?_⟩
                rw [erase_map]
                exact post_set r es ef (fun x h => w x (List.mem_of_mem_eraseIdx h)) lst_set (w y (List.mem_of_getElem? e3))
          · exact (hb rfl).elim
        | _ => exact (hb rfl).elim
      · cases y <;> exact (hb rfl).elim
    | items => exact (hm rfl).elim
theorem metH_exc {m : Me} {a : HV} {xs : List HV} {c p st'} : metH m a xs st ≠ .exc c p st' := by
  intro h
  unfold metH at h
  split at h <;> (repeat' split at h) <;> first | (cases h; done)
/-- a list by its place -/
theorem sstH_ok (r : Rel G K φ st H) {o i e : HV} (we : wfV st.length e) {st' : Hs} (h : sstH o i e st = .ok () st') {Q : Hp → Prop} (q : ∀ H', Rel G K φ st' H' → Q H') : rSetL (toV G φ o) (toV G φ i) (toV G φ e) H Q := by
  cases e1 : mutOf st o with
  | none => simp [sstH, e1] at h
  | some p =>
    obtain ⟨n, ys⟩ := p
    obtain ⟨p, rfl, es, ef, ev, hp, w⟩ := mutOf_ok r e1
    cases i with
    | int k =>
      simp only [sstH, e1] at h
      cases e2 : L2.ixN ys.length k with
      | none => rw [e2] at h; cases h
      | some j =>
        rw [e2] at h
        cases h
        refine ⟨p, _, k, j, ev, rfl, hp, by rw [List.length_map]; exact e2, q _ ?_⟩
        rw [← List.map_set]
        refine r.set es ef True.intro (fun x hx => ?_) lst_set
        rcases List.mem_or_eq_of_mem_set hx with z | z
        · exact w x z
        · rw [z]; exact we
    | _ => simp [sstH, e1] at h

def tyN : Ty → String
  | .lst => "list" | .tup => "tuple" | .dic => "dict" | .int => "int" | .bl => "bool" | .str => "str"
theorem kit_ok (t T : Ty) : kitB (tyN t) (tyN T) = some (isTy t T) := by cases t <;> cases T <;> decide +kernel
theorem kit_non (T : Ty) : kitB "NoneType" (tyN T) = some false := by cases T <;> decide +kernel
theorem kits_ok (t : Ty) : ∀ ts : List Ty, PySem.W.kitAny K (.type (tyN t)) (ts.map fun T => Value.type (tyN T)) = some (ts.any (isTy t))
  | [] => kitAny_nil
  | T :: r => by
    rw [List.map_cons, List.any_cons]
    refine kitAny_cons (b := isTy t T) (kit_ty (kit_ok t T)) (fun h => ?_) fun h => by rw [h]; rfl
    rw [h]
    exact kits_ok t r
theorem kits_non : ∀ ts : List Ty, PySem.W.kitAny K (.type "NoneType") (ts.map fun T => Value.type (tyN T)) = some false
  | [] => kitAny_nil
  | T :: r => by
    rw [List.map_cons]
    exact kitAny_cons (b := false) (kit_ty (kit_non T)) (fun _ => kits_non r) fun h => by cases h
theorem tyX_ok (r : Rel G K φ st H) {v : HV} {t : Ty} (h : tyOf st v = some t) : TyX K H (toV G φ v) (.type (tyN t)) := by
  cases v with
  | bl b => cases h; exact .base (.bl b)
  | int i => cases h; exact .base (.int i)
  | str s => cases h; exact .base (.str s)
  | ref n =>
    cases e : st[n]? with
    | none => simp [tyOf, e] at h
    | some c =>
      obtain ⟨a, _, ea, ok⟩ := r.cell e
      rw [ea]
      cases c with
      | lst xs => simp [tyOf, e] at h; subst h; exact .base (.lst ok)
      | tup xs => simp [tyOf, e] at h; subst h; exact .base (.tup ok)
      | dic xs => simp [tyOf, e] at h; subst h; exact .base (.dK ok)
      | fro xs =>
        simp [tyOf, e] at h
        subst h
        rcases ok with ⟨o, ok⟩ | ⟨o, its, n, hk, hc, _⟩
        · exact .base (.frz ok)
        · exact .kList hk hc
      | dead => simp [tyOf, e] at h
  | _ => cases h
/-- its type, and what isinstance tells -/
theorem isi_ok (r : Rel G K φ st H) {v : HV} {ts : List Ty} {b : Bool} (h : isiH st v ts = some b) : ∃ t : Value, TyX K H (toV G φ v) t ∧ PySem.W.kitAny K t (ts.map fun T => Value.type (tyN T)) = some b ∧ ∀ T, ts = [T] → PySem.W.kitOne K t (.type (tyN T)) = some b := by
  have go : ∀ t, tyOf st v = some t → ts.any (isTy t) = b → ∃ t : Value, TyX K H (toV G φ v) t ∧ PySem.W.kitAny K t (ts.map fun T => Value.type (tyN T)) = some b ∧ ∀ T, ts = [T] → PySem.W.kitOne K t (.type (tyN T)) = some b := fun t h1 h2 => by
    refine ⟨_, tyX_ok r h1, by rw [kits_ok, h2], fun T e => ?_⟩
    subst e
    rw [kit_ty (kit_ok t T), ← h2]
    simp
  cases v with
  | non =>
    cases h
    exact ⟨_, .base .non, kits_non ts, fun T _ => kit_ty (kit_non T)⟩
  | _ =>
    simp only [isiH] at h
    cases e : tyOf st _ with
    | none => rw [e] at h; cases h
    | some t =>
      rw [e] at h
      exact go t e (Option.some.inj h)
/-- a new object that the store does not know -/
theorem Rel.fresh (r : Rel G K φ st H) {p : Addr} {o : HO} (hp : H p = none) : Rel G K φ st (upd H p o) :=
  ⟨r.len, fun n c a h1 h2 => (r.at_ n c a h1 h2).map (Ext.refl φ) (by rw [r.len]; exact r.wf n c h1) fun u hu => by rw [upd_ne (ne_of_none hu hp)]; exact hu, r.wf, r.sep⟩
end
end Ih
end
section
set_option Elab.async false
set_option linter.all false
set_option maxHeartbeats 1000000
namespace Ih
open PySem PySem.Spec PyProof.Rows L2
theorem bnd_at {α β : Type} {m : M α} {f : α → M β} {st : Hs} {a : α} {st' : Hs} (h : m st = .ok a st') : bnd m f st = f a st' := by
  unfold bnd
  rw [h]
  rfl
theorem bnd_andThen {α β : Type} {m : M α} {f : α → M β} {st : Hs} : bnd m f st = (m st).andThen fun a s => f a s := rfl
section
variable {G : Gi} {X : Cx} {R : Rt}
theorem sim_var {i : Nat} {x : Str} {pos : Pos} (hN : X.N[i]? = some x) (hv : Vis X.env.scope x) (hd : (x == ("__debug__" : Str)) = false) (hc : (x == ("__classdict__" : Str)) = false) : SimE G X R (.Name x pos) (.var i) := by
  intro σ env W φ st H C hx hb
  cases e : env[i]? with
  | none =>
    refine (hb ?_).elim
    show getV env i st = .bad
    simp [getV, e]
  | some o =>
    cases o with
    | none =>
      refine (hb ?_).elim
      show getV env i st = .bad
      simp [getV, e]
    | some v =>
      have ev : evE R env (.var i) st = .ok v st := by
        show getV env i st = _
        simp [getV, e]
      rw [ev]
      refine PE.u (pe_var hN hv hd hc) ⟨toV G φ v, ?_, post_ok C.rel (C.wf v (List.mem_of_getElem? e))⟩
      rw [C.sg]
      unfold toS
      rw [List.getElem?_map, e]
      rfl
theorem sim_non {k : Nat} {pos : Pos} : SimE G X R (.Constant .none k pos) .non := fun σ env W φ st H C hx hb => PE.u pe_non (post_ok (v := .non) C.rel True.intro)
theorem sim_bl {b : Bool} {k : Nat} {pos : Pos} : SimE G X R (.Constant (.bool b) k pos) (.bl b) := fun σ env W φ st H C hx hb => PE.u pe_bl (post_ok (v := .bl b) C.rel True.intro)
theorem sim_int {b : Int} {k : Nat} {pos : Pos} : SimE G X R (.Constant (.int b) k pos) (.int b) := fun σ env W φ st H C hx hb => PE.u pe_int (post_ok (v := .int b) C.rel True.intro)
theorem sim_str {b : Str} {k : Nat} {pos : Pos} : SimE G X R (.Constant (.str b) k pos) (.str b) := fun σ env W φ st H C hx hb => PE.u pe_str (post_ok (v := .str b) C.rel True.intro)
section
variable {a b c : Expr} {xa xb xc : Ex} {pos : Pos}
theorem sim_bin {op : Bop} (ha : SimE G X R a xa) (hb' : SimE G X R b xb) : SimE G X R (.BinOp a (opB op) b pos) (.bin op xa xb) := by
  intro σ env W φ st H C hx hb
  have e0 : evE R env (.bin op xa xb) st = (evE R env xa st).andThen fun x s => bnd (evE R env xb) (fun y => binH op x y) s := rfl
  refine PE.u (pe_op (op_B op) pe_tU pe_tU) (fstE ha C e0 hx hb fun v st1 φ1 H1 e1 C1 x1 w1 hx1 hb1 => fstE hb' C1 bnd_andThen hx1 hb1 fun u st2 φ2 H2 e2 C2 x2 w2 hx2 hb2 => ?_)
  have ez : evE R env (.bin op xa xb) st = binH op v u st2 := by
    rw [e0, e1]
    exact bnd_at e2
  rw [ez]
  have ev : toV G φ1 v = toV G φ2 v := (toV_ext x2 (w1.phi C1.rel)).symm
  rw [ev]
  exact binH_ok C2.rel hb2 fun v' H' p => (p.ext x2).ext x1
theorem sim_neg (ha : SimE G X R a xa) : SimE G X R (.UnaryOp .USub a pos) (.neg xa) := by
  intro σ env W φ st H C hx hb
  have e0 : evE R env (.neg xa) st = (evE R env xa st).andThen fun x s => (match x with
    | .int i => ret (.int (-i))
    | _ => bad : M HV) s := rfl
  refine PE.u (pe_un un_neg pe_tU) (fstE ha C e0 hx hb fun v st1 φ1 H1 e1 C1 x1 w1 hx1 hb1 => ?_)
  cases v with
  | int i =>
    refine ⟨i, rfl, Post.ext x1 (post_at (v := .int (-i)) C1.rel ?_ True.intro rfl)⟩
    rw [e0, e1]
    rfl
  | _ => exact (hb1 rfl).elim
theorem sim_cmp {op : Cop} (hu : X.A.units + 65 < cLine) (hm : behindInMarks (opC op) b = false) (ha : SimE G X R a xa) (hb' : SimE G X R b xb) : SimE G X R (.Compare a [opC op] [b] pos) (.cmp op xa xb) := by
  intro σ env W φ st H C hx hb
  have e0 : evE R env (.cmp op xa xb) st = (evE R env xa st).andThen fun x s => bnd (evE R env xb) (fun y => cmpH op x y) s := rfl
  refine PE.u (pe_cmpR (op_C hu op) pe_tU pe_tU hm) (fstE ha C e0 hx hb fun v st1 φ1 H1 e1 C1 x1 w1 hx1 hb1 => fstE hb' C1 bnd_andThen hx1 hb1 fun u st2 φ2 H2 e2 C2 x2 w2 hx2 hb2 => ?_)
  have ez : evE R env (.cmp op xa xb) st = cmpH op v u st2 := by
    rw [e0, e1]
    exact bnd_at e2
  rw [ez]
  have ev : toV G φ1 v = toV G φ2 v := (toV_ext x2 (w1.phi C1.rel)).symm
  rw [ev]
  exact cmpH_ok C2.rel hb2 fun v' H' p => (p.ext x2).ext x1
/-- a test of a value that is a bool -/
theorem test_bl {v : Bool} {st : Hs} : testV (.bl v) st = .ok v st := rfl
theorem simT_cmp {op : Cop} (hu : X.A.units + 65 < cLine) (hm : behindInMarks (opC op) b = false) (ha : SimE G X R a xa) (hb' : SimE G X R b xb) : SimT G X R (.Compare a [opC op] [b] pos) (.cmp op xa xb) := by
  intro σ env W φ st H C hx hb
  have e0 : bnd (evE R env (.cmp op xa xb)) testV st = (evE R env xa st).andThen fun x s => bnd (bnd (evE R env xb) (fun y => cmpH op x y)) testV s := by
    show (bnd (evE R env xa) _ st).andThen _ = _
    unfold bnd
    cases evE R env xa st <;> rfl
  refine PT.u (pt_cmpR (op_C hu op) pe_tU pe_tU hm) (fstE ha C e0 hx hb fun v st1 φ1 H1 e1 C1 x1 w1 hx1 hb1 => ?_)
  have e3 : bnd (bnd (evE R env xb) (fun y => cmpH op v y)) testV st1 = (evE R env xb st1).andThen fun y s => bnd (cmpH op v y) testV s := by
    unfold bnd
    cases evE R env xb st1 <;> rfl
  refine fstE hb' C1 e3 hx1 hb1 fun u st2 φ2 H2 e2 C2 x2 w2 hx2 hb2 => ?_
  have ev : toV G φ1 v = toV G φ2 v := (toV_ext x2 (w1.phi C1.rel)).symm
  rw [ev]
  refine cmpH_ok C2.rel (fun z => hb2 (by unfold bnd; rw [z]; rfl)) fun v' H' p => ?_
  obtain ⟨x, st', φ', a1, a2, a3, a4, a5⟩ := p
  obtain ⟨k, rfl, rfl⟩ := cmpH_bl a1
  refine ⟨k, a5, st', φ', ?_, a2, x1.trans (x2.trans a3)⟩
  rw [e0, e1]
  show bnd (bnd (evE R env xb) (fun y => cmpH op v y)) testV st1 = _
  rw [e3, e2]
  show bnd (cmpH op v u) testV st' = _
  rw [bnd_at a1]
  rfl
theorem chain_run {o1 o2 : Cop} (ha : SimE G X R a xa) (hb' : SimE G X R b xb) (hc' : SimE G X R c xc) {σ env W φ st H} (C : Cf G X σ env W φ st H) (hx : ExW G X.K W σ φ (evE R env (.cmp2 o1 o2 xa xb xc) st)) (hb : evE R env (.cmp2 o1 o2 xa xb xc) st ≠ .bad) :
    tChain (rC X.K o1) (rC X.K o2) (tU X a) (tU X b) (tU X c) σ H (Post G X.K φ (evE R env (.cmp2 o1 o2 xa xb xc) st)) := by
  have e0 : evE R env (.cmp2 o1 o2 xa xb xc) st = (evE R env xa st).andThen fun x s => bnd (evE R env xb) (fun y => bnd (cmpH o1 x y) fun k => match k with
    | .bl true => bnd (evE R env xc) fun z => cmpH o2 y z
    | .bl false => ret (.bl false)
    | _ => bad) s := rfl
  refine fstE ha C e0 hx hb fun v st1 φ1 H1 e1 C1 x1 w1 hx1 hb1 => fstE hb' C1 bnd_andThen hx1 hb1 fun u st2 φ2 H2 e2 C2 x2 w2 hx2 hb2 => ?_
  have ev : toV G φ1 v = toV G φ2 v := (toV_ext x2 (w1.phi C1.rel)).symm
  rw [ev]
  refine cmpH_ok C2.rel (fun z => hb2 (by unfold bnd; rw [z]; rfl)) fun v' H' p => ?_
  obtain ⟨x, st3, φ3, a1, a2, a3, a4, a5⟩ := p
  obtain ⟨k, rfl, rfl⟩ := cmpH_bl a1
  refine ⟨k, a5, ?_⟩
  have e4 : evE R env (.cmp2 o1 o2 xa xb xc) st = bnd (cmpH o1 v u) (fun k => match k with
    | .bl true => bnd (evE R env xc) fun z => cmpH o2 u z
    | .bl false => ret (.bl false)
    | _ => bad) st3 := by
    rw [e0, e1]
    exact bnd_at e2
  rw [bnd_at a1] at e4 hb2 hx2
  have C3 : Cf G X σ env W φ3 st3 H' := C2.next a2 a3
  have xs := x1.trans (x2.trans a3)
  cases k with
  | false =>
    rw [if_neg Bool.false_ne_true, e4]
    exact Post.ext xs (post_ok (v := .bl false) a2 True.intro)
  | true =>
    rw [if_pos rfl]
    refine fstE hc' C3 bnd_andThen (hx2.ext a3) hb2 fun z st4 φ4 H4 e5 C4 x4 w4 hx4 hb4 => ?_
    have eu : toV G φ2 u = toV G φ4 u := by
      rw [toV_ext (a3.trans x4) (w2.phi C2.rel)]
    rw [eu]
    refine cmpH_ok C4.rel hb4 fun v' H' p => Post.ext (xs.trans x4) ?_
    rw [e4]
    show Post G X.K φ4 (bnd (evE R env xc) (fun z => cmpH o2 u z) st3) v' H'
    rw [bnd_at e5]
    exact p
theorem sim_cmp2 {o1 o2 : Cop} (hu : X.A.units + 65 < cLine) (hm : lastMarks [opC o1, opC o2] [b, c] = false) (ha : SimE G X R a xa) (hb' : SimE G X R b xb) (hc' : SimE G X R c xc) : SimE G X R (.Compare a [opC o1, opC o2] [b, c] pos) (.cmp2 o1 o2 xa xb xc) :=
  fun σ env W φ st H C hx hb => PE.u (pe_chain (op_C hu o1) (op_C hu o2) pe_tU pe_tU pe_tU hm) (chain_run ha hb' hc' C hx hb)
theorem tChain_mono {r r' : R2} {ta tb : TE} {σ : L2.St} {H : Hp} {Q Q' : VK} (h : tChain r r' ta tb (tU X c) σ H Q) (ma : ∀ {H Q Q'}, ta σ H Q → (∀ v H', Q v H' → Q' v H') → ta σ H Q') (mb : ∀ {H Q Q'}, tb σ H Q → (∀ v H', Q v H' → Q' v H') → tb σ H Q')
    (mr : ∀ {x y H Q Q'}, r x y H Q → (∀ v H', Q v H' → Q' v H') → r x y H Q') (mr' : ∀ {x y H Q Q'}, r' x y H Q → (∀ v H', Q v H' → Q' v H') → r' x y H Q') (k : ∀ v H', Q v H' → Q' v H') : tChain r r' ta tb (tU X c) σ H Q' := by
  refine ma h fun x H1 h => mb h fun y H2 h => mr h fun z H3 ⟨b, e, h⟩ => ⟨b, e, ?_⟩
  cases b with
  | true =>
    rw [if_pos rfl] at h ⊢
    exact tU_mono h fun w H4 h => mr' h k
  | false =>
    rw [if_neg Bool.false_ne_true] at h ⊢
    exact k _ _ h
theorem rC_mono {K : PySem.W.Frag} {op : Cop} {x y : V} {H : Hp} {Q Q' : VK} (h : rC K op x y H Q) (k : ∀ v H', Q v H' → Q' v H') : rC K op x y H Q' := by
  cases op with
  | eq => obtain ⟨d, e, a, b, c, f, q⟩ := h; exact ⟨d, e, a, b, c, f, k _ _ q⟩
  | ne => obtain ⟨d, e, a, b, c, f, q⟩ := h; exact ⟨d, e, a, b, c, f, k _ _ q⟩
  | inn =>
    rcases h with ⟨d, e, a, b, c, f, q⟩ | ⟨p, xs, a, b, c, d, q⟩
    · exact .inl ⟨d, e, a, b, c, f, k _ _ q⟩
    · exact .inr ⟨p, xs, a, b, c, d, k _ _ q⟩
  | nin =>
    rcases h with ⟨d, e, a, b, c, f, q⟩ | ⟨p, xs, a, b, c, d, q⟩
    · exact .inl ⟨d, e, a, b, c, f, k _ _ q⟩
    · exact .inr ⟨p, xs, a, b, c, d, k _ _ q⟩
  | is => exact ⟨h.1, k _ _ h.2⟩
  | isn => exact ⟨h.1, k _ _ h.2⟩
  | lt => obtain ⟨i, j, a, b, q⟩ := h; exact ⟨i, j, a, b, k _ _ q⟩
  | le => obtain ⟨i, j, a, b, q⟩ := h; exact ⟨i, j, a, b, k _ _ q⟩
  | gt => obtain ⟨i, j, a, b, q⟩ := h; exact ⟨i, j, a, b, k _ _ q⟩
  | ge => obtain ⟨i, j, a, b, q⟩ := h; exact ⟨i, j, a, b, k _ _ q⟩
theorem cmp2_bl {o1 o2 : Cop} {env : Env} {st st' : Hs} {v : HV} (h : evE R env (.cmp2 o1 o2 xa xb xc) st = .ok v st') : ∃ k, v = .bl k := by
  have h : bnd (evE R env xa) (fun x => bnd (evE R env xb) fun y => bnd (cmpH o1 x y) fun k => match k with
    | .bl true => bnd (evE R env xc) fun z => cmpH o2 y z
    | .bl false => ret (.bl false)
    | _ => bad) st = .ok v st' := h
  cases e1 : evE R env xa st with
  | ok x s1 =>
    rw [bnd_at e1] at h
    cases e2 : evE R env xb s1 with
    | ok y s2 =>
      rw [bnd_at e2] at h
      cases e3 : cmpH o1 x y s2 with
      | ok k s3 =>
        rw [bnd_at e3] at h
        obtain ⟨b, rfl, _⟩ := cmpH_bl e3
        cases b with
        | false => cases h; exact ⟨_, rfl⟩
        | true =>
          have h : bnd (evE R env xc) (fun z => cmpH o2 y z) s3 = .ok v st' := h
          cases e4 : evE R env xc s3 with
          | ok z s4 =>
            rw [bnd_at e4] at h
            obtain ⟨b, rfl, _⟩ := cmpH_bl h
            exact ⟨b, rfl⟩
          | exc c p s => unfold bnd at h; rw [e4] at h; cases h
          | bad => unfold bnd at h; rw [e4] at h; cases h
      | exc c p s => unfold bnd at h; rw [e3] at h; cases h
      | bad => unfold bnd at h; rw [e3] at h; cases h
    | exc c p s => unfold bnd at h; rw [e2] at h; cases h
    | bad => unfold bnd at h; rw [e2] at h; cases h
  | exc c p s => unfold bnd at h; rw [e1] at h; cases h
  | bad => unfold bnd at h; rw [e1] at h; cases h
theorem simT_cmp2 {o1 o2 : Cop} (hu : X.A.units + 65 < cLine) (hm : lastMarks [opC o1, opC o2] [b, c] = false) (ha : SimE G X R a xa) (hb' : SimE G X R b xb) (hc' : SimE G X R c xc) : SimT G X R (.Compare a [opC o1, opC o2] [b, c] pos) (.cmp2 o1 o2 xa xb xc) := by
  intro σ env W φ st H C hx hb
  refine PT.u (pt_chain (op_C hu o1) (op_C hu o2) pe_tU pe_tU pe_tU hm) (tChain_mono (chain_run ha hb' hc' C hx.fst (nb_fst hb)) (fun h k => tU_mono h k) (fun h k => tU_mono h k) rC_mono rC_mono fun v H' p => ?_)
  obtain ⟨x, st3, φ3, a1, a2, a3, a4, a5⟩ := p
  obtain ⟨k, rfl⟩ := cmp2_bl a1
  exact ⟨k, a5, st3, φ3, by rw [bnd_at a1]; rfl, a2, a3⟩
/-- any plain expression as a test -/
theorem simT_plain (he : ∀ whole, isTrue a X.env whole = (do let v ← whole; standAt a.pos; holding [v] (truthy v))) (ha : SimE G X R a xa) : SimT G X R a xa := by
  intro σ env W φ st H C hx hb
  refine PT.u (pt_truth pe_tU he) (fstE ha C (k := fun v s => testV v s) rfl hx hb fun v st1 φ1 H1 e1 C1 x1 w1 hx1 hb1 => ?_)
  cases e : tru st1 v with
  | none => exact (hb1 (by unfold testV; rw [e]; rfl)).elim
  | some k => exact ⟨k, tru_ok' C1.rel e, st1, φ1, by rw [bnd_at e1]; unfold testV; rw [e]; rfl, C1.rel, x1⟩
theorem simT_nt (ha : SimT G X R a xa) : SimT G X R (.UnaryOp .Not a pos) (.nt xa) := by
  intro σ env W φ st H C hx hb
  have e0 : bnd (evE R env (.nt xa)) testV st = (bnd (evE R env xa) testV st).andThen fun k s => .ok (!k) s := by
    show (bnd (bnd (evE R env xa) testV) _ st).andThen _ = _
    unfold bnd
    cases (evE R env xa st).andThen fun a st' => testV a st' <;> rfl
  refine PT.u (pt_not pt_tU) (fstT ha C e0 hx hb fun k st1 φ1 H1 e1 C1 x1 hx1 hb1 => ⟨st1, φ1, ?_, C1.rel, x1⟩)
  rw [e0, e1]
  rfl
theorem sim_nt (ha : SimE G X R a xa) : SimE G X R (.UnaryOp .Not a pos) (.nt xa) := by
  intro σ env W φ st H C hx hb
  have e0 : evE R env (.nt xa) st = (evE R env xa st).andThen fun v s => bnd (testV v) (fun k => ret (.bl (!k))) s := by
    show bnd (bnd (evE R env xa) testV) _ st = _
    unfold bnd
    cases evE R env xa st <;> rfl
  refine PE.u (pe_notT pe_tU) (fstE ha C e0 hx hb fun v st1 φ1 H1 e1 C1 x1 w1 hx1 hb1 => ?_)
  cases e : tru st1 v with
  | none => exact (hb1 (by unfold bnd testV; rw [e]; rfl)).elim
  | some k =>
    refine ⟨k, tru_ok' C1.rel e, Post.ext x1 (post_at (v := .bl (!k)) C1.rel ?_ True.intro rfl)⟩
    rw [e0, e1]
    show bnd (testV v) _ st1 = _
    unfold bnd testV
    rw [e]
    rfl
def SimW (G : Gi) (X : Cx) (R : Rt) (e : Expr) (x : Ex) : Prop :=
  ∀ σ env W φ st H, Cf G X σ env W φ st H → ExW G X.K W σ φ (bnd (evE R env x) testV st) → bnd (evE R env x) testV st ≠ .bad → ∀ (wh : Sem Value) (pins : List (Addr × Obj)) (s : Shared), Inv X pins σ H s → wpAny (model X.prog X.w) X.A (isTrue e X.env wh) (TP X pins σ (PostB G X.K φ (bnd (evE R env x) testV st))) X.xe s
theorem SimW.t {e : Expr} {x : Ex} (h : SimW G X R e x) : SimT G X R e x := fun σ env W φ st H C hx hb => h σ env W φ st H C hx hb _
def tUW (X : Cx) (e : Expr) : TT := fun σ H Q => ∀ (wh : Sem Value) (pins : List (Addr × Obj)) (s : Shared), Inv X pins σ H s → wpAny (model X.prog X.w) X.A (isTrue e X.env wh) (TP X pins σ Q) X.xe s
theorem pw_tU {e : Expr} : PW X e (tUW X e) := ⟨fun wh pins s _ _ _ I h => h wh pins s I⟩
theorem PW.u {e : Expr} {t : TT} {σ : L2.St} {H : Hp} {Q : Bool → Hp → Prop} (h : PW X e t) (q : t σ H Q) : tUW X e σ H Q := fun wh pins s I => h.run wh pins s σ H Q I q
theorem tUW_mono {e : Expr} {σ : L2.St} {H : Hp} {Q Q' : Bool → Hp → Prop} (h : tUW X e σ H Q) (k : ∀ v H', Q v H' → Q' v H') : tUW X e σ H Q' := fun wh pins s I => thn (h wh pins s I) fun _ _ ⟨H', J, q⟩ => ⟨H', J, k _ H' q⟩
theorem simW_one {op : PySem.BoolOp} (ha : SimT G X R a xa) : SimW G X R (.BoolOp op [a] pos) xa := by
  intro σ env W φ st H C hx hb
  have h := ha σ env W φ st H C hx hb
  cases op with
  | And => exact PW.u (pw_and1 pt_tU) h
  | Or => exact PW.u (pw_or1 pt_tU) h
theorem and_test {env : Env} {st : Hs} : bnd (evE R env (.and xa xb)) testV st = (bnd (evE R env xa) testV st).andThen fun k s => if k = true then bnd (evE R env xb) testV s else .ok false s := by
  show (bnd (evE R env xa) _ st).andThen _ = _
  unfold bnd
  cases evE R env xa st with
  | bad => rfl
  | exc c p s => rfl
  | ok v s =>
    show ((bnd (testV v) _ s).andThen _) = (testV v s).andThen _
    unfold bnd
    cases e : testV v s with
    | bad => rfl
    | exc c p s => rfl
    | ok k s1 =>
      cases k with
      | true => rfl
      | false =>
        show testV v s1 = _
        have z : tru s v = some false ∧ s1 = s := by
          unfold testV at e
          cases q : tru s v with
          | none => rw [q] at e; cases e
          | some b => rw [q] at e; cases e; exact ⟨rfl, rfl⟩
        obtain ⟨z1, rfl⟩ := z
        unfold testV
        rw [z1]
        rfl
theorem or_test {env : Env} {st : Hs} : bnd (evE R env (.or xa xb)) testV st = (bnd (evE R env xa) testV st).andThen fun k s => if k = true then .ok true s else bnd (evE R env xb) testV s := by
  show (bnd (evE R env xa) _ st).andThen _ = _
  unfold bnd
  cases evE R env xa st with
  | bad => rfl
  | exc c p s => rfl
  | ok v s =>
    show ((bnd (testV v) _ s).andThen _) = (testV v s).andThen _
    unfold bnd
    cases e : testV v s with
    | bad => rfl
    | exc c p s => rfl
    | ok k s1 =>
      cases k with
      | false => rfl
      | true =>
        show testV v s1 = _
        have z : tru s v = some true ∧ s1 = s := by
          unfold testV at e
          cases q : tru s v with
          | none => rw [q] at e; cases e
          | some b => rw [q] at e; cases e; exact ⟨rfl, rfl⟩
        obtain ⟨z1, rfl⟩ := z
        unfold testV
        rw [z1]
        rfl
theorem simW_and {rest : List Expr} (ha : SimT G X R a xa) (hb' : SimW G X R (.BoolOp .And (b :: rest) pos) xb) : SimW G X R (.BoolOp .And (a :: b :: rest) pos) (.and xa xb) := by
  intro σ env W φ st H C hx hb
  refine PW.u (pw_and pt_tU pw_tU) (fstT ha C and_test hx hb fun k st1 φ1 H1 e1 C1 x1 hx1 hb1 => ?_)
  cases k with
  | true =>
    rw [if_pos rfl] at hx1 hb1 ⊢
    refine tUW_mono (hb' σ env W φ1 st1 H1 C1 hx1 hb1) fun k H' p => PostB.ext x1 ?_
    rw [and_test, e1]
    exact p
  | false =>
    rw [if_neg Bool.false_ne_true]
    refine ⟨st1, φ1, ?_, C1.rel, x1⟩
    rw [and_test, e1]
    rfl
theorem simW_or {rest : List Expr} (ha : SimT G X R a xa) (hb' : SimW G X R (.BoolOp .Or (b :: rest) pos) xb) : SimW G X R (.BoolOp .Or (a :: b :: rest) pos) (.or xa xb) := by
  intro σ env W φ st H C hx hb
  refine PW.u (pw_or pt_tU pw_tU) (fstT ha C or_test hx hb fun k st1 φ1 H1 e1 C1 x1 hx1 hb1 => ?_)
  cases k with
  | false =>
    rw [if_neg Bool.false_ne_true] at hx1 hb1 ⊢
    refine tUW_mono (hb' σ env W φ1 st1 H1 C1 hx1 hb1) fun k H' p => PostB.ext x1 ?_
    rw [or_test, e1]
    exact p
  | true =>
    rw [if_pos rfl]
    refine ⟨st1, φ1, ?_, C1.rel, x1⟩
    rw [or_test, e1]
    rfl
theorem sim_one {op : PySem.BoolOp} (ha : SimE G X R a xa) : SimE G X R (.BoolOp op [a] pos) xa := fun σ env W φ st H C hx hb => PE.u (pe_one pe_tU) (ha σ env W φ st H C hx hb)
theorem sim_and {rest : List Expr} (ha : SimE G X R a xa) (hb' : SimE G X R (.BoolOp .And (b :: rest) pos) xb) : SimE G X R (.BoolOp .And (a :: b :: rest) pos) (.and xa xb) := by
  intro σ env W φ st H C hx hb
  have e0 : evE R env (.and xa xb) st = (evE R env xa st).andThen fun x s => bnd (testV x) (fun k => if k = true then evE R env xb else ret x) s := rfl
  refine PE.u (pe_andT pe_tU pe_tU) (fstE ha C e0 hx hb fun v st1 φ1 H1 e1 C1 x1 w1 hx1 hb1 => ?_)
  cases e : tru st1 v with
  | none => exact (hb1 (by unfold bnd testV; rw [e]; rfl)).elim
  | some k =>
    have et : testV v st1 = .ok k st1 := by unfold testV; rw [e]; rfl
    rw [bnd_at et] at hx1 hb1
    have ez : evE R env (.and xa xb) st = (if k = true then evE R env xb else ret v) st1 := by
      rw [e0, e1]
      exact bnd_at et
    refine ⟨k, tru_ok' C1.rel e, ?_⟩
    rw [ez]
    cases k with
    | true =>
      rw [if_pos rfl] at hx1 hb1 ⊢
      exact tU_mono (hb' σ env W φ1 st1 H1 C1 hx1 hb1) fun v' H' p => p.ext x1
    | false =>
      rw [if_neg Bool.false_ne_true]
      exact Post.ext x1 (post_ok C1.rel w1)
theorem sim_or {rest : List Expr} (ha : SimE G X R a xa) (hb' : SimE G X R (.BoolOp .Or (b :: rest) pos) xb) : SimE G X R (.BoolOp .Or (a :: b :: rest) pos) (.or xa xb) := by
  intro σ env W φ st H C hx hb
  have e0 : evE R env (.or xa xb) st = (evE R env xa st).andThen fun x s => bnd (testV x) (fun k => if k = true then ret x else evE R env xb) s := rfl
  refine PE.u (pe_orT pe_tU pe_tU) (fstE ha C e0 hx hb fun v st1 φ1 H1 e1 C1 x1 w1 hx1 hb1 => ?_)
  cases e : tru st1 v with
  | none => exact (hb1 (by unfold bnd testV; rw [e]; rfl)).elim
  | some k =>
    have et : testV v st1 = .ok k st1 := by unfold testV; rw [e]; rfl
    rw [bnd_at et] at hx1 hb1
    have ez : evE R env (.or xa xb) st = (if k = true then ret v else evE R env xb) st1 := by
      rw [e0, e1]
      exact bnd_at et
    refine ⟨k, tru_ok' C1.rel e, ?_⟩
    rw [ez]
    cases k with
    | false =>
      rw [if_neg Bool.false_ne_true] at hx1 hb1 ⊢
      exact tU_mono (hb' σ env W φ1 st1 H1 C1 hx1 hb1) fun v' H' p => p.ext x1
    | true =>
      rw [if_pos rfl]
      exact Post.ext x1 (post_ok C1.rel w1)
theorem sim_ife (hc' : SimT G X R c xc) (ha : SimE G X R a xa) (hb' : SimE G X R b xb) : SimE G X R (.IfExp c a b pos) (.ife xc xa xb) := by
  intro σ env W φ st H C hx hb
  have e0 : evE R env (.ife xc xa xb) st = (bnd (evE R env xc) testV st).andThen fun k s => (if k = true then evE R env xa else evE R env xb) s := rfl
  refine PE.u (pe_ifExp pt_tU pe_tU pe_tU) (fstT hc' C e0 hx hb fun k st1 φ1 H1 e1 C1 x1 hx1 hb1 => ?_)
  have ez : evE R env (.ife xc xa xb) st = (if k = true then evE R env xa else evE R env xb) st1 := by
    rw [e0, e1]
    rfl
  rw [ez]
  cases k with
  | true =>
    rw [if_pos rfl] at hx1 hb1 ⊢
    rw [if_pos rfl]
    exact tU_mono (ha σ env W φ1 st1 H1 C1 hx1 hb1) fun v' H' p => p.ext x1
  | false =>
    rw [if_neg Bool.false_ne_true] at hx1 hb1 ⊢
    rw [if_neg Bool.false_ne_true]
    exact tU_mono (hb' σ env W φ1 st1 H1 C1 hx1 hb1) fun v' H' p => p.ext x1
theorem sim_sub (hs : PlainIx b) (ha : SimE G X R a xa) (hb' : SimE G X R b xb) : SimE G X R (.Subscript a b pos) (.sub xa xb) := by
  intro σ env W φ st H C hx hb
  have e0 : evE R env (.sub xa xb) st = (evE R env xa st).andThen fun x s => bnd (evE R env xb) (fun y => subH x y) s := rfl
  refine PE.u (pe_ix ix_seq pe_tU pe_tU hs) (fstE ha C e0 hx hb fun v st1 φ1 H1 e1 C1 x1 w1 hx1 hb1 => fstE hb' C1 bnd_andThen hx1 hb1 fun u st2 φ2 H2 e2 C2 x2 w2 hx2 hb2 => ?_)
  have ez : evE R env (.sub xa xb) st = subH v u st2 := by
    rw [e0, e1]
    exact bnd_at e2
  rw [ez]
  have ev : toV G φ1 v = toV G φ2 v := (toV_ext x2 (w1.phi C1.rel)).symm
  rw [ev]
  exact subH_ok C2.rel hb2 fun v' H' p => (p.ext x2).ext x1
end
end
end Ih
end
section
set_option Elab.async false
set_option linter.all false
set_option maxHeartbeats 1000000
namespace Ih
open PySem PySem.Spec PyProof.Rows L2
structure PlainPs (p : Arguments) (ps : List Str) : Prop where
  po : p.posonlyargs = []
  va : p.vararg = none
  ko : p.kwonlyargs = []
  kw : p.kwarg = none
  ar : p.args.map (·.arg) = ps
  nd : ps.Nodup
theorem look_zip {α : Type} : ∀ {ps : List Str} {us : List α} {i : Nat} {x : Str}, ps.Nodup → us.length = ps.length → ps[i]? = some x → (ps.zip us).lookup x = us[i]?
  | [], us, i, x, _, _, h => by cases i <;> cases h
  | p :: ps, [], i, x, _, hl, h => by cases hl
  | p :: ps, u :: us, 0, x, nd, hl, h => by
    cases h
    simp
  | p :: ps, u :: us, i + 1, x, nd, hl, h => by
    have n1 := List.nodup_cons.mp nd
    have hx : x ∈ ps := List.mem_of_getElem? h
    have ne : x ≠ p := fun e => n1.1 (e ▸ hx)
    rw [List.zip_cons_cons, List.lookup_cons, beq_eq_false_iff_ne.mpr ne]
    exact look_zip n1.2 (by simpa using hl) h
theorem filt_look {α : Type} {S : List (Str × α)} : ∀ {ps : List Str} {us : List α}, us.length = ps.length → (∀ (i : Nat) (x : Str), ps[i]? = some x → S.lookup x = us[i]?) → ps.filterMap (fun n => (S.lookup n).map (n, ·)) = ps.zip us
  | [], us, _, _ => by simp
  | p :: ps, [], hl, _ => by cases hl
  | p :: ps, u :: us, hl, h => by
    have h0 : S.lookup p = some u := h 0 p rfl
    rw [List.filterMap_cons, h0]
    show (p, u) :: ps.filterMap (fun n => (S.lookup n).map (n, ·)) = (p, u) :: ps.zip us
    rw [filt_look (by simpa using hl) fun i x hx => h (i + 1) x hx]
theorem pb {α β : Type} {a : α} {f : α → Sem β} : (pure a >>= f : Sem β) = f a := rfl
theorem sN : seqItems? Value.none = pure none := rfl
/-- what stands behind the loop over the keywords -/
theorem bind_end {fd : FuncData} {ps : List Str} (h : PlainPs fd.params ps) (hd : fd.defaults = .none) {args : Args} (hn : args.pos.length ≤ ps.length) {S : List (Str × Value)} {us : List Value} (hl : us.length = ps.length)
    (hS : ∀ (i : Nat) (x : Str), ps[i]? = some x → S.lookup x = us[i]?)
    (hloop : ∀ f, (∀ k v s e, ps.contains k = true → (s.lookup k).isSome = false → f (k, v) (s, e) = pure (ForInStep.yield (s ++ [(k, v)], e))) → forIn args.kw (ps.zip args.pos, ([] : List (Str × Value))) f = (pure (S, []) : Sem _)) : bindArgs fd args = pure (ps.zip us) := by
  have hm : ∀ n ∈ ps, (S.lookup n).isNone = false := fun n hn => by
    obtain ⟨i, hi⟩ := List.mem_iff_getElem?.mp hn
    have := (List.getElem?_eq_some_iff.mp hi).1
    rw [hS i n hi, List.getElem?_eq_getElem (by omega)]
    rfl
  unfold bindArgs
  dsimp only
  rw [h.po, h.va, h.ko, h.kw, h.ar, hd, sN]
  rw [show ∀ f, forIn args.kw ((List.map (fun x : Arg => x.arg) [] ++ ps).zip args.pos, ([] : List (Str × Value))) f = forIn args.kw (ps.zip args.pos, ([] : List (Str × Value))) f from fun _ => rfl]
  rw [hloop]
  · rw [pb, pb]
    rw [if_neg (show ¬ _ = true by simp; omega)]
    rw [if_neg (show ¬ _ = true from ?_)]
    · simp only [Option.getD_none, List.drop_nil, List.zip_nil_right, List.forIn_nil, pb, List.map_nil, List.nil_append, List.append_nil, List.isEmpty_nil, Bool.not_true, Bool.false_eq_true, if_false]
      exact congrArg pure (filt_look hl hS)
    · have e : (List.filter (fun n => (List.lookup n S).isNone) ps) = [] := List.filter_eq_nil_iff.mpr fun n hn => by rw [hm n hn]; exact Bool.false_ne_true
      show ¬ (!(List.filter (fun n => (List.lookup n S).isNone) (List.take _ ps)).isEmpty) = true
      have e2 : ∀ k, List.filter (fun n => (List.lookup n S).isNone) (List.take k ps) = [] := fun k => List.filter_eq_nil_iff.mpr fun n hn => by rw [hm n (List.mem_of_mem_take hn)]; exact Bool.false_ne_true
      rw [e2]
      exact Bool.false_ne_true
  · intro k v s e hk hs
    dsimp only
    rw [if_pos (show (_ || _) = true by
      rw [show List.contains ps k = true from hk]
      rfl)]
    rw [hs]
    exact if_neg Bool.false_ne_true
theorem bind_plain {fd : FuncData} {ps : List Str} (h : PlainPs fd.params ps) (hd : fd.defaults = .none) {us : List Value} (hl : us.length = ps.length) : bindArgs fd ⟨us, []⟩ = pure (ps.zip us) :=
  bind_end h hd (args := ⟨us, []⟩) (Nat.le_of_eq hl) (S := ps.zip us) hl (fun i x hx => look_zip h.nd hl hx) fun f _ => rfl
theorem loop_kw {f : Str × Value → List (Str × Value) × List (Str × Value) → Sem (ForInStep (List (Str × Value) × List (Str × Value)))} {ps : List Str} (hf : ∀ k v s e, ps.contains k = true → (s.lookup k).isSome = false → f (k, v) (s, e) = pure (ForInStep.yield (s ++ [(k, v)], e))) :
    ∀ {ks : List Str} {ws : List Value} {S : List (Str × Value)}, ks.Nodup → (∀ k ∈ ks, ps.contains k = true ∧ (S.lookup k).isSome = false) → forIn (ks.zip ws) (S, ([] : List (Str × Value))) f = (pure (S ++ ks.zip ws, []) : Sem _)
  | [], ws, S, _, _ => by simp
  | k :: ks, [], S, _, _ => by simp
  | k :: ks, w :: ws, S, nd, h => by
    have n1 := List.nodup_cons.mp nd
    rw [List.zip_cons_cons, List.forIn_cons, hf k w S [] (h k List.mem_cons_self).1 (h k List.mem_cons_self).2, pb]
    show forIn (ks.zip ws) (S ++ [(k, w)], ([] : List (Str × Value))) f = _
    rw [loop_kw hf n1.2 fun x hx => ⟨(h x (List.mem_cons_of_mem _ hx)).1, ?_⟩]
    · rw [List.append_assoc]; rfl
    · have hne : x ≠ k := fun e => n1.1 (e ▸ hx)
      have h2 := (h x (List.mem_cons_of_mem _ hx)).2
      have h3 : S.lookup x = none := by simpa using h2
      rw [List.lookup_append, h3]
      show (List.lookup x [(k, w)]).isSome = false
      rw [List.lookup_cons, beq_eq_false_iff_ne.mpr hne]
      rfl
/-- keywords alone: perm tells for each parameter which keyword it is -/
theorem bind_kw {fd : FuncData} {ps ks : List Str} (h : PlainPs fd.params ps) (hd : fd.defaults = .none) (nd : ks.Nodup) (hm : ∀ k ∈ ks, ps.contains k = true) {perm : List Nat} (hp : perm.map (fun i => ks[i]?) = ps.map some) {ws : List Value} (hl : ws.length = ks.length) :
    bindArgs fd ⟨[], ks.zip ws⟩ = pure (ps.zip (perm.map fun i => ws.getD i .none)) := by
  refine bind_end h hd (args := ⟨[], ks.zip ws⟩) (Nat.zero_le _) (S := ks.zip ws) ?_ (fun i x hx => ?_) fun f hf => ?_
  · have := congrArg List.length hp
    simpa using this
  · have e : (perm.map (fun i => ks[i]?))[i]? = some (some x) := by rw [hp, List.getElem?_map, hx]; rfl
    rw [List.getElem?_map] at e ⊢
    cases q : perm[i]? with
    | none => rw [q] at e; cases e
    | some j =>
      rw [q] at e
      have e2 : ks[j]? = some x := by simpa using e
      have hj : j < ks.length := (List.getElem?_eq_some_iff.mp e2).1
      rw [look_zip nd hl e2]
      show ws[j]? = some (ws.getD j .none)
      rw [List.getElem?_eq_getElem (by omega), List.getD_eq_getElem?_getD, List.getElem?_eq_getElem (by omega)]
      rfl
  · have e : (ps.zip ([] : List Value), ([] : List (Str × Value))) = ([], []) := by simp
    show forIn (ks.zip ws) (ps.zip [], []) f = _
    rw [e, loop_kw hf nd fun k hk => ⟨hm k hk, rfl⟩]
    rfl
end Ih
end
section
set_option Elab.async false
set_option linter.all false
set_option maxHeartbeats 1000000
namespace Ih
open PySem PySem.Spec PyProof.Rows L2
def isSt : Expr → Bool
  | .Starred .. => true
  | _ => false
theorem starEach_c {e : Expr} {es : List Expr} {env : PySem.Env} (h : isSt e = false) : starEach (e :: es) env = (false, eval e env) :: starEach es env := by cases e <;> first | rfl | cases h
theorem star_any {pos : Pos} {env : PySem.Env} : ∀ {es : List Expr}, (es.all fun e => !isSt e) = true → (backTo pos (starEach es env)).any (·.1) = false
  | [], _ => rfl
  | e :: es, h => by
    rw [List.all_cons, Bool.and_eq_true] at h
    rw [starEach_c (by simpa using h.1)]
    show (false || (backTo pos (starEach es env)).any (·.1)) = false
    rw [star_any h.2]
    rfl
theorem star_all {pos : Pos} {env : PySem.Env} : ∀ {es : List Expr}, (es.all fun e => !isSt e) = true → (backTo pos (starEach es env)).all (fun x => !x.1) = true
  | [], _ => rfl
  | e :: es, h => by
    rw [List.all_cons, Bool.and_eq_true] at h
    rw [starEach_c (by simpa using h.1)]
    show (true && (backTo pos (starEach es env)).all fun x => !x.1) = true
    rw [star_all h.2]
    rfl
section
variable {G : Gi} {X : Cx} {R : Rt}
theorem simA_nil : SimA G X R [] .nil := fun σ env W φ st H C hx hb => PA.u pa_nil ⟨[], st, φ, rfl, C.rel, Ext.refl φ, fun _ h => (List.not_mem_nil h).elim, rfl⟩
theorem simA_cons {e : Expr} {es : List Expr} {x : Ex} {xs : Exs} (hs : isSt e = false) (h1 : SimE G X R e x) (h2 : SimA G X R es xs) : SimA G X R (e :: es) (.cons x xs) := by
  intro σ env W φ st H C hx hb
  have e0 : evEs R env (.cons x xs) st = (evE R env x st).andThen fun v s => bnd (evEs R env xs) (fun vs => ret (v :: vs)) s := rfl
  refine PA.u (pa_cons pe_tU pa_tU (starEach_c hs)) (fstE h1 C e0 hx hb fun v st1 φ1 H1 e1 C1 x1 w1 hx1 hb1 => fstA h2 C1 bnd_andThen hx1 hb1 fun vs st2 φ2 H2 e2 C2 x2 w2 hx2 hb2 => ?_)
  refine ⟨v :: vs, st2, φ2, ?_, C2.rel, x1.trans x2, fun y hy => ?_, ?_⟩
  · rw [e0, e1]
    exact bnd_at e2
  · rcases List.mem_cons.mp hy with rfl | hy
    · exact w1.mono (Rel.le (X := X) C1.rel C2.rel x2)
    · exact w2 y hy
  · rw [List.map_cons, toV_ext x2 (w1.phi C1.rel)]
/-- f(a, ..) whose value comes of its arguments' values -/
theorem fin_args {es : List Expr} {xs : Exs} {f : List HV → M HV} {rr : List V → Hp → VK → Prop} (hs : SimA G X R es xs) {σ env W φ st H} (C : Cf G X σ env W φ st H) {x : Ex} (e0 : evE R env x st = bnd (evEs R env xs) f st) (hx : ExW G X.K W σ φ (evE R env x st)) (hb : evE R env x st ≠ .bad)
    (h : ∀ vs st1 φ1 H1, evEs R env xs st = .ok vs st1 → Cf G X σ env W φ1 st1 H1 → (∀ v ∈ vs, wfV st1.length v) → ExW G X.K W σ φ1 (f vs st1) → f vs st1 ≠ .bad → ∀ Q : VK, (∀ v' H', Post G X.K φ1 (f vs st1) v' H' → Q v' H') → rr (vs.map (toV G φ1)) H1 Q) :
    tUA X es σ H fun vs H1 => rr vs H1 (Post G X.K φ (evE R env x st)) := by
  have e1 : evE R env x st = (evEs R env xs st).andThen fun vs s => f vs s := e0
  refine fstA hs C e1 hx hb fun vs st1 φ1 H1 e2 C1 x1 w1 hx1 hb1 => h vs st1 φ1 H1 e2 C1 w1 hx1 hb1 _ fun v' H' p => Post.ext x1 ?_
  rw [e1, e2]
  exact p
theorem sim_tup {es : List Expr} {xs : Exs} {k : Nat} {pos : Pos} (hs : SimA G X R es xs) : SimE G X R (.Tuple es k pos) (.tup xs) := by
  intro σ env W φ st H C hx hb
  refine PE.u (pe_tup pa_tU) (fin_args (rr := fun xs H1 Q => xs.length ≤ sizeLine ∧ ∀ p, H1 p = none → Q (.ref p) (upd H1 p (.tup xs))) hs C rfl hx hb fun vs st1 φ1 H1 e1 C1 w1 hx1 hb1 Q q => ?_)
  by_cases hz : vs.length ≤ sizeLine
  · rw [if_pos hz] at q
    exact ⟨by rw [List.length_map]; exact hz, fun p hp => q _ _ (post_tup C1.rel w1 hp)⟩
  · rw [if_neg hz] at hb1
    exact (hb1 rfl).elim
theorem sim_lst {es : List Expr} {xs : Exs} {pos : Pos} (hs : SimA G X R es xs) : SimE G X R (.List es pos) (.lst xs) := by
  intro σ env W φ st H C hx hb
  refine PE.u (pe_lst pa_tU) (fin_args (rr := fun xs H1 Q => xs.length ≤ sizeLine ∧ ∀ p, H1 p = none → Q (.ref p) (upd H1 p (.lst xs))) hs C rfl hx hb fun vs st1 φ1 H1 e1 C1 w1 hx1 hb1 Q q => ?_)
  by_cases hz : vs.length ≤ sizeLine
  · rw [if_pos hz] at q
    exact ⟨by rw [List.length_map]; exact hz, fun p hp => q _ _ (post_lst C1.rel w1 hp)⟩
  · rw [if_neg hz] at hb1
    exact (hb1 rfl).elim
theorem sim_dic0 {pos : Pos} : SimE G X R (.Dict [] [] pos) .dic0 := by
  intro σ env W φ st H C hx hb
  refine PE.u pe_dnewK (show _ from fun p hp => ?_)
  exact post_new (c := .dic []) C.rel hp (fun _ h => (List.not_mem_nil h).elim) upd_same
theorem boot_ty (T : Ty) : bootBuiltins (Str.ofString (tyN T)) = some (.type (tyN T)) := by cases T <;> decide +kernel
theorem dicOf_ok {K : PySem.W.Frag} {φ : List Addr} {st : Hs} {H : Hp} (r : Rel G K φ st H) {v : HV} {kvs : List (L2.Key × HV)} (h : dicOf st v = some kvs) : ∃ n a, v = .ref n ∧ st[n]? = some (.dic kvs) ∧ toV G φ v = .ref a ∧ φ[n]? = some a ∧ H a = some (.dK (kvs.map fun p => (p.1, toV G φ p.2))) := by
  cases v with
  | ref n =>
    cases e : st[n]? with
    | none => simp [dicOf, e] at h
    | some c =>
      cases c with
      | dic l =>
        simp [dicOf, e] at h
        subst h
        obtain ⟨a, e2, ea, ok⟩ := r.cell e
        exact ⟨n, a, rfl, e, ea, e2, ok⟩
      | _ => simp [dicOf, e] at h
  | _ => simp [dicOf] at h
/-- list(d.items()) of a dict that has nothing -/
theorem sim_litm {e : Expr} {x : Ex} {p apos cpos pos : Pos} (hc : X.calm = true) (hg : Gl X "list") (hm : X.mg "list" = none) (hbase : attributeBase e "items" X.env (eval e X.env) = eval e X.env) (hline : (apos.endLine == cpos.line) = true) (h : SimE G X R e x) :
    SimE G X R (.Call (.Name "list" p) [.Call (.Attribute e "items" apos) [] [] cpos] [] pos) (.bi .litm (.cons x .nil)) := by
  intro σ env W φ st H C hx hb
  have e0 : evE R env (.bi .litm (.cons x .nil)) st = (evE R env x st).andThen fun v s => biH .litm [v] s := by
    show bnd (bnd (evE R env x) _) _ st = _
    unfold bnd
    cases evE R env x st <;> rfl
  refine PE.u (LiI.pe_listItems hc pe_tU hg hm (boot_ty .lst) hbase hline) (fstE h C e0 hx hb fun v st1 φ1 H1 e1 C1 x1 w1 hx1 hb1 => ?_)
  have ez : evE R env (.bi .litm (.cons x .nil)) st = biH .litm [v] st1 := by rw [e0, e1]; rfl
  cases q : dicOf st1 v with
  | none => exact (hb1 (by simp [biH, q])).elim
  | some kvs =>
    cases kvs with
    | cons k kvs => exact (hb1 (by simp [biH, q])).elim
    | nil =>
      obtain ⟨n, a, rfl, e3, ea, _, ok⟩ := dicOf_ok C1.rel q
      refine ⟨a, [], ea, ok, fun H' l ts hs hl _ _ hL hp => Post.ext x1 ?_⟩
      cases hp
      rw [ez, show biH .litm [.ref n] st1 = alloc (.lst []) st1 by simp [biH, q]]
      exact ⟨.ref st1.length, st1 ++ [.lst []], φ1 ++ [l], rfl, C1.rel.grow (c := .lst []) hl hs (fun _ h => (List.not_mem_nil h).elim) hL, Ext.snoc φ1 l, by show st1.length < (st1 ++ [Cel.lst []]).length; rw [List.length_append]; exact Nat.lt_succ_self _, (toV_new C1.rel.len).symm⟩
def tUO (X : Cx) (e : Option Expr) : TO := fun σ H Q => ∀ (pins : List (Addr × Obj)) (s : Shared), Inv X pins σ H s → wpAny (model X.prog X.w) X.A (evalPart e X.env) (fun u s' => ∃ o H', Inv X pins σ H' s' ∧ IsPart u o ∧ Q o H') X.xe s
theorem po_tU {e : Option Expr} : PO X e (tUO X e) := ⟨fun pins s _ _ _ I h => h pins s I⟩
theorem PO.u {e : Option Expr} {t : TO} {σ : L2.St} {H : Hp} {Q : Option Int → Hp → Prop} (h : PO X e t) (q : t σ H Q) : tUO X e σ H Q := fun pins s I => h.run pins s σ H Q I q
def PostO (G : Gi) (K : PySem.W.Frag) (φ : List Addr) (r : Res (Option Int)) : Option Int → Hp → Prop := fun b H' => ∃ st' φ', r = .ok b st' ∧ Rel G K φ' st' H' ∧ Ext φ φ'
def SimO (G : Gi) (X : Cx) (R : Rt) (e : Option Expr) (x : Exo) : Prop :=
  ∀ σ env W φ st H, Cf G X σ env W φ st H → ExW G X.K W σ φ (evO R env x st) → evO R env x st ≠ .bad → tUO X e σ H (PostO G X.K φ (evO R env x st))
theorem simO_none : SimO G X R none .none := fun σ env W φ st H C hx hb => PO.u po_none ⟨st, φ, rfl, C.rel, Ext.refl φ⟩
theorem simO_some {e : Expr} {x : Ex} (h : SimE G X R e x) : SimO G X R (some e) (.some x) := by
  intro σ env W φ st H C hx hb
  refine PO.u (po_some pe_tU) (fstE h C (k := fun v s => exoV v s) rfl hx hb fun v st1 φ1 H1 e1 C1 x1 w1 hx1 hb1 => ?_)
  cases v with
  | int i =>
    refine ⟨i, rfl, st1, φ1, ?_, C1.rel, x1⟩
    show bnd (evE R env x) exoV st = _
    rw [bnd_at e1]
    rfl
  | _ => exact (hb1 rfl).elim
theorem fstO {e : Option Expr} {x : Exo} {β : Type} {k : Option Int → Hs → Res β} {σ env W φ st H} (S : SimO G X R e x) (C : Cf G X σ env W φ st H) {r : Res β} (er : r = (evO R env x st).andThen k) (hx : ExW G X.K W σ φ r) (hb : r ≠ .bad) {Q : Option Int → Hp → Prop}
    (h : ∀ b st1 φ1 H1, evO R env x st = .ok b st1 → Cf G X σ env W φ1 st1 H1 → Ext φ φ1 → ExW G X.K W σ φ1 (k b st1) → k b st1 ≠ .bad → Q b H1) : tUO X e σ H Q := by
  subst er
  refine fun pins s I => thn (S σ env W φ st H C hx.fst (nb_fst hb) pins s I) fun u s' ⟨o, H', J, ip, st1, φ1, e1, r1, x1⟩ => ?_
  have z : (evO R env x st).andThen k = k o st1 := by rw [e1]; rfl
  rw [z] at hx hb
  exact ⟨o, H', J, ip, h o st1 φ1 H' e1 (C.next r1 x1) x1 (hx.ext x1) hb⟩
theorem sim_slc {a : Expr} {lo hi : Option Expr} {xa : Ex} {xl xh : Exo} {pos p2 : Pos} (ha : SimE G X R a xa) (hl : SimO G X R lo xl) (hh : SimO G X R hi xh) : SimE G X R (.Subscript a (.Slice lo hi none p2) pos) (.slc xa xl xh) := by
  intro σ env W φ st H C hx hb
  have e0 : evE R env (.slc xa xl xh) st = (evE R env xa st).andThen fun x s => bnd (evO R env xl) (fun l => bnd (evO R env xh) fun h => slcH x l h) s := rfl
  refine PE.u (pe_slice sl_S pe_tU po_tU po_tU) (fstE ha C e0 hx hb fun v st1 φ1 H1 e1 C1 x1 w1 hx1 hb1 => fstO hl C1 bnd_andThen hx1 hb1 fun l st2 φ2 H2 e2 C2 x2 hx2 hb2 => fstO hh C2 bnd_andThen hx2 hb2 fun u st3 φ3 H3 e3 C3 x3 hx3 hb3 => ?_)
  have ez : evE R env (.slc xa xl xh) st = slcH v l u st3 := by
    rw [e0, e1]
    show bnd (evO R env xl) _ st1 = _
    rw [bnd_at e2, bnd_at e3]
  rw [ez]
  have ev : toV G φ1 v = toV G φ3 v := (toV_ext (x2.trans x3) (w1.phi C1.rel)).symm
  rw [ev]
  exact slcH_ok C3.rel hb3 fun v' H' p => ((p.ext x3).ext x2).ext x1
theorem fm_nil {α β : Type} {f : α → Option β} : ∀ {l : List α}, (∀ x ∈ l, f x = none) → l.filterMap f = []
  | [], _ => rfl
  | x :: r, h => by rw [List.filterMap_cons, h x List.mem_cons_self, fm_nil fun y hy => h y (List.mem_cons_of_mem _ hy)]
theorem fm_range {α : Type} {f : Nat → Option α} {c n : Nat} (hc : c ≤ n) (h : ∀ m, c ≤ m → m < n → f m = none) : (List.range n).filterMap f = (List.range c).filterMap f := by
  obtain ⟨d, rfl⟩ : ∃ d, n = c + d := ⟨n - c, by omega⟩
  have hz : ((List.range d).map (c + ·)).filterMap f = [] := fm_nil fun x hx => by
    obtain ⟨y, hy, rfl⟩ := List.mem_map.mp hx
    have := List.mem_range.mp hy
    exact h _ (by omega) (by omega)
  rw [List.range_add, List.filterMap_append, hz, List.append_nil]
theorem stepL_pick {xs : Array Value} {i k : Nat} (hk : 1 ≤ k) : slicePick xs (some (i : Int)) none (some (k : Int)) = (stepL xs.toList i k).toArray := by
  unfold slicePick stepL
  have hb : sliceBounds (some (i : Int)) none (some (k : Int)) xs.size = (((min i xs.size : Nat) : Int), (xs.size : Int), (k : Int)) := by
    unfold sliceBounds
    have h1 : (k : Int) > 0 := by omega
    have h2 : ¬ ((i : Int) < 0) := by omega
    simp only [Option.getD_some, h1, h2, if_true, if_false]
    refine Prod.ext ?_ rfl
    show max (0 : Int) (min (i : Int) (xs.size : Int)) = ((min i xs.size : Nat) : Int)
    omega
  rw [hb]
  show ((sliceRange ((min i xs.size : Nat) : Int) (xs.size : Int) (k : Int)).filterMap (xs[·]?)).toArray = _
  congr 1
  unfold sliceRange
  have h1 : (k : Int) > 0 := by omega
  simp only [h1, if_true]
  rw [List.filterMap_map]
  have ef : ∀ m : Nat, i ≤ xs.size → ((fun x => xs[x]?) ∘ fun (k_1 : Nat) => (((min i xs.size : Nat) : Int) + (k : Int) * (k_1 : Int)).toNat) m = xs.toList[i + k * m]? := fun m hi => by
    show xs[(((min i xs.size : Nat) : Int) + (k : Int) * (m : Int)).toNat]? = _
    have e : (((min i xs.size : Nat) : Int) + (k : Int) * (m : Int)).toNat = i + k * m := by
      rw [Nat.min_eq_left hi, ← Int.natCast_mul, ← Int.natCast_add, Int.toNat_natCast]
    rw [e, Array.getElem?_toList]
  by_cases hi : i < xs.size
  · have h2 : ((min i xs.size : Nat) : Int) < (xs.size : Int) := by omega
    rw [if_pos h2]
    have e2 : (fun (x : Nat) => xs[x]?) ∘ (fun (k_1 : Nat) => (((min i xs.size : Nat) : Int) + (k : Int) * (k_1 : Int)).toNat) = fun m => xs.toList[i + k * m]? := funext fun m => ef m (by omega)
    rw [e2]
    have em : ((min i xs.size : Nat) : Int) = (i : Int) := by omega
    rw [em]
    have eq1 : ((((xs.size : Int) - (i : Int) + (k : Int) - 1) / (k : Int))).toNat = (xs.size - i + k - 1) / k := by
      have : ((xs.size : Int) - (i : Int) + (k : Int) - 1) = ((xs.size - i + k - 1 : Nat) : Int) := by omega
      rw [this, ← Int.natCast_ediv, Int.toNat_natCast]
    rw [eq1, Array.length_toList]
    have hle : (xs.size - i + k - 1) / k ≤ xs.size := by
      refine Nat.div_le_of_le_mul ?_
      obtain ⟨d, rfl⟩ : ∃ d, k = d + 1 := ⟨k - 1, by omega⟩
      rw [Nat.add_mul, Nat.one_mul]
      have : d ≤ d * xs.size := Nat.le_mul_of_pos_right d (by omega)
      omega
    refine (fm_range hle fun m h3 _ => ?_).symm
    rw [List.getElem?_eq_none_iff, Array.length_toList]
    have h4 : xs.size - i + k - 1 < k * (m + 1) := by
      have := (Nat.div_lt_iff_lt_mul (by omega : 0 < k)).mp (Nat.lt_succ_of_le h3)
      rw [Nat.mul_comm]
      exact this
    rw [Nat.mul_add, Nat.mul_one] at h4
    omega
  · have h2 : ¬ ((min i xs.size : Nat) : Int) < (xs.size : Int) := by omega
    rw [if_neg h2]
    show [] = _
    rw [fm_nil fun m _ => ?_]
    rw [List.getElem?_eq_none_iff, Array.length_toList]
    omega
theorem stepL_map {α β : Type} (f : α → β) (xs : List α) (i k : Nat) : stepL (xs.map f) i k = (stepL xs i k).map f := by
  unfold stepL
  rw [List.length_map, List.map_filterMap]
  refine congrArg (fun g => List.filterMap g _) (funext fun m => ?_)
  rw [List.getElem?_map]
theorem stepL_mem {α : Type} {xs : List α} {i k : Nat} {x : α} (h : x ∈ stepL xs i k) : x ∈ xs := by
  obtain ⟨m, _, e⟩ := List.mem_filterMap.mp h
  exact List.mem_of_getElem? e
theorem stepL_len {α : Type} (xs : List α) (i k : Nat) : (stepL xs i k).length ≤ xs.length := by
  refine Nat.le_trans (List.length_filterMap_le _ _) ?_
  rw [List.length_range]
  exact Nat.le_refl _
theorem vals_step {vs : List V} {us : List Value} (h : Vals vs us) (i k : Nat) : Vals (stepL vs i k) (stepL us i k) := by
  unfold stepL
  rw [h.length]
  induction List.range us.length with
  | nil => exact .nil
  | cons m r ih =>
    rw [List.filterMap_cons, List.filterMap_cons]
    cases e : vs[i + k * m]? with
    | none =>
      rw [Vals.none_of h e]
      exact ih
    | some v =>
      obtain ⟨u, e2, ru⟩ := Vals.get h e
      rw [e2]
      exact .cons ru ih
def tStp (K : PySem.W.Frag) (te : TE) (tl ts : TO) : TE := fun σ H Q => te σ H fun x H1 => tl σ H1 fun l H2 => ts σ H2 fun k H3 => ∃ a xs, ∃ i j : Int, x = .ref a ∧ l = some i ∧ k = some j ∧ 0 ≤ i ∧ 1 ≤ j ∧ SqL K H3 a xs ∧ ∀ p, H3 p = none → Q (.ref p) (upd H3 p (.lst (stepL xs i.toNat j.toNat)))
theorem pe_stpL {e lo st : Expr} {te : TE} {tl ts : TO} {p3 pos : Pos} (he : PE X e te) (hl : PO X (some lo) tl) (hs : PO X (some st) ts) : PE X (.Subscript e (.Slice (some lo) none (some st) p3) pos) (tStp X.K te tl ts) := by
  refine ⟨fun pins s σ H Q I h => Subscript_ (thn (he.run pins s σ H _ I h) fun v s1 ⟨x, H1, I1, r1, q1⟩ => ?_)⟩
  refine wpAny_Slice (thn (hl.run pins s1 σ H1 _ I1 q1) fun vl s2 ⟨l, H2, I2, pl, q2⟩ => ?_)
  refine thn (po_none.run pins s2 σ H2 (fun o H3 => o = none ∧ H3 = H2) I2 ⟨rfl, rfl⟩) fun vu s3 ⟨u, H3, I3, pu, eu, e3⟩ => ?_
  subst eu e3
  refine thn (hs.run pins s3 σ H3 _ I3 q2) fun vs s4 ⟨o, H4, I4, ps, q4⟩ => ?_
  obtain ⟨a, xs, i, j, rfl, rfl, rfl, hi, hj, hx, q⟩ := q4
  cases r1
  obtain ⟨i, rfl⟩ := Int.eq_ofNat_of_zero_le hi
  obtain ⟨j, rfl⟩ := Int.eq_ofNat_of_zero_le (Int.le_trans (by decide) hj)
  rw [Int.toNat_natCast, Int.toNat_natCast] at q
  have J : Inv X pins σ H4 { s4 with heap := s4.heap.push { cls := .type "slice", data := .fields #[vl, vu, vs] } } := I4.kept (t' := s4.toks) fun b ob q => Heap.get?_push_of_some _ q
  obtain ⟨its, r, ht, hz⟩ := J.list hx
  have hlen := r.length
  show wpAny (model X.prog X.w) X.A (subscriptTail e (.Slice (some lo) none (some st) p3) (.ref a) (.ref s4.heap.objs.size)) (EP X pins σ Q) X.xe { s4 with heap := s4.heap.push { cls := .type "slice", data := .fields #[vl, vu, vs] } }
  refine tail_any (ops := [.ref a, .ref s4.heap.objs.size]) ht.isList.typeIs (PySem.slot_list_getitem.lookup) ?_ (by with_unfolding_all rfl)
  have hne : (some (j : Int)) ≠ some 0 := fun z => by
    have := Option.some.inj z
    omega
  refine wpAny_getItem_list_slice ht.isList (Heap.IsSliceOf.new _ vl vu vs) pl pu ps hne ?_ (by rw [List.size_toArray]; omega)
  rw [stepL_pick (by omega)]
  refine ⟨.ref _, _, J.laid (t' := s4.toks) (o := .lst (stepL xs i j)) (fun b ob q => Heap.get?_push_of_some _ q) (Nat.le_refl _) ?_, rfl, q _ (J.hok.fresh (Nat.le_refl _))⟩
  exact ⟨Nat.le_trans (stepL_len _ _ _) hz, _, 0, vals_step r i j, Heap.get?_push_size _ rfl⟩
theorem sim_stpL {a lo st' : Expr} {xa : Ex} {xl xk : Exo} {pos p2 : Pos} (ha : SimE G X R a xa) (hl : SimO G X R (some lo) xl) (hh : SimO G X R (some st') xk) : SimE G X R (.Subscript a (.Slice (some lo) none (some st') p2) pos) (.stpL xa xl xk) := by
  intro σ env W φ st H C hx hb
  have e0 : evE R env (.stpL xa xl xk) st = (evE R env xa st).andThen fun x s => bnd (evO R env xl) (fun l => bnd (evO R env xk) fun h => stpH x l h) s := rfl
  refine PE.u (pe_stpL pe_tU po_tU po_tU) (fstE ha C e0 hx hb fun v st1 φ1 H1 e1 C1 x1 w1 hx1 hb1 => fstO hl C1 bnd_andThen hx1 hb1 fun l st2 φ2 H2 e2 C2 x2 hx2 hb2 => fstO hh C2 bnd_andThen hx2 hb2 fun u st3 φ3 H3 e3 C3 x3 hx3 hb3 => ?_)
  have ez : evE R env (.stpL xa xl xk) st = stpH v l u st3 := by
    rw [e0, e1]
    show bnd (evO R env xl) _ st1 = _
    rw [bnd_at e2, bnd_at e3]
  rw [ez]
  have ev : toV G φ1 v = toV G φ3 v := (toV_ext (x2.trans x3) (w1.phi C1.rel)).symm
  rw [ev]
  cases q : lstOf st3 v with
  | none => exact (hb3 (by unfold stpH; rw [q])).elim
  | some xs =>
    obtain ⟨p, ep, sq, w⟩ := lstOf_ok C3.rel q
    cases l with
    | none => exact (hb3 (by unfold stpH; rw [q])).elim
    | some i =>
      cases u with
      | none => exact (hb3 (by unfold stpH; rw [q])).elim
      | some j =>
        have es : stpH v (some i) (some j) st3 = if decide (0 ≤ i) && decide (1 ≤ j) then alloc (.lst (stepL xs i.toNat j.toNat)) st3 else .bad := by unfold stpH; rw [q]
        rw [es] at hb3 ⊢
        split at hb3
        · rename_i hz
          rw [if_pos hz]
          rw [Bool.and_eq_true, decide_eq_true_eq, decide_eq_true_eq] at hz
          refine ⟨p, _, i, j, ep, rfl, rfl, hz.1, hz.2, sq, fun n hn => ((Post.ext x3 ?_).ext x2).ext x1⟩
          rw [stepL_map]
          exact post_lst C3.rel (fun y hy => w y (stepL_mem hy)) hn
        · exact (hb3 rfl).elim
theorem biVal_boot (b : Bi) (hb : (biV b).2 ≠ "?") : bootBuiltins (Str.ofString (biV b).2) = some (biVal b) := by cases b <;> first | exact absurd rfl hb | decide +kernel
theorem sim_bi {b : Bi} {e : Expr} {es : List Expr} {xs : Exs} {p pos : Pos} (hn : (biV b).2 ≠ "?") (hc : X.calm = true) (hg : Gl X (Str.ofString (biV b).2)) (hm : X.mg (Str.ofString (biV b).2) = none) (hst : ((e :: es).all fun e => !isSt e) = true) (hs : SimA G X R (e :: es) xs) :
    SimE G X R (.Call (.Name (Str.ofString (biV b).2) p) (e :: es) [] pos) (.bi b xs) := by
  intro σ env W φ st H C hx hb
  rw [List.all_cons, Bool.and_eq_true] at hst
  have h1 : isSt e = false := by simpa using hst.1
  have fin := fin_args (rr := rBi X.K b) hs C rfl hx hb fun vs st1 φ1 H1 e1 C1 w1 hx1 hb1 Q q => biH_ok C1.rel hn w1 hb1 q
  have hcall := call_Bi (X := X) hc b hn
  have hv := biVal_boot b hn
  unfold biVal at hcall hv
  cases ht : (biV b).1 with
  | true =>
    rw [if_pos ht] at hcall hv
    exact PE.u (pe_callTy hcall hg hm hv pa_tU (by cases b <;> first | exact absurd rfl hn | decide +kernel) (by cases b <;> first | exact absurd rfl hn | decide +kernel) (starEach_c h1) (star_any hst.2)) fin
  | false =>
    rw [if_neg (by rw [ht]; exact Bool.false_ne_true)] at hcall hv
    exact PE.u (pe_callB hcall hg hm hv pa_tU (by cases b <;> first | exact absurd rfl hn | decide +kernel) (by cases b <;> first | exact absurd rfl hn | decide +kernel) (starEach_c h1) (star_any hst.2)) fin
theorem rg_map (G : Gi) (φ : List Addr) (i j : Int) : (rgL i j).map (toV G φ) = rgV i j := by
  unfold rgL rgV
  rw [List.map_map]
  rfl
theorem rg_wf (n : Nat) (i j : Int) : ∀ x ∈ rgL i j, wfV n x := fun x h => by
  obtain ⟨k, _, rfl⟩ := List.mem_map.mp h
  exact True.intro
theorem rgOk_ok {i j : Int} (h : rgOk i j = true) : RgOk i j := by
  unfold rgOk at h
  simp only [zl62, zg62, zl63, zg63, Bool.and_eq_true, decide_eq_true_eq] at h
  exact h
/-- list(range(a)), list(range(a, b)) -/
theorem sim_lrg1 {a : Expr} {xa : Ex} {p pos p2 pos2 : Pos} (hc : X.calm = true) (hg : Gl X "list") (hm : X.mg "list" = none) (hg2 : Gl X "range") (hm2 : X.mg "range" = none) (hst : isSt a = false) (ha : SimE G X R a xa) :
    SimE G X R (.Call (.Name "list" p) [.Call (.Name "range" p2) [a] [] pos2] [] pos) (.bi .lrg1 (.cons xa .nil)) := by
  intro σ env W φ st H C hx hb
  have e0 : evE R env (.bi .lrg1 (.cons xa .nil)) st = (evE R env xa st).andThen fun v s => biH .lrg1 [v] s := by
    show bnd (bnd (evE R env xa) _) _ st = _
    unfold bnd
    cases evE R env xa st <;> rfl
  refine PE.u (pe_listRg hc hg hm (prg_1 hg2 hm2 pe_tU (starEach_c hst)) rfl) (fstE ha C e0 hx hb fun v st1 φ1 H1 e1 C1 x1 w1 hx1 hb1 => ?_)
  cases v with
  | int n =>
    refine ⟨n, rfl, ?_⟩
    have hz : rgOk 0 n = true := by
      cases q : rgOk 0 n with
      | true => rfl
      | false => exact (hb1 (by simp [biH, q])).elim
    refine ⟨rgOk_ok hz, fun q hq => Post.ext x1 ?_⟩
    rw [e0, e1]
    show Post G X.K φ1 (biH .lrg1 [.int n] st1) _ _
    rw [show biH .lrg1 [.int n] st1 = alloc (.lst (rgL 0 n)) st1 by simp [biH, hz], ← rg_map G φ1]
    exact post_lst C1.rel (rg_wf _ _ _) hq
  | _ => exact (hb1 rfl).elim
theorem sim_lrg2 {a b : Expr} {xa xb : Ex} {p pos p2 pos2 : Pos} (hc : X.calm = true) (hg : Gl X "list") (hm : X.mg "list" = none) (hg2 : Gl X "range") (hm2 : X.mg "range" = none) (hst : isSt a = false) (hst2 : isSt b = false) (ha : SimE G X R a xa) (hb' : SimE G X R b xb) :
    SimE G X R (.Call (.Name "list" p) [.Call (.Name "range" p2) [a, b] [] pos2] [] pos) (.bi .lrg2 (.cons xa (.cons xb .nil))) := by
  intro σ env W φ st H C hx hb
  have e0 : evE R env (.bi .lrg2 (.cons xa (.cons xb .nil))) st = (evE R env xa st).andThen fun v s => (evE R env xb s).andThen fun u s2 => biH .lrg2 [v, u] s2 := by
    show bnd (bnd (evE R env xa) fun x => bnd (bnd (evE R env xb) _) _) _ st = _
    unfold bnd
    cases evE R env xa st with
    | ok v s => simp only [Res.andThen]; cases evE R env xb s <;> rfl
    | _ => rfl
  refine PE.u (pe_listRg hc hg hm (prg_2 hg2 hm2 pe_tU pe_tU (starEach_c hst) (starEach_c hst2) (star_any (by simp [hst2]))) rfl) (fstE ha C e0 hx hb fun v st1 φ1 H1 e1 C1 x1 w1 hx1 hb1 => fstE hb' C1 rfl hx1 hb1 fun u st2 φ2 H2 e2 C2 x2 w2 hx2 hb2 => ?_)
  cases v with
  | int m =>
    cases u with
    | int n =>
      refine ⟨m, n, rfl, rfl, ?_⟩
      have hz : rgOk m n = true := by
        cases q : rgOk m n with
        | true => rfl
        | false => exact (hb2 (by simp [biH, q])).elim
      refine ⟨rgOk_ok hz, fun q hq => Post.ext (x1.trans x2) ?_⟩
      rw [e0, e1]
      show Post G X.K φ2 ((evE R env xb st1).andThen fun u s2 => biH .lrg2 [.int m, u] s2) _ _
      rw [e2]
      show Post G X.K φ2 (biH .lrg2 [.int m, .int n] st2) _ _
      rw [show biH .lrg2 [.int m, .int n] st2 = alloc (.lst (rgL m n)) st2 by simp [biH, hz], ← rg_map G φ2]
      exact post_lst C2.rel (rg_wf _ _ _) hq
    | _ => exact (hb2 rfl).elim
  | _ => cases u <;> exact (hb2 rfl).elim
def tyE : List (Ty × Pos) → List Expr := List.map fun q => .Name (Str.ofString (tyN q.1)) q.2
theorem pa_tys (ts : List (Ty × Pos)) (hg : ∀ q ∈ ts, Gl X (Str.ofString (tyN q.1)) ∧ X.mg (Str.ofString (tyN q.1)) = none) : PA X (tyE ts) (fun _ H Q => Q (ts.map fun q => V.ty (tyN q.1)) H) := by
  induction ts with
  | nil => exact pa_nil
  | cons q ts ih =>
    obtain ⟨g1, g2⟩ := hg q List.mem_cons_self
    exact pa_cons (pe_bltn (v := .ty (tyN q.1)) g1 g2 (boot_ty q.1) rfl (by cases q.1 <;> decide +kernel) (by cases q.1 <;> decide +kernel)) (ih fun q h => hg q (List.mem_cons_of_mem _ h))
theorem clsV_ty {n : String} : ClsV (.ty n) (.type n) := by constructor
theorem clsV_all : ∀ ts : List (Ty × Pos), Paired ClsV (ts.map fun q => V.ty (tyN q.1)) ((ts.map (·.1)).map fun T => Value.type (tyN T))
  | [] => .nil
  | _ :: ts => .cons clsV_ty (clsV_all ts)
theorem sim_isi1 {a : Expr} {xa : Ex} {T : Ty} {p p2 pos : Pos} (hc : X.calm = true) (hst : isSt a = false) (hg : Gl X "isinstance") (hm : X.mg "isinstance" = none) (hg2 : Gl X (Str.ofString (tyN T))) (hm2 : X.mg (Str.ofString (tyN T)) = none) (ha : SimE G X R a xa) :
    SimE G X R (.Call (.Name "isinstance" p) [a, .Name (Str.ofString (tyN T)) p2] [] pos) (.isi xa [T]) := by
  intro σ env W φ st H C hx hb
  have e0 : evE R env (.isi xa [T]) st = (evE R env xa st).andThen fun x s => ofO ((isiH s x [T]).map .bl) s := rfl
  refine PE.u (pe_callB call_isi hg hm PyProof.Rows.boot_isinstance (pa_cons pe_tU (pa_cons (pe_bltn (v := .ty (tyN T)) hg2 hm2 (boot_ty T) rfl (by cases T <;> decide +kernel) (by cases T <;> decide +kernel)) pa_nil) (starEach_c hst)) (by decide) (by decide) (starEach_c hst) rfl)
    (fstE ha C e0 hx hb fun v st1 φ1 H1 e1 C1 x1 w1 hx1 hb1 => ?_)
  cases e : isiH st1 v [T] with
  | none => exact (hb1 (by rw [e]; rfl)).elim
  | some b =>
    obtain ⟨t, h1, h2, h3⟩ := isi_ok C1.rel e
    refine ⟨toV G φ1 v, .ty (tyN T), t, .type (tyN T), b, rfl, clsV_ty, h1, h3 T rfl, Post.ext x1 (post_at (v := .bl b) C1.rel ?_ True.intro rfl)⟩
    rw [e0, e1]
    show ofO ((isiH st1 v [T]).map HV.bl) st1 = _
    rw [e]
    rfl
theorem sim_isiT {a : Expr} {xa : Ex} {ts : List (Ty × Pos)} {p p2 pos : Pos} {k : Nat} (hc : X.calm = true) (hst : isSt a = false) (hg : Gl X "isinstance") (hm : X.mg "isinstance" = none) (hl : ts.length ≤ 1000) (hg2 : ∀ q ∈ ts, Gl X (Str.ofString (tyN q.1)) ∧ X.mg (Str.ofString (tyN q.1)) = none) (ha : SimE G X R a xa) :
    SimE G X R (.Call (.Name "isinstance" p) [a, .Tuple (tyE ts) k p2] [] pos) (.isi xa (ts.map (·.1))) := by
  intro σ env W φ st H C hx hb
  have e0 : evE R env (.isi xa (ts.map (·.1))) st = (evE R env xa st).andThen fun x s => ofO ((isiH s x (ts.map (·.1))).map .bl) s := rfl
  refine PE.u (pe_callB call_isiT hg hm PyProof.Rows.boot_isinstance (pa_cons pe_tU (pa_cons (pe_tup (pa_tys ts hg2)) pa_nil) (starEach_c hst)) (by decide) (by decide) (starEach_c hst) rfl)
    (fstE ha C e0 hx hb fun v st1 φ1 H1 e1 C1 x1 w1 hx1 hb1 => ?_)
  refine ⟨by rw [List.length_map]; exact Nat.le_of_lt (small1000 hl), fun q hq => ?_⟩
  cases e : isiH st1 v (ts.map (·.1)) with
  | none => exact (hb1 (by rw [e]; rfl)).elim
  | some b =>
    obtain ⟨t, h1, h2, h3⟩ := isi_ok (C1.rel.fresh (o := .tup (ts.map fun q => V.ty (tyN q.1))) hq) e
    refine ⟨toV G φ1 v, q, _, t, (ts.map (·.1)).map fun T => Value.type (tyN T), b, rfl, upd_same, ?_, h1, h2, Post.ext x1 (post_at (v := .bl b) (C1.rel.fresh hq) ?_ True.intro rfl)⟩
    · exact clsV_all ts
    · rw [e0, e1]
      show ofO ((isiH st1 v (ts.map (·.1))).map HV.bl) st1 = _
      rw [e]
      rfl
theorem tyV_mut {φ : List Addr} {st : Hs} {H : Hp} {K : PySem.W.Frag} (r : Rel G K φ st H) {v : HV} {p : Nat × List HV} (h : mutOf st v = some p) : tyV K "list" (toV G φ v) H := by
  obtain ⟨n, xs⟩ := p
  obtain ⟨a, rfl, es, ef, ev, hp, w⟩ := mutOf_ok r h
  rw [ev]
  exact .inl ⟨rfl, _, .inl (.inl hp)⟩
theorem met_mut {m : Me} (hm : m ≠ .items) {a : HV} {xs : List HV} {st : Hs} (hb : metH m a xs st ≠ .bad) : ∃ p, mutOf st a = some p := by
  cases e1 : mutOf st a with
  | some p => exact ⟨p, rfl⟩
  | none =>
    refine (hb ?_).elim
    cases m with
    | append => rcases xs with _ | ⟨y, _ | ⟨z, r⟩⟩ <;> simp [metH, e1]
    | extend => rcases xs with _ | ⟨y, _ | ⟨z, r⟩⟩ <;> simp [metH, e1]
    | pop0 => rcases xs with _ | ⟨y, r⟩ <;> simp [metH, e1]
    | popi => rcases xs with _ | ⟨y, _ | ⟨z, r⟩⟩ <;> (try cases y) <;> simp [metH, e1]
    | items => exact (hm rfl).elim
theorem base_any {o : Expr} {n : Str} {env : PySem.Env} {wh : Sem Value} (h : (match o with | .Call .. => false | _ => true) = true) : attributeBase o n env wh = wh := by cases o <;> first | rfl | cases h
theorem few_ok {pos : Pos} {env : PySem.Env} {es : List Expr} (h : (es.all fun e => !isSt e) = true) (hl : es.length < 25) : ((backTo pos (starEach es env)).all (fun x => !x.1) && (backToKw pos (keywordEach [] env)).all (fun x => x.1.isSome) && decide (es.length + ([] : List Keyword).length + (if ([] : List Keyword).isEmpty then 0 else 1) < 30)) = true := by
  rw [star_all h]
  have e : decide (es.length + ([] : List Keyword).length + (if ([] : List Keyword).isEmpty then 0 else 1) < 30) = true := decide_eq_true (by show es.length + 0 + 0 < 30; omega)
  rw [e]
  rfl
theorem chk_ok {v : HV} {st st' : Hs} {u : Unit} (h : chkM v st = .ok u st') : st' = st ∧ ∃ p, mutOf st v = some p := by
  unfold chkM at h
  cases e : mutOf st v with
  | none => rw [e] at h; cases h
  | some p => rw [e] at h; cases h; exact ⟨rfl, p, rfl⟩
theorem chk_nb {β : Type} {v : HV} {st : Hs} {f : Unit → M β} (h : bnd (chkM v) f st ≠ .bad) : (∃ p, mutOf st v = some p) ∧ bnd (chkM v) f st = f () st := by
  unfold bnd chkM at h ⊢
  cases e : mutOf st v with
  | none => rw [e] at h; exact (h rfl).elim
  | some p => exact ⟨⟨p, rfl⟩, rfl⟩
theorem sim_met0 {o : Expr} {xo : Ex} {apos cpos : Pos} (hbase : attributeBase o "pop" X.env (eval o X.env) = eval o X.env) (hline : (apos.endLine == cpos.line) = true) (ho : SimE G X R o xo) :
    SimE G X R (.Call (.Attribute o "pop" apos) [] [] cpos) (.met .pop0 xo .nil) := by
  intro σ env W φ st H C hx hb
  have e0 : evE R env (.met .pop0 xo .nil) st = (evE R env xo st).andThen fun v s => bnd (chkM v) (fun _ => metH .pop0 v []) s := rfl
  refine PE.u (pe_bm0 PySem.F.plainAttrs_list PySem.F.slot_list_pop PySem.F.type_list_pop mt_pop pe_tU hbase hline) (fstE ho C e0 hx hb fun v st1 φ1 H1 e1 C1 x1 w1 hx1 hb1 => ?_)
  obtain ⟨⟨p, hp⟩, ek⟩ := chk_nb hb1
  rw [ek] at hb1 hx1
  refine ⟨tyV_mut C1.rel hp, ?_⟩
  refine metH_ok (xs := []) C1.rel (m := .pop0) (by decide) (fun _ h => (List.not_mem_nil h).elim) hb1 fun v' H' q => Post.ext x1 ?_
  rw [e0, e1]
  show Post G X.K φ1 (bnd (chkM v) (fun _ => metH .pop0 v []) st1) _ _
  rw [ek]
  exact q
theorem pe_me {m : Me} (hm : m ≠ .items ∧ m ≠ .pop0) {o e : Expr} {es : List Expr} {apos cpos : Pos} {to : TE} {t : TA} (ho : PE X o to) (ha : PA X (e :: es) t) (hbase : attributeBase o (Str.ofString (meN m)) X.env (eval o X.env) = eval o X.env) (hline : (apos.endLine == cpos.line) = true)
    (hst : ((e :: es).all fun e => !isSt e) = true) (hl : (e :: es).length < 25) : PE X (.Call (.Attribute o (Str.ofString (meN m)) apos) (e :: es) [] cpos) (tBM X.K "list" (rMe m) to t) := by
  have h2 := hst
  rw [List.all_cons, Bool.and_eq_true] at h2
  have h1 : isSt e = false := by simpa using h2.1
  cases m with
  | append => exact pe_bm PySem.F.plainAttrs_list PySem.F.slot_list_append PySem.F.type_list_append mt_append ho ha hbase (few_ok hst hl) hline (starEach_c h1) (star_any h2.2)
  | extend => exact pe_bm PySem.F.plainAttrs_list PySem.F.slot_list_extend PySem.F.type_list_extend mt_extend ho ha hbase (few_ok hst hl) hline (starEach_c h1) (star_any h2.2)
  | popi => exact pe_bm PySem.F.plainAttrs_list PySem.F.slot_list_pop PySem.F.type_list_pop mt_popAt ho ha hbase (few_ok hst hl) hline (starEach_c h1) (star_any h2.2)
  | pop0 => exact (hm.2 rfl).elim
  | items => exact (hm.1 rfl).elim
theorem sim_met {m : Me} (hm : m ≠ .items ∧ m ≠ .pop0) {o e : Expr} {es : List Expr} {xo : Ex} {xs : Exs} {apos cpos : Pos} (hbase : attributeBase o (Str.ofString (meN m)) X.env (eval o X.env) = eval o X.env) (hline : (apos.endLine == cpos.line) = true)
    (hst : ((e :: es).all fun e => !isSt e) = true) (hl : (e :: es).length < 25) (ho : SimE G X R o xo) (hs : SimA G X R (e :: es) xs) : SimE G X R (.Call (.Attribute o (Str.ofString (meN m)) apos) (e :: es) [] cpos) (.met m xo xs) := by
  intro σ env W φ st H C hx hb
  have e0 : evE R env (.met m xo xs) st = (evE R env xo st).andThen fun v s => bnd (chkM v) (fun _ => bnd (evEs R env xs) fun vs => metH m v vs) s := rfl
  refine PE.u (pe_me hm pe_tU pa_tU hbase hline hst hl) (fstE ho C e0 hx hb fun v st1 φ1 H1 e1 C1 x1 w1 hx1 hb1 => ?_)
  obtain ⟨⟨p, hp⟩, ek⟩ := chk_nb hb1
  rw [ek] at hb1 hx1
  refine ⟨tyV_mut C1.rel hp, fstA hs C1 bnd_andThen hx1 hb1 fun vs st2 φ2 H2 e2 C2 x2 w2 hx2 hb2 => ?_⟩
  have ez : evE R env (.met m xo xs) st = metH m v vs st2 := by
    rw [e0, e1]
    show bnd (chkM v) _ st1 = _
    rw [ek]
    exact bnd_at e2
  have ev : toV G φ1 v = toV G φ2 v := (toV_ext x2 (w1.phi C1.rel)).symm
  rw [ev, ez]
  exact metH_ok C2.rel hm.1 w2 hb2 fun v' H' p => (p.ext x2).ext x1
/-- the promise of every def: what the heap interpreter tells -/
def spH (G : Gi) (K : PySem.W.Frag) (f : List HV → M HV) (ar : Nat) : Sp := fun vs H Q E => ∃ (φ : List Addr) (st : Hs) (xs : List HV), Rel G K φ st H ∧ (∀ x ∈ xs, wfV st.length x) ∧ vs = xs.map (toV G φ) ∧ xs.length = ar ∧ f xs st ≠ .bad ∧
  (∀ v' H', Post G K φ (f xs st) v' H' → Q v' H') ∧ ∀ c p st' φ' H' cls d, f xs st = .exc c p st' → Rel G K φ' st' H' → Ext φ φ' → wfP st'.length p → ExIs G φ' H' c p cls d → E cls d H'
/-- a def of the table may be called here -/
structure CallOk (G : Gi) (R : Rt) (X : Cx) (n : Nat) (x : Str) (ps : List Str) : Prop where
  mg : X.mg x = some (.ref (G.fA n))
  kp : PySem.W.keepIn X.K (.ref (G.fA n)) = true
  run : ∃ fd k, Room k X.A ∧ (PlainPs fd.params ps ∧ fd.defaults = .none) ∧ FnOk X.prog X.w X.K X.mg X.base (L2.CX X.prog X.w) k (G.fA n) fd ps (spH G X.K (R n) ps.length)
theorem evEs_len {env : Env} : ∀ {es : Exs} {st : Hs} {vs : List HV} {st1 : Hs}, evEs R env es st = .ok vs st1 → vs.length = es.len
  | .nil, st, vs, st1, h => by cases h; rfl
  | .cons a r, st, vs, st1, h => by
    have h : bnd (evE R env a) (fun v => bnd (evEs R env r) fun vs => ret (v :: vs)) st = .ok vs st1 := h
    unfold bnd at h
    cases q : evE R env a st with
    | ok v s =>
      rw [q] at h
      simp only [Res.andThen] at h
      cases q2 : evEs R env r s with
      | ok us s2 =>
        rw [q2] at h
        cases h
        show us.length + 1 = r.len + 1
        rw [evEs_len q2]
      | exc c p s => rw [q2] at h; cases h
      | bad => rw [q2] at h; cases h
    | exc c p s => rw [q] at h; cases h
    | bad => rw [q] at h; cases h
theorem sim_call {n : Nat} {x : Str} {ps : List Str} {e : Expr} {es : List Expr} {xs : Exs} {p pos : Pos} (F : CallOk G R X n x ps) (hg : Gl X x) (hd : (x == ("__debug__" : Str)) = false) (hst : ((e :: es).all fun e => !isSt e) = true) (hl : (e :: es).length = ps.length) (hs : SimA G X R (e :: es) xs) (hxs : xs.len = ps.length) :
    SimE G X R (.Call (.Name x p) (e :: es) [] pos) (.call n xs) := by
  intro σ env W φ st H C hx hb
  obtain ⟨fd, k, hr, ⟨pp, pd⟩, F2⟩ := F.run
  have hbd : L2.Binds X.K fd ps [] := .all fun us hl => bind_plain pp pd hl
  have h2 := hst
  rw [List.all_cons, Bool.and_eq_true] at h2
  have h1 : isSt e = false := by simpa using h2.1
  refine PE.u (pe_callSD F2 hr hg F.mg F.kp hbd .nil (fun σ => passAt C.tk σ) pa_tU hd (starEach_c h1) (star_any h2.2)) ?_
  have e1 : evE R env (.call n xs) st = (evEs R env xs st).andThen fun vs s => R n vs s := rfl
  refine fstA hs C e1 hx hb fun vs st1 φ1 H1 e2 C1 x1 w1 hx1 hb1 => ?_
  have ez : evE R env (.call n xs) st = R n vs st1 := by rw [e1, e2]; rfl
  refine ⟨φ1, st1, vs, C1.rel, w1, by rw [List.append_nil], (evEs_len e2).trans hxs, hb1, fun v' H' p => Post.ext x1 (by rw [ez]; exact p), fun c p st' φ' H' cls d h => hx1 c p st' h φ' H' cls d⟩
end
end Ih
end
section
set_option Elab.async false
set_option linter.all false
set_option maxHeartbeats 1000000
namespace Ih
open PySem PySem.Spec PyProof.Rows L2
section
variable {G : Gi} {X : Cx} {R : Rt}
def tUG (X : Cx) (tg : Expr) : TG := fun v σ H Q => ∀ (pins : List (Addr × Obj)) (s : Shared) (u : Value), Inv X pins σ H s → RelV v u → wpAny (model X.prog X.w) X.A (assign tg X.env u) (fun _ s' => ∃ σ' H', Inv X pins σ' H' s' ∧ Q σ' H') X.xe s
theorem pg_tU {tg : Expr} : PG X tg (tUG X tg) := ⟨fun pins s _ _ _ u _ I r h => h pins s u I r⟩
theorem PG.u {tg : Expr} {t : TG} {v : V} {σ : L2.St} {H : Hp} {Q : L2.St → Hp → Prop} (h : PG X tg t) (q : t v σ H Q) : tUG X tg v σ H Q := fun pins s u I r => h.run pins s σ H v u Q I r q
theorem tUG_mono {tg : Expr} {v : V} {σ : L2.St} {H : Hp} {Q Q' : L2.St → Hp → Prop} (h : tUG X tg v σ H Q) (k : ∀ σ H, Q σ H → Q' σ H) : tUG X tg v σ H Q' := fun pins s u I r => thn (h pins s u I r) fun _ _ ⟨σ', H', J, q⟩ => ⟨σ', H', J, k _ _ q⟩
def tUGs (X : Cx) (ts : List Expr) : TGs := fun vs σ H Q => ∀ (pins : List (Addr × Obj)) (s : Shared) (us : List Value), Inv X pins σ H s → Vals vs us → wpAny (model X.prog X.w) X.A (assignInOrder ((assignEach ts X.env).map (·.2)) us) (fun _ s' => ∃ σ' H', Inv X pins σ' H' s' ∧ Q σ' H') X.xe s
theorem pgs_tU {ts : List Expr} : PGs X ts (tUGs X ts) := ⟨fun pins s _ _ _ u _ I r h => h pins s u I r⟩
theorem PGs.u {ts : List Expr} {t : TGs} {vs : List V} {σ : L2.St} {H : Hp} {Q : L2.St → Hp → Prop} (h : PGs X ts t) (q : t vs σ H Q) : tUGs X ts vs σ H Q := fun pins s u I r => h.run pins s σ H vs u Q I r q
def SimG (G : Gi) (X : Cx) (tg : Expr) (t : Tg) : Prop := ∀ env φ st H v env', Rel G X.K φ st H → asgV st t v env = some env' → ∀ Q : L2.St → Hp → Prop, Q (toS G φ env') H → tUG X tg (toV G φ v) (toS G φ env) H Q
def SimGs (G : Gi) (X : Cx) (tg : List Expr) (t : List Tg) : Prop := ∀ env φ st H vs env', Rel G X.K φ st H → asgVs st t vs env = some env' → ∀ Q : L2.St → Hp → Prop, Q (toS G φ env') H → tUGs X tg (vs.map (toV G φ)) (toS G φ env) H Q
theorem toS_set {φ : List Addr} {env : Env} {i : Nat} {v : HV} : toS G φ (env.set i (some v)) = (toS G φ env).set i (some (toV G φ v)) := by
  unfold toS
  rw [List.map_set]
  rfl
theorem simG_nm {i : Nat} {x : Str} {pos : Pos} (hN : X.N.Nodup) (hi : X.N[i]? = some x) (hx : Loc X.env.scope x) (hf : X.fn x = true ∨ X.env.scope.names.lookup x = some .local) : SimG G X (.Name x pos) (.nm i) := by
  intro env φ st H v env' r h Q q
  unfold asgV at h
  split at h
  · cases h
    rw [toS_set] at q
    exact PG.u (pg_name hN hi hx hf) q
  · cases h
theorem assignEach_c {e : Expr} {es : List Expr} {env : PySem.Env} (h : isSt e = false) : assignEach (e :: es) env = (false, assign e env) :: assignEach es env := by cases e <;> first | rfl | cases h
theorem assign_len {env : PySem.Env} : ∀ {es : List Expr}, (es.all fun e => !isSt e) = true → (assignEach es env).length = es.length
  | [], _ => rfl
  | e :: es, h => by
    rw [List.all_cons, Bool.and_eq_true] at h
    rw [assignEach_c (by simpa using h.1)]
    show (assignEach es env).length + 1 = es.length + 1
    rw [assign_len h.2]
theorem assign_star {env : PySem.Env} : ∀ {es : List Expr}, (es.all fun e => !isSt e) = true → (assignEach es env).findIdx? (·.1) = none
  | [], _ => rfl
  | e :: es, h => by
    rw [List.all_cons, Bool.and_eq_true] at h
    rw [assignEach_c (by simpa using h.1), List.findIdx?_cons]
    show (if false = true then _ else _) = _
    rw [if_neg Bool.false_ne_true, assign_star h.2]
    rfl
theorem asgVs_len {st : Hs} : ∀ {ts : List Tg} {vs : List HV} {env env' : Env}, asgVs st ts vs env = some env' → vs.length = ts.length
  | [], [], _, _, _ => rfl
  | t :: ts, v :: vs, env, env', h => by
    unfold asgVs at h
    cases e : asgV st t v env with
    | none => rw [e] at h; cases h
    | some env1 =>
      rw [e] at h
      show vs.length + 1 = ts.length + 1
      rw [asgVs_len h]
  | [], _ :: _, _, _, h => by unfold asgVs at h; cases h
  | _ :: _, [], _, _, h => by unfold asgVs at h; cases h
theorem simGs_nil : SimGs G X [] [] := by
  intro env φ st H vs env' r h Q q
  cases vs with
  | nil =>
    unfold asgVs at h
    cases h
    exact PGs.u pgs_nil ⟨rfl, q⟩
  | cons v vs => unfold asgVs at h; cases h
theorem simGs_cons {e : Expr} {es : List Expr} {t : Tg} {ts : List Tg} (hs : isSt e = false) (h1 : SimG G X e t) (h2 : SimGs G X es ts) : SimGs G X (e :: es) (t :: ts) := by
  intro env φ st H vs env' r h Q q
  cases vs with
  | nil => unfold asgVs at h; cases h
  | cons v vs =>
    unfold asgVs at h
    cases e1 : asgV st t v env with
    | none => rw [e1] at h; cases h
    | some env1 =>
      rw [e1] at h
      refine PGs.u (pgs_cons pg_tU pgs_tU (by rw [assignEach_c hs]; rfl)) ⟨toV G φ v, vs.map (toV G φ), rfl, h1 env φ st H v env1 r e1 _ (h2 env1 φ st H vs env' r h Q q)⟩
theorem simG_tp {es : List Expr} {ts : List Tg} {k : Nat} {pos : Pos} (hc : X.calm = true) (hst : (es.all fun e => !isSt e) = true) (hl : es.length = ts.length) (h : SimGs G X es ts) : SimG G X (.Tuple es k pos) (.tp ts) := by
  intro env φ st H v env' r ha Q q
  unfold asgV at ha
  cases e : tupOf st v with
  | none => rw [e] at ha; cases ha
  | some xs =>
    rw [e] at ha
    simp only at ha
    split at ha
    · rename_i hz
      obtain ⟨a, ea, hs, _, w⟩ := tupOf_ok r e
      refine PG.u (pg_tup hc pgs_tU (assign_len hst) (assign_star hst)) ⟨a, xs.map (toV G φ), ea, hs, by rw [List.length_map, hz, hl], h env φ st H xs env' r ha Q q⟩
    · cases ha
/-- an item of a turn, at its target -/
def Yl (G : Gi) (φ : List Addr) (H : Hp) : Iv → V → Hp → Prop
  | .one v, x, H' => H' = H ∧ x = toV G φ v
  | .many vs, x, H' => ∃ T, x = .ref T ∧ H T = none ∧ H' = upd H T (.tup (vs.map (toV G φ)))
theorem simG_iv {tg : Expr} {t : Tg} (h : SimG G X tg t) (hm : ∀ ts, t = .tp ts → ∃ es k pos, tg = .Tuple es k pos ∧ X.calm = true ∧ (es.all fun e => !isSt e) = true ∧ es.length = ts.length ∧ SimGs G X es ts)
    {env env' : Env} {φ : List Addr} {st : Hs} {H H' : Hp} {y : Iv} {x : V} (r : Rel G X.K φ st H) (ha : asgI st t env y = some env') (hy : Yl G φ H y x H') (Q : L2.St → Hp → Prop) (q : ∀ H'', Rel G X.K φ st H'' → Q (toS G φ env') H'') : tUG X tg x (toS G φ env) H' Q := by
  cases y with
  | one v =>
    obtain ⟨rfl, rfl⟩ := hy
    exact h env φ st _ v env' r ha Q (q _ r)
  | many vs =>
    obtain ⟨T, rfl, hT, rfl⟩ := hy
    cases t with
    | nm i => cases ha
    | tp ts =>
      simp only [asgI] at ha
      split at ha
      · rename_i hz
        obtain ⟨es, k, pos, rfl, hc, hst, hl, hs⟩ := hm ts rfl
        have r2 := r.fresh (o := .tup (vs.map (toV G φ))) hT
        exact PG.u (pg_tup hc pgs_tU (assign_len hst) (assign_star hst)) ⟨T, _, rfl, .inl (.inl upd_same), by rw [List.length_map, hz, hl], hs env φ st _ vs env' r2 ha Q (q _ r2)⟩
      · cases ha
theorem stands_get {held : List (Nat × Cel)} {st : Hs} (h : Wk.stands held st = true) {n : Nat} {c : Cel} (m : (n, c) ∈ held) : st[n]? = some c := by
  have z := List.all_eq_true.mp h _ m
  exact eq_of_beq z
def JOk (G : Gi) (K : PySem.W.Frag) (J : L2.It) (w : Wk) (φ0 : List Addr) : Prop := ∀ i φ st H, Rel G K φ st H → Ext φ0 φ → Wk.stands w.held st = true →
  (∀ y, w.items[i]? = some y → J.go i H ∧ ∀ x H', J.yld i H x H' → Yl G φ H y x H') ∧ (w.items.length ≤ i → J.stop i H)
def wfI (n : Nat) : Iv → Prop
  | .one v => wfV n v
  | .many vs => ∀ v ∈ vs, wfV n v
def tUI (X : Cx) (tg iter : Expr) : TI := fun σ H Q => ∀ (pins : List (Addr × Obj)) (s : Shared), Inv X pins σ H s → wpAny (model X.prog X.w) X.A (eval iter X.env) (fun v s1 => wpAny (model X.prog X.w) X.A (pyIter v) (PIE X pins σ tg Q) X.xe s1) X.xe s
theorem pi_tU {tg iter : Expr} : PI X tg iter (tUI X tg iter) := ⟨fun pins s _ _ _ I h => h pins s I⟩
theorem PI.u {tg iter : Expr} {t : TI} {σ : L2.St} {H : Hp} {Q : L2.It → Hp → Prop} (h : PI X tg iter t) (q : t σ H Q) : tUI X tg iter σ H Q := fun pins s I => h.run pins s σ H Q I q
def PostI (G : Gi) (K : PySem.W.Frag) (φ : List Addr) (r : Res Wk) : L2.It → Hp → Prop := fun J H' => ∃ w st' φ', r = .ok w st' ∧ Rel G K φ' st' H' ∧ Ext φ φ' ∧ (∀ y ∈ w.items, wfI st'.length y) ∧ JOk G K J w φ'
def SimI (G : Gi) (X : Cx) (R : Rt) (tg iter : Expr) (x : It) : Prop :=
  ∀ σ env W φ st H, Cf G X σ env W φ st H → ExW G X.K W σ φ (evI R env x st) → evI R env x st ≠ .bad → tUI X tg iter σ H (PostI G X.K φ (evI R env x st))
theorem tUI_mono {tg iter : Expr} {σ : L2.St} {H : Hp} {Q Q' : L2.It → Hp → Prop} (h : tUI X tg iter σ H Q) (k : ∀ J H', Q J H' → Q' J H') : tUI X tg iter σ H Q' := fun pins s I =>
  thn (h pins s I) fun _ _ p => thn p fun _ _ ⟨it, fp, tn, J, H', a, b, c, d, e, f⟩ => ⟨it, fp, tn, J, H', a, b, c, d, e, k J H' f⟩
theorem ext_at {φ0 φ : List Addr} {n : Nat} {a : Addr} (e : Ext φ0 φ) (h : φ0[n]? = some a) : φ[n]? = some a := by
  rw [e.get (List.getElem?_eq_some_iff.mp h).1]
  exact h
theorem map_one_get {xs : List HV} {i : Nat} {y : Iv} (h : (xs.map Iv.one)[i]? = some y) : ∃ v, xs[i]? = some v ∧ y = .one v := by
  rw [List.getElem?_map] at h
  cases e : xs[i]? with
  | none => rw [e] at h; cases h
  | some v => rw [e] at h; cases h; exact ⟨v, rfl, rfl⟩
theorem rel_sqL {K : PySem.W.Frag} {φ : List Addr} {st : Hs} {H : Hp} (r : Rel G K φ st H) {n : Nat} {a : Addr} {c : Cel} {xs : List HV} (e : st[n]? = some c) (ea : φ[n]? = some a) (hc : c = .lst xs ∨ c = .fro xs) : SqL K H a (xs.map (toV G φ)) := by
  have ok := r.at_ n c a e ea
  rcases hc with rfl | rfl
  · exact .inl (.inl ok)
  · exact ok.sq
theorem rel_sqT {K : PySem.W.Frag} {φ : List Addr} {st : Hs} {H : Hp} (r : Rel G K φ st H) {n : Nat} {a : Addr} {xs : List HV} (e : st[n]? = some (.tup xs)) (ea : φ[n]? = some a) : SqT K H a (xs.map (toV G φ)) := .inl (.inl (r.at_ n _ a e ea))
theorem jok_list {K : PySem.W.Frag} {φ0 : List Addr} {n : Nat} {a : Addr} {c : Cel} {xs : List HV} (ea : φ0[n]? = some a) (hc : c = .lst xs ∨ c = .fro xs) : JOk G K (Itl K a) ⟨xs.map .one, [(n, c)]⟩ φ0 := by
  intro i φ st H r ex hs
  have sq := rel_sqL r (stands_get hs List.mem_cons_self) (ext_at ex ea) hc
  refine ⟨fun y hy => ?_, fun hl => ⟨_, sq, by rw [List.length_map] at hl ⊢; exact hl⟩⟩
  obtain ⟨v, hv, rfl⟩ := map_one_get hy
  have hg : (xs.map (toV G φ))[i]? = some (toV G φ v) := by rw [List.getElem?_map, hv]; rfl
  exact ⟨⟨_, _, sq, hg⟩, fun x H' ⟨e, u⟩ => ⟨e, Option.some.inj ((u _ sq).symm.trans hg)⟩⟩
theorem jok_tup {K : PySem.W.Frag} {φ0 : List Addr} {n : Nat} {a : Addr} {xs : List HV} (ea : φ0[n]? = some a) : JOk G K (Itt K a) ⟨xs.map .one, [(n, .tup xs)]⟩ φ0 := by
  intro i φ st H r ex hs
  have sq := rel_sqT r (stands_get hs List.mem_cons_self) (ext_at ex ea)
  refine ⟨fun y hy => ?_, fun hl => ⟨_, sq, by rw [List.length_map] at hl ⊢; exact hl⟩⟩
  obtain ⟨v, hv, rfl⟩ := map_one_get hy
  have hg : (xs.map (toV G φ))[i]? = some (toV G φ v) := by rw [List.getElem?_map, hv]; rfl
  exact ⟨⟨_, _, sq, hg⟩, fun x H' ⟨e, u⟩ => ⟨e, Option.some.inj ((u _ sq).symm.trans hg)⟩⟩
theorem rgL_get {a b : Int} {i : Nat} : (rgL a b)[i]? = if i < (b - a).toNat then some (.int (a + (i : Nat))) else none := by
  unfold rgL
  rw [List.getElem?_map]
  by_cases h : i < (b - a).toNat
  · rw [List.getElem?_range h, if_pos h]
    rfl
  · rw [if_neg h, List.getElem?_eq_none (by rw [List.length_range]; omega)]
    rfl
theorem jok_rng {K : PySem.W.Frag} {φ0 : List Addr} {a b : Int} : JOk G K (Itr a (b - a).toNat) ⟨(rgL a b).map .one, []⟩ φ0 := by
  intro i φ st H r ex hs
  refine ⟨fun y hy => ?_, fun hl => ?_⟩
  · obtain ⟨v, hv, rfl⟩ := map_one_get hy
    rw [rgL_get] at hv
    split at hv
    · rename_i h
      cases hv
      exact ⟨h, fun x H' ⟨e, u⟩ => ⟨e, u⟩⟩
    · cases hv
  · rw [List.length_map] at hl
    show (b - a).toNat ≤ i
    unfold rgL at hl
    rw [List.length_map, List.length_range] at hl
    exact hl
theorem enm_get : ∀ {xs : List HV} {k i : Nat}, (enmFrom k xs)[i]? = (xs[i]?).map fun v => .many [.int ((k + i : Nat) : Int), v]
  | [], k, i => by unfold enmFrom; simp
  | x :: xs, k, 0 => rfl
  | x :: xs, k, i + 1 => by
    unfold enmFrom
    rw [List.getElem?_cons_succ, List.getElem?_cons_succ, enm_get, show k + 1 + i = k + (i + 1) by omega]
theorem enm_len : ∀ {xs : List HV} {k : Nat}, (enmFrom k xs).length = xs.length
  | [], _ => rfl
  | x :: xs, k => by
    unfold enmFrom
    rw [List.length_cons, enm_len, List.length_cons]
theorem jok_enm {K : PySem.W.Frag} {φ0 : List Addr} {n : Nat} {a : Addr} {c : Cel} {xs : List HV} (ea : φ0[n]? = some a) (hc : c = .lst xs ∨ c = .fro xs) : JOk G K (Ite K a) ⟨enmFrom 0 xs, [(n, c)]⟩ φ0 := by
  intro i φ st H r ex hs
  have sq := rel_sqL r (stands_get hs List.mem_cons_self) (ext_at ex ea) hc
  refine ⟨fun y hy => ?_, fun hl => ⟨_, sq, by rw [enm_len] at hl; rw [List.length_map]; exact hl⟩⟩
  rw [enm_get, Nat.zero_add] at hy
  cases e : xs[i]? with
  | none => rw [e] at hy; cases hy
  | some v =>
    rw [e] at hy
    cases hy
    have hg : (xs.map (toV G φ))[i]? = some (toV G φ v) := by rw [List.getElem?_map, e]; rfl
    refine ⟨⟨_, _, sq, hg⟩, fun x H' ⟨T, z, e1, e2, e3, u⟩ => ⟨T, e1, e2, ?_⟩⟩
    rw [e3, Option.some.inj ((u _ sq).symm.trans hg)]
    rfl
theorem zip_get : ∀ {xs ys : List HV} {i : Nat}, (zipV xs ys)[i]? = (match xs[i]?, ys[i]? with
    | some x, some y => some (.many [x, y])
    | _, _ => none)
  | [], ys, i => by unfold zipV; simp
  | x :: xs, [], i => by unfold zipV; simp
  | x :: xs, y :: ys, 0 => rfl
  | x :: xs, y :: ys, i + 1 => by
    unfold zipV
    rw [List.getElem?_cons_succ, List.getElem?_cons_succ, List.getElem?_cons_succ, zip_get]
theorem zip_len : ∀ {xs ys : List HV}, (zipV xs ys).length = min xs.length ys.length
  | [], ys => by unfold zipV; simp
  | x :: xs, [] => by unfold zipV; simp
  | x :: xs, y :: ys => by
    unfold zipV
    rw [List.length_cons, zip_len, List.length_cons, List.length_cons]
    omega
theorem jok_zipL {K : PySem.W.Frag} {φ0 : List Addr} {n m : Nat} {a b : Addr} {xs ys : List HV} (ea : φ0[n]? = some a) (eb : φ0[m]? = some b) : JOk G K (Itz K a b) ⟨zipV xs ys, [(n, .lst xs), (m, .lst ys)]⟩ φ0 := by
  intro i φ st H r ex hs
  have sq := rel_sqL r (stands_get hs List.mem_cons_self) (ext_at ex ea) (.inl rfl)
  have sq2 := rel_sqL r (stands_get hs (List.mem_cons_of_mem _ List.mem_cons_self)) (ext_at ex eb) (.inl rfl)
  refine ⟨fun y hy => ?_, fun hl => ⟨_, _, sq, sq2, by rw [zip_len] at hl; rw [List.length_map, List.length_map]; omega⟩⟩
  rw [zip_get] at hy
  cases e : xs[i]? with
  | none => rw [e] at hy; cases hy
  | some v =>
    cases e2 : ys[i]? with
    | none => rw [e, e2] at hy; cases hy
    | some u =>
      rw [e, e2] at hy
      cases hy
      have hg : (xs.map (toV G φ))[i]? = some (toV G φ v) := by rw [List.getElem?_map, e]; rfl
      have hg2 : (ys.map (toV G φ))[i]? = some (toV G φ u) := by rw [List.getElem?_map, e2]; rfl
      refine ⟨⟨_, _, _, _, sq, sq2, hg, hg2⟩, fun x H' ⟨T, z, z2, e1, e2, e3, u1, u2⟩ => ⟨T, e1, e2, ?_⟩⟩
      rw [e3, Option.some.inj ((u1 _ sq).symm.trans hg), Option.some.inj ((u2 _ sq2).symm.trans hg2)]
      rfl
theorem jok_zipT {K : PySem.W.Frag} {φ0 : List Addr} {n m : Nat} {a b : Addr} {xs ys : List HV} (ea : φ0[n]? = some a) (eb : φ0[m]? = some b) : JOk G K (RZ.ItzT K a b) ⟨zipV xs ys, [(n, .tup xs), (m, .tup ys)]⟩ φ0 := by
  intro i φ st H r ex hs
  have sq := rel_sqT r (stands_get hs List.mem_cons_self) (ext_at ex ea)
  have sq2 := rel_sqT r (stands_get hs (List.mem_cons_of_mem _ List.mem_cons_self)) (ext_at ex eb)
  refine ⟨fun y hy => ?_, fun hl => ⟨_, _, sq, sq2, by rw [zip_len] at hl; rw [List.length_map, List.length_map]; omega⟩⟩
  rw [zip_get] at hy
  cases e : xs[i]? with
  | none => rw [e] at hy; cases hy
  | some v =>
    cases e2 : ys[i]? with
    | none => rw [e, e2] at hy; cases hy
    | some u =>
      rw [e, e2] at hy
      cases hy
      have hg : (xs.map (toV G φ))[i]? = some (toV G φ v) := by rw [List.getElem?_map, e]; rfl
      have hg2 : (ys.map (toV G φ))[i]? = some (toV G φ u) := by rw [List.getElem?_map, e2]; rfl
      refine ⟨⟨_, _, _, _, sq, sq2, hg, hg2⟩, fun x H' ⟨T, z, z2, e1, e2, e3, u1, u2⟩ => ⟨T, e1, e2, ?_⟩⟩
      rw [e3, Option.some.inj ((u1 _ sq).symm.trans hg), Option.some.inj ((u2 _ sq2).symm.trans hg2)]
      rfl
theorem simI_seq {tg e : Expr} {x : Ex} (h : SimE G X R e x) : SimI G X R tg e (.seq x) := by
  intro σ env W φ st H C hx hb
  have e0 : evI R env (.seq x) st = (evE R env x st).andThen fun v s => wkSeq v s := rfl
  have go : ∀ {t : TI}, PI X tg e t → (t σ H (PostI G X.K φ (evI R env (.seq x) st))) → tUI X tg e σ H (PostI G X.K φ (evI R env (.seq x) st)) := fun p q => PI.u p q
  cases e1 : evE R env x st with
  | bad => exact (hb (by rw [e0, e1]; rfl)).elim
  | exc c p st' => exact go (pi_list pe_tU) (fstE h C e0 hx hb fun v st1 φ1 H1 e2 C1 x1 w1 hx1 hb1 => by rw [e1] at e2; cases e2)
  | ok v st1 =>
    have ez : evI R env (.seq x) st = wkSeq v st1 := by rw [e0, e1]; rfl
    rw [ez] at hb
    cases v with
    | ref n =>
      cases e3 : st1[n]? with
      | none => exact (hb (by simp [wkSeq, e3])).elim
      | some c =>
        have wf1 : ∀ {H1 φ1}, Rel G X.K φ1 st1 H1 → wfC st1.length c := fun r => r.wf n c e3
        have one : ∀ {xs : List HV}, (∀ x ∈ xs, wfV st1.length x) → ∀ y ∈ xs.map Iv.one, wfI st1.length y := fun w y hy => by
          obtain ⟨v, hv, rfl⟩ := List.mem_map.mp hy
          exact w v hv
        cases c with
        | lst xs =>
          have ew : wkSeq (.ref n) st1 = .ok ⟨xs.map .one, [(n, .lst xs)]⟩ st1 := by simp [wkSeq, e3]
          refine go (pi_list pe_tU) (fstE h C e0 hx (by rw [ez]; exact hb) fun v' st1' φ1 H1 e2 C1 x1 w1 hx1 hb1 => ?_)
          rw [e1] at e2
          cases e2
          obtain ⟨a, ea, ev, ok⟩ := C1.rel.cell e3
          exact ⟨a, ev, ⟨_, .inl (.inl ok)⟩, _, st1, φ1, by rw [ez, ew], C1.rel, x1, one (C1.rel.wf n _ e3), jok_list ea (.inl rfl)⟩
        | fro xs =>
          have ew : wkSeq (.ref n) st1 = .ok ⟨xs.map .one, [(n, .fro xs)]⟩ st1 := by simp [wkSeq, e3]
          refine go (pi_list pe_tU) (fstE h C e0 hx (by rw [ez]; exact hb) fun v' st1' φ1 H1 e2 C1 x1 w1 hx1 hb1 => ?_)
          rw [e1] at e2
          cases e2
          obtain ⟨a, ea, ev, ok⟩ := C1.rel.cell e3
          exact ⟨a, ev, ⟨_, ok.sq⟩, _, st1, φ1, by rw [ez, ew], C1.rel, x1, one (C1.rel.wf n _ e3), jok_list ea (.inr rfl)⟩
        | tup xs =>
          have ew : wkSeq (.ref n) st1 = .ok ⟨xs.map .one, [(n, .tup xs)]⟩ st1 := by simp [wkSeq, e3]
          refine go (pi_tup pe_tU) (fstE h C e0 hx (by rw [ez]; exact hb) fun v' st1' φ1 H1 e2 C1 x1 w1 hx1 hb1 => ?_)
          rw [e1] at e2
          cases e2
          obtain ⟨a, ea, ev, ok⟩ := C1.rel.cell e3
          exact ⟨a, ev, ⟨_, .inl (.inl ok)⟩, _, st1, φ1, by rw [ez, ew], C1.rel, x1, one (C1.rel.wf n _ e3), jok_tup ea⟩
        | dic kvs => exact (hb (by simp [wkSeq, e3])).elim
        | dead => exact (hb (by simp [wkSeq, e3])).elim
    | _ => exact (hb rfl).elim
theorem rng_items (n : Nat) (i j : Int) : ∀ y ∈ (rgL i j).map Iv.one, wfI n y := fun y hy => by
  obtain ⟨v, hv, rfl⟩ := List.mem_map.mp hy
  exact rg_wf n i j v hv
theorem simI_rng1 {tg a : Expr} {x : Ex} {p pos : Pos} (hg : Gl X "range") (hm : X.mg "range" = none) (hst : isSt a = false) (h : SimE G X R a x) : SimI G X R tg (.Call (.Name "range" p) [a] [] pos) (.rng1 x) := by
  intro σ env W φ st H C hx hb
  have e0 : evI R env (.rng1 x) st = (evE R env x st).andThen fun v s => wkRng (.int 0) v s := rfl
  refine PI.u (pi_range1 hg hm (pa_cons pe_tU pa_nil (starEach_c hst)) (starEach_c hst)) (fstE h C e0 hx hb fun v st1 φ1 H1 e1 C1 x1 w1 hx1 hb1 => ?_)
  cases v with
  | int j =>
    have ez : evI R env (.rng1 x) st = wkRng (.int 0) (.int j) st1 := by rw [e0, e1]; rfl
    rw [ez]
    simp only [wkRng] at hb1 ⊢
    split at hb1
    · rename_i hz
      simp only [hz, if_true]
      simp only [zl62, zg62, zl63, zg63, Bool.and_eq_true, decide_eq_true_eq] at hz
      have e : j.toNat = (j - 0).toNat := by rw [Int.sub_zero]
      refine ⟨j, rfl, hz.2.2.1, hz.2.2.2, _, st1, φ1, rfl, C1.rel, x1, rng_items _ _ _, ?_⟩
      rw [e]
      exact jok_rng
    · exact (hb1 rfl).elim
  | _ => exact (hb1 rfl).elim
theorem simI_rng2 {tg a b : Expr} {x y : Ex} {p pos : Pos} (hg : Gl X "range") (hm : X.mg "range" = none) (hst : isSt a = false) (hst2 : isSt b = false) (h : SimE G X R a x) (h2 : SimE G X R b y) : SimI G X R tg (.Call (.Name "range" p) [a, b] [] pos) (.rng2 x y) := by
  intro σ env W φ st H C hx hb
  have e0 : evI R env (.rng2 x y) st = (evE R env x st).andThen fun v s => bnd (evE R env y) (fun u => wkRng v u) s := rfl
  refine PI.u (pi_range2 hg hm (pa_cons pe_tU (pa_cons pe_tU pa_nil (starEach_c hst2)) (starEach_c hst)) (by rw [starEach_c hst, starEach_c hst2]; rfl) (starEach_c hst2)) (fstE h C e0 hx hb fun v st1 φ1 H1 e1 C1 x1 w1 hx1 hb1 => fstE h2 C1 bnd_andThen hx1 hb1 fun u st2 φ2 H2 e2 C2 x2 w2 hx2 hb2 => ?_)
  cases v with
  | int i =>
    cases u with
    | int j =>
      have ez : evI R env (.rng2 x y) st = wkRng (.int i) (.int j) st2 := by rw [e0, e1]; exact bnd_at e2
      rw [ez]
      simp only [wkRng] at hb2 ⊢
      split at hb2
      · rename_i hz
        simp only [hz, if_true]
        simp only [zl62, zg62, zl63, zg63, Bool.and_eq_true, decide_eq_true_eq] at hz
        exact ⟨i, j, rfl, hz, _, st2, φ2, rfl, C2.rel, x1.trans x2, rng_items _ _ _, jok_rng⟩
      · exact (hb2 rfl).elim
    | _ => exact (hb2 rfl).elim
  | _ => exact (hb2 rfl).elim
theorem enm_wf {n : Nat} : ∀ {xs : List HV} {k : Nat}, (∀ x ∈ xs, wfV n x) → ∀ y ∈ enmFrom k xs, wfI n y
  | [], _, _, _, h => by unfold enmFrom at h; exact (List.not_mem_nil h).elim
  | x :: xs, k, w, y, h => by
    unfold enmFrom at h
    rcases List.mem_cons.mp h with e | h
    · rw [e]
      intro v hv
      rcases List.mem_cons.mp hv with e | hv
      · rw [e]; exact True.intro
      · rw [List.mem_singleton.mp hv]; exact w x List.mem_cons_self
    · exact enm_wf (fun z hz => w z (List.mem_cons_of_mem _ hz)) y h
theorem simI_enm {elts : List Expr} {k : Nat} {tpos : Pos} {a : Expr} {x : Ex} {p pos : Pos} (hg : Gl X "enumerate") (hm : X.mg "enumerate" = none) (hst : isSt a = false) (h : SimE G X R a x) : SimI G X R (.Tuple elts k tpos) (.Call (.Name "enumerate" p) [a] [] pos) (.enm x) := by
  intro σ env W φ st H C hx hb
  have e0 : evI R env (.enm x) st = (evE R env x st).andThen fun v s => wkEnm v s := rfl
  refine PI.u (pi_enum hg hm (pa_cons pe_tU pa_nil (starEach_c hst)) (starEach_c hst)) (fstE h C e0 hx hb fun v st1 φ1 H1 e1 C1 x1 w1 hx1 hb1 => ?_)
  have ez : evI R env (.enm x) st = wkEnm v st1 := by rw [e0, e1]; rfl
  cases v with
  | ref n =>
    cases e3 : st1[n]? with
    | none => exact (hb1 (by simp [wkEnm, e3])).elim
    | some c =>
      obtain ⟨b, eb, ev, ok⟩ := C1.rel.cell e3
      cases c with
      | lst xs => exact ⟨b, _, by rw [ev], .inl (.inl ok), _, st1, φ1, by rw [ez]; simp [wkEnm, e3], C1.rel, x1, enm_wf (C1.rel.wf n _ e3), jok_enm eb (.inl rfl)⟩
      | fro xs => exact ⟨b, _, by rw [ev], ok.sq, _, st1, φ1, by rw [ez]; simp [wkEnm, e3], C1.rel, x1, enm_wf (C1.rel.wf n _ e3), jok_enm eb (.inr rfl)⟩
      | _ => exact (hb1 (by simp [wkEnm, e3])).elim
  | _ => exact (hb1 rfl).elim
theorem zip_wf {n : Nat} : ∀ {xs ys : List HV}, (∀ x ∈ xs, wfV n x) → (∀ x ∈ ys, wfV n x) → ∀ y ∈ zipV xs ys, wfI n y
  | [], _, _, _, _, h => by unfold zipV at h; exact (List.not_mem_nil h).elim
  | _ :: _, [], _, _, _, h => by unfold zipV at h; exact (List.not_mem_nil h).elim
  | x :: xs, y :: ys, w1, w2, z, h => by
    unfold zipV at h
    rcases List.mem_cons.mp h with e | h
    · rw [e]
      intro v hv
      rcases List.mem_cons.mp hv with e | hv
      · rw [e]; exact w1 x List.mem_cons_self
      · rw [List.mem_singleton.mp hv]; exact w2 y List.mem_cons_self
    · exact zip_wf (fun z hz => w1 z (List.mem_cons_of_mem _ hz)) (fun z hz => w2 z (List.mem_cons_of_mem _ hz)) z h
theorem simI_zip {elts : List Expr} {k : Nat} {tpos : Pos} {a b : Expr} {x y : Ex} {p pos : Pos} (hg : Gl X "zip") (hm : X.mg "zip" = none) (hst : isSt a = false) (hst2 : isSt b = false) (h : SimE G X R a x) (h2 : SimE G X R b y) : SimI G X R (.Tuple elts k tpos) (.Call (.Name "zip" p) [a, b] [] pos) (.zip x y) := by
  intro σ env W φ st H C hx hb
  have e0 : evI R env (.zip x y) st = (evE R env x st).andThen fun v s => bnd (evE R env y) (fun u => wkZip v u) s := rfl
  refine PI.u (RZ.pi_zipA hg hm (pa_cons pe_tU (pa_cons pe_tU pa_nil (starEach_c hst2)) (starEach_c hst)) (starEach_c hst) (star_any (by simp [hst2]))) (fstE h C e0 hx hb fun v st1 φ1 H1 e1 C1 x1 w1 hx1 hb1 => fstE h2 C1 bnd_andThen hx1 hb1 fun u st2 φ2 H2 e2 C2 x2 w2 hx2 hb2 => ?_)
  have ez : evI R env (.zip x y) st = wkZip v u st2 := by rw [e0, e1]; exact bnd_at e2
  have ev : toV G φ1 v = toV G φ2 v := (toV_ext x2 (w1.phi C1.rel)).symm
  rw [ez, ev]
  cases v with
  | ref n =>
    cases u with
    | ref m =>
      cases e3 : st2[n]? with
      | none => exact (hb2 (by simp [wkZip, e3])).elim
      | some c =>
        cases e4 : st2[m]? with
        | none => exact (hb2 (by cases c <;> simp [wkZip, e3, e4])).elim
        | some d =>
          obtain ⟨b1, eb1, ev1, ok1⟩ := C2.rel.cell e3
          obtain ⟨b2, eb2, ev2, ok2⟩ := C2.rel.cell e4
          cases c with
          | lst xs =>
            cases d with
            | lst ys => exact ⟨b1, b2, _, _, by rw [ev1, ev2], .inl ⟨.inl (.inl ok1), .inl (.inl ok2), _, st2, φ2, by simp [wkZip, e3, e4], C2.rel, x1.trans x2, zip_wf (C2.rel.wf n _ e3) (C2.rel.wf m _ e4), jok_zipL eb1 eb2⟩⟩
            | _ => exact (hb2 (by simp [wkZip, e3, e4])).elim
          | tup xs =>
            cases d with
            | tup ys => exact ⟨b1, b2, _, _, by rw [ev1, ev2], .inr ⟨.inl (.inl ok1), .inl (.inl ok2), _, st2, φ2, by simp [wkZip, e3, e4], C2.rel, x1.trans x2, zip_wf (C2.rel.wf n _ e3) (C2.rel.wf m _ e4), jok_zipT eb1 eb2⟩⟩
            | _ => exact (hb2 (by simp [wkZip, e3, e4])).elim
          | _ => exact (hb2 (by simp [wkZip, e3, e4])).elim
    | _ => exact (hb2 rfl).elim
  | _ => cases u <;> exact (hb2 rfl).elim
end
end Ih
end
section
set_option Elab.async false
set_option linter.all false
set_option maxHeartbeats 1000000
namespace Ih
open PySem PySem.Spec PyProof.Rows L2
section
variable {G : Gi} {X : Cx} {R : Rt}
theorem wipe_toS {φ : List Addr} {env : Env} : ∀ {own : List Nat}, toS G φ (wipeE env own) = L2.wipe (toS G φ env) own
  | [] => rfl
  | i :: r => by
    show toS G φ ((wipeE env r).set i none) = (L2.wipe (toS G φ env) r).set i none
    rw [← wipe_toS]
    unfold toS
    rw [List.map_set]
    rfl
theorem wipeE_len {env : Env} : ∀ {own : List Nat}, (wipeE env own).length = env.length
  | [] => rfl
  | i :: r => by
    show ((wipeE env r).set i none).length = _
    rw [List.length_set, wipeE_len]
theorem wipeE_get {env : Env} {j : Nat} : ∀ {own : List Nat}, (wipeE env own)[j]? = if j ∈ own ∧ j < env.length then some none else env[j]?
  | [] => by simp [wipeE]
  | i :: r => by
    show ((wipeE env r).set i none)[j]? = _
    by_cases h : i = j
    · subst h
      by_cases hl : i < env.length
      · rw [List.getElem?_set_self (by rw [wipeE_len]; exact hl), if_pos ⟨List.mem_cons_self, hl⟩]
      · rw [if_neg (fun z => hl z.2), List.getElem?_eq_none (by rw [List.length_set, wipeE_len]; omega), List.getElem?_eq_none (by omega)]
    · rw [List.getElem?_set_ne h, wipeE_get]
      have e : (j ∈ i :: r) ↔ (j ∈ r) := by rw [List.mem_cons]; exact ⟨fun z => z.elim (fun e => absurd e.symm h) id, .inr⟩
      simp only [e]
theorem wipeE_idem {env : Env} {own : List Nat} : wipeE (wipeE env own) own = wipeE env own := by
  refine List.ext_getElem? fun j => ?_
  rw [wipeE_get, wipeE_len]
  by_cases h : j ∈ own ∧ j < env.length
  · rw [if_pos h, wipeE_get, if_pos h]
  · rw [if_neg h]
theorem wipeE_wf {n : Nat} {env : Env} {own : List Nat} (w : wfE n env) : wfE n (wipeE env own) := fun v hv => by
  obtain ⟨j, hj⟩ := List.mem_iff_getElem?.mp hv
  rw [wipeE_get] at hj
  split at hj
  · cases hj
  · exact w v (List.mem_of_getElem? hj)
mutual
theorem asgV_wf {n : Nat} {st : Hs} (hst : ∀ (m : Nat) (c : Cel), st[m]? = some c → wfC n c) : ∀ {t : Tg} {v : HV} {env env' : Env}, asgV st t v env = some env' → wfV n v → wfE n env → wfE n env'
  | .nm i, v, env, env', h, w, we => by
    unfold asgV at h
    split at h
    · cases h
      intro u hu
      rcases List.mem_or_eq_of_mem_set hu with z | z
      · exact we u z
      · cases z; exact w
    · cases h
  | .tp ts, v, env, env', h, w, we => by
    unfold asgV at h
    cases e : tupOf st v with
    | none => rw [e] at h; cases h
    | some xs =>
      rw [e] at h
      simp only at h
      split at h
      · refine asgVs_wf hst h ?_ we
        cases v with
        | ref m =>
          cases e2 : st[m]? with
          | none => simp [tupOf, e2] at e
          | some c =>
            cases c with
            | tup ys =>
              simp [tupOf, e2] at e
              subst e
              exact hst m _ e2
            | _ => simp [tupOf, e2] at e
        | _ => simp [tupOf] at e
      · cases h
theorem asgVs_wf {n : Nat} {st : Hs} (hst : ∀ (m : Nat) (c : Cel), st[m]? = some c → wfC n c) : ∀ {ts : List Tg} {vs : List HV} {env env' : Env}, asgVs st ts vs env = some env' → (∀ v ∈ vs, wfV n v) → wfE n env → wfE n env'
  | [], [], env, env', h, w, we => by unfold asgVs at h; cases h; exact we
  | t :: ts, v :: vs, env, env', h, w, we => by
    unfold asgVs at h
    cases e : asgV st t v env with
    | none => rw [e] at h; cases h
    | some env1 =>
      rw [e] at h
      exact asgVs_wf hst h (fun u hu => w u (List.mem_cons_of_mem _ hu)) (asgV_wf hst e (w v List.mem_cons_self) we)
  | [], _ :: _, _, _, h, _, _ => by unfold asgVs at h; cases h
  | _ :: _, [], _, _, h, _, _ => by unfold asgVs at h; cases h
end
theorem asgI_wf {n : Nat} {st : Hs} (hst : ∀ (m : Nat) (c : Cel), st[m]? = some c → wfC n c) {t : Tg} {y : Iv} {env env' : Env} (h : asgI st t env y = some env') (w : wfI n y) (we : wfE n env) : wfE n env' := by
  cases y with
  | one v => exact asgV_wf hst h w we
  | many vs =>
    cases t with
    | nm i => cases h
    | tp ts =>
      simp only [asgI] at h
      split at h
      · exact asgVs_wf hst h w we
      · cases h
/-- the contexts of a comprehension's block -/
def InBlk (X : Cx) (scope : Scope) (P : Cx → Prop) : Prop := ∀ (s : Shared) (H : Hp) (C : Addr) (cl : List (Str × Addr)) (fp : List Addr), P (X.blk s H scope (compEnvC scope cl C X.env) fp)
/-- a clause's tests -/
def SimC (G : Gi) (X : Cx) (R : Rt) (es : List Expr) (x : Exs) : Prop := (es = [] ∧ x = .nil) ∨ ∃ e y, es = [e] ∧ x = .cons y .nil ∧ SimT G X R e y
theorem lst_snoc {φ : List Addr} {acc : List HV} {y : HV} : acc.map (toV G φ) ++ [toV G φ y] = (acc ++ [y]).map (toV G φ) := by rw [List.map_append]; rfl
def bG (X : Cx) (scope : Scope) (tg : Expr) : TG := fun v σ H Q => InBlk X scope fun Y => tUG Y tg v σ H Q
def bT (X : Cx) (scope : Scope) (ifs : List Expr) : TT := fun σ H Q => InBlk X scope fun Y => ∀ (pins : List (Addr × Obj)) (s : Shared), Inv Y pins σ H s → wpAny (model Y.prog Y.w) Y.A (forIn ifs true fun c r => if r = true then do let ok ← isTrue c Y.env (eval c Y.env); pure (ForInStep.yield ok) else pure (ForInStep.yield r)) (TP Y pins σ Q) Y.xe s
def bE (X : Cx) (scope : Scope) (elt : Expr) : TE := fun σ H Q => InBlk X scope fun Y => tU Y elt σ H Q
theorem bG_ok {scope : Scope} {tg : Expr} (s : Shared) (H : Hp) (C : Addr) (cl : List (Str × Addr)) (fp : List Addr) : PG (X.blk s H scope (compEnvC scope cl C X.env) fp) tg (bG X scope tg) := ⟨fun pins s' σ H v u Q I r h => h s _ C cl fp pins s' u I r⟩
theorem bT_ok {scope : Scope} {ifs : List Expr} (s : Shared) (H : Hp) (C : Addr) (cl : List (Str × Addr)) (fp : List Addr) : PTs (X.blk s H scope (compEnvC scope cl C X.env) fp) ifs (bT X scope ifs) := ⟨fun pins s' σ H Q I h => h s _ C cl fp pins s' I⟩
theorem bE_ok {scope : Scope} {elt : Expr} (s : Shared) (H : Hp) (C : Addr) (cl : List (Str × Addr)) (fp : List Addr) : PE (X.blk s H scope (compEnvC scope cl C X.env) fp) elt (bE X scope elt) := ⟨fun pins s' σ H Q I h => h s _ C cl fp pins s' I⟩
theorem com_rd {elt tg iter : Expr} {ifs : List Expr} {scope : Scope} {t : Tg} {xi : It} {xc : Exs} {xe : Ex} {own : List (Str × Nat)}
    (hi : SimI G X R tg iter xi) (hg : InBlk X scope fun Y => SimG G Y tg t) (hm : InBlk X scope fun Y => ∀ ts, t = .tp ts → ∃ es k pos, tg = .Tuple es k pos ∧ Y.calm = true ∧ (es.all fun e => !isSt e) = true ∧ es.length = ts.length ∧ SimGs G Y es ts)
    (ht : InBlk X scope fun Y => SimC G Y R ifs xc) (he : InBlk X scope fun Y => SimE G Y R elt xe) {σ env W φ st H} (C : Cf G X σ env W φ st H) (hx : ExW G X.K W σ φ (evE R env (.com t xi xc xe (own.map (·.2))) st)) (hb : evE R env (.com t xi xc xe (own.map (·.2))) st ≠ .bad) {Q : VK} (hQ : ∀ v H', Post G X.K φ (evE R env (.com t xi xc xe (own.map (·.2))) st) v H' → Q v H') :
    tLc (tUI X tg iter) (bG X scope tg) (bT X scope ifs) (bE X scope elt) (own.map (·.2)) σ H Q := by
  have e0 : evE R env (.com t xi xc xe (own.map (·.2))) st = (evI R env xi st).andThen fun w s => comH s.length w.held t (wipeE env (own.map (·.2))) (own.map (·.2)) (fun env' => evCs R env' xc) (fun env' => evE R env' xe) w.items (s ++ [.lst []]) := rfl
  refine tUI_mono (hi σ env W φ st H C hx.fst (nb_fst (by rw [← e0]; exact hb))) fun J H1 ⟨w, st1, φ1, e1, r1, x1, wi, jok⟩ => ?_
  have ez : evE R env (.com t xi xc xe (own.map (·.2))) st = comH st1.length w.held t (wipeE env (own.map (·.2))) (own.map (·.2)) (fun env' => evCs R env' xc) (fun env' => evE R env' xe) w.items (st1 ++ [.lst []]) := by rw [e0, e1]; rfl
  rw [ez] at hb hQ
  have C1 := C.next r1 x1
  intro D hD
  generalize hO : own.map (·.2) = O at *
  generalize hR0 : comH st1.length w.held t (wipeE env O) O (fun env' => evCs R env' xc) (fun env' => evE R env' xe) w.items (st1 ++ [.lst []]) = r0 at *
  refine ⟨fun i m H' => m = w.items.length - i ∧ i ≤ w.items.length ∧ ∃ φ' st', Rel G X.K φ' st' H' ∧ Ext (φ1 ++ [D]) φ' ∧ comH st1.length w.held t (wipeE env O) O (fun env' => evCs R env' xc) (fun env' => evE R env' xe) (w.items.drop i) st' = r0,
    ⟨w.items.length, rfl, Nat.zero_le _, φ1 ++ [D], st1 ++ [.lst []], r1.alloc (c := .lst []) hD (fun _ h => (List.not_mem_nil h).elim) upd_same, Ext.refl _, by rw [List.drop_zero]; exact hR0⟩, ?_⟩
  rintro i m H2 ⟨rfl, hil, φ2, st2, r2, x2, hrun⟩
  have xa : Ext φ1 φ2 := (Ext.snoc φ1 D).trans x2
  have hDat : φ2[st1.length]? = some D := by
    rw [x2.get (by rw [List.length_append, r1.len]; exact Nat.lt_succ_self _), ← r1.len, List.getElem?_concat_length]
  have C2 : Cf G X σ env W φ2 st2 H2 := C1.next r2 xa
  by_cases hlt : i < w.items.length
  · -- a turn
    have hd : w.items.drop i = w.items[i] :: w.items.drop (i + 1) := List.drop_eq_getElem_cons hlt
    rw [hd] at hrun
    have hrun0 := hrun
    unfold comH at hrun
    cases hst : Wk.stands w.held st2 with
    | false => rw [hst] at hrun; exact (hb hrun.symm).elim
    | true =>
      obtain ⟨j1, _⟩ := jok i φ2 st2 H2 r2 xa hst
      obtain ⟨jgo, jy⟩ := j1 w.items[i] (List.getElem?_eq_getElem hlt)
      rw [hst] at hrun
      simp only [if_true] at hrun
      refine .inr ⟨jgo, fun H' => ∃ φ' st', Rel G X.K φ' st' H' ∧ Ext (φ1 ++ [D]) φ' ∧ comH st1.length w.held t (wipeE env O) O (fun env' => evCs R env' xc) (fun env' => evE R env' xe) (w.items.drop (i + 1)) st' = r0,
        fun H' h => ⟨w.items.length - (i + 1), by omega, rfl, hlt, h⟩, fun x H3 hy => ?_⟩
      cases ea : asgI st2 t (wipeE env O) w.items[i] with
      | none => rw [ea] at hrun; exact (hb hrun.symm).elim
      | some env2 =>
        rw [ea] at hrun
        simp only at hrun
        by_cases hw : wipeE env2 O = wipeE (wipeE env O) O
        · rw [if_pos hw] at hrun
          have wfI2 : wfI st2.length w.items[i] := by
            have z := wi _ (List.getElem_mem hlt)
            have le := Rel.le (X := X) r1 r2 xa
            cases q : w.items[i] with
            | one v => rw [q] at z; exact (show wfV st1.length v from z).mono le
            | many vs => rw [q] at z; exact fun v hv => (show ∀ v ∈ vs, wfV st1.length v from z) v hv |>.mono le
          have we2 : wfE st2.length env2 := asgI_wf (fun m c h => r2.wf m c h) ea wfI2 (wipeE_wf C2.wf)
          have sg : L2.wipe σ O = toS G φ2 (wipeE env O) := by rw [wipe_toS, ← C2.sg]
          rw [sg]
          intro sB HB CB cl fp
          refine simG_iv (hg sB HB CB cl fp) (hm sB HB CB cl fp) r2 ea (jy x H3 hy) _ fun H4 r4 => ⟨?_, ?_⟩
          · rw [← wipe_toS, hw, wipeE_idem]
          · -- the tests
            intro sB2 HB2 CB2 cl2 fp2
            have Ccf : Cf G (X.blk sB2 HB2 scope (compEnvC scope cl2 CB2 X.env) fp2) (toS G φ2 env2) env2 (fun _ _ _ _ => False) φ2 st2 H4 := ⟨fun _ _ ⟨_, _, _, _, _, _, _, _, _, _, _, _, _, _, _, _, z⟩ => z.elim, r4, rfl, we2⟩
            -- what follows a test that came out as b
            have after : ∀ (b : Bool) (st3 : Hs) (φ3 : List Addr) (H5 : Hp), evCs R env2 xc st2 = .ok b st3 → Rel G X.K φ3 st3 H5 → Ext φ2 φ3 →
                (if b = true then InBlk X scope (fun Y => tU Y elt (toS G φ2 env2) H5 fun y H6 => ∃ acc, H6 D = some (.lst acc) ∧ acc.length < sizeLine ∧ ∃ φ' st', Rel G X.K φ' st' (upd H6 D (.lst (acc ++ [y]))) ∧ Ext (φ1 ++ [D]) φ' ∧ comH st1.length w.held t (wipeE env O) O (fun env' => evCs R env' xc) (fun env' => evE R env' xe) (w.items.drop (i + 1)) st' = r0)
                else ∃ φ' st', Rel G X.K φ' st' H5 ∧ Ext (φ1 ++ [D]) φ' ∧ comH st1.length w.held t (wipeE env O) O (fun env' => evCs R env' xc) (fun env' => evE R env' xe) (w.items.drop (i + 1)) st' = r0) := by
              intro b st3 φ3 H5 et r5 x3
              rw [et] at hrun
              cases b with
              | false =>
                rw [if_neg Bool.false_ne_true]
                exact ⟨φ3, st3, r5, x2.trans x3, hrun⟩
              | true =>
                rw [if_pos rfl]
                simp only at hrun
                intro sB3 HB3 CB3 cl3 fp3
                have Ce : Cf G (X.blk sB3 HB3 scope (compEnvC scope cl3 CB3 X.env) fp3) (toS G φ2 env2) env2 (fun _ _ _ _ => False) φ3 st3 H5 := by
                  have z : Cf G (X.blk sB3 HB3 scope (compEnvC scope cl3 CB3 X.env) fp3) (toS G φ2 env2) env2 (fun _ _ _ _ => False) φ2 st2 H4 := ⟨fun _ _ ⟨_, _, _, _, _, _, _, _, _, _, _, _, _, _, _, _, z⟩ => z.elim, r4, rfl, we2⟩
                  exact z.next r5 x3
                cases ee : evE R env2 xe st3 with
                | bad => rw [ee] at hrun; exact (hb hrun.symm).elim
                | exc c p s => rw [ee] at hrun; exact (hb hrun.symm).elim
                | ok y st4 =>
                  rw [ee] at hrun
                  simp only at hrun
                  refine tU_mono (he sB3 HB3 CB3 cl3 fp3 _ _ _ _ _ _ Ce (fun c p s h => by rw [ee] at h; cases h) (by rw [ee]; exact fun h => by cases h)) fun yv H6 ⟨y', st4', φ4, eq, r6, x4, wy, ey⟩ => ?_
                  rw [ee] at eq
                  cases eq
                  cases ed : st4[st1.length]? with
                  | none => rw [ed] at hrun; exact (hb hrun.symm).elim
                  | some c =>
                    have hD4 : φ4[st1.length]? = some D := ext_at (x3.trans x4) hDat
                    cases c with
                    | lst acc =>
                      rw [ed] at hrun
                      simp only at hrun
                      split at hrun
                      · rename_i hz
                        have okD : H6 D = some (.lst (acc.map (toV G φ4))) := r6.at_ _ _ _ ed hD4
                        refine ⟨acc.map (toV G φ4), okD, by rw [List.length_map]; exact hz, φ4, st4.set st1.length (.lst (acc ++ [y])), ?_, x2.trans (x3.trans x4), hrun⟩
                        rw [ey, lst_snoc]
                        refine r6.set ed hD4 True.intro (fun z hz => ?_) lst_set
                        rcases List.mem_append.mp hz with h | h
                        · exact r6.wf _ _ ed z h
                        · rw [List.mem_singleton.mp h]; exact wy
                      · exact (hb hrun.symm).elim
                    | _ => rw [ed] at hrun; exact (hb hrun.symm).elim
            rcases ht sB2 HB2 CB2 cl2 fp2 with ⟨rfl, rfl⟩ | ⟨e, y, rfl, rfl, hT⟩
            · intro pins s I
              exact pts_nil.run pins s _ _ _ I (after true st2 φ2 H4 rfl r4 (Ext.refl _))
            · have et0 : evCs R env2 (.cons y .nil) st2 = bnd (evE R env2 y) testV st2 := rfl
              have nb : bnd (evE R env2 y) testV st2 ≠ .bad := fun z => by
                rw [et0, z] at hrun
                exact hb hrun.symm
              have nx : ∀ c p s, bnd (evE R env2 y) testV st2 ≠ .exc c p s := fun c p s z => by
                rw [et0, z] at hrun
                exact hb hrun.symm
              have tu := hT _ _ _ _ _ _ Ccf (fun c p s h => (nx c p s h).elim) nb
              intro pins s I
              exact (pts_one pt_tU).run pins s _ _ _ I (tUT_mono tu fun b H5 ⟨st3, φ3, e3, r5, x3⟩ => after b st3 φ3 H5 (et0.trans e3) r5 x3)
        · rw [if_neg hw] at hrun
          exact (hb hrun.symm).elim
  · -- the end
    have hi2 : i = w.items.length := by omega
    subst hi2
    rw [List.drop_length] at hrun
    unfold comH at hrun
    cases hst : Wk.stands w.held st2 with
    | false => rw [hst] at hrun; exact (hb hrun.symm).elim
    | true =>
      rw [hst] at hrun
      simp only [if_true] at hrun
      obtain ⟨_, j2⟩ := jok w.items.length φ2 st2 H2 r2 xa hst
      have hdl : st1.length < st2.length := by
        have z := x2.len
        rw [List.length_append, r1.len, r2.len] at z
        exact z
      refine .inl ⟨j2 (Nat.le_refl _), hQ _ _ ⟨.ref st1.length, st2, φ2, hrun.symm, r2, x1.trans xa, hdl, ?_⟩⟩
      show V.ref D = V.ref _
      rw [hDat]
      rfl
theorem sim_com {elt tg iter : Expr} {ifs : List Expr} {scope : Scope} {pos : Pos} {t : Tg} {xi : It} {xc : Exs} {xe : Ex} {own : List (Str × Nat)} (hc : X.calm = true) (hN : X.N.Nodup) (ok : BlkOk X.N X.env.scope scope own) (hs : ∀ x, foldedSetIterable iter X.env x = pure x)
    (hi : SimI G X R tg iter xi) (hg : InBlk X scope fun Y => SimG G Y tg t) (hm : InBlk X scope fun Y => ∀ ts, t = .tp ts → ∃ es k pos, tg = .Tuple es k pos ∧ Y.calm = true ∧ (es.all fun e => !isSt e) = true ∧ es.length = ts.length ∧ SimGs G Y es ts)
    (ht : InBlk X scope fun Y => SimC G Y R ifs xc) (he : InBlk X scope fun Y => SimE G Y R elt xe) : SimE G X R (.ListComp elt [⟨tg, iter, ifs, 0⟩] scope pos) (.com t xi xc xe (own.map (·.2))) :=
  fun σ env W φ st H C hx hb => PE.u (pe_lc hc hN pi_tU ok bG_ok bT_ok bE_ok hs) (com_rd hi hg hm ht he C hx hb fun _ _ h => h)
/-- a comprehension over a name's value: a dict that has nothing, too -/
theorem sim_comK {x : Str} {p : Pos} {i : Nat} {elt tg : Expr} {ifs : List Expr} {scope : Scope} {pos : Pos} {t : Tg} {xc : Exs} {xe : Ex} {own : List (Str × Nat)} (hi : X.N[i]? = some x) (hv : Vis X.env.scope x) (hd : (x == ("__debug__" : Str)) = false) (hcd : (x == ("__classdict__" : Str)) = false)
    (hc : X.calm = true) (hN : X.N.Nodup) (ok : BlkOk X.N X.env.scope scope own)
    (hg : InBlk X scope fun Y => SimG G Y tg t) (hm : InBlk X scope fun Y => ∀ ts, t = .tp ts → ∃ es k pos, tg = .Tuple es k pos ∧ Y.calm = true ∧ (es.all fun e => !isSt e) = true ∧ es.length = ts.length ∧ SimGs G Y es ts)
    (ht : InBlk X scope fun Y => SimC G Y R ifs xc) (he : InBlk X scope fun Y => SimE G Y R elt xe) : SimE G X R (.ListComp elt [⟨tg, .Name x p, ifs, 0⟩] scope pos) (.com t (.key i) xc xe (own.map (·.2))) := by
  intro σ env W φ st H C hx hb
  have e0 : evE R env (.com t (.key i) xc xe (own.map (·.2))) st = (bnd (getV env i) wkKey st).andThen fun w s => comH s.length w.held t (wipeE env (own.map (·.2))) (own.map (·.2)) (fun env' => evCs R env' xc) (fun env' => evE R env' xe) w.items (s ++ [.lst []]) := rfl
  have e1 : evE R env (.com t (.seq (.var i)) xc xe (own.map (·.2))) st = (bnd (getV env i) wkSeq st).andThen fun w s => comH s.length w.held t (wipeE env (own.map (·.2))) (own.map (·.2)) (fun env' => evCs R env' xc) (fun env' => evE R env' xe) w.items (s ++ [.lst []]) := rfl
  cases q : getV env i st with
  | bad => exact (hb (by rw [e0]; unfold bnd; rw [q]; rfl)).elim
  | exc c p s =>
    refine (hb ?_).elim
    unfold getV at q
    split at q <;> cases q
  | ok v s =>
    have hs : s = st ∧ env[i]? = some (some v) := by
      unfold getV at q
      split at q
      · rename_i u hu
        cases q
        exact ⟨rfl, hu⟩
      · cases q
    obtain ⟨rfl, hu⟩ := hs
    by_cases hdk : dicOf s v = some []
    · have ew : bnd (getV env i) wkKey s = .ok ⟨[], []⟩ s := by
        unfold bnd
        rw [q]
        show wkKey v s = _
        unfold wkKey
        rw [hdk]
      have ez : evE R env (.com t (.key i) xc xe (own.map (·.2))) s = .ok (.ref s.length) (s ++ [.lst []]) := by
        rw [e0, ew]
        rfl
      rw [ez]
      obtain ⟨n, a, rfl, e3, ea, ea2, hH⟩ := dicOf_ok C.rel hdk
      refine PE.u (pe_lock (pe_lc hc hN (pi_keys (pe_var hi hv hd hcd)) ok bG_ok bT_ok bE_ok (fun _ => rfl))) ⟨a, .dK [], hH, True.intro, fun od => ?_⟩
      refine ⟨.ref a, ?_, a, od, rfl, .inl ⟨[], upd_same, fun D hD => ?_⟩⟩
      · rw [C.sg]
        unfold toS
        rw [List.getElem?_map, hu]
        show some (some (toV G φ (.ref n))) = _
        rw [ea]
      · have hDa : D ≠ a := fun z => by rw [z, upd_same] at hD; cases hD
        have hD0 : H D = none := by rw [upd_ne hDa] at hD; exact hD
        refine ⟨fun j m H' => j = 0 ∧ H' = upd (upd H a (.frz od (.dK []))) D (.lst []), ⟨0, rfl, rfl⟩, ?_⟩
        rintro j m H' ⟨rfl, rfl⟩
        have hA : upd (upd H a (.frz od (.dK []))) D (.lst []) a = some (.frz od (.dK [])) := by rw [upd_ne (Ne.symm hDa), upd_same]
        refine .inl ⟨⟨hA, Nat.le_refl _⟩, hA, .ref s.length, s ++ [.lst []], φ ++ [D], rfl, ?_, Ext.snoc φ D, by show s.length < (s ++ [Cel.lst []]).length; rw [List.length_append]; exact Nat.lt_succ_self _, (toV_new C.rel.len).symm⟩
        refine C.rel.grow (c := .lst []) hD0 (fun b o hbo => ?_) (fun _ h => (List.not_mem_nil h).elim) (by show upd _ a _ D = some (.lst []); rw [upd_ne hDa, upd_same])
        by_cases hba : b = a
        · subst hba
          rw [upd_same]
          rw [hH] at hbo
          exact hbo
        · rw [upd_ne hba, upd_ne (fun z => by rw [z, hD0] at hbo; cases hbo), upd_ne hba]
          exact hbo
    · have ew : bnd (getV env i) wkKey s = bnd (getV env i) wkSeq s := by
        unfold bnd
        rw [q]
        show wkKey v s = wkSeq v s
        unfold wkKey
        split
        · rename_i h; exact (hdk h).elim
        · rfl
      have ez : evE R env (.com t (.key i) xc xe (own.map (·.2))) s = evE R env (.com t (.seq (.var i)) xc xe (own.map (·.2))) s := by rw [e0, e1, ew]
      rw [ez] at hx hb ⊢
      exact sim_com hc hN ok (fun _ => rfl) (simI_seq (sim_var hi hv hd hcd)) hg hm ht he σ env W φ s H C hx hb
end
end Ih
end
section
set_option Elab.async false
set_option linter.all false
set_option maxHeartbeats 1000000
namespace Ih
open PySem PySem.Spec PyProof.Rows L2
section
variable {G : Gi} {X : Cx} {R : Rt}
def PostF (G : Gi) (K : PySem.W.Frag) (φ : List Addr) (r : Res Fl) : Ends where
  nx := fun σ' H' => ∃ env' st' φ', r = .ok (.nx env') st' ∧ Rel G K φ' st' H' ∧ Ext φ φ' ∧ wfE st'.length env' ∧ σ' = toS G φ' env'
  ct := fun σ' H' => ∃ env' st' φ', r = .ok (.ct env') st' ∧ Rel G K φ' st' H' ∧ Ext φ φ' ∧ wfE st'.length env' ∧ σ' = toS G φ' env'
  rt := fun v' H' => ∃ v st' φ', r = .ok (.rt v) st' ∧ Rel G K φ' st' H' ∧ Ext φ φ' ∧ wfV st'.length v ∧ v' = toV G φ' v
/-- what is wished of the exception that a result keeps -/
def ExF (G : Gi) (K : PySem.W.Frag) (W : WX) (φ : List Addr) (r : Res Fl) : Prop :=
  ∀ env' c p st', r = .ok (.xc env' c p) st' → ∀ φ' H' cls d, Rel G K φ' st' H' → Ext φ φ' → wfP st'.length p → wfE st'.length env' → ExIs G φ' H' c p cls d → W cls d (toS G φ' env') H'
def tUS (X : Cx) (st : Stmt) : TS := fun D σ H => ∀ (pins : List (Addr × Obj)) (s : Shared), Inv X pins σ H s → wpAny (model X.prog X.w) X.A (exec st X.env) (SP X pins D) X.xe s
def tUSs (X : Cx) (st : List Stmt) : TS := fun D σ H => ∀ (pins : List (Addr × Obj)) (s : Shared), Inv X pins σ H s → wpAny (model X.prog X.w) X.A (execs st X.env) (SP X pins D) X.xe s
theorem ps_tU {st : Stmt} : PS X st (tUS X st) := ⟨fun pins s _ _ _ I h => h pins s I⟩
theorem pss_tU {st : List Stmt} : PSs X st (tUSs X st) := ⟨fun pins s _ _ _ I h => h pins s I⟩
theorem PS.u {st : Stmt} {t : TS} {D : Ends} {σ : L2.St} {H : Hp} (h : PS X st t) (q : t D σ H) : tUS X st D σ H := fun pins s I => h.run pins s σ H D I q
theorem PSs.u {st : List Stmt} {t : TS} {D : Ends} {σ : L2.St} {H : Hp} (h : PSs X st t) (q : t D σ H) : tUSs X st D σ H := fun pins s I => h.run pins s σ H D I q
structure EndsLe (D D' : Ends) : Prop where
  nx : ∀ σ H, D.nx σ H → D'.nx σ H
  ct : ∀ σ H, D.ct σ H → D'.ct σ H
  bk : ∀ σ H, D.bk σ H → D'.bk σ H
  rt : ∀ v H, D.rt v H → D'.rt v H
theorem SP_mono {D D' : Ends} (l : EndsLe D D') {pins : List (Addr × Obj)} : ∀ {f : Flow} {s : Shared}, SP X pins D f s → SP X pins D' f s
  | .next, _, ⟨σ, H, I, q⟩ => ⟨σ, H, I, l.nx _ _ q⟩
  | .brk, _, ⟨σ, H, I, q⟩ => ⟨σ, H, I, l.bk _ _ q⟩
  | .cont, _, ⟨σ, H, I, q⟩ => ⟨σ, H, I, l.ct _ _ q⟩
  | .ret _, _, ⟨v, σ, H, I, r, q⟩ => ⟨v, σ, H, I, r, l.rt _ _ q⟩
theorem tUS_mono {st : Stmt} {D D' : Ends} {σ : L2.St} {H : Hp} (h : tUS X st D σ H) (l : EndsLe D D') : tUS X st D' σ H := fun pins s I => thn (h pins s I) fun _ _ q => SP_mono l q
theorem tUSs_mono {st : List Stmt} {D D' : Ends} {σ : L2.St} {H : Hp} (h : tUSs X st D σ H) (l : EndsLe D D') : tUSs X st D' σ H := fun pins s I => thn (h pins s I) fun _ _ q => SP_mono l q
theorem PostF.ext {K : PySem.W.Frag} {φ φ1 : List Addr} (e : Ext φ φ1) {r : Res Fl} : EndsLe (PostF G K φ1 r) (PostF G K φ r) where
  nx := fun σ H ⟨env, st, φ', a, b, c, d⟩ => ⟨env, st, φ', a, b, e.trans c, d⟩
  ct := fun σ H ⟨env, st, φ', a, b, c, d⟩ => ⟨env, st, φ', a, b, e.trans c, d⟩
  bk := fun _ _ h => h
  rt := fun σ H ⟨env, st, φ', a, b, c, d⟩ => ⟨env, st, φ', a, b, e.trans c, d⟩
def SimS (G : Gi) (X : Cx) (R : Rt) (s : Stmt) (x : Sx) : Prop :=
  ∀ σ env W φ st H, Cf G X σ env W φ st H → ExF G X.K W φ (exS R x env st) → exS R x env st ≠ .bad → tUS X s (PostF G X.K φ (exS R x env st)) σ H
def SimSs (G : Gi) (X : Cx) (R : Rt) (s : List Stmt) (x : Sxs) : Prop :=
  ∀ σ env W φ st H, Cf G X σ env W φ st H → ExF G X.K W φ (exSs R x env st) → exSs R x env st ≠ .bad → tUSs X s (PostF G X.K φ (exSs R x env st)) σ H
section
variable {σ : L2.St} {env : Env} {W : WX} {φ φ1 : List Addr} {st st1 : Hs} {H H1 : Hp}
theorem ExF.ext {K : PySem.W.Frag} {r : Res Fl} (h : ExF G K W φ r) (e : Ext φ φ1) : ExF G K W φ1 r := fun env' c p st' hr φ' H' cls d R' E' => h env' c p st' hr φ' H' cls d R' (e.trans E')
theorem tryE_at {α : Type} {m : M α} {f : α → M Fl} {a : α} {st' : Hs} (h : m st = .ok a st') : tryE env m f st = f a st' := by
  unfold tryE
  rw [h]
theorem nb_try {α : Type} {m : M α} {f : α → M Fl} (h : tryE env m f st ≠ .bad) : m st ≠ .bad := fun e => h (by unfold tryE; rw [e])
theorem ExF.fst {α : Type} {m : M α} {f : α → M Fl} (C : Cf G X σ env W φ st H) (h : ExF G X.K W φ (tryE env m f st)) : ExW G X.K W σ φ (m st) := by
  intro c p st' hr φ' H' cls d R' E' wp ei
  have w : wfE φ.length env := by rw [C.rel.len]; exact C.wf
  have z := h env c p st' (by unfold tryE; rw [hr]) φ' H' cls d R' E' wp (fun v hv => (C.wf v hv).mono (Rel.le (X := X) C.rel R' E')) ei
  rw [toS_ext E' w, ← C.sg] at z
  exact z
/-- the first part of a statement -/
theorem fsE {e : Expr} {x : Ex} {k : HV → M Fl} (S : SimE G X R e x) (C : Cf G X σ env W φ st H) {r : Res Fl} (er : r = tryE env (evE R env x) k st) (hx : ExF G X.K W φ r) (hb : r ≠ .bad) {Q : VK}
    (h : ∀ v st1 φ1 H1, r = k v st1 → Cf G X σ env W φ1 st1 H1 → Ext φ φ1 → wfV st1.length v → Q (toV G φ1 v) H1) : tU X e σ H Q := by
  rw [er] at hx hb
  refine tU_mono (S σ env W φ st H C (hx.fst C) (nb_try hb)) fun v' H' ⟨v, st1, φ1, e1, r1, x1, w1, ev⟩ => ?_
  subst ev
  exact h v st1 φ1 H' (by rw [er, tryE_at e1]) (C.next r1 x1) x1 w1
theorem fsT {e : Expr} {x : Ex} {k : Bool → M Fl} (S : SimT G X R e x) (C : Cf G X σ env W φ st H) {r : Res Fl} (er : r = tryE env (bnd (evE R env x) testV) k st) (hx : ExF G X.K W φ r) (hb : r ≠ .bad) {Q : Bool → Hp → Prop}
    (h : ∀ b st1 φ1 H1, r = k b st1 → Cf G X σ env W φ1 st1 H1 → Ext φ φ1 → Q b H1) : tUT X e σ H Q := by
  rw [er] at hx hb
  refine tUT_mono (S σ env W φ st H C (hx.fst C) (nb_try hb)) fun b H' ⟨st1, φ1, e1, r1, x1⟩ => ?_
  exact h b st1 φ1 H' (by rw [er, tryE_at e1]) (C.next r1 x1) x1
theorem fsA {e : List Expr} {x : Exs} {k : List HV → M Fl} (S : SimA G X R e x) (C : Cf G X σ env W φ st H) {r : Res Fl} (er : r = tryE env (evEs R env x) k st) (hx : ExF G X.K W φ r) (hb : r ≠ .bad) {Q : List V → Hp → Prop}
    (h : ∀ vs st1 φ1 H1, r = k vs st1 → Cf G X σ env W φ1 st1 H1 → Ext φ φ1 → (∀ v ∈ vs, wfV st1.length v) → Q (vs.map (toV G φ1)) H1) : tUA X e σ H Q := by
  rw [er] at hx hb
  refine tUA_mono (S σ env W φ st H C (hx.fst C) (nb_try hb)) fun v' H' ⟨v, st1, φ1, e1, r1, x1, w1, ev⟩ => ?_
  subst ev
  exact h v st1 φ1 H' (by rw [er, tryE_at e1]) (C.next r1 x1) x1 w1
end
def isCp : Expr → Bool
  | .ListComp .. => true
  | .SetComp .. => true
  | .DictComp .. => true
  | _ => false
theorem noSwap {e : Expr} {t : Option Expr} {l : Nat} {env : PySem.Env} (h : isCp e = false) : swapsWith e t l env = pure false := by cases e <;> first | rfl | cases h
/-- whether a comprehension is stored with a swap, by the def's scope -/
def swapB (sc : Scope) (value : Expr) (own : Scope) (t : Str) (line : Nat) : Bool := ((if sc.kind.isAnnotationScope then ScopeKind.function else sc.kind) == .function) && sc.names.lookup t == some .local && line == value.pos.line && !(own.names.any fun (n, k) => n == t && (k == .local || k == .cell))
theorem swap_lc {elt : Expr} {gs : List Comprehension} {own : Scope} {pos : Pos} {t : Str} {p : Pos} {l : Nat} {env : PySem.Env} : swapsWith (.ListComp elt gs own pos) (some (.Name t p)) l env = pure (swapB env.scope (.ListComp elt gs own pos) own t p.line) := rfl
def fnKind (sc : Scope) : ScopeKind := if sc.kind.isAnnotationScope then .function else sc.kind
def noStar (vs : List Expr) : Bool := vs.any fun | .Starred .. => true | _ => false
def swapLn (ts : List Expr) : Nat := (ts.head?.map (·.pos.line)).getD 0
def swapNs (ts : List Expr) (sc : Scope) : List Str := ts.filterMap fun
  | .Name x p => if sc.names.lookup x == some .local && p.line == swapLn ts then some x else none
  | _ => none
def swapL (ts vs : List Expr) (sc : Scope) : Option (Option (List Str)) :=
  if (!(ts.length == 2 || ts.length == 3) || vs.length != ts.length || fnKind sc != .function) = true then some none else
  if noStar vs = true then some none else
  if ((swapNs ts sc).length != ts.length || (swapNs ts sc).eraseDups.length != (swapNs ts sc).length) = true then some none else
  if vs.all (foldedForSure 8) = true then some none else
  if vs.all (constantsAlone 8) = true then none else some (some (swapNs ts sc))
/-- how a tuple of targets is stored; none: not covered -/
def swapC (targets : List Expr) (value : Expr) (sc : Scope) : Option (Option (List Str)) :=
  match targets, value with
  | [.Tuple ts _ _], .Tuple vs _ _ => swapL ts vs sc
  | [.List _ _], _ => none
  | _, _ => some none
theorem swapL_ok {ts vs : List Expr} {k1 k2 : Nat} {p1 p2 : Pos} {env : PySem.Env} {o : Option (List Str)} (h : swapL ts vs env.scope = some o) : swappedStores [.Tuple ts k1 p1] (.Tuple vs k2 p2) env = pure o := by
  unfold swapL at h
  unfold swappedStores
  dsimp only
  split at h
  · rename_i c
    cases h
    exact if_pos (show _ = true from c)
  · rename_i c
    refine (if_neg (show ¬ _ = true from c)).trans ?_
    split at h
    · rename_i c2
      cases h
      exact if_pos (show _ = true from c2)
    · rename_i c2
      refine (if_neg (show ¬ _ = true from c2)).trans ?_
      split at h
      · rename_i c3
        cases h
        exact if_pos (show _ = true from c3)
      · rename_i c3
        refine (if_neg (show ¬ _ = true from c3)).trans ?_
        split at h
        · rename_i c4
          cases h
          exact if_pos (show _ = true from c4)
        · rename_i c4
          refine (if_neg (show ¬ _ = true from c4)).trans ?_
          split at h
          · cases h
          · rename_i c5
            cases h
            exact if_neg (show ¬ _ = true from c5)
theorem swapC_ok {targets : List Expr} {value : Expr} {env : PySem.Env} {o : Option (List Str)} (h : swapC targets value env.scope = some o) : swappedStores targets value env = pure o := by
  match targets, h with
  | [], h => cases h; rfl
  | [t], h =>
    cases t with
    | Tuple ts k p =>
      cases value with
      | Tuple vs k2 p2 => exact swapL_ok h
      | _ => cases h; rfl
    | List ts p => cases h
    | _ => cases h; rfl
  | t1 :: _ :: _, h =>
    have h : some none = some o := by cases t1 <;> exact h
    cases h
    cases t1 <;> rfl
theorem sstH_nx {o i e : HV} {st st' : Hs} {c : Nat} {p : Option HV} (h : sstH o i e st = .exc c p st') : False := by
  unfold sstH at h
  split at h
  · split at h <;> cases h
  · cases h
theorem sstH_len {o i e : HV} {st st' : Hs} {u : Unit} (h : sstH o i e st = .ok u st') : st'.length = st.length := by
  unfold sstH at h
  split at h
  · split at h
    · cases h; exact List.length_set
    · cases h
  · cases h
theorem simS_ex {e : Expr} {x : Ex} {pos : Pos} (hn : isCp e = false) (h : SimE G X R e x) : SimS G X R (.Expr e pos) (.ex x) := by
  intro σ env W φ st H C hx hb
  refine PS.u (ps_expr pe_tU (noSwap hn)) (fsE h C rfl hx hb fun v st1 φ1 H1 e1 C1 x1 w1 => ?_)
  exact ⟨env, st1, φ1, e1, C1.rel, x1, C1.wf, C1.sg⟩
theorem simS_doc {x : Str} {j : Nat} {p p2 : Pos} : SimS G X R (.Expr (.Constant (.str x) j p) p2) .pas := fun σ env W φ st H C hx hb => PS.u ps_doc ⟨env, st, φ, rfl, C.rel, Ext.refl φ, C.wf, C.sg⟩
theorem simS_pas {p : Pos} : SimS G X R (.Pass p) .pas := fun σ env W φ st H C hx hb => PS.u ps_pass ⟨env, st, φ, rfl, C.rel, Ext.refl φ, C.wf, C.sg⟩
theorem simS_con {p : Pos} : SimS G X R (.Continue p) .con := fun σ env W φ st H C hx hb => PS.u ps_continue ⟨env, st, φ, rfl, C.rel, Ext.refl φ, C.wf, C.sg⟩
theorem simS_retN {p : Pos} : SimS G X R (.Return none p) .retN := fun σ env W φ st H C hx hb => PS.u ps_retN ⟨.non, st, φ, rfl, C.rel, Ext.refl φ, True.intro, rfl⟩
theorem simS_ret {e : Expr} {x : Ex} {p : Pos} (h : SimE G X R e x) : SimS G X R (.Return (some e) p) (.ret x) := by
  intro σ env W φ st H C hx hb
  refine PS.u (ps_ret pe_tU) (fsE h C rfl hx hb fun v st1 φ1 H1 e1 C1 x1 w1 => ?_)
  exact ⟨v, st1, φ1, e1, C1.rel, x1, w1, rfl⟩
/-- what stands behind a value that is stored -/
theorem asg_end {tg : Expr} {t : Tg} {x : Ex} {σ : L2.St} {env : Env} {W : WX} {φ : List Addr} {st : Hs} (hg : SimG G X tg t) (hb : exS R (.asg t x) env st ≠ .bad) {v : HV} {st1 : Hs} {φ1 : List Addr} {H1 : Hp}
    (e1 : exS R (.asg t x) env st = match asgV st1 t v env with
      | some env' => .ok (.nx env') st1
      | none => .bad) (C1 : Cf G X σ env W φ1 st1 H1) (x1 : Ext φ φ1) (w1 : wfV st1.length v) : tUG X tg (toV G φ1 v) σ H1 (PostF G X.K φ (exS R (.asg t x) env st)).nx := by
  cases ea : asgV st1 t v env with
  | none => rw [ea] at e1; exact (hb e1).elim
  | some env' =>
    rw [ea] at e1
    rw [C1.sg]
    exact hg env φ1 st1 H1 v env' C1.rel ea _ ⟨env', st1, φ1, e1, C1.rel, x1, asgV_wf (fun m c h => C1.rel.wf m c h) ea w1 C1.wf, rfl⟩
theorem simS_asg {tg e : Expr} {t : Tg} {x : Ex} {pos : Pos} (hg : SimG G X tg t) (h : SimE G X R e x) (hs : swapsWithSole [tg] e pos.line X.env = pure false) (hw : swapC [tg] e X.env.scope = some none) (h1 : isSt tg = false) : SimS G X R (.Assign [tg] e pos) (.asg t x) := by
  intro σ env W φ st H C hx hb
  refine PS.u (ps_asg pe_tU pg_tU hs (swapC_ok hw) (by rw [assignEach_c h1]; rfl)) (fsE h C rfl hx hb fun v st1 φ1 H1 e1 C1 x1 w1 => ?_)
  exact asg_end hg hb e1 C1 x1 w1
theorem simS_par {i j : Nat} {x y : Str} {a b : Expr} {xa xb : Ex} {px py pt : Pos} {kt k2 : Nat} {pt2 pos : Pos} (hc : X.calm = true) (hN : X.N.Nodup) (hi : X.N[i]? = some x) (hj : X.N[j]? = some y) (hij : i ≠ j)
    (hx : X.env.scope.names.lookup x = some .local) (hy : X.env.scope.names.lookup y = some .local) (h : SimA G X R [a, b] (.cons xa (.cons xb .nil))) (hw : swapC [.Tuple [.Name x px, .Name y py] kt pt] (.Tuple [a, b] k2 pt2) X.env.scope = some (some [x, y])) :
    SimS G X R (.Assign [.Tuple [.Name x px, .Name y py] kt pt] (.Tuple [a, b] k2 pt2) pos) (.par i j xa xb) := by
  intro σ env W φ st H C hx' hb
  refine PS.u (ps_par hc hN hi hj hij hx hy pa_tU (swapC_ok hw) rfl) (fsA (r := exS R (.par i j xa xb) env st) h C rfl hx' hb fun vs st1 φ1 H1 e1 C1 x1 w1 => ?_)
  match vs, e1, w1 with
  | [v, w], e1, w1 =>
    dsimp only at e1
    split at e1
    · rename_i hl
      refine ⟨toV G φ1 v, toV G φ1 w, rfl, (env.set i (some v)).set j (some w), st1, φ1, e1, C1.rel, x1, ?_, ?_⟩
      · intro u hu
        rcases List.mem_or_eq_of_mem_set hu with z | z
        · rcases List.mem_or_eq_of_mem_set z with z | z
          · exact C1.wf u z
          · cases z; exact w1 v List.mem_cons_self
        · cases z; exact w1 w (List.mem_cons_of_mem _ List.mem_cons_self)
      · rw [toS_set, toS_set, ← C1.sg]
    · exact (hb e1).elim
  | [], e1, _ => exact (hb e1).elim
  | [_], e1, _ => exact (hb e1).elim
  | _ :: _ :: _ :: _, e1, _ => exact (hb e1).elim
def isSl : Expr → Bool
  | .Slice .. => true
  | _ => false
theorem simS_sst {o i e : Expr} {xo xi x : Ex} {p pos : Pos} (ho : SimE G X R o xo) (hi : SimE G X R i xi) (h : SimE G X R e x) (hsl : isSl i = false) : SimS G X R (.Assign [.Subscript o i p] e pos) (.sst xo xi x) := by
  intro σ env W φ st H C hx hb
  have s1 : swapsWithSole [.Subscript o i p] e pos.line X.env = pure false := by cases e <;> rfl
  have s2 : swappedStores [.Subscript o i p] e X.env = pure none := by cases e <;> rfl
  refine PS.u (ps_asg pe_tU (pg_sub (t := rSetL) pe_tU pe_tU set_list (by intro v; cases i <;> first | rfl | cases hsl)) s1 s2 rfl) (fsE (r := exS R (.sst xo xi x) env st) h C rfl hx hb fun v st1 φ1 H1 e1 C1 x1 w1 => ?_)
  rw [e1] at hx hb
  refine fsE ho C1 rfl (hx.ext x1) hb fun y st2 φ2 H2 e2 C2 x2 w2 => ?_
  rw [e2] at hx hb
  refine fsE hi C2 rfl (hx.ext (x1.trans x2)) hb fun z st3 φ3 H3 e3 C3 x3 w3 => ?_
  rw [e3] at hb
  have w1' := w1.mono (Nat.le_trans (Rel.le (X := X) C1.rel C2.rel x2) (Rel.le (X := X) C2.rel C3.rel x3))
  rw [← toV_ext (x2.trans x3) (w1.phi C1.rel), ← toV_ext x3 (w2.phi C2.rel)]
  cases es : sstH y z v st3 with
  | ok u st4 =>
    have e4 : exS R (.sst xo xi x) env st = .ok (.nx env) st4 := by
      rw [e1, e2, e3]
      unfold bnd
      rw [es]
      rfl
    have ll : st4.length = st3.length := sstH_len es
    refine sstH_ok C3.rel w1' es fun H4 r4 => ⟨env, st4, φ3, e4, r4, x1.trans (x2.trans x3), ?_, C3.sg⟩
    rw [ll]
    exact C3.wf
  | exc c q s => exact (sstH_nx es).elim
  | bad =>
    refine (hb ?_).elim
    unfold bnd
    rw [es]
    rfl
theorem simSs_nil : SimSs G X R [] .nil := fun σ env W φ st H C hx hb => PSs.u pss_nil ⟨env, st, φ, rfl, C.rel, Ext.refl φ, C.wf, C.sg⟩
theorem simSs_cons {s : Stmt} {ss : List Stmt} {x : Sx} {xs : Sxs} (h1 : SimS G X R s x) (h2 : SimSs G X R ss xs) : SimSs G X R (s :: ss) (.cons x xs) := by
  intro σ env W φ st H C hx hb
  have e0 : exSs R (.cons x xs) env st = (exS R x env st).andThen fun f s => (match f with
    | .nx env' => exSs R xs env'
    | f => ret f) s := rfl
  generalize hr : exSs R (.cons x xs) env st = r at *
  refine PSs.u (pss_cons ps_tU pss_tU) ?_
  have hb1 : exS R x env st ≠ .bad := nb_fst (by rw [← e0]; exact hb)
  have hx1 : ExF G X.K W φ (exS R x env st) := fun env' c p st' hr1 => hx env' c p st' (by rw [e0, hr1]; rfl)
  refine tUS_mono (h1 σ env W φ st H C hx1 hb1) ⟨?_, ?_, fun _ _ h => h.elim, ?_⟩
  · rintro σ1 H1 ⟨env1, st1, φ1, e1, r1, x1, w1, rfl⟩
    have ez : r = exSs R xs env1 st1 := by rw [e0, e1]; rfl
    rw [ez] at hx hb ⊢
    exact tUSs_mono (h2 _ env1 W φ1 st1 H1 ⟨C.tk, r1, rfl, w1⟩ (hx.ext x1) hb) (PostF.ext x1)
  · rintro σ1 H1 ⟨env1, st1, φ1, e1, q⟩
    exact ⟨env1, st1, φ1, by rw [e0, e1]; rfl, q⟩
  · rintro σ1 H1 ⟨env1, st1, φ1, e1, q⟩
    exact ⟨env1, st1, φ1, by rw [e0, e1]; rfl, q⟩
theorem simS_ite {c : Expr} {a b : List Stmt} {x : Ex} {xa xb : Sxs} {pos : Pos} (h : SimT G X R c x) (ha : SimSs G X R a xa) (hb' : SimSs G X R b xb) : SimS G X R (.If c a b pos) (.ite x xa xb) := by
  intro σ env W φ st H C hx hb
  refine PS.u (ps_if pt_tU pss_tU pss_tU) (fsT (r := exS R (.ite x xa xb) env st) h C rfl hx hb fun k st1 φ1 H1 e1 C1 x1 => ?_)
  rw [e1] at hx hb ⊢
  cases k with
  | true =>
    rw [if_pos rfl] at hx hb ⊢
    exact tUSs_mono (ha _ env W φ1 st1 H1 C1 (hx.ext x1) hb) (PostF.ext x1)
  | false =>
    rw [if_neg Bool.false_ne_true] at hx hb ⊢
    exact tUSs_mono (hb' _ env W φ1 st1 H1 C1 (hx.ext x1) hb) (PostF.ext x1)
theorem simS_whl {c : Expr} {b : List Stmt} {x : Ex} {xb : Sxs} {pos : Pos} (hp : PassesOwn (model X.prog X.w) X.A X.env X.xe) (h : SimT G X R c x) (hb' : SimSs G X R b xb) : SimS G X R (.While c b [] pos) (.whl x xb) := by
  intro σ env W φ st H C hx hb
  have e0 : exS R (.whl x xb) env st = whlH (fun env' => bnd (evE R env' x) testV) (fun env' => exSs R xb env') whlN env st := rfl
  generalize hr : exS R (.whl x xb) env st = r at *
  refine PS.u (ps_while hp pt_tU pss_tU) ?_
  refine ⟨fun m σ' H' => ∃ env' φ' st', Cf G X σ' env' W φ' st' H' ∧ Ext φ φ' ∧ r = whlH (fun env' => bnd (evE R env' x) testV) (fun env' => exSs R xb env') m env' st', ⟨whlN, env, φ, st, C, Ext.refl φ, e0⟩, ?_⟩
  rintro m σ1 H1 ⟨env1, φ1, st1, C1, x1, e1⟩
  cases m with
  | zero => exact (hb e1).elim
  | succ m =>
    unfold whlH at e1
    have hxT : ExW G X.K W σ1 φ1 (bnd (evE R env1 x) testV st1) := by
      intro c p st' hr1 φ' H' cls d R' E' wp ei
      rw [hr1] at e1
      have w : wfE φ1.length env1 := by rw [C1.rel.len]; exact C1.wf
      have z := hx env1 c p st' e1 φ' H' cls d R' (x1.trans E') wp (fun v hv => (C1.wf v hv).mono (Rel.le (X := X) C1.rel R' E')) ei
      rw [toS_ext E' w, ← C1.sg] at z
      exact z
    have hbT : bnd (evE R env1 x) testV st1 ≠ .bad := fun z => by rw [z] at e1; exact hb e1
    refine tUT_mono (h σ1 env1 W φ1 st1 H1 C1 hxT hbT) fun k H2 ⟨st2, φ2, e2, r2, x2⟩ => ?_
    rw [e2] at e1
    have C2 := C1.next r2 x2
    cases k with
    | false =>
      rw [if_neg Bool.false_ne_true]
      exact ⟨env1, st2, φ2, e1, r2, x1.trans x2, C2.wf, C2.sg⟩
    | true =>
      rw [if_pos rfl]
      dsimp only at e1
      refine ⟨fun σ' H' => ∃ env' φ' st', Cf G X σ' env' W φ' st' H' ∧ Ext φ φ' ∧ r = whlH (fun env' => bnd (evE R env' x) testV) (fun env' => exSs R xb env') m env' st', fun σ' H' q => ⟨m, Nat.lt_succ_self m, q⟩, ?_⟩
      have hbB : exSs R xb env1 st2 ≠ .bad := fun z => by rw [z] at e1; exact hb e1
      have hxB : ExF G X.K W φ2 (exSs R xb env1 st2) := fun env' c p st' hr1 => by
        rw [hr1] at e1
        exact fun φ' H' cls d R' E' => hx env' c p st' e1 φ' H' cls d R' ((x1.trans x2).trans E')
      refine tUSs_mono (hb' σ1 env1 W φ2 st2 H2 C2 hxB hbB) ⟨?_, ?_, fun _ _ h => h.elim, ?_⟩
      · rintro σ3 H3 ⟨env3, st3, φ3, e3, r3, x3, w3, rfl⟩
        rw [e3] at e1
        exact ⟨env3, φ3, st3, ⟨C.tk, r3, rfl, w3⟩, (x1.trans x2).trans x3, e1⟩
      · rintro σ3 H3 ⟨env3, st3, φ3, e3, r3, x3, w3, rfl⟩
        rw [e3] at e1
        exact ⟨env3, φ3, st3, ⟨C.tk, r3, rfl, w3⟩, (x1.trans x2).trans x3, e1⟩
      · rintro σ3 H3 ⟨v3, st3, φ3, e3, r3, x3, w3⟩
        rw [e3] at e1
        exact ⟨v3, st3, φ3, e1, r3, (x1.trans x2).trans x3, w3⟩
theorem simS_for {tg iter : Expr} {b : List Stmt} {t : Tg} {xi : It} {xb : Sxs} {pos : Pos} (hp : PassesOwn (model X.prog X.w) X.A X.env X.xe) (hc : X.calm = true) (hs : ∀ x, foldedSetIterable iter X.env x = pure x) (hi : SimI G X R tg iter xi) (hg : SimG G X tg t)
    (hm : ∀ ts, t = .tp ts → ∃ es k pos, tg = .Tuple es k pos ∧ X.calm = true ∧ (es.all fun e => !isSt e) = true ∧ es.length = ts.length ∧ SimGs G X es ts) (hb' : SimSs G X R b xb) : SimS G X R (.For tg iter b [] pos) (.forE t xi xb) := by
  intro σ env W φ st H C hx hb
  have e0 : exS R (.forE t xi xb) env st = tryE env (evI R env xi) (fun w => forH w.held t (fun env' => exSs R xb env') w.items env) st := rfl
  generalize hr : exS R (.forE t xi xb) env st = r at *
  refine PS.u (ps_for hp hc pi_tU pg_tU pss_tU hs) ?_
  have hx0 := hx
  have hb0 := hb
  rw [e0] at hx0 hb0
  refine tUI_mono (hi σ env W φ st H C (hx0.fst C) (nb_try hb0)) fun J H1 ⟨w, st1, φ1, e1, r1, x1, wi, jok⟩ => ?_
  rw [tryE_at e1] at e0
  have C1 := C.next r1 x1
  refine ⟨fun i m σ' H' => m = w.items.length - i ∧ i ≤ w.items.length ∧ ∃ env' φ' st', Cf G X σ' env' W φ' st' H' ∧ Ext φ1 φ' ∧ r = forH w.held t (fun env' => exSs R xb env') (w.items.drop i) env' st',
    ⟨w.items.length, rfl, Nat.zero_le _, env, φ1, st1, C1, Ext.refl _, by rw [List.drop_zero]; exact e0⟩, ?_⟩
  rintro i m σ2 H2 ⟨rfl, hil, env2, φ2, st2, C2, x2, hrun⟩
  by_cases hlt : i < w.items.length
  · have hd : w.items.drop i = w.items[i] :: w.items.drop (i + 1) := List.drop_eq_getElem_cons hlt
    rw [hd] at hrun
    unfold forH at hrun
    cases hst : Wk.stands w.held st2 with
    | false => rw [hst] at hrun; exact (hb hrun).elim
    | true =>
      obtain ⟨j1, _⟩ := jok i φ2 st2 H2 C2.rel x2 hst
      obtain ⟨jgo, jy⟩ := j1 w.items[i] (List.getElem?_eq_getElem hlt)
      rw [hst] at hrun
      simp only [if_true] at hrun
      refine .inr ⟨jgo, fun σ' H' => ∃ env' φ' st', Cf G X σ' env' W φ' st' H' ∧ Ext φ1 φ' ∧ r = forH w.held t (fun env' => exSs R xb env') (w.items.drop (i + 1)) env' st', fun σ' H' h => ⟨w.items.length - (i + 1), by omega, rfl, hlt, h⟩, fun x H3 hy => ?_⟩
      cases ea : asgI st2 t env2 w.items[i] with
      | none => rw [ea] at hrun; exact (hb hrun).elim
      | some env3 =>
        rw [ea] at hrun
        have wfI2 : wfI st2.length w.items[i] := by
          have z := wi _ (List.getElem_mem hlt)
          have le := Rel.le (X := X) r1 C2.rel x2
          cases q : w.items[i] with
          | one v => rw [q] at z; exact (show wfV st1.length v from z).mono le
          | many vs => rw [q] at z; exact fun v hv => (show ∀ v ∈ vs, wfV st1.length v from z) v hv |>.mono le
        have we3 : wfE st2.length env3 := asgI_wf (fun m c h => C2.rel.wf m c h) ea wfI2 C2.wf
        rw [C2.sg]
        refine simG_iv hg hm C2.rel ea (jy x H3 hy) _ fun H4 r4 => ?_
        have C4 : Cf G X (toS G φ2 env3) env3 W φ2 st2 H4 := ⟨C.tk, r4, rfl, we3⟩
        dsimp only at hrun
        have hbB : exSs R xb env3 st2 ≠ .bad := fun z => by rw [z] at hrun; exact hb hrun
        have hxB : ExF G X.K W φ2 (exSs R xb env3 st2) := fun env' c p st' hr1 => by
          rw [hr1] at hrun
          exact fun φ' H' cls d R' E' => hx env' c p st' hrun φ' H' cls d R' ((x1.trans x2).trans E')
        refine tUSs_mono (hb' _ env3 W φ2 st2 H4 C4 hxB hbB) ⟨?_, ?_, fun _ _ h => h.elim, ?_⟩
        · rintro σ5 H5 ⟨env5, st5, φ5, e5, r5, x5, w5, rfl⟩
          rw [e5] at hrun
          exact ⟨env5, φ5, st5, ⟨C.tk, r5, rfl, w5⟩, x2.trans x5, hrun⟩
        · rintro σ5 H5 ⟨env5, st5, φ5, e5, r5, x5, w5, rfl⟩
          rw [e5] at hrun
          exact ⟨env5, φ5, st5, ⟨C.tk, r5, rfl, w5⟩, x2.trans x5, hrun⟩
        · rintro σ5 H5 ⟨v5, st5, φ5, e5, r5, x5, w5⟩
          rw [e5] at hrun
          exact ⟨v5, st5, φ5, hrun, r5, (x1.trans x2).trans x5, w5⟩
  · have hi2 : i = w.items.length := by omega
    subst hi2
    rw [List.drop_length] at hrun
    unfold forH at hrun
    cases hst : Wk.stands w.held st2 with
    | false => rw [hst] at hrun; exact (hb hrun).elim
    | true =>
      rw [hst] at hrun
      simp only [if_true] at hrun
      obtain ⟨_, j2⟩ := jok w.items.length φ2 st2 H2 C2.rel x2 hst
      exact .inl ⟨j2 (Nat.le_refl _), env2, st2, φ2, hrun, C2.rel, x1.trans x2, C2.wf, C2.sg⟩
/-- name = [..]: with a swap -/
theorem simS_lc {i : Nat} {y : Str} {py pos spos : Pos} {elt tg iter : Expr} {ifs : List Expr} {scope : Scope} {t : Tg} {xi : It} {xc : Exs} {xe : Ex} {own : List (Str × Nat)} (hc : X.calm = true) (hN : X.N.Nodup) (hy : X.N[i]? = some y) (hyl : X.env.scope.names.lookup y = some .local)
    (hsw : swapB X.env.scope (.ListComp elt [⟨tg, iter, ifs, 0⟩] scope pos) scope y py.line = true) (ok : BlkOk X.N X.env.scope scope own) (hs : ∀ x, foldedSetIterable iter X.env x = pure x)
    (hi : SimI G X R tg iter xi) (hg : InBlk X scope fun Y => SimG G Y tg t) (hm : InBlk X scope fun Y => ∀ ts, t = .tp ts → ∃ es k pos, tg = .Tuple es k pos ∧ Y.calm = true ∧ (es.all fun e => !isSt e) = true ∧ es.length = ts.length ∧ SimGs G Y es ts)
    (ht : InBlk X scope fun Y => SimC G Y R ifs xc) (he : InBlk X scope fun Y => SimE G Y R elt xe) : SimS G X R (.Assign [.Name y py] (.ListComp elt [⟨tg, iter, ifs, 0⟩] scope pos) spos) (.asg (.nm i) (.com t xi xc xe (own.map (·.2)))) := by
  intro σ env W φ st H C hx hb
  have e0 : exS R (.asg (.nm i) (.com t xi xc xe (own.map (·.2)))) env st = tryE env (evE R env (.com t xi xc xe (own.map (·.2)))) (fun v => fun st => match asgV st (.nm i) v env with
    | some env' => .ok (.nx env') st
    | none => .bad) st := rfl
  have hx0 := hx
  have hb0 := hb
  rw [e0] at hx0 hb0
  refine PS.u (ps_setLc hc hN hy hyl (by rw [swap_lc, hsw]) pi_tU ok bG_ok bT_ok bE_ok hs) (com_rd hi hg hm ht he C (hx0.fst C) (nb_try hb0) fun v' H' ⟨v, st1, φ1, e1, r1, x1, w1, ev⟩ => ?_)
  subst ev
  rw [tryE_at e1] at e0
  have C1 := C.next r1 x1
  unfold asgV at e0
  split at e0
  · rename_i env' hz
    split at hz
    · cases hz
      refine ⟨env.set i (some v), st1, φ1, e0, r1, x1, fun u hu => ?_, ?_⟩
      · rcases List.mem_or_eq_of_mem_set hu with z | z
        · exact C1.wf u z
        · cases z; exact w1
      · rw [toS_set, ← C1.sg]
    · cases hz
  · exact (hb e0).elim
end
end Ih
end
section
set_option Elab.async false
set_option linter.all false
set_option maxHeartbeats 1000000
namespace Ih
open PySem PySem.Spec PyProof.Rows L2
section
variable {G : Gi} {X : Cx} {R : Rt}
def tUK (X : Cx) (kws : List Keyword) : TA := fun σ H Q => ∀ (pos : Pos) (pins : List (Addr × Obj)) (s : Shared), Inv X pins σ H s → wpAny (model X.prog X.w) X.A (evalAll ((backToKw pos (keywordEach kws X.env)).map (·.2))) (AP X pins σ Q) X.xe s
theorem pk_tU {kws : List Keyword} : PK X kws (tUK X kws) := ⟨fun pos pins s _ _ _ I h => h pos pins s I⟩
theorem PK.u {kws : List Keyword} {t : TA} {σ : L2.St} {H : Hp} {Q : List V → Hp → Prop} (h : PK X kws t) (q : t σ H Q) : tUK X kws σ H Q := fun pos pins s I => h.run pos pins s σ H Q I q
theorem tUK_mono {kws : List Keyword} {σ : L2.St} {H : Hp} {Q Q' : List V → Hp → Prop} (h : tUK X kws σ H Q) (k : ∀ v H', Q v H' → Q' v H') : tUK X kws σ H Q' := fun pos pins s I => thn (h pos pins s I) fun _ _ ⟨v, H', J, r, q⟩ => ⟨v, H', J, r, k v H' q⟩
def SimK (G : Gi) (X : Cx) (R : Rt) (kws : List Keyword) (xs : Exs) : Prop :=
  ∀ σ env W φ st H, Cf G X σ env W φ st H → ExW G X.K W σ φ (evEs R env xs st) → evEs R env xs st ≠ .bad → tUK X kws σ H (PostA G X.K φ (evEs R env xs st))
theorem simK_nil : SimK G X R [] .nil := fun σ env W φ st H C hx hb => PK.u pk_nil ⟨[], st, φ, rfl, C.rel, Ext.refl φ, fun _ h => (List.not_mem_nil h).elim, rfl⟩
theorem simK_cons {nm : Option Str} {e : Expr} {kpos : Pos} {kws : List Keyword} {x : Ex} {xs : Exs} (h1 : SimE G X R e x) (h2 : SimK G X R kws xs) : SimK G X R (⟨nm, e, kpos⟩ :: kws) (.cons x xs) := by
  intro σ env W φ st H C hx hb
  have e0 : evEs R env (.cons x xs) st = (evE R env x st).andThen fun v s => bnd (evEs R env xs) (fun vs => ret (v :: vs)) s := rfl
  refine PK.u (pk_cons pe_tU pk_tU) (fstE h1 C e0 hx hb fun v st1 φ1 H1 e1 C1 x1 w1 hx1 hb1 => ?_)
  have hb2 : evEs R env xs st1 ≠ .bad := nb_fst hb1
  refine tUK_mono (h2 σ env W φ1 st1 H1 C1 hx1.fst hb2) fun v' H' ⟨vs, st2, φ2, e2, r2, x2, w2, ev⟩ => ?_
  subst ev
  refine ⟨v :: vs, st2, φ2, ?_, r2, x1.trans x2, fun y hy => ?_, ?_⟩
  · rw [e0, e1]
    exact bnd_at e2
  · rcases List.mem_cons.mp hy with rfl | hy
    · exact w1.mono (Rel.le (X := X) C1.rel r2 x2)
    · exact w2 y hy
  · rw [List.map_cons, toV_ext x2 (w1.phi C1.rel)]
/-- the names of keywords that all have one -/
def kwNs : List Keyword → Option (List Str)
  | [] => some []
  | ⟨some n, _, _⟩ :: r => (kwNs r).map (n :: ·)
  | ⟨none, _, _⟩ :: _ => none
theorem kwNs_ok {pos : Pos} {env : PySem.Env} : ∀ {kws : List Keyword} {ks : List Str}, kwNs kws = some ks → (backToKw pos (keywordEach kws env)).all (·.1.isSome) = true ∧ (backToKw pos (keywordEach kws env)).filterMap (·.1) = ks ∧ (backToKw pos (keywordEach kws env)).any (·.1.isNone) = false
  | [], ks, h => by cases h; exact ⟨rfl, rfl, rfl⟩
  | ⟨some n, e, p⟩ :: r, ks, h => by
    unfold kwNs at h
    cases q : kwNs r with
    | none => rw [q] at h; cases h
    | some ms =>
      rw [q] at h
      cases h
      obtain ⟨h1, h2, h3⟩ := kwNs_ok (pos := pos) (env := env) q
      refine ⟨?_, ?_, ?_⟩
      · show (true && (backToKw pos (keywordEach r env)).all (·.1.isSome)) = true
        rw [h1]
        rfl
      · show n :: (backToKw pos (keywordEach r env)).filterMap (·.1) = n :: ms
        rw [h2]
      · show (false || (backToKw pos (keywordEach r env)).any (·.1.isNone)) = false
        rw [h3]
        rfl
  | ⟨none, e, p⟩ :: r, ks, h => by unfold kwNs at h; cases h
theorem vals_perm {vs : List V} {us : List Value} (h : Vals vs us) : ∀ {perm : List Nat}, (∀ i ∈ perm, i < us.length) → Vals (perm.map fun i => vs.getD i .non) (perm.map fun i => us.getD i .none)
  | [], _ => .nil
  | i :: r, hp => by
    refine .cons ?_ (vals_perm h fun j hj => hp j (List.mem_cons_of_mem _ hj))
    have hi := hp i List.mem_cons_self
    have hl := h.length
    have q : vs[i]? = some (vs[i]'(by omega)) := List.getElem?_eq_getElem (by omega)
    obtain ⟨u, h1, h2⟩ := Vals.get h q
    show RelV (vs.getD i .non) (us.getD i .none)
    rw [List.getD_eq_getElem?_getD, List.getD_eq_getElem?_getD, q, h1]
    exact h2
theorem sim_callK {n : Nat} {x : Str} {ps ks : List Str} {kws : List Keyword} {xs : Exs} {perm : List Nat} {p pos : Pos} (F : CallOk G R X n x ps) (hg : Gl X x) (hd : (x == ("__debug__" : Str)) = false) (hks : kwNs kws = some ks) (nd : ks.Nodup) (hm : ∀ k ∈ ks, ps.contains k = true)
    (hp : perm.map (fun i => ks[i]?) = ps.map some) (hs : SimK G X R kws xs) (hxs : xs.len = ks.length) : SimE G X R (.Call (.Name x p) [] kws pos) (.callK n xs perm) := by
  intro σ env W φ st H C hx hb
  obtain ⟨fd, k, hr, ⟨pp, pd⟩, F2⟩ := F.run
  have e1 : evE R env (.callK n xs perm) st = (evEs R env xs st).andThen fun vs s => R n (perm.map fun i => vs.getD i .non) s := rfl
  have hx1 : ExW G X.K W σ φ (evEs R env xs st) := by rw [e1] at hx; exact hx.fst
  have hb1 : evEs R env xs st ≠ .bad := by rw [e1] at hb; exact nb_fst hb
  obtain ⟨k1, k2, k3⟩ := kwNs_ok (pos := pos) (env := X.env) hks
  intro pins s I
  refine wpAny_Call_Name_kw (ld_glob I hg F.mg ?_ hd)
  refine PySem.W.callWith_KW0 (h₀ := X.base) I.ok.mod.kin F.kp k1 ?_ (by rw [k3]; rfl)
  refine thn (hs σ env W φ st H C hx1 hb1 pos pins s I) fun ws s2 ⟨zs, H2, I2, rz, vs, st1, φ1, e2, r1, x1, w1, ev⟩ => ⟨I2.kIn, ?_⟩
  subst ev
  rw [k2]
  have C1 := C.next r1 x1
  have hl : vs.length = ks.length := (evEs_len e2).trans hxs
  have hlw : ws.length = ks.length := by rw [← rz.length, List.length_map]; exact hl
  have hperm : ∀ i ∈ perm, i < ws.length := fun i hi => by
    obtain ⟨j, hj⟩ := List.mem_iff_getElem?.mp hi
    have e : (perm.map (fun i => ks[i]?))[j]? = (ps.map some)[j]? := by rw [hp]
    rw [List.getElem?_map, hj, List.getElem?_map] at e
    cases q : ps[j]? with
    | none => rw [q] at e; cases e
    | some y =>
      rw [q] at e
      have e' : ks[i]? = some y := by simpa using e
      have := (List.getElem?_eq_some_iff.mp e').1
      omega
  have rz2 := vals_perm rz hperm
  have hpl : perm.length = ps.length := by have := congrArg List.length hp; simpa using this
  have ez : evE R env (.callK n xs perm) st = R n (perm.map fun i => vs.getD i .non) st1 := by rw [e1, e2]; rfl
  rw [ez] at hx hb ⊢
  have em : (perm.map fun i => (vs.map (toV G φ1)).getD i .non) = (perm.map fun i => vs.getD i .non).map (toV G φ1) := by
    rw [List.map_map]
    refine List.map_congr_left fun i hi => ?_
    have hi2 := hperm i hi
    show (vs.map (toV G φ1)).getD i .non = toV G φ1 (vs.getD i .non)
    rw [List.getD_eq_getElem?_getD, List.getD_eq_getElem?_getD, List.getElem?_map, List.getElem?_eq_getElem (by omega)]
    rfl
  rw [em] at rz2
  refine wpAny_call (codeAny_mono (F2.run X.A X.stack s2 H2 ⟨[], ks.zip ws⟩ (perm.map fun i => ws.getD i .none) _ (Post G X.K φ1 (R n (perm.map fun i => vs.getD i .non) st1)) (fun cls d H => W cls d σ H) hr I2.env0 (.of_eq (bind_kw pp pd nd hm hp hlw)) rz2 ?_) fun r s' hq => ?_)
  · refine ⟨φ1, st1, _, r1, fun y hy => ?_, rfl, by rw [List.length_map]; exact hpl, hb, fun _ _ h => h, fun c p st' φ' H' cls d h R' E' => hx c p st' h φ' H' cls d R' (x1.trans E')⟩
    obtain ⟨i, hi, rfl⟩ := List.mem_map.mp hy
    have hi2 := hperm i hi
    rw [List.getD_eq_getElem?_getD, List.getElem?_eq_getElem (by omega)]
    exact w1 _ (List.getElem_mem _)
  · cases r with
    | error e => exact passAt C.tk σ pins H2 s2 e s' I2 hq
    | ok fl =>
      cases fl with
      | ret u =>
        obtain ⟨v, H', I3, rv, q⟩ := I2.after hq
        exact ⟨v, H', I3, rv, Post.ext x1 q⟩
      | next => exact False.elim hq
      | brk => exact False.elim hq
      | cont => exact False.elim hq
end
end Ih
end
section
set_option Elab.async false
set_option linter.all false
set_option maxHeartbeats 1000000
namespace Ih
open PySem PySem.Spec PyProof.Rows L2
/-- what is known of a block: the def's names, the block's scope, its own cells, the table of defs, the builtins that are none of the module's names -/
structure Cc where
  N : List Str
  sc : Scope
  fnc : Option Scope
  T : List (Str × (Nat × List Str))
  blt : List Str
def isC (c : Cc) (x : Str) : Bool := match c.fnc with
  | none => true
  | some s => s.names.lookup x == some .cell
def ixB (N : List Str) (x : Str) : Option Nat := if N[N.idxOf x]? = some x then some (N.idxOf x) else none
def visB (sc : Scope) (x : Str) : Bool := match sc.names.lookup x with
  | some .local => true
  | some .cell => true
  | some .free => true
  | _ => false
def locB (sc : Scope) (x : Str) : Bool := match sc.names.lookup x with
  | some .local => true
  | some .cell => true
  | _ => false
def glB (sc : Scope) (x : Str) : Bool := match sc.names.lookup x with
  | some .globalImplicit => true
  | _ => false
def bltB (c : Cc) (x : Str) : Bool := glB c.sc x && c.blt.contains x
def dbg (x : Str) : Bool := x == ("__debug__" : Str) || x == ("__classdict__" : Str)
structure Gd (G : Gi) (R : Rt) (X : Cx) (c : Cc) : Prop where
  N : X.N = c.N
  nd : X.N.Nodup
  sc : X.env.scope = c.sc
  calm : X.calm = true
  un : X.A.units + 65 < cLine
  fn : ∀ x, isC c x = true → X.env.scope.names.lookup x = some .cell → X.fn x = true
  T : ∀ x n ps, c.T.lookup x = some (n, ps) → CallOk G R X n x ps
  blt : ∀ x, c.blt.contains x = true → X.mg x = none
section
variable {G : Gi} {R : Rt} {X : Cx} {c : Cc}
theorem ixB_ok {N : List Str} {x : Str} {i : Nat} (h : ixB N x = some i) : N[i]? = some x := by
  unfold ixB at h
  split at h
  · rename_i q; cases h; exact q
  · cases h
theorem visB_ok {sc : Scope} {x : Str} (h : visB sc x = true) : Vis sc x := by
  unfold visB at h
  split at h
  · rename_i q; exact .inl q
  · rename_i q; exact .inr (.inl q)
  · rename_i q; exact .inr (.inr q)
  · cases h
theorem locB_ok {sc : Scope} {x : Str} (h : locB sc x = true) : Loc sc x := by
  unfold locB at h
  split at h
  · rename_i q; exact .inl q
  · rename_i q; exact .inr q
  · cases h
theorem glB_ok {sc : Scope} {x : Str} (h : glB sc x = true) : sc.names.lookup x = some .globalImplicit := by
  unfold glB at h
  split at h
  · rename_i q; exact q
  · cases h
theorem Gd.gl (g : Gd G R X c) {x : Str} (h : glB c.sc x = true) : Gl X x := by
  show X.env.scope.names.lookup x = _
  rw [g.sc]
  exact glB_ok h
theorem Gd.b (g : Gd G R X c) {x : Str} (h : bltB c x = true) : Gl X x ∧ X.mg x = none := by
  unfold bltB at h
  rw [Bool.and_eq_true] at h
  exact ⟨g.gl h.1, g.blt x h.2⟩
theorem sim_nev {e : Expr} : SimE G X R e .nev := fun σ env W φ st H C hx hb => (hb rfl).elim
theorem simT_nev {e : Expr} : SimT G X R e .nev := fun σ env W φ st H C hx hb => (hb rfl).elim
def cT (f : Expr → Ex) : Expr → Ex
  | .IfExp .. => .nev
  | e => f e
/-- the tests of and, or, not, comparisons are their own -/
def ownT : Expr → Bool
  | .UnaryOp .Not _ _ => true
  | .BoolOp .. => true
  | .Compare .. => true
  | .IfExp .. => true
  | _ => false
theorem simT_of {e : Expr} {x : Ex} (h : ownT e = false) (s : SimE G X R e x) : SimT G X R e x := by
  refine simT_plain (fun whole => ?_) s
  cases e with
  | UnaryOp op a p => cases op <;> first | rfl | cases h
  | BoolOp => cases h
  | Compare => cases h
  | IfExp => cases h
  | _ => rfl
def foldB : BoolOp → List Ex → Ex
  | _, [] => .nev
  | _, [x] => x
  | .And, x :: y :: r => .and x (foldB .And (y :: r))
  | .Or, x :: y :: r => .or x (foldB .Or (y :: r))
theorem foldB_ok {op : BoolOp} {f : Expr → Ex} {pos : Pos} : ∀ {vs : List Expr}, (∀ v ∈ vs, SimE G X R v (f v) ∧ SimT G X R v (f v)) → vs ≠ [] → SimE G X R (.BoolOp op vs pos) (foldB op (vs.map f)) ∧ SimW G X R (.BoolOp op vs pos) (foldB op (vs.map f))
  | [], _, h => absurd rfl h
  | [v], hv, _ => by
    have h := hv v List.mem_cons_self
    cases op <;> exact ⟨sim_one h.1, simW_one h.2⟩
  | v :: u :: r, hv, _ => by
    have h := hv v List.mem_cons_self
    have ih := foldB_ok (op := op) (pos := pos) (vs := u :: r) (fun w hw => hv w (List.mem_cons_of_mem _ hw)) (by simp)
    cases op with
    | And => exact ⟨sim_and h.1 ih.1, simW_and h.2 ih.2⟩
    | Or => exact ⟨sim_or h.1 ih.1, simW_or h.2 ih.2⟩
def mapE (f : Expr → Ex) : List Expr → Exs
  | [] => .nil
  | e :: es => .cons (f e) (mapE f es)
def noSt (es : List Expr) : Bool := es.all fun e => !isSt e
theorem mapE_len {f : Expr → Ex} : ∀ {es : List Expr}, (mapE f es).len = es.length
  | [] => rfl
  | e :: es => by show (mapE f es).len + 1 = es.length + 1; rw [mapE_len]
theorem simA_map {f : Expr → Ex} (h : ∀ e, SimE G X R e (f e)) : ∀ {es : List Expr}, noSt es = true → SimA G X R es (mapE f es)
  | [], _ => simA_nil
  | e :: es, hs => by
    unfold noSt at hs
    rw [List.all_cons, Bool.and_eq_true] at hs
    exact simA_cons (by simpa using hs.1) (h e) (simA_map h hs.2)
def mapK (f : Expr → Ex) : List Keyword → Exs
  | [] => .nil
  | ⟨_, e, _⟩ :: es => .cons (f e) (mapK f es)
theorem simK_map {f : Expr → Ex} (h : ∀ e, SimE G X R e (f e)) : ∀ {es : List Keyword}, SimK G X R es (mapK f es)
  | [] => simK_nil
  | ⟨_, e, _⟩ :: es => simK_cons (h e) (simK_map h)
theorem mapK_len {f : Expr → Ex} : ∀ {es : List Keyword} {ks : List Str}, kwNs es = some ks → (mapK f es).len = ks.length
  | [], ks, h => by cases h; rfl
  | ⟨some n, e, p⟩ :: r, ks, h => by
    unfold kwNs at h
    cases q : kwNs r with
    | none => rw [q] at h; cases h
    | some ms =>
      rw [q] at h
      cases h
      show (mapK f r).len + 1 = ms.length + 1
      rw [mapK_len q]
  | ⟨none, _, _⟩ :: _, _, h => by unfold kwNs at h; cases h
mutual
def cG : Nat → Cc → Expr → Option Tg
  | 0, _, _ => none
  | n + 1, c, .Name x _ => (match ixB c.N x with
    | some i => if locB c.sc x && (isC c x || decide (c.sc.names.lookup x = some .local)) then some (.nm i) else none
    | none => none)
  | n + 1, c, .Tuple es _ _ => if noSt es then (cGs n c es).map .tp else none
  | _ + 1, _, _ => none
def cGs : Nat → Cc → List Expr → Option (List Tg)
  | 0, _, _ => none
  | _ + 1, _, [] => some []
  | n + 1, c, e :: es => (match cG n c e, cGs n c es with
    | some t, some ts => some (t :: ts)
    | _, _ => none)
end
mutual
theorem cG_ok (g : Gd G R X c) : ∀ (n : Nat) (e : Expr) (t : Tg), cG n c e = some t → SimG G X e t
  | 0, e, t, h => by unfold cG at h; cases h
  | n + 1, .Name x p, t, h => by
    unfold cG at h
    split at h
    · rename_i i hi
      split at h
      · rename_i hb
        cases h
        rw [Bool.and_eq_true, Bool.or_eq_true, decide_eq_true_eq, ← g.sc] at hb
        have hl := locB_ok hb.1
        refine simG_nm g.nd (by rw [g.N]; exact ixB_ok hi) hl ?_
        rcases hb.2 with z | z
        · rcases hl with l | l
          · exact .inr l
          · exact .inl (g.fn x z l)
        · exact .inr z
      · cases h
    · cases h
  | n + 1, .Tuple es k p, t, h => by
    unfold cG at h
    split at h
    · rename_i hs
      cases q : cGs n c es with
      | none => rw [q] at h; cases h
      | some ts =>
        rw [q] at h
        cases h
        exact simG_tp g.calm hs (cGs_len n es ts q) (cGs_ok g n es ts hs q)
    · cases h
theorem cGs_len : ∀ (n : Nat) (es : List Expr) (ts : List Tg), cGs n c es = some ts → es.length = ts.length
  | 0, _, _, h => by unfold cGs at h; cases h
  | n + 1, [], ts, h => by unfold cGs at h; cases h; rfl
  | n + 1, e :: es, ts, h => by
    unfold cGs at h
    split at h
    · rename_i t us h1 h2
      cases h
      show es.length + 1 = us.length + 1
      rw [cGs_len n es us h2]
    · cases h
theorem cGs_ok (g : Gd G R X c) : ∀ (n : Nat) (es : List Expr) (ts : List Tg), noSt es = true → cGs n c es = some ts → SimGs G X es ts
  | 0, _, _, _, h => by unfold cGs at h; cases h
  | n + 1, [], ts, _, h => by unfold cGs at h; cases h; exact simGs_nil
  | n + 1, e :: es, ts, hs, h => by
    unfold noSt at hs
    rw [List.all_cons, Bool.and_eq_true] at hs
    unfold cGs at h
    split at h
    · rename_i t us h1 h2
      cases h
      exact simGs_cons (by simpa using hs.1) (cG_ok g n e t h1) (cGs_ok g n es us hs.2 h2)
    · cases h
end
/-- what a target that is a tuple is made of -/
def TgOk (G : Gi) (X : Cx) (tg : Expr) (t : Tg) : Prop := ∀ ts, t = .tp ts → ∃ es k pos, tg = .Tuple es k pos ∧ X.calm = true ∧ (es.all fun e => !isSt e) = true ∧ es.length = ts.length ∧ SimGs G X es ts
theorem cG_tp (g : Gd G R X c) {n : Nat} {e : Expr} {t : Tg} (h : cG n c e = some t) : TgOk G X e t := by
  intro ts ht
  subst ht
  cases n with
  | zero => unfold cG at h; cases h
  | succ n =>
    cases e with
    | Name x p =>
      unfold cG at h
      split at h
      · split at h <;> cases h
      · cases h
    | Tuple es k p =>
      unfold cG at h
      split at h
      · rename_i hs
        cases q : cGs n c es with
        | none => rw [q] at h; cases h
        | some us =>
          rw [q] at h
          cases h
          exact ⟨es, k, p, rfl, g.calm, hs, cGs_len (G := G) (R := R) (X := X) n es ts q, cGs_ok g n es ts hs q⟩
      · cases h
    | _ => unfold cG at h; cases h
def isSet : Expr → Bool
  | .Set .. => true
  | _ => false
theorem noSet {e : Expr} (h : isSet e = false) (env : PySem.Env) (x : Value) : foldedSetIterable e env x = pure x := by cases e <;> first | rfl | cases h
def isTup : Expr → Bool
  | .Tuple .. => true
  | _ => false
def cI (f : Expr → Ex) (c : Cc) (tg : Expr) : Expr → It
  | .Call (.Name x p) as [] pos =>
    if x = ("range" : Str) ∧ bltB c "range" = true then (match as with
      | [a] => if isSt a then .seq .nev else .rng1 (f a)
      | [a, b] => if isSt a || isSt b then .seq .nev else .rng2 (f a) (f b)
      | _ => .seq .nev)
    else if x = ("enumerate" : Str) ∧ bltB c "enumerate" = true then (match as with
      | [a] => if isSt a || !isTup tg then .seq .nev else .enm (f a)
      | _ => .seq .nev)
    else if x = ("zip" : Str) ∧ bltB c "zip" = true then (match as with
      | [a, b] => if isSt a || isSt b || !isTup tg then .seq .nev else .zip (f a) (f b)
      | _ => .seq .nev)
    else .seq (f (.Call (.Name x p) as [] pos))
  | e => .seq (f e)
theorem isTup_ok {e : Expr} (h : isTup e = true) : ∃ es k p, e = .Tuple es k p := by
  cases e with
  | Tuple es k p => exact ⟨es, k, p, rfl⟩
  | _ => cases h
theorem cI_ok (g : Gd G R X c) {f : Expr → Ex} (h : ∀ e, SimE G X R e (f e)) {tg : Expr} : ∀ e : Expr, SimI G X R tg e (cI f c tg e) := by
  intro e
  have hn : ∀ e, SimI G X R tg e (.seq .nev) := fun e => simI_seq sim_nev
  unfold cI
  split
  · rename_i x p as pos
    split
    · rename_i q
      obtain ⟨rfl, q⟩ := q
      obtain ⟨q1, q2⟩ := g.b q
      split
      · rename_i a
        split
        · exact hn _
        · rename_i s
          exact simI_rng1 q1 q2 (by simpa using s) (h a)
      · rename_i a b
        split
        · exact hn _
        · rename_i s
          simp only [Bool.or_eq_true, not_or, Bool.not_eq_true] at s
          exact simI_rng2 q1 q2 s.1 s.2 (h a) (h b)
      · exact hn _
    · split
      · rename_i q
        obtain ⟨rfl, q⟩ := q
        obtain ⟨q1, q2⟩ := g.b q
        split
        · rename_i a
          split
          · exact hn _
          · rename_i s
            simp only [Bool.or_eq_true, not_or, Bool.not_eq_true, Bool.not_eq_eq_eq_not, Bool.not_false] at s
            obtain ⟨es, k, p, rfl⟩ := isTup_ok (by simpa using s.2)
            exact simI_enm q1 q2 s.1 (h a)
        · exact hn _
      · split
        · rename_i q
          obtain ⟨rfl, q⟩ := q
          obtain ⟨q1, q2⟩ := g.b q
          split
          · rename_i a b
            split
            · exact hn _
            · rename_i s
              simp only [Bool.or_eq_true, not_or, Bool.not_eq_true] at s
              obtain ⟨es, k, p, rfl⟩ := isTup_ok (by simpa using s.2)
              exact simI_zip q1 q2 s.1.1 s.1.2 (h a) (h b)
          · exact hn _
        · exact simI_seq (h _)
  · exact simI_seq (h _)
/-- the builtins by their names and numbers of arguments -/
def biL : List (Bi × Nat) := [(.len, 1), (.abs, 1), (.int, 1), (.sum, 1), (.any, 1), (.all, 1), (.list, 1), (.tuple, 1), (.sorted, 1), (.dict, 1), (.max1, 1), (.min1, 1), (.max2, 2), (.min2, 2)]
def biF (x : Str) (n : Nat) : Option Bi := (biL.find? fun b => decide ((biV b.1).2 ≠ "?") && decide (Str.ofString (biV b.1).2 = x) && b.2 == n).map (·.1)
theorem biF_ok {x : Str} {n : Nat} {b : Bi} (h : biF x n = some b) : (biV b).2 ≠ "?" ∧ x = Str.ofString (biV b).2 := by
  unfold biF at h
  cases q : biL.find? fun b => decide ((biV b.1).2 ≠ "?") && decide (Str.ofString (biV b.1).2 = x) && b.2 == n with
  | none => rw [q] at h; cases h
  | some p =>
    rw [q] at h
    cases h
    have z := List.find?_some q
    simp only [Bool.and_eq_true, decide_eq_true_eq] at z
    exact ⟨z.1.1, z.1.2.symm⟩
def tyF (x : Str) : Option Ty := [Ty.lst, .tup, .dic, .int, .bl, .str].find? fun T => decide (Str.ofString (tyN T) = x)
theorem tyF_ok {x : Str} {T : Ty} (h : tyF x = some T) : x = Str.ofString (tyN T) := by
  unfold tyF at h
  have z := List.find?_some h
  exact (of_decide_eq_true z).symm
/-- the types of a tuple of names -/
def tysF (c : Cc) : List Expr → Option (List (Ty × Pos))
  | [] => some []
  | .Name x p :: r => (match tyF x, tysF c r with
    | some T, some ts => if bltB c x then some ((T, p) :: ts) else none
    | _, _ => none)
  | _ :: _ => none
theorem tysF_ok (g : Gd G R X c) : ∀ {es : List Expr} {ts : List (Ty × Pos)}, tysF c es = some ts → es = tyE ts ∧ ∀ q ∈ ts, Gl X (Str.ofString (tyN q.1)) ∧ X.mg (Str.ofString (tyN q.1)) = none
  | [], ts, h => by cases h; exact ⟨rfl, fun _ h => (List.not_mem_nil h).elim⟩
  | e :: es, ts, h => by
    cases e with
    | Name x p =>
      unfold tysF at h
      split at h
      · rename_i T us h1 h2
        split at h
        · rename_i hb
          cases h
          obtain ⟨ih1, ih2⟩ := tysF_ok g h2
          have hx := tyF_ok h1
          subst hx
          refine ⟨?_, fun q hq => ?_⟩
          · rw [ih1]; rfl
          · rcases List.mem_cons.mp hq with rfl | hq
            · exact g.b hb
            · exact ih2 q hq
        · cases h
      · cases h
    | _ => unfold tysF at h; cases h
/-- calls of names -/
def cCall (f : Expr → Ex) (c : Cc) (x : Str) (as : List Expr) (kws : List Keyword) : Ex :=
  if dbg x then .nev else
  match kws with
  | [] => (match c.T.lookup x with
    | some (n, ps) => if glB c.sc x && noSt as && decide (as.length = ps.length) && !as.isEmpty then .call n (mapE f as) else .nev
    | none => if !bltB c x || !noSt as then .nev else
      if x = ("isinstance" : Str) then (match as with
        | [a, .Name t _] => (match tyF t with
          | some T => if bltB c t then .isi (f a) [T] else .nev
          | none => .nev)
        | [a, .Tuple es _ _] => (match tysF c es with
          | some ts => if ts.length ≤ 1000 then .isi (f a) (ts.map (·.1)) else .nev
          | none => .nev)
        | _ => .nev)
      else (match biF x as.length with
        | some b => if as.isEmpty then .nev else .bi b (mapE f as)
        | none => .nev))
  | kws => (match c.T.lookup x, kwNs kws with
    | some (n, ps), some ks => if glB c.sc x && as.isEmpty && decide ks.Nodup && (ks.all fun k => ps.contains k) && decide ((ps.map fun p => ks.idxOf p).map (fun i => ks[i]?) = ps.map some) then .callK n (mapK f kws) (ps.map fun p => ks.idxOf p) else .nev
    | _, _ => .nev)
theorem dbg_ok {x : Str} (h : dbg x = false) : (x == ("__debug__" : Str)) = false ∧ (x == ("__classdict__" : Str)) = false := by
  unfold dbg at h
  rwa [Bool.or_eq_false_iff] at h
theorem cCall_ok (g : Gd G R X c) {f : Expr → Ex} (h : ∀ e, SimE G X R e (f e)) {x : Str} {as : List Expr} {kws : List Keyword} {p pos : Pos} : SimE G X R (.Call (.Name x p) as kws pos) (cCall f c x as kws) := by
  unfold cCall
  split
  · exact sim_nev
  rename_i hd
  have hd := dbg_ok (by simpa using hd)
  split
  · split
    · rename_i n ps hT
      split
      · rename_i hb
        simp only [Bool.and_eq_true, decide_eq_true_eq] at hb
        cases as with
        | nil => exact absurd hb.2 (by simp)
        | cons e es => exact sim_call (g.T x n ps hT) (g.gl hb.1.1.1) hd.1 hb.1.1.2 hb.1.2 (simA_map h hb.1.1.2) (mapE_len.trans hb.1.2)
      · exact sim_nev
    · rename_i hT
      split
      · exact sim_nev
      rename_i hb
      simp only [Bool.or_eq_true, not_or, Bool.not_eq_true, Bool.not_eq_eq_eq_not, Bool.not_true, Bool.not_false] at hb
      have hb1 : bltB c x = true := by simpa using hb.1
      have hb2 : noSt as = true := by simpa using hb.2
      split
      · rename_i hx
        subst hx
        obtain ⟨q1, q2⟩ := g.b hb1
        split
        · rename_i a t p2
          have hst : isSt a = false := by
            have := hb2
            unfold noSt at this
            rw [List.all_cons, Bool.and_eq_true] at this
            simpa using this.1
          split
          · rename_i T hT2
            split
            · rename_i hb3
              have := tyF_ok hT2
              subst this
              obtain ⟨q3, q4⟩ := g.b hb3
              exact sim_isi1 g.calm hst q1 q2 q3 q4 (h a)
            · exact sim_nev
          · exact sim_nev
        · rename_i a es k p2
          have hst : isSt a = false := by
            have := hb2
            unfold noSt at this
            rw [List.all_cons, Bool.and_eq_true] at this
            simpa using this.1
          split
          · rename_i ts hT2
            split
            · rename_i hl
              obtain ⟨e1, e2⟩ := tysF_ok g hT2
              subst e1
              exact sim_isiT g.calm hst q1 q2 hl e2 (h a)
            · exact sim_nev
          · exact sim_nev
        · exact sim_nev
      · split
        · rename_i b hbi
          split
          · exact sim_nev
          · rename_i hne
            obtain ⟨b1, b2⟩ := biF_ok hbi
            obtain ⟨q1, q2⟩ := g.b hb1
            cases as with
            | nil => exact absurd rfl hne
            | cons e es =>
              subst b2
              exact sim_bi b1 g.calm q1 q2 hb2 (simA_map h hb2)
        · exact sim_nev
  · split
    · rename_i n ps ks hT hks
      split
      · rename_i hb
        simp only [Bool.and_eq_true, decide_eq_true_eq] at hb
        obtain ⟨⟨⟨⟨b1, b2⟩, b3⟩, b4⟩, b5⟩ := hb
        have : as = [] := by simpa using b2
        subst this
        exact sim_callK (g.T x n ps hT) (g.gl b1) hd.1 hks b3 (fun k hk => List.all_eq_true.mp b4 k hk) b5 (simK_map h) (mapK_len hks)
      · exact sim_nev
    · exact sim_nev
def isCall0 : Expr → Bool
  | .Call .. => true
  | _ => false
theorem base_ok {o : Expr} {m : Str} {env : PySem.Env} {w : Sem Value} (h : isCall0 o = false) : attributeBase o m env w = w := by cases o <;> first | rfl | cases h
def meF (m : Str) (n : Nat) : Option Me := if m = ("append" : Str) ∧ n = 1 then some .append else if m = ("extend" : Str) ∧ n = 1 then some .extend else if m = ("pop" : Str) ∧ n = 1 then some .popi else none
theorem meF_ok {m : Str} {n : Nat} {M : Me} (h : meF m n = some M) : m = Str.ofString (meN M) ∧ (M ≠ .items ∧ M ≠ .pop0) := by
  unfold meF at h
  split at h
  · rename_i q; cases h; exact ⟨q.1, by decide⟩
  · split at h
    · rename_i q; cases h; exact ⟨q.1, by decide⟩
    · split at h
      · rename_i q; cases h; exact ⟨q.1, by decide⟩
      · cases h
def cMet (f : Expr → Ex) (o : Expr) (m : Str) (apos : Pos) (as : List Expr) (cpos : Pos) : Ex :=
  if isCall0 o || !(apos.endLine == cpos.line) || !noSt as || !decide (as.length < 25) then .nev else
  match as with
  | [] => if m = ("pop" : Str) then .met .pop0 (f o) .nil else .nev
  | as => (match meF m as.length with
    | some M => .met M (f o) (mapE f as)
    | none => .nev)
theorem cMet_ok {f : Expr → Ex} (h : ∀ e, SimE G X R e (f e)) {o : Expr} {m : Str} {apos cpos : Pos} {as : List Expr} : SimE G X R (.Call (.Attribute o m apos) as [] cpos) (cMet f o m apos as cpos) := by
  unfold cMet
  split
  · exact sim_nev
  rename_i hb
  simp only [Bool.or_eq_true, not_or, Bool.not_eq_true] at hb
  obtain ⟨⟨⟨b1, b2⟩, b3⟩, b4⟩ := hb
  have b2 : (apos.endLine == cpos.line) = true := by simpa using b2
  have b3 : noSt as = true := by simpa using b3
  have b4 : as.length < 25 := by simpa using b4
  split
  · split
    · rename_i q
      subst q
      exact sim_met0 (base_ok b1) b2 (h o)
    · exact sim_nev
  · rename_i hne
    split
    · rename_i M hM
      obtain ⟨e1, e2⟩ := meF_ok hM
      cases as with
      | nil => exact absurd rfl hne
      | cons e es =>
        subst e1
        exact sim_met e2 (base_ok b1) b2 b3 b4 (h o) (simA_map h b3)
    · exact sim_nev
def cLrg (f : Expr → Ex) (c : Cc) (x : Str) (as : List Expr) (kws : List Keyword) : Option Ex :=
  match as, kws with
  | [.Call (.Name y _) bs [] _], [] => if x = ("list" : Str) ∧ y = ("range" : Str) ∧ bltB c "list" = true ∧ bltB c "range" = true ∧ noSt bs = true then (match bs with
    | [a] => some (.bi .lrg1 (.cons (f a) .nil))
    | [a, b] => some (.bi .lrg2 (.cons (f a) (.cons (f b) .nil)))
    | _ => none) else none
  | [.Call (.Attribute o m apos) [] [] cpos], [] => if x = ("list" : Str) ∧ m = ("items" : Str) ∧ bltB c "list" = true ∧ isCall0 o = false ∧ (apos.endLine == cpos.line) = true then some (.bi .litm (.cons (f o) .nil)) else none
  | _, _ => none
theorem cLrg_ok (g : Gd G R X c) {f : Expr → Ex} (h : ∀ e, SimE G X R e (f e)) {x : Str} {as : List Expr} {kws : List Keyword} {p pos : Pos} {y : Ex} (hy : cLrg f c x as kws = some y) : SimE G X R (.Call (.Name x p) as kws pos) y := by
  unfold cLrg at hy
  split at hy
  · rename_i z p2 bs p3
    split at hy
    · rename_i q
      obtain ⟨rfl, rfl, q1, q2, q3⟩ := q
      obtain ⟨a1, a2⟩ := g.b q1
      obtain ⟨a3, a4⟩ := g.b q2
      split at hy
      · rename_i a
        cases hy
        have hst : isSt a = false := by unfold noSt at q3; simpa using q3
        exact sim_lrg1 g.calm a1 a2 a3 a4 hst (h a)
      · rename_i a b
        cases hy
        have hst : isSt a = false ∧ isSt b = false := by unfold noSt at q3; simpa using q3
        exact sim_lrg2 g.calm a1 a2 a3 a4 hst.1 hst.2 (h a) (h b)
      · cases hy
    · cases hy
  · split at hy
    · rename_i q
      obtain ⟨rfl, rfl, q1, q2, q3⟩ := q
      cases hy
      obtain ⟨a1, a2⟩ := g.b q1
      exact sim_litm g.calm a1 a2 (base_ok q2) q3 (h _)
    · cases hy
  · cases hy
theorem sim_rev {e : Expr} {x : Ex} {k : Nat} {p1 p2 p3 pos : Pos} (h : SimE G X R e x) : SimE G X R (.Subscript e (.Slice none none (some (.UnaryOp .USub (.Constant (.int 1) k p1) p2)) p3) pos) (.rev x) := by
  intro σ env W φ st H C hx hb
  have e0 : evE R env (.rev x) st = (evE R env x st).andThen fun v s => (fun st => match lstOf st v with
    | some xs => alloc (.lst xs.reverse) st
    | none => .bad) s := rfl
  refine PE.u (pe_revL pe_tU) (fstE h C e0 hx hb fun v st1 φ1 H1 e1 C1 x1 w1 hx1 hb1 => ?_)
  have ez : evE R env (.rev x) st = (match lstOf st1 v with
    | some xs => alloc (.lst xs.reverse) st1
    | none => .bad) := by rw [e0, e1]; rfl
  cases q : lstOf st1 v with
  | none => rw [q] at ez; exact (hb ez).elim
  | some xs =>
    rw [q] at ez
    obtain ⟨a, ea, sq, w⟩ := lstOf_ok C1.rel q
    refine ⟨a, _, ea, sq, fun l hl => Post.ext x1 ?_⟩
    rw [ez, ← List.map_reverse]
    exact post_lst C1.rel (fun y hy => w y (List.mem_reverse.mp hy)) hl
def bopOf : Operator → Option Bop
  | .Add => some .add | .Sub => some .sub | .Mult => some .mul | .FloorDiv => some .fdv | .Mod => some .mod | .Pow => some .pow | .LShift => some .shl
  | _ => none
theorem bopOf_ok {o : Operator} {b : Bop} (h : bopOf o = some b) : o = opB b := by cases o <;> cases h <;> rfl
def copOf : CmpOp → Cop
  | .Eq => .eq | .NotEq => .ne | .Lt => .lt | .LtE => .le | .Gt => .gt | .GtE => .ge | .Is => .is | .IsNot => .isn | .In => .inn | .NotIn => .nin
theorem copOf_ok (o : CmpOp) : opC (copOf o) = o := by cases o <;> rfl
def cO (f : Expr → Ex) : Option Expr → Exo
  | none => .none
  | some e => .some (f e)
theorem cO_ok {f : Expr → Ex} (h : ∀ e, SimE G X R e (f e)) : ∀ o, SimO G X R o (cO f o)
  | none => simO_none
  | some e => simO_some (h e)
def cC (f : Expr → Ex) : List Expr → Option Exs
  | [] => some .nil
  | [e] => some (.cons (cT f e) .nil)
  | _ => none
/-- a comprehension's own names, with their slots -/
def ownN (N : List Str) (scope : Scope) : List (Str × Nat) := scope.names.filterMap fun p => match p.2 with
  | .local => (ixB N p.1).map (p.1, ·)
  | .cell => (ixB N p.1).map (p.1, ·)
  | _ => none
def inC (c : Cc) (scope : Scope) : Cc := { c with sc := relS scope c.sc, fnc := some scope }
def cCom (f : Cc → Expr → Ex) (c : Cc) (elt : Expr) (gs : List Comprehension) (scope : Scope) : Ex :=
  match gs with
  | [⟨tg, iter, ifs, 0⟩] => if !blkC c.N c.sc scope (ownN c.N scope) || isSet iter then .nev else (match cG 100 (inC c scope) tg, cC (f (inC c scope)) ifs with
    | some t, some cs => .com t (cI (f c) c tg iter) cs (f (inC c scope) elt) ((ownN c.N scope).map (·.2))
    | _, _ => .nev)
  | _ => .nev
/-- a comprehension over a name -/
def cComK (f : Cc → Expr → Ex) (c : Cc) (elt : Expr) (gs : List Comprehension) (scope : Scope) : Option Ex :=
  match gs with
  | [⟨tg, .Name x _, ifs, 0⟩] => if !blkC c.N c.sc scope (ownN c.N scope) || !visB c.sc x || dbg x then none else (match ixB c.N x, cG 100 (inC c scope) tg, cC (f (inC c scope)) ifs with
    | some i, some t, some cs => some (.com t (.key i) cs (f (inC c scope) elt) ((ownN c.N scope).map (·.2)))
    | _, _, _ => none)
  | _ => none
def stp (f : Cc → Expr → Ex) (c : Cc) : Expr → Ex
  | .Name x _ => (match ixB c.N x with
    | some i => if visB c.sc x && !dbg x then .var i else .nev
    | none => .nev)
  | .Constant k _ _ => (match k with
    | .none => .non
    | .bool b => .bl b
    | .int i => .int i
    | .str z => .str z
    | _ => .nev)
  | .BinOp a op b _ => (match bopOf op with
    | some o => .bin o (f c a) (f c b)
    | none => .nev)
  | .UnaryOp op a _ => (match op with
    | .USub => .neg (f c a)
    | .Not => .nt (cT (f c) a)
    | _ => .nev)
  | .Compare a ops bs _ => (match ops, bs with
    | [o], [b] => if behindInMarks o b then .nev else .cmp (copOf o) (f c a) (f c b)
    | [o1, o2], [b, d] => if lastMarks [o1, o2] [b, d] then .nev else .cmp2 (copOf o1) (copOf o2) (f c a) (f c b) (f c d)
    | _, _ => .nev)
  | .BoolOp op vs _ => foldB op (vs.map (cT (f c)))
  | .IfExp t a b _ => .ife (cT (f c) t) (f c a) (f c b)
  | .Subscript a b _ => (match b with
    | .Slice lo hi none _ => .slc (f c a) (cO (f c) lo) (cO (f c) hi)
    | .Slice none none (some (.UnaryOp .USub (.Constant (.int 1) _ _) _)) _ => .rev (f c a)
    | .Slice (some lo) none (some st) _ => .stpL (f c a) (.some (f c lo)) (.some (f c st))
    | b => if isSl b then .nev else .sub (f c a) (f c b))
  | .Tuple es _ _ => if noSt es then .tup (mapE (f c) es) else .nev
  | .List es _ => if noSt es then .lst (mapE (f c) es) else .nev
  | .Dict ks vs _ => (match ks, vs with
    | [], [] => .dic0
    | _, _ => .nev)
  | .Call fe as kws pos => (match fe with
    | .Name x _ => (match cLrg (f c) c x as kws with
      | some y => y
      | none => cCall (f c) c x as kws)
    | .Attribute o m apos => (match kws with
      | [] => cMet (f c) o m apos as pos
      | _ => .nev)
    | _ => .nev)
  | .ListComp elt gs scope _ => (match cComK f c elt gs scope with
    | some y => y
    | none => cCom f c elt gs scope)
  | _ => .nev
def cE : Nat → Cc → Expr → Ex
  | 0, _, _ => .nev
  | n + 1, c, e => stp (cE n) c e
theorem Gd.blk (g : Gd G R X c) {scope : Scope} : InBlk X scope fun Y => Gd G R Y (inC c scope) := by
  intro s H C cl fp
  refine ⟨g.N, g.nd, ?_, g.calm, g.un, fun x h _ => h, fun x n ps h => ?_, g.blt⟩
  · show relS scope X.env.scope = relS scope c.sc
    rw [g.sc]
  · have F := g.T x n ps h
    exact ⟨F.mg, F.kp, F.run⟩
/-- f's expressions are simulated, whatever the block -/
def Snd (G : Gi) (R : Rt) (f : Cc → Expr → Ex) : Prop := ∀ X c, Gd G R X c → ∀ e, SimE G X R e (f c e) ∧ SimT G X R e (cT (f c) e)
theorem Snd.e {f : Cc → Expr → Ex} (S : Snd G R f) (g : Gd G R X c) (e : Expr) : SimE G X R e (f c e) := (S X c g e).1
theorem Snd.t {f : Cc → Expr → Ex} (S : Snd G R f) (g : Gd G R X c) (e : Expr) : SimT G X R e (cT (f c) e) := (S X c g e).2
theorem Snd.et {f : Cc → Expr → Ex} (S : Snd G R f) (g : Gd G R X c) (e : Expr) : SimE G X R e (cT (f c) e) := by
  cases e with
  | IfExp => exact sim_nev
  | _ => exact S.e g _
theorem cC_ok {f : Cc → Expr → Ex} (S : Snd G R f) (g : Gd G R X c) {ifs : List Expr} {cs : Exs} (h : cC (f c) ifs = some cs) : SimC G X R ifs cs := by
  match ifs, h with
  | [], h => cases h; exact .inl ⟨rfl, rfl⟩
  | [e], h => cases h; exact .inr ⟨e, _, rfl, rfl, S.t g e⟩
  | _ :: _ :: _, h => cases h
/-- a comprehension's parts -/
structure ComOk (G : Gi) (R : Rt) (X : Cx) (c : Cc) (elt : Expr) (gs : List Comprehension) (scope : Scope) (y : Ex) : Prop where
  ex : ∃ tg iter ifs t xi xc xe own, gs = [⟨tg, iter, ifs, 0⟩] ∧ y = .com t xi xc xe (own.map (·.2)) ∧ BlkOk X.N X.env.scope scope own ∧ (∀ x, foldedSetIterable iter X.env x = pure x) ∧ SimI G X R tg iter xi ∧
    (InBlk X scope fun Y => SimG G Y tg t) ∧ (InBlk X scope fun Y => TgOk G Y tg t) ∧ (InBlk X scope fun Y => SimC G Y R ifs xc) ∧ InBlk X scope fun Y => SimE G Y R elt xe
theorem cCom_ok {f : Cc → Expr → Ex} (S : Snd G R f) (g : Gd G R X c) {elt : Expr} {gs : List Comprehension} {scope : Scope} : cCom f c elt gs scope = .nev ∨ ComOk G R X c elt gs scope (cCom f c elt gs scope) := by
  unfold cCom
  split
  · rename_i tg iter ifs
    split
    · exact .inl rfl
    · rename_i hb
      simp only [Bool.or_eq_true, not_or, Bool.not_eq_true, Bool.not_eq_eq_eq_not, Bool.not_true, Bool.not_false] at hb
      have b1 : blkC c.N c.sc scope (ownN c.N scope) = true := by simpa using hb.1
      split
      · rename_i t cs h1 h2
        refine .inr ⟨tg, iter, ifs, t, _, cs, _, _, rfl, rfl, ?_, noSet hb.2 X.env, cI_ok g (S.e g) iter, fun s H C cl fp => cG_ok (g.blk s H C cl fp) _ _ _ h1, fun s H C cl fp => cG_tp (g.blk s H C cl fp) h1, fun s H C cl fp => cC_ok S (g.blk s H C cl fp) h2, fun s H C cl fp => S.e (g.blk s H C cl fp) elt⟩
        rw [g.N, g.sc]
        exact blkOk_by b1
      · exact .inl rfl
  · exact .inl rfl
theorem cComK_ok {f : Cc → Expr → Ex} (S : Snd G R f) (g : Gd G R X c) {elt : Expr} {gs : List Comprehension} {scope : Scope} {pos : Pos} {y : Ex} (h : cComK f c elt gs scope = some y) : SimE G X R (.ListComp elt gs scope pos) y := by
  unfold cComK at h
  split at h
  · rename_i tg x p ifs
    split at h
    · cases h
    · rename_i hb
      simp only [Bool.or_eq_true, not_or, Bool.not_eq_true, Bool.not_eq_eq_eq_not, Bool.not_true, Bool.not_false] at hb
      have b1 : blkC c.N c.sc scope (ownN c.N scope) = true := by simpa using hb.1.1
      have b2 : visB c.sc x = true := by simpa using hb.1.2
      have hd := dbg_ok hb.2
      split at h
      · rename_i i t cs hi h1 h2
        cases h
        refine sim_comK (by rw [g.N]; exact ixB_ok hi) (by rw [g.sc]; exact visB_ok b2) hd.1 hd.2 g.calm g.nd ?_ (fun s H C cl fp => cG_ok (g.blk s H C cl fp) _ _ _ h1) (fun s H C cl fp => cG_tp (g.blk s H C cl fp) h1) (fun s H C cl fp => cC_ok S (g.blk s H C cl fp) h2) fun s H C cl fp => S.e (g.blk s H C cl fp) elt
        rw [g.N, g.sc]
        exact blkOk_by b1
      · cases h
  · cases h
theorem plainIx {b : Expr} (h : isSl b = false) : PlainIx b := by
  intro o i
  cases b <;> first | rfl | cases h
theorem stp_e {f : Cc → Expr → Ex} (S : Snd G R f) (g : Gd G R X c) (e : Expr) : SimE G X R e (stp f c e) := by
  have he := S.e g
  cases e with
  | Name x p =>
    unfold stp
    dsimp only
    split
    · rename_i i hi
      split
      · rename_i hb
        simp only [Bool.and_eq_true] at hb
        have hd := dbg_ok (x := x) (by simpa using hb.2)
        exact sim_var (by rw [g.N]; exact ixB_ok hi) (by rw [g.sc]; exact visB_ok hb.1) hd.1 hd.2
      · exact sim_nev
    · exact sim_nev
  | Constant k j p =>
    unfold stp
    dsimp only
    cases k <;> first | exact sim_non | exact sim_bl | exact sim_int | exact sim_str | exact sim_nev
  | BinOp a op b p =>
    unfold stp
    dsimp only
    split
    · rename_i o ho
      rw [bopOf_ok ho]
      exact sim_bin (he a) (he b)
    · exact sim_nev
  | UnaryOp op a p =>
    unfold stp
    dsimp only
    cases op with
    | USub => exact sim_neg (he a)
    | Not => exact sim_nt (S.et g a)
    | _ => exact sim_nev
  | Compare a ops bs p =>
    unfold stp
    dsimp only
    split
    · rename_i o b
      split
      · exact sim_nev
      · rename_i hb
        have hb : behindInMarks o b = false := by simpa using hb
        have z := sim_cmp (op := copOf o) (pos := p) g.un (by rw [copOf_ok]; exact hb) (he a) (he b)
        rw [copOf_ok] at z
        exact z
    · rename_i o1 o2 b d
      split
      · exact sim_nev
      · rename_i hb
        have hb : lastMarks [o1, o2] [b, d] = false := by simpa using hb
        have z := sim_cmp2 (o1 := copOf o1) (o2 := copOf o2) (pos := p) g.un (by rw [copOf_ok, copOf_ok]; exact hb) (he a) (he b) (he d)
        rw [copOf_ok, copOf_ok] at z
        exact z
    · exact sim_nev
  | BoolOp op vs p =>
    unfold stp
    dsimp only
    cases vs with
    | nil => exact sim_nev
    | cons v r => exact (foldB_ok (fun u _ => ⟨S.et g u, S.t g u⟩) (by simp)).1
  | IfExp t a b p => exact sim_ife (S.t g t) (he a) (he b)
  | Subscript a b p =>
    unfold stp
    dsimp only
    split
    · exact sim_slc (he a) (cO_ok he _) (cO_ok he _)
    · exact sim_rev (he a)
    · exact sim_stpL (he a) (simO_some (he _)) (simO_some (he _))
    · split
      · exact sim_nev
      · rename_i hb
        exact sim_sub (plainIx (by simpa using hb)) (he a) (he _)
  | Tuple es k p =>
    unfold stp
    dsimp only
    split
    · rename_i hs; exact sim_tup (simA_map he hs)
    · exact sim_nev
  | List es p =>
    unfold stp
    dsimp only
    split
    · rename_i hs; exact sim_lst (simA_map he hs)
    · exact sim_nev
  | Dict ks vs p =>
    unfold stp
    dsimp only
    split
    · exact sim_dic0
    · exact sim_nev
  | Call fe as kws p =>
    unfold stp
    dsimp only
    split
    · rename_i x q
      split
      · rename_i y hy
        exact cLrg_ok g he hy
      · exact cCall_ok g he
    · rename_i o m apos
      split
      · exact cMet_ok he
      · exact sim_nev
    · exact sim_nev
  | ListComp elt gs scope p =>
    unfold stp
    dsimp only
    split
    · rename_i y hy
      exact cComK_ok S g hy
    rcases cCom_ok (elt := elt) (gs := gs) (scope := scope) S g with h | ⟨tg, iter, ifs, t, xi, xc, xe, own, rfl, h, ok, hs, hi, hg, hm, ht, hel⟩
    · rw [h]; exact sim_nev
    · rw [h]; exact sim_com g.calm g.nd ok hs hi hg hm ht hel
  | _ => unfold stp; exact sim_nev
theorem stp_t {f : Cc → Expr → Ex} (S : Snd G R f) (g : Gd G R X c) (e : Expr) : SimT G X R e (cT (stp f c) e) := by
  have he := S.e g
  by_cases h : ownT e = false
  · have z : cT (stp f c) e = stp f c e := by
      cases e with
      | IfExp => cases h
      | _ => rfl
    rw [z]
    exact simT_of h (stp_e S g e)
  · cases e with
    | UnaryOp op a p =>
      cases op with
      | Not => exact simT_nt (S.t g a)
      | _ => exact absurd rfl h
    | BoolOp op vs p =>
      show SimT G X R _ (foldB op (vs.map (cT (f c))))
      cases vs with
      | nil => exact simT_nev
      | cons v r => exact (foldB_ok (fun u _ => ⟨S.et g u, S.t g u⟩) (by simp)).2.t
    | Compare a ops bs p =>
      show SimT G X R _ (stp f c (.Compare a ops bs p))
      unfold stp
      dsimp only
      split
      · rename_i o b
        split
        · exact simT_nev
        · rename_i hb
          have hb : behindInMarks o b = false := by simpa using hb
          have z := simT_cmp (op := copOf o) (pos := p) g.un (by rw [copOf_ok]; exact hb) (he a) (he b)
          rw [copOf_ok] at z
          exact z
      · rename_i o1 o2 b d
        split
        · exact simT_nev
        · rename_i hb
          have hb : lastMarks [o1, o2] [b, d] = false := by simpa using hb
          have z := simT_cmp2 (o1 := copOf o1) (o2 := copOf o2) (pos := p) g.un (by rw [copOf_ok, copOf_ok]; exact hb) (he a) (he b) (he d)
          rw [copOf_ok, copOf_ok] at z
          exact z
      · exact simT_nev
    | IfExp => exact simT_nev
    | _ => exact absurd rfl h
theorem cE_ok : ∀ n : Nat, Snd G R (cE n)
  | 0 => fun X c g e => ⟨sim_nev, by cases e <;> exact simT_nev⟩
  | n + 1 => fun X c g e => ⟨stp_e (cE_ok n) g e, stp_t (cE_ok n) g e⟩
end
end Ih
end
section
set_option Elab.async false
set_option linter.all false
set_option maxHeartbeats 1000000
namespace Ih
open PySem PySem.Spec PyProof.Rows L2
section
variable {G : Gi} {R : Rt} {X : Cx} {c : Cc}
theorem simS_nev {s : Stmt} : SimS G X R s .nev := fun σ env W φ st H C hx hb => (hb rfl).elim
/-- a value stored at one target -/
def cAsg (f : Cc → Expr → Ex) (c : Cc) (tg e : Expr) : Sx :=
  if swapC [tg] e c.sc = some none then (match cG 100 c tg with
    | some t => .asg t (f c e)
    | none => .nev) else .nev
theorem cAsg_ok {f : Cc → Expr → Ex} (S : Snd G R f) (g : Gd G R X c) {tg e : Expr} {pos : Pos} (hs : swapsWithSole [tg] e pos.line X.env = pure false) : SimS G X R (.Assign [tg] e pos) (cAsg f c tg e) := by
  unfold cAsg
  split
  · rename_i hw
    split
    · rename_i t ht
      have hst : isSt tg = false := by
        cases tg with
        | Starred => unfold cG at ht; cases ht
        | _ => rfl
      exact simS_asg (cG_ok g _ _ _ ht) (S.e g e) hs (by rw [g.sc]; exact hw) hst
    · exact simS_nev
  · exact simS_nev
/-- name = value -/
def cSet (f : Cc → Expr → Ex) (c : Cc) (x : Str) (p : Pos) (e : Expr) : Sx :=
  if isCp e then (match e with
    | .ListComp elt gs scope pos => if swapB c.sc (.ListComp elt gs scope pos) scope x p.line then (match ixB c.N x with
        | some i => if c.sc.names.lookup x = some .local then (match cCom f c elt gs scope with
          | .nev => .nev
          | y => .asg (.nm i) y) else .nev
        | none => .nev) else cAsg f c (.Name x p) (.ListComp elt gs scope pos)
    | _ => .nev) else cAsg f c (.Name x p) e
theorem cSet_ok {f : Cc → Expr → Ex} (S : Snd G R f) (g : Gd G R X c) {x : Str} {p pos : Pos} {e : Expr} : SimS G X R (.Assign [.Name x p] e pos) (cSet f c x p e) := by
  unfold cSet
  split
  · split
    · rename_i elt gs scope ps h
      split
      · rename_i hsw
        split
        · rename_i i hi
          split
          · rename_i hl
            split
            · exact simS_nev
            · rename_i hy
              rcases cCom_ok (elt := elt) (gs := gs) (scope := scope) S g with h | ⟨tg, iter, ifs, t, xi, xc, xe, own, rfl, h, ok, hs, hit, hg, hm, ht, hel⟩
              · exact absurd h hy
              · rw [h]
                exact simS_lc g.calm g.nd (by rw [g.N]; exact ixB_ok hi) (by rw [g.sc]; exact hl) (by rw [g.sc]; exact hsw) ok hs hit hg hm ht hel
          · exact simS_nev
        · exact simS_nev
      · rename_i hsw
        refine cAsg_ok S g ?_
        rw [swapsWithSole, swap_lc, g.sc]
        exact congrArg pure (by simpa using hsw)
    · exact simS_nev
  · rename_i h
    exact cAsg_ok S g (by rw [swapsWithSole]; exact noSwap (by simpa using h))
def cPar (f : Cc → Expr → Ex) (c : Cc) : Expr → Expr → Option Sx
  | .Tuple [.Name x px, .Name y py] kt pt, .Tuple [a, b] k2 p2 => if swapC [.Tuple [.Name x px, .Name y py] kt pt] (.Tuple [a, b] k2 p2) c.sc = some (some [x, y]) ∧ noSt [a, b] = true ∧ c.sc.names.lookup x = some .local ∧ c.sc.names.lookup y = some .local then (match ixB c.N x, ixB c.N y with
    | some i, some j => if i ≠ j then some (.par i j (f c a) (f c b)) else none
    | _, _ => none) else none
  | _, _ => none
theorem cPar_ok {f : Cc → Expr → Ex} (S : Snd G R f) (g : Gd G R X c) {tg e : Expr} {pos : Pos} {s : Sx} (h : cPar f c tg e = some s) : SimS G X R (.Assign [tg] e pos) s := by
  unfold cPar at h
  split at h
  · rename_i x px y py kt pt a b k2 p2
    split at h
    · rename_i q
      obtain ⟨q1, q2, q3, q4⟩ := q
      split at h
      · rename_i i j hi hj
        split at h
        · rename_i hij
          cases h
          exact simS_par g.calm g.nd (by rw [g.N]; exact ixB_ok hi) (by rw [g.N]; exact ixB_ok hj) hij (by rw [g.sc]; exact q3) (by rw [g.sc]; exact q4) (simA_map (S.e g) q2) (by rw [g.sc]; exact q1)
        · cases h
      · cases h
    · cases h
  · cases h
def stpS (f : Cc → Expr → Ex) (fs : Cc → List Stmt → Sxs) (c : Cc) : Stmt → Sx
  | .Expr e _ => (match e with
    | .Constant (.str _) _ _ => .pas
    | e => if isCp e then .nev else .ex (f c e))
  | .Pass _ => .pas
  | .Continue _ => .con
  | .Return e _ => (match e with
    | some e => .ret (f c e)
    | none => .retN)
  | .Assign ts e _ => (match ts with
    | [.Subscript o i _] => if isSl i then .nev else .sst (f c o) (f c i) (f c e)
    | [.Name x p] => cSet f c x p e
    | [.Tuple ts k p] => (match cPar f c (.Tuple ts k p) e with
      | some s => s
      | none => cAsg f c (.Tuple ts k p) e)
    | _ => .nev)
  | .If t a b _ => .ite (cT (f c) t) (fs c a) (fs c b)
  | .For tg it b o _ => (match o with
    | [] => if isSet it then .nev else (match cG 100 c tg with
      | some t => .forE t (cI (f c) c tg it) (fs c b)
      | none => .nev)
    | _ => .nev)
  | .While t b o _ => (match o with
    | [] => .whl (cT (f c) t) (fs c b)
    | _ => .nev)
  | _ => .nev
theorem stpS_ok {f : Cc → Expr → Ex} {fs : Cc → List Stmt → Sxs} (S : Snd G R f) (hfs : ∀ ss, SimSs G X R ss (fs c ss)) (g : Gd G R X c) (hp : PassesOwn (model X.prog X.w) X.A X.env X.xe) (s : Stmt) : SimS G X R s (stpS f fs c s) := by
  cases s with
  | Expr e p =>
    unfold stpS
    dsimp only
    split
    · exact simS_doc
    · split
      · exact simS_nev
      · rename_i h
        exact simS_ex (by simpa using h) (S.e g _)
  | Pass p => exact simS_pas
  | Continue p => exact simS_con
  | Return e p =>
    cases e with
    | none => exact simS_retN
    | some e => exact simS_ret (S.e g e)
  | Assign ts e p =>
    unfold stpS
    dsimp only
    split
    · split
      · exact simS_nev
      · rename_i h
        exact simS_sst (S.e g _) (S.e g _) (S.e g _) (by simpa using h)
    · exact cSet_ok S g
    · rename_i ts k q
      split
      · rename_i s h
        exact cPar_ok S g h
      · exact cAsg_ok S g (by cases e <;> rfl)
    · exact simS_nev
  | If t a b p => exact simS_ite (S.t g t) (hfs a) (hfs b)
  | For tg it b o p =>
    unfold stpS
    dsimp only
    split
    · split
      · exact simS_nev
      · rename_i h
        split
        · rename_i t ht
          exact simS_for hp g.calm (noSet (by simpa using h) X.env) (cI_ok g (S.e g) it) (cG_ok g _ _ _ ht) (cG_tp g ht) (hfs b)
        · exact simS_nev
    · exact simS_nev
  | While t b o p =>
    unfold stpS
    dsimp only
    split
    · exact simS_whl hp (S.t g t) (hfs b)
    · exact simS_nev
  | _ => unfold stpS; exact simS_nev
def mapS (h : Stmt → Sx) : List Stmt → Sxs
  | [] => .nil
  | s :: ss => .cons (h s) (mapS h ss)
theorem mapS_ok {h : Stmt → Sx} (hh : ∀ s, SimS G X R s (h s)) : ∀ ss : List Stmt, SimSs G X R ss (mapS h ss)
  | [] => simSs_nil
  | s :: ss => simSs_cons (hh s) (mapS_ok hh ss)
theorem simSs_nev {ss : List Stmt} : SimSs G X R ss (.cons .nev .nil) := fun σ env W φ st H C hx hb => (hb rfl).elim
def cSs (m : Nat) : Nat → Cc → List Stmt → Sxs
  | 0, _, _ => .cons .nev .nil
  | n + 1, c, ss => mapS (stpS (cE m) (cSs m n) c) ss
theorem cSs_ok (m : Nat) (g : Gd G R X c) (hp : PassesOwn (model X.prog X.w) X.A X.env X.xe) : ∀ (n : Nat) (ss : List Stmt), SimSs G X R ss (cSs m n c ss)
  | 0, _ => simSs_nev
  | n + 1, ss => mapS_ok (stpS_ok (cE_ok m) (cSs_ok m g hp n) g hp) ss
end
/-- a def as it is given: its name, qualified name, parameters, body and scope -/
structure Df where
  x : Str
  q : Str
  ar : Arguments
  body : List Stmt
  sc : Scope
  /-- the global name by which it is called -/
  y : Str
def Df.ps (d : Df) : List Str := d.ar.args.map (·.arg)
/-- the names of the comprehensions of an expression, of statements -/
def nmE : Nat → Expr → List Str
  | 0, _ => []
  | n + 1, e => match e with
    | .BoolOp _ vs _ => vs.flatMap (nmE n)
    | .BinOp a _ b _ => nmE n a ++ nmE n b
    | .UnaryOp _ a _ => nmE n a
    | .IfExp a b d _ => nmE n a ++ nmE n b ++ nmE n d
    | .Compare a _ bs _ => nmE n a ++ bs.flatMap (nmE n)
    | .Call a as kws _ => nmE n a ++ as.flatMap (nmE n) ++ kws.flatMap fun k => nmE n k.value
    | .Attribute a _ _ => nmE n a
    | .Subscript a b _ => nmE n a ++ nmE n b
    | .Starred a _ => nmE n a
    | .List es _ => es.flatMap (nmE n)
    | .Tuple es _ _ => es.flatMap (nmE n)
    | .Slice a b d _ => [a, b, d].flatMap fun o => match o with
      | some e => nmE n e
      | none => []
    | .ListComp elt gs sc _ => (sc.names.filter fun p => p.2 == .local || p.2 == .cell).map (·.1) ++ nmE n elt ++ gs.flatMap fun g => match g with
      | ⟨_, it, ifs, _⟩ => nmE n it ++ ifs.flatMap (nmE n)
    | .DictComp k v gs sc _ => (sc.names.filter fun p => p.2 == .local || p.2 == .cell).map (·.1) ++ nmE n k ++ nmE n v ++ gs.flatMap fun g => match g with
      | ⟨_, it, ifs, _⟩ => nmE n it ++ ifs.flatMap (nmE n)
    | _ => []
def nmS : Nat → Stmt → List Str
  | 0, _ => []
  | n + 1, s => match s with
    | .Expr e _ => nmE 60 e
    | .Return (some e) _ => nmE 60 e
    | .Assign ts e _ => ts.flatMap (nmE 60) ++ nmE 60 e
    | .AugAssign t _ e _ => nmE 60 t ++ nmE 60 e
    | .If t a b _ => nmE 60 t ++ a.flatMap (nmS n) ++ b.flatMap (nmS n)
    | .For _ it a b _ => nmE 60 it ++ a.flatMap (nmS n) ++ b.flatMap (nmS n)
    | .While t a b _ => nmE 60 t ++ a.flatMap (nmS n) ++ b.flatMap (nmS n)
    | .Try a hs b d _ => a.flatMap (nmS n) ++ b.flatMap (nmS n) ++ d.flatMap (nmS n)
    | _ => []
def addN : List Str → List Str → List Str
  | acc, [] => acc
  | acc, x :: r => addN (if acc.contains x then acc else acc ++ [x]) r
/-- the names of a def: its parameters, its locals, its comprehensions' -/
def Df.N (d : Df) : List Str := addN d.ps ((d.sc.names.filter fun p => p.2 == .local || p.2 == .cell).map (·.1) ++ d.body.flatMap (nmS 60))
def Df.okB (d : Df) : Bool := d.sc.kind == .function && !d.sc.isCoroutine && !d.sc.isGenerator && decide d.N.Nodup && decide (d.N.take d.ps.length = d.ps) && (d.ps.all fun x => locB d.sc x) && (d.sc.names.all fun y => y.2 != .free) &&
  d.ar.posonlyargs.isEmpty && d.ar.vararg.isNone && d.ar.kwonlyargs.isEmpty && d.ar.kwarg.isNone && decide d.ps.Nodup
theorem Df.scope_ok {d : Df} (h : d.okB = true) : FnScope d.N d.ps d.sc := by
  unfold Df.okB at h
  simp only [Bool.and_eq_true, decide_eq_true_eq, List.all_eq_true] at h
  obtain ⟨⟨⟨⟨⟨⟨⟨⟨⟨⟨⟨h1, h2⟩, h3⟩, h4⟩, h5⟩, h6⟩, h7⟩, h8⟩, h9⟩, h10⟩, h11⟩, h12⟩ := h
  exact ⟨eq_of_beq h1, by simpa using h2, by simpa using h3, h4, h5, fun x hx => locB_ok (h6 x hx), fun y hy => by simpa using h7 y hy⟩
theorem Df.plain_ok {d : Df} (h : d.okB = true) : PlainPs d.ar d.ps := by
  unfold Df.okB at h
  simp only [Bool.and_eq_true, decide_eq_true_eq, List.all_eq_true] at h
  obtain ⟨⟨⟨⟨⟨⟨⟨⟨⟨⟨⟨h1, h2⟩, h3⟩, h4⟩, h5⟩, h6⟩, h7⟩, h8⟩, h9⟩, h10⟩, h11⟩, h12⟩ := h
  exact ⟨by simpa using h8, by simpa using h9, by simpa using h10, by simpa using h11, rfl, h12⟩
/-- the table of the defs' places -/
def tabOf : Nat → List Df → List (Str × (Nat × List Str))
  | _, [] => []
  | n, d :: r => if d.okB then (d.y, (n, d.ps)) :: tabOf (n + 1) r else tabOf (n + 1) r
def Df.cc (d : Df) (T : List (Str × (Nat × List Str))) (blt : List Str) : Cc := ⟨d.N, d.sc, none, T, blt⟩
def Df.fn (T : List (Str × (Nat × List Str))) (blt : List Str) (d : Df) : Fn := if d.okB then ⟨d.ps.length, d.N.length, cSs 60 60 (d.cc T blt) d.body⟩ else ⟨0, 0, .cons .nev .nil⟩
/-- the whole text -/
def fnsOf (blt : List Str) (ds : List Df) : List Fn := ds.map (Df.fn (tabOf 0 ds) blt)
theorem tab_look {x : Str} {n : Nat} {ps : List Str} : ∀ {ds : List Df} {m : Nat}, (tabOf m ds).lookup x = some (n, ps) → ∃ d, m ≤ n ∧ ds[n - m]? = some d ∧ d.y = x ∧ d.ps = ps ∧ d.okB = true
  | [], m, h => by cases h
  | d :: r, m, h => by
    have rest : (tabOf (m + 1) r).lookup x = some (n, ps) → ∃ d', m ≤ n ∧ (d :: r)[n - m]? = some d' ∧ d'.y = x ∧ d'.ps = ps ∧ d'.okB = true := fun h => by
      obtain ⟨d', h1, h2, h3, h4⟩ := tab_look h
      refine ⟨d', by omega, ?_, h3, h4⟩
      have e : n - m = (n - (m + 1)) + 1 := by omega
      rw [e]
      exact h2
    unfold tabOf at h
    split at h
    · rename_i hok
      rw [List.lookup_cons] at h
      split at h
      · rename_i e
        cases h
        exact ⟨d, Nat.le_refl _, by rw [Nat.sub_self]; rfl, (eq_of_beq e).symm, rfl, hok⟩
      · exact rest h
    · exact rest h
/-- the defs of a linked text: each by its last name, and by the names that are given to it later -/
def dsGo : List Df → List Stmt → List Df
  | acc, [] => acc
  | acc, .FunctionDef n a b _ _ _ sc _ _ _ :: r => dsGo (acc.filter (fun d => d.y != n) ++ [⟨n, n, a, b, sc, n⟩]) r
  | acc, .Assign [.Name y _] (.Name x _) _ :: r => dsGo (match acc.find? fun d => d.y == x with
    | some d => acc.filter (fun d => d.y != y) ++ [⟨d.x, d.q, d.ar, d.body, d.sc, y⟩]
    | none => acc) r
  | acc, _ :: r => dsGo acc r
def dsOf (p : Program) : List Df := dsGo [] p.main.body
end Ih
end
section
set_option Elab.async false
set_option linter.all false
set_option maxHeartbeats 1000000
namespace Ih
open PySem PySem.Spec PyProof.Rows L2
/-- what the head tells of the defs -/
structure Facts (G : Gi) (K : PySem.W.Frag) (mg : Str → Option Value) (ds : List Df) (blt : List Str) : Prop where
  def_ : ∀ (n : Nat) (d : Df), ds[n]? = some d → ∃ fd, FunD K d.x d.q d.ar d.body d.sc [] [] (G.fA n) fd
  mgd : ∀ (n : Nat) (d : Df), ds[n]? = some d → mg d.y = some (.ref (G.fA n))
  blt : ∀ x, blt.contains x = true → mg x = none
theorem funD_plain {K : PySem.W.Frag} {d : Df} {f : Addr} {fd : FuncData} (F : FunD K d.x d.q d.ar d.body d.sc [] [] f fd) (h : d.okB = true) : PlainPs fd.params d.ps ∧ fd.defaults = .none := by
  obtain ⟨oc, od, dV, kV, doc, pm, an, cdv, ct, osl, rfl, lk, hcd, hD, hK⟩ := F.ex
  refine ⟨Df.plain_ok h, ?_⟩
  rcases hD with ⟨_, rfl⟩ | ⟨e, _⟩
  · rfl
  · exact absurd rfl e
theorem start_toS {G : Gi} {φ : List Addr} {N : List Str} {xs : List HV} {m : Nat} (hm : m = xs.length) : toS G φ (xs.map some ++ List.replicate (N.length - m) none) = L2.start N (xs.map (toV G φ)) := by
  subst hm
  unfold toS L2.start
  rw [List.map_append, List.map_replicate, List.map_map, List.map_map, List.length_map]
  rfl
section
variable {P : Program} {w : World} {G : Gi} {K : PySem.W.Frag} {mg : Str → Option Value} {base : Heap} {ds : List Df} {blt : List Str}
theorem fns_ok (F : Facts G K mg ds blt) : ∀ (k n : Nat) (d : Df) (fd : FuncData), ds[n]? = some d → d.okB = true → FunD K d.x d.q d.ar d.body d.sc [] [] (G.fA n) fd → FnOk P w K mg base (L2.CX P w) k (G.fA n) fd d.ps (spH G K (runH (fnsOf blt ds) k n) d.ps.length)
  | 0, n, d, fd, hd, hok, FD => ⟨fun vs H Q E ⟨φ, st, xs, _, _, e, l, _⟩ => by rw [e, List.length_map]; exact l, fun A outer s H args us vs Q E _ _ _ _ ⟨φ, st, xs, _, _, _, _, hb, _⟩ => (hb rfl).elim⟩
  | k + 1, n, d, fd, hd, hok, FD => by
    refine FD.ok (Df.scope_ok hok) (fun vs H Q E ⟨φ, st, xs, _, _, e, l, _⟩ => by rw [e, List.length_map]; exact l) fun cdv A outer s H vs Q E hr hsp => ?_
    obtain ⟨φ, st, xs, rel, wf, rfl, hl, hb, hpost, hexc⟩ := hsp
    refine ⟨tUSs _ d.body, pss_tU, ?_⟩
    have hT : (fnsOf blt ds)[n]? = some (d.fn (tabOf 0 ds) blt) := by
      unfold fnsOf
      rw [List.getElem?_map, hd]
      rfl
    have hF : d.fn (tabOf 0 ds) blt = ⟨d.ps.length, d.N.length, cSs 60 60 (d.cc (tabOf 0 ds) blt) d.body⟩ := by
      unfold Df.fn
      rw [if_pos hok]
    rw [hF] at hT
    have sc := Df.scope_ok hok
    have hpl : d.ps.length ≤ d.N.length := by
      have := congrArg List.length sc.pre
      rw [List.length_take] at this
      omega
    have er : ∀ st, runH (fnsOf blt ds) (k + 1) n xs st = (exSs (runH (fnsOf blt ds) k) (cSs 60 60 (d.cc (tabOf 0 ds) blt) d.body) (xs.map some ++ List.replicate (d.N.length - d.ps.length) none) st).andThen fun f s => (match f with
      | .rt v => ret v
      | .nx _ => ret .non
      | .ct _ => bad
      | .xc _ c p => fun st => .exc c p st) s := fun st => by
      unfold runH
      rw [hT]
      dsimp only
      rw [if_pos ⟨hl, hpl⟩]
      rfl
    have g : Gd G (runH (fnsOf blt ds) k) (cxOf (L2.CX P w) P w K mg base d.N d.q d.sc (G.fA n) cdv A outer s H E) (d.cc (tabOf 0 ds) blt) := by
      refine ⟨rfl, sc.nd, rfl, rfl, ?_, fun _ _ _ => rfl, fun x m ps h => ?_, F.blt⟩
      · have := hr.un
        show (A.deeper (envOfC d.q d.sc s.heap.objs.size (G.fA n) cdv)).units + 65 < cLine
        omega
      · obtain ⟨d', _, h2, h3, h4, h5⟩ := tab_look h
        rw [Nat.sub_zero] at h2
        obtain ⟨fd', FD'⟩ := F.def_ m d' h2
        subst h3 h4
        exact ⟨F.mgd m d' h2, FD'.kp, fd', k, hr, funD_plain FD' h5, fns_ok F k m d' fd' h2 h5 FD'⟩
    have body := cSs_ok 60 g (passes_of rfl) 60 d.body
    rw [er] at hb
    have hwf : wfE st.length (xs.map some ++ List.replicate (d.N.length - d.ps.length) none) := fun v hv => by
      rcases List.mem_append.mp hv with h | h
      · obtain ⟨y, hy, e⟩ := List.mem_map.mp h
        cases e
        exact wf _ hy
      · exact absurd (List.eq_of_mem_replicate h) (by simp)
    have C : Cf G (cxOf (L2.CX P w) P w K mg base d.N d.q d.sc (G.fA n) cdv A outer s H E) (L2.start d.N (xs.map (toV G φ))) (xs.map some ++ List.replicate (d.N.length - d.ps.length) none) (fun cls d _ H => E cls d H) φ st H :=
      ⟨takes_of rfl rfl rfl rfl, rel, (start_toS hl.symm).symm, hwf⟩
    refine tUSs_mono (body _ _ _ φ st H C (fun env' c p st' hr1 φ' H' cls dd R' E' wp we ei => ?_) (nb_fst hb)) ⟨?_, ?_, fun _ _ h => h.elim, ?_⟩
    · exact hexc c p st' φ' H' cls dd (by rw [er, hr1]; rfl) R' E' wp ei
    · rintro σ' H' ⟨env', st', φ', e1, r1, x1, w1, _⟩
      exact hpost _ _ ⟨.non, st', φ', by rw [er, e1]; rfl, r1, x1, True.intro, rfl⟩
    · rintro σ' H' ⟨env', st', φ', e1, _⟩
      refine (hb ?_).elim
      rw [e1]
      rfl
    · rintro v' H' ⟨v, st', φ', e1, r1, x1, w1, ev⟩
      exact hpost _ _ ⟨v, st', φ', by rw [er, e1]; rfl, r1, x1, w1, ev⟩
/-- a script's place -/
theorem sp_script {H : Hp} {a : Addr} {ns : List Int} (hO : Only H) (hS : SqL K H a (ns.map V.int)) {f : List HV → M HV} {st' : Hs} (h : f [.ref 0] [.fro (ns.map HV.int)] = .ok (.bl true) st') : spH G K f 1 [.ref a] H (fun v _ => v = .bl true) (fun _ _ _ => False) := by
  have em : (ns.map HV.int).map (toV G [a]) = ns.map V.int := by rw [List.map_map]; rfl
  have fr : FroOk K H a ((ns.map HV.int).map (toV G [a])) := by
    rw [em]
    rcases hS with h | h
    · rcases h with h | ⟨o, h⟩
      · rcases hO a with z | ⟨o, xs, z⟩
        · rw [z] at h; cases h
        · rw [z] at h; cases h
      · exact .inl ⟨o, h⟩
    · exact .inr h
  have get : ∀ (n : Nat) (c : Cel), [Cel.fro (ns.map HV.int)][n]? = some c → n = 0 ∧ c = .fro (ns.map HV.int) := fun n c e => by
    cases n with
    | zero => cases e; exact ⟨rfl, rfl⟩
    | succ n => cases e
  refine ⟨[a], [.fro (ns.map .int)], [.ref 0], ⟨rfl, fun n c b e1 e2 => ?_, fun n c e => ?_, fun m n b c d e1 e2 e3 e4 l1 l2 => ?_⟩, fun x hx => ?_, rfl, rfl, (by rw [h]; exact fun z => nomatch z), fun v' H' ⟨v, st2, φ', e, _, _, _, ev⟩ => ?_, fun c p st2 φ' H' cls d e => (by rw [h] at e; cases e)⟩
  · obtain ⟨rfl, rfl⟩ := get n c e1
    cases e2
    exact fr
  · obtain ⟨rfl, rfl⟩ := get n c e
    intro x hx
    obtain ⟨i, _, rfl⟩ := List.mem_map.mp hx
    exact True.intro
  · obtain ⟨_, rfl⟩ := get m c e3
    exact l1.elim
  · cases List.mem_singleton.mp hx
    exact Nat.zero_lt_one
  · rw [h] at e
    cases e
    exact ev
end
end Ih
end
section
set_option Elab.async false
set_option linter.all false
namespace Ih
open PySem
inductive D where
  | non | bl (b : Bool) | int (i : Int) | str (s : Str) | fn (g : Nat)
  | lst (xs : List D) | tup (xs : List D) | dic0 | scr (ns : List Int) | stm
  deriving Inhabited
/-- what a name holds: a value that is never changed, or a list that no other thing holds -/
inductive PV where
  | sh (d : D) | ow (xs : List D)
abbrev Sst := Option (List Int × Int × Int × Int)
structure Ps where
  env : List (Option PV)
  sm : Sst
inductive PRes (α : Type) where
  | ok (a : α) (s : Ps)
  | exc (c : Nat) (p : Option D) (s : Ps)
  | bad
abbrev PM α := Ps → PRes α
def pret {α : Type} (a : α) : PM α := fun s => .ok a s
def pbad {α : Type} : PM α := fun _ => .bad
def pbnd {α β : Type} (m : PM α) (f : α → PM β) : PM β := fun s => match m s with
  | .ok a s1 => f a s1
  | .exc c p s1 => .exc c p s1
  | .bad => .bad
def pof {α : Type} : Option α → PM α
  | some a => pret a
  | none => pbad
/-- an operand that is only looked at: a value, or a name that holds a list of its own -/
inductive Od where
  | val (d : D) | own (i : Nat)
def rdV (env : List (Option PV)) : Od → Option D
  | .val d => some d
  | .own i => (match env[i]? with
    | some (some (.ow xs)) => some (.lst xs)
    | some (some (.sh d)) => some d
    | _ => none)
def rdVs (env : List (Option PV)) : List Od → Option (List D)
  | [] => some []
  | o :: r => (match rdV env o, rdVs env r with
    | some d, some ds => some (d :: ds)
    | _, _ => none)
def rdO (o : Od) : PM D := fun s => pof (rdV s.env o) s
def rdOs (os : List Od) : PM (List D) := fun s => pof (rdVs s.env os) s
/-- the name holds no list of its own any longer -/
def frz1 (env : List (Option PV)) (i : Nat) : List (Option PV) := match env[i]? with
  | some (some (.ow xs)) => env.set i (some (.sh (.lst xs)))
  | _ => env
def frzE : List Od → List (Option PV) → List (Option PV)
  | [], env => env
  | .own i :: r, env => frzE r (frz1 env i)
  | .val _ :: r, env => frzE r env
def D.atom : D → Bool
  | .lst _ => false
  | .tup _ => false
  | .dic0 => false
  | .scr _ => false
  | .stm => false
  | _ => true
def PV.d : PV → D
  | .sh d => d
  | .ow xs => .lst xs
mutual
def D.py : D → Option PyData
  | .non => some .none
  | .bl b => some (.bool b)
  | .int i => some (.int i)
  | .str s => some (.str s)
  | .lst xs => (D.pys xs).map .list
  | .tup xs => (D.pys xs).map .tuple
  | _ => none
def D.pys : List D → Option (List PyData)
  | [] => some []
  | x :: r => (match D.py x, D.pys r with
    | some p, some ps => some (p :: ps)
    | _, _ => none)
end
mutual
/-- what a deep look takes -/
def D.need : D → Nat
  | .lst xs => D.needs xs + 1
  | .tup xs => D.needs xs + 1
  | _ => 1
def D.needs : List D → Nat
  | [] => 1
  | x :: r => max (D.need x) (D.needs r) + 1
end
def D.look (d : D) : Option PyData := if d.need ≤ deepN then (match d.py with
  | some p => if SeqAt.shaped p then some p else none
  | none => none) else none
def intsD : List D → Option (List Int)
  | [] => some []
  | .int i :: r => (intsD r).map (i :: ·)
  | _ => none
def blsD : List D → Option (List Bool)
  | [] => some []
  | .bl i :: r => (blsD r).map (i :: ·)
  | _ => none
def binP (op : Bop) (a b : D) : Option PV := match op, a, b with
  | .add, .int i, .int j => some (.sh (.int (i + j)))
  | .sub, .int i, .int j => some (.sh (.int (i - j)))
  | .mul, .int i, .int j => if small64 i || small64 j then some (.sh (.int (i * j))) else none
  | .fdv, .int i, .int j => if decide (0 < j) && ltZ j 1073741824 then some (.sh (.int (i / j))) else none
  | .mod, .int i, .int j => if decide (0 < j) then some (.sh (.int (i % j))) else none
  | .pow, .int i, .int j => if decide (0 ≤ j) && (ltZ j 1000001 && decide (i.natAbs < 2 ^ 64)) then some (.sh (.int (i ^ j.toNat))) else none
  | .shl, .int i, .int j => if decide (0 ≤ j) && (ltZ j 1000001 && decide (i.natAbs < 2 ^ 64)) then some (.sh (.int (i * 2 ^ j.toNat))) else none
  | .add, .lst xs, .lst ys => if xs.length + ys.length ≤ sizeLine then some (.ow (xs ++ ys)) else none
  | .mul, .lst xs, .int k => if geZ (2 ^ 63) k && (ltZ k (2 ^ 63) && decide (xs.length * k.toNat ≤ sizeLine)) then some (.ow (List.replicate k.toNat xs).flatten) else none
  | _, _, _ => none
def D.isNon : D → Bool
  | .non => true
  | _ => false
def D.flat : D → Option PyData
  | .non => some .none
  | .bl b => some (.bool b)
  | .int i => some (.int i)
  | .str s => some (.str s)
  | _ => none
def flatsD : List D → Option (List PyData)
  | [] => some []
  | x :: r => (match x.flat, flatsD r with
    | some d, some ds => some (d :: ds)
    | _, _ => none)
def prsD : List D → Option (List (Int × Int))
  | [] => some []
  | x :: r => (match x, prsD r with
    | .tup [.int a, .int b], some ps => some ((a, b) :: ps)
    | _, _ => none)
def prD (p : Int × Int) : D := .tup [.int p.1, .int p.2]
def cmpP (op : Cop) (a b : D) : Option Bool := match op, a, b with
  | .lt, .int i, .int j => some (decide (i < j))
  | .le, .int i, .int j => some (decide (i ≤ j))
  | .gt, .int i, .int j => some (decide (j < i))
  | .ge, .int i, .int j => some (decide (j ≤ i))
  | .is, a, .non => some a.isNon
  | .isn, a, .non => some (!a.isNon)
  | .eq, a, b => (match a.look, b.look with
    | some d, some e => some (PyData.eqv d e)
    | _, _ => none)
  | .ne, a, b => (match a.look, b.look with
    | some d, some e => some (!PyData.eqv d e)
    | _, _ => none)
  | .inn, a, .tup xs => (match a.flat, flatsD xs with
    | some d, some ds => some (ds.any fun z => PyData.eqv z d)
    | _, _ => none)
  | .nin, a, .tup xs => (match a.flat, flatsD xs with
    | some d, some ds => some (!ds.any fun z => PyData.eqv z d)
    | _, _ => none)
  | .inn, a, b => (match a.look, b.look with
    | some d, some (.list ds) => some (ds.any fun z => PyData.eqv z d)
    | _, _ => none)
  | .nin, a, b => (match a.look, b.look with
    | some d, some (.list ds) => some (!ds.any fun z => PyData.eqv z d)
    | _, _ => none)
  | _, _, _ => none
def D.items : D → Option (List D)
  | .lst xs => some xs
  | .tup xs => some xs
  | _ => none
def subP (a i : D) : Option D := match a, i with
  | .str z, .int i => if z.length ≤ sizeLine then (L2.atI z.cps.toList i).map fun c => .str ⟨#[c]⟩ else none
  | .lst xs, .int i => L2.atI xs i
  | .tup xs, .int i => L2.atI xs i
  | _, _ => none
def slcP (a : D) (lo hi : Option Int) : Option PV := match a with
  | .lst xs => some (.ow (cutL xs lo hi))
  | .tup xs => some (.sh (.tup (cutL xs lo hi)))
  | _ => none
def stpP (a : D) (l k : Option Int) : Option PV := match a, l, k with
  | .lst xs, some i, some j => if decide (0 ≤ i) && decide (1 ≤ j) then some (.ow (stepL xs i.toNat j.toNat)) else none
  | _, _, _ => none
def truP : D → Option Bool
  | .non => some false
  | .bl b => some b
  | .int i => some (i != 0)
  | .str s => if s.length ≤ sizeLine then some ((s.length : Int) != 0) else none
  | .lst xs => some (!xs.isEmpty)
  | .tup xs => some (!xs.isEmpty)
  | .dic0 => some false
  | _ => none
def tyP : D → Option Ty
  | .bl _ => some .bl
  | .int _ => some .int
  | .str _ => some .str
  | .lst _ => some .lst
  | .tup _ => some .tup
  | .dic0 => some .dic
  | _ => none
def isiP (d : D) (ts : List Ty) : Option Bool := match d with
  | .non => some false
  | d => (tyP d).map fun t => ts.any (isTy t)
def rgD (a b : Int) : List D := (List.range (b - a).toNat).map fun i => D.int (a + (i : Nat))
def biP (b : Bi) (xs : List D) : Option PV := match b, xs with
  | .len, [.str s] => if s.length ≤ sizeLine then some (.sh (.int s.length)) else none
  | .len, [a] => a.items.map fun xs => .sh (.int xs.length)
  | .abs, [.int i] => some (.sh (.int (if i < 0 then -i else i)))
  | .int, [.int i] => some (.sh (.int i))
  | .int, [.bl k] => some (.sh (.int (if k then 1 else 0)))
  | .max2, [.int i, .int j] => some (.sh (.int (if j > i then j else i)))
  | .min2, [.int i, .int j] => some (.sh (.int (if j < i then j else i)))
  | .lrg1, [.int j] => if rgOk 0 j then some (.ow (rgD 0 j)) else none
  | .lrg2, [.int i, .int j] => if rgOk i j then some (.ow (rgD i j)) else none
  | .sum, [.lst xs] => (intsD xs).map fun ns => .sh (.int ns.sum)
  | .any, [.lst xs] => (blsD xs).map fun ns => .sh (.bl (ns.any id))
  | .all, [.lst xs] => (match blsD xs with
    | some ns => some (.sh (.bl (ns.all id)))
    | none => (intsD xs).map fun ns => .sh (.bl (ns.all fun i => i != 0)))
  | .max1, [.lst xs] => (match intsD xs with
    | some (n :: ns) => some (.sh (.int (maxI n ns)))
    | _ => none)
  | .min1, [.lst xs] => (match intsD xs with
    | some (n :: ns) => some (.sh (.int (minI n ns)))
    | _ => none)
  | .list, [a] => a.items.map .ow
  | .tuple, [a] => a.items.map fun xs => .sh (.tup xs)
  | .sorted, [.lst xs] => (match intsD xs with
    | some ns => some (.ow ((sortI ns).map .int))
    | none => (prsD xs).map fun ps => .ow ((sortK (fun p => p) ps).map prD))
  | .dict, [.lst []] => some (.sh .dic0)
  | .litm, [.dic0] => some (.ow [])
  | _, _ => none
/-- a method of a list of its own: what it returns, what it leaves -/
def metP (m : Me) (xs ys : List D) : Option (D × List D) := match m, ys with
  | .append, [y] => if xs.length < sizeLine then some (.non, xs ++ [y]) else none
  | .extend, [.lst zs] => if xs.length + zs.length ≤ sizeLine then some (.non, xs ++ zs) else none
  | .pop0, [] => (match xs[xs.length - 1]? with
    | some y => some (y, xs.dropLast)
    | none => none)
  | .popi, [.int i] => if geZ (2 ^ 63) i && ltZ i (2 ^ 63) then (match seqIndex? i xs.length with
      | some k => (match xs[k]? with
        | some y => some (y, xs.eraseIdx k)
        | none => none)
      | none => none) else none
  | _, _ => none
mutual
def occE (i : Nat) : Ex → Bool
  | .var j => i == j
  | .bin _ a b => occE i a || occE i b
  | .neg a => occE i a
  | .nt a => occE i a
  | .and a b => occE i a || occE i b
  | .or a b => occE i a || occE i b
  | .ife c a b => occE i c || occE i a || occE i b
  | .cmp _ a b => occE i a || occE i b
  | .cmp2 _ _ a b c => occE i a || occE i b || occE i c
  | .sub a b => occE i a || occE i b
  | .slc a lo hi => occE i a || occO i lo || occO i hi
  | .rev a => occE i a
  | .stpL a lo hi => occE i a || occO i lo || occO i hi
  | .tup es => occEs i es
  | .lst es => occEs i es
  | .call _ es => occEs i es
  | .callK _ es _ => occEs i es
  | .bi _ es => occEs i es
  | .isi a _ => occE i a
  | .met _ a es => occE i a || occEs i es
  | .com _ it cs e own => occI i it || occEs i cs || occE i e || own.contains i
  | _ => false
def occEs (i : Nat) : Exs → Bool
  | .nil => false
  | .cons a r => occE i a || occEs i r
def occO (i : Nat) : Exo → Bool
  | .none => false
  | .some a => occE i a
def occI (i : Nat) : It → Bool
  | .seq a => occE i a
  | .key j => i == j
  | .rng1 a => occE i a
  | .rng2 a b => occE i a || occE i b
  | .enm a => occE i a
  | .zip a b => occE i a || occE i b
end
def occT : Nat → Tg → Bool
  | i, .nm j => i == j
  | i, .tp ts => occTs i ts
where occTs : Nat → List Tg → Bool
  | _, [] => false
  | i, t :: r => occT i t || occTs i r
mutual
def occS (i : Nat) : Sx → Bool
  | .ex e => occE i e
  | .asg t e => occT i t || occE i e
  | .par j k a b => i == j || i == k || occE i a || occE i b
  | .sst o j e => occE i o || occE i j || occE i e
  | .ret e => occE i e
  | .ite c a b => occE i c || occSs i a || occSs i b
  | .forE t it b => occT i t || occI i it || occSs i b
  | .whl c b => occE i c || occSs i b
  | _ => false
def occSs (i : Nat) : Sxs → Bool
  | .nil => false
  | .cons s r => occS i s || occSs i r
end
end Ih
end
section
set_option Elab.async false
set_option linter.all false
namespace Ih
open PySem
inductive FRes where
  | ok (d : D) (sm : Sst)
  | exc (c : Nat) (p : Option D) (sm : Sst)
  | bad
abbrev Rp := Nat → List D → Sst → FRes
/-- an expression as an operand -/
def opd (e : Ex) (m : PM PV) : PM Od := match e with
  | .var i => fun s => (match s.env[i]? with
    | some (some (.ow _)) => .ok (.own i) s
    | some (some (.sh d)) => .ok (.val d) s
    | _ => .bad)
  | _ => pbnd m fun v => pret (.val v.d)
def tst (e : Ex) (m : PM PV) : PM Bool := pbnd (opd e m) fun o => pbnd (rdO o) fun d => pof (truP d)
def shr (m : PM PV) : PM D := pbnd m fun v => pret v.d
def varP (i : Nat) : PM PV := fun s => match s.env[i]? with
  | some (some (.sh d)) => .ok (.sh d) s
  | some (some (.ow xs)) => .ok (.sh (.lst xs)) { s with env := frz1 s.env i }
  | _ => .bad
/-- a call: operands are lent; they are no longer their names' own where what comes back may hold them -/
def lend (os : List Od) (call : Sst → FRes) : PM PV := fun s => match call s.sm with
  | .ok d sm => if d.atom then .ok (.sh d) { s with sm := sm } else .ok (.sh d) ⟨frzE os s.env, sm⟩
  | .exc c p sm => .exc c p ⟨frzE os s.env, sm⟩
  | .bad => .bad
inductive PIv where
  | one (d : D) | many (ds : List D)
mutual
def asgP : Tg → D → List (Option PV) → Option (List (Option PV))
  | .nm i, d, env => if i < env.length then some (env.set i (some (.sh d))) else none
  | .tp ts, d, env => (match d with
    | .tup xs => if xs.length = ts.length then asgsP ts xs env else none
    | _ => none)
def asgsP : List Tg → List D → List (Option PV) → Option (List (Option PV))
  | [], [], env => some env
  | t :: ts, x :: xs, env => (match asgP t x env with
    | some env' => asgsP ts xs env'
    | none => none)
  | _, _, _ => none
end
def asgIP (tg : Tg) (y : PIv) (env : List (Option PV)) : Option (List (Option PV)) := match y with
  | .one d => asgP tg d env
  | .many ds => (match tg with
    | .tp ts => if ds.length = ts.length then asgsP ts ds env else none
    | .nm _ => none)
mutual
def tgIn (own : List Nat) : Tg → Bool
  | .nm i => own.contains i
  | .tp ts => tgsIn own ts
def tgsIn (own : List Nat) : List Tg → Bool
  | [] => true
  | t :: r => tgIn own t && tgsIn own r
end
def wipeP (env : List (Option PV)) : List Nat → List (Option PV)
  | [] => env
  | i :: r => (wipeP env r).set i none
/-- the names of a block get back what they held -/
def backP (env0 : List (Option PV)) (env : List (Option PV)) : List Nat → List (Option PV)
  | [] => env
  | i :: r => (backP env0 env r).set i (env0[i]?.getD none)
/-- a walked operand -/
def walkP (occ : Nat → Bool) (o : Od) : PM D := match o with
  | .own i => if occ i then (fun s => rdO (.own i) { s with env := frz1 s.env i }) else rdO (.own i)
  | o => rdO o
def onesP (ds : List D) : List PIv := ds.map .one
def enmP : Nat → List D → List PIv
  | _, [] => []
  | n, x :: r => .many [.int n, x] :: enmP (n + 1) r
def zipP : List D → List D → List PIv
  | x :: xs, y :: ys => .many [x, y] :: zipP xs ys
  | _, _ => []
def rngP (a b : D) : Option (List PIv) := match a, b with
  | .int i, .int j => if geZ (2 ^ 62) i && (ltZ i (2 ^ 62) && (geZ (2 ^ 62) j && ltZ j (2 ^ 62))) then some (onesP (rgD i j)) else none
  | _, _ => none
/-- the turns of a comprehension; k: what it has so far -/
def comP (tg : Tg) (own : List Nat) (cond : PM Bool) (elt : PM D) : Nat → List PIv → PM (List D)
  | _, [] => pret []
  | k, x :: r => fun s => match asgIP tg x s.env with
    | some env' => (match cond { s with env := env' } with
      | .ok true s1 => (match elt s1 with
        | .ok y s2 => if k < sizeLine then pbnd (comP tg own cond elt (k + 1) r) (fun ys => pret (y :: ys)) { s2 with env := wipeP s2.env own } else .bad
        | _ => .bad)
      | .ok false s1 => comP tg own cond elt k r { s1 with env := wipeP s1.env own }
      | _ => .bad)
    | none => .bad
def exoP : D → PM (Option Int)
  | .int i => pret (some i)
  | _ => pbad
/-- the names that a clause's tests and the element mention -/
def occB (cs : Exs) (e : Ex) (i : Nat) : Bool := occEs i cs || occE i e
mutual
def evF (R : Rp) : Ex → PM PV
  | .var i => varP i
  | .non => pret (.sh .non)
  | .bl b => pret (.sh (.bl b))
  | .int i => pret (.sh (.int i))
  | .str s => pret (.sh (.str s))
  | .gfn g => pret (.sh (.fn g))
  | .bin op a b => pbnd (opd a (evF R a)) fun x => pbnd (opd b (evF R b)) fun y => pbnd (rdO x) fun u => pbnd (rdO y) fun v => pof (binP op u v)
  | .neg a => pbnd (shr (evF R a)) fun x => match x with
    | .int i => pret (.sh (.int (-i)))
    | _ => pbad
  | .nt a => pbnd (tst a (evF R a)) fun k => pret (.sh (.bl (!k)))
  | .and a b => pbnd (shr (evF R a)) fun x => pbnd (pof (truP x)) fun k => if k = true then pbnd (shr (evF R b)) fun y => pret (.sh y) else pret (.sh x)
  | .or a b => pbnd (shr (evF R a)) fun x => pbnd (pof (truP x)) fun k => if k = true then pret (.sh x) else pbnd (shr (evF R b)) fun y => pret (.sh y)
  | .ife c a b => pbnd (tst c (evF R c)) fun k => if k = true then evF R a else evF R b
  | .cmp op a b => pbnd (opd a (evF R a)) fun x => pbnd (opd b (evF R b)) fun y => pbnd (rdO x) fun u => pbnd (rdO y) fun v => pbnd (pof (cmpP op u v)) fun k => pret (.sh (.bl k))
  | .cmp2 o1 o2 a b c => pbnd (opd a (evF R a)) fun x => pbnd (opd b (evF R b)) fun y => pbnd (rdO x) fun u => pbnd (rdO y) fun v => pbnd (pof (cmpP o1 u v)) fun k => if k = true then pbnd (opd c (evF R c)) fun z => pbnd (rdO y) fun v => pbnd (rdO z) fun w => pbnd (pof (cmpP o2 v w)) fun k => pret (.sh (.bl k)) else pret (.sh (.bl false))
  | .sub a i => pbnd (opd a (evF R a)) fun x => pbnd (shr (evF R i)) fun y => pbnd (rdO x) fun u => pbnd (pof (subP u y)) fun d => pret (.sh d)
  | .slc a lo hi => pbnd (opd a (evF R a)) fun x => pbnd (evPO R lo) fun l => pbnd (evPO R hi) fun h => pbnd (rdO x) fun u => pof (slcP u l h)
  | .stpL a lo hi => pbnd (opd a (evF R a)) fun x => pbnd (evPO R lo) fun l => pbnd (evPO R hi) fun h => pbnd (rdO x) fun u => pof (stpP u l h)
  | .rev a => pbnd (opd a (evF R a)) fun x => pbnd (rdO x) fun u => match u with
    | .lst xs => pret (.ow xs.reverse)
    | _ => pbad
  | .tup es => pbnd (evPs R es) fun xs => if xs.length ≤ sizeLine then pret (.sh (.tup xs)) else pbad
  | .lst es => pbnd (evPs R es) fun xs => if xs.length ≤ sizeLine then pret (.ow xs) else pbad
  | .dic0 => pret (.sh .dic0)
  | .call g es => pbnd (evKs R es) fun os => pbnd (rdOs os) fun ds => lend os (R g ds)
  | .callK g es perm => pbnd (evKs R es) fun os => pbnd (rdOs os) fun ds => lend os (R g (perm.map fun i => ds.getD i .non))
  | .bi b es => pbnd (evKs R es) fun os => pbnd (rdOs os) fun ds => pof (biP b ds)
  | .isi a ts => pbnd (opd a (evF R a)) fun x => pbnd (rdO x) fun u => pbnd (pof (isiP u ts)) fun k => pret (.sh (.bl k))
  | .met m a es => (match a with
    | .var i => fun s => (match s.env[i]? with
      | some (some (.ow _)) => pbnd (evMs R m es) (fun ds => fun s => match s.env[i]? with
        | some (some (.ow xs)) => (match metP m xs ds with
          | some (d, ys) => .ok (.sh d) { s with env := s.env.set i (some (.ow ys)) }
          | none => .bad)
        | _ => .bad) s
      | _ => .bad)
    | _ => pbad)
  | .com tg it cs e own => pbnd (evW R (occB cs e) it) fun items => fun s => if tgIn own tg then (match comP tg own (evCs' R cs) (shr (evF R e)) 0 items { s with env := wipeP s.env own } with
      | .ok ds s1 => .ok (.ow ds) { s1 with env := backP s.env s1.env own }
      | _ => .bad) else .bad
  | .nev => pbad
/-- values -/
def evPs (R : Rp) : Exs → PM (List D)
  | .nil => pret []
  | .cons e es => pbnd (shr (evF R e)) fun x => pbnd (evPs R es) fun xs => pret (x :: xs)
/-- operands -/
def evKs (R : Rp) : Exs → PM (List Od)
  | .nil => pret []
  | .cons e es => pbnd (opd e (evF R e)) fun x => pbnd (evKs R es) fun xs => pret (x :: xs)
/-- a method's arguments: what is appended is held from now on -/
def evMs (R : Rp) (m : Me) (es : Exs) : PM (List D) := match m with
  | .extend => (match es with
    | .cons e .nil => pbnd (opd e (evF R e)) fun o => pbnd (rdO o) fun d => pret [d]
    | _ => pbad)
  | _ => (match es with
    | .nil => pret []
    | .cons e .nil => pbnd (shr (evF R e)) fun d => pret [d]
    | _ => pbad)
def evPO (R : Rp) : Exo → PM (Option Int)
  | .none => pret none
  | .some e => pbnd (shr (evF R e)) exoP
def evW (R : Rp) (occ : Nat → Bool) : It → PM (List PIv)
  | .seq e => pbnd (opd e (evF R e)) fun o => pbnd (walkP occ o) fun d => pof (d.items.map onesP)
  | .key i => fun s => (match s.env[i]? with
    | some (some (.sh .dic0)) => .ok [] s
    | some (some (.sh d)) => pof (d.items.map onesP) s
    | some (some (.ow xs)) => pbnd (walkP occ (.own i)) (fun d => pof (d.items.map onesP)) s
    | _ => .bad)
  | .rng1 a => pbnd (shr (evF R a)) fun x => pof (rngP (.int 0) x)
  | .rng2 a b => pbnd (shr (evF R a)) fun x => pbnd (shr (evF R b)) fun y => pof (rngP x y)
  | .enm e => pbnd (opd e (evF R e)) fun o => pbnd (walkP occ o) fun d => match d with
    | .lst xs => pret (enmP 0 xs)
    | _ => pbad
  | .zip a b => pbnd (opd a (evF R a)) fun x => pbnd (opd b (evF R b)) fun y => pbnd (walkP occ x) fun u => pbnd (walkP occ y) fun v => match u, v with
    | .lst xs, .lst ys => pret (zipP xs ys)
    | .tup xs, .tup ys => pret (zipP xs ys)
    | _, _ => pbad
def evCs' (R : Rp) : Exs → PM Bool
  | .nil => pret true
  | .cons c .nil => tst c (evF R c)
  | .cons _ (.cons _ _) => pbad
end
inductive PFl where
  | nx | ct | rt (d : D) | xc (c : Nat) (p : Option D)
def tryP {α : Type} (m : PM α) (f : α → PM PFl) : PM PFl := fun s => match m s with
  | .ok a s1 => f a s1
  | .exc c p s1 => .ok (.xc c p) s1
  | .bad => .bad
def setP (i : Nat) (v : PV) : PM Unit := fun s => if i < s.env.length then .ok () { s with env := s.env.set i (some v) } else .bad
def forP (tg : Tg) (body : PM PFl) : List PIv → PM PFl
  | [] => pret .nx
  | x :: r => fun s => match asgIP tg x s.env with
    | some env' => (match body { s with env := env' } with
      | .ok .nx s1 => forP tg body r s1
      | .ok .ct s1 => forP tg body r s1
      | .ok f s1 => .ok f s1
      | _ => .bad)
    | none => .bad
def whlP (cond : PM Bool) (body : PM PFl) : Nat → PM PFl
  | 0 => pbad
  | n + 1 => fun s => match cond s with
    | .ok true s1 => (match body s1 with
      | .ok .nx s2 => whlP cond body n s2
      | .ok .ct s2 => whlP cond body n s2
      | .ok f s2 => .ok f s2
      | _ => .bad)
    | .ok false s1 => .ok .nx s1
    | .exc c p s1 => .ok (.xc c p) s1
    | .bad => .bad
mutual
def exP (R : Rp) : Sx → PM PFl
  | .ex e => tryP (evF R e) fun _ => pret .nx
  | .asg tg e => (match tg with
    | .nm i => tryP (evF R e) fun v => pbnd (setP i v) fun _ => pret .nx
    | .tp ts => tryP (shr (evF R e)) fun d => fun s => match asgP (.tp ts) d s.env with
      | some env' => .ok .nx { s with env := env' }
      | none => .bad)
  | .par i j a b => if i = j then pbad else tryP (evF R a) fun x => tryP (evF R b) fun y => pbnd (setP i x) fun _ => pbnd (setP j y) fun _ => pret .nx
  | .sst o i e => (match o with
    | .var o => tryP (shr (evF R e)) fun v => fun s => match shr (evF R i) s with
      | .ok y s => (match s.env[o]?, y with
        | some (some (.ow xs)), .int k => (match L2.ixN xs.length k with
          | some j => .ok .nx { s with env := s.env.set o (some (.ow (xs.set j v))) }
          | none => .bad)
        | _, _ => .bad)
      | _ => .bad
    | _ => pbad)
  | .ret e => tryP (shr (evF R e)) fun v => pret (.rt v)
  | .retN => pret (.rt .non)
  | .ite c a b => tryP (tst c (evF R c)) fun k => if k = true then exPs R a else exPs R b
  | .forE tg it b => tryP (evW R (fun i => occT i tg || occSs i b) it) fun items => forP tg (exPs R b) items
  | .whl c b => whlP (tst c (evF R c)) (exPs R b) whlN
  | .pas => pret .nx
  | .con => pret .ct
  | .nev => pbad
def exPs (R : Rp) : Sxs → PM PFl
  | .nil => pret .nx
  | .cons s ss => pbnd (exP R s) fun f => match f with
    | .nx => exPs R ss
    | f => pret f
end
/-- the digits of great cells, one behind another; the numbers mixed from all cells so far -/
def fillP : List Int → Int → Int → List Int × Int × Int
  | [], cur, mix => ([], cur, mix)
  | c :: r, cur, mix => if cur = 0 then fillP r (if 10 ^ 18 ≤ (c.natAbs : Int) then c.natAbs else 0) ((mix * 8191 + c.natAbs + 3) % 2147483647) else (c :: r, cur, mix)
def drawP (many : Int) : List Int × Int × Int × Int → Option (Int × (List Int × Int × Int × Int))
  | (l, cur, cnt, mix) => if 0 < many ∧ many < 1073741824 ∧ l.length ≤ 63 ∧ 0 ≤ cur ∧ 0 ≤ cnt ∧ cnt < 2 ^ 40 ∧ 0 ≤ mix ∧ mix < 2147483647 then
      (match fillP l cur mix with
      | (l', cur', mix') => if 0 < cur' then some (cur' % many, (l', cur' / many, cnt + 1, mix'))
        else some ((((mix' + 7919 * (cnt + 1) + 104729) ^ 5 % 2147483629 * 48271 + 30011 * (cnt + 1) + 29) ^ 3 % 1000000007) % many, (l', cur', cnt + 1, mix')))
      else none
/-- where the two defs of the stream stand -/
structure Prm where
  strm : Nat
  draw : Nat
def strmP (ds : List D) (sm : Sst) : FRes := match ds, sm with
  | [.scr ns], none => .ok .stm (some (ns, 0, 0, 17))
  | _, _ => .bad
def drwP (ds : List D) (sm : Sst) : FRes := match ds, sm with
  | [.stm, .int many], some σ => (match drawP many σ with
    | some (r, σ') => .ok (.int r) (some σ')
    | none => .bad)
  | _, _ => .bad
def runP (Q : Prm) (T : List Fn) : Nat → Rp
  | 0, _, _, _ => .bad
  | k + 1, g, ds, sm => if g = Q.strm then strmP ds sm
    else if g = Q.draw then drwP ds sm
    else match T[g]? with
      | some F => if ds.length = F.ar ∧ F.ar ≤ F.ns then (match exPs (runP Q T k) F.body ⟨ds.map (fun d => some (.sh d)) ++ List.replicate (F.ns - F.ar) none, sm⟩ with
        | .ok (.rt d) s => .ok d s.sm
        | .ok .nx s => .ok .non s.sm
        | .ok (.xc c p) s => .exc c p s.sm
        | _ => .bad)
        else .bad
      | none => .bad
end Ih
end
section
set_option Elab.async false
set_option linter.all false
set_option maxHeartbeats 1000000
namespace Ih
open PySem
abbrev Sa := Option (Nat × Nat)
def isSa (sa : Sa) (a : Nat) : Prop := ∃ p, sa = some p ∧ (a = p.1 ∨ a = p.2)
mutual
/-- a value stands for a tree: all its places are Sh's -/
inductive RdS (Sh : Nat → Prop) (sa : Sa) (st : Hs) : HV → D → Prop
  | non : RdS Sh sa st .non .non
  | bl (b : Bool) : RdS Sh sa st (.bl b) (.bl b)
  | int (b : Int) : RdS Sh sa st (.int b) (.int b)
  | str (b : Str) : RdS Sh sa st (.str b) (.str b)
  | fn (b : Nat) : RdS Sh sa st (.fn b) (.fn b)
  | lst {a : Nat} {hs : List HV} {ds : List D} : Sh a → st[a]? = some (.lst hs) → RdSs Sh sa st hs ds → RdS Sh sa st (.ref a) (.lst ds)
  | tup {a : Nat} {hs : List HV} {ds : List D} : Sh a → st[a]? = some (.tup hs) → RdSs Sh sa st hs ds → RdS Sh sa st (.ref a) (.tup ds)
  | dic0 {a : Nat} : Sh a → st[a]? = some (.dic []) → RdS Sh sa st (.ref a) .dic0
  | scr {a : Nat} {ns : List Int} : Sh a → st[a]? = some (.fro (ns.map .int)) → RdS Sh sa st (.ref a) (.scr ns)
  | stm {a b : Nat} : sa = some (a, b) → RdS Sh sa st (.ref a) .stm
inductive RdSs (Sh : Nat → Prop) (sa : Sa) (st : Hs) : List HV → List D → Prop
  | nil : RdSs Sh sa st [] []
  | cons {v : HV} {d : D} {vs : List HV} {ds : List D} : RdS Sh sa st v d → RdSs Sh sa st vs ds → RdSs Sh sa st (v :: vs) (d :: ds)
end
variable {Sh Sh' : Nat → Prop} {sa sa' : Sa} {st st' : Hs} {n0 : Nat} {env env' : Env} {s s' : Ps}
mutual
theorem RdS.mono (h : ∀ a, Sh a → Sh' a ∧ st'[a]? = st[a]?) (hs : ∀ p, sa = some p → sa' = some p) : ∀ {v : HV} {d : D}, RdS Sh sa st v d → RdS Sh' sa' st' v d
  | _, _, .non => .non
  | _, _, .bl b => .bl b
  | _, _, .int b => .int b
  | _, _, .str b => .str b
  | _, _, .fn b => .fn b
  | _, _, .lst h1 h2 h3 => .lst (h _ h1).1 ((h _ h1).2.trans h2) (RdSs.mono h hs h3)
  | _, _, .tup h1 h2 h3 => .tup (h _ h1).1 ((h _ h1).2.trans h2) (RdSs.mono h hs h3)
  | _, _, .dic0 h1 h2 => .dic0 (h _ h1).1 ((h _ h1).2.trans h2)
  | _, _, .scr h1 h2 => .scr (h _ h1).1 ((h _ h1).2.trans h2)
  | _, _, .stm h1 => .stm (hs _ h1)
theorem RdSs.mono (h : ∀ a, Sh a → Sh' a ∧ st'[a]? = st[a]?) (hs : ∀ p, sa = some p → sa' = some p) : ∀ {v : List HV} {d : List D}, RdSs Sh sa st v d → RdSs Sh' sa' st' v d
  | _, _, .nil => .nil
  | _, _, .cons h1 h2 => .cons (RdS.mono h hs h1) (RdSs.mono h hs h2)
end
theorem RdSs.length : ∀ {v : List HV} {d : List D}, RdSs Sh sa st v d → v.length = d.length
  | _, _, .nil => rfl
  | _, _, .cons _ h => congrArg (· + 1) h.length
theorem RdSs.append : ∀ {v w : List HV} {d e : List D}, RdSs Sh sa st v d → RdSs Sh sa st w e → RdSs Sh sa st (v ++ w) (d ++ e)
  | _, _, _, _, .nil, k => k
  | _, _, _, _, .cons h1 h2, k => .cons h1 (h2.append k)
theorem RdSs.get : ∀ {v : List HV} {d : List D} {i : Nat} {x : D}, RdSs Sh sa st v d → d[i]? = some x → ∃ w, v[i]? = some w ∧ RdS Sh sa st w x
  | _, _, i, x, .nil, h => by cases i <;> cases h
  | _, _, 0, x, .cons h1 h2, h => by cases h; exact ⟨_, rfl, h1⟩
  | _, _, i + 1, x, .cons h1 h2, h => h2.get (i := i) h
theorem RdSs.take : ∀ {v : List HV} {d : List D} (n : Nat), RdSs Sh sa st v d → RdSs Sh sa st (v.take n) (d.take n)
  | _, _, 0, _ => .nil
  | _, _, n + 1, .nil => .nil
  | _, _, n + 1, .cons h1 h2 => .cons h1 (h2.take n)
theorem RdSs.drop : ∀ {v : List HV} {d : List D} (n : Nat), RdSs Sh sa st v d → RdSs Sh sa st (v.drop n) (d.drop n)
  | _, _, 0, h => h
  | _, _, n + 1, .nil => .nil
  | _, _, n + 1, .cons h1 h2 => h2.drop n
theorem RdSs.rev {v : List HV} {d : List D} (h : RdSs Sh sa st v d) : RdSs Sh sa st v.reverse d.reverse := by
  induction v generalizing d with
  | nil => cases h; exact .nil
  | cons x v ih =>
    cases h with
    | cons h1 h2 =>
      rw [List.reverse_cons, List.reverse_cons]
      exact (ih h2).append (.cons h1 .nil)
theorem RdSs.set : ∀ {v : List HV} {d : List D} {i : Nat} {w : HV} {x : D}, RdSs Sh sa st v d → RdS Sh sa st w x → RdSs Sh sa st (v.set i w) (d.set i x)
  | _, _, i, w, x, .nil, _ => .nil
  | _, _, 0, w, x, .cons h1 h2, k => .cons k h2
  | _, _, i + 1, w, x, .cons h1 h2, k => .cons h1 (h2.set k)
theorem RdSs.erase : ∀ {v : List HV} {d : List D} {i : Nat}, RdSs Sh sa st v d → RdSs Sh sa st (v.eraseIdx i) (d.eraseIdx i)
  | _, _, i, .nil => .nil
  | _, _, 0, .cons h1 h2 => h2
  | _, _, i + 1, .cons h1 h2 => .cons h1 h2.erase
theorem RdSs.dropLast {v : List HV} {d : List D} (h : RdSs Sh sa st v d) : RdSs Sh sa st v.dropLast d.dropLast := by
  rw [List.dropLast_eq_take, List.dropLast_eq_take, h.length]
  exact h.take _
theorem RdSs.rep {v : List HV} {d : List D} (h : RdSs Sh sa st v d) : ∀ n : Nat, RdSs Sh sa st (List.replicate n v).flatten (List.replicate n d).flatten
  | 0 => .nil
  | n + 1 => by
    rw [List.replicate_succ, List.replicate_succ, List.flatten_cons, List.flatten_cons]
    exact h.append (h.rep n)
theorem RdSs.fm {v : List HV} {d : List D} (h : RdSs Sh sa st v d) (f : Nat → Nat) : ∀ l : List Nat, RdSs Sh sa st (l.filterMap fun m => v[f m]?) (l.filterMap fun m => d[f m]?)
  | [] => .nil
  | m :: r => by
    have ih := RdSs.fm h f r
    rw [List.filterMap_cons, List.filterMap_cons]
    cases e : d[f m]? with
    | none =>
      have hl := h.length
      have e2 : v[f m]? = none := by
        rw [List.getElem?_eq_none_iff] at e ⊢
        omega
      rw [e2]
      exact ih
    | some x =>
      obtain ⟨w, e2, r⟩ := h.get e
      rw [e2]
      exact .cons r ih
theorem RdSs.step {v : List HV} {d : List D} (h : RdSs Sh sa st v d) (i k : Nat) : RdSs Sh sa st (stepL v i k) (stepL d i k) := by
  unfold stepL
  rw [h.length]
  exact h.fm (fun m => i + k * m) _
theorem RdSs.ints : ∀ ns : List Int, RdSs Sh sa st (ns.map .int) (ns.map .int)
  | [] => .nil
  | n :: r => .cons (.int n) (RdSs.ints r)
theorem RdSs.cut {v : List HV} {d : List D} (h : RdSs Sh sa st v d) (lo hi : Option Int) : RdSs Sh sa st (cutL v lo hi) (cutL d lo hi) := by
  unfold cutL
  rw [h.length]
  exact (h.drop _).take _
def StmAt (sa : Sa) (st : Hs) (sm : Sst) : Prop := match sa, sm with
  | some (a, b), some (l, cur, cnt, mix) => st[a]? = some (.lst [.ref b, .int cur, .int cnt, .int mix]) ∧ st[b]? = some (.lst (l.map .int)) ∧ a ≠ b
  | none, none => True
  | _, _ => False
theorem StmAt.lt {sm : Sst} (h : StmAt sa st sm) {a : Nat} (k : isSa sa a) : a < st.length := by
  obtain ⟨p, rfl, hp⟩ := k
  cases sm with
  | none => exact h.elim
  | some q =>
    obtain ⟨l, c1, c2, c3⟩ := q
    obtain ⟨h1, h2, _⟩ := h
    rcases hp with rfl | rfl
    · exact (List.getElem?_eq_some_iff.mp h1).1
    · exact (List.getElem?_eq_some_iff.mp h2).1
theorem StmAt.keep {sm : Sst} (h : StmAt sa st sm) (k : ∀ a, isSa sa a → st'[a]? = st[a]?) : StmAt sa st' sm := by
  cases sa with
  | none =>
    cases sm with
    | none => exact True.intro
    | some q => exact h.elim
  | some p =>
    cases sm with
    | none => exact h.elim
    | some q =>
      obtain ⟨a, b⟩ := p
      obtain ⟨l, c1, c2, c3⟩ := q
      obtain ⟨h1, h2, h3⟩ := h
      exact ⟨(k a ⟨_, rfl, .inl rfl⟩).trans h1, (k b ⟨_, rfl, .inr rfl⟩).trans h2, h3⟩
/-- the names of a text's turn, in a store -/
structure Good (n0 : Nat) (Sh : Nat → Prop) (sa : Sa) (st : Hs) (env : Env) (s : Ps) : Prop where
  len : env.length = s.env.length
  n0l : n0 ≤ st.length
  sh : ∀ (i : Nat) (d : D), s.env[i]? = some (some (PV.sh d)) → ∃ v, env[i]? = some (some v) ∧ RdS Sh sa st v d
  ow : ∀ (i : Nat) (xs : List D), s.env[i]? = some (some (PV.ow xs)) → ∃ a hs, env[i]? = some (some (HV.ref a)) ∧ st[a]? = some (.lst hs) ∧ RdSs Sh sa st hs xs ∧ n0 ≤ a ∧ ¬ Sh a ∧ ¬ isSa sa a
  apart : ∀ (i j a : Nat) (xs ys : List D), s.env[i]? = some (some (PV.ow xs)) → s.env[j]? = some (some (PV.ow ys)) → env[i]? = some (some (HV.ref a)) → env[j]? = some (some (HV.ref a)) → i = j
  shlt : ∀ a, Sh a → a < st.length ∧ ¬ isSa sa a
  stm : StmAt sa st s.sm
/-- what a step leaves: occ: the names it mentions -/
structure Out (n0 : Nat) (occ : Nat → Bool) (Sh : Nat → Prop) (sa : Sa) (st : Hs) (env : Env) (s : Ps) (Sh' : Nat → Prop) (sa' : Sa) (st' : Hs) (env' : Env) (s' : Ps) : Prop where
  good : Good n0 Sh' sa' st' env' s'
  sub : ∀ a, Sh a → Sh' a
  new : ∀ a, Sh' a → Sh a ∨ st.length ≤ a ∨ ∃ (i : Nat) (xs : List D), occ i = true ∧ s.env[i]? = some (some (PV.ow xs)) ∧ env[i]? = some (some (HV.ref a))
  saL : ∀ p, sa = some p → sa' = some p
  sn : ∀ a, isSa sa' a → isSa sa a ∨ st.length ≤ a
  len : st.length ≤ st'.length
  fr : ∀ a, a < st.length → st'[a]? = st[a]? ∨ isSa sa a ∨ ∃ (i : Nat) (xs : List D), occ i = true ∧ s.env[i]? = some (some (PV.ow xs)) ∧ env[i]? = some (some (HV.ref a))
  ev : ∀ (i : Nat), occ i = false → s'.env[i]? = s.env[i]? ∧ env'[i]? = env[i]?
  bk : ∀ (i : Nat) (xs : List D) (a : Nat), s'.env[i]? = some (some (PV.ow xs)) → env'[i]? = some (some (HV.ref a)) → st.length ≤ a ∨ (∃ ys, s.env[i]? = some (some (PV.ow ys)) ∧ env[i]? = some (some (HV.ref a)))
variable {occ occ' : Nat → Bool}
theorem Out.keep (g : Good n0 Sh sa st env s) (o : Out n0 occ Sh sa st env s Sh' sa' st' env' s') {a : Nat} (h : Sh a) : st'[a]? = st[a]? := by
  rcases o.fr a (g.shlt a h).1 with k | k | ⟨i, xs, _, k1, k2⟩
  · exact k
  · exact ((g.shlt a h).2 k).elim
  · obtain ⟨b, hs, e1, _, _, _, e2, _⟩ := g.ow i xs k1
    rw [k2] at e1
    cases e1
    exact (e2 h).elim
theorem Out.rd (g : Good n0 Sh sa st env s) (o : Out n0 occ Sh sa st env s Sh' sa' st' env' s') {v : HV} {d : D} (h : RdS Sh sa st v d) : RdS Sh' sa' st' v d := h.mono (fun a ha => ⟨o.sub a ha, o.keep g ha⟩) o.saL
theorem Out.rds (g : Good n0 Sh sa st env s) (o : Out n0 occ Sh sa st env s Sh' sa' st' env' s') {v : List HV} {d : List D} (h : RdSs Sh sa st v d) : RdSs Sh' sa' st' v d := h.mono (fun a ha => ⟨o.sub a ha, o.keep g ha⟩) o.saL
theorem Out.refl (g : Good n0 Sh sa st env s) : Out n0 occ Sh sa st env s Sh sa st env s :=
  ⟨g, fun _ h => h, fun _ h => .inl h, fun _ h => h, fun _ h => .inl h, Nat.le_refl _, fun _ _ => .inl rfl, fun _ _ => ⟨rfl, rfl⟩, fun i xs a h1 h2 => .inr ⟨xs, h1, h2⟩⟩
theorem Out.mono (h : ∀ i, occ i = true → occ' i = true) (o : Out n0 occ Sh sa st env s Sh' sa' st' env' s') : Out n0 occ' Sh sa st env s Sh' sa' st' env' s' :=
  ⟨o.good, o.sub, fun a ha => (o.new a ha).imp id fun k => k.imp id fun ⟨i, xs, a, b⟩ => ⟨i, xs, h i a, b⟩, o.saL, o.sn, o.len, fun a ha => (o.fr a ha).imp id fun k => k.imp id fun ⟨i, xs, a, b⟩ => ⟨i, xs, h i a, b⟩, fun i hi => o.ev i (by cases q : occ i with
    | false => rfl
    | true => rw [h i q] at hi; cases hi), o.bk⟩
theorem Out.trans {Sh2 : Nat → Prop} {sa2 : Sa} {st2 : Hs} {env2 : Env} {s2 : Ps} (o : Out n0 occ Sh sa st env s Sh' sa' st' env' s') (p : Out n0 occ Sh' sa' st' env' s' Sh2 sa2 st2 env2 s2) : Out n0 occ Sh sa st env s Sh2 sa2 st2 env2 s2 := by
  refine ⟨p.good, fun a h => p.sub a (o.sub a h), fun a h => ?_, fun q h => p.saL q (o.saL q h), fun a h => ?_, Nat.le_trans o.len p.len, fun a ha => ?_, fun i hi => ?_, fun i xs a h1 h2 => ?_⟩
  · rcases p.new a h with k | k | ⟨i, xs, k1, k2, k3⟩
    · exact o.new a k
    · exact .inr (.inl (Nat.le_trans o.len k))
    · rcases o.bk i xs a k2 k3 with k | ⟨ys, k4, k5⟩
      · exact .inr (.inl k)
      · exact .inr (.inr ⟨i, ys, k1, k4, k5⟩)
  · rcases p.sn a h with k | k
    · exact o.sn a k
    · exact .inr (Nat.le_trans o.len k)
  · rcases p.fr a (Nat.lt_of_lt_of_le ha o.len) with k | k | ⟨i, xs, k1, k2, k3⟩
    · rw [k]
      exact o.fr a ha
    · rcases o.sn a k with k | k
      · exact .inr (.inl k)
      · exact absurd ha (Nat.not_lt.mpr k)
    · rcases o.bk i xs a k2 k3 with k | ⟨ys, k4, k5⟩
      · exact absurd ha (Nat.not_lt.mpr k)
      · exact .inr (.inr ⟨i, ys, k1, k4, k5⟩)
  · exact ⟨(p.ev i hi).1.trans (o.ev i hi).1, (p.ev i hi).2.trans (o.ev i hi).2⟩
  · rcases p.bk i xs a h1 h2 with k | ⟨ys, k4, k5⟩
    · exact .inl (Nat.le_trans o.len k)
    · exact o.bk i ys a k4 k5
/-- a step of an expression: no name gets a list of its own -/
structure OutE (n0 : Nat) (occ : Nat → Bool) (Sh : Nat → Prop) (sa : Sa) (st : Hs) (env : Env) (s : Ps) (Sh' : Nat → Prop) (sa' : Sa) (st' : Hs) (s' : Ps) : Prop where
  o : Out n0 occ Sh sa st env s Sh' sa' st' env s'
  ebk : ∀ (i : Nat) (xs : List D), s'.env[i]? = some (some (PV.ow xs)) → ∃ ys, s.env[i]? = some (some (PV.ow ys))
theorem OutE.refl (g : Good n0 Sh sa st env s) : OutE n0 occ Sh sa st env s Sh sa st s := ⟨.refl g, fun _ xs h => ⟨xs, h⟩⟩
theorem OutE.trans {Sh2 : Nat → Prop} {sa2 : Sa} {st2 : Hs} {s2 : Ps} (o : OutE n0 occ Sh sa st env s Sh' sa' st' s') (p : OutE n0 occ Sh' sa' st' env s' Sh2 sa2 st2 s2) : OutE n0 occ Sh sa st env s Sh2 sa2 st2 s2 :=
  ⟨o.o.trans p.o, fun i xs h => by
    obtain ⟨ys, k⟩ := p.ebk i xs h
    exact o.ebk i ys k⟩
theorem OutE.mono (h : ∀ i, occ i = true → occ' i = true) (o : OutE n0 occ Sh sa st env s Sh' sa' st' s') : OutE n0 occ' Sh sa st env s Sh' sa' st' s' := ⟨o.o.mono h, o.ebk⟩
/-- results that go together -/
def Sim {α β : Type} (n0 : Nat) (occ : Nat → Bool) (Sh : Nat → Prop) (sa : Sa) (st : Hs) (env : Env) (s : Ps) (rel : (Nat → Prop) → Sa → Hs → Ps → α → β → Prop) (r : Res α) (q : PRes β) : Prop := match q with
  | .ok b s' => ∃ a st' Sh' sa', r = .ok a st' ∧ OutE n0 occ Sh sa st env s Sh' sa' st' s' ∧ rel Sh' sa' st' s' a b
  | .exc c p s' => ∃ q st' Sh' sa', r = .exc c q st' ∧ OutE n0 occ Sh sa st env s Sh' sa' st' s' ∧ (match p, q with
    | none, none => True
    | some d, some v => RdS Sh' sa' st' v d
    | _, _ => False)
  | .bad => True
theorem Sim.bind {α β γ δ : Type} {rel : (Nat → Prop) → Sa → Hs → Ps → α → β → Prop} {rel2 : (Nat → Prop) → Sa → Hs → Ps → γ → δ → Prop} {m : M α} {pm : PM β} {f : α → M γ} {pf : β → PM δ}
    (h : Sim n0 occ Sh sa st env s rel (m st) (pm s)) (k : ∀ a b Sh1 sa1 st1 s1, OutE n0 occ Sh sa st env s Sh1 sa1 st1 s1 → rel Sh1 sa1 st1 s1 a b → Sim n0 occ Sh1 sa1 st1 env s1 rel2 (f a st1) (pf b s1)) :
    Sim n0 occ Sh sa st env s rel2 (bnd m f st) (pbnd pm pf s) := by
  unfold bnd pbnd
  cases e : pm s with
  | bad => exact True.intro
  | exc c p s' =>
    rw [e] at h
    obtain ⟨q, st', Sh', sa', e1, o, r⟩ := h
    rw [e1]
    exact ⟨q, st', Sh', sa', rfl, o, r⟩
  | ok b s1 =>
    rw [e] at h
    obtain ⟨a, st1, Sh1, sa1, e1, o, r⟩ := h
    rw [e1]
    have z := k a b Sh1 sa1 st1 s1 o r
    show Sim n0 occ Sh sa st env s rel2 (f a st1) (pf b s1)
    cases e2 : pf b s1 with
    | bad => exact True.intro
    | exc c p s' =>
      rw [e2] at z
      obtain ⟨q, st', Sh', sa', e3, o2, r2⟩ := z
      exact ⟨q, st', Sh', sa', e3, o.trans o2, r2⟩
    | ok d s2 =>
      rw [e2] at z
      obtain ⟨c, st', Sh', sa', e3, o2, r2⟩ := z
      exact ⟨c, st', Sh', sa', e3, o.trans o2, r2⟩
theorem Sim.imp {α β : Type} {rel rel2 : (Nat → Prop) → Sa → Hs → Ps → α → β → Prop} {r : Res α} {q : PRes β} (h : Sim n0 occ Sh sa st env s rel r q) (ho : ∀ i, occ i = true → occ' i = true) (k : ∀ Sh' sa' st' s' a b, OutE n0 occ Sh sa st env s Sh' sa' st' s' → rel Sh' sa' st' s' a b → rel2 Sh' sa' st' s' a b) : Sim n0 occ' Sh sa st env s rel2 r q := by
  cases q with
  | bad => exact True.intro
  | exc c p s' =>
    obtain ⟨q, st', Sh', sa', e1, o, r⟩ := h
    exact ⟨q, st', Sh', sa', e1, o.mono ho, r⟩
  | ok b s1 =>
    obtain ⟨a, st1, Sh1, sa1, e1, o, r⟩ := h
    exact ⟨a, st1, Sh1, sa1, e1, o.mono ho, k _ _ _ _ _ _ o r⟩
/-- nothing happens -/
theorem Sim.same {α β : Type} {rel : (Nat → Prop) → Sa → Hs → Ps → α → β → Prop} {a : α} {b : β} (g : Good n0 Sh sa st env s) (h : rel Sh sa st s a b) : Sim n0 occ Sh sa st env s rel (.ok a st) (.ok b s) := ⟨a, st, Sh, sa, rfl, OutE.refl g, h⟩
theorem lt_of_get {α : Type} {l : List α} {i : Nat} {x : α} (h : l[i]? = some x) : i < l.length := (List.getElem?_eq_some_iff.mp h).1
theorem get_app {st : Hs} {c : Cel} {a : Nat} (h : a < st.length) : (st ++ [c])[a]? = st[a]? := List.getElem?_append_left h
/-- a new cell that nothing holds -/
theorem Out.alloc (g : Good n0 Sh sa st env s) (c : Cel) : Out n0 occ Sh sa st env s Sh sa (st ++ [c]) env s := by
  have hl : (st ++ [c]).length = st.length + 1 := by rw [List.length_append]; rfl
  have kp : ∀ a, Sh a → Sh a ∧ (st ++ [c])[a]? = st[a]? := fun a h => ⟨h, get_app (g.shlt a h).1⟩
  refine ⟨⟨g.len, by have := g.n0l; omega, fun i d h => ?_, fun i xs h => ?_, g.apart, fun a h => ⟨by have := (g.shlt a h).1; omega, (g.shlt a h).2⟩, g.stm.keep fun a h => get_app (g.stm.lt h)⟩, fun _ h => h, fun _ h => .inl h, fun _ h => h, fun _ h => .inl h, by omega, fun a h => .inl (get_app h), fun _ _ => ⟨rfl, rfl⟩, fun i xs a h1 h2 => .inr ⟨xs, h1, h2⟩⟩
  · obtain ⟨v, e, r⟩ := g.sh i d h
    exact ⟨v, e, r.mono kp fun _ h => h⟩
  · obtain ⟨a, hs, e1, e2, e3, e4⟩ := g.ow i xs h
    exact ⟨a, hs, e1, (get_app (lt_of_get e2)).trans e2, e3.mono kp fun _ h => h, e4⟩
/-- more is shared: new places that no name holds of its own -/
theorem Out.share (o : Out n0 occ Sh sa st env s Sh' sa' st' env' s') {P : Nat → Prop} (hP : ∀ a, P a → st.length ≤ a ∧ a < st'.length ∧ ¬ isSa sa' a ∧ ∀ (i : Nat) (xs : List D), s'.env[i]? = some (some (PV.ow xs)) → env'[i]? ≠ some (some (HV.ref a))) : Out n0 occ Sh sa st env s (fun a => Sh' a ∨ P a) sa' st' env' s' := by
  have g := o.good
  have kp : ∀ a, Sh' a → (Sh' a ∨ P a) ∧ st'[a]? = st'[a]? := fun a h => ⟨.inl h, rfl⟩
  refine ⟨⟨g.len, g.n0l, fun i d h => ?_, fun i xs h => ?_, g.apart, fun a h => ?_, g.stm⟩, fun a h => .inl (o.sub a h), fun a h => h.elim (o.new a) fun k => .inr (.inl (hP a k).1), o.saL, o.sn, o.len, o.fr, o.ev, o.bk⟩
  · obtain ⟨v, e, r⟩ := g.sh i d h
    exact ⟨v, e, r.mono kp fun _ h => h⟩
  · obtain ⟨a, hs, e1, e2, e3, e4, e5, e6⟩ := g.ow i xs h
    exact ⟨a, hs, e1, e2, e3.mono kp fun _ h => h, e4, fun k => k.elim e5 fun k => (hP a k).2.2.2 i xs h e1, e6⟩
  · rcases h with h | h
    · exact g.shlt a h
    · exact ⟨(hP a h).2.1, (hP a h).2.2.1⟩
/-- what a value of its own, fresh from n, is -/
def FrOk (n : Nat) (Sh : Nat → Prop) (sa : Sa) (st : Hs) (w : HV) (xs : List D) : Prop := ∃ a hs, w = .ref a ∧ st[a]? = some (.lst hs) ∧ RdSs Sh sa st hs xs ∧ n ≤ a ∧ ¬ Sh a ∧ ¬ isSa sa a
def PvOk (n : Nat) : (Nat → Prop) → Sa → Hs → Ps → HV → PV → Prop := fun Sh sa st s w v => match v with
  | .sh d => RdS Sh sa st w d
  | .ow xs => FrOk n Sh sa st w xs
def DOk : (Nat → Prop) → Sa → Hs → Ps → HV → D → Prop := fun Sh sa st s w d => RdS Sh sa st w d
theorem PvOk.le {n m : Nat} (h : m ≤ n) {w : HV} {v : PV} (k : PvOk n Sh sa st s w v) : PvOk m Sh sa st s w v := by
  cases v with
  | sh d => exact k
  | ow xs =>
    obtain ⟨a, hs, e1, e2, e3, e4, e5⟩ := k
    exact ⟨a, hs, e1, e2, e3, Nat.le_trans h e4, e5⟩
/-- a value of its own lasts through a step that does not know it -/
theorem FrOk.out {n : Nat} (g : Good n0 Sh sa st env s) (hn : ∀ (i : Nat) (xs : List D) (a : Nat), s.env[i]? = some (some (PV.ow xs)) → env[i]? = some (some (HV.ref a)) → a < n) (o : Out n0 occ Sh sa st env s Sh' sa' st' env' s') {w : HV} {xs : List D} (k : FrOk n Sh sa st w xs) (hS : ∀ a, w = .ref a → ¬ Sh' a) (hs' : ∀ a, w = .ref a → ¬ isSa sa' a) : FrOk n Sh' sa' st' w xs := by
  obtain ⟨a, hs, e1, e2, e3, e4, e5, e6⟩ := k
  refine ⟨a, hs, e1, ?_, o.rds g e3, e4, hS a e1, hs' a e1⟩
  rcases o.fr a (lt_of_get e2) with k | k | ⟨i, ys, _, k1, k2⟩
  · rw [k, e2]
  · exact (e6 k).elim
  · have := hn i ys a k1 k2
    omega
end Ih
end
section
set_option Elab.async false
set_option linter.all false
set_option maxHeartbeats 1000000
namespace Ih
open PySem
variable {Sh Sh' : Nat → Prop} {sa sa' : Sa} {st st' : Hs} {n0 : Nat} {env env' : Env} {s s' : Ps} {occ occ' : Nat → Bool}
theorem not_len (g : Good n0 Sh sa st env s) : ¬ Sh st.length ∧ ¬ isSa sa st.length := ⟨fun h => Nat.lt_irrefl _ (g.shlt _ h).1, fun h => Nat.lt_irrefl _ (g.stm.lt h)⟩
theorem RdSs.alloc (g : Good n0 Sh sa st env s) {c : Cel} {hs : List HV} {ds : List D} (h : RdSs Sh sa st hs ds) : RdSs Sh sa (st ++ [c]) hs ds := h.mono (fun a ha => ⟨ha, get_app (g.shlt a ha).1⟩) fun _ h => h
theorem OutE.alloc (g : Good n0 Sh sa st env s) (c : Cel) : OutE n0 occ Sh sa st env s Sh sa (st ++ [c]) s := ⟨.alloc g c, fun _ xs h => ⟨xs, h⟩⟩
theorem get_new {c : Cel} : (st ++ [c])[st.length]? = some c := List.getElem?_concat_length
/-- a new list -/
theorem Sim.ow {n : Nat} (g : Good n0 Sh sa st env s) (hn : n ≤ st.length) {hs : List HV} {ds : List D} (h : RdSs Sh sa st hs ds) : Sim n0 occ Sh sa st env s (PvOk n) (alloc (.lst hs) st) (.ok (.ow ds) s) :=
  ⟨.ref st.length, st ++ [.lst hs], Sh, sa, rfl, .alloc g _, st.length, hs, rfl, get_new, h.alloc g, hn, (not_len g).1, (not_len g).2⟩
/-- a new thing that is shared at once -/
theorem OutE.news (g : Good n0 Sh sa st env s) (c : Cel) : OutE n0 occ Sh sa st env s (fun a => Sh a ∨ a = st.length) sa (st ++ [c]) s := by
  have o := OutE.alloc (occ := occ) g c
  refine ⟨o.o.share fun a ha => ?_, o.ebk⟩
  subst ha
  refine ⟨Nat.le_refl _, by rw [List.length_append]; exact Nat.lt_succ_self _, (not_len g).2, fun i xs h e => ?_⟩
  obtain ⟨b, hs, e1, e2, _⟩ := g.ow i xs h
  rw [e] at e1
  cases e1
  exact Nat.lt_irrefl _ (lt_of_get e2)
theorem Sim.tup {n : Nat} (g : Good n0 Sh sa st env s) {hs : List HV} {ds : List D} (h : RdSs Sh sa st hs ds) : Sim n0 occ Sh sa st env s (PvOk n) (alloc (.tup hs) st) (.ok (.sh (.tup ds)) s) :=
  ⟨.ref st.length, st ++ [.tup hs], _, sa, rfl, .news g _, .tup (.inr rfl) get_new ((h.alloc g).mono (fun a ha => ⟨.inl ha, rfl⟩) fun _ h => h)⟩
theorem Sim.dic0 {n : Nat} (g : Good n0 Sh sa st env s) : Sim n0 occ Sh sa st env s (PvOk n) (alloc (.dic []) st) (.ok (.sh .dic0) s) :=
  ⟨.ref st.length, st ++ [.dic []], _, sa, rfl, .news g _, .dic0 (.inr rfl) get_new⟩
/-- a value that needs no place -/
theorem Sim.pure {n : Nat} (g : Good n0 Sh sa st env s) {w : HV} {d : D} (h : RdS Sh sa st w d) : Sim n0 occ Sh sa st env s (PvOk n) (.ok w st) (.ok (.sh d) s) := Sim.same g h
inductive See (Sh : Nat → Prop) (sa : Sa) (st : Hs) (env : Env) (s : Ps) : HV → D → Prop
  | sh {w : HV} {d : D} : RdS Sh sa st w d → See Sh sa st env s w d
  | ow {i a : Nat} {ys xs : List D} {hs : List HV} : s.env[i]? = some (some (PV.ow ys)) → env[i]? = some (some (HV.ref a)) → st[a]? = some (.lst hs) → RdSs Sh sa st hs xs → See Sh sa st env s (.ref a) (.lst xs)
def OdOk (env : Env) : (Nat → Prop) → Sa → Hs → Ps → HV → Od → Prop := fun Sh sa st s w o => match o with
  | .val d => RdS Sh sa st w d
  | .own i => env[i]? = some (some w)
theorem rdV_ok (g : Good n0 Sh sa st env s) {w : HV} {o : Od} {d : D} (h : OdOk env Sh sa st s w o) (e : rdV s.env o = some d) : See Sh sa st env s w d := by
  cases o with
  | val d0 => cases e; exact .sh h
  | own i =>
    have h : env[i]? = some (some w) := h
    unfold rdV at e
    dsimp only at e
    split at e
    · rename_i xs hx
      cases e
      obtain ⟨a, hs, e1, e2, e3, _⟩ := g.ow i xs hx
      rw [h] at e1
      cases e1
      exact .ow hx h e2 e3
    · rename_i d' hx
      cases e
      obtain ⟨v, e1, r⟩ := g.sh i d hx
      rw [h] at e1
      cases e1
      exact .sh r
    · cases e
theorem OdOk.out (g : Good n0 Sh sa st env s) (o : OutE n0 occ Sh sa st env s Sh' sa' st' s') {w : HV} {q : Od} (h : OdOk env Sh sa st s w q) : OdOk env Sh' sa' st' s' w q := by
  cases q with
  | val d => exact o.o.rd g h
  | own i => exact h
theorem Sim.rdE {α β : Type} {rel : (Nat → Prop) → Sa → Hs → Ps → α → β → Prop} (g : Good n0 Sh sa st env s) {w : HV} {o : Od} (h : OdOk env Sh sa st s w o) {r : Res α} {f : D → PM β} (k : ∀ d, rdV s.env o = some d → See Sh sa st env s w d → Sim n0 occ Sh sa st env s rel r (f d s)) : Sim n0 occ Sh sa st env s rel r (pbnd (rdO o) f s) := by
  cases e : rdV s.env o with
  | some d =>
    have ez : pbnd (rdO o) f s = f d s := by unfold pbnd rdO pof; rw [e]; rfl
    rw [ez]
    exact k d e (rdV_ok g h e)
  | none =>
    have ez : pbnd (rdO o) f s = .bad := by unfold pbnd rdO pof; rw [e]; rfl
    rw [ez]
    exact True.intro
theorem Sim.rd {α β : Type} {rel : (Nat → Prop) → Sa → Hs → Ps → α → β → Prop} (g : Good n0 Sh sa st env s) {w : HV} {o : Od} (h : OdOk env Sh sa st s w o) {r : Res α} {f : D → PM β} (k : ∀ d, See Sh sa st env s w d → Sim n0 occ Sh sa st env s rel r (f d s)) : Sim n0 occ Sh sa st env s rel r (pbnd (rdO o) f s) := Sim.rdE g h fun d _ z => k d z
theorem Sim.of {α β γ : Type} {rel : (Nat → Prop) → Sa → Hs → Ps → α → γ → Prop} {o : Option β} {r : Res α} {f : β → PM γ} (k : ∀ b, o = some b → Sim n0 occ Sh sa st env s rel r (f b s)) : Sim n0 occ Sh sa st env s rel r (pbnd (pof o) f s) := by
  cases o with
  | none => exact True.intro
  | some b => exact k b rfl
theorem Sim.of' {α γ : Type} {rel : (Nat → Prop) → Sa → Hs → Ps → α → γ → Prop} {o : Option γ} {r : Res α} (k : ∀ b, o = some b → Sim n0 occ Sh sa st env s rel r (.ok b s)) : Sim n0 occ Sh sa st env s rel r (pof o s) := by
  cases o with
  | none => exact True.intro
  | some b => exact k b rfl
theorem See.any {w : HV} {d : D} (h : See Sh sa st env s w d) : RdS (fun _ => True) sa st w d := by
  cases h with
  | sh h => exact h.mono (fun _ _ => ⟨True.intro, rfl⟩) fun _ h => h
  | ow _ _ h1 h2 => exact .lst True.intro h1 (h2.mono (fun _ _ => ⟨True.intro, rfl⟩) fun _ h => h)
theorem See.lst {w : HV} {xs : List D} (h : See Sh sa st env s w (.lst xs)) : ∃ a hs, w = .ref a ∧ st[a]? = some (.lst hs) ∧ RdSs Sh sa st hs xs := by
  cases h with
  | sh h => cases h with
    | lst h1 h2 h3 => exact ⟨_, _, rfl, h2, h3⟩
  | ow _ _ h1 h2 => exact ⟨_, _, rfl, h1, h2⟩
theorem See.tup {w : HV} {xs : List D} (h : See Sh sa st env s w (.tup xs)) : ∃ a hs, w = .ref a ∧ Sh a ∧ st[a]? = some (.tup hs) ∧ RdSs Sh sa st hs xs := by
  cases h with
  | sh h => cases h with
    | tup h1 h2 h3 => exact ⟨_, _, rfl, h1, h2, h3⟩
theorem See.int {w : HV} {i : Int} (h : See Sh sa st env s w (.int i)) : w = .int i := by
  cases h with
  | sh h => cases h; rfl
theorem See.bl {w : HV} {i : Bool} (h : See Sh sa st env s w (.bl i)) : w = .bl i := by
  cases h with
  | sh h => cases h; rfl
theorem See.str {w : HV} {i : Str} (h : See Sh sa st env s w (.str i)) : w = .str i := by
  cases h with
  | sh h => cases h; rfl
theorem See.non {w : HV} (h : See Sh sa st env s w .non) : w = .non := by
  cases h with
  | sh h => cases h; rfl
theorem See.items {w : HV} {d : D} {xs : List D} (h : See Sh sa st env s w d) (e : d.items = some xs) : ∃ hs, seqOf st w = some hs ∧ RdSs Sh sa st hs xs := by
  cases d with
  | lst ys =>
    cases e
    obtain ⟨a, hs, rfl, h1, h2⟩ := h.lst
    exact ⟨hs, by simp [seqOf, h1], h2⟩
  | tup ys =>
    cases e
    obtain ⟨a, hs, rfl, _, h1, h2⟩ := h.tup
    exact ⟨hs, by simp [seqOf, h1], h2⟩
  | _ => cases e
mutual
theorem rdD_of : ∀ {n : Nat} {v : HV} {d : D} {p : PyData}, RdS Sh sa st v d → d.py = some p → d.need ≤ n → rdD n st v = some p
  | 0, v, d, p, _, _, hn => by cases d <;> (simp [D.need] at hn)
  | n + 1, _, _, p, .non, e, _ => by cases e; rfl
  | n + 1, _, _, p, .bl b, e, _ => by cases e; rfl
  | n + 1, _, _, p, .int b, e, _ => by cases e; rfl
  | n + 1, _, _, p, .str b, e, _ => by cases e; rfl
  | n + 1, _, _, p, .fn b, e, _ => by cases e
  | n + 1, _, _, p, .lst (ds := ds) _ h2 h3, e, hn => by
    simp only [D.py] at e
    cases q : D.pys ds with
    | none => rw [q] at e; cases e
    | some ps =>
      rw [q] at e
      cases e
      have hn : D.needs ds + 1 ≤ n + 1 := hn
      unfold rdD
      simp only [h2]
      rw [rdDs_of h3 q (by omega)]
      rfl
  | n + 1, _, _, p, .tup (ds := ds) _ h2 h3, e, hn => by
    simp only [D.py] at e
    cases q : D.pys ds with
    | none => rw [q] at e; cases e
    | some ps =>
      rw [q] at e
      cases e
      have hn : D.needs ds + 1 ≤ n + 1 := hn
      unfold rdD
      simp only [h2]
      rw [rdDs_of h3 q (by omega)]
      rfl
  | n + 1, _, _, p, .dic0 _ _, e, _ => by cases e
  | n + 1, _, _, p, .scr _ _, e, _ => by cases e
  | n + 1, _, _, p, .stm _, e, _ => by cases e
theorem rdDs_of : ∀ {n : Nat} {v : List HV} {d : List D} {p : List PyData}, RdSs Sh sa st v d → D.pys d = some p → D.needs d ≤ n → rdDs n st v = some p
  | 0, v, d, p, _, _, hn => by cases d <;> (simp [D.needs] at hn)
  | n + 1, _, _, p, .nil, e, _ => by cases e; rfl
  | n + 1, _, _, p, .cons (d := d) (ds := ds) h1 h2, e, hn => by
    simp only [D.pys] at e
    have hn : max (D.need d) (D.needs ds) + 1 ≤ n + 1 := hn
    cases q1 : D.py d with
    | none => rw [q1] at e; cases e
    | some x =>
      cases q2 : D.pys ds with
      | none => rw [q1, q2] at e; cases e
      | some y =>
        rw [q1, q2] at e
        cases e
        unfold rdDs
        simp only
        rw [rdD_of h1 q1 (by omega), rdDs_of h2 q2 (by omega)]
end
theorem See.look {w : HV} {d : D} {p : PyData} (h : See Sh sa st env s w d) (e : d.look = some p) : rd st w = some p ∧ SeqAt.shaped p = true := by
  unfold D.look at e
  split at e
  · rename_i hn
    split at e
    · rename_i q hq
      split at e
      · rename_i hs
        cases e
        exact ⟨rdD_of h.any hq hn, hs⟩
      · cases e
    · cases e
  · cases e
end Ih
end
section
set_option Elab.async false
set_option linter.all false
set_option maxHeartbeats 1000000
namespace Ih
open PySem
variable {Sh Sh' : Nat → Prop} {sa sa' : Sa} {st st' : Hs} {n0 : Nat} {env env' : Env} {s s' : Ps} {occ occ' : Nat → Bool} {n : Nat}
theorem mutOf_at {a : Nat} {hs : List HV} (h : st[a]? = some (.lst hs)) : mutOf st (.ref a) = some (a, hs) := by simp [mutOf, h]
theorem lstOf_at {a : Nat} {hs : List HV} (h : st[a]? = some (.lst hs)) : lstOf st (.ref a) = some hs := by simp [lstOf, h]
theorem bin_int {op : Bop} {i j : Int} {v : PV} (e : binP op (.int i) (.int j) = some v) : ∃ k, v = .sh (.int k) ∧ binH op (.int i) (.int j) st = .ok (.int k) st := by
  cases op <;> simp only [binP] at e <;> simp only [binH] <;> first
    | (split at e
       · rename_i h
         cases e
         rw [if_pos h]
         exact ⟨_, rfl, rfl⟩
       · cases e)
    | (cases e; exact ⟨_, rfl, rfl⟩)
theorem binP_ok (g : Good n0 Sh sa st env s) (hn : n ≤ st.length) {op : Bop} {w1 w2 : HV} {u v : D} {r : PV} (h1 : See Sh sa st env s w1 u) (h2 : See Sh sa st env s w2 v) (e : binP op u v = some r) : Sim n0 occ Sh sa st env s (PvOk n) (binH op w1 w2 st) (.ok r s) := by
  cases u with
  | int i =>
    cases v with
    | int j =>
      rw [h1.int, h2.int]
      obtain ⟨k, rfl, e2⟩ := bin_int (st := st) e
      rw [e2]
      exact Sim.pure g (.int k)
    | _ => cases op <;> simp [binP] at e
  | lst xs =>
    obtain ⟨a, hs, rfl, c1, c2⟩ := h1.lst
    cases v with
    | lst ys =>
      obtain ⟨b, ks, rfl, d1, d2⟩ := h2.lst
      cases op <;> simp only [binP] at e <;> first | (cases e; done) | skip
      split at e
      · rename_i h
        cases e
        have ez : binH .add (.ref a) (.ref b) st = alloc (.lst (hs ++ ks)) st := by
          simp only [binH, mutOf_at c1, mutOf_at d1]
          rw [if_pos (by rw [c2.length, d2.length]; exact h)]
        rw [ez]
        exact Sim.ow g hn (c2.append d2)
      · cases e
    | int k =>
      rw [h2.int]
      cases op <;> simp only [binP] at e <;> first | (cases e; done) | skip
      split at e
      · rename_i h
        cases e
        have ez : binH .mul (.ref a) (.int k) st = alloc (.lst (List.replicate k.toNat hs).flatten) st := by
          simp only [binH, mutOf_at c1]
          rw [if_pos (by rw [c2.length]; exact h)]
        rw [ez]
        exact Sim.ow g hn (c2.rep _)
      · cases e
    | _ => cases op <;> simp [binP] at e
  | _ => cases op <;> simp [binP] at e
theorem notNon {w : HV} {d : D} (h : See Sh sa st env s w d) : decide (w = .non) = d.isNon := by
  cases h with
  | sh h => cases h <;> rfl
  | ow _ _ _ _ => rfl
theorem See.flat {w : HV} {u : D} {d : PyData} (h : See Sh sa st env s w u) (e : u.flat = some d) : w.flat = some d := by
  cases u with
  | non => rw [h.non]; exact e
  | bl b => rw [h.bl]; exact e
  | int i => rw [h.int]; exact e
  | str z => rw [h.str]; exact e
  | _ => cases e
theorem flat_rd {w : HV} {u : D} {d : PyData} (h : RdS Sh sa st w u) (e : u.flat = some d) : w.flat = some d := by
  cases h <;> first | exact e | (cases e; done)
theorem flats_rd : ∀ {hs : List HV} {xs : List D} {ds : List PyData}, RdSs Sh sa st hs xs → flatsD xs = some ds → flats hs = some ds
  | _, _, ds, .nil, e => e
  | _, _, ds, .cons (d := d) (ds := r) h1 h2, e => by
    unfold flatsD at e
    cases e1 : d.flat with
    | none => rw [e1] at e; cases e
    | some b =>
      cases e2 : flatsD r with
      | none => rw [e1, e2] at e; cases e
      | some bs =>
        rw [e1, e2] at e
        unfold flats
        rw [flat_rd h1 e1, flats_rd h2 e2]
        exact e
theorem look_str_no {z : Str} : ¬ ∃ ds, (D.str z).look = some (.list ds) := by
  rintro ⟨ds, h⟩
  have e : (D.str z).look = if SeqAt.shaped (.str z) then some (.str z) else none := by
    show (if 1 ≤ deepN then (if SeqAt.shaped (.str z) = true then some (PyData.str z) else none) else none) = _
    rw [if_pos (by decide)]
  rw [e] at h
  by_cases q : SeqAt.shaped (.str z) = true
  · rw [if_pos q] at h
    have := Option.some.inj h
    cases this
  · rw [if_neg q] at h
    cases h
theorem cmpP_inn_no {a b : D} {r : Bool} (h : ¬ ∃ ds, b.look = some (.list ds)) (ht : ∀ xs, b ≠ .tup xs) : cmpP .inn a b ≠ some r := by
  intro e
  have e2 : cmpP .inn a b = (match a.look, b.look with
    | some d, some (.list ds) => some (ds.any fun z => PyData.eqv z d)
    | _, _ => none) := by cases b <;> first | rfl | exact absurd rfl (ht _)
  rw [e2] at e
  split at e
  · rename_i d ds h1 h2
    exact h ⟨ds, h2⟩
  · cases e
theorem cmpP_nin_no {a b : D} {r : Bool} (h : ¬ ∃ ds, b.look = some (.list ds)) (ht : ∀ xs, b ≠ .tup xs) : cmpP .nin a b ≠ some r := by
  intro e
  have e2 : cmpP .nin a b = (match a.look, b.look with
    | some d, some (.list ds) => some (!ds.any fun z => PyData.eqv z d)
    | _, _ => none) := by cases b <;> first | rfl | exact absurd rfl (ht _)
  rw [e2] at e
  split at e
  · rename_i d ds h1 h2
    exact h ⟨ds, h2⟩
  · cases e
theorem cmpP_ok (g : Good n0 Sh sa st env s) {op : Cop} {w1 w2 : HV} {u v : D} {r : Bool} (h1 : See Sh sa st env s w1 u) (h2 : See Sh sa st env s w2 v) (e : cmpP op u v = some r) : cmpH op w1 w2 st = .ok (.bl r) st := by
  have ord : ∀ i j, u = .int i → v = .int j → w1 = .int i ∧ w2 = .int j := fun i j a b => ⟨(a ▸ h1).int, (b ▸ h2).int⟩
  have lk : ∀ {d p}, D.look u = some d → D.look v = some p → rd st w1 = some d ∧ rd st w2 = some p ∧ (SeqAt.shaped d && SeqAt.shaped p) = true := fun {d p} a b => by
    obtain ⟨a1, a2⟩ := h1.look a
    obtain ⟨b1, b2⟩ := h2.look b
    exact ⟨a1, b1, by rw [a2, b2]; rfl⟩
  cases op with
  | lt => cases u <;> cases v <;> simp only [cmpP] at e <;> first | (cases e; done) | (obtain ⟨rfl, rfl⟩ := ord _ _ rfl rfl; cases e; rfl)
  | le => cases u <;> cases v <;> simp only [cmpP] at e <;> first | (cases e; done) | (obtain ⟨rfl, rfl⟩ := ord _ _ rfl rfl; cases e; rfl)
  | gt => cases u <;> cases v <;> simp only [cmpP] at e <;> first | (cases e; done) | (obtain ⟨rfl, rfl⟩ := ord _ _ rfl rfl; cases e; rfl)
  | ge => cases u <;> cases v <;> simp only [cmpP] at e <;> first | (cases e; done) | (obtain ⟨rfl, rfl⟩ := ord _ _ rfl rfl; cases e; rfl)
  | is =>
    cases v <;> simp only [cmpP] at e <;> first | (cases e; done) | skip
    rw [h2.non]
    cases e
    show Res.ok (HV.bl (decide (w1 = .non))) st = _
    rw [notNon h1]
  | isn =>
    cases v <;> simp only [cmpP] at e <;> first | (cases e; done) | skip
    rw [h2.non]
    cases e
    show Res.ok (HV.bl (!decide (w1 = .non))) st = _
    rw [notNon h1]
  | eq =>
    simp only [cmpP] at e
    split at e
    · rename_i d p hd hp
      cases e
      obtain ⟨k1, k2, k3⟩ := lk hd hp
      simp [cmpH, k1, k2, k3]
    · cases e
  | ne =>
    simp only [cmpP] at e
    split at e
    · rename_i d p hd hp
      cases e
      obtain ⟨k1, k2, k3⟩ := lk hd hp
      simp [cmpH, k1, k2, k3]
    · cases e
  | inn =>
    cases v with
    | tup xs =>
      simp only [cmpP] at e
      split at e
      · rename_i d ds hd hp
        cases e
        obtain ⟨a, hs, rfl, _, c1, c2⟩ := h2.tup
        have et : tupOf st (.ref a) = some hs := by simp only [tupOf, c1]
        rw [cmpH_inn, et]
        dsimp only
        rw [h1.flat hd, flats_rd c2 hp]
      · cases e
    | lst xs =>
      simp only [cmpP] at e
      split at e
      · rename_i d p hd hp
        cases e
        obtain ⟨a, hs, rfl, c1, c2⟩ := h2.lst
        have et : tupOf st (.ref a) = none := by simp only [tupOf, c1]
        obtain ⟨k1, k2, k3⟩ := lk hd hp
        rw [cmpH_inn, et]
        dsimp only
        rw [k1, k2]
        dsimp only
        rw [if_pos k3]
      · cases e
    | str z => exact absurd e (cmpP_inn_no look_str_no (fun _ z => by cases z))
    | _ => exact absurd e (cmpP_inn_no (by rintro ⟨ds, hz⟩; cases hz) (fun _ z => by cases z))
  | nin =>
    cases v with
    | tup xs =>
      simp only [cmpP] at e
      split at e
      · rename_i d ds hd hp
        cases e
        obtain ⟨a, hs, rfl, _, c1, c2⟩ := h2.tup
        have et : tupOf st (.ref a) = some hs := by simp only [tupOf, c1]
        rw [cmpH_nin, et]
        dsimp only
        rw [h1.flat hd, flats_rd c2 hp]
      · cases e
    | lst xs =>
      simp only [cmpP] at e
      split at e
      · rename_i d p hd hp
        cases e
        obtain ⟨a, hs, rfl, c1, c2⟩ := h2.lst
        have et : tupOf st (.ref a) = none := by simp only [tupOf, c1]
        obtain ⟨k1, k2, k3⟩ := lk hd hp
        rw [cmpH_nin, et]
        dsimp only
        rw [k1, k2]
        dsimp only
        rw [if_pos k3]
      · cases e
    | str z => exact absurd e (cmpP_nin_no look_str_no (fun _ z => by cases z))
    | _ => exact absurd e (cmpP_nin_no (by rintro ⟨ds, hz⟩; cases hz) (fun _ z => by cases z))
theorem atI_get {α β : Type} {xs : List α} {ys : List β} (hl : xs.length = ys.length) {i : Int} {y : β} (e : L2.atI ys i = some y) : ∃ k : Nat, ys[k]? = some y ∧ L2.atI xs i = xs[k]? := by
  unfold L2.atI at e ⊢
  rw [hl]
  cases q : L2.ixN ys.length i with
  | none => rw [q] at e; cases e
  | some k => rw [q] at e; exact ⟨k, e, rfl⟩
theorem subP_ok (g : Good n0 Sh sa st env s) {w1 w2 : HV} {u v d : D} (h1 : See Sh sa st env s w1 u) (h2 : RdS Sh sa st w2 v) (e : subP u v = some d) : Sim n0 occ Sh sa st env s (PvOk n) (subH w1 w2 st) (.ok (.sh d) s) := by
  cases v with
  | int i =>
    cases h2
    cases u with
    | str z =>
      rw [h1.str]
      simp only [subP] at e
      split at e
      · rename_i hz
        cases q : L2.atI z.cps.toList i with
        | none => rw [q] at e; cases e
        | some c =>
          rw [q] at e
          cases e
          have ez : subH (.str z) (.int i) st = .ok (.str ⟨#[c]⟩) st := by
            simp only [subH]
            rw [if_pos hz, q]
          rw [ez]
          exact Sim.pure g (.str _)
      · cases e
    | lst xs =>
      obtain ⟨a, hs, rfl, c1, c2⟩ := h1.lst
      obtain ⟨k, e1, e2⟩ := atI_get c2.length (show L2.atI xs i = some d from e)
      obtain ⟨w, e3, r⟩ := c2.get e1
      have ez : subH (.ref a) (.int i) st = .ok w st := by
        simp only [subH, seqOf, c1]
        rw [e2, e3]
      rw [ez]
      exact Sim.pure g r
    | tup xs =>
      obtain ⟨a, hs, rfl, _, c1, c2⟩ := h1.tup
      obtain ⟨k, e1, e2⟩ := atI_get c2.length (show L2.atI xs i = some d from e)
      obtain ⟨w, e3, r⟩ := c2.get e1
      have ez : subH (.ref a) (.int i) st = .ok w st := by
        simp only [subH, seqOf, c1]
        rw [e2, e3]
      rw [ez]
      exact Sim.pure g r
    | _ => simp [subP] at e
  | _ => cases u <;> simp [subP] at e
theorem cut_all {α : Type} {xs : List α} {lo hi : Option Int} (h : HT.sIx xs.length 0 lo = 0 ∧ HT.sIx xs.length xs.length hi = xs.length) : cutL xs lo hi = xs := by
  unfold cutL
  rw [h.1, h.2]
  simp
theorem slcP_ok (g : Good n0 Sh sa st env s) (hn : n ≤ st.length) {w : HV} {u : D} {lo hi : Option Int} {r : PV} (h : See Sh sa st env s w u) (e : slcP u lo hi = some r) : Sim n0 occ Sh sa st env s (PvOk n) (slcH w lo hi st) (.ok r s) := by
  cases u with
  | lst xs =>
    obtain ⟨a, hs, rfl, c1, c2⟩ := h.lst
    cases e
    have ez : slcH (.ref a) lo hi st = alloc (.lst (cutL hs lo hi)) st := by simp only [slcH, lstOf, c1]
    rw [ez]
    exact Sim.ow g hn (c2.cut lo hi)
  | tup xs =>
    obtain ⟨a, hs, rfl, c0, c1, c2⟩ := h.tup
    cases e
    by_cases hh : HT.sIx hs.length 0 lo = 0 ∧ HT.sIx hs.length hs.length hi = hs.length
    · have ez : slcH (.ref a) lo hi st = .ok (.ref a) st := by
        simp only [slcH, lstOf, tupOf, c1]
        rw [if_pos hh]
      rw [ez]
      have hh2 := hh
      rw [c2.length] at hh2
      rw [cut_all hh2]
      exact Sim.pure g (.tup c0 c1 c2)
    · have ez : slcH (.ref a) lo hi st = alloc (.tup (cutL hs lo hi)) st := by
        simp only [slcH, lstOf, tupOf, c1]
        rw [if_neg hh]
      rw [ez]
      exact Sim.tup g (c2.cut lo hi)
  | _ => cases e
theorem stpP_ok (g : Good n0 Sh sa st env s) (hn : n ≤ st.length) {w : HV} {u : D} {l k : Option Int} {r : PV} (h : See Sh sa st env s w u) (e : stpP u l k = some r) : Sim n0 occ Sh sa st env s (PvOk n) (stpH w l k st) (.ok r s) := by
  cases u with
  | lst xs =>
    cases l with
    | none => cases e
    | some i =>
      cases k with
      | none => cases e
      | some j =>
        obtain ⟨a, hs, rfl, c1, c2⟩ := h.lst
        simp only [stpP] at e
        split at e
        · rename_i hz
          cases e
          have ez : stpH (.ref a) (some i) (some j) st = alloc (.lst (stepL hs i.toNat j.toNat)) st := by
            unfold stpH
            rw [lstOf_at c1]
            dsimp only
            rw [if_pos hz]
          rw [ez]
          exact Sim.ow g hn (c2.step _ _)
        · cases e
  | _ => cases e
theorem RdSs.empty {hs : List HV} {xs : List D} (h : RdSs Sh sa st hs xs) : hs.isEmpty = xs.isEmpty := by cases h <;> rfl
theorem truP_ok {w : HV} {d : D} {b : Bool} (h : See Sh sa st env s w d) (e : truP d = some b) : tru st w = some b := by
  cases d with
  | lst xs =>
    obtain ⟨a, hs, rfl, c1, c2⟩ := h.lst
    cases e
    simp only [tru, c1]
    rw [c2.empty]
  | tup xs =>
    obtain ⟨a, hs, rfl, _, c1, c2⟩ := h.tup
    cases e
    simp only [tru, c1]
    rw [c2.empty]
  | dic0 =>
    cases e
    cases h with
    | sh h => cases h with
      | dic0 h1 h2 => simp [tru, h2]
  | non => rw [h.non]; exact e
  | bl b => rw [h.bl]; exact e
  | int b => rw [h.int]; exact e
  | str b => rw [h.str]; exact e
  | _ => cases e
theorem tyP_ok {w : HV} {d : D} {t : Ty} (h : See Sh sa st env s w d) (e : tyP d = some t) : tyOf st w = some t := by
  cases d with
  | lst xs =>
    obtain ⟨a, hs, rfl, c1, c2⟩ := h.lst
    cases e
    simp only [tyOf, c1]
  | tup xs =>
    obtain ⟨a, hs, rfl, _, c1, c2⟩ := h.tup
    cases e
    simp only [tyOf, c1]
  | dic0 =>
    cases e
    cases h with
    | sh h => cases h with
      | dic0 h1 h2 => simp [tyOf, h2]
  | bl b => rw [h.bl]; exact e
  | int b => rw [h.int]; exact e
  | str b => rw [h.str]; exact e
  | _ => cases e
theorem isiP_ok {w : HV} {d : D} {ts : List Ty} {b : Bool} (h : See Sh sa st env s w d) (e : isiP d ts = some b) : isiH st w ts = some b := by
  cases d with
  | non => rw [h.non]; exact e
  | _ =>
    all_goals
      simp only [isiP] at e
      cases q : tyP _ with
      | none => rw [q] at e; cases e
      | some t =>
        rw [q] at e
        have z := tyP_ok h q
        cases w with
        | non => cases z
        | _ => simp only [isiH, z]; exact e
theorem ints_nobls {hs : List HV} {xs : List D} {ns : List Int} (h : RdSs Sh sa st hs xs) (q : blsD xs = none) (e : intsD xs = some ns) : blsOf hs = none := by
  cases h with
  | nil => cases q
  | cons h1 h2 =>
    cases h1 <;> first | rfl | (cases e; done) | skip
    all_goals (simp only [intsD] at e; first | (cases e; done) | rfl)
theorem insK_map {α β : Type} {k : α → Int × Int} {k' : β → Int × Int} {g : α → β} (h : ∀ x, k' (g x) = k x) (x : α) : ∀ l : List α, (insK k x l).map g = insK k' (g x) (l.map g)
  | [] => rfl
  | y :: r => by
    rw [List.map_cons]
    unfold insK
    rw [h, h]
    split
    · rfl
    · rw [List.map_cons, insK_map h x r]
theorem sortK_map {α β : Type} {k : α → Int × Int} {k' : β → Int × Int} {g : α → β} (h : ∀ x, k' (g x) = k x) : ∀ l : List α, (sortK k l).map g = sortK k' (l.map g)
  | [] => rfl
  | x :: r => by rw [sortK, insK_map h, sortK_map h r, List.map_cons, sortK]
theorem prsD_eq : ∀ {xs : List D} {ps : List (Int × Int)}, prsD xs = some ps → xs = ps.map prD
  | [], ps, e => by cases e; rfl
  | x :: r, ps, e => by
    unfold prsD at e
    split at e
    · rename_i a b qs e2
      cases e
      rw [List.map_cons, ← prsD_eq e2]
      rfl
    · cases e
theorem tup2_rd {w : HV} {a b : Int} (h : RdS Sh sa st w (.tup [.int a, .int b])) : tupOf st w = some [.int a, .int b] := by
  cases h with
  | tup h1 h2 h3 =>
    cases h3 with
    | cons x1 t1 =>
      cases t1 with
      | cons x2 t2 =>
        cases t2
        cases x1
        cases x2
        simp only [tupOf, h2]
theorem prs_rd : ∀ {hs : List HV} {xs : List D} {ps : List (Int × Int)}, RdSs Sh sa st hs xs → prsD xs = some ps → prsOf st hs = some ps
  | _, _, ps, .nil, e => e
  | _, _, ps, .cons (d := d) (ds := r) h1 h2, e => by
    unfold prsD at e
    split at e
    · rename_i a b qs e2
      cases e
      unfold prsOf
      rw [tup2_rd h1, prs_rd h2 e2]
    · cases e
theorem prs_noints {hs : List HV} {xs : List D} {ps : List (Int × Int)} (h : RdSs Sh sa st hs xs) (q : intsD xs = none) (e : prsD xs = some ps) : intsOf hs = none := by
  cases h with
  | nil => cases q
  | cons h1 h2 =>
    unfold prsD at e
    split at e
    · cases h1
      rfl
    · cases e
theorem prs_sort {hs : List HV} {xs : List D} {ps : List (Int × Int)} (h : RdSs Sh sa st hs xs) (e : prsD xs = some ps) : RdSs Sh sa st ((sortK (fun z => z.2) (hs.zip ps)).map fun z => z.1) ((sortK (fun p => p) ps).map prD) := by
  have ex := prsD_eq e
  subst ex
  have hl : hs.length = ps.length := by
    have := h.length
    rwa [List.length_map] at this
  have e1 : (sortK (fun p => p) ps) = (sortK (fun z : HV × (Int × Int) => z.2) (hs.zip ps)).map fun z => z.2 := by
    rw [sortK_map (k := fun z : HV × (Int × Int) => z.2) (k' := fun p => p) (g := fun z => z.2) (fun _ => rfl), List.map_snd_zip (by omega)]
  have all : ∀ z ∈ hs.zip ps, RdS Sh sa st z.1 (prD z.2) := by
    clear e e1 hl
    induction ps generalizing hs with
    | nil => intro z hz; rw [List.zip_nil_right] at hz; exact (List.not_mem_nil hz).elim
    | cons p r ih =>
      cases h with
      | cons h1 h2 =>
        intro z hz
        rw [List.zip_cons_cons] at hz
        rcases List.mem_cons.mp hz with rfl | hz
        · exact h1
        · exact ih h2 z hz
  rw [e1, List.map_map]
  have mk : ∀ L : List (HV × (Int × Int)), (∀ z ∈ L, RdS Sh sa st z.1 (prD z.2)) → RdSs Sh sa st (L.map fun z => z.1) (L.map (prD ∘ fun z => z.2)) := by
    intro L
    induction L with
    | nil => exact fun _ => .nil
    | cons z r ih => exact fun k => .cons (k z List.mem_cons_self) (ih fun y hy => k y (List.mem_cons_of_mem _ hy))
  exact mk _ fun z hz => all z ((sortK_perm _ _).mem_iff.mp hz)
theorem ints_ok : ∀ {hs : List HV} {xs : List D} {ns : List Int}, RdSs Sh sa st hs xs → intsD xs = some ns → intsOf hs = some ns
  | _, _, ns, .nil, e => by cases e; rfl
  | _, _, ns, .cons (d := d) (ds := ds) h1 h2, e => by
    cases d with
    | int i =>
      cases h1
      simp only [intsD] at e
      cases q : intsD ds with
      | none => rw [q] at e; cases e
      | some ms =>
        rw [q] at e
        simp only [intsOf]
        rw [ints_ok h2 q]
        exact e
    | _ => cases e
theorem bls_ok : ∀ {hs : List HV} {xs : List D} {ns : List Bool}, RdSs Sh sa st hs xs → blsD xs = some ns → blsOf hs = some ns
  | _, _, ns, .nil, e => by cases e; rfl
  | _, _, ns, .cons (d := d) (ds := ds) h1 h2, e => by
    cases d with
    | bl i =>
      cases h1
      simp only [blsD] at e
      cases q : blsD ds with
      | none => rw [q] at e; cases e
      | some ms =>
        rw [q] at e
        simp only [blsOf]
        rw [bls_ok h2 q]
        exact e
    | _ => cases e
theorem rgD_ok {a b : Int} : RdSs Sh sa st (rgL a b) (rgD a b) := by
  unfold rgL rgD
  generalize List.range (b - a).toNat = l
  induction l with
  | nil => exact .nil
  | cons x r ih => exact .cons (.int _) ih
/-- operands that are looked at -/
inductive Sees (Sh : Nat → Prop) (sa : Sa) (st : Hs) (env : Env) (s : Ps) : List HV → List D → Prop
  | nil : Sees Sh sa st env s [] []
  | cons {w : HV} {d : D} {ws : List HV} {ds : List D} : See Sh sa st env s w d → Sees Sh sa st env s ws ds → Sees Sh sa st env s (w :: ws) (d :: ds)
theorem sees_one {ws : List HV} {d : D} (h : Sees Sh sa st env s ws [d]) : ∃ w, ws = [w] ∧ See Sh sa st env s w d := by
  cases h with
  | cons h1 h2 => cases h2; exact ⟨_, rfl, h1⟩
theorem sees_two {ws : List HV} {d e : D} (h : Sees Sh sa st env s ws [d, e]) : ∃ w u, ws = [w, u] ∧ See Sh sa st env s w d ∧ See Sh sa st env s u e := by
  cases h with
  | cons h1 h2 =>
    obtain ⟨u, rfl, h3⟩ := sees_one h2
    exact ⟨_, u, rfl, h1, h3⟩
theorem biP_len (g : Good n0 Sh sa st env s) {w : HV} {d : D} {r : PV} (h : See Sh sa st env s w d) (e : biP .len [d] = some r) : Sim n0 occ Sh sa st env s (PvOk n) (biH .len [w] st) (.ok r s) := by
  have it : ∀ {xs : List D}, d.items = some xs → r = .sh (.int xs.length) → Sim n0 occ Sh sa st env s (PvOk n) (biH .len [w] st) (.ok r s) := fun {xs} e1 e2 => by
    subst e2
    obtain ⟨hs, k1, k2⟩ := h.items e1
    have ez : biH .len [w] st = .ok (.int hs.length) st := by
      cases w <;> first | (simp [seqOf] at k1; done) | simp only [biH, k1]
    rw [ez, k2.length]
    exact Sim.pure g (.int _)
  cases d with
  | str z =>
    rw [h.str]
    simp only [biP] at e
    split at e
    · rename_i hz
      cases e
      have ez : biH .len [.str z] st = .ok (.int z.length) st := by
        simp only [biH]
        rw [if_pos hz]
      rw [ez]
      exact Sim.pure g (.int _)
    · cases e
  | lst xs => cases e; exact it rfl rfl
  | tup xs => cases e; exact it rfl rfl
  | _ => cases e
theorem biP_ok (g : Good n0 Sh sa st env s) (hn : n ≤ st.length) {b : Bi} {ws : List HV} {ds : List D} {r : PV} (h : Sees Sh sa st env s ws ds) (e : biP b ds = some r) : Sim n0 occ Sh sa st env s (PvOk n) (biH b ws st) (.ok r s) := by
  have i1 : ∀ {i : Int}, ds = [.int i] → ws = [.int i] := fun {i} q => by
    subst q
    obtain ⟨w, rfl, k⟩ := sees_one h
    rw [k.int]
  have i2 : ∀ {i j : Int}, ds = [.int i, .int j] → ws = [.int i, .int j] := fun {i j} q => by
    subst q
    obtain ⟨w, u, rfl, k, k2⟩ := sees_two h
    rw [k.int, k2.int]
  have l1 : ∀ {xs : List D}, ds = [.lst xs] → ∃ a hs, ws = [.ref a] ∧ st[a]? = some (.lst hs) ∧ RdSs Sh sa st hs xs := fun {xs} q => by
    subst q
    obtain ⟨w, rfl, k⟩ := sees_one h
    obtain ⟨a, hs, rfl, c1, c2⟩ := k.lst
    exact ⟨a, hs, rfl, c1, c2⟩
  cases b with
  | len =>
    match ds, h, e with
    | [d], h, e =>
      obtain ⟨w, rfl, k⟩ := sees_one h
      exact biP_len g k e
    | [], _, e => cases e
    | d :: _ :: _, _, e => cases d <;> simp [biP] at e
  | abs =>
    match ds, h, e with
    | [.int i], h, e =>
      cases e
      rw [i1 rfl]
      exact Sim.pure g (.int _)
  | int =>
    match ds, h, e with
    | [.int i], h, e =>
      cases e
      rw [i1 rfl]
      exact Sim.pure g (.int _)
    | [.bl k], h, e =>
      cases e
      obtain ⟨w, rfl, q⟩ := sees_one h
      rw [q.bl]
      exact Sim.pure g (.int _)
  | max2 =>
    match ds, h, e with
    | [.int i, .int j], h, e =>
      cases e
      rw [i2 rfl]
      exact Sim.pure g (.int _)
  | min2 =>
    match ds, h, e with
    | [.int i, .int j], h, e =>
      cases e
      rw [i2 rfl]
      exact Sim.pure g (.int _)
  | lrg1 =>
    match ds, h, e with
    | [.int i], h, e =>
      rw [i1 rfl]
      simp only [biP] at e
      split at e
      · rename_i hz
        cases e
        have ez : biH .lrg1 [.int i] st = alloc (.lst (rgL 0 i)) st := by simp only [biH]; rw [if_pos hz]
        rw [ez]
        exact Sim.ow g hn rgD_ok
      · cases e
  | lrg2 =>
    match ds, h, e with
    | [.int i, .int j], h, e =>
      rw [i2 rfl]
      simp only [biP] at e
      split at e
      · rename_i hz
        cases e
        have ez : biH .lrg2 [.int i, .int j] st = alloc (.lst (rgL i j)) st := by simp only [biH]; rw [if_pos hz]
        rw [ez]
        exact Sim.ow g hn rgD_ok
      · cases e
  | sum =>
    match ds, h, e with
    | [.lst xs], h, e =>
      obtain ⟨a, hs, rfl, c1, c2⟩ := l1 rfl
      simp only [biP] at e
      cases q : intsD xs with
      | none => rw [q] at e; cases e
      | some ns =>
        rw [q] at e
        cases e
        have ez : biH .sum [.ref a] st = .ok (.int ns.sum) st := by simp only [biH, lstOf_at c1, Option.bind, ints_ok c2 q]
        rw [ez]
        exact Sim.pure g (.int _)
  | any =>
    match ds, h, e with
    | [.lst xs], h, e =>
      obtain ⟨a, hs, rfl, c1, c2⟩ := l1 rfl
      simp only [biP] at e
      cases q : blsD xs with
      | none => rw [q] at e; cases e
      | some ns =>
        rw [q] at e
        cases e
        have ez : biH .any [.ref a] st = .ok (.bl (ns.any id)) st := by simp only [biH, lstOf_at c1, Option.bind, bls_ok c2 q]
        rw [ez]
        exact Sim.pure g (.bl _)
  | all =>
    match ds, h, e with
    | [.lst xs], h, e =>
      obtain ⟨a, hs, rfl, c1, c2⟩ := l1 rfl
      simp only [biP] at e
      cases q : blsD xs with
      | none =>
        rw [q] at e
        cases q2 : intsD xs with
        | none => rw [q2] at e; cases e
        | some ns =>
          rw [q2] at e
          cases e
          have ez : biH .all [.ref a] st = .ok (.bl (ns.all fun i => i != 0)) st := by
            unfold biH
            dsimp only
            rw [lstOf_at c1]
            dsimp only [Option.bind]
            rw [ints_nobls c2 q q2]
            dsimp only
            rw [ints_ok c2 q2]
          rw [ez]
          exact Sim.pure g (.bl _)
      | some ns =>
        rw [q] at e
        cases e
        have ez : biH .all [.ref a] st = .ok (.bl (ns.all id)) st := by simp only [biH, lstOf_at c1, Option.bind, bls_ok c2 q]
        rw [ez]
        exact Sim.pure g (.bl _)
  | max1 =>
    match ds, h, e with
    | [.lst xs], h, e =>
      obtain ⟨a, hs, rfl, c1, c2⟩ := l1 rfl
      simp only [biP] at e
      cases q : intsD xs with
      | none => rw [q] at e; cases e
      | some ns =>
        rw [q] at e
        cases ns with
        | nil => cases e
        | cons m ms =>
          cases e
          have ez : biH .max1 [.ref a] st = .ok (.int (maxI m ms)) st := by simp only [biH, lstOf_at c1, Option.bind, ints_ok c2 q]
          rw [ez]
          exact Sim.pure g (.int _)
  | min1 =>
    match ds, h, e with
    | [.lst xs], h, e =>
      obtain ⟨a, hs, rfl, c1, c2⟩ := l1 rfl
      simp only [biP] at e
      cases q : intsD xs with
      | none => rw [q] at e; cases e
      | some ns =>
        rw [q] at e
        cases ns with
        | nil => cases e
        | cons m ms =>
          cases e
          have ez : biH .min1 [.ref a] st = .ok (.int (minI m ms)) st := by simp only [biH, lstOf_at c1, Option.bind, ints_ok c2 q]
          rw [ez]
          exact Sim.pure g (.int _)
  | list =>
    match ds, h, e with
    | [d], h, e =>
      obtain ⟨w, rfl, k⟩ := sees_one h
      simp only [biP] at e
      cases q : d.items with
      | none => rw [q] at e; cases e
      | some xs =>
        rw [q] at e
        cases e
        obtain ⟨hs, k1, k2⟩ := k.items q
        have ez : biH .list [w] st = alloc (.lst hs) st := by simp only [biH, k1]
        rw [ez]
        exact Sim.ow g hn k2
    | [], _, e => cases e
    | d :: _ :: _, _, e => cases d <;> cases e
  | tuple =>
    match ds, h, e with
    | [d], h, e =>
      obtain ⟨w, rfl, k⟩ := sees_one h
      cases d with
      | lst xs =>
        cases e
        obtain ⟨a, hs, rfl, c1, c2⟩ := k.lst
        have ez : biH .tuple [.ref a] st = alloc (.tup hs) st := by simp only [biH, lstOf_at c1]
        rw [ez]
        exact Sim.tup g c2
      | tup xs =>
        cases e
        obtain ⟨a, hs, rfl, c0, c1, c2⟩ := k.tup
        have ez : biH .tuple [.ref a] st = .ok (.ref a) st := by simp only [biH, lstOf, tupOf, c1]
        rw [ez]
        exact Sim.pure g (.tup c0 c1 c2)
      | _ => cases e
    | [], _, e => cases e
    | d :: _ :: _, _, e => cases d <;> cases e
  | sorted =>
    match ds, h, e with
    | [.lst xs], h, e =>
      obtain ⟨a, hs, rfl, c1, c2⟩ := l1 rfl
      simp only [biP] at e
      cases q : intsD xs with
      | none =>
        rw [q] at e
        cases q2 : prsD xs with
        | none => rw [q2] at e; cases e
        | some ps =>
          rw [q2] at e
          cases e
          have ez : biH .sorted [.ref a] st = alloc (.lst ((sortK (fun z => z.2) (hs.zip ps)).map fun z => z.1)) st := by
            unfold biH
            dsimp only
            rw [lstOf_at c1]
            dsimp only [Option.bind]
            rw [prs_noints c2 q q2]
            dsimp only
            rw [prs_rd c2 q2]
          rw [ez]
          exact Sim.ow g hn (prs_sort c2 q2)
      | some ns =>
        rw [q] at e
        cases e
        have ez : biH .sorted [.ref a] st = alloc (.lst ((sortI ns).map .int)) st := by simp only [biH, lstOf_at c1, Option.bind, ints_ok c2 q]
        rw [ez]
        exact Sim.ow g hn (RdSs.ints _)
  | dict =>
    match ds, h, e with
    | [.lst []], h, e =>
      obtain ⟨a, hs, rfl, c1, c2⟩ := l1 rfl
      cases e
      cases c2
      have ez : biH .dict [.ref a] st = alloc (.dic []) st := by simp only [biH, lstOf_at c1]
      rw [ez]
      exact Sim.dic0 g
  | litm =>
    match ds, h, e with
    | [.dic0], h, e =>
      obtain ⟨w, rfl, k⟩ := sees_one h
      cases e
      cases k with
      | sh k => cases k with
        | dic0 h1 h2 =>
          have ez : ∀ a : Nat, st[a]? = some (.dic []) → biH .litm [.ref a] st = alloc (.lst []) st := fun a h2 => by simp only [biH, dicOf, h2]
          rw [ez _ h2]
          exact Sim.ow g hn .nil
/-- a method of a list -/
theorem metP_ok {m : Me} {a : Nat} {hs : List HV} {xs ys ds : List D} {ws : List HV} {d : D} (c1 : st[a]? = some (.lst hs)) (c2 : RdSs Sh sa st hs xs) (h : Sees Sh sa st env s ws ds) (hsh : m ≠ .extend → RdSs Sh sa st ws ds) (e : metP m xs ds = some (d, ys)) :
    ∃ w ks, metH m (.ref a) ws st = .ok w (st.set a (.lst ks)) ∧ RdS Sh sa st w d ∧ RdSs Sh sa st ks ys := by
  cases m with
  | append =>
    match ds, h, hsh, e with
    | [y], h, hsh, e =>
      obtain ⟨w, rfl, k⟩ := sees_one h
      have hy := hsh (by decide)
      simp only [metP] at e
      split at e
      · rename_i hz
        cases e
        refine ⟨.non, hs ++ [w], ?_, .non, c2.append hy⟩
        simp only [metH, mutOf_at c1]
        rw [if_pos (by rw [c2.length]; exact hz)]
      · cases e
  | extend =>
    match ds, h, hsh, e with
    | [.lst zs], h, hsh, e =>
      obtain ⟨w, rfl, k⟩ := sees_one h
      obtain ⟨b, ks, rfl, d1, d2⟩ := k.lst
      simp only [metP] at e
      split at e
      · rename_i hz
        cases e
        refine ⟨.non, hs ++ ks, ?_, .non, c2.append d2⟩
        simp only [metH, mutOf_at c1, mutOf_at d1]
        rw [if_pos (by rw [c2.length, d2.length]; exact hz)]
      · cases e
  | pop0 =>
    match ds, h, hsh, e with
    | [], h, hsh, e =>
      cases h
      simp only [metP] at e
      cases q : xs[xs.length - 1]? with
      | none => rw [q] at e; cases e
      | some y =>
        rw [q] at e
        cases e
        obtain ⟨w, k1, k2⟩ := c2.get q
        refine ⟨w, hs.dropLast, ?_, k2, c2.dropLast⟩
        simp only [metH, mutOf_at c1]
        rw [c2.length, k1]
  | popi =>
    match ds, h, hsh, e with
    | [.int i], h, hsh, e =>
      obtain ⟨w, rfl, k⟩ := sees_one h
      rw [k.int]
      simp only [metP] at e
      split at e
      · rename_i hz
        cases q : seqIndex? i xs.length with
        | none => rw [q] at e; cases e
        | some j =>
          rw [q] at e
          cases q2 : xs[j]? with
          | none => simp only [q2] at e; cases e
          | some y =>
            simp only [q2] at e
            cases e
            obtain ⟨u, k1, k2⟩ := c2.get q2
            refine ⟨u, hs.eraseIdx j, ?_, k2, c2.erase⟩
            simp only [metH, mutOf_at c1]
            rw [if_pos hz, c2.length, q]
            simp only [k1]
      · cases e
  | items => simp [metP] at e
end Ih
end
section
set_option Elab.async false
set_option linter.all false
set_option maxHeartbeats 1000000
namespace Ih
open PySem
variable {Sh Sh' : Nat → Prop} {sa sa' : Sa} {st st' : Hs} {n0 : Nat} {env env' : Env} {s s' : Ps} {occ occ' : Nat → Bool} {n : Nat} {Rh : Rt} {Rq : Rp}
def PRes.map {α β : Type} (f : α → β) : PRes α → PRes β
  | .ok a s => .ok (f a) s
  | .exc c p s => .exc c p s
  | .bad => .bad
theorem pbnd_map {α β : Type} {m : PM α} {f : α → β} : pbnd m (fun v => pret (f v)) s = (m s).map f := by
  unfold pbnd PRes.map
  cases m s <;> rfl
theorem Sim.map {α β γ : Type} {rel : (Nat → Prop) → Sa → Hs → Ps → α → β → Prop} {rel2 : (Nat → Prop) → Sa → Hs → Ps → α → γ → Prop} {r : Res α} {q : PRes β} {f : β → γ} (h : Sim n0 occ Sh sa st env s rel r q) (k : ∀ Sh' sa' st' s' a b, OutE n0 occ Sh sa st env s Sh' sa' st' s' → rel Sh' sa' st' s' a b → rel2 Sh' sa' st' s' a (f b)) : Sim n0 occ Sh sa st env s rel2 r (q.map f) := by
  cases q with
  | bad => exact True.intro
  | exc c p s' => exact h
  | ok b s1 =>
    obtain ⟨a, st1, Sh1, sa1, e1, o, r⟩ := h
    exact ⟨a, st1, Sh1, sa1, e1, o, k _ _ _ _ _ _ o r⟩
/-- the places that names hold of their own lie below -/
theorem ow_lt (g : Good n0 Sh sa st env s) {i a : Nat} {xs : List D} (h : s.env[i]? = some (some (PV.ow xs))) (e : env[i]? = some (some (HV.ref a))) : a < st.length := by
  obtain ⟨b, hs, e1, e2, _⟩ := g.ow i xs h
  rw [e] at e1
  cases e1
  exact lt_of_get e2
/-- a fresh list is shared -/
theorem OutE.shareFr (g : Good n0 Sh sa st env s) (o : OutE n0 occ Sh sa st env s Sh' sa' st' s') {w : HV} {xs : List D} (k : FrOk st.length Sh' sa' st' w xs) : ∃ Sh2, OutE n0 occ Sh sa st env s Sh2 sa' st' s' ∧ RdS Sh2 sa' st' w (.lst xs) := by
  obtain ⟨a, hs, rfl, e2, e3, e4, e5, e6⟩ := k
  refine ⟨fun b => Sh' b ∨ b = a, ⟨o.o.share fun b hb => ?_, o.ebk⟩, .lst (.inr rfl) e2 (e3.mono (fun a h => ⟨.inl h, rfl⟩) fun _ h => h)⟩
  subst hb
  refine ⟨e4, lt_of_get e2, e6, fun i ys h e => ?_⟩
  obtain ⟨zs, k⟩ := o.ebk i ys h
  exact absurd (ow_lt g k e) (Nat.not_lt.mpr e4)
theorem shr_ok (g : Good n0 Sh sa st env s) {r : Res HV} {m : PM PV} (h : Sim n0 occ Sh sa st env s (PvOk st.length) r (m s)) : Sim n0 occ Sh sa st env s DOk r (shr m s) := by
  show Sim n0 occ Sh sa st env s DOk r (pbnd m (fun v => pret v.d) s)
  rw [pbnd_map]
  cases e : m s with
  | bad => exact True.intro
  | exc c p s' => rw [e] at h; exact h
  | ok v s' =>
    rw [e] at h
    obtain ⟨w, st1, Sh1, sa1, e1, o, r1⟩ := h
    cases v with
    | sh d => exact ⟨w, st1, Sh1, sa1, e1, o, r1⟩
    | ow xs =>
      obtain ⟨Sh2, o2, r2⟩ := o.shareFr g r1
      exact ⟨w, st1, Sh2, sa1, e1, o2, r2⟩
def SndE (Rh : Rt) (Rq : Rp) (e : Ex) : Prop := ∀ n0 Sh sa st env s, Good n0 Sh sa st env s → Sim n0 (fun i => occE i e) Sh sa st env s (PvOk st.length) (evE Rh env e st) (evF Rq e s)
/-- an operand of an expression -/
def OdOk2 (env : Env) (e : Ex) : (Nat → Prop) → Sa → Hs → Ps → HV → Od → Prop := fun Sh sa st s w o => OdOk env Sh sa st s w o ∧ ∀ i, o = .own i → occE i e = true
def SndO (Rh : Rt) (Rq : Rp) (e : Ex) : Prop := ∀ n0 Sh sa st env s, Good n0 Sh sa st env s → Sim n0 (fun i => occE i e) Sh sa st env s (OdOk2 env e) (evE Rh env e st) (opd e (evF Rq e) s)
def SndT (Rh : Rt) (Rq : Rp) (e : Ex) : Prop := ∀ n0 Sh sa st env s, Good n0 Sh sa st env s → Sim n0 (fun i => occE i e) Sh sa st env s (fun _ _ _ _ b c => b = c) (bnd (evE Rh env e) testV st) (tst e (evF Rq e) s)
def SndD (Rh : Rt) (Rq : Rp) (e : Ex) : Prop := ∀ n0 Sh sa st env s, Good n0 Sh sa st env s → Sim n0 (fun i => occE i e) Sh sa st env s DOk (evE Rh env e st) (shr (evF Rq e) s)
theorem SndE.d {e : Ex} (h : SndE Rh Rq e) : SndD Rh Rq e := fun n0 Sh sa st env s g => shr_ok g (h n0 Sh sa st env s g)
theorem getV_at {i : Nat} {v : HV} (h : env[i]? = some (some v)) : getV env i st = .ok v st := by simp [getV, h]
theorem opd_eq {e : Ex} {m : PM PV} (h : ∀ i, e ≠ .var i) : opd e m = pbnd m (fun v => pret (.val v.d)) := by cases e <;> first | rfl | exact absurd rfl (h _)
theorem SndE.o {e : Ex} (h : SndE Rh Rq e) : SndO Rh Rq e := by
  intro n0 Sh sa st env s g
  have gen : (∀ i, e ≠ .var i) → Sim n0 (fun i => occE i e) Sh sa st env s (OdOk2 env e) (evE Rh env e st) (opd e (evF Rq e) s) := fun hv => by
    have e1 : opd e (evF Rq e) s = (shr (evF Rq e) s).map Od.val := by
      have e2 : opd e (evF Rq e) s = (evF Rq e s).map (fun v => Od.val v.d) := by
        rw [opd_eq hv]
        exact pbnd_map
      rw [e2]
      show _ = (pbnd (evF Rq e) (fun v => pret v.d) s).map Od.val
      rw [pbnd_map]
      cases evF Rq e s <;> rfl
    rw [e1]
    exact (h.d n0 Sh sa st env s g).map fun _ _ _ _ _ _ _ r => ⟨r, fun i e => by cases e⟩
  cases e with
  | var i =>
    show Sim n0 _ Sh sa st env s (OdOk2 env (.var i)) (getV env i st) (match s.env[i]? with
      | some (some (.ow _)) => .ok (.own i) s
      | some (some (.sh d)) => .ok (.val d) s
      | _ => .bad)
    split
    · rename_i xs hx
      obtain ⟨a, hs, e1, _⟩ := g.ow i xs hx
      rw [getV_at e1]
      exact Sim.same g ⟨e1, fun j e => by cases e; exact beq_self_eq_true i⟩
    · rename_i d hx
      obtain ⟨v, e1, r⟩ := g.sh i d hx
      rw [getV_at e1]
      exact Sim.same g ⟨r, fun i e => by cases e⟩
    · exact True.intro
  | _ => exact gen fun i z => by cases z
theorem SndE.t {e : Ex} (h : SndE Rh Rq e) : SndT Rh Rq e := by
  intro n0 Sh sa st env s g
  refine Sim.bind (h.o n0 Sh sa st env s g) fun w o Sh1 sa1 st1 s1 o1 r1 => Sim.rd o1.o.good r1.1 fun d hd => Sim.of' fun b hb => ?_
  have ez : testV w st1 = .ok b st1 := by
    show ofO (tru st1 w) st1 = _
    rw [truP_ok hd hb]
    rfl
  rw [ez]
  exact Sim.same o1.o.good rfl
theorem frz1_ne {env : List (Option PV)} {i j : Nat} (h : i ≠ j) : (frz1 env i)[j]? = env[j]? := by
  unfold frz1
  split
  · exact List.getElem?_set_ne h
  · rfl
theorem frz1_at {env : List (Option PV)} {i : Nat} {xs : List D} (h : env[i]? = some (some (PV.ow xs))) : (frz1 env i)[i]? = some (some (PV.sh (.lst xs))) := by
  unfold frz1
  rw [h]
  exact List.getElem?_set_self (lt_of_get h)
theorem frz1_no {env : List (Option PV)} {i : Nat} (h : ∀ xs, env[i]? ≠ some (some (PV.ow xs))) : frz1 env i = env := by
  unfold frz1
  split
  · rename_i xs hx; exact absurd hx (h xs)
  · rfl
theorem frz1_len {env : List (Option PV)} {i : Nat} : (frz1 env i).length = env.length := by
  unfold frz1
  split
  · exact List.length_set
  · rfl
theorem rdV_frz {env : List (Option PV)} {i : Nat} {o : Od} : rdV (frz1 env i) o = rdV env o := by
  cases o with
  | val d => rfl
  | own j =>
    by_cases h : i = j
    · subst h
      by_cases k : ∃ xs, env[i]? = some (some (PV.ow xs))
      · obtain ⟨xs, k⟩ := k
        simp only [rdV, frz1_at k, k]
      · rw [frz1_no fun xs z => k ⟨xs, z⟩]
    · simp only [rdV, frz1_ne h]
theorem rdVs_frz {env : List (Option PV)} {i : Nat} : ∀ {os : List Od}, rdVs (frz1 env i) os = rdVs env os
  | [] => rfl
  | o :: r => by simp only [rdVs, rdV_frz, rdVs_frz]
theorem OutE.frz (g : Good n0 Sh sa st env s) {i a : Nat} {xs : List D} (h : s.env[i]? = some (some (PV.ow xs))) (e : env[i]? = some (some (HV.ref a))) (ho : occ i = true) : OutE n0 occ Sh sa st env s (fun b => Sh b ∨ b = a) sa st { s with env := frz1 s.env i } := by
  obtain ⟨b, hs, e1, e2, e3, e4, e5, e6⟩ := g.ow i xs h
  rw [e] at e1
  cases e1
  have kp : ∀ b, Sh b → (Sh b ∨ b = a) ∧ st[b]? = st[b]? := fun b h => ⟨.inl h, rfl⟩
  refine ⟨⟨⟨by rw [g.len]; exact frz1_len.symm, g.n0l, fun j d hj => ?_, fun j ys hj => ?_, fun j k b ys zs h1 h2 h3 h4 => ?_, fun b hb => ?_, g.stm⟩, fun _ h => .inl h, fun b hb => hb.imp id fun z => .inr ⟨i, xs, ho, h, by rw [z]; exact e⟩, fun _ h => h, fun _ h => .inl h, Nat.le_refl _, fun _ _ => .inl rfl, fun j hj => ⟨frz1_ne fun z => (by rw [z, hj] at ho; cases ho), rfl⟩, fun j ys b h1 h2 => .inr ?_⟩, fun j ys hj => ?_⟩
  · by_cases hij : i = j
    · subst hij
      have hj : (frz1 s.env i)[i]? = some (some (PV.sh d)) := hj
      rw [frz1_at h] at hj
      cases hj
      exact ⟨.ref a, e, .lst (.inr rfl) e2 (e3.mono kp fun _ h => h)⟩
    · have hj : (frz1 s.env i)[j]? = some (some (PV.sh d)) := hj
      rw [frz1_ne hij] at hj
      obtain ⟨v, k1, k2⟩ := g.sh j d hj
      exact ⟨v, k1, k2.mono kp fun _ h => h⟩
  · have hj : (frz1 s.env i)[j]? = some (some (PV.ow ys)) := hj
    have hij : i ≠ j := fun z => by subst z; rw [frz1_at h] at hj; cases hj
    rw [frz1_ne hij] at hj
    obtain ⟨b, ks, k1, k2, k3, k4, k5, k6⟩ := g.ow j ys hj
    exact ⟨b, ks, k1, k2, k3.mono kp fun _ h => h, k4, fun z => z.elim k5 fun z => hij (by subst z; exact g.apart i j _ _ _ h hj e k1), k6⟩
  · have h1 : (frz1 s.env i)[j]? = some (some (PV.ow ys)) := h1
    have h2 : (frz1 s.env i)[k]? = some (some (PV.ow zs)) := h2
    have n1 : i ≠ j := fun z => by subst z; rw [frz1_at h] at h1; cases h1
    have n2 : i ≠ k := fun z => by subst z; rw [frz1_at h] at h2; cases h2
    rw [frz1_ne n1] at h1
    rw [frz1_ne n2] at h2
    exact g.apart j k b ys zs h1 h2 h3 h4
  · rcases hb with hb | rfl
    · exact g.shlt b hb
    · exact ⟨lt_of_get e2, e6⟩
  · have h1 : (frz1 s.env i)[j]? = some (some (PV.ow ys)) := h1
    have n1 : i ≠ j := fun z => by subst z; rw [frz1_at h] at h1; cases h1
    rw [frz1_ne n1] at h1
    exact ⟨ys, h1, h2⟩
  · have hj : (frz1 s.env i)[j]? = some (some (PV.ow ys)) := hj
    have n1 : i ≠ j := fun z => by subst z; rw [frz1_at h] at hj; cases hj
    rw [frz1_ne n1] at hj
    exact ⟨ys, hj⟩
inductive OdsOk (env : Env) (Sh : Nat → Prop) (sa : Sa) (st : Hs) (s : Ps) : List HV → List Od → Prop
  | nil : OdsOk env Sh sa st s [] []
  | cons {w : HV} {o : Od} {ws : List HV} {os : List Od} : OdOk env Sh sa st s w o → OdsOk env Sh sa st s ws os → OdsOk env Sh sa st s (w :: ws) (o :: os)
theorem OdsOk.sees (g : Good n0 Sh sa st env s) : ∀ {ws : List HV} {os : List Od} {ds : List D}, OdsOk env Sh sa st s ws os → rdVs s.env os = some ds → Sees Sh sa st env s ws ds
  | _, _, ds, .nil, e => by cases e; exact .nil
  | _, _, ds, .cons (o := o) (os := os) h1 h2, e => by
    unfold rdVs at e
    cases q1 : rdV s.env o with
    | none => rw [q1] at e; cases e
    | some d =>
      cases q2 : rdVs s.env os with
      | none => rw [q1, q2] at e; cases e
      | some es =>
        rw [q1, q2] at e
        cases e
        exact .cons (rdV_ok g h1 q1) (h2.sees g q2)
theorem Sim.rds {α β : Type} {rel : (Nat → Prop) → Sa → Hs → Ps → α → β → Prop} (g : Good n0 Sh sa st env s) {ws : List HV} {os : List Od} (h : OdsOk env Sh sa st s ws os) {r : Res α} {f : List D → PM β} (k : ∀ ds, rdVs s.env os = some ds → Sees Sh sa st env s ws ds → Sim n0 occ Sh sa st env s rel r (f ds s)) : Sim n0 occ Sh sa st env s rel r (pbnd (rdOs os) f s) := by
  cases e : rdVs s.env os with
  | some d =>
    have ez : pbnd (rdOs os) f s = f d s := by unfold pbnd rdOs pof; rw [e]; rfl
    rw [ez]
    exact k d e (h.sees g e)
  | none =>
    have ez : pbnd (rdOs os) f s = .bad := by unfold pbnd rdOs pof; rw [e]; rfl
    rw [ez]
    exact True.intro
theorem OdsOk.out (g : Good n0 Sh sa st env s) (o : OutE n0 occ Sh sa st env s Sh' sa' st' s') : ∀ {ws : List HV} {os : List Od}, OdsOk env Sh sa st s ws os → OdsOk env Sh' sa' st' s' ws os
  | _, _, .nil => .nil
  | _, _, .cons h1 h2 => .cons (h1.out g o) (h2.out g o)
/-- the names of operands -/
def ownsIn (occ : Nat → Bool) (os : List Od) : Prop := ∀ i, Od.own i ∈ os → occ i = true
/-- operands are no longer their names' own: their values are shared -/
theorem frzE_ok : ∀ {os : List Od} {Sh : Nat → Prop} {s : Ps} {ws : List HV} {ds : List D}, Good n0 Sh sa st env s → OdsOk env Sh sa st s ws os → rdVs s.env os = some ds → ownsIn occ os → ∃ Sh', OutE n0 occ Sh sa st env s Sh' sa st { s with env := frzE os s.env } ∧ RdSs Sh' sa st ws ds
  | [], Sh, s, ws, ds, g, h, e, _ => by
    cases h
    cases e
    exact ⟨Sh, .refl g, .nil⟩
  | o :: os, Sh, s, ws, ds, g, h, e, hi => by
    cases h with
    | cons h1 h2 =>
      rename_i w ws
      unfold rdVs at e
      cases q1 : rdV s.env o with
      | none => rw [q1] at e; cases e
      | some d =>
        cases q2 : rdVs s.env os with
        | none => rw [q1, q2] at e; cases e
        | some es =>
          rw [q1, q2] at e
          cases e
          have hi2 : ownsIn occ os := fun i h => hi i (List.mem_cons_of_mem _ h)
          cases o with
          | val d0 =>
            cases q1
            obtain ⟨Sh2, o2, r2⟩ := frzE_ok g h2 q2 hi2
            exact ⟨Sh2, o2, .cons (o2.o.rd g h1) r2⟩
          | own i =>
            by_cases k : ∃ xs, s.env[i]? = some (some (PV.ow xs))
            · obtain ⟨xs, k⟩ := k
              obtain ⟨a, hs, e1, e2, e3, _⟩ := g.ow i xs k
              have h1 : env[i]? = some (some w) := h1
              rw [e1] at h1
              cases h1
              have o1 := OutE.frz (occ := occ) g k e1 (hi i List.mem_cons_self)
              obtain ⟨Sh2, o2, r2⟩ := frzE_ok o1.o.good (h2.out g o1) (by show rdVs (frz1 s.env i) os = _; rw [rdVs_frz]; exact q2) hi2
              have ed : d = .lst xs := by simp only [rdV, k] at q1; cases q1; rfl
              subst ed
              refine ⟨Sh2, o1.trans o2, .cons (o2.o.rd o1.o.good (.lst (.inr rfl) e2 (e3.mono (fun b h => ⟨.inl h, rfl⟩) fun _ h => h))) r2⟩
            · have ef : frz1 s.env i = s.env := frz1_no fun xs z => k ⟨xs, z⟩
              obtain ⟨Sh2, o2, r2⟩ := frzE_ok g h2 q2 hi2
              have ez : frzE (.own i :: os) s.env = frzE os s.env := by show frzE os (frz1 s.env i) = _; rw [ef]
              rw [ez]
              refine ⟨Sh2, o2, .cons ?_ r2⟩
              have hd : s.env[i]? = some (some (PV.sh d)) := by
                simp only [rdV] at q1
                split at q1
                · rename_i xs hx; exact absurd ⟨xs, hx⟩ k
                · rename_i d' hx; cases q1; exact hx
                · cases q1
              obtain ⟨v, e1, r⟩ := g.sh i d hd
              have h1 : env[i]? = some (some w) := h1
              rw [e1] at h1
              cases h1
              exact o2.o.rd g r
/-- a list that a name holds of its own is changed -/
theorem OutE.setOwn (g : Good n0 Sh sa st env s) {i a : Nat} {xs ys : List D} {ks : List HV} (h : s.env[i]? = some (some (PV.ow xs))) (e : env[i]? = some (some (HV.ref a))) (ho : occ i = true) (r : RdSs Sh sa st ks ys) : OutE n0 occ Sh sa st env s Sh sa (st.set a (.lst ks)) { s with env := s.env.set i (some (.ow ys)) } := by
  obtain ⟨b, hs, e1, e2, e3, e4, e5, e6⟩ := g.ow i xs h
  rw [e] at e1
  cases e1
  have hi := lt_of_get h
  have ha := lt_of_get e2
  have ne : ∀ {b : Nat}, b ≠ a → (st.set a (.lst ks))[b]? = st[b]? := fun h => List.getElem?_set_ne (Ne.symm h)
  have nei : ∀ {j : Nat}, i ≠ j → (s.env.set i (some (PV.ow ys)))[j]? = s.env[j]? := fun h => List.getElem?_set_ne h
  have kp : ∀ b, Sh b → Sh b ∧ (st.set a (.lst ks))[b]? = st[b]? := fun b hb => ⟨hb, ne fun z => e5 (z ▸ hb)⟩
  have old : ∀ {j : Nat} {zs : List D}, (s.env.set i (some (PV.ow ys)))[j]? = some (some (PV.ow zs)) → ∃ ws, s.env[j]? = some (some (PV.ow ws)) := fun {j zs} q => by
    by_cases hij : i = j
    · subst hij; exact ⟨xs, h⟩
    · rw [nei hij] at q; exact ⟨zs, q⟩
  refine ⟨⟨⟨by rw [List.length_set]; exact g.len, by rw [List.length_set]; exact g.n0l, fun j d q => ?_, fun j zs q => ?_, fun j k b zs ws h1 h2 h3 h4 => ?_, fun b hb => ⟨by rw [List.length_set]; exact (g.shlt b hb).1, (g.shlt b hb).2⟩, g.stm.keep fun b hb => ne fun z => e6 (z ▸ hb)⟩, fun _ h => h, fun _ h => .inl h, fun _ h => h, fun _ h => .inl h, by rw [List.length_set]; exact Nat.le_refl _, fun b hb => ?_, fun j hj => ⟨nei fun z => (by rw [z, hj] at ho; cases ho), rfl⟩, fun j zs b h1 h2 => .inr ?_⟩, fun j zs q => old q⟩
  · have q : (s.env.set i (some (PV.ow ys)))[j]? = some (some (PV.sh d)) := q
    have hij : i ≠ j := fun z => by subst z; rw [List.getElem?_set_self hi] at q; cases q
    rw [nei hij] at q
    obtain ⟨v, k1, k2⟩ := g.sh j d q
    exact ⟨v, k1, k2.mono kp fun _ h => h⟩
  · have q : (s.env.set i (some (PV.ow ys)))[j]? = some (some (PV.ow zs)) := q
    by_cases hij : i = j
    · subst hij
      rw [List.getElem?_set_self hi] at q
      cases q
      exact ⟨a, ks, e, List.getElem?_set_self ha, r.mono kp fun _ h => h, e4, e5, e6⟩
    · rw [nei hij] at q
      obtain ⟨b, hs2, k1, k2, k3, k4⟩ := g.ow j zs q
      refine ⟨b, hs2, k1, (ne fun z => ?_).trans k2, k3.mono kp fun _ h => h, k4⟩
      subst z
      exact hij (g.apart i j b _ _ h q e k1)
  · obtain ⟨_, q1⟩ := old h1
    obtain ⟨_, q2⟩ := old h2
    exact g.apart j k b _ _ q1 q2 h3 h4
  · by_cases hb2 : b = a
    · subst hb2
      exact .inr (.inr ⟨i, xs, ho, h, e⟩)
    · exact .inl (ne hb2)
  · obtain ⟨ws, q⟩ := old h1
    exact ⟨ws, q, h2⟩
end Ih
end
section
set_option Elab.async false
set_option linter.all false
set_option maxHeartbeats 1000000
namespace Ih
open PySem
variable {Sh Sh' : Nat → Prop} {sa sa' : Sa} {st st' : Hs} {n0 : Nat} {env env' : Env} {s s' : Ps} {occ occ' : Nat → Bool} {n : Nat} {Rh : Rt} {Rq : Rp}
structure OutF (Sh : Nat → Prop) (sa : Sa) (st : Hs) (Sh' : Nat → Prop) (sa' : Sa) (st' : Hs) (sm' : Sst) : Prop where
  sub : ∀ a, Sh a → Sh' a
  new : ∀ a, Sh' a → Sh a ∨ st.length ≤ a
  lt : ∀ a, Sh' a → a < st'.length ∧ ¬ isSa sa' a
  saL : ∀ p, sa = some p → sa' = some p
  sn : ∀ a, isSa sa' a → isSa sa a ∨ st.length ≤ a
  len : st.length ≤ st'.length
  fr : ∀ a, a < st.length → st'[a]? = st[a]? ∨ isSa sa a
  stm : StmAt sa' st' sm'
/-- a payload -/
def PayOk (Sh : Nat → Prop) (sa : Sa) (st : Hs) : Option D → Option HV → Prop
  | none, none => True
  | some d, some v => RdS Sh sa st v d
  | _, _ => False
def SndR (Rh : Rt) (Rq : Rp) : Prop := ∀ (g : Nat) (ds : List D) (sm : Sst) (Sh : Nat → Prop) (sa : Sa) (st : Hs) (xs : List HV), RdSs Sh sa st xs ds → (∀ a, Sh a → a < st.length ∧ ¬ isSa sa a) → StmAt sa st sm →
  match Rq g ds sm with
  | .ok d sm' => ∃ v st' Sh' sa', Rh g xs st = .ok v st' ∧ OutF Sh sa st Sh' sa' st' sm' ∧ RdS Sh' sa' st' v d
  | .exc c p sm' => ∃ q st' Sh' sa', Rh g xs st = .exc c q st' ∧ OutF Sh sa st Sh' sa' st' sm' ∧ PayOk Sh' sa' st' p q
  | .bad => True
theorem call_step (g : Good n0 Sh sa st env s) {sm' : Sst} (o : OutF Sh sa st Sh' sa' st' sm') : OutE n0 occ Sh sa st env s Sh' sa' st' { s with sm := sm' } := by
  have kp : ∀ a, Sh a → Sh' a ∧ st'[a]? = st[a]? := fun a h => ⟨o.sub a h, (o.fr a (g.shlt a h).1).elim id fun k => ((g.shlt a h).2 k).elim⟩
  refine ⟨⟨⟨g.len, Nat.le_trans g.n0l o.len, fun i d h => ?_, fun i xs h => ?_, g.apart, o.lt, o.stm⟩, o.sub, fun a h => (o.new a h).imp id .inl, o.saL, o.sn, o.len, fun a h => (o.fr a h).imp id .inl, fun _ _ => ⟨rfl, rfl⟩, fun i xs a h1 h2 => .inr ⟨xs, h1, h2⟩⟩, fun i xs h => ⟨xs, h⟩⟩
  · obtain ⟨v, e, r⟩ := g.sh i d h
    exact ⟨v, e, r.mono kp o.saL⟩
  · obtain ⟨a, hs, e1, e2, e3, e4, e5, e6⟩ := g.ow i xs h
    have hl := lt_of_get e2
    refine ⟨a, hs, e1, ((o.fr a hl).elim id fun k => (e6 k).elim).trans e2, e3.mono kp o.saL, e4, fun k => ?_, fun k => ?_⟩
    · rcases o.new a k with k | k
      · exact e5 k
      · omega
    · rcases o.sn a k with k | k
      · exact e6 k
      · omega
/-- what comes back holds nothing: what was lent is still its names' own -/
theorem call_atom (g : Good n0 Sh sa st env s) {Sh1 : Nat → Prop} {sm' : Sst} (hs1 : ∀ a, Sh a → Sh1 a) (o : OutF Sh1 sa st Sh' sa' st' sm') : OutE n0 occ Sh sa st env s Sh sa' st' { s with sm := sm' } := by
  have kp : ∀ a, Sh a → Sh a ∧ st'[a]? = st[a]? := fun a h => ⟨h, (o.fr a (g.shlt a h).1).elim id fun k => ((g.shlt a h).2 k).elim⟩
  refine ⟨⟨⟨g.len, Nat.le_trans g.n0l o.len, fun i d h => ?_, fun i xs h => ?_, g.apart, fun a h => ⟨(o.lt a (o.sub a (hs1 a h))).1, (o.lt a (o.sub a (hs1 a h))).2⟩, o.stm⟩, fun _ h => h, fun _ h => .inl h, o.saL, o.sn, o.len, fun a h => (o.fr a h).imp id .inl, fun _ _ => ⟨rfl, rfl⟩, fun i xs a h1 h2 => .inr ⟨xs, h1, h2⟩⟩, fun i xs h => ⟨xs, h⟩⟩
  · obtain ⟨v, e, r⟩ := g.sh i d h
    exact ⟨v, e, r.mono kp o.saL⟩
  · obtain ⟨a, hs, e1, e2, e3, e4, e5, e6⟩ := g.ow i xs h
    have hl := lt_of_get e2
    refine ⟨a, hs, e1, ((o.fr a hl).elim id fun k => (e6 k).elim).trans e2, e3.mono kp o.saL, e4, e5, fun k => ?_⟩
    rcases o.sn a k with k | k
    · exact e6 k
    · omega
theorem RdS.atom {v : HV} {d : D} (h : RdS Sh sa st v d) (e : d.atom = true) : ∀ {Sh2 : Nat → Prop} {sa2 : Sa} {st2 : Hs}, RdS Sh2 sa2 st2 v d := by
  intro Sh2 sa2 st2
  cases h with
  | non => exact .non
  | bl b => exact .bl b
  | int b => exact .int b
  | str b => exact .str b
  | fn b => exact .fn b
  | _ => cases e
theorem lend_ok (hR : SndR Rh Rq) (g : Good n0 Sh sa st env s) {ws xs : List HV} {os : List Od} {ds ds' : List D} {gi : Nat} (h : OdsOk env Sh sa st s ws os) (e : rdVs s.env os = some ds) (ho : ownsIn occ os) (hp : ∀ Sh, RdSs Sh sa st ws ds → RdSs Sh sa st xs ds') : Sim n0 occ Sh sa st env s (PvOk n) (Rh gi xs st) (lend os (Rq gi ds') s) := by
  obtain ⟨Sh1, o1, r1⟩ := frzE_ok (occ := occ) g h e ho
  have hr := hR gi ds' s.sm Sh1 sa st xs (hp Sh1 r1) o1.o.good.shlt g.stm
  unfold lend
  cases q : Rq gi ds' s.sm with
  | bad => exact True.intro
  | exc c p sm' =>
    rw [q] at hr
    obtain ⟨v, st2, Sh2, sa2, e2, oF, pay⟩ := hr
    refine ⟨v, st2, Sh2, sa2, e2, o1.trans (call_step o1.o.good oF), ?_⟩
    cases p <;> cases v <;> exact pay
  | ok d sm' =>
    rw [q] at hr
    obtain ⟨v, st2, Sh2, sa2, e2, oF, rd⟩ := hr
    dsimp only
    split
    · rename_i ha
      exact ⟨v, st2, Sh, sa2, e2, call_atom g o1.o.sub oF, rd.atom ha⟩
    · exact ⟨v, st2, Sh2, sa2, e2, o1.trans (call_step o1.o.good oF), rd⟩
theorem RdSs.perm {vs : List HV} {ds : List D} (h : RdSs Sh sa st vs ds) : ∀ perm : List Nat, RdSs Sh sa st (perm.map fun i => vs.getD i .non) (perm.map fun i => ds.getD i .non)
  | [] => .nil
  | i :: r => by
    refine .cons ?_ (h.perm r)
    show RdS Sh sa st (vs.getD i .non) (ds.getD i .non)
    rw [List.getD_eq_getElem?_getD, List.getD_eq_getElem?_getD]
    cases q : ds[i]? with
    | some d =>
      obtain ⟨w, e1, e2⟩ := h.get q
      rw [e1]
      exact e2
    | none =>
      have : vs[i]? = none := by
        rw [List.getElem?_eq_none_iff] at q ⊢
        rw [h.length]
        exact q
      rw [this]
      exact .non
inductive IvOk (Sh : Nat → Prop) (sa : Sa) (st : Hs) : Iv → PIv → Prop
  | one {v : HV} {d : D} : RdS Sh sa st v d → IvOk Sh sa st (.one v) (.one d)
  | many {vs : List HV} {ds : List D} : RdSs Sh sa st vs ds → IvOk Sh sa st (.many vs) (.many ds)
inductive IvsOk (Sh : Nat → Prop) (sa : Sa) (st : Hs) : List Iv → List PIv → Prop
  | nil : IvsOk Sh sa st [] []
  | cons {v : Iv} {d : PIv} {vs : List Iv} {ds : List PIv} : IvOk Sh sa st v d → IvsOk Sh sa st vs ds → IvsOk Sh sa st (v :: vs) (d :: ds)
theorem IvOk.mono (h : ∀ a, Sh a → Sh' a ∧ st'[a]? = st[a]?) (hs : ∀ p, sa = some p → sa' = some p) {v : Iv} {d : PIv} (k : IvOk Sh sa st v d) : IvOk Sh' sa' st' v d := by
  cases k with
  | one r => exact .one (r.mono h hs)
  | many r => exact .many (r.mono h hs)
theorem IvsOk.mono (h : ∀ a, Sh a → Sh' a ∧ st'[a]? = st[a]?) (hs : ∀ p, sa = some p → sa' = some p) : ∀ {v : List Iv} {d : List PIv}, IvsOk Sh sa st v d → IvsOk Sh' sa' st' v d
  | _, _, .nil => .nil
  | _, _, .cons h1 h2 => .cons (h1.mono h hs) (h2.mono h hs)
/-- names set to values that are shared -/
structure AsgOk (n0 : Nat) (Sh : Nat → Prop) (sa : Sa) (st : Hs) (env : Env) (s : Ps) (oc : Nat → Bool) (env' : Env) (penv : List (Option PV)) : Prop where
  good : Good n0 Sh sa st env' { s with env := penv }
  ne : ∀ (i : Nat), oc i = false → penv[i]? = s.env[i]? ∧ env'[i]? = env[i]?
  ow : ∀ (i : Nat) (xs : List D), penv[i]? = some (some (PV.ow xs)) → s.env[i]? = some (some (PV.ow xs)) ∧ env'[i]? = env[i]?
  len : env'.length = env.length
theorem AsgOk.refl (g : Good n0 Sh sa st env s) : AsgOk n0 Sh sa st env s oc env s.env := ⟨g, fun _ _ => ⟨rfl, rfl⟩, fun _ _ h => ⟨h, rfl⟩, rfl⟩
theorem AsgOk.trans {oc : Nat → Bool} {env1 env2 : Env} {p1 p2 : List (Option PV)} (h : AsgOk n0 Sh sa st env s oc env1 p1) (k : AsgOk n0 Sh sa st env1 { s with env := p1 } oc env2 p2) : AsgOk n0 Sh sa st env s oc env2 p2 :=
  ⟨k.good, fun i hi => ⟨(k.ne i hi).1.trans (h.ne i hi).1, (k.ne i hi).2.trans (h.ne i hi).2⟩, fun i xs hi => by
    obtain ⟨a, b⟩ := k.ow i xs hi
    obtain ⟨c, d⟩ := h.ow i xs a
    exact ⟨c, b.trans d⟩, k.len.trans h.len⟩
theorem set_sh (g : Good n0 Sh sa st env s) {i : Nat} {v : HV} {d : D} (r : RdS Sh sa st v d) (hi : i < s.env.length) : AsgOk n0 Sh sa st env s (fun j => j == i) (env.set i (some v)) (s.env.set i (some (.sh d))) := by
  have hl : i < env.length := by rw [g.len]; exact hi
  have ne : ∀ {j : Nat}, i ≠ j → (s.env.set i (some (PV.sh d)))[j]? = s.env[j]? ∧ (env.set i (some v))[j]? = env[j]? := fun h => ⟨List.getElem?_set_ne h, List.getElem?_set_ne h⟩
  have no : ∀ {j : Nat} {xs : List D}, (s.env.set i (some (PV.sh d)))[j]? = some (some (PV.ow xs)) → i ≠ j := fun h z => by
    subst z
    rw [List.getElem?_set_self hi] at h
    cases h
  refine ⟨⟨by rw [List.length_set, List.length_set]; exact g.len, g.n0l, fun j e h => ?_, fun j xs h => ?_, fun j k a xs ys h1 h2 h3 h4 => ?_, g.shlt, g.stm⟩, fun j hj => ne fun z => by subst z; simp at hj, fun j xs h => ?_, List.length_set⟩
  · by_cases hij : i = j
    · subst hij
      have h : (s.env.set i (some (PV.sh d)))[i]? = some (some (PV.sh e)) := h
      rw [List.getElem?_set_self hi] at h
      cases h
      exact ⟨v, List.getElem?_set_self hl, r⟩
    · obtain ⟨u, k1, k2⟩ := g.sh j e ((ne hij).1.symm.trans h)
      exact ⟨u, (ne hij).2.trans k1, k2⟩
  · have hij := no h
    obtain ⟨a, hs, k1, k2⟩ := g.ow j xs ((ne hij).1.symm.trans h)
    exact ⟨a, hs, (ne hij).2.trans k1, k2⟩
  · have hj := no h1
    have hk := no h2
    exact g.apart j k a xs ys ((ne hj).1.symm.trans h1) ((ne hk).1.symm.trans h2) ((ne hj).2.symm.trans h3) ((ne hk).2.symm.trans h4)
  · have hij := no h
    exact ⟨(ne hij).1.symm.trans h, (ne hij).2⟩
theorem AsgOk.mono {oc oc2 : Nat → Bool} {env1 : Env} {p1 : List (Option PV)} (h : AsgOk n0 Sh sa st env s oc env1 p1) (k : ∀ i, oc i = true → oc2 i = true) : AsgOk n0 Sh sa st env s oc2 env1 p1 :=
  ⟨h.good, fun i hi => h.ne i (by cases q : oc i with
    | false => rfl
    | true => rw [k i q] at hi; cases hi), h.ow, h.len⟩
mutual
theorem asg_ok : ∀ {t : Tg} {s : Ps} {env : Env} {v : HV} {d : D} {penv : List (Option PV)}, Good n0 Sh sa st env s → RdS Sh sa st v d → asgP t d s.env = some penv → ∃ env', asgV st t v env = some env' ∧ AsgOk n0 Sh sa st env s (fun i => occT i t) env' penv
  | .nm i, s, env, v, d, penv, g, r, e => by
    unfold asgP at e
    split at e
    · rename_i hi
      cases e
      refine ⟨env.set i (some v), ?_, (set_sh g r hi).mono fun j h => h⟩
      unfold asgV
      rw [if_pos (by rw [g.len]; exact hi)]
    · cases e
  | .tp ts, s, env, v, d, penv, g, r, e => by
    unfold asgP at e
    split at e
    · rename_i ds
      split at e
      · rename_i hl
        cases r with
        | tup h1 h2 h3 =>
          obtain ⟨env', k1, k2⟩ := asgs_ok (ts := ts) g h3 e
          refine ⟨env', ?_, k2⟩
          unfold asgV
          simp only [tupOf, h2]
          rw [if_pos (by rw [h3.length]; exact hl)]
          exact k1
      · cases e
    · cases e
theorem asgs_ok : ∀ {ts : List Tg} {s : Ps} {env : Env} {vs : List HV} {ds : List D} {penv : List (Option PV)}, Good n0 Sh sa st env s → RdSs Sh sa st vs ds → asgsP ts ds s.env = some penv → ∃ env', asgVs st ts vs env = some env' ∧ AsgOk n0 Sh sa st env s (fun i => occT.occTs i ts) env' penv
  | [], s, env, vs, ds, penv, g, r, e => by
    cases r with
    | nil =>
      unfold asgsP at e
      cases e
      exact ⟨env, rfl, .refl g⟩
    | cons _ _ => unfold asgsP at e; cases e
  | t :: ts, s, env, vs, ds, penv, g, r, e => by
    cases r with
    | nil => unfold asgsP at e; cases e
    | cons h1 h2 =>
      unfold asgsP at e
      split at e
      · rename_i p1 e1
        obtain ⟨env1, k1, k2⟩ := asg_ok g h1 e1
        obtain ⟨env2, k3, k4⟩ := asgs_ok (ts := ts) (s := { s with env := p1 }) k2.good h2 e
        refine ⟨env2, ?_, (k2.mono fun i h => ?_).trans (k4.mono fun i h => ?_)⟩
        · unfold asgVs
          rw [k1]
          exact k3
        · show (occT i t || occT.occTs i ts) = true
          rw [show occT i t = true from h]
          rfl
        · show (occT i t || occT.occTs i ts) = true
          rw [show occT.occTs i ts = true from h, Bool.or_true]
      · cases e
end
theorem asgI_ok {t : Tg} {y : Iv} {x : PIv} {penv : List (Option PV)} (g : Good n0 Sh sa st env s) (r : IvOk Sh sa st y x) (e : asgIP t x s.env = some penv) : ∃ env', asgI st t env y = some env' ∧ AsgOk n0 Sh sa st env s (fun i => occT i t) env' penv := by
  cases r with
  | one r => exact asg_ok g r e
  | many r =>
    cases t with
    | nm i => cases e
    | tp ts =>
      simp only [asgIP] at e
      split at e
      · rename_i hl
        obtain ⟨env', k1, k2⟩ := asgs_ok (ts := ts) g r e
        refine ⟨env', ?_, k2⟩
        simp only [asgI]
        rw [if_pos (by rw [r.length]; exact hl)]
        exact k1
      · cases e
theorem wipeP_len {env : List (Option PV)} : ∀ {own : List Nat}, (wipeP env own).length = env.length
  | [] => rfl
  | i :: r => by
    show ((wipeP env r).set i none).length = _
    rw [List.length_set, wipeP_len]
theorem wipeP_get {env : List (Option PV)} {j : Nat} : ∀ {own : List Nat}, (wipeP env own)[j]? = if j ∈ own ∧ j < env.length then some none else env[j]?
  | [] => by simp [wipeP]
  | i :: r => by
    show ((wipeP env r).set i none)[j]? = _
    by_cases h : i = j
    · subst h
      by_cases hl : i < env.length
      · rw [List.getElem?_set_self (by rw [wipeP_len]; exact hl), if_pos ⟨List.mem_cons_self, hl⟩]
      · rw [if_neg (fun z => hl z.2), List.getElem?_eq_none (by rw [List.length_set, wipeP_len]; omega), List.getElem?_eq_none (by omega)]
    · rw [List.getElem?_set_ne h, wipeP_get]
      have e : (j ∈ i :: r) ↔ (j ∈ r) := by rw [List.mem_cons]; exact ⟨fun z => z.elim (fun e => absurd e.symm h) id, .inr⟩
      simp only [e]
theorem backP_len {env0 env : List (Option PV)} : ∀ {own : List Nat}, (backP env0 env own).length = env.length
  | [] => rfl
  | i :: r => by
    show ((backP env0 env r).set i _).length = _
    rw [List.length_set, backP_len]
theorem backP_get {env0 env : List (Option PV)} {j : Nat} (hl : env0.length = env.length) : ∀ {own : List Nat}, (backP env0 env own)[j]? = if j ∈ own then env0[j]? else env[j]?
  | [] => by simp [backP]
  | i :: r => by
    show ((backP env0 env r).set i (env0[i]?.getD none))[j]? = _
    by_cases h : i = j
    · subst h
      rw [if_pos List.mem_cons_self]
      by_cases hl2 : i < env.length
      · rw [List.getElem?_set_self (by rw [backP_len]; exact hl2), List.getElem?_eq_getElem (by omega)]
        rfl
      · rw [List.getElem?_eq_none (by rw [List.length_set, backP_len]; omega), List.getElem?_eq_none (by omega)]
    · rw [List.getElem?_set_ne h, backP_get hl]
      have e : (j ∈ i :: r) ↔ (j ∈ r) := by rw [List.mem_cons]; exact ⟨fun z => z.elim (fun e => absurd e.symm h) id, .inr⟩
      simp only [e]
theorem wipeP_some {env : List (Option PV)} {own : List Nat} {j : Nat} {v : PV} (h : (wipeP env own)[j]? = some (some v)) : env[j]? = some (some v) ∧ j ∉ own := by
  rw [wipeP_get] at h
  split at h
  · cases h
  · rename_i k
    exact ⟨h, fun z => k ⟨z, lt_of_get h⟩⟩
theorem wipeE_ne {env : Env} {own : List Nat} {j : Nat} (h : j ∉ own) : (wipeE env own)[j]? = env[j]? := by
  rw [wipeE_get, if_neg fun z => h z.1]
theorem wipeP_ne {env : List (Option PV)} {own : List Nat} {j : Nat} (h : j ∉ own) : (wipeP env own)[j]? = env[j]? := by
  rw [wipeP_get, if_neg fun z => h z.1]
theorem wipe_good (g : Good n0 Sh sa st env s) (own : List Nat) : Good n0 Sh sa st (wipeE env own) { s with env := wipeP s.env own } := by
  refine ⟨by rw [wipeE_len, g.len]; exact wipeP_len.symm, g.n0l, fun i d h => ?_, fun i xs h => ?_, fun i j a xs ys h1 h2 h3 h4 => ?_, g.shlt, g.stm⟩
  · obtain ⟨k, hn⟩ := wipeP_some h
    obtain ⟨v, e, r⟩ := g.sh i d k
    exact ⟨v, (wipeE_ne hn).trans e, r⟩
  · obtain ⟨k, hn⟩ := wipeP_some h
    obtain ⟨a, hs, e, r⟩ := g.ow i xs k
    exact ⟨a, hs, (wipeE_ne hn).trans e, r⟩
  · obtain ⟨k1, n1⟩ := wipeP_some h1
    obtain ⟨k2, n2⟩ := wipeP_some h2
    rw [wipeE_ne n1] at h3
    rw [wipeE_ne n2] at h4
    exact g.apart i j a xs ys k1 k2 h3 h4
/-- a turn of a block, as a step of the block -/
theorem turn_out (g : Good n0 Sh sa st env s) {own : List Nat} {oc : Nat → Bool} {env' : Env} {penv : List (Option PV)} (hw : ∀ j ∈ own, j < s.env.length → s.env[j]? = some none) (ha : AsgOk n0 Sh sa st env s oc env' penv) (hoc : ∀ i, oc i = true → i ∈ own)
    (o : OutE n0 occ Sh sa st env' { s with env := penv } Sh' sa' st' s') : OutE n0 occ Sh sa st env s Sh' sa' st' { s' with env := wipeP s'.env own } ∧ ∀ j ∈ own, j < (wipeP s'.env own).length → (wipeP s'.env own)[j]? = some none := by
  have g' := o.o.good
  have hno : ∀ i, i ∉ own → oc i = false := fun i h => by
    cases q : oc i with
    | false => rfl
    | true => exact (h (hoc i q)).elim
  have hl : s'.env.length = s.env.length := by rw [← g'.len, ha.len, g.len]
  have he : ∀ i, i ∉ own → env'[i]? = env[i]? := fun i h => (ha.ne i (hno i h)).2
  refine ⟨⟨⟨⟨?_, g'.n0l, fun i d h => ?_, fun i xs h => ?_, fun i j a xs ys h1 h2 h3 h4 => ?_, g'.shlt, g'.stm⟩, o.o.sub, fun a h => ?_, o.o.saL, o.o.sn, o.o.len, fun a h => ?_, fun i hi => ⟨?_, rfl⟩, fun i xs a h1 h2 => ?_⟩, fun i xs h => ?_⟩, fun j hj hl2 => ?_⟩
  · show env.length = (wipeP s'.env own).length
    rw [wipeP_len, hl, g.len]
  · obtain ⟨k, hn⟩ := wipeP_some h
    obtain ⟨v, e, r⟩ := g'.sh i d k
    exact ⟨v, (he i hn).symm.trans e, r⟩
  · obtain ⟨k, hn⟩ := wipeP_some h
    obtain ⟨a, hs, e, r⟩ := g'.ow i xs k
    exact ⟨a, hs, (he i hn).symm.trans e, r⟩
  · obtain ⟨k1, n1⟩ := wipeP_some h1
    obtain ⟨k2, n2⟩ := wipeP_some h2
    exact g'.apart i j a xs ys k1 k2 ((he i n1).trans h3) ((he j n2).trans h4)
  · rcases o.o.new a h with k | k | ⟨i, xs, k1, k2, k3⟩
    · exact .inl k
    · exact .inr (.inl k)
    · obtain ⟨q1, q2⟩ := ha.ow i xs k2
      exact .inr (.inr ⟨i, xs, k1, q1, q2.symm.trans k3⟩)
  · rcases o.o.fr a h with k | k | ⟨i, xs, k1, k2, k3⟩
    · exact .inl k
    · exact .inr (.inl k)
    · obtain ⟨q1, q2⟩ := ha.ow i xs k2
      exact .inr (.inr ⟨i, xs, k1, q1, q2.symm.trans k3⟩)
  · show (wipeP s'.env own)[i]? = s.env[i]?
    by_cases hm : i ∈ own
    · by_cases hl2 : i < s.env.length
      · rw [wipeP_get, if_pos ⟨hm, by rw [hl]; exact hl2⟩, hw i hm hl2]
      · rw [List.getElem?_eq_none (by rw [wipeP_len]; omega), List.getElem?_eq_none (by omega)]
    · rw [wipeP_ne hm]
      exact (o.o.ev i hi).1.trans (ha.ne i (hno i hm)).1
  · obtain ⟨k, hn⟩ := wipeP_some h1
    rcases o.o.bk i xs a k ((he i hn).trans h2) with q | ⟨ys, q1, q2⟩
    · exact .inl q
    · exact .inr ⟨ys, (ha.ow i ys q1).1, h2⟩
  · obtain ⟨k, hn⟩ := wipeP_some h
    obtain ⟨ys, q⟩ := o.ebk i xs k
    exact ⟨ys, (ha.ow i ys q).1⟩
  · rw [wipeP_len] at hl2
    rw [wipeP_get, if_pos ⟨hj, hl2⟩]
/-- a place that nothing knows is changed -/
theorem OutE.setFree (o : OutE n0 occ Sh sa st env s Sh' sa' st' s') {d : Nat} (c : Cel) (h1 : st.length ≤ d) (h2 : ¬ Sh' d) (h3 : ¬ isSa sa' d) (h4 : ∀ (i : Nat) (xs : List D), s'.env[i]? = some (some (PV.ow xs)) → env[i]? ≠ some (some (HV.ref d))) : OutE n0 occ Sh sa st env s Sh' sa' (st'.set d c) s' := by
  have g := o.o.good
  have ne : ∀ {a : Nat}, a ≠ d → (st'.set d c)[a]? = st'[a]? := fun h => List.getElem?_set_ne (Ne.symm h)
  have kp : ∀ a, Sh' a → Sh' a ∧ (st'.set d c)[a]? = st'[a]? := fun a h => ⟨h, ne fun z => h2 (z ▸ h)⟩
  refine ⟨⟨⟨g.len, by rw [List.length_set]; exact g.n0l, fun i d h => ?_, fun i xs h => ?_, g.apart, fun a h => ⟨by rw [List.length_set]; exact (g.shlt a h).1, (g.shlt a h).2⟩, g.stm.keep fun a h => ne fun z => h3 (z ▸ h)⟩, o.o.sub, o.o.new, o.o.saL, o.o.sn, by rw [List.length_set]; exact o.o.len, fun a h => ?_, o.o.ev, o.o.bk⟩, o.ebk⟩
  · obtain ⟨v, e, r⟩ := g.sh i d h
    exact ⟨v, e, r.mono kp fun _ h => h⟩
  · obtain ⟨a, hs, e1, e2, e3, e4⟩ := g.ow i xs h
    exact ⟨a, hs, e1, (ne fun z => h4 i xs h (z ▸ e1)).trans e2, e3.mono kp fun _ h => h, e4⟩
  · rw [ne (by omega)]
    exact o.o.fr a h
/-- cells that stay as they are while a text runs that mentions no name of theirs -/
def HeldOk (occ : Nat → Bool) (sa : Sa) (st : Hs) (env : Env) (s : Ps) (held : List (Nat × Cel)) : Prop := ∀ p ∈ held, st[p.1]? = some p.2 ∧ ¬ isSa sa p.1 ∧ ∀ (i : Nat) (xs : List D), s.env[i]? = some (some (PV.ow xs)) → env[i]? = some (some (HV.ref p.1)) → occ i = false
theorem HeldOk.stands {held : List (Nat × Cel)} (h : HeldOk occ sa st env s held) : Wk.stands held st = true := by
  refine List.all_eq_true.mpr fun p hp => ?_
  rw [(h p hp).1]
  exact beq_self_eq_true _
theorem HeldOk.out {held : List (Nat × Cel)} (h : HeldOk occ sa st env s held) (o : Out n0 occ Sh sa st env s Sh' sa' st' env' s') : HeldOk occ sa' st' env' s' held := by
  intro p hp
  obtain ⟨h1, h2, h3⟩ := h p hp
  have hl := lt_of_get h1
  refine ⟨?_, fun z => ?_, fun i xs k1 k2 => ?_⟩
  · rcases o.fr p.1 hl with k | k | ⟨i, xs, k1, k2, k3⟩
    · rw [k, h1]
    · exact (h2 k).elim
    · rw [h3 i xs k2 k3] at k1
      cases k1
  · rcases o.sn _ z with k | k
    · exact h2 k
    · omega
  · rcases o.bk i xs p.1 k1 k2 with k | ⟨ys, k3, k4⟩
    · omega
    · exact h3 i ys k3 k4
/-- a new list that is being filled: nothing knows its place -/
structure Fill (Sh : Nat → Prop) (sa : Sa) (st : Hs) (env : Env) (s : Ps) (d : Nat) (ds : List D) : Prop where
  at_ : ∃ acc, st[d]? = some (.lst acc) ∧ RdSs Sh sa st acc ds
  sh : ¬ Sh d
  st : ¬ isSa sa d
  no : ∀ (i : Nat) (xs : List D), s.env[i]? = some (some (PV.ow xs)) → env[i]? ≠ some (some (HV.ref d))
theorem Fill.out (g : Good n0 Sh sa st env s) {d : Nat} {ds : List D} (f : Fill Sh sa st env s d ds) (o : OutE n0 occ Sh sa st env s Sh' sa' st' s') : Fill Sh' sa' st' env s' d ds := by
  obtain ⟨⟨acc, f1, f2⟩, f3, f4, f5⟩ := f
  have hl := lt_of_get f1
  refine ⟨⟨acc, ?_, o.o.rds g f2⟩, fun k => ?_, fun k => ?_, fun i xs h e => ?_⟩
  · rcases o.o.fr d hl with k | k | ⟨i, xs, k1, k2, k3⟩
    · rw [k, f1]
    · exact (f4 k).elim
    · exact (f5 i xs k2 k3).elim
  · rcases o.o.new d k with k | k | ⟨i, xs, k1, k2, k3⟩
    · exact f3 k
    · omega
    · exact f5 i xs k2 k3
  · rcases o.o.sn d k with k | k
    · exact f4 k
    · omega
  · obtain ⟨ys, k⟩ := o.ebk i xs h
    exact f5 i ys k e
theorem asg_wipe {own : List Nat} {oc : Nat → Bool} {env' : Env} {penv : List (Option PV)} (ha : AsgOk n0 Sh sa st env s oc env' penv) (hoc : ∀ i, oc i = true → i ∈ own) : wipeE env' own = wipeE env own := by
  refine List.ext_getElem? fun j => ?_
  rw [wipeE_get, wipeE_get, ha.len]
  by_cases h : j ∈ own ∧ j < env.length
  · rw [if_pos h, if_pos h]
  · rw [if_neg h, if_neg h]
    by_cases hm : j ∈ own
    · have hl : env.length ≤ j := by
        rcases Nat.lt_or_ge j env.length with z | z
        · exact absurd ⟨hm, z⟩ h
        · exact z
      rw [List.getElem?_eq_none (by rw [ha.len]; exact hl), List.getElem?_eq_none hl]
    · exact (ha.ne j (by cases q : oc j with
        | false => rfl
        | true => exact (hm (hoc j q)).elim)).2
mutual
theorem tgIn_ok {own : List Nat} {i : Nat} : ∀ {t : Tg}, tgIn own t = true → occT i t = true → i ∈ own
  | .nm j, h, k => by
    have k : (i == j) = true := k
    have h : own.contains j = true := h
    rw [eq_of_beq k]
    exact List.contains_iff_mem.mp h
  | .tp ts, h, k => tgsIn_ok (ts := ts) h k
theorem tgsIn_ok {own : List Nat} {i : Nat} : ∀ {ts : List Tg}, tgsIn own ts = true → occT.occTs i ts = true → i ∈ own
  | [], _, k => by cases k
  | t :: ts, h, k => by
    have h : (tgIn own t && tgsIn own ts) = true := h
    have k : (occT i t || occT.occTs i ts) = true := k
    rw [Bool.and_eq_true] at h
    rw [Bool.or_eq_true] at k
    rcases k with k | k
    · exact tgIn_ok h.1 k
    · exact tgsIn_ok h.2 k
end
/-- the turns of a comprehension -/
theorem comP_ok {tg : Tg} {own : List Nat} {cs : Exs} {e : Ex} (htg : tgIn own tg = true) {d : Nat} {held : List (Nat × Cel)}
    (hc : ∀ n0 Sh sa st env s, Good n0 Sh sa st env s → Sim n0 (occB cs e) Sh sa st env s (fun _ _ _ _ b c => b = c) (evCs Rh env cs st) (evCs' Rq cs s)) (he : ∀ n0 Sh sa st env s, Good n0 Sh sa st env s → Sim n0 (occB cs e) Sh sa st env s DOk (evE Rh env e st) (shr (evF Rq e) s))
    {Sh0 : Nat → Prop} {sa0 : Sa} {st0 : Hs} {s0 : Ps} (hd : st0.length ≤ d) (hld : ∀ p ∈ held, p.1 ≠ d) :
    ∀ {xs : List PIv} {ys : List Iv} {Sh : Nat → Prop} {sa : Sa} {st : Hs} {s : Ps} {ads ds : List D} {s' : Ps}, OutE n0 (occB cs e) Sh0 sa0 st0 env s0 Sh sa st s → IvsOk Sh sa st ys xs → (∀ j ∈ own, j < s.env.length → s.env[j]? = some none) → Fill Sh sa st env s d ads → HeldOk (occB cs e) sa st env s held →
      comP tg own (evCs' Rq cs) (shr (evF Rq e)) ads.length xs s = .ok ds s' → ∃ st' Sh' sa', comH d held tg env own (fun env' => evCs Rh env' cs) (fun env' => evE Rh env' e) ys st = .ok (.ref d) st' ∧ OutE n0 (occB cs e) Sh0 sa0 st0 env s0 Sh' sa' st' s' ∧ Fill Sh' sa' st' env s' d (ads ++ ds)
  | [], ys, Sh, sa, st, s, ads, ds, s', o, iv, hw, f, hh, ep => by
    cases iv
    unfold comP at ep
    cases ep
    refine ⟨st, Sh, sa, ?_, o, by rw [List.append_nil]; exact f⟩
    unfold comH
    rw [hh.stands]
    rfl
  | x :: xs, ys, Sh, sa, st, s, ads, ds, s', o, iv, hw, f, hh, ep => by
    cases iv with
    | cons i1 i2 =>
      have g := o.o.good
      unfold comP at ep
      split at ep
      · rename_i penv ea
        obtain ⟨env1, ea2, ha⟩ := asgI_ok g i1 ea
        have hoc : ∀ i, occT i tg = true → i ∈ own := fun i h => tgIn_ok htg h
        have hw1 := asg_wipe ha hoc
        have sc := hc n0 Sh sa st env1 { s with env := penv } ha.good
        unfold comH
        rw [hh.stands]
        simp only [if_true]
        rw [ea2]
        simp only
        rw [if_pos hw1]
        cases e1 : evCs' Rq cs { s with env := penv } with
        | bad => rw [e1] at ep; cases ep
        | exc c p s1 => rw [e1] at ep; cases ep
        | ok b s1 =>
          rw [e1] at ep sc
          obtain ⟨b', st1, Sh1, sa1, e2, o1, rfl⟩ := sc
          rw [e2]
          cases b' with
          | false =>
            simp only at ep ⊢
            obtain ⟨t1, t2⟩ := turn_out g hw ha hoc o1
            have kp : ∀ a, Sh a → Sh1 a ∧ st1[a]? = st[a]? := fun a h => ⟨t1.o.sub a h, t1.o.keep g h⟩
            exact comP_ok htg hc he hd hld (o.trans t1) (i2.mono kp t1.o.saL) t2 (f.out g t1) (hh.out t1.o) ep
          | true =>
            simp only at ep ⊢
            have se := he n0 Sh1 sa1 st1 env1 s1 o1.o.good
            cases e3 : shr (evF Rq e) s1 with
            | bad => rw [e3] at ep; cases ep
            | exc c p s2 => rw [e3] at ep; cases ep
            | ok y s2 =>
              rw [e3] at ep se
              obtain ⟨w, st2, Sh2, sa2, e4, o2, rw2⟩ := se
              rw [e4]
              simp only at ep ⊢
              split at ep
              · rename_i hz
                obtain ⟨t1, t2⟩ := turn_out g hw ha hoc (o1.trans o2)
                have f2 := f.out g t1
                obtain ⟨⟨acc, a1, a2⟩, a3, a4, a5⟩ := f2
                rw [a1]
                simp only
                rw [if_pos (by rw [a2.length]; exact hz)]
                have o3 := (o.trans t1).setFree (.lst (acc ++ [w])) hd a3 a4 a5
                have ne : ∀ {a : Nat}, a ≠ d → (st2.set d (.lst (acc ++ [w])))[a]? = st2[a]? := fun h => List.getElem?_set_ne (Ne.symm h)
                have kp2 : ∀ a, Sh2 a → Sh2 a ∧ (st2.set d (.lst (acc ++ [w])))[a]? = st2[a]? := fun a h => ⟨h, ne fun z => a3 (z ▸ h)⟩
                have kp : ∀ a, Sh a → Sh2 a ∧ (st2.set d (.lst (acc ++ [w])))[a]? = st[a]? := fun a h => ⟨t1.o.sub a h, (kp2 a (t1.o.sub a h)).2.trans (t1.o.keep g h)⟩
                have f3 : Fill Sh2 sa2 (st2.set d (.lst (acc ++ [w]))) env { s2 with env := wipeP s2.env own } d (ads ++ [y]) :=
                  ⟨⟨acc ++ [w], List.getElem?_set_self (lt_of_get a1), (a2.append (.cons rw2 .nil)).mono kp2 fun _ h => h⟩, a3, a4, a5⟩
                have hh3 : HeldOk (occB cs e) sa2 (st2.set d (.lst (acc ++ [w]))) env { s2 with env := wipeP s2.env own } held := fun p hp => by
                  obtain ⟨k1, k2, k3⟩ := hh.out t1.o p hp
                  exact ⟨(ne (hld p hp)).trans k1, k2, k3⟩
                unfold pbnd at ep
                cases e5 : comP tg own (evCs' Rq cs) (shr (evF Rq e)) (ads.length + 1) xs { s2 with env := wipeP s2.env own } with
                | bad => rw [e5] at ep; cases ep
                | exc c p s3 => rw [e5] at ep; cases ep
                | ok zs s3 =>
                  rw [e5] at ep
                  cases ep
                  have hl : ads.length + 1 = (ads ++ [y]).length := by rw [List.length_append]; rfl
                  rw [hl] at e5
                  obtain ⟨st4, Sh4, sa4, k1, k2, k3⟩ := comP_ok htg hc he hd hld o3 (i2.mono kp t1.o.saL) t2 f3 hh3 e5
                  rw [List.append_assoc] at k3
                  exact ⟨st4, Sh4, sa4, k1, k2, k3⟩
              · cases ep
      · cases ep
end Ih
end
section
set_option Elab.async false
set_option linter.all false
set_option maxHeartbeats 1000000
namespace Ih
open PySem
variable {Sh Sh' : Nat → Prop} {sa sa' : Sa} {st st' : Hs} {n0 : Nat} {env env' : Env} {s s' : Ps} {occ occ' : Nat → Bool} {n : Nat} {Rh : Rt} {Rq : Rp}
theorem back_out (g : Good n0 Sh sa st env s) {own : List Nat} (o : OutE n0 occ Sh sa st (wipeE env own) { s with env := wipeP s.env own } Sh' sa' st' s') : OutE n0 (fun i => occ i || own.contains i) Sh sa st env s Sh' sa' st' { s' with env := backP s.env s'.env own } := by
  have gB := wipe_good g own
  have g' := o.o.good
  have hl : s.env.length = s'.env.length := by rw [← g'.len, wipeE_len, g.len]
  have owB : ∀ {j a : Nat} {xs : List D}, (wipeP s.env own)[j]? = some (some (PV.ow xs)) → (wipeE env own)[j]? = some (some (HV.ref a)) → j ∉ own ∧ s.env[j]? = some (some (PV.ow xs)) ∧ env[j]? = some (some (HV.ref a)) := fun h1 h2 => by
    obtain ⟨k, hn⟩ := wipeP_some h1
    exact ⟨hn, k, (wipeE_ne hn).symm.trans h2⟩
  have hin : ∀ {i : Nat}, i ∈ own → (backP s.env s'.env own)[i]? = s.env[i]? := fun h => by rw [backP_get hl, if_pos h]
  have hout : ∀ {i : Nat}, i ∉ own → (backP s.env s'.env own)[i]? = s'.env[i]? := fun h => by rw [backP_get hl, if_neg h]
  have far : ∀ {i j a b : Nat} {xs ys : List D}, i ∈ own → s.env[i]? = some (some (PV.ow xs)) → env[i]? = some (some (HV.ref a)) → j ∉ own → s'.env[j]? = some (some (PV.ow ys)) → env[j]? = some (some (HV.ref a)) → False := fun {i j a b xs ys} h1 h2 h3 h4 h5 h6 => by
    rcases o.o.bk j ys a h5 ((wipeE_ne h4).trans h6) with k | ⟨zs, k1, k2⟩
    · exact absurd (ow_lt g h2 h3) (Nat.not_lt.mpr k)
    · obtain ⟨_, q1, q2⟩ := owB k1 k2
      exact h4 (g.apart i j a _ _ h2 q1 h3 q2 ▸ h1)
  refine ⟨⟨⟨?_, g'.n0l, fun i d h => ?_, fun i xs h => ?_, fun i j a xs ys h1 h2 h3 h4 => ?_, g'.shlt, g'.stm⟩, o.o.sub, fun a h => ?_, o.o.saL, o.o.sn, o.o.len, fun a h => ?_, fun i hi => ⟨?_, rfl⟩, fun i xs a h1 h2 => ?_⟩, fun i xs h => ?_⟩
  · show env.length = (backP s.env s'.env own).length
    rw [backP_len, ← hl, g.len]
  · have h : (backP s.env s'.env own)[i]? = some (some (PV.sh d)) := h
    by_cases hm : i ∈ own
    · rw [hin hm] at h
      obtain ⟨v, e, r⟩ := g.sh i d h
      exact ⟨v, e, o.o.rd gB r⟩
    · rw [hout hm] at h
      obtain ⟨v, e, r⟩ := g'.sh i d h
      exact ⟨v, (wipeE_ne hm).symm.trans e, r⟩
  · have h : (backP s.env s'.env own)[i]? = some (some (PV.ow xs)) := h
    by_cases hm : i ∈ own
    · rw [hin hm] at h
      obtain ⟨a, hs, e1, e2, e3, e4, e5, e6⟩ := g.ow i xs h
      have hla := lt_of_get e2
      refine ⟨a, hs, e1, ?_, o.o.rds gB e3, e4, fun k => ?_, fun k => ?_⟩
      · rcases o.o.fr a hla with k | k | ⟨j, ys, _, k2, k3⟩
        · rw [k, e2]
        · exact (e6 k).elim
        · obtain ⟨q0, q1, q2⟩ := owB k2 k3
          exact (q0 (g.apart i j a _ _ h q1 e1 q2 ▸ hm)).elim
      · rcases o.o.new a k with k | k | ⟨j, ys, _, k2, k3⟩
        · exact e5 k
        · omega
        · obtain ⟨q0, q1, q2⟩ := owB k2 k3
          exact q0 (g.apart i j a _ _ h q1 e1 q2 ▸ hm)
      · rcases o.o.sn a k with k | k
        · exact e6 k
        · omega
    · rw [hout hm] at h
      obtain ⟨a, hs, e, r⟩ := g'.ow i xs h
      exact ⟨a, hs, (wipeE_ne hm).symm.trans e, r⟩
  · have h1 : (backP s.env s'.env own)[i]? = some (some (PV.ow xs)) := h1
    have h2 : (backP s.env s'.env own)[j]? = some (some (PV.ow ys)) := h2
    by_cases hi : i ∈ own
    · rw [hin hi] at h1
      by_cases hj : j ∈ own
      · rw [hin hj] at h2
        exact g.apart i j a xs ys h1 h2 h3 h4
      · rw [hout hj] at h2
        exact (far (b := 0) hi h1 h3 hj h2 h4).elim
    · rw [hout hi] at h1
      by_cases hj : j ∈ own
      · rw [hin hj] at h2
        exact (far (b := 0) hj h2 h4 hi h1 h3).elim
      · rw [hout hj] at h2
        exact g'.apart i j a xs ys h1 h2 ((wipeE_ne hi).trans h3) ((wipeE_ne hj).trans h4)
  · rcases o.o.new a h with k | k | ⟨j, ys, k1, k2, k3⟩
    · exact .inl k
    · exact .inr (.inl k)
    · obtain ⟨q0, q1, q2⟩ := owB k2 k3
      exact .inr (.inr ⟨j, ys, by rw [k1]; rfl, q1, q2⟩)
  · rcases o.o.fr a h with k | k | ⟨j, ys, k1, k2, k3⟩
    · exact .inl k
    · exact .inr (.inl k)
    · obtain ⟨q0, q1, q2⟩ := owB k2 k3
      exact .inr (.inr ⟨j, ys, by rw [k1]; rfl, q1, q2⟩)
  · have hi : (occ i || own.contains i) = false := hi
    rw [Bool.or_eq_false_iff] at hi
    have hm : i ∉ own := fun z => by
      have := List.contains_iff_mem.mpr z
      rw [hi.2] at this
      cases this
    show (backP s.env s'.env own)[i]? = _
    rw [hout hm, (o.o.ev i hi.1).1]
    exact wipeP_ne hm
  · have h1 : (backP s.env s'.env own)[i]? = some (some (PV.ow xs)) := h1
    by_cases hm : i ∈ own
    · rw [hin hm] at h1
      exact .inr ⟨xs, h1, h2⟩
    · rw [hout hm] at h1
      rcases o.o.bk i xs a h1 ((wipeE_ne hm).trans h2) with k | ⟨ys, k1, k2⟩
      · exact .inl k
      · obtain ⟨_, q1, q2⟩ := owB k1 k2
        exact .inr ⟨ys, q1, q2⟩
  · have h : (backP s.env s'.env own)[i]? = some (some (PV.ow xs)) := h
    by_cases hm : i ∈ own
    · rw [hin hm] at h
      exact ⟨xs, h⟩
    · rw [hout hm] at h
      obtain ⟨ys, k⟩ := o.ebk i xs h
      exact ⟨ys, (wipeP_some k).1⟩
/-- what is walked -/
def WkOk (occ : Nat → Bool) (env : Env) : (Nat → Prop) → Sa → Hs → Ps → Wk → List PIv → Prop := fun Sh sa st s w xs => IvsOk Sh sa st w.items xs ∧ HeldOk occ sa st env s w.held
theorem ones_ok : ∀ {hs : List HV} {ds : List D}, RdSs Sh sa st hs ds → IvsOk Sh sa st (hs.map .one) (onesP ds)
  | _, _, .nil => .nil
  | _, _, .cons h1 h2 => .cons (.one h1) (ones_ok h2)
theorem enms_ok : ∀ {k : Nat} {hs : List HV} {ds : List D}, RdSs Sh sa st hs ds → IvsOk Sh sa st (enmFrom k hs) (enmP k ds)
  | _, _, _, .nil => .nil
  | _, _, _, .cons h1 h2 => .cons (.many (.cons (.int _) (.cons h1 .nil))) (enms_ok h2)
theorem zips_ok : ∀ {hs ks : List HV} {ds es : List D}, RdSs Sh sa st hs ds → RdSs Sh sa st ks es → IvsOk Sh sa st (zipV hs ks) (zipP ds es)
  | _, _, _, _, .nil, _ => .nil
  | _, _, _, _, .cons _ _, .nil => .nil
  | _, _, _, _, .cons h1 h2, .cons k1 k2 => .cons (.many (.cons h1 (.cons k1 .nil))) (zips_ok h2 k2)
/-- what a walked operand shows -/
structure WalkO (ob : Nat → Bool) (Sh : Nat → Prop) (sa : Sa) (st : Hs) (env : Env) (s : Ps) (w : HV) (d : D) : Prop where
  see : See Sh sa st env s w d
  held : ∀ {a : Nat} {c : Cel}, w = .ref a → st[a]? = some c → (∃ xs, c = .lst xs) ∨ (∃ xs, c = .tup xs) → HeldOk ob sa st env s [(a, c)]
theorem sh_held {ob : Nat → Bool} (g : Good n0 Sh sa st env s) {a : Nat} {c : Cel} (h : Sh a) (e : st[a]? = some c) : HeldOk ob sa st env s [(a, c)] := by
  intro p hp
  cases List.mem_singleton.mp hp
  refine ⟨e, (g.shlt a h).2, fun i xs k1 k2 => ?_⟩
  obtain ⟨b, hs, e1, _, _, _, e2, _⟩ := g.ow i xs k1
  rw [k2] at e1
  cases e1
  exact (e2 h).elim
theorem rd_held {ob : Nat → Bool} (g : Good n0 Sh sa st env s) {w : HV} {d : D} (r : RdS Sh sa st w d) (hd : d.items ≠ none) : WalkO ob Sh sa st env s w d := by
  refine ⟨.sh r, fun {a c} e h hc => ?_⟩
  subst e
  cases r with
  | lst h1 h2 h3 => exact sh_held g h1 h
  | tup h1 h2 h3 => exact sh_held g h1 h
  | dic0 h1 h2 => exact (hd rfl).elim
  | scr h1 h2 => exact (hd rfl).elim
  | stm h1 => exact (hd rfl).elim
theorem Sim.walk {α β : Type} {ob : Nat → Bool} {rel : (Nat → Prop) → Sa → Hs → Ps → α → β → Prop} (g : Good n0 Sh sa st env s) {w : HV} {o : Od} (h : OdOk env Sh sa st s w o) (ho : ∀ i, o = .own i → occ i = true) {r : Res α} {f : D → PM β}
    (k : ∀ Sh1 s1 d, OutE n0 occ Sh sa st env s Sh1 sa st s1 → (d.items ≠ none → WalkO ob Sh1 sa st env s1 w d) → See Sh1 sa st env s1 w d → Sim n0 occ Sh1 sa st env s1 rel r (f d s1)) : Sim n0 occ Sh sa st env s rel r (pbnd (walkP ob o) f s) := by
  have go : ∀ {Sh1 : Nat → Prop} {s1 : Ps}, OutE n0 occ Sh sa st env s Sh1 sa st s1 → Sim n0 occ Sh1 sa st env s1 rel r (pbnd (rdO o) f s1) → Sim n0 occ Sh sa st env s rel r (pbnd (rdO o) f s1) := fun {Sh1 s1} o1 z => by
    cases q : pbnd (rdO o) f s1 with
    | bad => exact True.intro
    | exc c p s2 =>
      rw [q] at z
      obtain ⟨v, st2, Sh2, sa2, e1, o2, r2⟩ := z
      exact ⟨v, st2, Sh2, sa2, e1, o1.trans o2, r2⟩
    | ok b s2 =>
      rw [q] at z
      obtain ⟨v, st2, Sh2, sa2, e1, o2, r2⟩ := z
      exact ⟨v, st2, Sh2, sa2, e1, o1.trans o2, r2⟩
  have plain : ∀ {Sh1 : Nat → Prop} {s1 : Ps}, OutE n0 occ Sh sa st env s Sh1 sa st s1 → OdOk env Sh1 sa st s1 w o → (∀ i xs, o = .own i → s1.env[i]? = some (some (PV.ow xs)) → ob i = false) → Sim n0 occ Sh1 sa st env s1 rel r (pbnd (rdO o) f s1) := fun {Sh1 s1} o1 h1 hf => by
    refine Sim.rdE o1.o.good h1 fun d hrd hd => k Sh1 s1 d o1 (fun hit => ?_) hd
    cases hd with
    | sh r => exact rd_held o1.o.good r hit
    | ow k1 k2 k3 k4 =>
      rename_i i a ys xs hs
      refine ⟨.ow k1 k2 k3 k4, fun {b c} e h2 hc => ?_⟩
      cases e
      have g1 := o1.o.good
      obtain ⟨b, ks, e1, e2, e3, e4, e5, e6⟩ := g1.ow i ys k1
      rw [k2] at e1
      cases e1
      cases o with
      | val d0 =>
        have h1 : RdS Sh1 sa st (.ref a) d0 := h1
        cases h1 with
        | lst z _ _ => exact (e5 z).elim
        | tup z _ _ => exact (e5 z).elim
        | dic0 z _ => exact (e5 z).elim
        | scr z _ => exact (e5 z).elim
        | stm z => exact (e6 ⟨_, z, .inl rfl⟩).elim
      | own j =>
        have h1 : env[j]? = some (some (.ref a)) := h1
        intro p hp
        cases List.mem_singleton.mp hp
        refine ⟨h2, e6, fun i' xs' q1 q2 => ?_⟩
        have e7 := g1.apart i i' a _ _ k1 q1 k2 q2
        subst e7
        -- j holds the same place: it is i, or it is shared, which cannot be
        cases q3 : s1.env[j]? with
        | none =>
          have := (List.getElem?_eq_some_iff.mp h1).1
          rw [g1.len] at this
          rw [List.getElem?_eq_none_iff] at q3
          omega
        | some v =>
          cases v with
          | none =>
            have z : rdV s1.env (.own j) = none := by simp only [rdV, q3]
            rw [z] at hrd
            cases hrd
          | some v =>
            cases v with
            | ow zs =>
              have := g1.apart i j a _ _ k1 q3 k2 h1
              subst this
              exact hf i zs rfl q3
            | sh d0 =>
              obtain ⟨u, z1, z2⟩ := g1.sh j d0 q3
              rw [h1] at z1
              cases z1
              cases z2 with
              | lst z _ _ => exact (e5 z).elim
              | tup z _ _ => exact (e5 z).elim
              | dic0 z _ => exact (e5 z).elim
              | scr z _ => exact (e5 z).elim
              | stm z => exact (e6 ⟨_, z, .inl rfl⟩).elim
  cases o with
  | val d => exact plain (.refl g) h fun i xs e => by cases e
  | own i =>
    show Sim n0 occ Sh sa st env s rel r (pbnd (if ob i then (fun s => rdO (.own i) { s with env := frz1 s.env i }) else rdO (.own i)) f s)
    cases hob : ob i with
    | false =>
      rw [if_neg Bool.false_ne_true]
      exact plain (.refl g) h fun j xs e _ => by cases e; exact hob
    | true =>
      rw [if_pos rfl]
      by_cases kk : ∃ xs, s.env[i]? = some (some (PV.ow xs))
      · obtain ⟨xs, kk⟩ := kk
        have h' : env[i]? = some (some w) := h
        obtain ⟨a, hs, e1, _⟩ := g.ow i xs kk
        have o1 := OutE.frz (occ := occ) g kk e1 (ho i rfl)
        refine go o1 (plain o1 h fun j ys e q => ?_)
        cases e
        have q : (frz1 s.env i)[i]? = some (some (PV.ow ys)) := q
        rw [frz1_at kk] at q
        cases q
      · have ef : frz1 s.env i = s.env := frz1_no fun xs z => kk ⟨xs, z⟩
        have es : ({ s with env := frz1 s.env i } : Ps) = s := by rw [ef]
        show Sim n0 occ Sh sa st env s rel r (pbnd (rdO (.own i)) f { s with env := frz1 s.env i })
        rw [es]
        exact plain (.refl g) h fun j xs e q => by cases e; exact absurd ⟨xs, q⟩ kk
end Ih
end
section
set_option Elab.async false
set_option linter.all false
set_option maxHeartbeats 2000000
namespace Ih
open PySem
variable {Sh Sh' : Nat → Prop} {sa sa' : Sa} {st st' : Hs} {n0 : Nat} {env env' : Env} {s s' : Ps} {occ occ' : Nat → Bool} {n : Nat} {Rh : Rt} {Rq : Rp}
def RelDs : (Nat → Prop) → Sa → Hs → Ps → List HV → List D → Prop := fun Sh sa st s ws ds => RdSs Sh sa st ws ds
def RelOs (env : Env) (es : Exs) : (Nat → Prop) → Sa → Hs → Ps → List HV → List Od → Prop := fun Sh sa st s ws os => OdsOk env Sh sa st s ws os ∧ ∀ i, Od.own i ∈ os → occEs i es = true
def RelEq {α : Type} : (Nat → Prop) → Sa → Hs → Ps → α → α → Prop := fun _ _ _ _ a b => a = b
def SndPs (Rh : Rt) (Rq : Rp) (es : Exs) : Prop := ∀ n0 Sh sa st env s, Good n0 Sh sa st env s → Sim n0 (fun i => occEs i es) Sh sa st env s RelDs (evEs Rh env es st) (evPs Rq es s)
def SndKs (Rh : Rt) (Rq : Rp) (es : Exs) : Prop := ∀ n0 Sh sa st env s, Good n0 Sh sa st env s → Sim n0 (fun i => occEs i es) Sh sa st env s (RelOs env es) (evEs Rh env es st) (evKs Rq es s)
def SndPO (Rh : Rt) (Rq : Rp) (o : Exo) : Prop := ∀ n0 Sh sa st env s, Good n0 Sh sa st env s → Sim n0 (fun i => occO i o) Sh sa st env s RelEq (evO Rh env o st) (evPO Rq o s)
def SndW (Rh : Rt) (Rq : Rp) (it : It) : Prop := ∀ ob n0 Sh sa st env s, Good n0 Sh sa st env s → Sim n0 (fun i => occI i it) Sh sa st env s (WkOk ob env) (evI Rh env it st) (evW Rq ob it s)
def SndCs (Rh : Rt) (Rq : Rp) (cs : Exs) : Prop := ∀ n0 Sh sa st env s, Good n0 Sh sa st env s → Sim n0 (fun i => occEs i cs) Sh sa st env s RelEq (evCs Rh env cs st) (evCs' Rq cs s)
theorem or_l {a b : Bool} (h : a = true) : (a || b) = true := by rw [h]; rfl
theorem or_r {a b : Bool} (h : b = true) : (a || b) = true := by rw [h, Bool.or_true]
theorem Sim.mono {α β : Type} {rel : (Nat → Prop) → Sa → Hs → Ps → α → β → Prop} {r : Res α} {q : PRes β} (h : Sim n0 occ Sh sa st env s rel r q) (ho : ∀ i, occ i = true → occ' i = true) : Sim n0 occ' Sh sa st env s rel r q := h.imp ho fun _ _ _ _ _ _ _ r => r
/-- two operands -/
theorem two_ops {γ δ : Type} {a b : Ex} {rel : (Nat → Prop) → Sa → Hs → Ps → γ → δ → Prop} {f : HV → HV → M γ} {pf : Od → Od → PM δ} (ha : SndE Rh Rq a) (hb : SndE Rh Rq b) (g : Good n0 Sh sa st env s) (oa : ∀ i, occE i a = true → occ i = true) (ob : ∀ i, occE i b = true → occ i = true)
    (k : ∀ x y X Y Sh2 sa2 st2 s2, OutE n0 occ Sh sa st env s Sh2 sa2 st2 s2 → OdOk env Sh2 sa2 st2 s2 x X → OdOk env Sh2 sa2 st2 s2 y Y → (∀ i, X = .own i → occ i = true) → (∀ i, Y = .own i → occ i = true) → Sim n0 occ Sh2 sa2 st2 env s2 rel (f x y st2) (pf X Y s2)) :
    Sim n0 occ Sh sa st env s rel (bnd (evE Rh env a) (fun x => bnd (evE Rh env b) fun y => f x y) st) (pbnd (opd a (evF Rq a)) (fun X => pbnd (opd b (evF Rq b)) fun Y => pf X Y) s) := by
  refine Sim.bind ((ha.o n0 Sh sa st env s g).mono oa) fun x X Sh1 sa1 st1 s1 o1 r1 => ?_
  have g1 := o1.o.good
  have z := (hb.o n0 Sh1 sa1 st1 env s1 g1).mono ob
  unfold bnd pbnd
  cases e : opd b (evF Rq b) s1 with
  | bad => exact True.intro
  | exc c p s2 =>
    rw [e] at z
    obtain ⟨q, st2, Sh2, sa2, e1, o2, r2⟩ := z
    rw [e1]
    exact ⟨q, st2, Sh2, sa2, rfl, o2, r2⟩
  | ok Y s2 =>
    rw [e] at z
    obtain ⟨y, st2, Sh2, sa2, e1, o2, r2⟩ := z
    rw [e1]
    have w := k x y X Y Sh2 sa2 st2 s2 (o1.trans o2) (r1.1.out g1 o2) r2.1 (fun i h => oa i (r1.2 i h)) fun i h => ob i (r2.2 i h)
    show Sim n0 occ Sh1 sa1 st1 env s1 rel (f x y st2) (pf X Y s2)
    cases e3 : pf X Y s2 with
    | bad => exact True.intro
    | exc c p s3 =>
      rw [e3] at w
      obtain ⟨q, st3, Sh3, sa3, e4, o3, r3⟩ := w
      exact ⟨q, st3, Sh3, sa3, e4, o2.trans o3, r3⟩
    | ok d s3 =>
      rw [e3] at w
      obtain ⟨q, st3, Sh3, sa3, e4, o3, r3⟩ := w
      exact ⟨q, st3, Sh3, sa3, e4, o2.trans o3, r3⟩
theorem wk_ok {ob : Nat → Bool} {w : HV} {d : D} {xs : List D} (h : WalkO ob Sh sa st env s w d) (e : d.items = some xs) : ∃ W, wkSeq w st = .ok W st ∧ WkOk ob env Sh sa st s W (onesP xs) := by
  cases d with
  | lst ys =>
    cases e
    obtain ⟨a, hs, rfl, h1, h2⟩ := h.see.lst
    exact ⟨⟨hs.map .one, [(a, .lst hs)]⟩, by simp only [wkSeq, h1], ones_ok h2, h.held rfl h1 (.inl ⟨_, rfl⟩)⟩
  | tup ys =>
    cases e
    obtain ⟨a, hs, rfl, _, h1, h2⟩ := h.see.tup
    exact ⟨⟨hs.map .one, [(a, .tup hs)]⟩, by simp only [wkSeq, h1], ones_ok h2, h.held rfl h1 (.inr ⟨_, rfl⟩)⟩
  | _ => cases e
theorem HeldOk.shr {ob : Nat → Bool} {held : List (Nat × Cel)} (h : HeldOk ob sa st env s held) (o : OutE n0 occ Sh sa st env s Sh' sa st s') : HeldOk ob sa st env s' held := fun p hp => by
  obtain ⟨h1, h2, h3⟩ := h p hp
  refine ⟨h1, h2, fun i xs k1 k2 => ?_⟩
  obtain ⟨ys, k3⟩ := o.ebk i xs k1
  exact h3 i ys k3 k2
theorem rng_ok {v w : HV} {a b : D} {ps : List PIv} {ob : Nat → Bool} (h1 : RdS Sh sa st v a) (h2 : RdS Sh sa st w b) (e : rngP a b = some ps) : ∃ W, wkRng v w st = .ok W st ∧ WkOk ob env Sh sa st s W ps := by
  cases a with
  | int i =>
    cases b with
    | int j =>
      cases h1
      cases h2
      simp only [rngP] at e
      split at e
      · rename_i hz
        cases e
        refine ⟨⟨(rgL i j).map .one, []⟩, by simp only [wkRng]; rw [if_pos hz], ones_ok rgD_ok, fun p hp => (List.not_mem_nil hp).elim⟩
      · cases e
    | _ => cases e
  | _ => cases b <;> cases e
theorem com_ok {tg : Tg} {it : It} {cs : Exs} {e : Ex} {own : List Nat} (hit : SndW Rh Rq it) (hcs : SndCs Rh Rq cs) (he : SndE Rh Rq e) : SndE Rh Rq (.com tg it cs e own) := by
  intro n0 Sh sa st env s g
  refine Sim.bind ((hit (occB cs e) n0 Sh sa st env s g).mono fun i h => or_l (or_l (or_l h))) fun w items Sh1 sa1 st1 s1 o1 ⟨iv, hh⟩ => ?_
  have g1 := o1.o.good
  show Sim n0 _ Sh1 sa1 st1 env s1 (PvOk st.length) (comH st1.length w.held tg (wipeE env own) own (fun env' => evCs Rh env' cs) (fun env' => evE Rh env' e) w.items (st1 ++ [.lst []])) (if tgIn own tg then _ else PRes.bad)
  split
  · rename_i htg
    cases ep : comP tg own (evCs' Rq cs) (shr (evF Rq e)) 0 items { s1 with env := wipeP s1.env own } with
    | bad => exact True.intro
    | exc c p s2 => exact True.intro
    | ok ds s2 =>
      dsimp only
      have gB := wipe_good g1 own
      have oB := OutE.alloc (occ := occB cs e) gB (.lst [])
      have kp : ∀ a, Sh1 a → Sh1 a ∧ (st1 ++ [Cel.lst []])[a]? = st1[a]? := fun a h => ⟨h, get_app (g1.shlt a h).1⟩
      have owB : ∀ {i a : Nat} {xs : List D}, (wipeP s1.env own)[i]? = some (some (PV.ow xs)) → (wipeE env own)[i]? = some (some (HV.ref a)) → s1.env[i]? = some (some (PV.ow xs)) ∧ env[i]? = some (some (HV.ref a)) := fun {i a xs} h1 h2 => by
        obtain ⟨k, hn⟩ := wipeP_some h1
        exact ⟨k, (wipeE_ne hn).symm.trans h2⟩
      have fl : Fill Sh1 sa1 (st1 ++ [.lst []]) (wipeE env own) { s1 with env := wipeP s1.env own } st1.length [] := by
        refine ⟨⟨[], get_new, .nil⟩, (not_len g1).1, (not_len g1).2, fun i xs h1 h2 => ?_⟩
        obtain ⟨k1, k2⟩ := owB h1 h2
        exact Nat.lt_irrefl _ (ow_lt g1 k1 k2)
      have hB : HeldOk (occB cs e) sa1 (st1 ++ [.lst []]) (wipeE env own) { s1 with env := wipeP s1.env own } w.held := fun p hp => by
        obtain ⟨k1, k2, k3⟩ := hh p hp
        refine ⟨(get_app (lt_of_get k1)).trans k1, k2, fun i xs h1 h2 => ?_⟩
        obtain ⟨q1, q2⟩ := owB h1 h2
        exact k3 i xs q1 q2
      have hld : ∀ p ∈ w.held, p.1 ≠ st1.length := fun p hp z => by
        have := lt_of_get (hh p hp).1
        omega
      have hw : ∀ j ∈ own, j < (wipeP s1.env own).length → (wipeP s1.env own)[j]? = some none := fun j hj hl => by
        rw [wipeP_len] at hl
        rw [wipeP_get, if_pos ⟨hj, hl⟩]
      obtain ⟨st3, Sh3, sa3, c1, c2, c3⟩ := comP_ok (d := st1.length) (held := w.held) htg (fun n0 Sh sa st env s g => (hcs n0 Sh sa st env s g).mono fun i h => or_l h) (fun n0 Sh sa st env s g => (he.d n0 Sh sa st env s g).mono fun i h => or_r h) (Nat.le_refl _) hld oB (iv.mono kp fun _ h => h) hw fl hB ep
      refine ⟨.ref st1.length, st3, Sh3, sa3, c1, (back_out g1 c2).mono fun i h => ?_, ?_⟩
      · have h : (occB cs e i || own.contains i) = true := h
        show (occI i it || occEs i cs || occE i e || own.contains i) = true
        rw [Bool.or_eq_true] at h
        rcases h with h | h
        · have h : (occEs i cs || occE i e) = true := h
          rw [Bool.or_assoc (occI i it), h, Bool.or_true]
          rfl
        · exact or_r h
      · obtain ⟨⟨acc, f1, f2⟩, f3, f4, _⟩ := c3
        exact ⟨st1.length, acc, rfl, f1, f2, o1.o.len, f3, f4⟩
  · exact True.intro
/-- the arguments of a method -/
def RelMs (m : Me) (env : Env) : (Nat → Prop) → Sa → Hs → Ps → List HV → List D → Prop := fun Sh sa st s ws ds => Sees Sh sa st env s ws ds ∧ (m ≠ .extend → RdSs Sh sa st ws ds)
theorem one_arg {e : Ex} : evEs Rh env (.cons e .nil) st = (evE Rh env e st).andThen fun x s => .ok [x] s := by
  show bnd (evE Rh env e) _ st = _
  unfold bnd
  cases evE Rh env e st <;> rfl
theorem Sim.and1 {β : Type} {rel : (Nat → Prop) → Sa → Hs → Ps → HV → β → Prop} {rel2 : (Nat → Prop) → Sa → Hs → Ps → List HV → β → Prop} {r : Res HV} {q : PRes β} (h : Sim n0 occ Sh sa st env s rel r q) (k : ∀ Sh' sa' st' s' a b, rel Sh' sa' st' s' a b → rel2 Sh' sa' st' s' [a] b) : Sim n0 occ Sh sa st env s rel2 (r.andThen fun x s => .ok [x] s) q := by
  cases q with
  | bad => exact True.intro
  | exc c p s' =>
    obtain ⟨q, st', Sh', sa', e1, o, r⟩ := h
    exact ⟨q, st', Sh', sa', by rw [e1]; rfl, o, r⟩
  | ok b s1 =>
    obtain ⟨a, st1, Sh1, sa1, e1, o, r⟩ := h
    exact ⟨[a], st1, Sh1, sa1, by rw [e1]; rfl, o, k _ _ _ _ _ _ r⟩
theorem ms_ok {m : Me} {es : Exs} (h1 : ∀ e, es = .cons e .nil → SndE Rh Rq e) (g : Good n0 Sh sa st env s) : Sim n0 (fun i => occEs i es) Sh sa st env s (RelMs m env) (evEs Rh env es st) (evMs Rq m es s) := by
  have nil' : es = .nil → Sim n0 (fun i => occEs i es) Sh sa st env s (RelMs m env) (evEs Rh env es st) (.ok [] s) := fun e => by
    subst e
    exact Sim.same g ⟨.nil, fun _ => .nil⟩
  have cons' : ∀ e, es = .cons e .nil → Sim n0 (fun i => occEs i es) Sh sa st env s (RelMs m env) (evEs Rh env es st) (pbnd (shr (evF Rq e)) (fun d => pret [d]) s) := fun e ee => by
    subst ee
    rw [one_arg, pbnd_map]
    refine (((h1 e rfl).d n0 Sh sa st env s g).mono fun i h => or_l h).map (rel2 := fun Sh sa st s w ds => RelMs m env Sh sa st s [w] ds) (fun _ _ _ _ _ _ _ r => ⟨.cons (.sh r) .nil, fun _ => .cons r .nil⟩) |>.and1 fun _ _ _ _ _ _ r => r
  have ext' : ∀ e, es = .cons e .nil → m = .extend → Sim n0 (fun i => occEs i es) Sh sa st env s (RelMs m env) (evEs Rh env es st) (pbnd (opd e (evF Rq e)) (fun o => pbnd (rdO o) fun d => pret [d]) s) := fun e ee em => by
    subst ee
    rw [one_arg]
    have e2 : ∀ r : Res HV, (r.andThen fun x s => Res.ok [x] s) = (r.andThen fun x s => (fun x => (fun s => Res.ok [x] s : M (List HV))) x s) := fun _ => rfl
    show Sim n0 _ Sh sa st env s (RelMs m env) (bnd (evE Rh env e) (fun x => ret [x]) st) _
    refine Sim.bind (((h1 e rfl).o n0 Sh sa st env s g).mono fun i h => or_l h) fun w o Sh1 sa1 st1 s1 o1 r1 => Sim.rd o1.o.good r1.1 fun d hd => ?_
    exact Sim.same o1.o.good ⟨.cons hd .nil, fun z => absurd em z⟩
  unfold evMs
  cases m with
  | extend =>
    cases es with
    | nil => exact True.intro
    | cons e r =>
      cases r with
      | nil => exact ext' e rfl rfl
      | cons _ _ => exact True.intro
  | _ =>
    cases es with
    | nil => exact nil' rfl
    | cons e r =>
      cases r with
      | nil => exact cons' e rfl
      | cons _ _ => exact True.intro
theorem met_ok {m : Me} {i : Nat} {es : Exs} (h1 : ∀ e, es = .cons e .nil → SndE Rh Rq e) : SndE Rh Rq (.met m (.var i) es) := by
  intro n0 Sh sa st env s g
  show Sim n0 _ Sh sa st env s (PvOk st.length) (bnd (getV env i) (fun x => bnd (chkM x) fun _ => bnd (evEs Rh env es) fun xs => metH m x xs) st) (match s.env[i]? with
    | some (some (.ow _)) => _
    | _ => PRes.bad)
  split
  · rename_i xs0 hx
    obtain ⟨a, hs, e1, e2, e3, _⟩ := g.ow i xs0 hx
    have ez : bnd (getV env i) (fun x => bnd (chkM x) fun _ => bnd (evEs Rh env es) fun xs => metH m x xs) st = bnd (evEs Rh env es) (fun xs => metH m (.ref a) xs) st := by
      rw [bnd_at (getV_at e1)]
      exact bnd_at (by unfold chkM; rw [mutOf_at e2]; rfl)
    rw [ez]
    refine Sim.bind ((ms_ok (m := m) h1 g).mono fun i h => or_r h) fun ws ds Sh1 sa1 st1 s1 o1 r1 => ?_
    have g1 := o1.o.good
    split
    · rename_i xs hx1
      obtain ⟨b, hs1, k1, k2, k3, _⟩ := g1.ow i xs hx1
      rw [e1] at k1
      cases k1
      cases em : metP m xs ds with
      | none => exact True.intro
      | some p =>
        obtain ⟨d, ys⟩ := p
        obtain ⟨w, ks, m1, m2, m3⟩ := metP_ok k2 k3 r1.1 r1.2 em
        have o2 := OutE.setOwn (occ := fun j => occE j (.met m (.var i) es)) g1 hx1 e1 (or_l (beq_self_eq_true i)) m3
        exact ⟨w, _, Sh1, sa1, m1, o2, o2.o.rd g1 m2⟩
    · exact True.intro
  · exact True.intro
end Ih
end
section
set_option Elab.async false
set_option linter.all false
set_option maxHeartbeats 4000000
namespace Ih
open PySem
variable {Sh Sh' : Nat → Prop} {sa sa' : Sa} {st st' : Hs} {n0 : Nat} {env env' : Env} {s s' : Ps} {occ occ' : Nat → Bool} {n : Nat} {Rh : Rt} {Rq : Rp}
theorem bi_ok (b : Bi) {es : Exs} (h : SndKs Rh Rq es) : SndE Rh Rq (.bi b es) := by
  intro n0 Sh sa st env s g
  refine Sim.bind (h n0 Sh sa st env s g) fun ws os Sh1 sa1 st1 s1 o1 r1 => Sim.rds o1.o.good r1.1 fun ds e hs => Sim.of' fun pv he => ?_
  exact biP_ok o1.o.good o1.o.len hs he
theorem call_ok (hR : SndR Rh Rq) {gi : Nat} {es : Exs} (h : SndKs Rh Rq es) : SndE Rh Rq (.call gi es) := by
  intro n0 Sh sa st env s g
  refine Sim.bind (h n0 Sh sa st env s g) fun ws os Sh1 sa1 st1 s1 o1 r1 => Sim.rds o1.o.good r1.1 fun ds e hs => ?_
  exact lend_ok hR o1.o.good r1.1 e r1.2 fun _ r => r
theorem callK_ok (hR : SndR Rh Rq) {gi : Nat} {es : Exs} {perm : List Nat} (h : SndKs Rh Rq es) : SndE Rh Rq (.callK gi es perm) := by
  intro n0 Sh sa st env s g
  refine Sim.bind (h n0 Sh sa st env s g) fun ws os Sh1 sa1 st1 s1 o1 r1 => Sim.rds o1.o.good r1.1 fun ds e hs => ?_
  exact lend_ok hR o1.o.good r1.1 e r1.2 fun _ r => r.perm perm
theorem bin_ok {op : Bop} {a b : Ex} (ha : SndE Rh Rq a) (hb : SndE Rh Rq b) : SndE Rh Rq (.bin op a b) := by
  intro n0 Sh sa st env s g
  refine two_ops (rel := PvOk st.length) (f := fun x y => binH op x y) (pf := fun X Y => pbnd (rdO X) fun u => pbnd (rdO Y) fun v => pof (binP op u v)) ha hb g (fun i h => or_l h) (fun i h => or_r h) fun x y X Y Sh2 sa2 st2 s2 o hX hY _ _ => ?_
  exact Sim.rd o.o.good hX fun u hu => Sim.rd o.o.good hY fun v hv => Sim.of' fun pv e => binP_ok o.o.good o.o.len hu hv e
theorem cmp_leaf (g : Good n0 Sh sa st env s) {op : Cop} {x y : HV} {u v : D} (hu : See Sh sa st env s x u) (hv : See Sh sa st env s y v) : Sim n0 occ Sh sa st env s (PvOk n) (cmpH op x y st) (pbnd (pof (cmpP op u v)) (fun k => pret (.sh (.bl k))) s) :=
  Sim.of fun k hk => by
    rw [cmpP_ok g hu hv hk]
    exact Sim.pure g (.bl k)
theorem cmp_ok {op : Cop} {a b : Ex} (ha : SndE Rh Rq a) (hb : SndE Rh Rq b) : SndE Rh Rq (.cmp op a b) := by
  intro n0 Sh sa st env s g
  refine two_ops (rel := PvOk st.length) (f := fun x y => cmpH op x y) (pf := fun X Y => pbnd (rdO X) fun u => pbnd (rdO Y) fun v => pbnd (pof (cmpP op u v)) fun k => pret (PV.sh (.bl k))) ha hb g (fun i h => or_l h) (fun i h => or_r h) fun x y X Y Sh2 sa2 st2 s2 o hX hY _ _ => ?_
  exact Sim.rd o.o.good hX fun u hu => Sim.rd o.o.good hY fun v hv => cmp_leaf o.o.good hu hv
theorem cmp2_ok {o1 o2 : Cop} {a b c : Ex} (ha : SndE Rh Rq a) (hb : SndE Rh Rq b) (hc : SndE Rh Rq c) : SndE Rh Rq (.cmp2 o1 o2 a b c) := by
  intro n0 Sh sa st env s g
  refine two_ops (rel := PvOk st.length) (f := fun x y => bnd (cmpH o1 x y) fun k => match k with
    | .bl true => bnd (evE Rh env c) fun z => cmpH o2 y z
    | .bl false => ret (.bl false)
    | _ => bad) (pf := fun X Y => pbnd (rdO X) fun u => pbnd (rdO Y) fun v => pbnd (pof (cmpP o1 u v)) fun k => if k = true then pbnd (opd c (evF Rq c)) fun z => pbnd (rdO Y) fun v => pbnd (rdO z) fun w => pbnd (pof (cmpP o2 v w)) fun k => pret (PV.sh (.bl k)) else pret (PV.sh (.bl false))) ha hb g (fun i h => or_l (or_l h)) (fun i h => or_l (or_r h)) fun x y X Y Sh2 sa2 st2 s2 o hX hY _ _ => ?_
  refine Sim.rd o.o.good hX fun u hu => Sim.rd o.o.good hY fun v hv => Sim.of fun k hk => ?_
  rw [bnd_at (cmpP_ok o.o.good hu hv hk)]
  cases k with
  | false =>
    rw [if_neg Bool.false_ne_true]
    exact Sim.pure o.o.good (.bl false)
  | true =>
    rw [if_pos rfl]
    refine Sim.bind ((hc.o n0 Sh2 sa2 st2 env s2 o.o.good).mono fun i h => or_r h) fun z Z Sh3 sa3 st3 s3 o3 r3 => ?_
    exact Sim.rd o3.o.good (hY.out o.o.good o3) fun v hv => Sim.rd o3.o.good r3.1 fun w hw => cmp_leaf o3.o.good hv hw
mutual
theorem evF_ok (hR : SndR Rh Rq) : ∀ e : Ex, SndE Rh Rq e
  | .var i => by
    intro n0 Sh sa st env s g
    show Sim n0 _ Sh sa st env s (PvOk st.length) (getV env i st) (match s.env[i]? with
      | some (some (.sh d)) => .ok (.sh d) s
      | some (some (.ow xs)) => .ok (.sh (.lst xs)) { s with env := frz1 s.env i }
      | _ => .bad)
    split
    · rename_i d hx
      obtain ⟨v, e1, r⟩ := g.sh i d hx
      rw [getV_at e1]
      exact Sim.pure g r
    · rename_i xs hx
      obtain ⟨a, hs, e1, e2, e3, _⟩ := g.ow i xs hx
      rw [getV_at e1]
      exact ⟨_, st, _, sa, rfl, OutE.frz g hx e1 (beq_self_eq_true i), .lst (.inr rfl) e2 (e3.mono (fun b h => ⟨.inl h, rfl⟩) fun _ h => h)⟩
    · exact True.intro
  | .non => fun n0 Sh sa st env s g => Sim.pure (w := .non) g .non
  | .bl b => fun n0 Sh sa st env s g => Sim.pure (w := .bl b) g (.bl b)
  | .int b => fun n0 Sh sa st env s g => Sim.pure (w := .int b) g (.int b)
  | .str b => fun n0 Sh sa st env s g => Sim.pure (w := .str b) g (.str b)
  | .gfn b => fun n0 Sh sa st env s g => Sim.pure (w := .fn b) g (.fn b)
  | .bin op a b => bin_ok (evF_ok hR a) (evF_ok hR b)
  | .neg a => by
    intro n0 Sh sa st env s g
    refine Sim.bind ((evF_ok hR a).d n0 Sh sa st env s g) fun w d Sh1 sa1 st1 s1 o1 r1 => ?_
    have r1 : RdS Sh1 sa1 st1 w d := r1
    cases r1 with
    | int i => exact Sim.pure o1.o.good (.int (-i))
    | _ => exact True.intro
  | .nt a => by
    intro n0 Sh sa st env s g
    refine Sim.bind ((evF_ok hR a).t n0 Sh sa st env s g) fun b c Sh1 sa1 st1 s1 o1 r1 => ?_
    cases r1
    exact Sim.pure o1.o.good (.bl (!b))
  | .and a b => by
    intro n0 Sh sa st env s g
    refine Sim.bind (((evF_ok hR a).d n0 Sh sa st env s g).mono fun i h => or_l h) fun w d Sh1 sa1 st1 s1 o1 r1 => Sim.of fun k hk => ?_
    have et : testV w st1 = .ok k st1 := by
      show ofO (tru st1 w) st1 = _
      rw [truP_ok (env := env) (s := s1) (.sh r1) hk]
      rfl
    rw [bnd_at et]
    cases k with
    | true =>
      rw [if_pos rfl, if_pos rfl, pbnd_map]
      exact (((evF_ok hR b).d n0 Sh1 sa1 st1 env s1 o1.o.good).mono fun i h => or_r h).map fun _ _ _ _ _ _ _ r => r
    | false =>
      rw [if_neg Bool.false_ne_true, if_neg Bool.false_ne_true]
      exact Sim.pure o1.o.good r1
  | .or a b => by
    intro n0 Sh sa st env s g
    refine Sim.bind (((evF_ok hR a).d n0 Sh sa st env s g).mono fun i h => or_l h) fun w d Sh1 sa1 st1 s1 o1 r1 => Sim.of fun k hk => ?_
    have et : testV w st1 = .ok k st1 := by
      show ofO (tru st1 w) st1 = _
      rw [truP_ok (env := env) (s := s1) (.sh r1) hk]
      rfl
    rw [bnd_at et]
    cases k with
    | false =>
      rw [if_neg Bool.false_ne_true, if_neg Bool.false_ne_true, pbnd_map]
      exact (((evF_ok hR b).d n0 Sh1 sa1 st1 env s1 o1.o.good).mono fun i h => or_r h).map fun _ _ _ _ _ _ _ r => r
    | true =>
      rw [if_pos rfl, if_pos rfl]
      exact Sim.pure o1.o.good r1
  | .ife c a b => by
    intro n0 Sh sa st env s g
    refine Sim.bind (((evF_ok hR c).t n0 Sh sa st env s g).mono fun i h => or_l (or_l h)) fun k k' Sh1 sa1 st1 s1 o1 r1 => ?_
    cases r1
    cases k with
    | true =>
      rw [if_pos rfl, if_pos rfl]
      exact (evF_ok hR a n0 Sh1 sa1 st1 env s1 o1.o.good).imp (fun i h => or_l (or_r h)) fun _ _ _ _ _ _ _ r => PvOk.le o1.o.len r
    | false =>
      rw [if_neg Bool.false_ne_true, if_neg Bool.false_ne_true]
      exact (evF_ok hR b n0 Sh1 sa1 st1 env s1 o1.o.good).imp (fun i h => or_r h) fun _ _ _ _ _ _ _ r => PvOk.le o1.o.len r
  | .cmp op a b => cmp_ok (evF_ok hR a) (evF_ok hR b)
  | .cmp2 o1 o2 a b c => cmp2_ok (evF_ok hR a) (evF_ok hR b) (evF_ok hR c)
  | .sub a b => by
    intro n0 Sh sa st env s g
    refine Sim.bind (((evF_ok hR a).o n0 Sh sa st env s g).mono fun i h => or_l h) fun x X Sh1 sa1 st1 s1 o1 r1 => Sim.bind (((evF_ok hR b).d n0 Sh1 sa1 st1 env s1 o1.o.good).mono fun i h => or_r h) fun y d Sh2 sa2 st2 s2 o2 r2 => ?_
    refine Sim.rd o2.o.good (r1.1.out o1.o.good o2) fun u hu => Sim.of fun e he => ?_
    exact subP_ok o2.o.good hu r2 he
  | .slc a lo hi => by
    intro n0 Sh sa st env s g
    refine Sim.bind (((evF_ok hR a).o n0 Sh sa st env s g).mono fun i h => or_l (or_l h)) fun x X Sh1 sa1 st1 s1 o1 r1 => Sim.bind ((evPO_ok hR lo n0 Sh1 sa1 st1 env s1 o1.o.good).mono fun i h => or_l (or_r h)) fun l l' Sh2 sa2 st2 s2 o2 r2 => Sim.bind ((evPO_ok hR hi n0 Sh2 sa2 st2 env s2 o2.o.good).mono fun i h => or_r h) fun h h' Sh3 sa3 st3 s3 o3 r3 => ?_
    cases r2
    cases r3
    refine Sim.rd o3.o.good ((r1.1.out o1.o.good o2).out o2.o.good o3) fun u hu => Sim.of' fun pv he => ?_
    exact slcP_ok o3.o.good (Nat.le_trans o1.o.len (Nat.le_trans o2.o.len o3.o.len)) hu he
  | .stpL a lo hi => by
    intro n0 Sh sa st env s g
    refine Sim.bind (((evF_ok hR a).o n0 Sh sa st env s g).mono fun i h => or_l (or_l h)) fun x X Sh1 sa1 st1 s1 o1 r1 => Sim.bind ((evPO_ok hR lo n0 Sh1 sa1 st1 env s1 o1.o.good).mono fun i h => or_l (or_r h)) fun l l' Sh2 sa2 st2 s2 o2 r2 => Sim.bind ((evPO_ok hR hi n0 Sh2 sa2 st2 env s2 o2.o.good).mono fun i h => or_r h) fun h h' Sh3 sa3 st3 s3 o3 r3 => ?_
    cases r2
    cases r3
    refine Sim.rd o3.o.good ((r1.1.out o1.o.good o2).out o2.o.good o3) fun u hu => Sim.of' fun pv he => ?_
    exact stpP_ok o3.o.good (Nat.le_trans o1.o.len (Nat.le_trans o2.o.len o3.o.len)) hu he
  | .rev a => by
    intro n0 Sh sa st env s g
    refine Sim.bind ((evF_ok hR a).o n0 Sh sa st env s g) fun x X Sh1 sa1 st1 s1 o1 r1 => Sim.rd o1.o.good r1.1 fun u hu => ?_
    cases u with
    | lst xs =>
      obtain ⟨a, hs, rfl, c1, c2⟩ := hu.lst
      show Sim n0 _ Sh1 sa1 st1 env s1 (PvOk st.length) (match lstOf st1 (.ref a) with
        | some xs => alloc (.lst xs.reverse) st1
        | none => .bad) _
      rw [lstOf_at c1]
      exact Sim.ow o1.o.good o1.o.len c2.rev
    | _ => exact True.intro
  | .tup es => by
    intro n0 Sh sa st env s g
    refine Sim.bind (evPs_ok hR es n0 Sh sa st env s g) fun ws ds Sh1 sa1 st1 s1 o1 r1 => ?_
    have r1 : RdSs Sh1 sa1 st1 ws ds := r1
    rw [r1.length]
    split
    · exact Sim.tup o1.o.good r1
    · exact True.intro
  | .lst es => by
    intro n0 Sh sa st env s g
    refine Sim.bind (evPs_ok hR es n0 Sh sa st env s g) fun ws ds Sh1 sa1 st1 s1 o1 r1 => ?_
    have r1 : RdSs Sh1 sa1 st1 ws ds := r1
    rw [r1.length]
    split
    · exact Sim.ow o1.o.good o1.o.len r1
    · exact True.intro
  | .dic0 => fun n0 Sh sa st env s g => Sim.dic0 g
  | .call gi es => call_ok hR (evKs_ok hR es)
  | .callK gi es perm => callK_ok hR (evKs_ok hR es)
  | .bi b es => bi_ok b (evKs_ok hR es)
  | .isi a ts => by
    intro n0 Sh sa st env s g
    refine Sim.bind ((evF_ok hR a).o n0 Sh sa st env s g) fun x X Sh1 sa1 st1 s1 o1 r1 => Sim.rd o1.o.good r1.1 fun u hu => Sim.of fun k hk => ?_
    show Sim n0 _ Sh1 sa1 st1 env s1 (PvOk st.length) (ofO ((isiH st1 x ts).map .bl) st1) _
    rw [isiP_ok hu hk]
    exact Sim.pure o1.o.good (.bl k)
  | .met m a es => by
    cases a with
    | var i =>
      refine met_ok fun e he => ?_
      cases es with
      | nil => cases he
      | cons e0 r => cases he; exact evF_ok hR e
    | _ => exact fun n0 Sh sa st env s g => True.intro
  | .com tg it cs e own => com_ok (evW_ok hR it) (evCs_ok hR cs) (evF_ok hR e)
  | .nev => fun n0 Sh sa st env s g => True.intro
theorem evPs_ok (hR : SndR Rh Rq) : ∀ es : Exs, SndPs Rh Rq es
  | .nil => fun n0 Sh sa st env s g => Sim.same g .nil
  | .cons e es => by
    intro n0 Sh sa st env s g
    refine Sim.bind (((evF_ok hR e).d n0 Sh sa st env s g).mono fun i h => or_l h) fun w d Sh1 sa1 st1 s1 o1 r1 => Sim.bind ((evPs_ok hR es n0 Sh1 sa1 st1 env s1 o1.o.good).mono fun i h => or_r h) fun ws ds Sh2 sa2 st2 s2 o2 r2 => ?_
    exact Sim.same o2.o.good (.cons (o2.o.rd o1.o.good r1) r2)
theorem evKs_ok (hR : SndR Rh Rq) : ∀ es : Exs, SndKs Rh Rq es
  | .nil => fun n0 Sh sa st env s g => Sim.same g ⟨.nil, fun i h => (List.not_mem_nil h).elim⟩
  | .cons e es => by
    intro n0 Sh sa st env s g
    refine Sim.bind (((evF_ok hR e).o n0 Sh sa st env s g).mono fun i h => or_l h) fun w o Sh1 sa1 st1 s1 o1 r1 => Sim.bind ((evKs_ok hR es n0 Sh1 sa1 st1 env s1 o1.o.good).mono fun i h => or_r h) fun ws os Sh2 sa2 st2 s2 o2 r2 => ?_
    refine Sim.same o2.o.good ⟨.cons (r1.1.out o1.o.good o2) r2.1, fun i h => ?_⟩
    rcases List.mem_cons.mp h with h | h
    · exact or_l (r1.2 i h.symm)
    · exact or_r (r2.2 i h)
theorem evPO_ok (hR : SndR Rh Rq) : ∀ o : Exo, SndPO Rh Rq o
  | .none => fun n0 Sh sa st env s g => Sim.same g rfl
  | .some e => by
    intro n0 Sh sa st env s g
    refine Sim.bind ((evF_ok hR e).d n0 Sh sa st env s g) fun w d Sh1 sa1 st1 s1 o1 r1 => ?_
    have r1 : RdS Sh1 sa1 st1 w d := r1
    cases r1 with
    | int i => exact Sim.same o1.o.good rfl
    | _ => exact True.intro
theorem evW_ok (hR : SndR Rh Rq) : ∀ it : It, SndW Rh Rq it
  | .seq e => by
    intro ob n0 Sh sa st env s g
    refine Sim.bind ((evF_ok hR e).o n0 Sh sa st env s g) fun w o Sh1 sa1 st1 s1 o1 r1 => Sim.walk o1.o.good r1.1 r1.2 fun Sh2 s2 d o2 hw hs => Sim.of' fun ps hp => ?_
    cases q : d.items with
    | none => rw [q] at hp; cases hp
    | some xs =>
      rw [q] at hp
      cases hp
      obtain ⟨W, k1, k2⟩ := wk_ok (hw (by rw [q]; exact fun z => by cases z)) q
      rw [k1]
      exact Sim.same o2.o.good k2
  | .key i => by
    intro ob n0 Sh sa st env s g
    have gen : ∀ {v : HV} {o : Od}, env[i]? = some (some v) → dicOf st v ≠ some [] → OdOk env Sh sa st s v o → (∀ j, o = .own j → occI j (.key i) = true) → Sim n0 (fun j => occI j (.key i)) Sh sa st env s (WkOk ob env) (bnd (getV env i) wkKey st) (pbnd (walkP ob o) (fun d => pof (d.items.map onesP)) s) := fun {v o} e1 hd h ho => by
      rw [bnd_at (getV_at e1)]
      refine Sim.walk g h ho fun Sh2 s2 d o2 hw hs => Sim.of' fun ps hp => ?_
      cases q : d.items with
      | none => rw [q] at hp; cases hp
      | some xs =>
        rw [q] at hp
        cases hp
        obtain ⟨W, k1, k2⟩ := wk_ok (hw (by rw [q]; exact fun z => by cases z)) q
        have ez : wkKey v st = wkSeq v st := by
          unfold wkKey
          split
          · rename_i z; exact (hd z).elim
          · rfl
        rw [ez, k1]
        exact Sim.same o2.o.good k2
    show Sim n0 _ Sh sa st env s (WkOk ob env) (bnd (getV env i) wkKey st) (match s.env[i]? with
      | some (some (.sh .dic0)) => .ok [] s
      | some (some (.sh d)) => pof (d.items.map onesP) s
      | some (some (.ow xs)) => pbnd (walkP ob (.own i)) (fun d => pof (d.items.map onesP)) s
      | _ => .bad)
    split
    · rename_i hx
      obtain ⟨v, e1, r⟩ := g.sh i .dic0 hx
      rw [bnd_at (getV_at e1)]
      cases r with
      | dic0 h1 h2 =>
        have ez : ∀ a : Nat, st[a]? = some (.dic []) → wkKey (.ref a) st = .ok ⟨[], []⟩ st := fun a h => by
          unfold wkKey
          have : dicOf st (.ref a) = some [] := by simp only [dicOf, h]
          rw [this]
        rw [ez _ h2]
        exact Sim.same g ⟨.nil, fun p hp => (List.not_mem_nil hp).elim⟩
    · rename_i d hne hx
      obtain ⟨v, e1, r⟩ := g.sh i d hx
      cases q : d.items with
      | none => exact True.intro
      | some xs =>
        have hd : dicOf st v ≠ some [] := fun z => by
          cases r with
          | dic0 _ _ => exact hne rfl
          | lst _ h2 _ => simp [dicOf, h2] at z
          | tup _ h2 _ => simp [dicOf, h2] at z
          | scr _ h2 => simp [dicOf, h2] at z
          | _ => cases q
        have z := gen (o := .val d) e1 hd r (fun j e => by cases e)
        have ew : pbnd (walkP ob (.val d)) (fun d => pof (d.items.map onesP)) s = pof (d.items.map onesP) s := rfl
        rw [ew, q] at z
        exact z
    · rename_i xs hx
      obtain ⟨a, hs, e1, e2, _⟩ := g.ow i xs hx
      exact gen e1 (fun z => by simp [dicOf, e2] at z) (show OdOk env Sh sa st s (.ref a) (.own i) from e1) fun j e => by cases e; exact beq_self_eq_true i
    · exact True.intro
  | .rng1 a => by
    intro ob n0 Sh sa st env s g
    refine Sim.bind ((evF_ok hR a).d n0 Sh sa st env s g) fun w d Sh1 sa1 st1 s1 o1 r1 => Sim.of' fun ps hp => ?_
    obtain ⟨W, k1, k2⟩ := rng_ok (.int 0) r1 hp
    rw [k1]
    exact Sim.same o1.o.good k2
  | .rng2 a b => by
    intro ob n0 Sh sa st env s g
    refine Sim.bind (((evF_ok hR a).d n0 Sh sa st env s g).mono fun i h => or_l h) fun w d Sh1 sa1 st1 s1 o1 r1 => Sim.bind (((evF_ok hR b).d n0 Sh1 sa1 st1 env s1 o1.o.good).mono fun i h => or_r h) fun w2 d2 Sh2 sa2 st2 s2 o2 r2 => Sim.of' fun ps hp => ?_
    obtain ⟨W, k1, k2⟩ := rng_ok (o2.o.rd o1.o.good r1) r2 hp
    rw [k1]
    exact Sim.same o2.o.good k2
  | .enm e => by
    intro ob n0 Sh sa st env s g
    refine Sim.bind ((evF_ok hR e).o n0 Sh sa st env s g) fun w o Sh1 sa1 st1 s1 o1 r1 => Sim.walk o1.o.good r1.1 r1.2 fun Sh2 s2 d o2 hw _ => ?_
    cases d with
    | lst xs =>
      have hw := hw (fun z => by cases z)
      obtain ⟨a, hs, rfl, h1, h2⟩ := hw.see.lst
      have ez : wkEnm (.ref a) st1 = .ok ⟨enmFrom 0 hs, [(a, .lst hs)]⟩ st1 := by simp only [wkEnm, h1]
      rw [ez]
      exact Sim.same o2.o.good ⟨enms_ok h2, hw.held rfl h1 (.inl ⟨_, rfl⟩)⟩
    | _ => exact True.intro
  | .zip a b => by
    intro ob n0 Sh sa st env s g
    refine two_ops (rel := WkOk ob env) (f := fun x y => wkZip x y) (pf := fun X Y => pbnd (walkP ob X) fun u => pbnd (walkP ob Y) fun v => match u, v with
      | .lst xs, .lst ys => pret (zipP xs ys)
      | .tup xs, .tup ys => pret (zipP xs ys)
      | _, _ => pbad) (evF_ok hR a) (evF_ok hR b) g (fun i h => or_l h) (fun i h => or_r h) fun x y X Y Sh2 sa2 st2 s2 o hX hY hoX hoY => ?_
    refine Sim.walk o.o.good hX hoX fun Sh3 s3 u o3 hu hsu => Sim.walk o3.o.good (hY.out o.o.good o3) hoY fun Sh4 s4 v o4 hv hsv => ?_
    cases u with
    | lst xs =>
      cases v with
      | lst ys =>
        have hu := hu (fun z => by cases z)
        have hv := hv (fun z => by cases z)
        obtain ⟨a, hs, rfl, h1, h2⟩ := hu.see.lst
        obtain ⟨b, ks, rfl, k1, k2⟩ := hv.see.lst
        have ez : wkZip (.ref a) (.ref b) st2 = .ok ⟨zipV hs ks, [(a, .lst hs), (b, .lst ks)]⟩ st2 := by simp only [wkZip, h1, k1]
        rw [ez]
        refine Sim.same o4.o.good ⟨zips_ok (o4.o.rds o3.o.good h2) k2, fun p hp => ?_⟩
        rcases List.mem_cons.mp hp with rfl | hp
        · exact (hu.held rfl h1 (.inl ⟨_, rfl⟩)).shr o4 _ List.mem_cons_self
        · exact hv.held rfl k1 (.inl ⟨_, rfl⟩) p hp
      | _ => exact True.intro
    | tup xs =>
      cases v with
      | tup ys =>
        have hu := hu (fun z => by cases z)
        have hv := hv (fun z => by cases z)
        obtain ⟨a, hs, rfl, _, h1, h2⟩ := hu.see.tup
        obtain ⟨b, ks, rfl, _, k1, k2⟩ := hv.see.tup
        have ez : wkZip (.ref a) (.ref b) st2 = .ok ⟨zipV hs ks, [(a, .tup hs), (b, .tup ks)]⟩ st2 := by simp only [wkZip, h1, k1]
        rw [ez]
        refine Sim.same o4.o.good ⟨zips_ok (o4.o.rds o3.o.good h2) k2, fun p hp => ?_⟩
        rcases List.mem_cons.mp hp with rfl | hp
        · exact (hu.held rfl h1 (.inr ⟨_, rfl⟩)).shr o4 _ List.mem_cons_self
        · exact hv.held rfl k1 (.inr ⟨_, rfl⟩) p hp
      | _ => exact True.intro
    | _ => cases v <;> exact True.intro
theorem evCs_ok (hR : SndR Rh Rq) : ∀ cs : Exs, SndCs Rh Rq cs
  | .nil => fun n0 Sh sa st env s g => Sim.same g rfl
  | .cons c .nil => fun n0 Sh sa st env s g => ((evF_ok hR c).t n0 Sh sa st env s g).imp (fun i h => or_l h) fun _ _ _ _ _ _ _ r => r
  | .cons _ (.cons _ _) => fun n0 Sh sa st env s g => True.intro
end
end Ih
end
section
set_option Elab.async false
set_option linter.all false
set_option maxHeartbeats 2000000
namespace Ih
open PySem
variable {Sh Sh' : Nat → Prop} {sa sa' : Sa} {st st' : Hs} {n0 : Nat} {env env' : Env} {s s' : Ps} {occ occ' : Nat → Bool} {n : Nat} {Rh : Rt} {Rq : Rp}
def SimF (n0 : Nat) (occ : Nat → Bool) (Sh : Nat → Prop) (sa : Sa) (st : Hs) (env : Env) (s : Ps) (r : Res Fl) : PRes PFl → Prop
  | .ok .nx s' => ∃ env' st' Sh' sa', r = .ok (.nx env') st' ∧ Out n0 occ Sh sa st env s Sh' sa' st' env' s'
  | .ok .ct s' => ∃ env' st' Sh' sa', r = .ok (.ct env') st' ∧ Out n0 occ Sh sa st env s Sh' sa' st' env' s'
  | .ok (.rt d) s' => ∃ v st' Sh' sa' env', r = .ok (.rt v) st' ∧ Out n0 occ Sh sa st env s Sh' sa' st' env' s' ∧ RdS Sh' sa' st' v d
  | .ok (.xc c p) s' => ∃ env' q st' Sh' sa', r = .ok (.xc env' c q) st' ∧ Out n0 occ Sh sa st env s Sh' sa' st' env' s' ∧ PayOk Sh' sa' st' p q
  | .exc _ _ _ => True
  | .bad => True
theorem SimF.after {r : Res Fl} {q : PRes PFl} (o : Out n0 occ Sh sa st env s Sh' sa' st' env' s') (h : SimF n0 occ Sh' sa' st' env' s' r q) : SimF n0 occ Sh sa st env s r q := by
  cases q with
  | bad => exact True.intro
  | exc _ _ _ => exact True.intro
  | ok f s2 =>
    cases f with
    | nx => obtain ⟨a, b, c, d, e, o2⟩ := h; exact ⟨a, b, c, d, e, o.trans o2⟩
    | ct => obtain ⟨a, b, c, d, e, o2⟩ := h; exact ⟨a, b, c, d, e, o.trans o2⟩
    | rt v => obtain ⟨a, b, c, d, f, e, o2, r⟩ := h; exact ⟨a, b, c, d, f, e, o.trans o2, r⟩
    | xc x p => obtain ⟨a, b, c, d, f, e, o2, r⟩ := h; exact ⟨a, b, c, d, f, e, o.trans o2, r⟩
theorem SimF.mono {r : Res Fl} {q : PRes PFl} (h : SimF n0 occ Sh sa st env s r q) (ho : ∀ i, occ i = true → occ' i = true) : SimF n0 occ' Sh sa st env s r q := by
  cases q with
  | bad => exact True.intro
  | exc _ _ _ => exact True.intro
  | ok f s2 =>
    cases f with
    | nx => obtain ⟨a, b, c, d, e, o2⟩ := h; exact ⟨a, b, c, d, e, o2.mono ho⟩
    | ct => obtain ⟨a, b, c, d, e, o2⟩ := h; exact ⟨a, b, c, d, e, o2.mono ho⟩
    | rt v => obtain ⟨a, b, c, d, f, e, o2, r⟩ := h; exact ⟨a, b, c, d, f, e, o2.mono ho, r⟩
    | xc x p => obtain ⟨a, b, c, d, f, e, o2, r⟩ := h; exact ⟨a, b, c, d, f, e, o2.mono ho, r⟩
theorem SimF.try {α β : Type} {rel : (Nat → Prop) → Sa → Hs → Ps → α → β → Prop} {m : M α} {pm : PM β} {f : α → M Fl} {pf : β → PM PFl}
    (h : Sim n0 occ Sh sa st env s rel (m st) (pm s)) (k : ∀ a b Sh1 sa1 st1 s1, OutE n0 occ Sh sa st env s Sh1 sa1 st1 s1 → rel Sh1 sa1 st1 s1 a b → SimF n0 occ Sh sa st env s (f a st1) (pf b s1)) :
    SimF n0 occ Sh sa st env s (tryE env m f st) (tryP pm pf s) := by
  unfold tryE tryP
  cases e : pm s with
  | bad => exact True.intro
  | exc c p s' =>
    rw [e] at h
    obtain ⟨q, st', Sh', sa', e1, o, r⟩ := h
    rw [e1]
    refine ⟨env, q, st', Sh', sa', rfl, o.o, ?_⟩
    cases p <;> cases q <;> exact r
  | ok b s1 =>
    rw [e] at h
    obtain ⟨a, st1, Sh1, sa1, e1, o, r⟩ := h
    rw [e1]
    exact k a b Sh1 sa1 st1 s1 o r
/-- names set to shared values, as a step -/
theorem AsgOk.out (g : Good n0 Sh sa st env s) {oc : Nat → Bool} {env1 : Env} {penv : List (Option PV)} (h : AsgOk n0 Sh sa st env s oc env1 penv) (ho : ∀ i, oc i = true → occ i = true) : Out n0 occ Sh sa st env s Sh sa st env1 { s with env := penv } :=
  ⟨h.good, fun _ h => h, fun _ h => .inl h, fun _ h => h, fun _ h => .inl h, Nat.le_refl _, fun _ _ => .inl rfl, fun i hi => h.ne i (by cases q : oc i with
    | false => rfl
    | true => rw [ho i q] at hi; cases hi), fun i xs a h1 h2 => by
      obtain ⟨k1, k2⟩ := h.ow i xs h1
      exact .inr ⟨xs, k1, k2.symm.trans h2⟩⟩
/-- a fresh list set to a name -/
theorem Out.setOw (o : Out n0 occ Sh sa st env s Sh' sa' st' env' s') {i : Nat} {w : HV} {xs : List D} (f : FrOk st.length Sh' sa' st' w xs) (hno : ∀ (j : Nat) (ys : List D), s'.env[j]? = some (some (PV.ow ys)) → env'[j]? ≠ some (some w)) (hi : i < s'.env.length) (ho : occ i = true) (hn : n0 ≤ st.length) :
    Out n0 occ Sh sa st env s Sh' sa' st' (env'.set i (some w)) { s' with env := s'.env.set i (some (.ow xs)) } := by
  obtain ⟨a, hs, rfl, e2, e3, e4, e5, e6⟩ := f
  have g := o.good
  have hl : i < env'.length := by rw [g.len]; exact hi
  have ne : ∀ {j : Nat}, i ≠ j → (s'.env.set i (some (PV.ow xs)))[j]? = s'.env[j]? ∧ (env'.set i (some (HV.ref a)))[j]? = env'[j]? := fun h => ⟨List.getElem?_set_ne h, List.getElem?_set_ne h⟩
  refine ⟨⟨by rw [List.length_set, List.length_set]; exact g.len, g.n0l, fun j d h => ?_, fun j ys h => ?_, fun j k b ys zs h1 h2 h3 h4 => ?_, g.shlt, g.stm⟩, o.sub, o.new, o.saL, o.sn, o.len, o.fr, fun j hj => ?_, fun j ys b h1 h2 => ?_⟩
  · have h : (s'.env.set i (some (PV.ow xs)))[j]? = some (some (PV.sh d)) := h
    have hij : i ≠ j := fun z => by subst z; rw [List.getElem?_set_self hi] at h; cases h
    rw [(ne hij).1] at h
    obtain ⟨v, k1, k2⟩ := g.sh j d h
    exact ⟨v, (ne hij).2.trans k1, k2⟩
  · have h : (s'.env.set i (some (PV.ow xs)))[j]? = some (some (PV.ow ys)) := h
    by_cases hij : i = j
    · subst hij
      rw [List.getElem?_set_self hi] at h
      cases h
      exact ⟨a, hs, List.getElem?_set_self hl, e2, e3, Nat.le_trans hn e4, e5, e6⟩
    · rw [(ne hij).1] at h
      obtain ⟨b, ks, k1, k2⟩ := g.ow j ys h
      exact ⟨b, ks, (ne hij).2.trans k1, k2⟩
  · have h1 : (s'.env.set i (some (PV.ow xs)))[j]? = some (some (PV.ow ys)) := h1
    have h2 : (s'.env.set i (some (PV.ow xs)))[k]? = some (some (PV.ow zs)) := h2
    by_cases hj : i = j
    · by_cases hk : i = k
      · exact hj.symm.trans hk
      · subst hj
        rw [List.getElem?_set_self hl] at h3
        cases h3
        rw [(ne hk).1] at h2
        rw [(ne hk).2] at h4
        exact (hno k zs h2 h4).elim
    · rw [(ne hj).1] at h1
      rw [(ne hj).2] at h3
      by_cases hk : i = k
      · subst hk
        rw [List.getElem?_set_self hl] at h4
        cases h4
        exact (hno j ys h1 h3).elim
      · rw [(ne hk).1] at h2
        rw [(ne hk).2] at h4
        exact g.apart j k b ys zs h1 h2 h3 h4
  · have hij : i ≠ j := fun z => by rw [z, hj] at ho; cases ho
    exact ⟨(ne hij).1.trans (o.ev j hj).1, (ne hij).2.trans (o.ev j hj).2⟩
  · have h1 : (s'.env.set i (some (PV.ow xs)))[j]? = some (some (PV.ow ys)) := h1
    by_cases hij : i = j
    · subst hij
      rw [List.getElem?_set_self hl] at h2
      cases h2
      exact .inl e4
    · rw [(ne hij).1] at h1
      rw [(ne hij).2] at h2
      exact o.bk j ys b h1 h2
/-- no name holds what is fresh -/
theorem fresh_no (g : Good n0 Sh sa st env s) (o : OutE n0 occ Sh sa st env s Sh' sa' st' s') {w : HV} {xs : List D} (f : FrOk st.length Sh' sa' st' w xs) : ∀ (j : Nat) (ys : List D), s'.env[j]? = some (some (PV.ow ys)) → env[j]? ≠ some (some w) := fun j ys h e => by
  obtain ⟨a, hs, rfl, e2, e3, e4, _⟩ := f
  obtain ⟨zs, k⟩ := o.ebk j ys h
  exact absurd (ow_lt g k e) (Nat.not_lt.mpr e4)
/-- a value set to a name -/
theorem set_pv (g : Good n0 Sh sa st env s) (o : OutE n0 occ Sh sa st env s Sh' sa' st' s') {i : Nat} {w : HV} {v : PV} (f : PvOk st.length Sh' sa' st' s' w v) (hi : i < s'.env.length) (ho : occ i = true) : Out n0 occ Sh sa st env s Sh' sa' st' (env.set i (some w)) { s' with env := s'.env.set i (some v) } := by
  cases v with
  | sh d => exact o.o.trans ((set_sh o.o.good f hi).out o.o.good fun j hj => by rw [eq_of_beq hj]; exact ho)
  | ow xs => exact o.o.setOw f (fresh_no g o f) hi ho g.n0l
theorem asgV_nm {i : Nat} {w : HV} : asgV st (.nm i) w env = if i < env.length then some (env.set i (some w)) else none := by unfold asgV; rfl
def SndS (Rh : Rt) (Rq : Rp) (x : Sx) : Prop := ∀ n0 Sh sa st env s, Good n0 Sh sa st env s → SimF n0 (fun i => occS i x) Sh sa st env s (exS Rh x env st) (exP Rq x s)
def SndSs (Rh : Rt) (Rq : Rp) (x : Sxs) : Prop := ∀ n0 Sh sa st env s, Good n0 Sh sa st env s → SimF n0 (fun i => occSs i x) Sh sa st env s (exSs Rh x env st) (exPs Rq x s)
theorem asgS_ok (hR : SndR Rh Rq) {tg : Tg} {e : Ex} : SndS Rh Rq (.asg tg e) := by
  intro n0 Sh sa st env s g
  cases tg with
  | nm i =>
    refine SimF.try ((evF_ok hR e n0 Sh sa st env s g).mono fun i h => or_r h) fun w v Sh1 sa1 st1 s1 o1 r1 => ?_
    show SimF n0 _ Sh sa st env s (match asgV st1 (.nm i) w env with
      | some env' => .ok (.nx env') st1
      | none => .bad) (pbnd (setP i v) (fun _ => pret .nx) s1)
    unfold pbnd setP
    by_cases hi : i < s1.env.length
    · rw [if_pos hi, asgV_nm, if_pos (by rw [o1.o.good.len]; exact hi)]
      exact ⟨_, st1, Sh1, sa1, rfl, set_pv g o1 r1 hi (or_l (beq_self_eq_true i))⟩
    · rw [if_neg hi]
      exact True.intro
  | tp ts =>
    refine SimF.try (((evF_ok hR e).d n0 Sh sa st env s g).mono fun i h => or_r h) fun w d Sh1 sa1 st1 s1 o1 r1 => ?_
    show SimF n0 _ Sh sa st env s (match asgV st1 (.tp ts) w env with
      | some env' => .ok (.nx env') st1
      | none => .bad) (match asgP (.tp ts) d s1.env with
      | some env' => .ok .nx { s1 with env := env' }
      | none => .bad)
    cases ea : asgP (.tp ts) d s1.env with
    | none => exact True.intro
    | some penv =>
      obtain ⟨env1, k1, k2⟩ := asg_ok o1.o.good r1 ea
      rw [k1]
      exact ⟨env1, st1, Sh1, sa1, rfl, o1.o.trans (k2.out o1.o.good fun i h => or_l h)⟩
theorem FrOk.step (g : Good n0 Sh sa st env s) (hn : ∀ (i : Nat) (xs : List D) (a : Nat), s.env[i]? = some (some (PV.ow xs)) → env[i]? = some (some (HV.ref a)) → a < n) (o : OutE n0 occ Sh sa st env s Sh' sa' st' s') {w : HV} {xs : List D} (f : FrOk n Sh sa st w xs) : FrOk n Sh' sa' st' w xs := by
  obtain ⟨a, hs, e1, e2, e3, e4, e5, e6⟩ := f
  refine FrOk.out g hn o.o ⟨a, hs, e1, e2, e3, e4, e5, e6⟩ (fun b hb k => ?_) fun b hb k => ?_
  · rw [e1] at hb
    cases hb
    have hl := lt_of_get e2
    rcases o.o.new a k with k | k | ⟨i, ys, _, k2, k3⟩
    · exact e5 k
    · omega
    · have := hn i ys a k2 k3
      omega
  · rw [e1] at hb
    cases hb
    have hl := lt_of_get e2
    rcases o.o.sn a k with k | k
    · exact e6 k
    · omega
theorem parS_ok (hR : SndR Rh Rq) {i j : Nat} {a b : Ex} : SndS Rh Rq (.par i j a b) := by
  intro n0 Sh sa st env s g
  show SimF n0 _ Sh sa st env s (exS Rh (.par i j a b) env st) ((if i = j then pbad else tryP (evF Rq a) fun x => tryP (evF Rq b) fun y => pbnd (setP i x) fun _ => pbnd (setP j y) fun _ => pret .nx) s)
  by_cases hij : i = j
  · rw [if_pos hij]; exact True.intro
  rw [if_neg hij]
  have eh : exS Rh (.par i j a b) env st = tryE env (evE Rh env a) (fun x => tryE env (evE Rh env b) fun y => fun st => if i < env.length ∧ j < env.length then .ok (.nx ((env.set i (some x)).set j (some y))) st else .bad) st := by
    show tryE env (bnd (evE Rh env a) fun x => bnd (bnd (evE Rh env b) fun y => bnd (ret []) fun ys => ret (y :: ys)) fun ys => ret (x :: ys)) _ st = _
    unfold tryE bnd
    cases evE Rh env a st with
    | ok x s1 =>
      simp only [Res.andThen]
      cases evE Rh env b s1 with
      | ok y s2 =>
        simp only [Res.andThen, ret]
        split <;> rfl
      | exc c p s2 => rfl
      | bad => rfl
    | exc c p s1 => rfl
    | bad => rfl
  rw [eh]
  refine SimF.try ((evF_ok hR a n0 Sh sa st env s g).mono fun i h => or_l (or_r h)) fun x v Sh1 sa1 st1 s1 o1 r1 => ?_
  unfold tryE tryP
  have hb := (evF_ok hR b n0 Sh1 sa1 st1 env s1 o1.o.good).mono (occ' := fun k => occS k (.par i j a b)) fun i h => or_r h
  cases e : evF Rq b s1 with
  | bad => exact True.intro
  | exc c p s2 =>
    rw [e] at hb
    obtain ⟨q, st2, Sh2, sa2, e1, o2, r2⟩ := hb
    rw [e1]
    refine ⟨env, q, st2, Sh2, sa2, rfl, (o1.trans o2).o, ?_⟩
    cases p <;> cases q <;> exact r2
  | ok y s2 =>
    rw [e] at hb
    obtain ⟨u, st2, Sh2, sa2, e1, o2, r2⟩ := hb
    rw [e1]
    dsimp only
    have o12 := o1.trans o2
    have hn1 : ∀ (k : Nat) (xs : List D) (a : Nat), s1.env[k]? = some (some (PV.ow xs)) → env[k]? = some (some (HV.ref a)) → a < st.length := fun k xs a h1 h2 => by
      obtain ⟨ys, q⟩ := o1.ebk k xs h1
      exact ow_lt g q h2
    unfold pbnd setP
    by_cases hi : i < s2.env.length
    · rw [if_pos hi]
      dsimp only
      by_cases hj : j < s2.env.length
      · rw [if_pos (show i < env.length ∧ j < env.length from ⟨by rw [o12.o.good.len]; exact hi, by rw [o12.o.good.len]; exact hj⟩), if_pos (show j < (s2.env.set i (some v)).length by rw [List.length_set]; exact hj)]
        refine ⟨_, st2, Sh2, sa2, rfl, ?_⟩
        -- the first name
        have f1 : PvOk st.length Sh2 sa2 st2 s2 x v := by
          cases v with
          | sh d => exact o2.o.rd o1.o.good r1
          | ow xs => exact FrOk.step o1.o.good hn1 o2 r1
        have ho : ∀ k, k = i ∨ k = j → occS k (.par i j a b) = true := fun k h => by
          show (k == i || k == j || occE k a || occE k b) = true
          rcases h with rfl | rfl
          · rw [beq_self_eq_true]; rfl
          · rw [beq_self_eq_true, Bool.or_true]; rfl
        have p1 := set_pv g o12 f1 hi (ho i (.inl rfl))
        have hj1 : j < (s2.env.set i (some v)).length := by rw [List.length_set]; exact hj
        cases y with
        | sh d => exact p1.trans ((set_sh p1.good (s := { s2 with env := s2.env.set i (some v) }) r2 hj1).out p1.good fun k hk => by rw [eq_of_beq hk]; exact ho j (.inr rfl))
        | ow ys =>
          have f2 : FrOk st.length Sh2 sa2 st2 u ys := PvOk.le (v := .ow ys) (s := s2) o1.o.len r2
          refine p1.setOw (s' := { s2 with env := s2.env.set i (some v) }) f2 (fun k zs h e => ?_) hj1 (ho j (.inr rfl)) g.n0l
          have h : (s2.env.set i (some v))[k]? = some (some (PV.ow zs)) := h
          by_cases hik : i = k
          · subst hik
            rw [List.getElem?_set_self hi] at h
            rw [List.getElem?_set_self (by rw [o12.o.good.len]; exact hi)] at e
            cases h
            cases e
            obtain ⟨b1, hs1, q1, q2, _⟩ := r1
            obtain ⟨b2, hs2, p1', p2, _, p4, _⟩ := r2
            rw [q1] at p1'
            cases p1'
            have := lt_of_get q2
            omega
          · rw [List.getElem?_set_ne hik] at h e
            exact fresh_no g o12 f2 k zs h e
      · rw [if_neg (show ¬ j < (s2.env.set i (some v)).length by rw [List.length_set]; exact hj)]
        exact True.intro
    · rw [if_neg hi]
      exact True.intro
theorem sstS_ok (hR : SndR Rh Rq) {o : Nat} {i e : Ex} : SndS Rh Rq (.sst (.var o) i e) := by
  intro n0 Sh sa st env s g
  have eh : exS Rh (.sst (.var o) i e) env st = tryE env (evE Rh env e) (fun v => tryE env (getV env o) fun x => tryE env (evE Rh env i) fun y => bnd (sstH x y v) fun _ => ret (.nx env)) st := rfl
  rw [eh]
  refine SimF.try (((evF_ok hR e).d n0 Sh sa st env s g).mono fun i h => or_r h) fun w v Sh1 sa1 st1 s1 o1 r1 => ?_
  -- the name's value is there whenever what follows is
  have hb := ((evF_ok hR i).d n0 Sh1 sa1 st1 env s1 o1.o.good).mono (occ' := fun k => occS k (.sst (.var o) i e)) fun i h => or_l (or_r h)
  cases q : shr (evF Rq i) s1 with
  | bad => exact True.intro
  | exc c p s2 => exact True.intro
  | ok y s2 =>
    rw [q] at hb
    obtain ⟨u, st2, Sh2, sa2, e1, o2, r2⟩ := hb
    dsimp only
    split
    · rename_i xs k hx
      cases ek : L2.ixN xs.length k with
      | none => exact True.intro
      | some j =>
        have g2 := o2.o.good
        obtain ⟨a, hs, c1, c2, c3, _⟩ := g2.ow o xs hx
        have r2 : RdS Sh2 sa2 st2 u (.int k) := r2
        cases r2
        have ez : tryE env (getV env o) (fun x => tryE env (evE Rh env i) fun y => bnd (sstH x y w) fun _ => ret (.nx env)) st1 = .ok (.nx env) (st2.set a (.lst (hs.set j w))) := by
          rw [tryE_at (getV_at c1), tryE_at e1]
          refine bnd_at (a := ()) (st' := st2.set a (.lst (hs.set j w))) ?_
          unfold sstH
          rw [mutOf_at c2]
          dsimp only
          rw [c3.length, ek]
        rw [ez]
        have o3 := OutE.setOwn (occ := fun k => occS k (.sst (.var o) i e)) g2 hx c1 (or_l (or_l (beq_self_eq_true o))) (c3.set (i := j) (o2.o.rd o1.o.good r1))
        exact ⟨env, _, Sh2, sa2, rfl, ((o1.trans o2).trans o3).o⟩
    · exact True.intro
end Ih
end
section
set_option Elab.async false
set_option linter.all false
set_option maxHeartbeats 2000000
namespace Ih
open PySem
variable {Sh Sh' : Nat → Prop} {sa sa' : Sa} {st st' : Hs} {n0 : Nat} {env env' : Env} {s s' : Ps} {occ occ' : Nat → Bool} {n : Nat} {Rh : Rt} {Rq : Rp}
theorem forP_ok {tg : Tg} {b : Sxs} {held : List (Nat × Cel)} {oc : Nat → Bool} (hb : SndSs Rh Rq b) (h1 : ∀ i, occT i tg = true → oc i = true) (h2 : ∀ i, occSs i b = true → oc i = true) :
    ∀ {xs : List PIv} {ys : List Iv} {Sh : Nat → Prop} {sa : Sa} {st : Hs} {env : Env} {s : Ps}, Good n0 Sh sa st env s → IvsOk Sh sa st ys xs → HeldOk oc sa st env s held → SimF n0 oc Sh sa st env s (forH held tg (fun env' => exSs Rh b env') ys env st) (forP tg (exPs Rq b) xs s)
  | [], ys, Sh, sa, st, env, s, g, iv, hh => by
    cases iv
    unfold forH forP
    rw [hh.stands]
    exact ⟨env, st, Sh, sa, rfl, .refl g⟩
  | x :: xs, ys, Sh, sa, st, env, s, g, iv, hh => by
    cases iv with
    | cons i1 i2 =>
      unfold forH forP
      rw [hh.stands]
      simp only [if_true]
      cases ea : asgIP tg x s.env with
      | none => exact True.intro
      | some penv =>
        obtain ⟨env1, ea2, ha⟩ := asgI_ok g i1 ea
        rw [ea2]
        simp only
        have oa := ha.out (occ := oc) g h1
        have sb := (hb n0 Sh sa st env1 { s with env := penv } ha.good).mono h2
        cases e1 : exPs Rq b { s with env := penv } with
        | bad => exact True.intro
        | exc c p s1 => exact True.intro
        | ok f s1 =>
          rw [e1] at sb
          cases f with
          | nx =>
            obtain ⟨env2, st2, Sh2, sa2, e2, o2⟩ := sb
            rw [e2]
            have o := oa.trans o2
            exact SimF.after o (forP_ok hb h1 h2 o.good (i2.mono (fun a h => ⟨o.sub a h, o.keep g h⟩) o.saL) (hh.out o))
          | ct =>
            obtain ⟨env2, st2, Sh2, sa2, e2, o2⟩ := sb
            rw [e2]
            have o := oa.trans o2
            exact SimF.after o (forP_ok hb h1 h2 o.good (i2.mono (fun a h => ⟨o.sub a h, o.keep g h⟩) o.saL) (hh.out o))
          | rt d =>
            obtain ⟨v, st2, Sh2, sa2, env2, e2, o2, r⟩ := sb
            rw [e2]
            exact ⟨v, st2, Sh2, sa2, env2, rfl, oa.trans o2, r⟩
          | xc c p =>
            obtain ⟨env2, q, st2, Sh2, sa2, e2, o2, r⟩ := sb
            rw [e2]
            exact ⟨env2, q, st2, Sh2, sa2, rfl, oa.trans o2, r⟩
theorem whlP_ok {c : Ex} {b : Sxs} {oc : Nat → Bool} (hR : SndR Rh Rq) (hb : SndSs Rh Rq b) (h1 : ∀ i, occE i c = true → oc i = true) (h2 : ∀ i, occSs i b = true → oc i = true) :
    ∀ (n : Nat) {Sh : Nat → Prop} {sa : Sa} {st : Hs} {env : Env} {s : Ps}, Good n0 Sh sa st env s → SimF n0 oc Sh sa st env s (whlH (fun env' => bnd (evE Rh env' c) testV) (fun env' => exSs Rh b env') n env st) (whlP (tst c (evF Rq c)) (exPs Rq b) n s)
  | 0, Sh, sa, st, env, s, g => True.intro
  | n + 1, Sh, sa, st, env, s, g => by
    unfold whlH whlP
    have sc := ((evF_ok hR c).t n0 Sh sa st env s g).mono h1
    cases e1 : tst c (evF Rq c) s with
    | bad => exact True.intro
    | exc x p s1 =>
      rw [e1] at sc
      obtain ⟨q, st1, Sh1, sa1, e2, o1, r1⟩ := sc
      rw [e2]
      refine ⟨env, q, st1, Sh1, sa1, rfl, o1.o, ?_⟩
      cases p <;> cases q <;> exact r1
    | ok k s1 =>
      rw [e1] at sc
      obtain ⟨k', st1, Sh1, sa1, e2, o1, rfl⟩ := sc
      rw [e2]
      cases k' with
      | false => exact ⟨env, st1, Sh1, sa1, rfl, o1.o⟩
      | true =>
        dsimp only
        have sb := (hb n0 Sh1 sa1 st1 env s1 o1.o.good).mono h2
        cases e3 : exPs Rq b s1 with
        | bad => exact True.intro
        | exc _ _ _ => exact True.intro
        | ok f s2 =>
          rw [e3] at sb
          cases f with
          | nx =>
            obtain ⟨env2, st2, Sh2, sa2, e4, o2⟩ := sb
            rw [e4]
            exact SimF.after (o1.o.trans o2) (whlP_ok hR hb h1 h2 n o2.good)
          | ct =>
            obtain ⟨env2, st2, Sh2, sa2, e4, o2⟩ := sb
            rw [e4]
            exact SimF.after (o1.o.trans o2) (whlP_ok hR hb h1 h2 n o2.good)
          | rt d =>
            obtain ⟨v, st2, Sh2, sa2, env2, e4, o2, r⟩ := sb
            rw [e4]
            exact ⟨v, st2, Sh2, sa2, env2, rfl, o1.o.trans o2, r⟩
          | xc c p =>
            obtain ⟨env2, q, st2, Sh2, sa2, e4, o2, r⟩ := sb
            rw [e4]
            exact ⟨env2, q, st2, Sh2, sa2, rfl, o1.o.trans o2, r⟩
mutual
theorem exP_ok (hR : SndR Rh Rq) : ∀ x : Sx, SndS Rh Rq x
  | .ex e => fun n0 Sh sa st env s g => SimF.try (evF_ok hR e n0 Sh sa st env s g) fun w v Sh1 sa1 st1 s1 o1 r1 => ⟨env, st1, Sh1, sa1, rfl, o1.o⟩
  | .asg tg e => asgS_ok hR
  | .par i j a b => parS_ok hR
  | .sst o i e => by
    cases o with
    | var o => exact sstS_ok hR
    | _ => exact fun n0 Sh sa st env s g => True.intro
  | .ret e => fun n0 Sh sa st env s g => SimF.try ((evF_ok hR e).d n0 Sh sa st env s g) fun w d Sh1 sa1 st1 s1 o1 r1 => ⟨w, st1, Sh1, sa1, env, rfl, o1.o, r1⟩
  | .retN => fun n0 Sh sa st env s g => ⟨.non, st, Sh, sa, env, rfl, .refl g, .non⟩
  | .ite c a b => by
    intro n0 Sh sa st env s g
    refine SimF.try (((evF_ok hR c).t n0 Sh sa st env s g).mono fun i h => or_l (or_l h)) fun k k' Sh1 sa1 st1 s1 o1 r1 => ?_
    cases r1
    refine SimF.after o1.o ?_
    cases k with
    | true =>
      rw [if_pos rfl, if_pos rfl]
      exact (exPs_ok hR a n0 Sh1 sa1 st1 env s1 o1.o.good).mono fun i h => or_l (or_r h)
    | false =>
      rw [if_neg Bool.false_ne_true, if_neg Bool.false_ne_true]
      exact (exPs_ok hR b n0 Sh1 sa1 st1 env s1 o1.o.good).mono fun i h => or_r h
  | .forE tg it b => by
    intro n0 Sh sa st env s g
    refine SimF.try ((evW_ok hR it (fun i => occT i tg || occSs i b) n0 Sh sa st env s g).mono fun i h => or_l (or_r h)) fun w xs Sh1 sa1 st1 s1 o1 r1 => ?_
    refine SimF.after o1.o ((forP_ok (exPs_ok hR b) (fun i h => or_l h) (fun i h => or_r h) o1.o.good r1.1 r1.2).mono fun i h => ?_)
    show (occT i tg || occI i it || occSs i b) = true
    have h : (occT i tg || occSs i b) = true := h
    rw [Bool.or_eq_true] at h
    rcases h with h | h
    · exact or_l (or_l h)
    · exact or_r h
  | .whl c b => fun n0 Sh sa st env s g => whlP_ok hR (exPs_ok hR b) (fun i h => or_l h) (fun i h => or_r h) whlN g
  | .pas => fun n0 Sh sa st env s g => ⟨env, st, Sh, sa, rfl, .refl g⟩
  | .con => fun n0 Sh sa st env s g => ⟨env, st, Sh, sa, rfl, .refl g⟩
  | .nev => fun n0 Sh sa st env s g => True.intro
theorem exPs_ok (hR : SndR Rh Rq) : ∀ x : Sxs, SndSs Rh Rq x
  | .nil => fun n0 Sh sa st env s g => ⟨env, st, Sh, sa, rfl, .refl g⟩
  | .cons x xs => by
    intro n0 Sh sa st env s g
    have s1 := (exP_ok hR x n0 Sh sa st env s g).mono (occ' := fun i => occSs i (.cons x xs)) fun i h => or_l h
    show SimF n0 _ Sh sa st env s (bnd (exS Rh x env) (fun f => match f with
      | .nx env' => exSs Rh xs env'
      | f => ret f) st) (pbnd (exP Rq x) (fun f => match f with
      | .nx => exPs Rq xs
      | f => pret f) s)
    unfold bnd pbnd
    cases e1 : exP Rq x s with
    | bad => exact True.intro
    | exc _ _ _ => exact True.intro
    | ok f s2 =>
      rw [e1] at s1
      cases f with
      | nx =>
        obtain ⟨env2, st2, Sh2, sa2, e4, o2⟩ := s1
        rw [e4]
        exact SimF.after o2 ((exPs_ok hR xs n0 Sh2 sa2 st2 env2 s2 o2.good).mono fun i h => or_r h)
      | ct =>
        obtain ⟨env2, st2, Sh2, sa2, e4, o2⟩ := s1
        rw [e4]
        exact ⟨env2, st2, Sh2, sa2, rfl, o2⟩
      | rt d =>
        obtain ⟨v, st2, Sh2, sa2, env2, e4, o2, r⟩ := s1
        rw [e4]
        exact ⟨v, st2, Sh2, sa2, env2, rfl, o2, r⟩
      | xc c p =>
        obtain ⟨env2, q, st2, Sh2, sa2, e4, o2, r⟩ := s1
        rw [e4]
        exact ⟨env2, q, st2, Sh2, sa2, rfl, o2, r⟩
end
/-- the two defs of the stream do what the tree interpreter says -/
structure PrmOk (Q : Prm) (T : List Fn) : Prop where
  strm : ∀ (k : Nat) (ns : List Int) (st : Hs) (a : Nat), st[a]? = some (.fro (ns.map .int)) → runH T (k + 1) Q.strm [.ref a] st = .ok (.ref (st.length + 1)) (st ++ [.lst (ns.map .int), .lst [.ref st.length, .int 0, .int 0, .int 17]])
  draw : ∀ (k : Nat) (many : Int) (st : Hs) (a b : Nat) (l : List Int) (cur cnt mix : Int) (r : Int) (l' : List Int) (cur' cnt' mix' : Int), a ≠ b → st[a]? = some (.lst [.ref b, .int cur, .int cnt, .int mix]) → st[b]? = some (.lst (l.map .int)) → drawP many (l, cur, cnt, mix) = some (r, (l', cur', cnt', mix')) →
    ∃ ext, runH T (k + 1) Q.draw [.ref a, .int many] st = .ok (.int r) (((st.set a (.lst [.ref b, .int cur', .int cnt', .int mix'])).set b (.lst (l'.map .int))) ++ ext)
theorem start_good {F : Fn} {ds : List D} {sm : Sst} {xs : List HV} (r : RdSs Sh sa st xs ds) (hs : ∀ a, Sh a → a < st.length ∧ ¬ isSa sa a) (hm : StmAt sa st sm) : Good st.length Sh sa st (xs.map some ++ List.replicate (F.ns - F.ar) none) ⟨ds.map (fun d => some (.sh d)) ++ List.replicate (F.ns - F.ar) none, sm⟩ := by
  have hl := r.length
  refine ⟨by simp [hl], Nat.le_refl _, fun i d h => ?_, fun i ys h => ?_, fun i j a ys zs h _ _ _ => ?_, hs, hm⟩
  · have h : (ds.map (fun d => some (PV.sh d)) ++ List.replicate (F.ns - F.ar) none)[i]? = some (some (PV.sh d)) := h
    by_cases hi : i < ds.length
    · rw [List.getElem?_append_left (by simpa using hi), List.getElem?_map] at h
      cases q : ds[i]? with
      | none => rw [q] at h; cases h
      | some e =>
        rw [q] at h
        cases h
        obtain ⟨w, k1, k2⟩ := r.get q
        refine ⟨w, ?_, k2⟩
        rw [List.getElem?_append_left (by rw [List.length_map, hl]; exact hi), List.getElem?_map, k1]
        rfl
    · rw [List.getElem?_append_right (by simpa using Nat.not_lt.mp hi)] at h
      have := List.mem_of_getElem? h
      exact absurd (List.eq_of_mem_replicate this) (by simp)
  · exfalso
    have h : (ds.map (fun d => some (PV.sh d)) ++ List.replicate (F.ns - F.ar) none)[i]? = some (some (PV.ow ys)) := h
    have := List.mem_of_getElem? h
    rcases List.mem_append.mp this with k | k
    · obtain ⟨d, _, e⟩ := List.mem_map.mp k
      cases e
    · exact absurd (List.eq_of_mem_replicate k) (by simp)
  · exfalso
    have h : (ds.map (fun d => some (PV.sh d)) ++ List.replicate (F.ns - F.ar) none)[i]? = some (some (PV.ow ys)) := h
    have := List.mem_of_getElem? h
    rcases List.mem_append.mp this with k | k
    · obtain ⟨d, _, e⟩ := List.mem_map.mp k
      cases e
    · exact absurd (List.eq_of_mem_replicate k) (by simp)
/-- no name holds anything of its own at the start -/
theorem start_no {F : Fn} {ds : List D} {i : Nat} {ys : List D} : (ds.map (fun d => some (PV.sh d)) ++ List.replicate (F.ns - F.ar) none)[i]? ≠ some (some (PV.ow ys)) := fun h => by
  have := List.mem_of_getElem? h
  rcases List.mem_append.mp this with k | k
  · obtain ⟨d, _, e⟩ := List.mem_map.mp k
    cases e
  · exact absurd (List.eq_of_mem_replicate k) (by simp)
theorem out_f {F : Fn} {ds : List D} {sm : Sst} {xs : List HV} (o : Out st.length occ Sh sa st (xs.map some ++ List.replicate (F.ns - F.ar) none) ⟨ds.map (fun d => some (.sh d)) ++ List.replicate (F.ns - F.ar) none, sm⟩ Sh' sa' st' env' s') : OutF Sh sa st Sh' sa' st' s'.sm :=
  ⟨o.sub, fun a h => (o.new a h).imp id fun k => k.elim id fun ⟨i, ys, _, k2, _⟩ => (start_no k2).elim, o.good.shlt, o.saL, o.sn, o.len, fun a h => (o.fr a h).imp id fun k => k.elim id fun ⟨i, ys, _, k2, _⟩ => (start_no k2).elim, o.good.stm⟩
end Ih
end
section
set_option Elab.async false
set_option linter.all false
set_option maxHeartbeats 2000000
namespace Ih
open PySem
variable {Sh Sh' : Nat → Prop} {sa sa' : Sa} {st st' : Hs} {env env' : Env} {s s' : Ps}
theorem runP_ok {Q : Prm} {T : List Fn} (hQ : PrmOk Q T) : ∀ k : Nat, SndR (runH T k) (runP Q T k)
  | 0 => fun g ds sm Sh sa st xs r hs hm => True.intro
  | k + 1 => by
    intro g ds sm Sh sa st xs r hs hm
    unfold runP
    by_cases h1 : g = Q.strm
    · rw [if_pos h1]
      have hd : (∃ ns, ds = [.scr ns] ∧ sm = none) ∨ strmP ds sm = .bad := by
        unfold strmP
        split
        · exact .inl ⟨_, rfl, rfl⟩
        · exact .inr rfl
      rcases hd with ⟨ns, rfl, rfl⟩ | hd
      · cases r with
        | cons r1 r2 =>
          cases r2
          cases r1 with
          | scr z1 z2 =>
            rename_i a
            have hsa : sa = none := by
              cases sa with
              | none => rfl
              | some p => exact False.elim hm
            subst hsa
            subst h1
            have hl : (st ++ [Cel.lst (ns.map .int), .lst [.ref st.length, .int 0, .int 0, .int 17]]).length = st.length + 2 := by rw [List.length_append]; rfl
            have isa : ∀ a, isSa (some (st.length + 1, st.length)) a → st.length ≤ a := fun a h => by
              obtain ⟨p, e, h⟩ := h
              cases e
              dsimp only at h
              omega
            unfold strmP
            dsimp only
            refine ⟨_, _, Sh, some (st.length + 1, st.length), hQ.strm k ns st a z2, ⟨fun _ h => h, fun _ h => .inl h, fun b hb => ⟨by rw [hl]; have := (hs b hb).1; omega, fun z => by have := (hs b hb).1; have := isa b z; omega⟩, fun p h => (nomatch h), fun b h => .inr (isa b h), by omega, fun b hb => .inl (List.getElem?_append_left hb), ?_, ?_, by omega⟩, .stm rfl⟩
            · rw [List.getElem?_append_right (by omega)]
              have e : st.length + 1 - st.length = 1 := by omega
              rw [e]
              rfl
            · rw [List.getElem?_append_right (by omega), Nat.sub_self]
              rfl
      · rw [hd]
        exact True.intro
    · rw [if_neg h1]
      by_cases h2 : g = Q.draw
      · rw [if_pos h2]
        have hd : (∃ many σ, ds = [.stm, .int many] ∧ sm = some σ) ∨ drwP ds sm = .bad := by
          unfold drwP
          split
          · exact .inl ⟨_, _, rfl, rfl⟩
          · exact .inr rfl
        rcases hd with ⟨many, σ, rfl, rfl⟩ | hd
        · obtain ⟨l, cur, cnt, mix⟩ := σ
          cases r with
          | cons r1 r2 =>
            cases r2 with
            | cons r3 r4 =>
              cases r4
              cases r1 with
              | stm hsa =>
                rename_i a b
                cases r3
                subst hsa
                obtain ⟨m1, m2, m3⟩ := hm
                unfold drwP
                dsimp only
                cases q : drawP many (l, cur, cnt, mix) with
                | none => exact True.intro
                | some p =>
                  obtain ⟨r, l', cur', cnt', mix'⟩ := p
                  dsimp only
                  subst h2
                  obtain ⟨ext, e⟩ := hQ.draw k many st a b l cur cnt mix r l' cur' cnt' mix' m3 m1 m2 q
                  have la := lt_of_get m1
                  have lb := lt_of_get m2
                  have hl : ((st.set a (.lst [.ref b, .int cur', .int cnt', .int mix'])).set b (.lst (l'.map .int))).length = st.length := by rw [List.length_set, List.length_set]
                  have hl2 : (((st.set a (.lst [.ref b, .int cur', .int cnt', .int mix'])).set b (.lst (l'.map .int))) ++ ext).length = st.length + ext.length := by rw [List.length_append, hl]
                  refine ⟨_, _, Sh, some (a, b), e, ⟨fun _ h => h, fun _ h => .inl h, fun c hc => ⟨by rw [hl2]; have := (hs c hc).1; omega, (hs c hc).2⟩, fun _ h => h, fun _ h => .inl h, by omega, fun c hc => ?_, ?_, ?_, m3⟩, .int r⟩
                  · by_cases ca : c = a
                    · exact .inr ⟨_, rfl, .inl ca⟩
                    · by_cases cb : c = b
                      · exact .inr ⟨_, rfl, .inr cb⟩
                      · left
                        rw [List.getElem?_append_left (by rw [hl]; exact hc), List.getElem?_set_ne (Ne.symm cb), List.getElem?_set_ne (Ne.symm ca)]
                  · rw [List.getElem?_append_left (by rw [hl]; exact la), List.getElem?_set_ne (Ne.symm m3), List.getElem?_set_self la]
                  · rw [List.getElem?_append_left (by rw [hl]; exact lb), List.getElem?_set_self (by rw [List.length_set]; exact lb)]
        · rw [hd]
          exact True.intro
      · rw [if_neg h2]
        cases hT : T[g]? with
        | none => exact True.intro
        | some F =>
          dsimp only
          by_cases hc : ds.length = F.ar ∧ F.ar ≤ F.ns
          · rw [if_pos hc]
            have eh : runH T (k + 1) g xs st = (exSs (runH T k) F.body (xs.map some ++ List.replicate (F.ns - F.ar) none) st).andThen fun f s => (match f with
                | .rt v => ret v
                | .nx _ => ret .non
                | .ct _ => bad
                | .xc _ c p => fun st => .exc c p st) s := by
              unfold runH
              rw [hT]
              dsimp only
              rw [if_pos (by rw [r.length]; exact hc)]
              rfl
            have g0 := start_good (F := F) r hs hm
            have z := exPs_ok (runP_ok hQ k) F.body st.length Sh sa st _ _ g0
            cases e : exPs (runP Q T k) F.body ⟨ds.map (fun d => some (.sh d)) ++ List.replicate (F.ns - F.ar) none, sm⟩ with
            | bad => exact True.intro
            | exc _ _ _ => exact True.intro
            | ok f s2 =>
              rw [e] at z
              cases f with
              | nx =>
                obtain ⟨env2, st2, Sh2, sa2, e4, o2⟩ := z
                exact ⟨.non, st2, Sh2, sa2, by rw [eh, e4]; rfl, out_f o2, .non⟩
              | ct => exact True.intro
              | rt d =>
                obtain ⟨v, st2, Sh2, sa2, env2, e4, o2, rd⟩ := z
                exact ⟨v, st2, Sh2, sa2, by rw [eh, e4]; rfl, out_f o2, rd⟩
              | xc c p =>
                obtain ⟨env2, q, st2, Sh2, sa2, e4, o2, rd⟩ := z
                exact ⟨q, st2, Sh2, sa2, by rw [eh, e4]; rfl, out_f o2, rd⟩
          · rw [if_neg hc]
            exact True.intro
/-- a law: what the tree interpreter tells of its script -/
theorem law_of_runP {Q : Prm} {T : List Fn} (hQ : PrmOk Q T) {k g : Nat} {ns : List Int} {sm : Sst} (h : runP Q T k g [.scr ns] none = .ok (.bl true) sm) : ∃ st', runH T k g [.ref 0] [.fro (ns.map .int)] = .ok (.bl true) st' := by
  have z := runP_ok hQ k g [.scr ns] none (fun a => a = 0) none [.fro (ns.map .int)] [.ref 0] (.cons (.scr rfl rfl) .nil) (fun a ha => ⟨by subst ha; exact Nat.zero_lt_one, fun ⟨p, e, _⟩ => by cases e⟩) True.intro
  rw [h] at z
  obtain ⟨v, st', Sh', sa', e, _, r⟩ := z
  cases r
  exact ⟨st', e⟩
end Ih
end
section
set_option Elab.async false
set_option linter.all false
set_option maxHeartbeats 2000000
namespace Ih
open PySem
/-- the store with the stream at a, its cells at b -/
def Wst (base : Hs) (a b : Nat) (l : List Int) (cur cnt mix : Int) (ext : Hs) : Hs := ((base.set a (.lst [.ref b, .int cur, .int cnt, .int mix])).set b (.lst (l.map .int))) ++ ext
section
variable {base ext : Hs} {a b : Nat} {l : List Int} {cur cnt mix : Int} {R : Rt} {env : Env}
theorem Wst_len : ((base.set a (.lst [.ref b, .int cur, .int cnt, .int mix])).set b (.lst (l.map .int))).length = base.length := by rw [List.length_set, List.length_set]
theorem Wst_a (ha : a < base.length) (hab : a ≠ b) : (Wst base a b l cur cnt mix ext)[a]? = some (.lst [.ref b, .int cur, .int cnt, .int mix]) := by
  unfold Wst
  rw [List.getElem?_append_left (by rw [Wst_len]; exact ha), List.getElem?_set_ne (Ne.symm hab), List.getElem?_set_self ha]
theorem Wst_b (hb : b < base.length) : (Wst base a b l cur cnt mix ext)[b]? = some (.lst (l.map .int)) := by
  unfold Wst
  rw [List.getElem?_append_left (by rw [Wst_len]; exact hb), List.getElem?_set_self (by rw [List.length_set]; exact hb)]
theorem Wst_seta (ha : a < base.length) (hab : a ≠ b) {cur' cnt' mix' : Int} : (Wst base a b l cur cnt mix ext).set a (.lst [.ref b, .int cur', .int cnt', .int mix']) = Wst base a b l cur' cnt' mix' ext := by
  unfold Wst
  rw [List.set_append_left _ _ (by rw [Wst_len]; exact ha), List.set_comm _ _ (Ne.symm hab), List.set_set]
theorem Wst_setb (hb : b < base.length) {l' : List Int} : (Wst base a b l cur cnt mix ext).set b (.lst (l'.map .int)) = Wst base a b l' cur cnt mix ext := by
  unfold Wst
  rw [List.set_append_left _ _ (by rw [Wst_len]; exact hb), List.set_set]
theorem Wst_app {c : Cel} : Wst base a b l cur cnt mix ext ++ [c] = Wst base a b l cur cnt mix (ext ++ [c]) := by
  unfold Wst
  rw [List.append_assoc]
theorem Wst_start (ha : base[a]? = some (.lst [.ref b, .int cur, .int cnt, .int mix])) (hb : base[b]? = some (.lst (l.map .int))) : base = Wst base a b l cur cnt mix [] := by
  unfold Wst
  rw [List.append_nil]
  have e1 : base.set a (.lst [.ref b, .int cur, .int cnt, .int mix]) = base := by
    obtain ⟨h, e⟩ := List.getElem?_eq_some_iff.mp ha
    rw [← e, List.set_getElem_self]
  rw [e1]
  obtain ⟨h, e⟩ := List.getElem?_eq_some_iff.mp hb
  rw [← e, List.set_getElem_self]
/-- the parts of the stream -/
theorem st_sub (ha : a < base.length) (hab : a ≠ b) (he : env[0]? = some (some (.ref a))) (k : Nat) (w : HV) (hk : L2.atI [HV.ref b, .int cur, .int cnt, .int mix] (k : Int) = some w) : evE R env (.sub (.var 0) (.int (Int.ofNat k))) (Wst base a b l cur cnt mix ext) = .ok w (Wst base a b l cur cnt mix ext) := by
  show bnd (getV env 0) (fun x => bnd (ret (.int (Int.ofNat k))) fun y => subH x y) _ = _
  rw [bnd_at (getV_at he)]
  show subH (.ref a) (.int (Int.ofNat k)) _ = _
  simp only [subH, seqOf, Wst_a ha hab]
  have : L2.atI [HV.ref b, .int cur, .int cnt, .int mix] (Int.ofNat k) = some w := hk
  rw [this]
/-- a store in the stream -/
theorem st_set (ha : a < base.length) (hab : a ≠ b) (he : env[0]? = some (some (.ref a))) (k : Nat) {e : Ex} {w : HV} {l1 : List Int} {c1 n1 m1 : Int} {x1 : Hs} {c2 n2 m2 : Int} (hk : ∃ j, L2.ixN 4 (k : Int) = some j ∧ [HV.ref b, .int c1, .int n1, .int m1].set j w = [HV.ref b, .int c2, .int n2, .int m2])
    (h : evE R env e (Wst base a b l cur cnt mix ext) = .ok w (Wst base a b l1 c1 n1 m1 x1)) : exS R (.sst (.var 0) (.int (Int.ofNat k)) e) env (Wst base a b l cur cnt mix ext) = .ok (.nx env) (Wst base a b l1 c2 n2 m2 x1) := by
  obtain ⟨j, k1, k2⟩ := hk
  show tryE env (evE R env e) (fun v => tryE env (getV env 0) fun x => tryE env (ret (.int (Int.ofNat k))) fun y => bnd (sstH x y v) fun _ => ret (.nx env)) _ = _
  rw [tryE_at h, tryE_at (getV_at he), tryE_at (show ret (HV.int (Int.ofNat k)) (Wst base a b l1 c1 n1 m1 x1) = .ok (HV.int (Int.ofNat k)) (Wst base a b l1 c1 n1 m1 x1) from rfl)]
  have : sstH (.ref a) (.int (Int.ofNat k)) w (Wst base a b l1 c1 n1 m1 x1) = .ok () (Wst base a b l1 c2 n2 m2 x1) := by
    unfold sstH
    rw [mutOf_at (Wst_a ha hab)]
    dsimp only
    have e : L2.ixN [HV.ref b, HV.int c1, HV.int n1, HV.int m1].length (Int.ofNat k) = some j := k1
    rw [e]
    dsimp only
    rw [k2, Wst_seta ha hab]
  exact bnd_at this
end
theorem rdD_ints {st : Hs} : ∀ (l : List Int) (n : Nat), l.length + 2 ≤ n → rdDs n st (l.map .int) = some (l.map PyData.int)
  | [], n + 1, _ => rfl
  | i :: r, 0, h => by simp at h
  | i :: r, n + 1, h => by
    show (match rdD n st (.int i), rdDs n st (r.map .int) with
      | some d, some ds => some (d :: ds)
      | _, _ => none) = _
    rw [rdD_ints r n (by simp at h; omega)]
    cases n with
    | zero => simp at h
    | succ n => rfl
theorem shaped_ints (l : List Int) : SeqAt.shaped (.list (l.map PyData.int)) = true := by
  have h1 : ∀ l : List Int, PyData.canLayAll0 (l.map PyData.int) = true := fun l => by
    induction l with
    | nil => rfl
    | cons i r ih =>
      rw [List.map_cons, PyData.canLayAll0, ih]
      rfl
  have h2 : ∀ l : List Int, PyData.depthAll (l.map PyData.int) ≤ 1 := fun l => by
    induction l with
    | nil => exact Nat.zero_le _
    | cons i r ih =>
      rw [List.map_cons, PyData.depthAll]
      exact Nat.max_le.mpr ⟨Nat.zero_le _, ih⟩
  unfold SeqAt.shaped
  rw [Bool.and_eq_true]
  refine ⟨?_, decide_eq_true (by rw [PyData.depth]; have := h2 l; omega)⟩
  rw [PyData.canLay0]
  exact h1 l
def sK (k : Nat) : Ex := .sub (.var 0) (.int (Int.ofNat k))
def i_ (k : Nat) : Ex := .int (Int.ofNat k)
def dCond : Ex := .and (.cmp .eq (sK 1) (i_ 0)) (.cmp .ne (sK 0) (.lst .nil))
def one (e : Ex) : Exs := .cons e .nil
def dBody : Sxs := .cons (.asg (.nm 2) (.bi .abs (one (.met .popi (sK 0) (one (i_ 0)))))) (.cons (.sst (.var 0) (i_ 3) (.bin .mod (.bi .int (one (.bin .add (.bin .add (.bin .mul (sK 3) (i_ 8191)) (.var 2)) (i_ 3)))) (i_ 2147483647))) (.cons (.sst (.var 0) (i_ 1) (.ife (.cmp .ge (.var 2) (.bin .pow (i_ 10) (i_ 18))) (.var 2) (i_ 0))) .nil))
def dThen : Sxs := .cons (.asg (.nm 3) (.bin .mod (.bi .int (one (sK 1))) (.var 1))) (.cons (.sst (.var 0) (i_ 1) (.bin .fdv (sK 1) (.var 1))) (.cons (.ret (.var 3)) .nil))
def dMix : Ex := .bin .mod (.bi .int (one (.bin .pow (.bin .add (.bin .add (sK 3) (.bin .mul (i_ 7919) (sK 2))) (i_ 104729)) (i_ 5)))) (i_ 2147483629)
def dEnd : Ex := .bin .mod (.bin .mod (.bi .int (one (.bin .pow (.bin .add (.bin .add (.bin .mul (.var 4) (i_ 48271)) (.bin .mul (i_ 30011) (sK 2))) (i_ 29)) (i_ 3)))) (i_ 1000000007)) (.var 1)
def drawF : Fn := ⟨2, 5, .cons (.sst (.var 0) (i_ 2) (.bin .add (sK 2) (i_ 1))) (.cons (.whl dCond dBody) (.cons (.ite (.cmp .gt (sK 1) (i_ 0)) dThen .nil) (.cons (.asg (.nm 4) dMix) (.cons (.ret dEnd) .nil))))⟩
def strmF : Fn := ⟨1, 1, .cons (.ret (.lst (.cons (.bi .list (one (.var 0))) (.cons (i_ 0) (.cons (i_ 0) (.cons (i_ 17) .nil)))))) .nil⟩
section
variable {base ext : Hs} {a b : Nat} {l : List Int} {cur cnt mix : Int} {R : Rt} {env : Env}
theorem sK_at (ha : a < base.length) (hab : a ≠ b) (he : env[0]? = some (some (.ref a))) (k : Nat) (w : HV) (hk : L2.atI [HV.ref b, .int cur, .int cnt, .int mix] (k : Int) = some w) : evE R env (sK k) (Wst base a b l cur cnt mix ext) = .ok w (Wst base a b l cur cnt mix ext) := st_sub ha hab he k w hk
theorem bin_at {op : Bop} {e f : Ex} {st st1 st2 st3 : Hs} {x y z : HV} (h1 : evE R env e st = .ok x st1) (h2 : evE R env f st1 = .ok y st2) (h3 : binH op x y st2 = .ok z st3) : evE R env (.bin op e f) st = .ok z st3 := by
  show bnd (evE R env e) (fun x => bnd (evE R env f) fun y => binH op x y) st = _
  rw [bnd_at h1, bnd_at h2, h3]
theorem cmp_at {op : Cop} {e f : Ex} {st st1 st2 st3 : Hs} {x y z : HV} (h1 : evE R env e st = .ok x st1) (h2 : evE R env f st1 = .ok y st2) (h3 : cmpH op x y st2 = .ok z st3) : evE R env (.cmp op e f) st = .ok z st3 := by
  show bnd (evE R env e) (fun x => bnd (evE R env f) fun y => cmpH op x y) st = _
  rw [bnd_at h1, bnd_at h2, h3]
theorem bi_at {b : Bi} {e : Ex} {st st1 st2 : Hs} {x z : HV} (h1 : evE R env e st = .ok x st1) (h2 : biH b [x] st1 = .ok z st2) : evE R env (.bi b (one e)) st = .ok z st2 := by
  show bnd (bnd (evE R env e) fun x => bnd (ret []) fun xs => ret (x :: xs)) (fun xs => biH b xs) st = _
  have : bnd (evE R env e) (fun x => bnd (ret []) fun xs => ret (x :: xs)) st = .ok [x] st1 := by
    rw [bnd_at h1]
    rfl
  rw [bnd_at this, h2]
theorem i_at {k : Nat} {st : Hs} : evE R env (i_ k) st = .ok (.int k) st := rfl
theorem var_at {i : Nat} {v : HV} {st : Hs} (h : env[i]? = some (some v)) : evE R env (.var i) st = .ok v st := getV_at h
theorem mod_at {i j : Int} {st : Hs} (h : 0 < j) : binH .mod (.int i) (.int j) st = .ok (.int (i % j)) st := by
  simp only [binH]
  rw [if_pos (decide_eq_true h)]
theorem add_at {i j : Int} {st : Hs} : binH .add (.int i) (.int j) st = .ok (.int (i + j)) st := rfl
theorem mul_at {i j : Int} {st : Hs} (h : small64 i = true ∨ small64 j = true) : binH .mul (.int i) (.int j) st = .ok (.int (i * j)) st := by
  simp only [binH]
  rw [if_pos (by rcases h with h | h <;> rw [h] <;> simp)]
theorem pow_at {i j : Int} {st : Hs} (h1 : 0 ≤ j) (h2 : j ≤ 1000000) (h3 : i.natAbs < 2 ^ 64) : binH .pow (.int i) (.int j) st = .ok (.int (i ^ j.toNat)) st := by
  simp only [binH]
  rw [if_pos (by rw [z6, decide_eq_true h1, decide_eq_true h2, decide_eq_true h3]; rfl)]
theorem fdv_at {i j : Int} {st : Hs} (h1 : 0 < j) (h2 : j < 1073741824) : binH .fdv (.int i) (.int j) st = .ok (.int (i / j)) st := by
  simp only [binH]
  rw [if_pos (by rw [zfd, decide_eq_true h1, decide_eq_true h2]; rfl)]
theorem eq_int {i j : Int} {st : Hs} : cmpH .eq (.int i) (.int j) st = .ok (.bl (i == j)) st := rfl
/-- the loop's test -/
theorem cond_at (ha : a < base.length) (hb : b < base.length) (hab : a ≠ b) (he : env[0]? = some (some (.ref a))) (hl : l.length ≤ 1000) : ∃ ext', bnd (evE R env dCond) testV (Wst base a b l cur cnt mix ext) = .ok (decide (cur = 0) && !l.isEmpty) (Wst base a b l cur cnt mix ext') := by
  have e1 : evE R env (.cmp .eq (sK 1) (i_ 0)) (Wst base a b l cur cnt mix ext) = .ok (.bl (cur == 0)) (Wst base a b l cur cnt mix ext) := cmp_at (sK_at ha hab he 1 (.int cur) rfl) i_at eq_int
  have e2 : evE R env (.cmp .ne (sK 0) (.lst .nil)) (Wst base a b l cur cnt mix ext) = .ok (.bl (!l.isEmpty)) (Wst base a b l cur cnt mix (ext ++ [.lst []])) := by
    refine cmp_at (sK_at ha hab he 0 (.ref b) rfl) (y := .ref (Wst base a b l cur cnt mix ext).length) (st2 := Wst base a b l cur cnt mix (ext ++ [.lst []])) ?_ ?_
    · rw [← Wst_app]
      rfl
    · have r1 : rd (Wst base a b l cur cnt mix (ext ++ [.lst []])) (.ref b) = some (.list (l.map PyData.int)) := by
        unfold rd deepN
        unfold rdD
        simp only [Wst_b hb]
        rw [rdD_ints l _ (by omega)]
        rfl
      have r2 : rd (Wst base a b l cur cnt mix (ext ++ [.lst []])) (.ref (Wst base a b l cur cnt mix ext).length) = some (.list []) := by
        unfold rd deepN
        unfold rdD
        rw [← Wst_app]
        simp only [get_new]
        rfl
      have s2 : SeqAt.shaped (.list []) = true := shaped_ints []
      simp only [cmpH, r1, r2, shaped_ints l, s2, Bool.and_self, if_true]
      cases l <;> rfl
  show ∃ ext', bnd (bnd (evE R env (.cmp .eq (sK 1) (i_ 0))) fun x => bnd (testV x) fun k => if k = true then evE R env (.cmp .ne (sK 0) (.lst .nil)) else ret x) testV _ = _
  by_cases hc : cur = 0
  · refine ⟨ext ++ [.lst []], ?_⟩
    have e3 : bnd (evE R env (.cmp .eq (sK 1) (i_ 0))) (fun x => bnd (testV x) fun k => if k = true then evE R env (.cmp .ne (sK 0) (.lst .nil)) else ret x) (Wst base a b l cur cnt mix ext) = .ok (.bl (!l.isEmpty)) (Wst base a b l cur cnt mix (ext ++ [.lst []])) := by
      rw [bnd_at e1]
      have : (cur == 0) = true := beq_iff_eq.mpr hc
      rw [this]
      exact e2
    rw [bnd_at e3, decide_eq_true hc]
    rfl
  · refine ⟨ext, ?_⟩
    have e3 : bnd (evE R env (.cmp .eq (sK 1) (i_ 0))) (fun x => bnd (testV x) fun k => if k = true then evE R env (.cmp .ne (sK 0) (.lst .nil)) else ret x) (Wst base a b l cur cnt mix ext) = .ok (.bl false) (Wst base a b l cur cnt mix ext) := by
      rw [bnd_at e1]
      have : (cur == 0) = false := beq_eq_false_iff_ne.mpr hc
      rw [this]
      rfl
    rw [bnd_at e3, decide_eq_false hc]
    rfl
end
end Ih
end
section
set_option Elab.async false
set_option linter.all false
set_option maxHeartbeats 2000000
namespace Ih
open PySem
section
variable {base ext : Hs} {a b : Nat} {l : List Int} {cur cnt mix : Int} {R : Rt} {env : Env}
theorem sxs_nx {s : Sx} {ss : Sxs} {st st1 : Hs} {env1 : Env} (h : exS R s env st = .ok (.nx env1) st1) : exSs R (.cons s ss) env st = exSs R ss env1 st1 := by
  show bnd (exS R s env) _ st = _
  rw [bnd_at h]
theorem asg_at {i : Nat} {e : Ex} {st st1 : Hs} {w : HV} (h : evE R env e st = .ok w st1) (hi : i < env.length) : exS R (.asg (.nm i) e) env st = .ok (.nx (env.set i (some w))) st1 := by
  show tryE env (evE R env e) _ st = _
  rw [tryE_at h]
  show (match asgV st1 (.nm i) w env with
    | some env' => Res.ok (Fl.nx env') st1
    | none => .bad) = _
  rw [asgV_nm, if_pos hi]
theorem ret_at {e : Ex} {st st1 : Hs} {w : HV} (h : evE R env e st = .ok w st1) : exS R (.ret e) env st = .ok (.rt w) st1 := by
  show tryE env (evE R env e) _ st = _
  rw [tryE_at h]
  rfl
theorem st_seti (ha : a < base.length) (hab : a ≠ b) (he : env[0]? = some (some (.ref a))) (k : Nat) {e : Ex} {w : HV} {l1 : List Int} {c1 n1 m1 : Int} {x1 : Hs} {c2 n2 m2 : Int} (hk : ∃ j, L2.ixN 4 (k : Int) = some j ∧ [HV.ref b, .int c1, .int n1, .int m1].set j w = [HV.ref b, .int c2, .int n2, .int m2])
    (h : evE R env e (Wst base a b l cur cnt mix ext) = .ok w (Wst base a b l1 c1 n1 m1 x1)) : exS R (.sst (.var 0) (i_ k) e) env (Wst base a b l cur cnt mix ext) = .ok (.nx env) (Wst base a b l1 c2 n2 m2 x1) := st_set ha hab he k hk h
theorem small_8191 : small64 8191 = true := by decide +kernel
theorem pop_at (ha : a < base.length) (hb : b < base.length) (hab : a ≠ b) (he : env[0]? = some (some (.ref a))) {c : Int} {r : List Int} : evE R env (.met .popi (sK 0) (one (i_ 0))) (Wst base a b (c :: r) cur cnt mix ext) = .ok (.int c) (Wst base a b r cur cnt mix ext) := by
  show bnd (evE R env (sK 0)) (fun x => bnd (chkM x) fun _ => bnd (evEs R env (one (i_ 0))) fun xs => metH .popi x xs) _ = _
  rw [bnd_at (sK_at ha hab he 0 (.ref b) rfl)]
  have hm : mutOf (Wst base a b (c :: r) cur cnt mix ext) (.ref b) = some (b, (c :: r).map .int) := mutOf_at (Wst_b hb)
  have hc : chkM (.ref b) (Wst base a b (c :: r) cur cnt mix ext) = .ok () (Wst base a b (c :: r) cur cnt mix ext) := by
    unfold chkM
    rw [hm]
    rfl
  rw [bnd_at hc]
  have hes : evEs R env (one (i_ 0)) (Wst base a b (c :: r) cur cnt mix ext) = .ok [.int 0] (Wst base a b (c :: r) cur cnt mix ext) := rfl
  rw [bnd_at hes]
  have hx : seqIndex? (0 : Int) ((c :: r).map HV.int).length = some 0 := by
    have : L2.ixN ((c :: r).map HV.int).length (0 : Int) = some 0 := by
      unfold L2.ixN
      rw [if_pos (Int.le_refl 0), if_pos (by rw [List.length_map, List.length_cons]; omega)]
      rfl
    exact (L2.ixN_seq this).1
  simp only [metH, hm]
  rw [if_pos (by decide), hx]
  show Res.ok (HV.int c) ((Wst base a b (c :: r) cur cnt mix ext).set b (.lst (r.map .int))) = _
  rw [Wst_setb hb]
theorem abs_at {c : Int} {st : Hs} : biH .abs [.int c] st = .ok (.int c.natAbs) st := by
  show Res.ok (HV.int (if c < 0 then -c else c)) st = _
  have : (if c < 0 then -c else c) = (c.natAbs : Int) := by split <;> omega
  rw [this]
/-- a turn -/
theorem body_at (ha : a < base.length) (hb : b < base.length) (hab : a ≠ b) (he : env[0]? = some (some (.ref a))) (h2 : 2 < env.length) {c : Int} {r : List Int} : exSs R dBody env (Wst base a b (c :: r) cur cnt mix ext) = .ok (.nx (env.set 2 (some (.int c.natAbs)))) (Wst base a b r (if 10 ^ 18 ≤ (c.natAbs : Int) then c.natAbs else 0) cnt ((mix * 8191 + c.natAbs + 3) % 2147483647) ext) := by
  unfold dBody
  rw [sxs_nx (asg_at (bi_at (pop_at ha hb hab he) abs_at) h2)]
  have he' : (env.set 2 (some (HV.int c.natAbs)))[0]? = some (some (.ref a)) := by rw [List.getElem?_set_ne (by decide)]; exact he
  have hv' : (env.set 2 (some (HV.int c.natAbs)))[2]? = some (some (.int c.natAbs)) := List.getElem?_set_self h2
  have e1 : evE R (env.set 2 (some (HV.int c.natAbs))) (.bin .mod (.bi .int (one (.bin .add (.bin .add (.bin .mul (sK 3) (i_ 8191)) (.var 2)) (i_ 3)))) (i_ 2147483647)) (Wst base a b r cur cnt mix ext) = .ok (.int ((mix * 8191 + c.natAbs + 3) % 2147483647)) (Wst base a b r cur cnt mix ext) :=
    bin_at (bi_at (bin_at (bin_at (bin_at (sK_at ha hab he' 3 (.int mix) rfl) i_at (mul_at (.inr small_8191))) (var_at hv') add_at) i_at add_at) rfl) i_at (mod_at (by decide))
  rw [sxs_nx (st_seti ha hab he' 3 (c2 := cur) (n2 := cnt) (m2 := (mix * 8191 + c.natAbs + 3) % 2147483647) ⟨3, rfl, rfl⟩ e1)]
  have e2 : evE R (env.set 2 (some (HV.int c.natAbs))) (.ife (.cmp .ge (.var 2) (.bin .pow (i_ 10) (i_ 18))) (.var 2) (i_ 0)) (Wst base a b r cur cnt ((mix * 8191 + c.natAbs + 3) % 2147483647) ext) = .ok (.int (if 10 ^ 18 ≤ (c.natAbs : Int) then c.natAbs else 0)) (Wst base a b r cur cnt ((mix * 8191 + c.natAbs + 3) % 2147483647) ext) := by
    have e3 : evE R (env.set 2 (some (HV.int c.natAbs))) (.cmp .ge (.var 2) (.bin .pow (i_ 10) (i_ 18))) (Wst base a b r cur cnt ((mix * 8191 + c.natAbs + 3) % 2147483647) ext) = .ok (.bl (decide ((10 : Int) ^ 18 ≤ c.natAbs))) (Wst base a b r cur cnt ((mix * 8191 + c.natAbs + 3) % 2147483647) ext) :=
      cmp_at (var_at hv') (bin_at i_at i_at (pow_at (by decide) (by decide) (by decide))) rfl
    show bnd (bnd (evE R _ (.cmp .ge (.var 2) (.bin .pow (i_ 10) (i_ 18)))) testV) (fun k => if k = true then evE R _ (.var 2) else evE R _ (i_ 0)) _ = _
    have e4 : bnd (evE R (env.set 2 (some (HV.int c.natAbs))) (.cmp .ge (.var 2) (.bin .pow (i_ 10) (i_ 18)))) testV (Wst base a b r cur cnt ((mix * 8191 + c.natAbs + 3) % 2147483647) ext) = .ok (decide ((10 : Int) ^ 18 ≤ c.natAbs)) (Wst base a b r cur cnt ((mix * 8191 + c.natAbs + 3) % 2147483647) ext) := by
      rw [bnd_at e3]
      rfl
    rw [bnd_at e4]
    by_cases hz : (10 : Int) ^ 18 ≤ c.natAbs
    · rw [if_pos (decide_eq_true hz), if_pos hz]
      exact var_at hv'
    · rw [if_neg (by rw [decide_eq_false hz]; exact Bool.false_ne_true), if_neg hz]
      rfl
  rw [sxs_nx (st_seti ha hab he' 1 (c2 := if 10 ^ 18 ≤ (c.natAbs : Int) then c.natAbs else 0) (n2 := cnt) (m2 := (mix * 8191 + c.natAbs + 3) % 2147483647) ⟨1, rfl, rfl⟩ e2)]
  rfl
theorem loop_at (ha : a < base.length) (hb : b < base.length) (hab : a ≠ b) {many : Int} : ∀ (l : List Int) (n : Nat) (env : Env) (cur mix : Int) (ext : Hs), l.length < n → l.length ≤ 1000 → env[0]? = some (some (.ref a)) → env[1]? = some (some (.int many)) → env.length = 5 →
    ∃ env' ext', whlH (fun env' => bnd (evE R env' dCond) testV) (fun env' => exSs R dBody env') n env (Wst base a b l cur cnt mix ext) = .ok (.nx env') (Wst base a b (fillP l cur mix).1 (fillP l cur mix).2.1 cnt (fillP l cur mix).2.2 ext') ∧ env'[0]? = some (some (.ref a)) ∧ env'[1]? = some (some (.int many)) ∧ env'.length = 5
  | l, 0, _, _, _, _, h, _, _, _, _ => by omega
  | l, n + 1, env, cur, mix, ext, hn, hl, he, h1, h5 => by
    obtain ⟨ext1, ec⟩ := cond_at (R := R) (cur := cur) (cnt := cnt) (mix := mix) (ext := ext) ha hb hab he hl
    unfold whlH
    rw [ec]
    cases l with
    | nil =>
      rw [show (decide (cur = 0) && !([] : List Int).isEmpty) = false by simp]
      exact ⟨env, ext1, rfl, he, h1, h5⟩
    | cons c r =>
      by_cases hc : cur = 0
      · rw [show (decide (cur = 0) && !(c :: r).isEmpty) = true by simp [hc]]
        dsimp only
        rw [body_at ha hb hab he (by omega)]
        dsimp only
        have hf : fillP (c :: r) cur mix = fillP r (if 10 ^ 18 ≤ (c.natAbs : Int) then c.natAbs else 0) ((mix * 8191 + c.natAbs + 3) % 2147483647) := by
          show (if cur = 0 then _ else _) = _
          rw [if_pos hc]
        rw [hf]
        exact loop_at ha hb hab r n _ _ _ ext1 (by simp at hn; omega) (by simp at hl; omega) (by rw [List.getElem?_set_ne (by decide)]; exact he) (by rw [List.getElem?_set_ne (by decide)]; exact h1) (by rw [List.length_set]; exact h5)
      · rw [show (decide (cur = 0) && !(c :: r).isEmpty) = false by simp [hc]]
        have hf : fillP (c :: r) cur mix = (c :: r, cur, mix) := by
          show (if cur = 0 then _ else _) = _
          rw [if_neg hc]
        rw [hf]
        exact ⟨env, ext1, rfl, he, h1, h5⟩
/-- the numbers that the draws are mixed of keep small -/
theorem fillP_mix : ∀ (l : List Int) (cur mix : Int), 0 ≤ mix → mix < 2147483647 → 0 ≤ cur → 0 ≤ (fillP l cur mix).2.2 ∧ (fillP l cur mix).2.2 < 2147483647 ∧ 0 ≤ (fillP l cur mix).2.1
  | [], cur, mix, h1, h2, h3 => ⟨h1, h2, h3⟩
  | c :: r, cur, mix, h1, h2, h3 => by
    show 0 ≤ (if cur = 0 then _ else (c :: r, cur, mix) : List Int × Int × Int).2.2 ∧ _
    by_cases hc : cur = 0
    · have hf : fillP (c :: r) cur mix = fillP r (if 10 ^ 18 ≤ (c.natAbs : Int) then c.natAbs else 0) ((mix * 8191 + c.natAbs + 3) % 2147483647) := by
        show (if cur = 0 then _ else _) = _
        rw [if_pos hc]
      have z := fillP_mix r (if 10 ^ 18 ≤ (c.natAbs : Int) then c.natAbs else 0) ((mix * 8191 + c.natAbs + 3) % 2147483647) (Int.emod_nonneg _ (by decide)) (Int.emod_lt_of_pos _ (by decide)) (by split <;> omega)
      show 0 ≤ (fillP (c :: r) cur mix).2.2 ∧ (fillP (c :: r) cur mix).2.2 < 2147483647 ∧ 0 ≤ (fillP (c :: r) cur mix).2.1
      rw [hf]
      exact z
    · have hf : fillP (c :: r) cur mix = (c :: r, cur, mix) := by
        show (if cur = 0 then _ else _) = _
        rw [if_neg hc]
      show 0 ≤ (fillP (c :: r) cur mix).2.2 ∧ (fillP (c :: r) cur mix).2.2 < 2147483647 ∧ 0 ≤ (fillP (c :: r) cur mix).2.1
      rw [hf]
      exact ⟨h1, h2, h3⟩
theorem fillP_len : ∀ (l : List Int) (cur mix : Int), (fillP l cur mix).1.length ≤ l.length
  | [], cur, mix => Nat.le_refl _
  | c :: r, cur, mix => by
    by_cases hc : cur = 0
    · have hf : fillP (c :: r) cur mix = fillP r (if 10 ^ 18 ≤ (c.natAbs : Int) then c.natAbs else 0) ((mix * 8191 + c.natAbs + 3) % 2147483647) := by
        show (if cur = 0 then _ else _) = _
        rw [if_pos hc]
      rw [hf]
      have := fillP_len r (if 10 ^ 18 ≤ (c.natAbs : Int) then c.natAbs else 0) ((mix * 8191 + c.natAbs + 3) % 2147483647)
      rw [List.length_cons]
      omega
    · have hf : fillP (c :: r) cur mix = (c :: r, cur, mix) := by
        show (if cur = 0 then _ else _) = _
        rw [if_neg hc]
      rw [hf]
      exact Nat.le_refl _
end
end Ih
end
section
set_option Elab.async false
set_option linter.all false
set_option maxHeartbeats 2000000
namespace Ih
open PySem
section
variable {base ext : Hs} {a b : Nat} {l : List Int} {cur cnt mix : Int} {R : Rt} {env : Env}
theorem ite_at {c : Ex} {x y : Sxs} {st st1 : Hs} {k : Bool} (h : bnd (evE R env c) testV st = .ok k st1) : exS R (.ite c x y) env st = (if k = true then exSs R x env else exSs R y env) st1 := by
  show tryE env (bnd (evE R env c) testV) _ st = _
  rw [tryE_at h]
theorem small_mul {i j : Int} (h : 0 ≤ i) (h2 : i < 2 ^ 64) : small64 i = true := by
  exact small64_iff.mpr ⟨by omega, h2⟩
theorem draw_body (ha : a < base.length) (hb : b < base.length) (hab : a ≠ b) {many r : Int} {l' : List Int} {cur' cnt' mix' : Int} (h : drawP many (l, cur, cnt, mix) = some (r, (l', cur', cnt', mix'))) {f : Fl → M HV} (hf : f = fun f => match f with
      | .rt v => ret v
      | .nx _ => ret .non
      | .ct _ => bad
      | .xc _ c p => fun st => .exc c p st) :
    ∃ ext', bnd (exSs R drawF.body [some (.ref a), some (.int many), none, none, none]) f (Wst base a b l cur cnt mix []) = .ok (.int r) (Wst base a b l' cur' cnt' mix' ext') := by
  unfold drawP at h
  dsimp only at h
  by_cases hc : 0 < many ∧ many < 1073741824 ∧ l.length ≤ 63 ∧ 0 ≤ cur ∧ 0 ≤ cnt ∧ cnt < 2 ^ 40 ∧ 0 ≤ mix ∧ mix < 2147483647
  · rw [if_pos hc] at h
    obtain ⟨c1, c2, c0, c3, c4, c5, c6, c7⟩ := hc
    obtain ⟨env0, henv⟩ : ∃ e : Env, e = [some (.ref a), some (.int many), none, none, none] := ⟨_, rfl⟩
    rw [← henv]
    have he : env0[0]? = some (some (.ref a)) := by rw [henv]; rfl
    have h1 : env0[1]? = some (some (.int many)) := by rw [henv]; rfl
    have h5 : env0.length = 5 := by rw [henv]; rfl
    -- the count
    have s1 : exS R (.sst (.var 0) (i_ 2) (.bin .add (sK 2) (i_ 1))) env0 (Wst base a b l cur cnt mix []) = .ok (.nx env0) (Wst base a b l cur (cnt + 1) mix []) :=
      st_seti ha hab he 2 ⟨2, rfl, rfl⟩ (bin_at (sK_at ha hab he 2 (.int cnt) rfl) i_at add_at)
    obtain ⟨env1, ext1, s2, e1, e2, e3⟩ := loop_at (R := R) (cnt := cnt + 1) ha hb hab (many := many) l whlN env0 cur mix [] (by show l.length < 1000000000000; omega) (by omega) he h1 h5
    have s2' : exS R (.whl dCond dBody) env0 (Wst base a b l cur (cnt + 1) mix []) = .ok (.nx env1) (Wst base a b (fillP l cur mix).1 (fillP l cur mix).2.1 (cnt + 1) (fillP l cur mix).2.2 ext1) := s2
    have hm := fillP_mix l cur mix c6 c7 c3
    generalize fillP l cur mix = F at h s2' hm
    obtain ⟨l2, cur2, mix2⟩ := F
    dsimp only at h s2' hm
    have s3 : bnd (evE R env1 (.cmp .gt (sK 1) (i_ 0))) testV (Wst base a b l2 cur2 (cnt + 1) mix2 ext1) = .ok (decide (0 < cur2)) (Wst base a b l2 cur2 (cnt + 1) mix2 ext1) := by
      have : evE R env1 (.cmp .gt (sK 1) (i_ 0)) (Wst base a b l2 cur2 (cnt + 1) mix2 ext1) = .ok (.bl (decide (0 < cur2))) (Wst base a b l2 cur2 (cnt + 1) mix2 ext1) := cmp_at (sK_at ha hab e1 1 (.int cur2) rfl) i_at rfl
      rw [bnd_at this]
      rfl
    have hall : exSs R drawF.body env0 (Wst base a b l cur cnt mix []) = exSs R (.cons (.ite (.cmp .gt (sK 1) (i_ 0)) dThen .nil) (.cons (.asg (.nm 4) dMix) (.cons (.ret dEnd) .nil))) env1 (Wst base a b l2 cur2 (cnt + 1) mix2 ext1) := by
      show exSs R (.cons (.sst (.var 0) (i_ 2) (.bin .add (sK 2) (i_ 1))) (.cons (.whl dCond dBody) _)) env0 _ = _
      rw [sxs_nx s1, sxs_nx s2']
    split at h
    · rename_i hz
      cases h
      refine ⟨ext1, ?_⟩
      -- a digit of a great cell
      have t1 : evE R env1 (.bin .mod (.bi .int (one (sK 1))) (.var 1)) (Wst base a b l' cur2 (cnt + 1) mix' ext1) = .ok (.int (cur2 % many)) (Wst base a b l' cur2 (cnt + 1) mix' ext1) := bin_at (bi_at (sK_at ha hab e1 1 (.int cur2) rfl) rfl) (var_at e2) (mod_at c1)
      have he3 : (env1.set 3 (some (HV.int (cur2 % many))))[0]? = some (some (.ref a)) := by rw [List.getElem?_set_ne (by decide)]; exact e1
      have he4 : (env1.set 3 (some (HV.int (cur2 % many))))[1]? = some (some (.int many)) := by rw [List.getElem?_set_ne (by decide)]; exact e2
      have he5 : (env1.set 3 (some (HV.int (cur2 % many))))[3]? = some (some (.int (cur2 % many))) := List.getElem?_set_self (by omega)
      have t2 : exSs R dThen env1 (Wst base a b l' cur2 (cnt + 1) mix' ext1) = .ok (.rt (.int (cur2 % many))) (Wst base a b l' (cur2 / many) (cnt + 1) mix' ext1) := by
        unfold dThen
        rw [sxs_nx (asg_at t1 (by omega)), sxs_nx (st_seti ha hab he3 1 (c2 := cur2 / many) (n2 := cnt + 1) (m2 := mix') ⟨1, rfl, rfl⟩ (bin_at (sK_at ha hab he3 1 (.int cur2) rfl) (var_at he4) (fdv_at c1 c2)))]
        show bnd (exS R (.ret (.var 3)) _) _ _ = _
        rw [bnd_at (ret_at (var_at he5))]
        rfl
      have t3 : exS R (.ite (.cmp .gt (sK 1) (i_ 0)) dThen .nil) env1 (Wst base a b l' cur2 (cnt + 1) mix' ext1) = .ok (.rt (.int (cur2 % many))) (Wst base a b l' (cur2 / many) (cnt + 1) mix' ext1) := by
        rw [ite_at s3, if_pos (decide_eq_true hz), t2]
      rw [bnd_at (f := f) (a := .rt (.int (cur2 % many))) (st' := Wst base a b l' (cur2 / many) (cnt + 1) mix' ext1) (by
        rw [hall]
        show bnd (exS R (.ite (.cmp .gt (sK 1) (i_ 0)) dThen .nil) env1) _ _ = _
        rw [bnd_at t3]
        rfl), hf]
      rfl
    · rename_i hz
      cases h
      refine ⟨ext1, ?_⟩
      have t3 : exS R (.ite (.cmp .gt (sK 1) (i_ 0)) dThen .nil) env1 (Wst base a b l' cur' (cnt + 1) mix' ext1) = .ok (.nx env1) (Wst base a b l' cur' (cnt + 1) mix' ext1) := by
        rw [ite_at s3, if_neg (by rw [decide_eq_false hz]; exact Bool.false_ne_true)]
        rfl
      obtain ⟨m1, m2, _⟩ := hm
      have t4 : evE R env1 dMix (Wst base a b l' cur' (cnt + 1) mix' ext1) = .ok (.int ((mix' + 7919 * (cnt + 1) + 104729) ^ 5 % 2147483629)) (Wst base a b l' cur' (cnt + 1) mix' ext1) :=
        bin_at (bi_at (bin_at (bin_at (bin_at (sK_at ha hab e1 3 (.int mix') rfl) (bin_at i_at (sK_at ha hab e1 2 (.int (cnt + 1)) rfl) (mul_at (.inl (by decide +kernel)))) add_at) i_at add_at) i_at (pow_at (by decide) (by decide) (by omega))) rfl) i_at (mod_at (by decide))
      have he3 : (env1.set 4 (some (HV.int ((mix' + 7919 * (cnt + 1) + 104729) ^ 5 % 2147483629))))[0]? = some (some (.ref a)) := by rw [List.getElem?_set_ne (by decide)]; exact e1
      have he4 : (env1.set 4 (some (HV.int ((mix' + 7919 * (cnt + 1) + 104729) ^ 5 % 2147483629))))[1]? = some (some (.int many)) := by rw [List.getElem?_set_ne (by decide)]; exact e2
      have he5 : (env1.set 4 (some (HV.int ((mix' + 7919 * (cnt + 1) + 104729) ^ 5 % 2147483629))))[4]? = some (some (.int ((mix' + 7919 * (cnt + 1) + 104729) ^ 5 % 2147483629))) := List.getElem?_set_self (by omega)
      generalize hM : (mix' + 7919 * (cnt + 1) + 104729) ^ 5 % 2147483629 = mm at *
      have mm1 : 0 ≤ mm := by rw [← hM]; exact Int.emod_nonneg _ (by decide)
      have mm2 : mm < 2147483629 := by rw [← hM]; exact Int.emod_lt_of_pos _ (by decide)
      have t5 : evE R (env1.set 4 (some (HV.int mm))) dEnd (Wst base a b l' cur' (cnt + 1) mix' ext1) = .ok (.int ((mm * 48271 + 30011 * (cnt + 1) + 29) ^ 3 % 1000000007 % many)) (Wst base a b l' cur' (cnt + 1) mix' ext1) :=
        bin_at (bin_at (bi_at (bin_at (bin_at (bin_at (bin_at (var_at he5) i_at (mul_at (.inr (by decide +kernel)))) (bin_at i_at (sK_at ha hab he3 2 (.int (cnt + 1)) rfl) (mul_at (.inl (by decide +kernel)))) add_at) i_at add_at) i_at (pow_at (by decide) (by decide) (by omega))) rfl) i_at (mod_at (by decide))) (var_at he4) (mod_at c1)
      rw [bnd_at (f := f) (a := .rt (.int ((mm * 48271 + 30011 * (cnt + 1) + 29) ^ 3 % 1000000007 % many))) (st' := Wst base a b l' cur' (cnt + 1) mix' ext1) (by
        rw [hall, sxs_nx t3, sxs_nx (asg_at t4 (by omega))]
        show bnd (exS R (.ret dEnd) _) _ _ = _
        rw [bnd_at (ret_at t5)]
        rfl), hf]
      rfl
  · rw [if_neg hc] at h
    cases h
/-- both defs, wherever they stand -/
theorem prm_ok {Q : Prm} {T : List Fn} (h1 : T[Q.strm]? = some strmF) (h2 : T[Q.draw]? = some drawF) : PrmOk Q T where
  strm := fun k ns st a ha => by
    unfold runH
    rw [h1]
    dsimp only
    rw [if_pos ⟨rfl, Nat.le_refl _⟩]
    have e1 : evE (runH T k) [some (.ref a)] (.bi .list (one (.var 0))) st = .ok (.ref st.length) (st ++ [.lst (ns.map .int)]) := by
      refine bi_at (var_at rfl) ?_
      simp only [biH, seqOf, ha]
      rfl
    have e2 : evEs (runH T k) [some (.ref a)] (.cons (.bi .list (one (.var 0))) (.cons (i_ 0) (.cons (i_ 0) (.cons (i_ 17) .nil)))) st = .ok [.ref st.length, .int 0, .int 0, .int 17] (st ++ [.lst (ns.map .int)]) := by
      show bnd (evE (runH T k) [some (.ref a)] (.bi .list (one (.var 0)))) _ st = _
      rw [bnd_at e1]
      rfl
    have e3 : evE (runH T k) [some (.ref a)] (.lst (.cons (.bi .list (one (.var 0))) (.cons (i_ 0) (.cons (i_ 0) (.cons (i_ 17) .nil))))) st = .ok (.ref (st.length + 1)) (st ++ [.lst (ns.map .int), .lst [.ref st.length, .int 0, .int 0, .int 17]]) := by
      show bnd (evEs (runH T k) [some (.ref a)] _) (fun xs => if xs.length ≤ sizeLine then alloc (.lst xs) else bad) st = _
      rw [bnd_at e2, if_pos (show [HV.ref st.length, HV.int 0, HV.int 0, HV.int 17].length ≤ sizeLine from (by decide : 4 ≤ sizeLine))]
      show Res.ok (HV.ref (st ++ [Cel.lst (ns.map .int)]).length) ((st ++ [Cel.lst (ns.map .int)]) ++ [Cel.lst [.ref st.length, .int 0, .int 0, .int 17]]) = _
      rw [List.length_append, List.append_assoc]
      rfl
    have e4 : exSs (runH T k) strmF.body [some (.ref a)] st = .ok (.rt (.ref (st.length + 1))) (st ++ [.lst (ns.map .int), .lst [.ref st.length, .int 0, .int 0, .int 17]]) := by
      show bnd (exS (runH T k) (.ret _) [some (.ref a)]) _ st = _
      rw [bnd_at (ret_at e3)]
      rfl
    exact bnd_at e4
  draw := fun k many st a b l cur cnt mix r l' cur' cnt' mix' hab ha hb h => by
    have la := lt_of_get ha
    have lb := lt_of_get hb
    have es := Wst_start ha hb
    obtain ⟨ext, e⟩ := draw_body (R := runH T k) la lb hab h rfl
    refine ⟨ext, ?_⟩
    unfold runH
    rw [h2]
    dsimp only
    rw [if_pos ⟨rfl, by decide⟩]
    rw [← es] at e
    exact e
end
end Ih
end
section
set_option Elab.async false
set_option linter.all false
set_option maxHeartbeats 1000000
namespace Ih
open PySem PySem.Spec PyProof.Rows L2
def Df.dd (d : Df) : He.DefD := ⟨(d.y, none), d.x, d.q, d.ar, d.body, d.sc, [], []⟩
def faOf (ds : List Df) (blt : List Str) : List He.Fa := (ds.map fun d => He.Fa.glo d.y) ++ blt.map He.Fa.free
def giOf (K : PySem.W.Frag) (ds : List Df) : Gi := ⟨fun n => match ds[n]? with
  | some d => He.fAd K (d.y, none)
  | none => 0, fun _ => 0, fun _ => none⟩
theorem facts_of {K : PySem.W.Frag} {h : Heap} {mg : Str → Option Value} {ds : List Df} {blt : List Str} (X : K.In h) (Gm : h.Ns mainGlobals mg) (c : He.SaysD (faOf ds blt) (ds.map Df.dd) K) : Facts (giOf K ds) K mg ds blt where
  def_ := fun n d hd => by
    obtain ⟨fd, F⟩ := c.def_ n (d := d.dd) (by rw [List.getElem?_map, hd]; rfl)
    have e : (giOf K ds).fA n = He.fAd K (d.y, none) := by
      show (match ds[n]? with
        | some d => He.fAd K (d.y, none)
        | none => 0) = _
      rw [hd]
    rw [e]
    exact ⟨fd, F⟩
  mgd := fun n d hd => by
    have e : (giOf K ds).fA n = He.fAd K (d.y, none) := by
      show (match ds[n]? with
        | some d => He.fAd K (d.y, none)
        | none => 0) = _
      rw [hd]
    rw [e]
    exact He.glo_ok X Gm (c.facts (f := .glo d.y) (List.mem_append_left _ (List.mem_map.mpr ⟨d, List.mem_of_getElem? hd, rfl⟩)))
  blt := fun x hx => He.free_ok X Gm (c.facts (f := .free x) (List.mem_append_right _ (List.mem_map.mpr ⟨x, List.contains_iff_mem.mp hx, rfl⟩)))
theorem cx_no {P : Program} {w : World} {o : List PySem.Env} {H : Hp} {s : Shared} {e : Value} {s' : Shared} (h : L2.CX P w o H s (fun _ _ _ => False) e s') : False := by
  obtain ⟨_, _, _, _, _, _, _, _, _, _, _, _, z⟩ := h
  exact z
/-- a promise where no exception is wished for -/
theorem fn_no {P : Program} {w : World} {K : PySem.W.Frag} {mg : Str → Option Value} {base : Heap} {k : Nat} {f : Addr} {fd : FuncData} {ps : List Str} {sp : Sp} (F : FnOk P w K mg base (L2.CX P w) k f fd ps sp) : FnOk P w K mg base CX0 k f fd ps (fun vs H Q E => sp vs H Q E ∧ E = fun _ _ _ => False) :=
  ⟨fun vs H Q E h => F.len vs H Q E h.1, fun A outer s H args us vs Q E hr he hb hv hs => by
    obtain ⟨h1, rfl⟩ := hs
    refine codeAny_mono (F.run A outer s H args us vs Q _ hr he hb hv h1) fun r s' hq => ?_
    cases r with
    | error e => exact (cx_no hq).elim
    | ok fl => cases fl <;> exact hq⟩
/-- what the walk's end asks of a law -/
theorem law_end {P : Program} {w : World} {K : PySem.W.Frag} {h : Heap} {mg : Str → Option Value} {ds : List Df} {blt : List Str} {n k : Nat} {d : Df} {Q : Prm} {fa : Addr} (X : K.In h) (Gm : h.Ns mainGlobals mg) (c : He.SaysD (faOf ds blt) (ds.map Df.dd) K)
    (hd : ds[n]? = some d) (hok : d.okB = true) (hps : d.ps = [("script" : Str)]) (hfa : mg d.y = some (.ref fa)) (h1 : (fnsOf blt ds)[Q.strm]? = some strmF) (h2 : (fnsOf blt ds)[Q.draw]? = some drawF)
    (hrun : ∀ ns : List Int, ns.length ≤ 63 → ∃ sm, runP Q (fnsOf blt ds) k n [.scr ns] none = .ok (.bl true) sm) :
    ∃ (K : PySem.W.Frag) (fd : FuncData) (sp : Sp), K.In h ∧ (∀ (s : Shared) (u : Value), BindsTo s fd ⟨[u], []⟩ [("script", u)]) ∧
        (∀ (H : Hp) (a : Addr) (ns : List Int), ns.length ≤ 63 → Only H → SqL K H a (ns.map V.int) → sp [.ref a] H (fun v _ => v = .bl true) fun _ _ _ => False) ∧
        ∀ base : Heap, K.In base → base.Ns mainGlobals mg → FnOk P w K mg base CX0 k fa fd ["script"] sp := by
  have F := facts_of X Gm c
  obtain ⟨fd, FD⟩ := F.def_ n d hd
  have e : fa = (giOf K ds).fA n := by
    have := F.mgd n d hd
    rw [hfa] at this
    cases this
    rfl
  subst e
  obtain ⟨pp, pd⟩ := funD_plain FD hok
  refine ⟨K, fd, _, X, fun s u => ?_, fun H a ns hl hO hS => ?_, fun base _ _ => fn_no (?_ : FnOk P w K mg base (L2.CX P w) k _ fd ["script"] (spH (giOf K ds) K (runH (fnsOf blt ds) k n) 1))⟩
  · have := bind_plain pp pd (us := [u]) (by rw [hps]; rfl)
    rw [hps] at this
    exact .of_eq this
  · obtain ⟨sm, hr⟩ := hrun ns hl
    obtain ⟨st', h⟩ := law_of_runP (prm_ok h1 h2) hr
    exact ⟨sp_script hO hS h, rfl⟩
  · have := fns_ok (P := P) (w := w) (base := base) F k n d fd hd hok FD
    rw [hps] at this
    exact this
end Ih
end
section
set_option Elab.async false
set_option linter.all false
set_option maxHeartbeats 1000000
namespace Ih
open PySem
/-- a comprehension whose turns change nothing -/
theorem comP_eq {tg : Tg} {own : List Nat} {cond : PM Bool} {elt : PM D} {s : Ps} (c : PIv → Bool) (f : PIv → D) : ∀ (items : List PIv) (k : Nat), (∀ x ∈ items, ∃ env', asgIP tg x s.env = some env' ∧ wipeP env' own = s.env ∧ cond { s with env := env' } = .ok (c x) { s with env := env' } ∧ (c x = true → elt { s with env := env' } = .ok (f x) { s with env := env' })) → k + items.length ≤ sizeLine →
    comP tg own cond elt k items s = .ok ((items.filter c).map f) s
  | [], k, _, _ => rfl
  | x :: r, k, h, hk => by
    obtain ⟨env', e1, e2, e3, e4⟩ := h x List.mem_cons_self
    have es : ({ s with env := wipeP env' own } : Ps) = s := by rw [e2]
    unfold comP
    rw [e1]
    dsimp only
    rw [e3]
    cases hc : c x with
    | false =>
      dsimp only
      rw [es, comP_eq c f r k (fun y hy => h y (List.mem_cons_of_mem _ hy)) (by rw [List.length_cons] at hk; omega), List.filter_cons_of_neg (by rw [hc]; exact Bool.false_ne_true)]
    | true =>
      dsimp only
      rw [e4 hc]
      dsimp only
      rw [if_pos (by rw [List.length_cons] at hk; omega), es]
      unfold pbnd
      rw [comP_eq c f r (k + 1) (fun y hy => h y (List.mem_cons_of_mem _ hy)) (by rw [List.length_cons] at hk; omega), List.filter_cons_of_pos hc]
      rfl
def finP : PRes PFl → FRes
  | .ok (.rt d) s => .ok d s.sm
  | .ok .nx s => .ok .non s.sm
  | .ok (.xc c p) s => .exc c p s.sm
  | _ => .bad
def envP (F : Fn) (ds : List D) : List (Option PV) := ds.map (fun d => some (.sh d)) ++ List.replicate (F.ns - F.ar) none
theorem runP_at {Q : Prm} {T : List Fn} {k g : Nat} {F : Fn} {ds : List D} {sm : Sst} (h1 : g ≠ Q.strm) (h2 : g ≠ Q.draw) (hT : T[g]? = some F) (hl : ds.length = F.ar ∧ F.ar ≤ F.ns) : runP Q T (k + 1) g ds sm = finP (exPs (runP Q T k) F.body ⟨envP F ds, sm⟩) := by
  unfold runP
  rw [if_neg h1, if_neg h2, hT]
  dsimp only
  rw [if_pos hl]
  unfold finP envP
  rfl
end Ih
end
section
set_option Elab.async false
set_option linter.all false
namespace Ih
open PySem
def f_is_list : Fn := ⟨1, 1, (.cons (.ret (.isi (.var 0) [.lst, .tup])) .nil)⟩
def f_is_whole : Fn := ⟨1, 1, (.cons (.ret (.and (.isi (.var 0) [.int]) (.nt (.isi (.var 0) [.bl])))) .nil)⟩
def f_has : Fn := ⟨2, 2, (.cons (.ret (.cmp .eq (.bin .mod (.bin .sub (.var 1) (.sub (.var 0) (.int 0))) (.sub (.var 0) (.int 1))) (.int 0))) .nil)⟩
def D.plain : D → Bool | .fn _ => false | .scr _ => false | .stm => false | _ => true
def isSeq : D → Bool | .lst _ => true | .tup _ => true | _ => false
def isInt : D → Bool | .int _ => true | _ => false
theorem l_is_list {R : Rp} {d : D} {sm : Sst} (h : d.plain = true) : finP (exPs R f_is_list.body ⟨envP f_is_list [d], sm⟩) = .ok (.bl (isSeq d)) sm := by
  cases d <;> first | rfl | cases h
theorem l_is_whole {R : Rp} {d : D} {sm : Sst} (h : d.plain = true) : finP (exPs R f_is_whole.body ⟨envP f_is_whole [d], sm⟩) = .ok (.bl (isInt d)) sm := by
  cases d <;> first | rfl | cases h
theorem l_has {R : Rp} {a b n : Int} {sm : Sst} (h : 0 < b) : finP (exPs R f_has.body ⟨envP f_has [.tup [.int a, .int b], .int n], sm⟩) = .ok (.bl ((n - a) % b == 0)) sm := by
  simp [f_has, exPs, exP, evF, tryP, shr, pbnd, pret, opd, rdO, rdV, envP, finP, pof, subP, L2.atI, L2.ixN, binP, h, cmpP, D.look, D.need, D.py, SeqAt.shaped, PyData.canLay0, PyData.depth, deepN, PyData.eqv, PV.d]
end Ih
end
section
set_option Elab.async false
set_option linter.all false
set_option maxHeartbeats 1000000
namespace Ih
open PySem
/-- a stream of which at most b numbers are drawn -/
def SmOk (b : Int) (sm : Sst) : Prop := ∃ l cur cnt mix, sm = some (l, cur, cnt, mix) ∧ l.length ≤ 63 ∧ 0 ≤ cur ∧ 0 ≤ cnt ∧ cnt ≤ b ∧ 0 ≤ mix ∧ mix < 2147483647
theorem SmOk.le {b c : Int} {sm : Sst} (h : SmOk b sm) (k : b ≤ c) : SmOk c sm := by
  obtain ⟨l, cur, cnt, mix, e, h1, h2, h3, h4, h5⟩ := h
  exact ⟨l, cur, cnt, mix, e, h1, h2, h3, by omega, h5⟩
theorem draw_ok {b many : Int} {sm : Sst} (h : SmOk b sm) (hb : b < 2 ^ 40) (h1 : 0 < many) (h2 : many < 1073741824) : ∃ r sm', drwP [.stm, .int many] sm = .ok (.int r) sm' ∧ 0 ≤ r ∧ r < many ∧ SmOk (b + 1) sm' := by
  obtain ⟨l, cur, cnt, mix, rfl, k1, k2, k3, k4, k5, k6⟩ := h
  have hm := fillP_mix l cur mix k5 k6 k2
  have hl := fillP_len l cur mix
  unfold drwP drawP
  dsimp only
  rw [if_pos ⟨h1, h2, k1, k2, k3, by omega, k5, k6⟩]
  generalize fillP l cur mix = F at hm hl
  obtain ⟨l2, cur2, mix2⟩ := F
  dsimp only at hm hl ⊢
  obtain ⟨m1, m2, m3⟩ := hm
  by_cases hz : 0 < cur2
  · rw [if_pos hz]
    exact ⟨_, _, rfl, Int.emod_nonneg _ (by omega), Int.emod_lt_of_pos _ h1, l2, _, _, _, rfl, by omega, Int.ediv_nonneg m3 (by omega), by omega, by omega, m1, m2⟩
  · rw [if_neg hz]
    exact ⟨_, _, rfl, Int.emod_nonneg _ (by omega), Int.emod_lt_of_pos _ h1, l2, _, _, _, rfl, by omega, m3, by omega, by omega, m1, m2⟩
end Ih
end
section
set_option Elab.async false
set_option linter.all false
set_option maxHeartbeats 1000000
namespace Ih
open PySem
/-- a def that draws nothing and tells f -/
def Tells (R : Rp) (g : Nat) (P : List D → Prop) (f : List D → D) : Prop := ∀ ds sm, P ds → R g ds sm = .ok (f ds) sm
def f_is_number (w : Nat) : Fn := ⟨1, 1, (.cons (.ret (.and (.call w (.cons (.var 0) .nil)) (.cmp .ge (.var 0) (.int 0)))) .nil)⟩
def f_is_row (l : Nat) : Fn := ⟨2, 2, (.cons (.ret (.and (.call l (.cons (.var 0) .nil)) (.cmp .eq (.bi .len (.cons (.var 0) .nil)) (.var 1)))) .nil)⟩
def isNum : D → Bool | .int i => decide (0 ≤ i) | _ => false
theorem l_is_number {R : Rp} {w : Nat} {d : D} {sm : Sst} (hw : ∀ d sm, d.plain = true → R w [d] sm = .ok (.bl (isInt d)) sm) (h : d.plain = true) : finP (exPs R (f_is_number w).body ⟨envP (f_is_number w) [d], sm⟩) = .ok (.bl (isNum d)) sm := by
  have hd := hw d sm h
  cases d with
  | int i => simp [f_is_number, exPs, exP, evF, evKs, tryP, shr, pbnd, pret, opd, rdO, rdOs, rdV, rdVs, envP, finP, pof, lend, hd, isInt, D.atom, truP, cmpP, isNum, PV.d]
  | _ => first
    | (cases h; done)
    | simp [f_is_number, exPs, exP, evF, evKs, tryP, shr, pbnd, pret, opd, rdO, rdOs, rdV, rdVs, envP, finP, pof, lend, hd, isInt, D.atom, truP, cmpP, isNum, PV.d]
theorem l_is_row {R : Rp} {l : Nat} {d : D} {n : Int} {sm : Sst} (hl : ∀ d sm, d.plain = true → R l [d] sm = .ok (.bl (isSeq d)) sm) (h : d.plain = true) : finP (exPs R (f_is_row l).body ⟨envP (f_is_row l) [d, .int n], sm⟩) = .ok (.bl (match d.items with
    | some xs => ((xs.length : Int) == n)
    | none => false)) sm := by
  have hd := hl d sm h
  cases d with
  | lst xs => simp [f_is_row, exPs, exP, evF, evKs, tryP, shr, pbnd, pret, opd, rdO, rdOs, rdV, rdVs, envP, finP, pof, lend, hd, isSeq, D.atom, truP, cmpP, biP, D.items, PV.d, D.look, D.need, D.py, SeqAt.shaped, PyData.canLay0, PyData.depth, deepN, PyData.eqv]
  | tup xs => simp [f_is_row, exPs, exP, evF, evKs, tryP, shr, pbnd, pret, opd, rdO, rdOs, rdV, rdVs, envP, finP, pof, lend, hd, isSeq, D.atom, truP, cmpP, biP, D.items, PV.d, D.look, D.need, D.py, SeqAt.shaped, PyData.canLay0, PyData.depth, deepN, PyData.eqv]
  | _ => first
    | (cases h; done)
    | simp [f_is_row, exPs, exP, evF, evKs, tryP, shr, pbnd, pret, opd, rdO, rdOs, rdV, rdVs, envP, finP, pof, lend, hd, isSeq, D.atom, truP, cmpP, D.items, PV.d]
def f_kept_ladder (r n w : Nat) : Fn := ⟨1, 1, (.cons (.ite (.or (.nt (.call r (.cons (.var 0) (.cons (.int 2) .nil)))) (.or (.nt (.call n (.cons (.sub (.var 0) (.int 0)) .nil))) (.or (.nt (.call w (.cons (.sub (.var 0) (.int 1)) .nil))) (.cmp .ge (.sub (.var 0) (.int 0)) (.sub (.var 0) (.int 1)))))) (.cons (.ret .non) .nil) .nil) (.cons (.ret (.bi .tuple (.cons (.var 0) .nil))) .nil))⟩
/-- a ladder, as a row of two ints -/
def ladOf (d : D) : Option (Int × Int) := match d.items with
  | some [.int a, .int b] => if 0 ≤ a ∧ a < b then some (a, b) else none
  | _ => none
def ladD : Option (Int × Int) → D
  | some (a, b) => .tup [.int a, .int b]
  | none => .non
/-- every part of a tree is plain -/
def allPl : List D → Bool
  | [] => true
  | x :: r => x.plain && allPl r
theorem l_kept_ladder {R : Rp} {r n w : Nat} {d : D} {sm : Sst} (hr : ∀ d n sm, d.plain = true → R r [d, .int n] sm = .ok (.bl (match d.items with
    | some xs => ((xs.length : Int) == n)
    | none => false)) sm) (hn : ∀ d sm, d.plain = true → R n [d] sm = .ok (.bl (isNum d)) sm) (hw : ∀ d sm, d.plain = true → R w [d] sm = .ok (.bl (isInt d)) sm) (h : d.plain = true) (hi : ∀ xs, d.items = some xs → allPl xs = true) :
    finP (exPs R (f_kept_ladder r n w).body ⟨envP (f_kept_ladder r n w) [d], sm⟩) = .ok (ladD (ladOf d)) sm := by
  have h0 := hr d 2 sm h
  have two : ∀ x y : D, d = .lst [x, y] ∨ d = .tup [x, y] → finP (exPs R (f_kept_ladder r n w).body ⟨envP (f_kept_ladder r n w) [d], sm⟩) = .ok (ladD (ladOf d)) sm := fun x y hd => by
    have hp : (x.plain && (y.plain && true)) = true := by rcases hd with rfl | rfl <;> exact hi _ rfl
    rw [Bool.and_true, Bool.and_eq_true] at hp
    have hx := hn x sm hp.1
    have hy := hw y sm hp.2
    rcases hd with rfl | rfl <;> simp only [D.items, List.length_cons, List.length_nil] at h0 <;>
      (cases x <;> first
        | (simp [f_kept_ladder, exPs, exP, evF, evKs, tryP, tst, shr, pbnd, pret, opd, rdO, rdOs, rdV, rdVs, envP, finP, pof, lend, h0, hx, isNum, D.atom, truP, subP, L2.atI, L2.ixN, PV.d, ladOf, ladD, D.items]; done)
        | skip)
    all_goals
      rename_i i
      by_cases hi0 : 0 ≤ i
      · cases y with
        | int j =>
          by_cases hij : i < j
          · have hji : ¬ j ≤ i := by omega
            simp [f_kept_ladder, exPs, exP, evF, evKs, tryP, tst, shr, pbnd, pret, opd, rdO, rdOs, rdV, rdVs, envP, finP, pof, lend, h0, hx, hy, isNum, isInt, D.atom, truP, subP, L2.atI, L2.ixN, PV.d, ladOf, ladD, D.items, hi0, hij, hji, cmpP, biP]
          · have hji : j ≤ i := by omega
            simp [f_kept_ladder, exPs, exP, evF, evKs, tryP, tst, shr, pbnd, pret, opd, rdO, rdOs, rdV, rdVs, envP, finP, pof, lend, h0, hx, hy, isNum, isInt, D.atom, truP, subP, L2.atI, L2.ixN, PV.d, ladOf, ladD, D.items, hi0, hij, hji, cmpP, biP]
        | _ => simp [f_kept_ladder, exPs, exP, evF, evKs, tryP, tst, shr, pbnd, pret, opd, rdO, rdOs, rdV, rdVs, envP, finP, pof, lend, h0, hx, hy, isNum, isInt, D.atom, truP, subP, L2.atI, L2.ixN, PV.d, ladOf, ladD, D.items, hi0, cmpP, biP]
      · have hl : ladOf (.lst [.int i, y]) = none ∧ ladOf (.tup [.int i, y]) = none := by cases y <;> simp [ladOf, D.items, hi0]
        simp [f_kept_ladder, exPs, exP, evF, evKs, tryP, tst, shr, pbnd, pret, opd, rdO, rdOs, rdV, rdVs, envP, finP, pof, lend, h0, hx, isNum, D.atom, truP, subP, L2.atI, L2.ixN, PV.d, hl, ladD, hi0]
  have no : (∀ x y, d ≠ .lst [x, y]) → (∀ x y, d ≠ .tup [x, y]) → R r [d, .int 2] sm = .ok (.bl false) sm ∧ ladOf d = none := fun n1 n2 => by
    rw [h0]
    cases d with
    | lst xs =>
      match xs with
      | [x, y] => exact absurd rfl (n1 x y)
      | [] => exact ⟨rfl, rfl⟩
      | [x] => exact ⟨rfl, by cases x <;> rfl⟩
      | x :: y :: z :: t => exact ⟨by simp [D.items]; omega, by cases x <;> cases y <;> rfl⟩
    | tup xs =>
      match xs with
      | [x, y] => exact absurd rfl (n2 x y)
      | [] => exact ⟨rfl, rfl⟩
      | [x] => exact ⟨rfl, by cases x <;> rfl⟩
      | x :: y :: z :: t => exact ⟨by simp [D.items]; omega, by cases x <;> cases y <;> rfl⟩
    | _ => exact ⟨rfl, rfl⟩
  by_cases q1 : ∃ x y, d = .lst [x, y]
  · obtain ⟨x, y, e⟩ := q1
    exact two x y (.inl e)
  · by_cases q2 : ∃ x y, d = .tup [x, y]
    · obtain ⟨x, y, e⟩ := q2
      exact two x y (.inr e)
    · obtain ⟨e1, e2⟩ := no (fun x y e => q1 ⟨x, y, e⟩) fun x y e => q2 ⟨x, y, e⟩
      rw [e2]
      simp [f_kept_ladder, exPs, exP, evF, evKs, tryP, tst, shr, pbnd, pret, opd, rdO, rdOs, rdV, rdVs, envP, finP, pof, lend, e1, D.atom, truP, PV.d, ladD]
end Ih
end
section
set_option Elab.async false
set_option linter.all false
set_option maxHeartbeats 1000000
namespace Ih
open PySem
def ladsD (ls : List (Option (Int × Int))) : D := .lst (ls.map ladD)
theorem lads_py : ∀ ls : List (Option (Int × Int)), D.pys (ls.map ladD) = some (ls.map fun o => match o with
    | some (a, b) => PyData.tuple [.int a, .int b]
    | none => .none)
  | [] => rfl
  | none :: r => by
    rw [List.map_cons, D.pys, lads_py r]
    rfl
  | some (a, b) :: r => by
    rw [List.map_cons, D.pys, lads_py r]
    rfl
theorem lads_need : ∀ ls : List (Option (Int × Int)), D.needs (ls.map ladD) ≤ ls.length + 5
  | [] => by decide
  | none :: r => by
    have := lads_need r
    rw [List.map_cons, D.needs, List.length_cons]
    have : D.need (ladD none) = 1 := rfl
    omega
  | some (a, b) :: r => by
    have := lads_need r
    rw [List.map_cons, D.needs, List.length_cons]
    have : D.need (ladD (some (a, b))) = 4 := rfl
    omega
/-- a list of ladders, as data -/
def ladsPy (ls : List (Option (Int × Int))) : List PyData := ls.map fun o => match o with
    | some (a, b) => PyData.tuple [.int a, .int b]
    | none => .none
theorem lads_shaped : ∀ ls : List (Option (Int × Int)), PyData.canLayAll0 (ladsPy ls) = true ∧ PyData.depthAll (ladsPy ls) ≤ 1
  | [] => ⟨rfl, Nat.zero_le _⟩
  | none :: r => by
    obtain ⟨h1, h2⟩ := lads_shaped r
    show PyData.canLayAll0 (PyData.none :: ladsPy r) = true ∧ PyData.depthAll (PyData.none :: ladsPy r) ≤ 1
    rw [PyData.canLayAll0, PyData.depthAll, h1]
    exact ⟨rfl, Nat.max_le.mpr ⟨Nat.zero_le _, h2⟩⟩
  | some (a, b) :: r => by
    obtain ⟨h1, h2⟩ := lads_shaped r
    show PyData.canLayAll0 (PyData.tuple [.int a, .int b] :: ladsPy r) = true ∧ PyData.depthAll (PyData.tuple [.int a, .int b] :: ladsPy r) ≤ 1
    rw [PyData.canLayAll0, PyData.depthAll, h1]
    exact ⟨rfl, Nat.max_le.mpr ⟨Nat.le_refl _, h2⟩⟩
theorem lads_look {ls : List (Option (Int × Int))} (h : ls.length ≤ 1000000) : D.look (ladsD ls) = some (.list (ladsPy ls)) := by
  have hn : D.need (ladsD ls) ≤ deepN := by
    have := lads_need ls
    show D.needs (ls.map ladD) + 1 ≤ 20000000
    omega
  have hp : D.py (ladsD ls) = some (.list (ladsPy ls)) := by
    show (D.pys (ls.map ladD)).map PyData.list = _
    rw [lads_py]
    rfl
  obtain ⟨h1, h2⟩ := lads_shaped ls
  have hs : SeqAt.shaped (.list (ladsPy ls)) = true := by
    unfold SeqAt.shaped
    rw [Bool.and_eq_true]
    refine ⟨by rw [PyData.canLay0]; exact h1, decide_eq_true (by rw [PyData.depth]; omega)⟩
  unfold D.look
  rw [if_pos hn, hp]
  dsimp only
  rw [if_pos hs]
end Ih
end
section
set_option Elab.async false
set_option linter.all false
set_option maxHeartbeats 1000000
namespace Ih
open PySem
section
variable {R : Rp}
/-- a comprehension, closed -/
def comW (R : Rp) (tg : Tg) (own : List Nat) (cs : Exs) (e : Ex) (items : List PIv) : PM PV := fun s => if tgIn own tg then (match comP tg own (evCs' R cs) (shr (evF R e)) 0 items { s with env := wipeP s.env own } with
      | .ok ds s1 => .ok (.ow ds) { s1 with env := backP s.env s1.env own }
      | _ => .bad) else .bad
def forW (R : Rp) (tg : Tg) (b : Sxs) (items : List PIv) : PM PFl := forP tg (exPs R b) items
def whlW (R : Rp) (c : Ex) (b : Sxs) (n : Nat) : PM PFl := whlP (tst c (evF R c)) (exPs R b) n
theorem v_var {i : Nat} : evF R (.var i) = varP i := (rfl)
theorem v_non : evF R .non = pret (.sh .non) := (rfl)
theorem v_bl {b : Bool} : evF R (.bl b) = pret (.sh (.bl b)) := (rfl)
theorem v_int {i : Int} : evF R (.int i) = pret (.sh (.int i)) := (rfl)
theorem v_str {s : Str} : evF R (.str s) = pret (.sh (.str s)) := (rfl)
theorem v_bin {op : Bop} {a b : Ex} : evF R (.bin op a b) = pbnd (opd a (evF R a)) fun x => pbnd (opd b (evF R b)) fun y => pbnd (rdO x) fun u => pbnd (rdO y) fun v => pof (binP op u v) := (rfl)
theorem v_neg {a : Ex} : evF R (.neg a) = pbnd (shr (evF R a)) fun x => match x with
    | .int i => pret (.sh (.int (-i)))
    | _ => pbad := (rfl)
theorem v_nt {a : Ex} : evF R (.nt a) = pbnd (tst a (evF R a)) fun k => pret (.sh (.bl (!k))) := (rfl)
theorem v_and {a b : Ex} : evF R (.and a b) = pbnd (shr (evF R a)) fun x => pbnd (pof (truP x)) fun k => if k = true then pbnd (shr (evF R b)) fun y => pret (.sh y) else pret (.sh x) := (rfl)
theorem v_or {a b : Ex} : evF R (.or a b) = pbnd (shr (evF R a)) fun x => pbnd (pof (truP x)) fun k => if k = true then pret (.sh x) else pbnd (shr (evF R b)) fun y => pret (.sh y) := (rfl)
theorem v_ife {c a b : Ex} : evF R (.ife c a b) = pbnd (tst c (evF R c)) fun k => if k = true then evF R a else evF R b := (rfl)
theorem v_cmp {op : Cop} {a b : Ex} : evF R (.cmp op a b) = pbnd (opd a (evF R a)) fun x => pbnd (opd b (evF R b)) fun y => pbnd (rdO x) fun u => pbnd (rdO y) fun v => pbnd (pof (cmpP op u v)) fun k => pret (.sh (.bl k)) := (rfl)
theorem v_cmp2 {o1 o2 : Cop} {a b c : Ex} : evF R (.cmp2 o1 o2 a b c) = pbnd (opd a (evF R a)) fun x => pbnd (opd b (evF R b)) fun y => pbnd (rdO x) fun u => pbnd (rdO y) fun v => pbnd (pof (cmpP o1 u v)) fun k => if k = true then pbnd (opd c (evF R c)) fun z => pbnd (rdO y) fun v => pbnd (rdO z) fun w => pbnd (pof (cmpP o2 v w)) fun k => pret (.sh (.bl k)) else pret (.sh (.bl false)) := (rfl)
theorem v_sub {a i : Ex} : evF R (.sub a i) = pbnd (opd a (evF R a)) fun x => pbnd (shr (evF R i)) fun y => pbnd (rdO x) fun u => pbnd (pof (subP u y)) fun d => pret (.sh d) := (rfl)
theorem v_slc {a : Ex} {lo hi : Exo} : evF R (.slc a lo hi) = pbnd (opd a (evF R a)) fun x => pbnd (evPO R lo) fun l => pbnd (evPO R hi) fun h => pbnd (rdO x) fun u => pof (slcP u l h) := (rfl)
theorem v_rev {a : Ex} : evF R (.rev a) = pbnd (opd a (evF R a)) fun x => pbnd (rdO x) fun u => match u with
    | .lst xs => pret (.ow xs.reverse)
    | _ => pbad := (rfl)
theorem v_stpL {a : Ex} {lo hi : Exo} : evF R (.stpL a lo hi) = pbnd (opd a (evF R a)) fun x => pbnd (evPO R lo) fun l => pbnd (evPO R hi) fun h => pbnd (rdO x) fun u => pof (stpP u l h) := (rfl)
theorem v_tup {es : Exs} : evF R (.tup es) = pbnd (evPs R es) fun xs => if xs.length ≤ sizeLine then pret (.sh (.tup xs)) else pbad := (rfl)
theorem v_lst {es : Exs} : evF R (.lst es) = pbnd (evPs R es) fun xs => if xs.length ≤ sizeLine then pret (.ow xs) else pbad := (rfl)
theorem v_dic0 : evF R .dic0 = pret (.sh .dic0) := (rfl)
theorem v_call {g : Nat} {es : Exs} : evF R (.call g es) = pbnd (evKs R es) fun os => pbnd (rdOs os) fun ds => lend os (R g ds) := (rfl)
theorem v_callK {g : Nat} {es : Exs} {perm : List Nat} : evF R (.callK g es perm) = pbnd (evKs R es) fun os => pbnd (rdOs os) fun ds => lend os (R g (perm.map fun i => ds.getD i .non)) := (rfl)
theorem v_bi {b : Bi} {es : Exs} : evF R (.bi b es) = pbnd (evKs R es) fun os => pbnd (rdOs os) fun ds => pof (biP b ds) := (rfl)
theorem v_isi {a : Ex} {ts : List Ty} : evF R (.isi a ts) = pbnd (opd a (evF R a)) fun x => pbnd (rdO x) fun u => pbnd (pof (isiP u ts)) fun k => pret (.sh (.bl k)) := (rfl)
theorem v_met {m : Me} {i : Nat} {es : Exs} : evF R (.met m (.var i) es) = fun s => (match s.env[i]? with
      | some (some (.ow _)) => pbnd (evMs R m es) (fun ds => fun s => match s.env[i]? with
        | some (some (.ow xs)) => (match metP m xs ds with
          | some (d, ys) => .ok (.sh d) { s with env := s.env.set i (some (.ow ys)) }
          | none => .bad)
        | _ => .bad) s
      | _ => .bad) := (rfl)
theorem v_com {tg : Tg} {it : It} {cs : Exs} {e : Ex} {own : List Nat} : evF R (.com tg it cs e own) = pbnd (evW R (occB cs e) it) fun items => comW R tg own cs e items := (rfl)
theorem x_ex {e : Ex} : exP R (.ex e) = tryP (evF R e) fun _ => pret .nx := (rfl)
theorem x_asg {i : Nat} {e : Ex} : exP R (.asg (.nm i) e) = tryP (evF R e) fun v => pbnd (setP i v) fun _ => pret .nx := (rfl)
theorem x_asgT {ts : List Tg} {e : Ex} : exP R (.asg (.tp ts) e) = tryP (shr (evF R e)) fun d => fun s => match asgP (.tp ts) d s.env with
      | some env' => .ok .nx { s with env := env' }
      | none => .bad := (rfl)
theorem x_par {i j : Nat} {a b : Ex} : exP R (.par i j a b) = if i = j then pbad else tryP (evF R a) fun x => tryP (evF R b) fun y => pbnd (setP i x) fun _ => pbnd (setP j y) fun _ => pret .nx := (rfl)
theorem x_ret {e : Ex} : exP R (.ret e) = tryP (shr (evF R e)) fun v => pret (.rt v) := (rfl)
theorem x_retN : exP R .retN = pret (.rt .non) := (rfl)
theorem x_ite {c : Ex} {a b : Sxs} : exP R (.ite c a b) = tryP (tst c (evF R c)) fun k => if k = true then exPs R a else exPs R b := (rfl)
theorem x_for {tg : Tg} {it : It} {b : Sxs} : exP R (.forE tg it b) = tryP (evW R (fun i => occT i tg || occSs i b) it) fun items => forW R tg b items := (rfl)
theorem x_whl {c : Ex} {b : Sxs} : exP R (.whl c b) = whlW R c b whlN := (rfl)
theorem x_pas : exP R .pas = pret .nx := (rfl)
theorem x_con : exP R .con = pret .ct := (rfl)
theorem xs_nil : exPs R .nil = pret .nx := (rfl)
theorem xs_cons {s : Sx} {ss : Sxs} : exPs R (.cons s ss) = pbnd (exP R s) fun f => match f with
    | .nx => exPs R ss
    | f => pret f := (rfl)
theorem sz_eq : sizeLine = 16777216 := (rfl)
theorem lend_s {os : List Od} {call : Sst → FRes} {s : Ps} : lend os call s = match call s.sm with
  | .ok d sm => .ok (.sh d) ⟨if d.atom then s.env else frzE os s.env, sm⟩
  | .exc c p sm => .exc c p ⟨frzE os s.env, sm⟩
  | .bad => .bad := by
  unfold lend
  generalize call s.sm = F
  cases F with
  | ok d sm =>
    dsimp only
    split <;> rfl
  | exc c p sm => rfl
  | bad => rfl
section
variable {i : Int} {b : Bool} {z : Str} {xs : List D} {n : Nat} {ts : List Ty} {ns : List Int}
theorem at_non : D.atom .non = true := (rfl)
theorem at_bl : D.atom (.bl b) = true := (rfl)
theorem at_int : D.atom (.int i) = true := (rfl)
theorem at_str : D.atom (.str z) = true := (rfl)
theorem at_lst : D.atom (.lst xs) = false := (rfl)
theorem at_tup : D.atom (.tup xs) = false := (rfl)
theorem at_dic0 : D.atom .dic0 = false := (rfl)
theorem at_stm : D.atom .stm = false := (rfl)
theorem pd_sh {d : D} : PV.d (.sh d) = d := (rfl)
theorem pd_ow : PV.d (.ow xs) = .lst xs := (rfl)
theorem it_lst : D.items (.lst xs) = some xs := (rfl)
theorem it_tup : D.items (.tup xs) = some xs := (rfl)
theorem it_non : D.items .non = none := (rfl)
theorem it_bl : D.items (.bl b) = none := (rfl)
theorem it_int : D.items (.int i) = none := (rfl)
theorem it_str : D.items (.str z) = none := (rfl)
theorem it_dic0 : D.items .dic0 = none := (rfl)
theorem tr_non : truP .non = some false := (rfl)
theorem tr_bl : truP (.bl b) = some b := (rfl)
theorem tr_int : truP (.int i) = some (i != 0) := (rfl)
theorem tr_lst : truP (.lst xs) = some (!xs.isEmpty) := (rfl)
theorem tr_tup : truP (.tup xs) = some (!xs.isEmpty) := (rfl)
theorem tr_dic0 : truP .dic0 = some false := (rfl)
theorem is_non : isiP .non ts = some false := (rfl)
theorem is_bl : isiP (.bl b) ts = some (ts.any (isTy .bl)) := (rfl)
theorem is_int : isiP (.int i) ts = some (ts.any (isTy .int)) := (rfl)
theorem is_str : isiP (.str z) ts = some (ts.any (isTy .str)) := (rfl)
theorem is_lst : isiP (.lst xs) ts = some (ts.any (isTy .lst)) := (rfl)
theorem is_tup : isiP (.tup xs) ts = some (ts.any (isTy .tup)) := (rfl)
theorem is_dic0 : isiP .dic0 ts = some (ts.any (isTy .dic)) := (rfl)
theorem nn_non : D.isNon .non = true := (rfl)
theorem nn_bl : D.isNon (.bl b) = false := (rfl)
theorem nn_int : D.isNon (.int i) = false := (rfl)
theorem nn_str : D.isNon (.str z) = false := (rfl)
theorem nn_lst : D.isNon (.lst xs) = false := (rfl)
theorem nn_tup : D.isNon (.tup xs) = false := (rfl)
theorem nn_dic0 : D.isNon .dic0 = false := (rfl)
theorem cm_is {d : D} : cmpP .is d .non = some d.isNon := by cases d <;> rfl
theorem cm_isn {d : D} : cmpP .isn d .non = some (!d.isNon) := by cases d <;> rfl
theorem cm_lt {i j : Int} : cmpP .lt (.int i) (.int j) = some (decide (i < j)) := (rfl)
theorem cm_le {i j : Int} : cmpP .le (.int i) (.int j) = some (decide (i ≤ j)) := (rfl)
theorem cm_gt {i j : Int} : cmpP .gt (.int i) (.int j) = some (decide (j < i)) := (rfl)
theorem cm_ge {i j : Int} : cmpP .ge (.int i) (.int j) = some (decide (j ≤ i)) := (rfl)
theorem lk_non : D.look .non = some .none := (rfl)
theorem lk_bl : D.look (.bl b) = some (.bool b) := (rfl)
theorem lk_int : D.look (.int i) = some (.int i) := (rfl)
theorem lk_str (h : PyData.strOk z = true) : D.look (.str z) = some (.str z) := by
  have e : SeqAt.shaped (.str z) = true := by
    show (PyData.strOk z && _) = true
    rw [h]
    rfl
  show (if 1 ≤ deepN then (if SeqAt.shaped (.str z) = true then some (PyData.str z) else none) else none) = _
  rw [if_pos (by decide), if_pos e]
theorem lk_nil : D.look (.lst []) = some (.list []) := (rfl)
theorem cm_eqi {i j : Int} : cmpP .eq (.int i) (.int j) = some (i == j) := (rfl)
theorem cm_nei {i j : Int} : cmpP .ne (.int i) (.int j) = some (!(i == j)) := (rfl)
theorem cm_eqb {i j : Bool} : cmpP .eq (.bl i) (.bl j) = some (i == j) := by cases i <;> cases j <;> rfl
theorem cm_neb {i j : Bool} : cmpP .ne (.bl i) (.bl j) = some (!(i == j)) := by cases i <;> cases j <;> rfl
theorem cm_eq {a b : D} : cmpP .eq a b = (match a.look, b.look with
    | some d, some e => some (PyData.eqv d e)
    | _, _ => none) := by cases b <;> rfl
theorem cm_ne {a b : D} : cmpP .ne a b = (match a.look, b.look with
    | some d, some e => some (!PyData.eqv d e)
    | _, _ => none) := by cases b <;> rfl
theorem cm_in {a : D} {ys : List D} : cmpP .inn a (.lst ys) = (match a.look, D.look (.lst ys) with
    | some d, some (.list ds) => some (ds.any fun z => PyData.eqv z d)
    | _, _ => none) := (rfl)
theorem cm_nin {a : D} {ys : List D} : cmpP .nin a (.lst ys) = (match a.look, D.look (.lst ys) with
    | some d, some (.list ds) => some (!ds.any fun z => PyData.eqv z d)
    | _, _ => none) := (rfl)
theorem bn_add {i j : Int} : binP .add (.int i) (.int j) = some (.sh (.int (i + j))) := (rfl)
theorem bn_sub {i j : Int} : binP .sub (.int i) (.int j) = some (.sh (.int (i - j))) := (rfl)
theorem small_of {i : Int} (h1 : -(2 ^ 64) < i) (h2 : i < 2 ^ 64) : small64 i = true := by
  exact small64_iff.mpr ⟨h1, h2⟩
theorem bn_mulR {i j : Int} (h : small64 j = true) : binP .mul (.int i) (.int j) = some (.sh (.int (i * j))) := by
  unfold binP
  dsimp only
  rw [h, Bool.or_true]
  exact if_pos rfl
theorem bn_mulL {i j : Int} (h : small64 i = true) : binP .mul (.int i) (.int j) = some (.sh (.int (i * j))) := by
  unfold binP
  dsimp only
  rw [h, Bool.true_or]
  exact if_pos rfl
theorem bn_fdv {i j : Int} (h1 : 0 < j) (h2 : j < 1073741824) : binP .fdv (.int i) (.int j) = some (.sh (.int (i / j))) := by
  unfold binP
  dsimp only
  rw [zfd, decide_eq_true h1, decide_eq_true h2]
  exact if_pos rfl
theorem bn_mod {i j : Int} (h1 : 0 < j) : binP .mod (.int i) (.int j) = some (.sh (.int (i % j))) := by
  unfold binP
  dsimp only
  rw [decide_eq_true h1]
  exact if_pos rfl
theorem bn_addL {xs ys : List D} (h : xs.length + ys.length ≤ sizeLine) : binP .add (.lst xs) (.lst ys) = some (.ow (xs ++ ys)) := by
  unfold binP
  dsimp only
  rw [if_pos h]
end
/-- a comprehension whose turns change nothing -/
theorem comW_eq {tg : Tg} {own : List Nat} {cs : Exs} {e : Ex} {s : Ps} (c : PIv → Bool) (f : PIv → D) {items : List PIv} (ht : tgIn own tg = true)
    (h : ∀ x ∈ items, ∃ env', asgIP tg x (wipeP s.env own) = some env' ∧ wipeP env' own = wipeP s.env own ∧ evCs' R cs { s with env := env' } = .ok (c x) { s with env := env' } ∧ (c x = true → shr (evF R e) { s with env := env' } = .ok (f x) { s with env := env' }))
    (hl : items.length ≤ sizeLine) : comW R tg own cs e items s = .ok (.ow ((items.filter c).map f)) { s with env := backP s.env (wipeP s.env own) own } := by
  unfold comW
  rw [if_pos ht, comP_eq (s := { s with env := wipeP s.env own }) c f items 0 h (by omega)]
/-- over the things of a list -/
theorem comW_ones {i : Nat} {own : List Nat} {cs : Exs} {e : Ex} {env : List (Option PV)} {sm : Sst} (c : D → Bool) (f : D → D) {xs : List D} (ht : tgIn own (.nm i) = true) (hi : decide (i < (wipeP env own).length) = true) (hw : wipeP env own = env) (hb : backP env env own = env)
    (h : ∀ x ∈ xs, wipeP (env.set i (some (.sh x))) own = env ∧ evCs' R cs ⟨env.set i (some (.sh x)), sm⟩ = .ok (c x) ⟨env.set i (some (.sh x)), sm⟩ ∧ (c x = true → shr (evF R e) ⟨env.set i (some (.sh x)), sm⟩ = .ok (f x) ⟨env.set i (some (.sh x)), sm⟩))
    (hl : xs.length ≤ sizeLine) : comW R (.nm i) own cs e (onesP xs) ⟨env, sm⟩ = .ok (.ow ((xs.filter c).map f)) ⟨env, sm⟩ := by
  have z := comW_eq (R := R) (tg := .nm i) (own := own) (cs := cs) (e := e) (s := ⟨env, sm⟩) (fun p => match p with
    | .one x => c x
    | .many _ => true) (fun p => match p with
    | .one x => f x
    | .many _ => .non) (items := onesP xs) ht (fun p hp => ?_) (by rw [onesP, List.length_map]; exact hl)
  · rw [z]
    dsimp only
    rw [hw, hb]
    congr 2
    unfold onesP
    rw [List.filter_map, List.map_map]
    rfl
  · obtain ⟨x, hx, rfl⟩ := List.mem_map.mp hp
    obtain ⟨h1, h2, h3⟩ := h x hx
    refine ⟨env.set i (some (.sh x)), ?_, ?_, h2, h3⟩
    · show asgIP (.nm i) (.one x) (wipeP env own) = _
      unfold asgIP
      dsimp only
      rw [asgP, if_pos (of_decide_eq_true hi), hw]
    · show wipeP _ own = wipeP env own
      rw [h1, hw]
/-- over tuples that are made for the turn, or stand in a list: the target takes them apart -/
theorem comW_gen {tg : Tg} {own : List Nat} {cs : Exs} {e : Ex} {env : List (Option PV)} {sm : Sst} {α : Type} (up : α → PIv) (ev : α → List (Option PV)) (c : α → Bool) (f : α → D) {xs : List α} (ht : tgIn own tg = true) (hw : wipeP env own = env) (hb : backP env env own = env)
    (h : ∀ x ∈ xs, asgIP tg (up x) env = some (ev x) ∧ wipeP (ev x) own = env ∧ evCs' R cs ⟨ev x, sm⟩ = .ok (c x) ⟨ev x, sm⟩ ∧ (c x = true → shr (evF R e) ⟨ev x, sm⟩ = .ok (f x) ⟨ev x, sm⟩))
    (hl : xs.length ≤ sizeLine) : comW R tg own cs e (xs.map up) ⟨env, sm⟩ = .ok (.ow ((xs.filter c).map f)) ⟨env, sm⟩ := by
  induction xs with
  | nil =>
    unfold comW
    rw [if_pos ht]
    show PRes.ok (PV.ow []) _ = _
    dsimp only
    rw [hw, hb]
    rfl
  | cons a xs _ =>
    have : Nonempty α := ⟨a⟩
    have key : ∀ (k : Nat) (ys : List α), (∀ x ∈ ys, x ∈ a :: xs) → k + ys.length ≤ sizeLine → comP tg own (evCs' R cs) (shr (evF R e)) k (ys.map up) ⟨env, sm⟩ = .ok ((ys.filter c).map f) ⟨env, sm⟩ := by
      intro k ys
      induction ys generalizing k with
      | nil => intro _ _; rfl
      | cons y r ih =>
        intro hm hk
        obtain ⟨h1, h2, h3, h4⟩ := h y (hm y List.mem_cons_self)
        rw [List.length_cons] at hk
        rw [List.map_cons]
        unfold comP
        dsimp only
        rw [h1]
        dsimp only
        rw [h3]
        cases hc : c y with
        | false =>
          dsimp only
          rw [h2, ih k (fun x hx => hm x (List.mem_cons_of_mem _ hx)) (by omega), List.filter_cons_of_neg (by rw [hc]; exact Bool.false_ne_true)]
        | true =>
          dsimp only
          rw [h4 hc]
          dsimp only
          rw [if_pos (by omega), h2]
          unfold pbnd
          rw [ih (k + 1) (fun x hx => hm x (List.mem_cons_of_mem _ hx)) (by omega), List.filter_cons_of_pos hc]
          rfl
    unfold comW
    rw [if_pos ht]
    dsimp only
    rw [hw, key 0 (a :: xs) (fun _ h => h) (by omega)]
    dsimp only
    rw [hb]
/-- a comprehension of draws, without a test: J i holds of the stream behind i turns -/
theorem comW_draws {tg : Tg} {own : List Nat} {e : Ex} {env : List (Option PV)} {α : Type} (up : α → PIv) (ev : α → List (Option PV)) (J : Nat → Sst → Prop) (P : α → D → Prop) (ht : tgIn own tg = true) (hw : wipeP env own = env) (hb : backP env env own = env) {xs : List α}
    (h : ∀ x ∈ xs, asgIP tg (up x) env = some (ev x) ∧ wipeP (ev x) own = env ∧ ∀ i sm, i < xs.length → J i sm → ∃ d sm', shr (evF R e) ⟨ev x, sm⟩ = .ok d ⟨ev x, sm'⟩ ∧ P x d ∧ J (i + 1) sm')
    (hl : xs.length ≤ sizeLine) {sm : Sst} (hJ : J 0 sm) : ∃ ds sm', comW R tg own .nil e (xs.map up) ⟨env, sm⟩ = .ok (.ow ds) ⟨env, sm'⟩ ∧ ds.length = xs.length ∧ (∀ d ∈ ds, ∃ x ∈ xs, P x d) ∧ J xs.length sm' := by
  have key : ∀ (ys : List α) (k i : Nat) (sm : Sst), (∀ x ∈ ys, x ∈ xs) → i + ys.length = xs.length → k + ys.length ≤ sizeLine → J i sm → ∃ ds sm', comP tg own (evCs' R .nil) (shr (evF R e)) k (ys.map up) ⟨env, sm⟩ = .ok ds ⟨env, sm'⟩ ∧ ds.length = ys.length ∧ (∀ d ∈ ds, ∃ x ∈ xs, P x d) ∧ J (i + ys.length) sm' := by
    intro ys
    induction ys with
    | nil => intro k i sm _ _ _ hJ; exact ⟨[], sm, rfl, rfl, fun _ h => (List.not_mem_nil h).elim, hJ⟩
    | cons y r ih =>
      intro k i sm hm hi hk hJ
      rw [List.length_cons] at hi hk
      obtain ⟨h1, h2, h3⟩ := h y (hm y List.mem_cons_self)
      obtain ⟨d, sm1, e1, p1, j1⟩ := h3 i sm (by omega) hJ
      obtain ⟨ds, sm2, e2, l2, p2, j2⟩ := ih (k + 1) (i + 1) sm1 (fun x hx => hm x (List.mem_cons_of_mem _ hx)) (by omega) (by omega) j1
      have en : i + (y :: r).length = i + 1 + r.length := by rw [List.length_cons]; omega
      refine ⟨d :: ds, sm2, ?_, by rw [List.length_cons, List.length_cons, l2], fun u hu => ?_, en ▸ j2⟩
      · rw [List.map_cons]
        unfold comP
        dsimp only
        rw [h1]
        dsimp only
        have : evCs' R .nil ⟨ev y, sm⟩ = .ok true ⟨ev y, sm⟩ := (rfl)
        rw [this]
        dsimp only
        rw [e1]
        dsimp only
        rw [if_pos (by omega), h2]
        unfold pbnd
        rw [e2]
        rfl
      · rcases List.mem_cons.mp hu with rfl | hu
        · exact ⟨y, hm y List.mem_cons_self, p1⟩
        · exact p2 u hu
  obtain ⟨ds, sm', e1, l1, p1, j1⟩ := key xs 0 0 sm (fun _ h => h) (by omega) (by omega) hJ
  refine ⟨ds, sm', ?_, l1, p1, by rw [Nat.zero_add] at j1; exact j1⟩
  unfold comW
  rw [if_pos ht]
  dsimp only
  rw [hw, e1]
  dsimp only
  rw [hb]
theorem forW_nil {tg : Tg} {b : Sxs} {s : Ps} : forW R tg b [] s = .ok .nx s := (rfl)
theorem forW_cons {tg : Tg} {b : Sxs} {x : PIv} {r : List PIv} {s : Ps} : forW R tg b (x :: r) s = match asgIP tg x s.env with
    | some env' => (match exPs R b { s with env := env' } with
      | .ok .nx s1 => forW R tg b r s1
      | .ok .ct s1 => forW R tg b r s1
      | .ok f s1 => .ok f s1
      | _ => .bad)
    | none => .bad := (rfl)
/-- a turn, by what its body does -/
theorem forW_nx {tg : Tg} {b : Sxs} {x : PIv} {r : List PIv} {env env' : List (Option PV)} {sm : Sst} {s1 : Ps} (h : asgIP tg x env = some env') (h2 : exPs R b ⟨env', sm⟩ = .ok .nx s1 ∨ exPs R b ⟨env', sm⟩ = .ok .ct s1) : forW R tg b (x :: r) ⟨env, sm⟩ = forW R tg b r s1 := by
  rw [forW_cons]
  dsimp only
  rw [h]
  dsimp only
  rcases h2 with h2 | h2 <;> rw [h2]
theorem forW_rt {tg : Tg} {b : Sxs} {x : PIv} {r : List PIv} {env env' : List (Option PV)} {sm : Sst} {d : D} {s1 : Ps} (h : asgIP tg x env = some env') (h2 : exPs R b ⟨env', sm⟩ = .ok (.rt d) s1) : forW R tg b (x :: r) ⟨env, sm⟩ = .ok (.rt d) s1 := by
  rw [forW_cons]
  dsimp only
  rw [h]
  dsimp only
  rw [h2]
/-- a for loop that keeps an invariant, or ends by a return -/
theorem forW_inv {tg : Tg} {b : Sxs} {α : Type} (up : α → PIv) (J : Nat → Ps → Prop) (E : PFl → Ps → Prop) : ∀ (xs : List α) (i : Nat) (s : Ps), J i s → (∀ j x s, xs[j]? = some x → J (i + j) s → ∃ env', asgIP tg (up x) s.env = some env' ∧ ((∃ s', (exPs R b { s with env := env' } = .ok .nx s' ∨ exPs R b { s with env := env' } = .ok .ct s') ∧ J (i + j + 1) s') ∨ ∃ d s', exPs R b { s with env := env' } = .ok (.rt d) s' ∧ E (.rt d) s')) →
    (∀ s, J (i + xs.length) s → E .nx s) → ∃ fl s', forW R tg b (xs.map up) s = .ok fl s' ∧ E fl s'
  | [], i, s, hJ, _, hE => ⟨.nx, s, rfl, hE s hJ⟩
  | x :: r, i, s, hJ, h, hE => by
    obtain ⟨env', e1, h1⟩ := h 0 x s rfl hJ
    have go : ∀ s', J (i + 1) s' → ∃ fl s2, forW R tg b (r.map up) s' = .ok fl s2 ∧ E fl s2 := fun s' hj => forW_inv up J E r (i + 1) s' hj (fun j y s2 hy hj2 => by
      have e : i + 1 + j = i + (j + 1) := by omega
      rw [e] at hj2 ⊢
      exact h (j + 1) y s2 hy hj2) (fun s2 hj2 => hE s2 (by
        have e : i + (x :: r).length = i + 1 + r.length := by rw [List.length_cons]; omega
        rw [e]
        exact hj2))
    rcases h1 with ⟨s', e2, j2⟩ | ⟨d, s', e2, j2⟩
    · obtain ⟨fl, s2, e3, h3⟩ := go s' j2
      refine ⟨fl, s2, ?_, h3⟩
      rw [List.map_cons]
      unfold forW at e3 ⊢
      unfold forP
      rw [e1]
      rcases e2 with e2 | e2 <;> (dsimp only; rw [e2]; exact e3)
    · refine ⟨_, s', ?_, j2⟩
      rw [List.map_cons]
      unfold forW forP
      rw [e1]
      dsimp only
      rw [e2]
end
end Ih
end
section
set_option Elab.async false
set_option linter.all false
set_option maxHeartbeats 1000000
namespace Ih
open PySem
local macro_rules | `(tactic| walk_at "ev") => `(tactic| simp [v_var, v_non, v_bl, v_int, v_str, v_bin, v_neg, v_nt, v_and, v_or, v_ife, v_cmp, v_cmp2, v_sub, v_slc, v_rev, v_stpL, v_tup, v_lst, v_dic0, v_call, v_callK, v_bi, v_isi, v_met, v_com, x_ex, x_asg, x_asgT, x_par, x_ret, x_retN, x_ite, x_for, x_whl, x_pas, x_con, xs_nil, xs_cons, varP, opd, tst, shr, pret, pbad, pbnd, pof, rdV, rdVs, rdO, rdOs, lend_s, frzE, frz1, evKs, evPs, evMs, evPO, exoP, evW, walkP, tryP, setP, envP, finP, pd_sh, pd_ow, at_non, at_bl, at_int, at_str, at_lst, at_tup, at_dic0, at_stm, it_lst, it_tup, it_non, it_bl, it_int, it_str, it_dic0, tr_non, tr_bl, tr_int, tr_lst, tr_tup, tr_dic0, is_non, is_bl, is_int, is_str, is_lst, is_tup, is_dic0, nn_non, nn_bl, nn_int, nn_str, nn_lst, nn_tup, nn_dic0, cm_is, cm_isn, cm_lt, cm_le, cm_gt, cm_ge, cm_eqi, cm_nei, cm_eqb, cm_neb, isTy, subP, evCs', occB, occE, occEs, occO, occI, occT, occT.occTs, occS, occSs, sz_eq, *])
def f_kept_ladders (l kl : Nat) : Fn := ⟨1, 4, (.cons (.ite (.nt (.call l (.cons (.var 0) .nil))) (.cons (.ret .non) .nil) .nil) (.cons (.asg (.nm 1) (.com (.nm 3) (.seq (.var 0)) .nil (.call kl (.cons (.var 3) .nil)) [2, 3])) (.cons (.ret (.ife (.cmp .inn .non (.var 1)) .non (.var 1))) .nil)))⟩
theorem any_non : ∀ ls : List (Option (Int × Int)), ((ladsPy ls).any fun z => PyData.eqv z .none) = ls.any Option.isNone
  | [] => rfl
  | none :: r => rfl
  | some (a, b) :: r => by
    show ((PyData.eqv (.tuple [.int a, .int b]) .none) || (ladsPy r).any fun z => PyData.eqv z .none) = (false || r.any Option.isNone)
    rw [any_non r]
    rfl
theorem kl_com {R : Rp} {kl : Nat} {sm : Sst} {xs : List D} {d : D} (hk : ∀ x ∈ xs, R kl [x] sm = .ok (ladD (ladOf x)) sm) (hl : xs.length ≤ sizeLine) :
    comW R (.nm 3) [2, 3] .nil (.call kl (.cons (.var 3) .nil)) (onesP xs) ⟨[some (.sh d), none, none, none], sm⟩ = .ok (.ow (xs.map fun x => ladD (ladOf x))) ⟨[some (.sh d), none, none, none], sm⟩ := by
  rw [comW_ones (fun _ => true) (fun x => ladD (ladOf x)) rfl rfl rfl rfl (fun x hx => ?_) hl, List.filter_eq_self.mpr fun _ _ => rfl]
  have h := hk x hx
  refine ⟨rfl, rfl, fun _ => ?_⟩
  walk_at "ev"
/-- the ladders that a thing is, or none -/
def keptOf (d : D) : Option (List (Int × Int)) := match d.items with
  | some xs => if (xs.map ladOf).any Option.isNone then none else some (xs.filterMap ladOf)
  | none => none
def ladP (p : Int × Int) : D := .tup [.int p.1, .int p.2]
def keptD : Option (List (Int × Int)) → D
  | some ls => .lst (ls.map ladP)
  | none => .non
theorem kept_map : ∀ (xs : List D), (xs.map ladOf).any Option.isNone = false → (xs.map fun x => ladD (ladOf x)) = (xs.filterMap ladOf).map ladP
  | [], _ => rfl
  | x :: r, h => by
    rw [List.map_cons, List.any_cons, Bool.or_eq_false_iff] at h
    cases e : ladOf x with
    | none => rw [e] at h; cases h.1
    | some p =>
      rw [List.map_cons, List.filterMap_cons, e, kept_map r h.2]
      rfl
theorem it_eq {d : D} {xs : List D} (h : d.items = some xs) : d = .lst xs ∨ d = .tup xs := by
  cases d with
  | lst ys => cases h; exact .inl rfl
  | tup ys => cases h; exact .inr rfl
  | _ => cases h
theorem l_kept_ladders {R : Rp} {l kl : Nat} {d : D} {sm : Sst} (hl : R l [d] sm = .ok (.bl (isSeq d)) sm) (hk : ∀ xs, d.items = some xs → ∀ x ∈ xs, R kl [x] sm = .ok (ladD (ladOf x)) sm) (hz : ∀ xs, d.items = some xs → xs.length ≤ 1000000) :
    finP (exPs R (f_kept_ladders l kl).body ⟨envP (f_kept_ladders l kl) [d], sm⟩) = .ok (keptD (keptOf d)) sm := by
  have go : ∀ xs, d.items = some xs → isSeq d = true → finP (exPs R (f_kept_ladders l kl).body ⟨envP (f_kept_ladders l kl) [d], sm⟩) = .ok (keptD (keptOf d)) sm := fun xs hd hs => by
    have hc := kl_com (d := d) (hk xs hd) (Nat.le_trans (hz xs hd) (by decide))
    have hlk := lads_look (ls := xs.map ladOf) (by rw [List.length_map]; exact hz xs hd)
    have e1 : ladsD (xs.map ladOf) = .lst (xs.map fun x => ladD (ladOf x)) := by unfold ladsD; rw [List.map_map]; rfl
    have hany := any_non (xs.map ladOf)
    rw [e1] at hlk
    have hno : D.look .non = some .none := rfl
    rw [hs] at hl
    have hin : cmpP .inn .non (.lst (xs.map fun x => ladD (ladOf x))) = some ((xs.map ladOf).any Option.isNone) := by
      rw [cm_in, hno, hlk]
      dsimp only
      rw [hany]
    clear hk hz hlk hno hany e1
    cases hb : (xs.map ladOf).any Option.isNone with
    | true =>
      have hk : keptOf d = none := by unfold keptOf; rw [hd]; dsimp only; rw [if_pos hb]
      rw [hb] at hin
      clear hb
      simp only [f_kept_ladders]
      rcases it_eq hd with rfl | rfl <;> walk_at "ev" <;> rfl
    | false =>
      have hk : keptOf d = some (xs.filterMap ladOf) := by unfold keptOf; rw [hd]; dsimp only; rw [if_neg (by rw [hb]; exact Bool.false_ne_true)]
      have hm := kept_map xs hb
      rw [hb, hm] at hin
      rw [hm] at hc
      clear hb hm
      simp only [f_kept_ladders]
      rcases it_eq hd with rfl | rfl <;> walk_at "ev" <;> rfl
  cases d with
  | lst xs => exact go xs rfl rfl
  | tup xs => exact go xs rfl rfl
  | _ =>
    simp only [f_kept_ladders]
    simp only [isSeq] at hl
    walk_at "ev"
    rfl
end Ih
end
section
set_option Elab.async false
set_option linter.all false
set_option maxHeartbeats 1000000
namespace Ih
open PySem
local macro_rules | `(tactic| walk_at "ev") => `(tactic| simp [v_var, v_non, v_bl, v_int, v_str, v_bin, v_neg, v_nt, v_and, v_or, v_ife, v_cmp, v_cmp2, v_sub, v_slc, v_rev, v_stpL, v_tup, v_lst, v_dic0, v_call, v_callK, v_bi, v_isi, v_met, v_com, x_ex, x_asg, x_asgT, x_par, x_ret, x_retN, x_ite, x_for, x_whl, x_pas, x_con, xs_nil, xs_cons, varP, opd, tst, shr, pret, pbad, pbnd, pof, rdV, rdVs, rdO, rdOs, lend_s, frzE, frz1, evKs, evPs, evMs, evPO, exoP, evW, walkP, tryP, setP, envP, finP, pd_sh, pd_ow, at_non, at_bl, at_int, at_str, at_lst, at_tup, at_dic0, at_stm, it_lst, it_tup, it_non, it_bl, it_int, it_str, it_dic0, tr_non, tr_bl, tr_int, tr_lst, tr_tup, tr_dic0, is_non, is_bl, is_int, is_str, is_lst, is_tup, is_dic0, nn_non, nn_bl, nn_int, nn_str, nn_lst, nn_tup, nn_dic0, cm_is, cm_isn, cm_lt, cm_le, cm_gt, cm_ge, cm_eqi, cm_nei, cm_eqb, cm_neb, isTy, subP, evCs', occB, occE, occEs, occO, occI, occT, occT.occTs, occS, occSs, sz_eq, *])
def rgI (a b : Int) : List Int := (List.range (b - a).toNat).map fun i => a + (i : Nat)
theorem onesP_rg {a b : Int} : onesP (rgD a b) = (rgI a b).map fun i => .one (.int i) := by
  unfold onesP rgD rgI
  rw [List.map_map, List.map_map]
  rfl
theorem mem_rgI {a b i : Int} : i ∈ rgI a b ↔ a ≤ i ∧ i < b := by
  unfold rgI
  rw [List.mem_map]
  constructor
  · rintro ⟨k, hk, rfl⟩
    have := List.mem_range.mp hk
    omega
  · rintro ⟨h1, h2⟩
    exact ⟨(i - a).toNat, List.mem_range.mpr (by omega), by omega⟩
theorem len_rgI {a b : Int} : (rgI a b).length = (b - a).toNat := by
  unfold rgI
  rw [List.length_map, List.length_range]
theorem rngP_ok {a b : Int} (h1 : -(2 ^ 62) ≤ a) (h2 : a < 2 ^ 62) (h3 : -(2 ^ 62) ≤ b) (h4 : b < 2 ^ 62) : rngP (.int a) (.int b) = some ((rgI a b).map fun i => .one (.int i)) := by
  unfold rngP
  dsimp only
  rw [zl62, zg62, zl62, zg62, decide_eq_true h1, decide_eq_true h2, decide_eq_true h3, decide_eq_true h4, ← onesP_rg]
  rfl
theorem whlW_succ {R : Rp} {c : Ex} {b : Sxs} {n : Nat} {s : Ps} : whlW R c b (n + 1) s = match tst c (evF R c) s with
    | .ok true s1 => (match exPs R b s1 with
      | .ok .nx s2 => whlW R c b n s2
      | .ok .ct s2 => whlW R c b n s2
      | .ok f s2 => .ok f s2
      | _ => .bad)
    | .ok false s1 => .ok .nx s1
    | .exc c p s1 => .ok (.xc c p) s1
    | .bad => .bad := rfl
def f_greatest : Fn := ⟨2, 2, (.cons (.whl (.var 1) (.cons (.par 0 1 (.var 1) (.bin .mod (.var 0) (.var 1))) .nil)) (.cons (.ret (.var 0)) .nil))⟩
theorem gcd_whl {R : Rp} {sm : Sst} : ∀ (n a b : Nat), b < n → whlW R (.var 1) (.cons (.par 0 1 (.var 1) (.bin .mod (.var 0) (.var 1))) .nil) n ⟨[some (.sh (.int a)), some (.sh (.int b))], sm⟩ = .ok .nx ⟨[some (.sh (.int (Nat.gcd a b : Nat))), some (.sh (.int 0))], sm⟩
  | 0, a, b, h => absurd h (Nat.not_lt_zero _)
  | n + 1, a, 0, h => by
    rw [whlW_succ]
    walk_at "ev"
  | n + 1, a, b + 1, h => by
    have ih := gcd_whl (R := R) (sm := sm) n (b + 1) (a % (b + 1)) (by have : a % (b + 1) < b + 1 := Nat.mod_lt a (Nat.succ_pos b); omega)
    have e : Nat.gcd (b + 1) (a % (b + 1)) = Nat.gcd a (b + 1) := by rw [Nat.gcd_comm, ← Nat.gcd_rec, Nat.gcd_comm]
    rw [e] at ih
    have hm : binP .mod (.int a) (.int ((b + 1 : Nat) : Int)) = some (.sh (.int ((a % (b + 1) : Nat) : Int))) := by
      show (if decide ((0 : Int) < ((b + 1 : Nat) : Int)) = true then _ else _) = _
      rw [if_pos (decide_eq_true (by omega))]
      rfl
    have ht : truP (.int ((b + 1 : Nat) : Int)) = some true := by
      show some (((b + 1 : Nat) : Int) != 0) = _
      rw [bne_iff_ne.mpr (by omega)]
    rw [whlW_succ]
    generalize ((b + 1 : Nat) : Int) = B at *
    generalize ((a % (b + 1) : Nat) : Int) = C at *
    clear e h
    simp only [tst, opd]
    walk_at "ev"
theorem l_greatest {R : Rp} {a b : Nat} {sm : Sst} (h : b < 1073741824) : finP (exPs R f_greatest.body ⟨envP f_greatest [.int a, .int b], sm⟩) = .ok (.int (Nat.gcd a b : Nat)) sm := by
  have := gcd_whl (R := R) (sm := sm) whlN a b (by unfold whlN; omega)
  simp only [f_greatest]
  walk_at "ev"
end Ih
end
section
set_option Elab.async false
set_option linter.all false
set_option maxHeartbeats 1000000
namespace Ih
open PySem
local macro_rules | `(tactic| walk_at "ev") => `(tactic| simp [v_var, v_non, v_bl, v_int, v_str, v_bin, v_neg, v_nt, v_and, v_or, v_ife, v_cmp, v_cmp2, v_sub, v_slc, v_rev, v_stpL, v_tup, v_lst, v_dic0, v_call, v_callK, v_bi, v_isi, v_met, v_com, x_ex, x_asg, x_asgT, x_par, x_ret, x_retN, x_ite, x_for, x_whl, x_pas, x_con, xs_nil, xs_cons, varP, opd, tst, shr, pret, pbad, pbnd, pof, rdV, rdVs, rdO, rdOs, lend_s, frzE, frz1, evKs, evPs, evMs, evPO, exoP, evW, walkP, tryP, setP, envP, finP, pd_sh, pd_ow, at_non, at_bl, at_int, at_str, at_lst, at_tup, at_dic0, at_stm, it_lst, it_tup, it_non, it_bl, it_int, it_str, it_dic0, tr_non, tr_bl, tr_int, tr_lst, tr_tup, tr_dic0, is_non, is_bl, is_int, is_str, is_lst, is_tup, is_dic0, nn_non, nn_bl, nn_int, nn_str, nn_lst, nn_tup, nn_dic0, cm_is, cm_isn, cm_lt, cm_le, cm_gt, cm_ge, cm_eqi, cm_nei, cm_eqb, cm_neb, isTy, subP, evCs', occB, occE, occEs, occO, occI, occT, occT.occTs, occS, occSs, sz_eq, *])
def rndI : Nat → List Int → Nat
  | a, [] => a
  | a, s :: r => rndI (Nat.lcm a s.toNat) r
theorem rndI_cons {a : Nat} {s : Int} {r : List Int} : rndI a (s :: r) = rndI (Nat.lcm a s.toNat) r := by rw [rndI]
def f_round_by (g : Nat) : Fn := ⟨1, 3, (.cons (.asg (.nm 1) (.int 1)) (.cons (.forE (.nm 2) (.seq (.var 0)) (.cons (.asg (.nm 1) (.bin .fdv (.bin .mul (.var 1) (.var 2)) (.call g (.cons (.var 1) (.cons (.var 2) .nil))))) .nil)) (.cons (.ret (.var 1)) .nil)))⟩
theorem lcm_div {a s : Nat} : ((a : Int) * (s : Int)) / ((Nat.gcd a s : Nat) : Int) = ((Nat.lcm a s : Nat) : Int) := by
  unfold Nat.lcm
  rw [← Int.natCast_mul, ← Int.natCast_ediv]
abbrev round_b (g : Nat) : Sxs := (.cons (.asg (.nm 1) (.bin .fdv (.bin .mul (.var 1) (.var 2)) (.call g (.cons (.var 1) (.cons (.var 2) .nil))))) .nil)
theorem round_turn {R : Rp} {g : Nat} {sm : Sst} {x : Option PV} {a n G L : Int} (hgn : R g [.int a, .int n] sm = .ok (.int G) sm) (hmul : binP .mul (.int a) (.int n) = some (.sh (.int (a * n)))) (hfdv : binP .fdv (.int (a * n)) (.int G) = some (.sh (.int L))) :
    exPs R (round_b g) ⟨[x, some (.sh (.int a)), some (.sh (.int n))], sm⟩ = .ok .nx ⟨[x, some (.sh (.int L)), some (.sh (.int n))], sm⟩ := by
  walk_at "ev"
theorem round_for {R : Rp} {g : Nat} {sm : Sst} {x : Option PV} (hg : ∀ (a b : Nat) sm, b < 1073741824 → R g [.int a, .int b] sm = .ok (.int (Nat.gcd a b : Nat)) sm) (ss : List Int) : ∀ (a : Nat) (y : Option PV), (∀ s ∈ ss, 1 ≤ s ∧ s < 1073741824) → ∃ y', forW R (.nm 2) (round_b g) (onesP (ss.map .int)) ⟨[x, some (.sh (.int a)), y], sm⟩ = .ok .nx ⟨[x, some (.sh (.int (rndI a ss : Nat))), y'], sm⟩ := by
  induction ss with
  | nil => exact fun a y h => ⟨y, rfl⟩
  | cons s r ih =>
    intro a y h
    obtain ⟨h1, h2⟩ := h s List.mem_cons_self
    obtain ⟨n, rfl⟩ : ∃ n : Nat, s = n := ⟨s.toNat, by omega⟩
    obtain ⟨y', e⟩ := ih (Nat.lcm a n) (some (.sh (.int n))) fun t ht => h t (List.mem_cons_of_mem _ ht)
    have hn : n < 1073741824 := by omega
    have hgn := hg a n sm hn
    have hgp : 0 < Nat.gcd a n := Nat.gcd_pos_of_pos_right _ (by omega)
    have hgl : Nat.gcd a n ≤ n := Nat.gcd_le_right _ (by omega)
    have hmul := bn_mulR (i := (a : Int)) (small_of (i := (n : Int)) (by omega) (by omega))
    have hfdv := bn_fdv (i := (a : Int) * (n : Int)) (j := ((Nat.gcd a n : Nat) : Int)) (by omega) (by omega)
    rw [lcm_div] at hfdv
    have er : rndI a ((n : Int) :: r) = rndI (Nat.lcm a n) r := by rw [rndI_cons, Int.toNat_natCast]
    have eo : onesP (((n : Int) :: r).map D.int) = .one (.int (n : Int)) :: onesP (r.map .int) := rfl
    refine ⟨y', ?_⟩
    rw [er, eo, ← e]
    exact forW_nx (env' := [x, some (.sh (.int (a : Int))), some (.sh (.int (n : Int)))]) rfl (.inl (round_turn hgn hmul hfdv))
theorem l_round_by {R : Rp} {g : Nat} {ss : List Int} {sm : Sst} (hg : ∀ (a b : Nat) sm, b < 1073741824 → R g [.int a, .int b] sm = .ok (.int (Nat.gcd a b : Nat)) sm) (h : ∀ s ∈ ss, 1 ≤ s ∧ s < 1073741824) :
    finP (exPs R (f_round_by g).body ⟨envP (f_round_by g) [.lst (ss.map .int)], sm⟩) = .ok (.int (rndI 1 ss : Nat)) sm := by
  obtain ⟨y', e⟩ := round_for (sm := sm) (x := some (.sh (.lst (ss.map .int)))) hg ss 1 none h
  simp only [f_round_by]
  clear hg h
  have e1 : ((1 : Nat) : Int) = 1 := rfl
  rw [e1] at e
  walk_at "ev"
def hasB (n : Int) (p : Int × Int) : Bool := (n - p.1) % p.2 == 0
def hadB (ls : List (Int × Int)) (n : Int) : Bool := ls.any (hasB n)
def f_missed_from (g : Nat) : Fn := ⟨3, 6, (.cons (.forE (.nm 3) (.rng2 (.var 1) (.bin .add (.var 1) (.var 2))) (.cons (.ite (.nt (.bi .any (.cons (.com (.nm 5) (.key 0) .nil (.call g (.cons (.var 5) (.cons (.var 3) .nil))) [4, 5]) .nil))) (.cons (.ret (.var 3)) .nil) .nil) .nil)) (.cons (.ret .non) .nil))⟩
theorem onesP_map {α : Type} {f : α → D} {xs : List α} : onesP (xs.map f) = xs.map fun x => .one (f x) := by
  unfold onesP
  rw [List.map_map]
  rfl
theorem blsD_map {α : Type} (f : α → Bool) : ∀ xs : List α, blsD (xs.map fun x => .bl (f x)) = some (xs.map f)
  | [] => rfl
  | x :: r => by
    rw [List.map_cons, List.map_cons]
    unfold blsD
    rw [blsD_map f r]
    rfl
theorem intsD_map {α : Type} (f : α → Int) : ∀ xs : List α, intsD (xs.map fun x => .int (f x)) = some (xs.map f)
  | [] => rfl
  | x :: r => by
    rw [List.map_cons, List.map_cons]
    unfold intsD
    rw [intsD_map f r]
    rfl
theorem any_map {α : Type} (f : α → Bool) (xs : List α) : (xs.map f).any id = xs.any f := by
  rw [List.any_map]
  rfl
theorem all_map {α : Type} (f : α → Bool) (xs : List α) : (xs.map f).all id = xs.all f := by
  rw [List.all_map]
  rfl
theorem bi_any {α : Type} (f : α → Bool) (xs : List α) : biP .any [.lst (xs.map fun x => .bl (f x))] = some (.sh (.bl (xs.any f))) := by
  show (blsD _).map _ = _
  rw [blsD_map]
  show some (PV.sh (.bl ((xs.map f).any id))) = _
  rw [any_map]
theorem bi_all {α : Type} (f : α → Bool) (xs : List α) : biP .all [.lst (xs.map fun x => .bl (f x))] = some (.sh (.bl (xs.all f))) := by
  unfold biP
  dsimp only
  rw [blsD_map]
  dsimp only
  rw [all_map]
theorem bi_allI (ns : List Int) (h : ns ≠ []) : biP .all [.lst (ns.map .int)] = some (.sh (.bl (ns.all fun i => i != 0))) := by
  cases ns with
  | nil => exact absurd rfl h
  | cons n r =>
    have := intsD_map (fun i : Int => i) (n :: r)
    rw [List.map_id'] at this
    unfold biP
    dsimp only
    rw [this]
    rfl
/-- the first of some numbers with a property, none -/
def firstD : Option Int → D
  | some n => .int n
  | none => .non
theorem missed_for {R : Rp} {g : Nat} {sm : Sst} {ls : List (Int × Int)} {a b : Option PV} (hg : ∀ p ∈ ls, ∀ n sm, R g [ladP p, .int n] sm = .ok (.bl (hasB n p)) sm) (hl : ls.length ≤ 1000000) : ∀ (ns : List Int) (y : Option PV),
    ∃ y', forW R (.nm 3) (.cons (.ite (.nt (.bi .any (.cons (.com (.nm 5) (.key 0) .nil (.call g (.cons (.var 5) (.cons (.var 3) .nil))) [4, 5]) .nil))) (.cons (.ret (.var 3)) .nil) .nil) .nil) (ns.map fun i => .one (.int i)) ⟨[some (.sh (.lst (ls.map ladP))), a, b, y, none, none], sm⟩ =
      .ok (match ns.find? fun n => !hadB ls n with
        | some n => .rt (.int n)
        | none => .nx) ⟨[some (.sh (.lst (ls.map ladP))), a, b, y', none, none], sm⟩
  | [], y => ⟨y, rfl⟩
  | n :: r, y => by
    have hc : comW R (.nm 5) [4, 5] .nil (.call g (.cons (.var 5) (.cons (.var 3) .nil))) (onesP (ls.map ladP)) ⟨[some (.sh (.lst (ls.map ladP))), a, b, some (.sh (.int n)), none, none], sm⟩ = .ok (.ow (ls.map fun p => .bl (hasB n p))) ⟨[some (.sh (.lst (ls.map ladP))), a, b, some (.sh (.int n)), none, none], sm⟩ := by
      rw [onesP_map, comW_gen (fun p => .one (ladP p)) (fun p => [some (.sh (.lst (ls.map ladP))), a, b, some (.sh (.int n)), none, some (.sh (ladP p))]) (fun _ => true) (fun p => .bl (hasB n p)) rfl rfl rfl (fun p hp => ?_) (Nat.le_trans hl (by decide)), List.filter_eq_self.mpr fun _ _ => rfl]
      have hh := hg p hp n sm
      refine ⟨rfl, rfl, rfl, fun _ => ?_⟩
      clear hg hl hp
      generalize ladP p = L at *
      generalize D.lst (ls.map ladP) = M at *
      walk_at "ev"
    have ha := bi_any (hasB n) ls
    obtain ⟨y', e⟩ := missed_for (R := R) (g := g) (sm := sm) (ls := ls) (a := a) (b := b) hg hl r (some (.sh (.int n)))
    have eh : hadB ls n = ls.any (hasB n) := rfl
    clear hg hl
    rw [List.map_cons, forW_cons]
    simp only [asgIP, asgP]
    rw [List.find?_cons, eh]
    cases hv : ls.any (hasB n) with
    | true =>
      rw [hv] at ha
      refine ⟨y', ?_⟩
      simp only [Bool.not_true]
      rw [← e]
      clear e eh hv
      walk_at "ev"
    | false =>
      rw [hv] at ha
      refine ⟨some (.sh (.int n)), ?_⟩
      clear e eh hv
      walk_at "ev"
def missedI (ls : List (Int × Int)) (a b : Int) : Option Int := (rgI a (a + b)).find? fun n => !hadB ls n
theorem l_missed_from {R : Rp} {g : Nat} {sm : Sst} {ls : List (Int × Int)} {a b : Int} (hg : ∀ p ∈ ls, ∀ n sm, R g [ladP p, .int n] sm = .ok (.bl (hasB n p)) sm) (hl : ls.length ≤ 1000000) (h1 : -(2 ^ 62) ≤ a) (h2 : a < 2 ^ 62) (h3 : -(2 ^ 62) ≤ a + b) (h4 : a + b < 2 ^ 62) :
    finP (exPs R (f_missed_from g).body ⟨envP (f_missed_from g) [.lst (ls.map ladP), .int a, .int b], sm⟩) = .ok (firstD (missedI ls a b)) sm := by
  obtain ⟨y', e⟩ := missed_for (sm := sm) (a := some (.sh (.int a))) (b := some (.sh (.int b))) hg hl (rgI a (a + b)) none
  have hr := rngP_ok h1 h2 h3 h4
  have hb : binP .add (.int a) (.int b) = some (.sh (.int (a + b))) := rfl
  unfold missedI
  clear hg hl h1 h2 h3 h4
  simp only [f_missed_from]
  cases hf : (rgI a (a + b)).find? fun n => !hadB ls n with
  | none =>
    rw [hf] at e
    walk_at "ev"
    rfl
  | some n =>
    rw [hf] at e
    walk_at "ev"
    rfl
end Ih
end
section
set_option Elab.async false
set_option linter.all false
set_option maxHeartbeats 1000000
namespace Ih
open PySem
local macro_rules | `(tactic| walk_at "ev") => `(tactic| simp [v_var, v_non, v_bl, v_int, v_str, v_bin, v_neg, v_nt, v_and, v_or, v_ife, v_cmp, v_cmp2, v_sub, v_slc, v_rev, v_stpL, v_tup, v_lst, v_dic0, v_call, v_callK, v_bi, v_isi, v_met, v_com, x_ex, x_asg, x_asgT, x_par, x_ret, x_retN, x_ite, x_for, x_whl, x_pas, x_con, xs_nil, xs_cons, varP, opd, tst, shr, pret, pbad, pbnd, pof, rdV, rdVs, rdO, rdOs, lend_s, frzE, frz1, evKs, evPs, evMs, evPO, exoP, evW, walkP, tryP, setP, envP, finP, pd_sh, pd_ow, at_non, at_bl, at_int, at_str, at_lst, at_tup, at_dic0, at_stm, it_lst, it_tup, it_non, it_bl, it_int, it_str, it_dic0, tr_non, tr_bl, tr_int, tr_lst, tr_tup, tr_dic0, is_non, is_bl, is_int, is_str, is_lst, is_tup, is_dic0, nn_non, nn_bl, nn_int, nn_str, nn_lst, nn_tup, nn_dic0, cm_is, cm_isn, cm_lt, cm_le, cm_gt, cm_ge, cm_eqi, cm_nei, cm_eqb, cm_neb, isTy, subP, evCs', occB, occE, occEs, occO, occI, occT, occT.occTs, occS, occSs, sz_eq, *])
theorem pys_ints : ∀ ss : List Int, D.pys (ss.map .int) = some (ss.map .int)
  | [] => rfl
  | s :: r => by
    rw [List.map_cons, D.pys, pys_ints r]
    rfl
theorem needs_ints : ∀ ss : List Int, D.needs (ss.map .int) ≤ ss.length + 2
  | [] => by decide
  | s :: r => by
    have := needs_ints r
    rw [List.map_cons, D.needs, List.length_cons]
    have : D.need (.int s) = 1 := rfl
    omega
theorem ints_shapedI : ∀ ss : List Int, PyData.canLayAll0 (ss.map .int) = true ∧ PyData.depthAll (ss.map .int) ≤ 0
  | [] => ⟨rfl, Nat.le_refl _⟩
  | s :: r => by
    obtain ⟨h1, h2⟩ := ints_shapedI r
    rw [List.map_cons, PyData.canLayAll0, PyData.depthAll, h1]
    exact ⟨rfl, Nat.max_le.mpr ⟨Nat.le_refl _, h2⟩⟩
theorem look_ints {ss : List Int} (h : ss.length ≤ 10000000) : D.look (.lst (ss.map .int)) = some (.list (ss.map .int)) := by
  have hn : D.need (.lst (ss.map .int)) ≤ deepN := by
    have := needs_ints ss
    show D.needs (ss.map .int) + 1 ≤ 20000000
    omega
  have hp : D.py (.lst (ss.map .int)) = some (.list (ss.map .int)) := by
    show (D.pys (ss.map .int)).map PyData.list = _
    rw [pys_ints]
    rfl
  obtain ⟨h1, h2⟩ := ints_shapedI ss
  have hs : SeqAt.shaped (.list (ss.map .int)) = true := by
    unfold SeqAt.shaped
    rw [Bool.and_eq_true]
    refine ⟨by rw [PyData.canLay0]; exact h1, decide_eq_true (by rw [PyData.depth]; omega)⟩
  unfold D.look
  rw [if_pos hn, hp]
  dsimp only
  rw [if_pos hs]
theorem any_ints (d : Int) : ∀ ss : List Int, ((ss.map PyData.int).any fun z => PyData.eqv z (.int d)) = ss.any fun z => z == d
  | [] => rfl
  | s :: r => by
    rw [List.map_cons, List.any_cons, List.any_cons, any_ints d r]
    rfl
theorem in_ints {d : Int} {ss : List Int} (h : ss.length ≤ 10000000) : cmpP .inn (.int d) (.lst (ss.map .int)) = some (ss.contains d) := by
  rw [cm_in, lk_int, look_ints h]
  dsimp only
  rw [any_ints]
  congr 1
  induction ss with
  | nil => rfl
  | cons a r ih =>
    rw [List.any_cons, List.contains_cons, ih (by rw [List.length_cons] at h; omega)]
    congr 1
    exact Bool.beq_comm
theorem nin_ints {d : Int} {ss : List Int} (h : ss.length ≤ 10000000) : cmpP .nin (.int d) (.lst (ss.map .int)) = some (!ss.contains d) := by
  have z := in_ints (d := d) h
  rw [cm_in] at z
  rw [cm_nin]
  rw [lk_int, look_ints h] at z ⊢
  dsimp only at z ⊢
  rw [Option.some.inj z]
theorem cut_to {α : Type} {xs : List α} {k : Nat} : cutL xs none (some (k : Int)) = xs.take k := by
  unfold cutL
  rw [HT.sIx_none, HT.sIx_nat, List.drop_zero, Nat.sub_zero]
  by_cases h : k ≤ xs.length
  · rw [Nat.min_eq_left h]
  · rw [Nat.min_eq_right (by omega), List.take_length, List.take_of_length_le (by omega)]
theorem cut_from {α : Type} {xs : List α} {k : Nat} : cutL xs (some (k : Int)) none = xs.drop k := by
  unfold cutL
  rw [HT.sIx_none, HT.sIx_nat]
  by_cases h : k ≤ xs.length
  · rw [Nat.min_eq_left h, List.take_of_length_le (by rw [List.length_drop]; omega)]
  · rw [Nat.min_eq_right (by omega), List.drop_length, List.drop_eq_nil_of_le (by omega), List.take_nil]
theorem sl_to {xs : List D} {k : Nat} : slcP (.lst xs) none (some (k : Int)) = some (.ow (xs.take k)) := by
  show some (PV.ow (cutL xs none (some (k : Int)))) = _
  rw [cut_to]
theorem sl_from {xs : List D} {k : Nat} : slcP (.lst xs) (some (k : Int)) none = some (.ow (xs.drop k)) := by
  show some (PV.ow (cutL xs (some (k : Int)) none)) = _
  rw [cut_from]
def f_first_missed (mf rb : Nat) : Fn := ⟨1, 4, (.cons (.ret (.call mf (.cons (.var 0) (.cons (.int 0) (.cons (.call rb (.cons (.com (.tp [(.nm 2), (.nm 3)]) (.key 0) .nil (.var 3) [1, 2, 3]) .nil)) .nil))))) .nil)⟩
def rndL (ls : List (Int × Int)) : Int := rndI 1 (ls.map (·.2))
theorem steps_com {R : Rp} {sm : Sst} {ls : List (Int × Int)} (hl : ls.length ≤ 1000000) :
    comW R (.tp [(.nm 2), (.nm 3)]) [1, 2, 3] .nil (.var 3) (onesP (ls.map ladP)) ⟨[some (.sh (.lst (ls.map ladP))), none, none, none], sm⟩ = .ok (.ow ((ls.map (·.2)).map .int)) ⟨[some (.sh (.lst (ls.map ladP))), none, none, none], sm⟩ := by
  rw [onesP_map, comW_gen (fun p => .one (ladP p)) (fun p => [some (.sh (.lst (ls.map ladP))), none, some (.sh (.int p.1)), some (.sh (.int p.2))]) (fun _ => true) (fun p => .int p.2) rfl rfl rfl (fun p hp => ⟨rfl, rfl, rfl, fun _ => rfl⟩) (Nat.le_trans hl (by decide)), List.filter_eq_self.mpr fun _ _ => rfl, List.map_map]
  rfl
theorem l_first_missed {R : Rp} {mf rb : Nat} {sm : Sst} {ls : List (Int × Int)} (hr : R rb [.lst ((ls.map (·.2)).map .int)] sm = .ok (.int (rndL ls)) sm)
    (hm : R mf [.lst (ls.map ladP), .int 0, .int (rndL ls)] sm = .ok (firstD (missedI ls 0 (rndL ls))) sm) (hl : ls.length ≤ 1000000) :
    finP (exPs R (f_first_missed mf rb).body ⟨envP (f_first_missed mf rb) [.lst (ls.map ladP)], sm⟩) = .ok (firstD (missedI ls 0 (rndL ls))) sm := by
  have hc := steps_com (R := R) (sm := sm) hl
  clear hl
  simp only [f_first_missed]
  generalize (ls.map (·.2)).map D.int = S at *
  generalize ls.map ladP = L at *
  generalize firstD (missedI ls 0 (rndL ls)) = F at *
  walk_at "ev"
def f_are_unlike : Fn := ⟨1, 6, (.cons (.asg (.nm 1) (.com (.tp [(.nm 3), (.nm 4)]) (.key 0) .nil (.var 4) [2, 3, 4])) (.cons (.ret (.and (.cmp .gt (.bi .len (.cons (.var 1) .nil)) (.int 1)) (.bi .all (.cons (.com (.tp [(.nm 5), (.nm 4)]) (.enm (.var 1)) .nil (.cmp .nin (.var 4) (.slc (.var 1) .none (.some (.var 5)))) [2, 5, 4]) .nil)))) .nil))⟩
def unlikeB (ss : List Int) : Bool := decide (1 < ss.length) && (ss.zipIdx).all fun p => !(ss.take p.2).contains p.1
theorem enmP_ints : ∀ (ss : List Int) (n : Nat), enmP n (ss.map .int) = (ss.zipIdx n).map fun p => .many [.int (p.2 : Nat), .int p.1]
  | [], n => rfl
  | s :: r, n => by
    rw [List.map_cons, enmP, enmP_ints r (n + 1), List.zipIdx_cons, List.map_cons]
theorem unlike_turn {R : Rp} {sm : Sst} {ss : List Int} {x : Option PV} {p : Int × Nat} (hl : ss.length ≤ 1000000) :
    shr (evF R (.cmp .nin (.var 4) (.slc (.var 1) .none (.some (.var 5))))) ⟨[x, some (.sh (.lst (ss.map .int))), none, none, some (.sh (.int p.1)), some (.sh (.int p.2))], sm⟩ =
      .ok (.bl (!(ss.take p.2).contains p.1)) ⟨[x, some (.sh (.lst (ss.map .int))), none, none, some (.sh (.int p.1)), some (.sh (.int p.2))], sm⟩ := by
  have h1 := sl_to (xs := ss.map .int) (k := p.2)
  rw [← List.map_take] at h1
  have h2 := nin_ints (d := p.1) (ss := ss.take p.2) (by rw [List.length_take]; omega)
  generalize (ss.take p.2).map D.int = T at *
  generalize (ss.take p.2).contains p.1 = B at *
  generalize (ss.map D.int) = S at *
  generalize p.1 = a at *
  generalize ((p.2 : Nat) : Int) = b at *
  walk_at "ev"
theorem l_are_unlike {R : Rp} {sm : Sst} {ls : List (Int × Int)} (hl : ls.length ≤ 1000000) :
    finP (exPs R f_are_unlike.body ⟨envP f_are_unlike [.lst (ls.map ladP)], sm⟩) = .ok (.bl (unlikeB (ls.map (·.2)))) sm := by
  have h1 : comW R (.tp [(.nm 3), (.nm 4)]) [2, 3, 4] .nil (.var 4) (onesP (ls.map ladP)) ⟨[some (.sh (.lst (ls.map ladP))), none, none, none, none, none], sm⟩ = .ok (.ow ((ls.map (·.2)).map .int)) ⟨[some (.sh (.lst (ls.map ladP))), none, none, none, none, none], sm⟩ := by
    rw [onesP_map, comW_gen (fun p => .one (ladP p)) (fun p => [some (.sh (.lst (ls.map ladP))), none, none, some (.sh (.int p.1)), some (.sh (.int p.2)), none]) (fun _ => true) (fun p => .int p.2) rfl rfl rfl (fun p hp => ⟨rfl, rfl, rfl, fun _ => rfl⟩) (Nat.le_trans hl (by decide)), List.filter_eq_self.mpr fun _ _ => rfl, List.map_map]
    rfl
  have hss : (ls.map (·.2)).length ≤ 1000000 := by rw [List.length_map]; exact hl
  generalize ls.map (·.2) = ss at *
  have h2 : comW R (.tp [(.nm 5), (.nm 4)]) [2, 5, 4] .nil (.cmp .nin (.var 4) (.slc (.var 1) .none (.some (.var 5)))) (enmP 0 (ss.map .int)) ⟨[some (.sh (.lst (ls.map ladP))), some (.sh (.lst (ss.map .int))), none, none, none, none], sm⟩ = .ok (.ow (ss.zipIdx.map fun p => .bl (!(ss.take p.2).contains p.1))) ⟨[some (.sh (.lst (ls.map ladP))), some (.sh (.lst (ss.map .int))), none, none, none, none], sm⟩ := by
    rw [enmP_ints, comW_gen (α := Int × Nat) (fun p => .many [.int (p.2 : Nat), .int p.1]) (fun p => [some (.sh (.lst (ls.map ladP))), some (.sh (.lst (ss.map .int))), none, none, some (.sh (.int p.1)), some (.sh (.int (p.2 : Nat)))]) (fun _ => true) (fun p => .bl (!(ss.take p.2).contains p.1)) rfl rfl rfl (fun p hp => ⟨rfl, rfl, rfl, fun _ => unlike_turn hss⟩) (by rw [List.length_zipIdx]; exact Nat.le_trans hss (by decide)), List.filter_eq_self.mpr fun _ _ => rfl]
  have h3 := bi_all (fun p : Int × Nat => !(ss.take p.2).contains p.1) ss.zipIdx
  have h4 : biP .len [.lst (ss.map .int)] = some (.sh (.int ss.length)) := by
    show some (PV.sh (.int ((ss.map D.int).length : Nat))) = _
    rw [List.length_map]
  have h5 : decide ((1 : Int) < (ss.length : Nat)) = decide (1 < ss.length) := decide_eq_decide.mpr (by omega)
  have h6 : unlikeB ss = (decide (1 < ss.length) && ss.zipIdx.all fun p => !(ss.take p.2).contains p.1) := rfl
  rw [h6]
  clear h6 hl hss
  simp only [f_are_unlike]
  generalize (ss.zipIdx.map fun p => D.bl (!(ss.take p.2).contains p.1)) = Z at *
  generalize (ss.zipIdx.all fun p => (!(ss.take p.2).contains p.1)) = A at *
  generalize ls.map ladP = L at *
  generalize ss.map D.int = S at *
  generalize hn : ss.length = n at *
  have h7 : cmpP .gt (.int (n : Int)) (.int 1) = some (decide (1 < n)) := by rw [cm_gt, h5]
  clear h5 hn
  cases hd : decide (1 < n) <;> rw [hd] at h7 <;> clear hd <;> walk_at "ev"
def f_divisors_of : Fn := ⟨1, 3, (.cons (.ret (.com (.nm 2) (.rng2 (.int 2) (.bin .add (.var 0) (.int 1))) (.cons (.cmp .eq (.bin .mod (.var 0) (.var 2)) (.int 0)) .nil) (.var 2) [1, 2])) .nil)⟩
def divsI (n : Int) : List Int := (rgI 2 (n + 1)).filter fun s => n % s == 0
theorem l_divisors_of {R : Rp} {sm : Sst} {n : Int} (h1 : 0 ≤ n) (h2 : n ≤ 1000000) : finP (exPs R f_divisors_of.body ⟨envP f_divisors_of [.int n], sm⟩) = .ok (.lst ((divsI n).map .int)) sm := by
  have hr := rngP_ok (a := 2) (b := n + 1) (by omega) (by omega) (by omega) (by omega)
  have hc : comW R (.nm 2) [1, 2] (.cons (.cmp .eq (.bin .mod (.var 0) (.var 2)) (.int 0)) .nil) (.var 2) ((rgI 2 (n + 1)).map fun i => .one (.int i)) ⟨[some (.sh (.int n)), none, none], sm⟩ = .ok (.ow ((divsI n).map .int)) ⟨[some (.sh (.int n)), none, none], sm⟩ := by
    refine comW_gen (fun i => .one (.int i)) (fun i => [some (.sh (.int n)), none, some (.sh (.int i))]) (fun s => n % s == 0) (fun s => .int s) rfl rfl rfl (fun s hs => ⟨rfl, rfl, ?_, fun _ => rfl⟩) (by rw [len_rgI]; exact Nat.le_trans (m := 1000001) (by omega) (by decide))
    have hm := bn_mod (i := n) (j := s) (by have := (mem_rgI.mp hs).1; omega)
    clear hr h1 h2 hs
    generalize n % s = q at *
    walk_at "ev"
  have ha : binP .add (.int n) (.int 1) = some (.sh (.int (n + 1))) := rfl
  clear h1 h2
  simp only [f_divisors_of]
  generalize (divsI n).map D.int = V at *
  generalize ((rgI 2 (n + 1)).map fun i => PIv.one (.int i)) = I at *
  generalize n + 1 = m at *
  walk_at "ev"
end Ih
end
section
set_option Elab.async false
set_option linter.all false
set_option maxHeartbeats 1000000
namespace Ih
open PySem
local macro_rules | `(tactic| walk_at "ev") => `(tactic| simp [v_var, v_non, v_bl, v_int, v_str, v_bin, v_neg, v_nt, v_and, v_or, v_ife, v_cmp, v_cmp2, v_sub, v_slc, v_rev, v_stpL, v_tup, v_lst, v_dic0, v_call, v_callK, v_bi, v_isi, v_met, v_com, x_ex, x_asg, x_asgT, x_par, x_ret, x_retN, x_ite, x_for, x_whl, x_pas, x_con, xs_nil, xs_cons, varP, opd, tst, shr, pret, pbad, pbnd, pof, rdV, rdVs, rdO, rdOs, lend_s, frzE, frz1, evKs, evPs, evMs, evPO, exoP, evW, walkP, tryP, setP, envP, finP, pd_sh, pd_ow, at_non, at_bl, at_int, at_str, at_lst, at_tup, at_dic0, at_stm, it_lst, it_tup, it_non, it_bl, it_int, it_str, it_dic0, tr_non, tr_bl, tr_int, tr_lst, tr_tup, tr_dic0, is_non, is_bl, is_int, is_str, is_lst, is_tup, is_dic0, nn_non, nn_bl, nn_int, nn_str, nn_lst, nn_tup, nn_dic0, cm_is, cm_isn, cm_lt, cm_le, cm_gt, cm_ge, cm_eqi, cm_nei, cm_eqb, cm_neb, isTy, subP, evCs', occB, occE, occEs, occO, occI, occT, occT.occTs, occS, occSs, sz_eq, *])
def f_check_number (w : Nat) (b : Sxs) : Fn := ⟨1, 1, (.cons (.ite (.or (.nt (.call w (.cons (.var 0) .nil))) (.nt (.cmp2 .le .le (.int 1) (.var 0) (.int 60)))) b .nil) .nil)⟩
theorem l_check_number {R : Rp} {w : Nat} {b : Sxs} {n : Int} {sm : Sst} (hw : R w [.int n] sm = .ok (.bl true) sm) (h1 : 1 ≤ n) (h2 : n ≤ 60) : finP (exPs R (f_check_number w b).body ⟨envP (f_check_number w b) [.int n], sm⟩) = .ok .non sm := by
  have e1 : cmpP .le (.int 1) (.int n) = some true := by rw [cm_le, decide_eq_true h1]
  have e2 : cmpP .le (.int n) (.int 60) = some true := by rw [cm_le, decide_eq_true h2]
  simp only [f_check_number]
  clear h1 h2
  walk_at "ev"
def f_is_unlike_cover (cn kl au dv fm : Nat) : Fn := ⟨2, 6, (.cons (.ex (.call cn (.cons (.var 0) .nil))) (.cons (.asg (.nm 2) (.call kl (.cons (.var 1) .nil))) (.cons (.ite (.or (.cmp .is (.var 2) .non) (.or (.nt (.call au (.cons (.var 2) .nil))) (.nt (.bi .all (.cons (.com (.tp [(.nm 4), (.nm 5)]) (.key 2) .nil (.cmp .inn (.var 5) (.call dv (.cons (.var 0) .nil))) [3, 4, 5]) .nil))))) (.cons (.ret (.bl false)) .nil) .nil) (.cons (.ret (.cmp .is (.call fm (.cons (.var 2) .nil)) .non)) .nil))))⟩
def coverB (n : Int) (d : D) : Bool := match keptOf d with
  | none => false
  | some ls => unlikeB (ls.map (·.2)) && (ls.all fun p => (divsI n).contains p.2) && (missedI ls 0 (rndL ls)).isNone
theorem firstD_non (o : Option Int) : (firstD o).isNon = o.isNone := by cases o <;> rfl
theorem l_is_unlike_cover {R : Rp} {cn kl au dv fm : Nat} {n : Int} {d : D} {sm : Sst} (hcn : R cn [.int n] sm = .ok .non sm) (hkl : R kl [d] sm = .ok (keptD (keptOf d)) sm) (hau : ∀ ls, keptOf d = some ls → R au [.lst (ls.map ladP)] sm = .ok (.bl (unlikeB (ls.map (·.2)))) sm)
    (hdv : R dv [.int n] sm = .ok (.lst ((divsI n).map .int)) sm) (hfm : ∀ ls, keptOf d = some ls → (ls.all fun p => (divsI n).contains p.2) = true → R fm [.lst (ls.map ladP)] sm = .ok (firstD (missedI ls 0 (rndL ls))) sm) (hl : ∀ ls, keptOf d = some ls → ls.length ≤ 1000000) (hd : (divsI n).length ≤ 1000000) :
    finP (exPs R (f_is_unlike_cover cn kl au dv fm).body ⟨envP (f_is_unlike_cover cn kl au dv fm) [.int n, d], sm⟩) = .ok (.bl (coverB n d)) sm := by
  unfold coverB
  simp only [f_is_unlike_cover]
  cases hk : keptOf d with
  | none =>
    rw [hk] at hkl
    simp only [keptD] at hkl
    clear hau hfm hl hk
    walk_at "ev"
  | some ls =>
    rw [hk] at hkl
    have ha := hau ls hk
    have hf := hfm ls hk
    have hls := hl ls hk
    simp only [keptD] at hkl
    clear hau hfm hl hk
    have hc : comW R (.tp [(.nm 4), (.nm 5)]) [3, 4, 5] .nil (.cmp .inn (.var 5) (.call dv (.cons (.var 0) .nil))) (onesP (ls.map ladP)) ⟨[some (.sh (.int n)), some (.sh d), some (.sh (.lst (ls.map ladP))), none, none, none], sm⟩ = .ok (.ow (ls.map fun p => .bl ((divsI n).contains p.2))) ⟨[some (.sh (.int n)), some (.sh d), some (.sh (.lst (ls.map ladP))), none, none, none], sm⟩ := by
      rw [onesP_map, comW_gen (fun p => .one (ladP p)) (fun p => [some (.sh (.int n)), some (.sh d), some (.sh (.lst (ls.map ladP))), none, some (.sh (.int p.1)), some (.sh (.int p.2))]) (fun _ => true) (fun p => .bl ((divsI n).contains p.2)) rfl rfl rfl (fun p hp => ⟨rfl, rfl, rfl, fun _ => ?_⟩) (Nat.le_trans hls (by decide)), List.filter_eq_self.mpr fun _ _ => rfl]
      have hi := in_ints (d := p.2) (ss := divsI n) (Nat.le_trans hd (by decide))
      clear hf ha hkl hd hls hp hcn
      generalize (divsI n).contains p.2 = C at *
      generalize (divsI n).map D.int = V at *
      generalize ls.map ladP = L at *
      generalize p.1 = P1 at *
      generalize p.2 = P2 at *
      walk_at "ev"
    have hb := bi_all (fun p : Int × Int => (divsI n).contains p.2) ls
    clear hdv hls hd
    have hfn := firstD_non (missedI ls 0 (rndL ls))
    simp only
    generalize ls.map (fun p => D.bl ((divsI n).contains p.2)) = Z at *
    generalize (ls.all fun p => (divsI n).contains p.2) = A at *
    generalize unlikeB (ls.map (·.2)) = U at *
    generalize firstD (missedI ls 0 (rndL ls)) = F at *
    generalize (missedI ls 0 (rndL ls)).isNone = N at *
    generalize ls.map ladP = L at *
    cases U
    · clear hf
      walk_at "ev"
    · cases A
      · clear hf
        walk_at "ev"
      · replace hf := hf rfl
        walk_at "ev"
def f_e_has : Fn := ⟨2, 2, (.cons (.ret (.cmp .eq (.bin .mod (.bi .int (.cons (.bin .sub (.var 1) (.sub (.var 0) (.int 0))) .nil)) (.sub (.var 0) (.int 1))) (.int 0))) .nil)⟩
theorem lad_it {d : D} {p : Int × Int} (h : ladOf d = some p) : d.items = some [.int p.1, .int p.2] ∧ 0 ≤ p.1 ∧ p.1 < p.2 := by
  unfold ladOf at h
  split at h
  · rename_i a b e
    split at h
    · rename_i q
      cases h
      exact ⟨e, q⟩
    · cases h
  · cases h
theorem l_e_has {R : Rp} {d : D} {p : Int × Int} {n : Int} {sm : Sst} (h : ladOf d = some p) : finP (exPs R f_e_has.body ⟨envP f_e_has [d, .int n], sm⟩) = .ok (.bl (hasB n p)) sm := by
  obtain ⟨h1, h2, h3⟩ := lad_it h
  have hm := bn_mod (i := n - p.1) (j := p.2) (by omega)
  have hs : binP .sub (.int n) (.int p.1) = some (.sh (.int (n - p.1))) := rfl
  have hi : biP .int [.int (n - p.1)] = some (.sh (.int (n - p.1))) := rfl
  have e : hasB n p = ((n - p.1) % p.2 == 0) := rfl
  rw [e]
  simp only [f_e_has]
  clear h2 h3 e
  have a0 : L2.atI [D.int p.1, D.int p.2] 0 = some (.int p.1) := rfl
  have a1 : L2.atI [D.int p.1, D.int p.2] 1 = some (.int p.2) := rfl
  generalize (n - p.1) % p.2 = q at *
  generalize n - p.1 = m at *
  rcases it_eq h1 with rfl | rfl <;> clear h h1 <;> walk_at "ev"
theorem bi_len (zs : List D) : biP .len [.lst zs] = some (.sh (.int (zs.length : Nat))) := rfl
theorem bi_lenT (zs : List D) : biP .len [.tup zs] = some (.sh (.int (zs.length : Nat))) := rfl
def f_e_had (g : Nat) : Fn := ⟨2, 4, (.cons (.ret (.bi .len (.cons (.com (.nm 3) (.key 0) (.cons (.call g (.cons (.var 3) (.cons (.var 1) .nil))) .nil) (.var 3) [2, 3]) .nil))) .nil)⟩
/-- every thing of xs is a ladder -/
def LadsOk (xs : List D) (ls : List (Int × Int)) : Prop := Paired (fun x p => ladOf x = some p) xs ls
def cntB (ls : List (Int × Int)) (n : Int) : Nat := (ls.filter (hasB n)).length
theorem l_e_had {R : Rp} {g : Nat} {d : D} {xs : List D} {ls : List (Int × Int)} {n : Int} {sm : Sst} (hd : d.items = some xs) (hx : xs.filterMap ladOf = ls ∧ ∀ x ∈ xs, (ladOf x).isSome = true) (hz : xs.length ≤ 1000000) (hg : ∀ x p, ladOf x = some p → R g [x, .int n] sm = .ok (.bl (hasB n p)) sm) :
    finP (exPs R (f_e_had g).body ⟨envP (f_e_had g) [d, .int n], sm⟩) = .ok (.int (cntB ls n : Nat)) sm := by
  have hc : comW R (.nm 3) [2, 3] (.cons (.call g (.cons (.var 3) (.cons (.var 1) .nil))) .nil) (.var 3) (onesP xs) ⟨[some (.sh d), some (.sh (.int n)), none, none], sm⟩ = .ok (.ow (xs.filter fun x => match ladOf x with
      | some p => hasB n p
      | none => false)) ⟨[some (.sh d), some (.sh (.int n)), none, none], sm⟩ := by
    rw [comW_ones (fun x => match ladOf x with
      | some p => hasB n p
      | none => false) (fun x => x) rfl rfl rfl rfl (fun x hx1 => ?_) (Nat.le_trans hz (by decide)), List.map_id']
    cases e : ladOf x with
    | none =>
      have := hx.2 x hx1
      rw [e] at this
      cases this
    | some p =>
      have h := hg x p e
      clear hg hx hz hx1 hd
      dsimp only
      generalize hasB n p = B at *
      refine ⟨rfl, ?_, fun _ => rfl⟩
      walk_at "ev"
  have hlen : (xs.filter fun x => match ladOf x with
      | some p => hasB n p
      | none => false).length = cntB ls n := by
    rw [← hx.1]
    have := hx.2
    clear hx hz hc hd hg
    induction xs with
    | nil => rfl
    | cons x r ih =>
      have ih := ih fun y hy => this y (List.mem_cons_of_mem _ hy)
      have hx := this x List.mem_cons_self
      cases e : ladOf x with
      | none => rw [e] at hx; cases hx
      | some p =>
        unfold cntB at ih ⊢
        rw [List.filterMap_cons, e, List.filter_cons, List.filter_cons, e]
        dsimp only
        split
        · rw [List.length_cons, List.length_cons, ih]
        · exact ih
  have hl := bi_len (xs.filter fun x => match ladOf x with
      | some p => hasB n p
      | none => false)
  rw [hlen] at hl
  clear hg hx hz hlen
  simp only [f_e_had]
  generalize (xs.filter fun x => match ladOf x with
      | some p => hasB n p
      | none => false) = Z at *
  rcases it_eq hd with rfl | rfl <;> walk_at "ev"
end Ih
end
section
set_option Elab.async false
set_option linter.all false
set_option maxHeartbeats 1000000
namespace Ih
open PySem
local macro_rules | `(tactic| walk_at "ev") => `(tactic| simp [v_var, v_non, v_bl, v_int, v_str, v_bin, v_neg, v_nt, v_and, v_or, v_ife, v_cmp, v_cmp2, v_sub, v_slc, v_rev, v_stpL, v_tup, v_lst, v_dic0, v_call, v_callK, v_bi, v_isi, v_met, v_com, x_ex, x_asg, x_asgT, x_par, x_ret, x_retN, x_ite, x_for, x_whl, x_pas, x_con, xs_nil, xs_cons, varP, opd, tst, shr, pret, pbad, pbnd, pof, rdV, rdVs, rdO, rdOs, lend_s, frzE, frz1, evKs, evPs, evMs, evPO, exoP, evW, walkP, tryP, setP, envP, finP, pd_sh, pd_ow, at_non, at_bl, at_int, at_str, at_lst, at_tup, at_dic0, at_stm, it_lst, it_tup, it_non, it_bl, it_int, it_str, it_dic0, tr_non, tr_bl, tr_int, tr_lst, tr_tup, tr_dic0, is_non, is_bl, is_int, is_str, is_lst, is_tup, is_dic0, nn_non, nn_bl, nn_int, nn_str, nn_lst, nn_tup, nn_dic0, cm_is, cm_isn, cm_lt, cm_le, cm_gt, cm_ge, cm_eqi, cm_nei, cm_eqb, cm_neb, isTy, subP, evCs', occB, occE, occEs, occO, occI, occT, occT.occTs, occS, occSs, sz_eq, *])
def f_l_is_number : Fn := ⟨2, 2, (.cons (.ret (.and (.isi (.var 0) [.int]) (.and (.nt (.isi (.var 0) [.bl])) (.and (.cmp .ge (.var 0) (.int 0)) (.or (.cmp .is (.var 1) .non) (.cmp .lt (.var 0) (.var 1))))))) .nil)⟩
def numB (d : D) (m : Int) : Bool := match d with
  | .int i => decide (0 ≤ i) && decide (i < m)
  | _ => false
theorem l_l_is_number {R : Rp} {d : D} {m : Int} {sm : Sst} (h : d.plain = true) : finP (exPs R f_l_is_number.body ⟨envP f_l_is_number [d, .int m], sm⟩) = .ok (.bl (numB d m)) sm := by
  simp only [f_l_is_number]
  cases d with
  | int i =>
    have h1 : cmpP .ge (.int i) (.int 0) = some (decide (0 ≤ i)) := rfl
    have h2 : cmpP .lt (.int i) (.int m) = some (decide (i < m)) := rfl
    have e : numB (.int i) m = (decide (0 ≤ i) && decide (i < m)) := rfl
    rw [e]
    clear e h
    cases q : decide (0 ≤ i) <;> rw [q] at h1 <;> clear q
    · walk_at "ev"
    · cases q : decide (i < m) <;> rw [q] at h2 <;> clear q <;> walk_at "ev"
  | fn _ => cases h
  | scr _ => cases h
  | stm => cases h
  | _ =>
    clear h
    simp only [numB]
    walk_at "ev"
def f_e_is_ladders (nb : Nat) : Fn := ⟨1, 2, (.cons (.ite (.nt (.isi (.var 0) [.lst, .tup])) (.cons (.ret (.bl false)) .nil) .nil) (.cons (.forE (.nm 1) (.seq (.var 0)) (.cons (.ite (.or (.nt (.isi (.var 1) [.lst, .tup])) (.or (.cmp .ne (.bi .len (.cons (.var 1) .nil)) (.int 2)) (.or (.nt (.isi (.sub (.var 1) (.int 1)) [.int])) (.or (.isi (.sub (.var 1) (.int 1)) [.bl]) (.or (.cmp .lt (.sub (.var 1) (.int 1)) (.int 1)) (.nt (.call nb (.cons (.sub (.var 1) (.int 0)) (.cons (.sub (.var 1) (.int 1)) .nil))))))))) (.cons (.ret (.bl false)) .nil) .nil) .nil)) (.cons (.ret (.bl true)) .nil)))⟩
abbrev isl_b (nb : Nat) : Sxs := (.cons (.ite (.or (.nt (.isi (.var 1) [.lst, .tup])) (.or (.cmp .ne (.bi .len (.cons (.var 1) .nil)) (.int 2)) (.or (.nt (.isi (.sub (.var 1) (.int 1)) [.int])) (.or (.isi (.sub (.var 1) (.int 1)) [.bl]) (.or (.cmp .lt (.sub (.var 1) (.int 1)) (.int 1)) (.nt (.call nb (.cons (.sub (.var 1) (.int 0)) (.cons (.sub (.var 1) (.int 1)) .nil))))))))) (.cons (.ret (.bl false)) .nil) .nil) .nil)
/-- plain, and its parts -/
def pl2 (d : D) : Bool := d.plain && (match d.items with
  | some xs => xs.all D.plain
  | none => true)
theorem isl_turn {R : Rp} {nb : Nat} {x0 : Option PV} {x : D} {sm : Sst} (hx : pl2 x = true) (hn : ∀ d m sm, d.plain = true → R nb [d, .int m] sm = .ok (.bl (numB d m)) sm) :
    exPs R (isl_b nb) ⟨[x0, some (.sh x)], sm⟩ = .ok (if (ladOf x).isSome then .nx else .rt (.bl false)) ⟨[x0, some (.sh x)], sm⟩ := by
  have two : ∀ a b : D, x = .lst [a, b] ∨ x = .tup [a, b] → exPs R (isl_b nb) ⟨[x0, some (.sh x)], sm⟩ = .ok (if (ladOf x).isSome then .nx else .rt (.bl false)) ⟨[x0, some (.sh x)], sm⟩ := fun a b e => by
    have ha : a.plain = true ∧ b.plain = true := by
      unfold pl2 at hx
      rcases e with rfl | rfl <;> simp [D.items] at hx <;> exact hx.2
    have hi : x.items = some [a, b] := by rcases e with rfl | rfl <;> rfl
    have a0 : L2.atI [a, b] 0 = some a := rfl
    have a1 : L2.atI [a, b] 1 = some b := rfl
    have hl : biP .len [x] = some (.sh (.int 2)) := by rcases e with rfl | rfl <;> rfl
    cases b with
    | int j =>
      have h1 : cmpP .lt (.int j) (.int 1) = some (decide (j < 1)) := rfl
      have hN := hn a j sm ha.1
      have el : (ladOf x).isSome = (!decide (j < 1) && numB a j) := by
        unfold ladOf
        rw [hi]
        cases a with
        | int i =>
          simp only [numB]
          by_cases q1 : 0 ≤ i
          · by_cases q2 : i < j
            · rw [if_pos ⟨q1, q2⟩, decide_eq_true q1, decide_eq_true q2, decide_eq_false (by omega)]
              rfl
            · rw [if_neg (fun h => q2 h.2), decide_eq_true q1, decide_eq_false q2, Bool.and_false, Bool.and_false]
              rfl
          · rw [if_neg (fun h => q1 h.1), decide_eq_false q1, Bool.false_and, Bool.and_false]
            rfl
        | _ =>
          simp only [numB, Bool.and_false]
          rfl
      rw [el]
      clear hn ha el hx
      rcases e with rfl | rfl <;> (cases q : decide (j < 1) <;> rw [q] at h1 <;> clear q) <;> first
        | (walk_at "ev"; done)
        | (cases q : numB a j <;> rw [q] at hN <;> clear q <;> walk_at "ev")
    | bl k =>
      have el : ladOf x = none := by
        unfold ladOf
        rw [hi]
        cases a <;> rfl
      rw [el]
      clear hn ha el hx
      rcases e with rfl | rfl <;> walk_at "ev"
    | fn _ => cases ha.2
    | scr _ => cases ha.2
    | stm => cases ha.2
    | _ =>
      have el : ladOf x = none := by
        unfold ladOf
        rw [hi]
        cases a <;> rfl
      rw [el]
      clear hn ha el hx
      rcases e with rfl | rfl <;> walk_at "ev"
  have many : ∀ xs : List D, x = .lst xs ∨ x = .tup xs → xs.length ≠ 2 → exPs R (isl_b nb) ⟨[x0, some (.sh x)], sm⟩ = .ok (if (ladOf x).isSome then .nx else .rt (.bl false)) ⟨[x0, some (.sh x)], sm⟩ := fun xs e hne => by
    have el : ladOf x = none := by
      unfold ladOf
      have hi : x.items = some xs := by rcases e with rfl | rfl <;> rfl
      rw [hi]
      match xs, hne with
      | [], _ => rfl
      | [a], _ => cases a <;> rfl
      | [a, b], h => exact absurd rfl h
      | a :: b :: c :: r, _ => cases a <;> cases b <;> rfl
    rw [el]
    have hl : biP .len [x] = some (.sh (.int (xs.length : Nat))) := by rcases e with rfl | rfl <;> rfl
    have hc : cmpP .ne (.int (xs.length : Nat)) (.int 2) = some true := by
      rw [cm_nei]
      have : ((xs.length : Int) == 2) = false := by rw [beq_eq_false_iff_ne]; omega
      rw [this]
      rfl
    clear hn hx hne el
    generalize ((xs.length : Nat) : Int) = m at *
    rcases e with rfl | rfl <;> walk_at "ev"
  cases x with
  | lst xs =>
    by_cases h : xs.length = 2
    · match xs, h with
      | [a, b], _ => exact two a b (.inl rfl)
    · exact many xs (.inl rfl) h
  | tup xs =>
    by_cases h : xs.length = 2
    · match xs, h with
      | [a, b], _ => exact two a b (.inr rfl)
    · exact many xs (.inr rfl) h
  | fn _ => cases hx
  | scr _ => cases hx
  | stm => cases hx
  | _ =>
    have el : ∀ d : D, d.items = none → ladOf d = none := fun d h => by
      unfold ladOf
      rw [h]
    rw [el _ rfl]
    clear hn hx two many el
    walk_at "ev"
theorem isl_for {R : Rp} {nb : Nat} {x0 : Option PV} {sm : Sst} (hn : ∀ d m sm, d.plain = true → R nb [d, .int m] sm = .ok (.bl (numB d m)) sm) : ∀ (xs : List D) (y : Option PV), (∀ x ∈ xs, pl2 x = true) → ∃ y', forW R (.nm 1) (isl_b nb) (onesP xs) ⟨[x0, y], sm⟩ = .ok (if xs.all (fun x => (ladOf x).isSome) then .nx else .rt (.bl false)) ⟨[x0, y'], sm⟩
  | [], y, _ => ⟨y, rfl⟩
  | x :: r, y, h => by
    have ht := isl_turn (R := R) (nb := nb) (x0 := x0) (sm := sm) (h x List.mem_cons_self) hn
    obtain ⟨y', e⟩ := isl_for (R := R) (nb := nb) (x0 := x0) (sm := sm) hn r (some (.sh x)) fun z hz => h z (List.mem_cons_of_mem _ hz)
    rw [List.all_cons]
    cases q : (ladOf x).isSome with
    | true =>
      rw [q, if_pos rfl] at ht
      rw [Bool.true_and]
      exact ⟨y', (forW_nx (env' := [x0, some (.sh x)]) rfl (.inl ht)).trans e⟩
    | false =>
      rw [q, if_neg Bool.false_ne_true] at ht
      exact ⟨some (.sh x), forW_rt (env' := [x0, some (.sh x)]) rfl ht⟩
def allLad (d : D) : Bool := match d.items with
  | some xs => xs.all fun x => (ladOf x).isSome
  | none => false
theorem allLad_kept (d : D) : allLad d = (keptOf d).isSome := by
  unfold allLad keptOf
  cases d.items with
  | none => rfl
  | some xs =>
    dsimp only
    have : (xs.map ladOf).any Option.isNone = !(xs.all fun x => (ladOf x).isSome) := by
      rw [List.any_map]
      induction xs with
      | nil => rfl
      | cons a r ih =>
        rw [List.any_cons, List.all_cons, ih]
        cases h : ladOf a <;> simp [h]
    rw [this]
    cases (xs.all fun x => (ladOf x).isSome) <;> rfl
/-- plain, its parts plain to the second depth, no list too long -/
def pl3 (d : D) : Bool := d.plain && (match d.items with
  | some xs => xs.all pl2 && decide (xs.length ≤ 1000000)
  | none => true)
theorem l_e_is_ladders {R : Rp} {nb : Nat} {d : D} {sm : Sst} (hd : pl3 d = true) (hn : ∀ d m sm, d.plain = true → R nb [d, .int m] sm = .ok (.bl (numB d m)) sm) :
    finP (exPs R (f_e_is_ladders nb).body ⟨envP (f_e_is_ladders nb) [d], sm⟩) = .ok (.bl (allLad d)) sm := by
  have go : ∀ xs, d.items = some xs → finP (exPs R (f_e_is_ladders nb).body ⟨envP (f_e_is_ladders nb) [d], sm⟩) = .ok (.bl (allLad d)) sm := fun xs hi => by
    have hx : ∀ x ∈ xs, pl2 x = true := by
      unfold pl3 at hd
      rw [hi] at hd
      simp only [Bool.and_eq_true, List.all_eq_true] at hd
      exact hd.2.1
    obtain ⟨y', e⟩ := isl_for (R := R) (nb := nb) (x0 := some (.sh d)) (sm := sm) hn xs none hx
    have ea : allLad d = xs.all fun x => (ladOf x).isSome := by unfold allLad; rw [hi]
    rw [ea]
    clear hx hn ea hd
    simp only [f_e_is_ladders]
    cases q : xs.all fun x => (ladOf x).isSome <;> rw [q] at e
    · rw [if_neg Bool.false_ne_true] at e
      rcases it_eq hi with rfl | rfl <;> clear hi <;> walk_at "ev"
    · rw [if_pos rfl] at e
      rcases it_eq hi with rfl | rfl <;> clear hi <;> walk_at "ev"
  cases d with
  | lst xs => exact go xs rfl
  | tup xs => exact go xs rfl
  | fn _ => cases hd
  | scr _ => cases hd
  | stm => cases hd
  | _ =>
    simp only [f_e_is_ladders, allLad, D.items]
    clear hn hd go
    walk_at "ev"
end Ih
end
section
set_option Elab.async false
set_option linter.all false
set_option maxHeartbeats 1000000
namespace Ih
open PySem
local macro_rules | `(tactic| walk_at "ev") => `(tactic| simp [v_var, v_non, v_bl, v_int, v_str, v_bin, v_neg, v_nt, v_and, v_or, v_ife, v_cmp, v_cmp2, v_sub, v_slc, v_rev, v_stpL, v_tup, v_lst, v_dic0, v_call, v_callK, v_bi, v_isi, v_met, v_com, x_ex, x_asg, x_asgT, x_par, x_ret, x_retN, x_ite, x_for, x_whl, x_pas, x_con, xs_nil, xs_cons, varP, opd, tst, shr, pret, pbad, pbnd, pof, rdV, rdVs, rdO, rdOs, lend_s, frzE, frz1, evKs, evPs, evMs, evPO, exoP, evW, walkP, tryP, setP, envP, finP, pd_sh, pd_ow, at_non, at_bl, at_int, at_str, at_lst, at_tup, at_dic0, at_stm, it_lst, it_tup, it_non, it_bl, it_int, it_str, it_dic0, tr_non, tr_bl, tr_int, tr_lst, tr_tup, tr_dic0, is_non, is_bl, is_int, is_str, is_lst, is_tup, is_dic0, nn_non, nn_bl, nn_int, nn_str, nn_lst, nn_tup, nn_dic0, cm_is, cm_isn, cm_lt, cm_le, cm_gt, cm_ge, cm_eqi, cm_nei, cm_eqb, cm_neb, isTy, subP, evCs', occB, occE, occEs, occO, occI, occT, occT.occTs, occS, occSs, sz_eq, *])
def f_unlike : Fn := ⟨1, 3, (.cons (.asg (.nm 1) (.lst .nil)) (.cons (.forE (.nm 2) (.seq (.bi .sorted (.cons (.var 0) .nil))) (.cons (.ex (.met .extend (.var 1) (.cons (.ife (.or (.cmp .eq (.var 1) (.lst .nil)) (.cmp .ne (.sub (.var 1) (.neg (.int 1))) (.var 2))) (.lst (.cons (.var 2) .nil)) (.lst .nil)) .nil))) .nil)) (.cons (.ret (.var 1)) .nil)))⟩
abbrev unl_b : Sxs := (.cons (.ex (.met .extend (.var 1) (.cons (.ife (.or (.cmp .eq (.var 1) (.lst .nil)) (.cmp .ne (.sub (.var 1) (.neg (.int 1))) (.var 2))) (.lst (.cons (.var 2) .nil)) (.lst .nil)) .nil))) .nil)
/-- one thing more, if it is not the last one -/
def putU (acc : List Int) (s : Int) : List Int := match acc.getLast? with
  | none => acc ++ [s]
  | some l => if l = s then acc else acc ++ [s]
theorem at_last {α : Type} (xs : List α) : L2.atI xs (-1) = xs.getLast? := by
  cases xs with
  | nil => rfl
  | cons a r =>
    have e : L2.ixN (a :: r).length (-1) = some r.length := by
      unfold L2.ixN
      rw [if_neg (by omega), if_pos (by rw [List.length_cons]; omega), List.length_cons]
      congr 1
      omega
    unfold L2.atI
    rw [e, List.getLast?_eq_getElem?]
    rfl
theorem eq_nilI {ss : List Int} (h : ss.length ≤ 10000000) : cmpP .eq (.lst (ss.map .int)) (.lst []) = some ss.isEmpty := by
  rw [cm_eq, look_ints h, lk_nil]
  dsimp only
  cases ss <;> rfl
theorem unl_turn {R : Rp} {sm : Sst} {x0 : Option PV} {acc : List Int} {s : Int} (h : acc.length < 1000000) : exPs R unl_b ⟨[x0, some (.ow (acc.map .int)), some (.sh (.int s))], sm⟩ = .ok .nx ⟨[x0, some (.ow ((putU acc s).map .int)), some (.sh (.int s))], sm⟩ := by
  have h1 := eq_nilI (ss := acc) (by omega)
  have hl : acc.length + 1 ≤ sizeLine := by unfold sizeLine; omega
  have ext : ∀ zs : List D, (acc.map D.int).length + zs.length ≤ sizeLine → metP .extend (acc.map D.int) [.lst zs] = some (.non, acc.map D.int ++ zs) := fun zs hz => by
    unfold metP
    dsimp only
    rw [if_pos hz]
  have h2 := ext [.int s] (by rw [List.length_map]; exact hl)
  have h3 := ext [] (by rw [List.length_map]; exact Nat.le_of_lt hl)
  rw [List.append_nil] at h3
  have h4 : L2.atI (acc.map D.int) (-1) = acc.getLast?.map D.int := by rw [at_last, List.getLast?_map]
  cases hg : acc.getLast? with
  | none =>
    have : acc = [] := List.getLast?_eq_none_iff.mp hg
    subst this
    simp only [putU, List.getLast?_nil]
    clear h1 h3 h4 hl h ext hg
    have h1 : cmpP .eq (.lst []) (.lst []) = some true := rfl
    simp only [List.map_nil, List.map_cons, List.nil_append] at h2 ⊢
    walk_at "ev"
  | some l =>
    replace h1 : cmpP .eq (.lst (acc.map .int)) (.lst []) = some false := by
      rw [h1]
      cases acc with
      | nil => cases hg
      | cons a r => rfl
    rw [hg] at h4
    have h5 : cmpP .ne (.int l) (.int s) = some (!(l == s)) := rfl
    simp only [putU, hg]
    by_cases q : l = s
    · rw [if_pos q]
      have e : (l == s) = true := beq_iff_eq.mpr q
      clear hg hl h ext h2 q h5
      simp only [Option.map_some] at h4
      generalize acc.map D.int = A at *
      walk_at "ev"
    · rw [if_neg q]
      have e : (l == s) = false := beq_eq_false_iff_ne.mpr q
      rw [List.map_append, List.map_cons, List.map_nil]
      clear hg hl h ext h3 q h5
      simp only [Option.map_some] at h4
      generalize acc.map D.int = A at *
      walk_at "ev"
theorem putU_len (acc : List Int) (s : Int) : (putU acc s).length ≤ acc.length + 1 := by
  unfold putU
  split
  · rw [List.length_append]; exact Nat.le_refl _
  · split
    · exact Nat.le_succ _
    · rw [List.length_append]; exact Nat.le_refl _
theorem unl_for {R : Rp} {sm : Sst} {x0 : Option PV} : ∀ (ss acc : List Int) (y : Option PV), acc.length + ss.length ≤ 1000000 → ∃ y', forW R (.nm 2) unl_b (onesP (ss.map .int)) ⟨[x0, some (.ow (acc.map .int)), y], sm⟩ = .ok .nx ⟨[x0, some (.ow ((ss.foldl putU acc).map .int)), y'], sm⟩
  | [], acc, y, _ => ⟨y, rfl⟩
  | s :: r, acc, y, h => by
    rw [List.length_cons] at h
    have := putU_len acc s
    obtain ⟨y', e⟩ := unl_for (R := R) (sm := sm) (x0 := x0) r (putU acc s) (some (.sh (.int s))) (by omega)
    exact ⟨y', (forW_nx (env' := [x0, some (.ow (acc.map .int)), some (.sh (.int s))]) rfl (.inl (unl_turn (by omega)))).trans e⟩
def unlI (ss : List Int) : List Int := (sortI ss).foldl putU []
theorem insI_len (x : Int) : ∀ xs : List Int, (insI x xs).length = xs.length + 1
  | [] => rfl
  | y :: r => by
    unfold insI
    split
    · rfl
    · rw [List.length_cons, insI_len x r, List.length_cons]
theorem sortI_len : ∀ xs : List Int, (sortI xs).length = xs.length
  | [] => rfl
  | x :: r => by rw [sortI, insI_len, sortI_len r, List.length_cons]
theorem intsD_int (ss : List Int) : intsD (ss.map D.int) = some ss := by
  have := intsD_map (fun i : Int => i) ss
  rw [List.map_id'] at this
  exact this
theorem l_unlike {R : Rp} {sm : Sst} {ss : List Int} (h : ss.length ≤ 1000000) : finP (exPs R f_unlike.body ⟨envP f_unlike [.lst (ss.map .int)], sm⟩) = .ok (.lst ((unlI ss).map .int)) sm := by
  obtain ⟨y', e⟩ := unl_for (R := R) (sm := sm) (x0 := some (.sh (.lst (ss.map .int)))) (sortI ss) [] none (by rw [sortI_len]; exact (Nat.zero_add _).symm ▸ h)
  have hs : biP .sorted [.lst (ss.map .int)] = some (.ow ((sortI ss).map .int)) := by
    unfold biP
    dsimp only
    rw [intsD_int]
  have eu : (sortI ss).foldl putU [] = unlI ss := rfl
  rw [eu, List.map_nil] at e
  simp only [f_unlike]
  clear h eu
  generalize (unlI ss).map D.int = U at *
  generalize (sortI ss).map D.int = S at *
  generalize ss.map D.int = A at *
  walk_at "ev"
def f_is_unlike (il un had : Nat) : Fn := ⟨2, 7, (.cons (.ite (.or (.nt (.call il (.cons (.var 1) .nil))) (.cmp .lt (.bi .len (.cons (.var 1) .nil)) (.int 2))) (.cons (.ret (.bl false)) .nil) .nil) (.cons (.asg (.nm 2) (.com (.nm 4) (.seq (.var 1)) .nil (.sub (.var 4) (.int 1)) [3, 4])) (.cons (.ite (.or (.cmp .ne (.bi .len (.cons (.call un (.cons (.var 2) .nil)) .nil)) (.bi .len (.cons (.var 2) .nil))) (.nt (.bi .all (.cons (.com (.nm 5) (.key 2) .nil (.and (.cmp .gt (.var 5) (.int 1)) (.cmp .eq (.bin .mod (.bi .int (.cons (.var 0) .nil)) (.var 5)) (.int 0))) [3, 5]) .nil)))) (.cons (.ret (.bl false)) .nil) .nil) (.cons (.ret (.bi .all (.cons (.com (.nm 6) (.rng1 (.var 0)) .nil (.cmp .gt (.call had (.cons (.var 1) (.cons (.var 6) .nil))) (.int 0)) [3, 6]) .nil))) .nil))))⟩
def lawB (n : Int) (d : D) : Bool := match keptOf d with
  | none => false
  | some ls => decide (2 ≤ ls.length) && (((unlI (ls.map (·.2))).length == ls.length) && (ls.all fun p => decide (1 < p.2) && n % p.2 == 0)) && (rgI 0 n).all fun i => decide (0 < cntB ls i)
theorem kept_items {d : D} {ls : List (Int × Int)} (h : keptOf d = some ls) : ∃ xs, d.items = some xs ∧ xs.filterMap ladOf = ls ∧ (∀ x ∈ xs, (ladOf x).isSome = true) ∧ xs.length = ls.length := by
  unfold keptOf at h
  cases hi : d.items with
  | none => rw [hi] at h; cases h
  | some xs =>
    rw [hi] at h
    dsimp only at h
    split at h
    · cases h
    · rename_i q
      cases h
      have all : ∀ x ∈ xs, (ladOf x).isSome = true := fun x hx => by
        cases e : ladOf x with
        | some p => rfl
        | none => exact absurd (List.any_eq_true.mpr ⟨none, List.mem_map.mpr ⟨x, hx, e⟩, rfl⟩) q
      refine ⟨xs, rfl, rfl, all, ?_⟩
      clear hi q
      induction xs with
      | nil => rfl
      | cons x r ih =>
        have hx := all x List.mem_cons_self
        cases e : ladOf x with
        | none => rw [e] at hx; cases hx
        | some p => rw [List.filterMap_cons, e, List.length_cons, List.length_cons, ← ih fun y hy => all y (List.mem_cons_of_mem _ hy)]
/-- the second of a ladder, the thing as it stands -/
def stepOf (x : D) : Int := match ladOf x with
  | some p => p.2
  | none => 1
theorem steps_of {xs : List D} : (∀ x ∈ xs, (ladOf x).isSome = true) → xs.map stepOf = (xs.filterMap ladOf).map (·.2) := by
  intro h
  induction xs with
  | nil => rfl
  | cons x r ih =>
    have hx := h x List.mem_cons_self
    have ih := ih fun y hy => h y (List.mem_cons_of_mem _ hy)
    cases e : ladOf x with
    | none => rw [e] at hx; cases hx
    | some p =>
      rw [List.map_cons, List.filterMap_cons, e, List.map_cons, ih]
      unfold stepOf
      rw [e]
theorem kept_mem {d : D} {ls : List (Int × Int)} (h : keptOf d = some ls) : ∀ p ∈ ls, 0 ≤ p.1 ∧ p.1 < p.2 := fun p hp => by
  obtain ⟨xs, h1, h2, h3, h4⟩ := kept_items h
  rw [← h2] at hp
  obtain ⟨x, hx, e⟩ := List.mem_filterMap.mp hp
  exact (lad_it e).2
theorem isu_steps {R : Rp} {sm : Sst} {n : Int} {d : D} {xs : List D} (h : ∀ x ∈ xs, (ladOf x).isSome = true) (hz : xs.length ≤ 1000000) :
    comW R (.nm 4) [3, 4] .nil (.sub (.var 4) (.int 1)) (onesP xs) ⟨[some (.sh (.int n)), some (.sh d), none, none, none, none, none], sm⟩ = .ok (.ow (xs.map fun x => .int (stepOf x))) ⟨[some (.sh (.int n)), some (.sh d), none, none, none, none, none], sm⟩ := by
  rw [comW_ones (fun _ => true) (fun x => .int (stepOf x)) rfl rfl rfl rfl (fun x hx => ?_) (Nat.le_trans hz (by decide)), List.filter_eq_self.mpr fun _ _ => rfl]
  refine ⟨rfl, rfl, fun _ => ?_⟩
  have hs := h x hx
  cases e : ladOf x with
  | none => rw [e] at hs; cases hs
  | some p =>
    have hp : stepOf x = p.2 := by unfold stepOf; rw [e]
    rw [hp]
    have a1 : L2.atI [D.int p.1, D.int p.2] 1 = some (.int p.2) := rfl
    have hi := (lad_it e).1
    clear e hp hs hx h hz
    rcases it_eq hi with rfl | rfl <;> clear hi <;> walk_at "ev"
theorem isu_divs {R : Rp} {sm : Sst} {n : Int} {d : D} {ss : List Int} (h : ∀ s ∈ ss, 0 < s) (hz : ss.length ≤ 1000000) :
    comW R (.nm 5) [3, 5] .nil (.and (.cmp .gt (.var 5) (.int 1)) (.cmp .eq (.bin .mod (.bi .int (.cons (.var 0) .nil)) (.var 5)) (.int 0))) (onesP (ss.map .int)) ⟨[some (.sh (.int n)), some (.sh d), some (.sh (.lst (ss.map .int))), none, none, none, none], sm⟩ =
      .ok (.ow (ss.map fun s => .bl (decide (1 < s) && n % s == 0))) ⟨[some (.sh (.int n)), some (.sh d), some (.sh (.lst (ss.map .int))), none, none, none, none], sm⟩ := by
  rw [onesP_map, comW_gen (fun s => .one (.int s)) (fun s => [some (.sh (.int n)), some (.sh d), some (.sh (.lst (ss.map .int))), none, none, some (.sh (.int s)), none]) (fun _ => true) (fun s => .bl (decide (1 < s) && n % s == 0)) rfl rfl rfl (fun s hs => ⟨rfl, rfl, rfl, fun _ => ?_⟩) (Nat.le_trans hz (by decide)), List.filter_eq_self.mpr fun _ _ => rfl]
  have hm := bn_mod (i := n) (j := s) (h s hs)
  have hi : biP .int [.int n] = some (.sh (.int n)) := rfl
  have hg : cmpP .gt (.int s) (.int 1) = some (decide (1 < s)) := rfl
  clear h hs hz
  generalize n % s = q at *
  generalize ss.map D.int = S at *
  cases e : decide (1 < s) <;> rw [e] at hg <;> clear e <;> walk_at "ev"
theorem isu_all {R : Rp} {had : Nat} {sm : Sst} {n : Int} {d : D} {e2 : Option PV} {ls : List (Int × Int)} (hh : ∀ i : Int, R had [d, .int i] sm = .ok (.int (cntB ls i : Nat)) sm) (hz : n ≤ 1000000) :
    comW R (.nm 6) [3, 6] .nil (.cmp .gt (.call had (.cons (.var 1) (.cons (.var 6) .nil))) (.int 0)) ((rgI 0 n).map fun i => .one (.int i)) ⟨[some (.sh (.int n)), some (.sh d), e2, none, none, none, none], sm⟩ =
      .ok (.ow ((rgI 0 n).map fun i => .bl (decide (0 < cntB ls i)))) ⟨[some (.sh (.int n)), some (.sh d), e2, none, none, none, none], sm⟩ := by
  rw [comW_gen (fun s => .one (.int s)) (fun s => [some (.sh (.int n)), some (.sh d), e2, none, none, none, some (.sh (.int s))]) (fun _ => true) (fun i => .bl (decide (0 < cntB ls i))) rfl rfl rfl (fun i hi => ⟨rfl, rfl, rfl, fun _ => ?_⟩) (by rw [len_rgI]; exact Nat.le_trans (m := 1000000) (by omega) (by decide)), List.filter_eq_self.mpr fun _ _ => rfl]
  have h := hh i
  have hc : cmpP .gt (.int (cntB ls i : Nat)) (.int 0) = some (decide (0 < cntB ls i)) := by
    rw [cm_gt]
    exact congrArg some (decide_eq_decide.mpr (by omega))
  clear hh hz hi
  generalize decide (0 < cntB ls i) = B at *
  generalize ((cntB ls i : Nat) : Int) = C at *
  walk_at "ev"
theorem l_is_unlike {R : Rp} {il un had : Nat} {sm : Sst} {n : Int} {d : D} (hil : R il [d] sm = .ok (.bl (allLad d)) sm) (hun : ∀ ss : List Int, ss.length ≤ 1000000 → R un [.lst (ss.map .int)] sm = .ok (.lst ((unlI ss).map .int)) sm)
    (hh : ∀ ls, keptOf d = some ls → ∀ i : Int, R had [d, .int i] sm = .ok (.int (cntB ls i : Nat)) sm) (hd : pl3 d = true) (h0 : 0 ≤ n) (hn : n ≤ 1000000) : finP (exPs R (f_is_unlike il un had).body ⟨envP (f_is_unlike il un had) [.int n, d], sm⟩) = .ok (.bl (lawB n d)) sm := by
  unfold lawB
  rw [allLad_kept] at hil
  cases hk : keptOf d with
  | none =>
    rw [hk] at hil
    simp only [Option.isSome] at hil
    simp only [f_is_unlike]
    clear hun hh hd h0 hn hk
    walk_at "ev"
  | some ls =>
    rw [hk] at hil
    simp only [Option.isSome] at hil
    obtain ⟨xs, hi, h1, h2, h3⟩ := kept_items hk
    have hz : xs.length ≤ 1000000 := by
      unfold pl3 at hd
      rw [hi] at hd
      simp only [Bool.and_eq_true, decide_eq_true_eq] at hd
      exact hd.2.2
    have hpos := kept_mem hk
    have c1 := isu_steps (R := R) (sm := sm) (n := n) (d := d) h2 hz
    have es : xs.map (fun x => D.int (stepOf x)) = (ls.map (·.2)).map .int := by
      rw [← h1, ← steps_of h2, List.map_map]
      rfl
    rw [es] at c1
    have hlz : (ls.map (·.2)).length ≤ 1000000 := by rw [List.length_map, ← h3]; exact hz
    have c2 := isu_divs (R := R) (sm := sm) (n := n) (d := d) (ss := ls.map (·.2)) (fun s hs => by
      obtain ⟨p, hp, rfl⟩ := List.mem_map.mp hs
      have := hpos p hp
      omega) hlz
    have c3 := isu_all (R := R) (n := n) (d := d) (e2 := some (.sh (.lst ((ls.map (·.2)).map .int)))) (hh ls hk) hn
    have hu := hun (ls.map (·.2)) hlz
    have b1 := bi_all (fun s => decide (1 < s) && n % s == 0) (ls.map (·.2))
    have b2 := bi_all (fun i => decide (0 < cntB ls i)) (rgI 0 n)
    have ea : ((ls.map (·.2)).all fun s => decide (1 < s) && n % s == 0) = ls.all fun p => decide (1 < p.2) && n % p.2 == 0 := by rw [List.all_map]; rfl
    rw [ea] at b1
    have l1 := bi_len ((unlI (ls.map (·.2))).map .int)
    have l2 := bi_len ((ls.map (·.2)).map .int)
    rw [List.length_map] at l1 l2
    rw [List.length_map] at l2
    have l3 : biP .len [d] = some (.sh (.int (ls.length : Nat))) := by
      rw [← h3]
      rcases it_eq hi with rfl | rfl <;> rfl
    have hr := rngP_ok (a := 0) (b := n) (by omega) (by omega) (by omega) (by omega)
    have k1 : cmpP .lt (.int (ls.length : Nat)) (.int 2) = some (!decide (2 ≤ ls.length)) := by
      rw [cm_lt]
      refine congrArg some ?_
      by_cases q : 2 ≤ ls.length
      · rw [decide_eq_true q, decide_eq_false (by omega)]; rfl
      · rw [decide_eq_false q, decide_eq_true (by omega)]; rfl
    have k2 : cmpP .ne (.int ((unlI (ls.map (·.2))).length : Nat)) (.int (ls.length : Nat)) = some (!((unlI (ls.map (·.2))).length == ls.length)) := by
      rw [cm_nei]
      refine congrArg (fun b => some (!b)) ?_
      by_cases q : (unlI (ls.map (·.2))).length = ls.length
      · rw [beq_iff_eq.mpr q, beq_iff_eq.mpr (by omega)]
      · rw [beq_eq_false_iff_ne.mpr q, beq_eq_false_iff_ne.mpr (by omega)]
    simp only [f_is_unlike]
    have hw : D.items d = some xs := hi
    clear ea hlz hpos hun hh hd h0 hn hk es h1 h2 h3 hz
    generalize ((ls.map (·.2)).map fun s => D.bl (decide (1 < s) && n % s == 0)) = Z1 at *
    generalize ((rgI 0 n).map fun i => D.bl (decide (0 < cntB ls i))) = Z2 at *
    generalize (ls.all fun p => decide (1 < p.2) && n % p.2 == 0) = A1 at *
    generalize ((rgI 0 n).all fun i => decide (0 < cntB ls i)) = A2 at *
    generalize ((unlI (ls.map (·.2))).length == ls.length) = E1 at *
    generalize ((unlI (ls.map (·.2))).length : Int) = N1 at *
    generalize (unlI (ls.map (·.2))).map D.int = U at *
    generalize (ls.map (·.2)).map D.int = S at *
    generalize decide (2 ≤ ls.length) = E2 at *
    generalize ((ls.length : Nat) : Int) = N2 at *
    generalize (rgI 0 n).map (fun i => PIv.one (.int i)) = I at *
    cases E2
    · rcases it_eq hi with rfl | rfl <;> clear hi hw <;> walk_at "ev"
    · cases E1
      · rcases it_eq hi with rfl | rfl <;> clear hi hw <;> walk_at "ev"
      · cases A1 <;> (rcases it_eq hi with rfl | rfl <;> clear hi hw <;> walk_at "ev")
end Ih
end
section
set_option Elab.async false
set_option linter.all false
set_option maxHeartbeats 1000000
namespace Ih
open PySem
local macro_rules | `(tactic| walk_at "ev") => `(tactic| simp [v_var, v_non, v_bl, v_int, v_str, v_bin, v_neg, v_nt, v_and, v_or, v_ife, v_cmp, v_cmp2, v_sub, v_slc, v_rev, v_stpL, v_tup, v_lst, v_dic0, v_call, v_callK, v_bi, v_isi, v_met, v_com, x_ex, x_asg, x_asgT, x_par, x_ret, x_retN, x_ite, x_for, x_whl, x_pas, x_con, xs_nil, xs_cons, varP, opd, tst, shr, pret, pbad, pbnd, pof, rdV, rdVs, rdO, rdOs, lend_s, frzE, frz1, evKs, evPs, evMs, evPO, exoP, evW, walkP, tryP, setP, envP, finP, pd_sh, pd_ow, at_non, at_bl, at_int, at_str, at_lst, at_tup, at_dic0, at_stm, it_lst, it_tup, it_non, it_bl, it_int, it_str, it_dic0, tr_non, tr_bl, tr_int, tr_lst, tr_tup, tr_dic0, is_non, is_bl, is_int, is_str, is_lst, is_tup, is_dic0, nn_non, nn_bl, nn_int, nn_str, nn_lst, nn_tup, nn_dic0, cm_is, cm_isn, cm_lt, cm_le, cm_gt, cm_ge, cm_eqi, cm_nei, cm_eqb, cm_neb, isTy, subP, evCs', occB, occE, occEs, occO, occI, occT, occT.occTs, occS, occSs, sz_eq, *])
/-- a def that draws the next number -/
def Draws (R : Rp) (dw : Nat) : Prop := ∀ (b m : Int) (sm : Sst), SmOk b sm → b < 1099511627776 → 0 < m → m < 1073741824 → ∃ r sm', R dw [.stm, .int m] sm = .ok (.int r) sm' ∧ 0 ≤ r ∧ r < m ∧ SmOk (b + 1) sm'
theorem at_nat {α : Type} {xs : List α} {r : Int} (h0 : 0 ≤ r) (h1 : r < xs.length) : ∃ x, L2.atI xs r = some x ∧ xs[r.toNat]? = some x := by
  have hk : r.toNat < xs.length := by omega
  refine ⟨xs[r.toNat], ?_, List.getElem?_eq_getElem hk⟩
  unfold L2.atI L2.ixN
  rw [if_pos h0, if_pos h1]
  exact List.getElem?_eq_getElem hk
def f_pick (dw : Nat) : Fn := ⟨2, 2, (.cons (.ret (.sub (.var 1) (.call dw (.cons (.var 0) (.cons (.bi .len (.cons (.var 1) .nil)) .nil))))) .nil)⟩
theorem l_pick {R : Rp} {dw : Nat} {b : Int} {sm : Sst} {xs : List D} (hR : Draws R dw) (hs : SmOk b sm) (hb : b < 1099511627776) (h0 : xs ≠ []) (hl : xs.length ≤ 1000000) :
    ∃ x sm', finP (exPs R (f_pick dw).body ⟨envP (f_pick dw) [.stm, .lst xs], sm⟩) = .ok x sm' ∧ x ∈ xs ∧ SmOk (b + 1) sm' := by
  have hp : 0 < xs.length := List.length_pos_iff.mpr h0
  obtain ⟨r, sm', e, r0, r1, h⟩ := hR b xs.length sm hs hb (by omega) (by omega)
  obtain ⟨x, e1, e2⟩ := at_nat (xs := xs) r0 r1
  refine ⟨x, sm', ?_, List.mem_of_getElem? e2, h⟩
  have l1 := bi_len xs
  simp only [f_pick]
  clear hR hs h hl hp r0 r1 e2 h0
  generalize ((xs.length : Nat) : Int) = n at *
  walk_at "ev"
def f_mixed (dw : Nat) : Fn := ⟨2, 5, (.cons (.par 2 3 (.bi .list (.cons (.var 1) .nil)) (.lst .nil)) (.cons (.forE (.nm 4) (.rng1 (.bi .len (.cons (.var 2) .nil))) (.cons (.ex (.met .append (.var 3) (.cons (.met .popi (.var 2) (.cons (.call dw (.cons (.var 0) (.cons (.bi .len (.cons (.var 2) .nil)) .nil))) .nil)) .nil))) .nil)) (.cons (.ret (.var 3)) .nil)))⟩
abbrev mix_b (dw : Nat) : Sxs := (.cons (.ex (.met .append (.var 3) (.cons (.met .popi (.var 2) (.cons (.call dw (.cons (.var 0) (.cons (.bi .len (.cons (.var 2) .nil)) .nil))) .nil)) .nil))) .nil)
theorem pop_nat {xs : List D} {r : Int} {x : D} (h0 : 0 ≤ r) (h1 : r < xs.length) (hl : xs.length ≤ 1000000) (h : xs[r.toNat]? = some x) : metP .popi xs [.int r] = some (x, xs.eraseIdx r.toNat) := by
  unfold metP
  dsimp only
  have hs : seqIndex? r xs.length = some r.toNat := seqIndex_of h0 h1
  rw [zl63, zg63, decide_eq_true (by omega), decide_eq_true (by omega), hs]
  dsimp only [Bool.and_self, if_true]
  rw [h]
  rfl
theorem mix_turn {R : Rp} {dw : Nat} {x1 y : Option PV} {sm sm' : Sst} {r : Int} {left found : List D} {x : D} (e : R dw [.stm, .int (left.length : Nat)] sm = .ok (.int r) sm') (hp : metP .popi left [.int r] = some (x, left.eraseIdx r.toNat)) (hf : found.length < 1000000) :
    exPs R (mix_b dw) ⟨[some (.sh .stm), x1, some (.ow left), some (.ow found), y], sm⟩ = .ok .nx ⟨[some (.sh .stm), x1, some (.ow (left.eraseIdx r.toNat)), some (.ow (found ++ [x])), y], sm'⟩ := by
  have l1 := bi_len left
  have l2 : metP .append found [x] = some (.non, found ++ [x]) := by
    unfold metP
    dsimp only
    rw [if_pos (by unfold sizeLine; omega)]
  clear hf
  generalize ((left.length : Nat) : Int) = n at *
  generalize left.eraseIdx r.toNat = L at *
  walk_at "ev"
theorem erase_perm {α : Type} : ∀ {xs : List α} {k : Nat} (h : k < xs.length), (xs[k] :: xs.eraseIdx k).Perm xs
  | x :: r, 0, _ => List.Perm.refl _
  | x :: r, k + 1, h => by
    have hk : k < r.length := by rw [List.length_cons] at h; omega
    have ih := erase_perm hk
    show (r[k] :: x :: r.eraseIdx k).Perm (x :: r)
    exact (List.Perm.swap x _ _).trans (ih.cons x)
theorem mix_for {R : Rp} {dw : Nat} {x1 : Option PV} (hR : Draws R dw) : ∀ (is : List PIv) (left found : List D) (y : Option PV) (b : Int) (sm : Sst), (∀ i ∈ is, ∃ d, i = .one d) → is.length = left.length → left.length + found.length ≤ 1000000 → SmOk b sm → b + left.length < 1099511627776 →
    ∃ ys y' sm', forW R (.nm 4) (mix_b dw) is ⟨[some (.sh .stm), x1, some (.ow left), some (.ow found), y], sm⟩ = .ok .nx ⟨[some (.sh .stm), x1, some (.ow []), some (.ow ys), y'], sm'⟩ ∧ ys.Perm (found ++ left) ∧ SmOk (b + left.length) sm'
  | [], left, found, y, b, sm, _, hl, _, hs, _ => by
    have : left = [] := List.length_eq_zero_iff.mp hl.symm
    subst this
    exact ⟨found, y, sm, rfl, by rw [List.append_nil], hs.le (by rw [List.length_nil]; omega)⟩
  | i :: is, left, found, y, b, sm, hi, hl, hz, hs, hb => by
    rw [List.length_cons] at hl
    obtain ⟨d, rfl⟩ := hi i List.mem_cons_self
    obtain ⟨r, sm1, e, r0, r1, h⟩ := hR b left.length sm hs (by omega) (by omega) (by omega)
    obtain ⟨x, e1, e2⟩ := at_nat (xs := left) r0 r1
    have hp := pop_nat r0 r1 (by omega) e2
    have hk : r.toNat < left.length := by omega
    have ht := mix_turn (R := R) (x1 := x1) (y := some (.sh d)) e hp (found := found) (by omega)
    have hel : (left.eraseIdx r.toNat).length + 1 = left.length := by rw [List.length_eraseIdx_of_lt hk]; omega
    obtain ⟨ys, y', sm', e3, p3, h3⟩ := mix_for hR is (left.eraseIdx r.toNat) (found ++ [x]) (some (.sh d)) (b + 1) sm1 (fun j hj => hi j (List.mem_cons_of_mem _ hj)) (by omega) (by rw [List.length_append, List.length_cons, List.length_nil]; omega) h (by omega)
    refine ⟨ys, y', sm', (forW_nx (env' := [some (.sh .stm), x1, some (.ow left), some (.ow found), some (.sh d)]) rfl (.inl ht)).trans e3, ?_, h3.le (by omega)⟩
    have ex : left[r.toNat] = x := by
      rw [List.getElem?_eq_getElem hk] at e2
      exact Option.some.inj e2
    have q : (x :: left.eraseIdx r.toNat).Perm left := ex ▸ erase_perm hk
    refine p3.trans ?_
    rw [List.append_assoc]
    exact List.Perm.append_left found q
theorem l_mixed {R : Rp} {dw : Nat} {b : Int} {sm : Sst} {d : D} {xs : List D} (hR : Draws R dw) (hd : d.items = some xs) (hs : SmOk b sm) (hb : b + xs.length < 1099511627776) (hl : xs.length ≤ 1000000) :
    ∃ ys sm', finP (exPs R (f_mixed dw).body ⟨envP (f_mixed dw) [.stm, d], sm⟩) = .ok (.lst ys) sm' ∧ ys.Perm xs ∧ SmOk (b + xs.length) sm' := by
  obtain ⟨ys, y', sm', e, p, h⟩ := mix_for (x1 := some (.sh d)) hR ((rgI 0 xs.length).map fun i => .one (.int i)) xs [] none b sm (fun i hi => by
    obtain ⟨k, _, rfl⟩ := List.mem_map.mp hi
    exact ⟨_, rfl⟩) (by rw [List.length_map, len_rgI]; omega) hl hs hb
  refine ⟨ys, sm', ?_, p, h⟩
  have l1 := bi_len xs
  have hr := rngP_ok (a := 0) (b := xs.length) (by omega) (by omega) (by omega) (by omega)
  have l2 : biP .list [d] = some (.ow xs) := by rcases it_eq hd with rfl | rfl <;> rfl
  simp only [f_mixed]
  clear hR hs h hl hb p hd
  generalize ((xs.length : Nat) : Int) = n at *
  generalize (rgI 0 n).map (fun i => PIv.one (.int i)) = I at *
  walk_at "ev"
def okA : D → Bool
  | .str z => PyData.strOk z
  | .fn _ => false
  | .scr _ => false
  | .stm => false
  | _ => true
/-- a tree of plain things, at most so deep, its lists at most so long -/
def plD (B : Nat) : Nat → D → Bool
  | 0, d => okA d && d.items.isNone
  | n + 1, d => okA d && (match d.items with
    | some xs => decide (xs.length ≤ B) && xs.all (plD B n)
    | none => true)
theorem plD_items {B n : Nat} {d : D} {xs : List D} (h : plD B n d = true) (hi : d.items = some xs) : ∃ m, n = m + 1 ∧ xs.length ≤ B ∧ ∀ x ∈ xs, plD B m x = true := by
  cases n with
  | zero => simp [plD, hi] at h
  | succ m =>
    simp only [plD, hi, Bool.and_eq_true, decide_eq_true_eq, List.all_eq_true] at h
    exact ⟨m, rfl, h.2.1, h.2.2⟩
theorem plD_okA {B n : Nat} {d : D} (h : plD B n d = true) : okA d = true := by
  cases n <;> (unfold plD at h; rw [Bool.and_eq_true] at h; exact h.1)
theorem plD_lst {B n : Nat} {xs : List D} (hl : xs.length ≤ B) (h : ∀ x ∈ xs, plD B n x = true) : plD B (n + 1) (.lst xs) = true := by
  simp only [plD, okA, D.items, Bool.true_and, Bool.and_eq_true, decide_eq_true_eq, List.all_eq_true]
  exact ⟨hl, h⟩
theorem plD_tup {B n : Nat} {xs : List D} (hl : xs.length ≤ B) (h : ∀ x ∈ xs, plD B n x = true) : plD B (n + 1) (.tup xs) = true := by
  simp only [plD, okA, D.items, Bool.true_and, Bool.and_eq_true, decide_eq_true_eq, List.all_eq_true]
  exact ⟨hl, h⟩
theorem plD_mono {B C : Nat} (hB : B ≤ C) : ∀ {n m : Nat} {d : D}, n ≤ m → plD B n d = true → plD C m d = true
  | n, m, d, hn, h => by
    cases hi : d.items with
    | none =>
      have ho := plD_okA h
      cases m <;> (unfold plD; rw [ho, hi]; rfl)
    | some xs =>
      obtain ⟨k, rfl, hl, hx⟩ := plD_items h hi
      obtain ⟨j, rfl⟩ : ∃ j, m = j + 1 := ⟨m - 1, by omega⟩
      have ho := plD_okA h
      unfold plD
      rw [ho, hi]
      simp only [Bool.true_and, Bool.and_eq_true, decide_eq_true_eq, List.all_eq_true]
      exact ⟨Nat.le_trans hl hB, fun x hx' => plD_mono hB (by omega) (hx x hx')⟩
theorem okA_plain {d : D} (h : okA d = true) : d.plain = true := by
  cases d <;> first | rfl | cases h
theorem plD_pl2 {B n : Nat} {d : D} (h : plD B n d = true) : pl2 d = true := by
  unfold pl2
  rw [okA_plain (plD_okA h)]
  cases hi : d.items with
  | none => rfl
  | some xs =>
    obtain ⟨k, rfl, hl, hx⟩ := plD_items h hi
    exact List.all_eq_true.mpr fun x hx' => okA_plain (plD_okA (hx x hx'))
theorem plD_pl3 {B n : Nat} {d : D} (h : plD B n d = true) (hB : B ≤ 1000000) : pl3 d = true := by
  unfold pl3
  rw [okA_plain (plD_okA h)]
  cases hi : d.items with
  | none => rfl
  | some xs =>
    obtain ⟨k, rfl, hl, hx⟩ := plD_items h hi
    have e : xs.all pl2 = true := List.all_eq_true.mpr fun x hx' => plD_pl2 (hx x hx')
    show (true && (xs.all pl2 && decide (xs.length ≤ 1000000))) = true
    rw [e, decide_eq_true (Nat.le_trans hl hB)]
    rfl
def f_same (sm : Nat) : Fn := ⟨2, 5, (.cons (.ite (.isi (.var 1) [.lst, .tup]) (.cons (.ite (.or (.cmp .ne (.isi (.var 0) [.lst]) (.isi (.var 1) [.lst])) (.cmp .ne (.isi (.var 0) [.tup]) (.isi (.var 1) [.tup]))) (.cons (.ret (.bl false)) .nil) .nil) (.cons (.ret (.and (.cmp .eq (.bi .len (.cons (.var 0) .nil)) (.bi .len (.cons (.var 1) .nil))) (.bi .all (.cons (.com (.tp [(.nm 3), (.nm 4)]) (.zip (.var 0) (.var 1)) .nil (.call sm (.cons (.var 3) (.cons (.var 4) .nil))) [2, 3, 4]) .nil)))) .nil)) .nil) (.cons (.ite (.isi (.var 1) [.dic]) (.cons (.ret (.and (.isi (.var 0) [.dic]) (.call sm (.cons (.bi .litm (.cons (.var 0) .nil)) (.cons (.bi .litm (.cons (.var 1) .nil)) .nil))))) .nil) .nil) (.cons (.ite (.or (.isi (.var 1) [.bl]) (.isi (.var 0) [.bl])) (.cons (.ret (.and (.isi (.var 1) [.bl]) (.and (.isi (.var 0) [.bl]) (.cmp .eq (.var 0) (.var 1))))) .nil) .nil) (.cons (.ite (.or (.cmp .is (.var 1) .non) (.cmp .is (.var 0) .non)) (.cons (.ret (.and (.cmp .is (.var 1) .non) (.cmp .is (.var 0) .non))) .nil) .nil) (.cons (.ite (.or (.cmp .ne (.isi (.var 1) [.int]) (.isi (.var 0) [.int])) (.cmp .ne (.isi (.var 1) [.str]) (.isi (.var 0) [.str]))) (.cons (.ret (.bl false)) .nil) .nil) (.cons (.ret (.and (.nt (.isi (.var 0) [.lst, .tup, .dic])) (.cmp .eq (.var 0) (.var 1)))) .nil))))))⟩
theorem zipP_self : ∀ xs : List D, zipP xs xs = xs.map fun x => .many [x, x]
  | [] => rfl
  | x :: r => by rw [zipP, zipP_self r, List.map_cons]
theorem same_com {R : Rp} {g : Nat} {sm : Sst} {d : D} {xs : List D} (h : ∀ x ∈ xs, R g [x, x] sm = .ok (.bl true) sm) (hl : xs.length ≤ 1000000) : comW R (.tp [(.nm 3), (.nm 4)]) [2, 3, 4] .nil (.call g (.cons (.var 3) (.cons (.var 4) .nil))) (zipP xs xs) ⟨[some (.sh d), some (.sh d), none, none, none], sm⟩ = .ok (.ow (xs.map fun x => .bl true)) ⟨[some (.sh d), some (.sh d), none, none, none], sm⟩ := by
  rw [zipP_self, comW_gen (fun x => .many [x, x]) (fun x => [some (.sh d), some (.sh d), none, some (.sh x), some (.sh x)]) (fun _ => true) (fun _ => .bl true) rfl rfl rfl (fun x hx => ⟨rfl, rfl, rfl, fun _ => ?_⟩) (Nat.le_trans hl (by decide)), List.filter_eq_self.mpr fun _ _ => rfl]
  have := h x hx
  clear h hx hl
  walk_at "ev"
theorem l_same {R : Rp} {g : Nat} {sm : Sst} {d : D} (ho : okA d = true) (hx : ∀ xs, d.items = some xs → (∀ x ∈ xs, R g [x, x] sm = .ok (.bl true) sm) ∧ xs.length ≤ 1000000) (hd : R g [.lst [], .lst []] sm = .ok (.bl true) sm) :
    finP (exPs R (f_same g).body ⟨envP (f_same g) [d, d], sm⟩) = .ok (.bl true) sm := by
  have seq : ∀ xs, d = .lst xs ∨ d = .tup xs → finP (exPs R (f_same g).body ⟨envP (f_same g) [d, d], sm⟩) = .ok (.bl true) sm := fun xs e => by
    obtain ⟨h1, h2⟩ := hx xs (by rcases e with rfl | rfl <;> rfl)
    have hc := same_com (d := d) h1 h2
    have hb := bi_all (fun _ : D => true) xs
    have ha : (xs.all fun _ => true) = true := by simp
    rw [ha] at hb
    have l1 : biP .len [d] = some (.sh (.int (xs.length : Nat))) := by rcases e with rfl | rfl <;> rfl
    simp only [f_same]
    clear ha h1 h2 hx hd ho
    generalize ((xs.length : Nat) : Int) = n at *
    generalize xs.map (fun _ => D.bl true) = Y at *
    rcases e with rfl | rfl <;> walk_at "ev"
  cases d with
  | lst xs => exact seq xs (.inl rfl)
  | tup xs => exact seq xs (.inr rfl)
  | fn _ => cases ho
  | scr _ => cases ho
  | stm => cases ho
  | str z =>
    have h1 : cmpP .eq (.str z) (.str z) = some true := by
      rw [cm_eq, lk_str ho]
      dsimp only
      show some (z == z) = _
      rw [beq_self_eq_true]
    simp only [f_same]
    clear hx hd seq ho
    walk_at "ev"
  | dic0 =>
    have h1 : biP .litm [.dic0] = some (.ow []) := rfl
    simp only [f_same]
    clear hx seq ho
    walk_at "ev"
  | _ =>
    simp only [f_same]
    clear hx hd seq ho
    walk_at "ev"
def f_copied (g : Nat) : Fn := ⟨1, 5, (.cons (.ite (.isi (.var 0) [.dic]) (.cons (.ret (.bi .dict (.cons (.com (.nm 3) (.key 0) .nil (.tup (.cons (.var 3) (.cons (.call g (.cons (.sub (.var 0) (.var 3)) .nil)) .nil))) [2, 3]) .nil))) .nil) .nil) (.cons (.asg (.nm 1) (.ife (.isi (.var 0) [.lst, .tup]) (.com (.nm 4) (.key 0) .nil (.call g (.cons (.var 4) .nil)) [2, 4]) (.var 0))) (.cons (.ret (.ife (.isi (.var 0) [.tup]) (.bi .tuple (.cons (.var 1) .nil)) (.var 1))) .nil)))⟩
theorem copied_com {R : Rp} {g : Nat} {sm : Sst} {d : D} {xs : List D} (h : ∀ x ∈ xs, R g [x] sm = .ok x sm) (hl : xs.length ≤ 1000000) : comW R (.nm 4) [2, 4] .nil (.call g (.cons (.var 4) .nil)) (onesP xs) ⟨[some (.sh d), none, none, none, none], sm⟩ = .ok (.ow xs) ⟨[some (.sh d), none, none, none, none], sm⟩ := by
  rw [comW_ones (fun _ => true) (fun x => x) rfl rfl rfl rfl (fun x hx => ⟨rfl, rfl, fun _ => ?_⟩) (Nat.le_trans hl (by decide)), List.filter_eq_self.mpr fun _ _ => rfl, List.map_id']
  have := h x hx
  clear h hx hl
  walk_at "ev"
theorem l_copied {R : Rp} {g : Nat} {sm : Sst} {d : D} (ho : okA d = true) (hx : ∀ xs, d.items = some xs → (∀ x ∈ xs, R g [x] sm = .ok x sm) ∧ xs.length ≤ 1000000) :
    finP (exPs R (f_copied g).body ⟨envP (f_copied g) [d], sm⟩) = .ok d sm := by
  have seq : ∀ xs, d = .lst xs ∨ d = .tup xs → finP (exPs R (f_copied g).body ⟨envP (f_copied g) [d], sm⟩) = .ok d sm := fun xs e => by
    obtain ⟨h1, h2⟩ := hx xs (by rcases e with rfl | rfl <;> rfl)
    have hc := copied_com (d := d) h1 h2
    have l1 : biP .tuple [.lst xs] = some (.sh (.tup xs)) := rfl
    simp only [f_copied]
    clear h1 h2 hx ho
    rcases e with rfl | rfl <;> walk_at "ev"
  cases d with
  | lst xs => exact seq xs (.inl rfl)
  | tup xs => exact seq xs (.inr rfl)
  | fn _ => cases ho
  | scr _ => cases ho
  | stm => cases ho
  | dic0 =>
    have h1 : comW R (.nm 3) [2, 3] .nil (.tup (.cons (.var 3) (.cons (.call g (.cons (.sub (.var 0) (.var 3)) .nil)) .nil))) [] ⟨[some (.sh .dic0), none, none, none, none], sm⟩ = .ok (.ow []) ⟨[some (.sh .dic0), none, none, none, none], sm⟩ := rfl
    have h2 : biP .dict [.lst []] = some (.sh .dic0) := rfl
    simp only [f_copied]
    clear hx seq ho
    walk_at "ev"
  | _ =>
    simp only [f_copied]
    clear hx seq ho
    walk_at "ev"
end Ih
end
section
set_option Elab.async false
set_option linter.all false
set_option maxHeartbeats 1000000
namespace Ih
open PySem
local macro_rules | `(tactic| walk_at "ev") => `(tactic| simp [v_var, v_non, v_bl, v_int, v_str, v_bin, v_neg, v_nt, v_and, v_or, v_ife, v_cmp, v_cmp2, v_sub, v_slc, v_rev, v_stpL, v_tup, v_lst, v_dic0, v_call, v_callK, v_bi, v_isi, v_met, v_com, x_ex, x_asg, x_asgT, x_par, x_ret, x_retN, x_ite, x_for, x_whl, x_pas, x_con, xs_nil, xs_cons, varP, opd, tst, shr, pret, pbad, pbnd, pof, rdV, rdVs, rdO, rdOs, lend_s, frzE, frz1, evKs, evPs, evMs, evPO, exoP, evW, walkP, tryP, setP, envP, finP, pd_sh, pd_ow, at_non, at_bl, at_int, at_str, at_lst, at_tup, at_dic0, at_stm, it_lst, it_tup, it_non, it_bl, it_int, it_str, it_dic0, tr_non, tr_bl, tr_int, tr_lst, tr_tup, tr_dic0, is_non, is_bl, is_int, is_str, is_lst, is_tup, is_dic0, nn_non, nn_bl, nn_int, nn_str, nn_lst, nn_tup, nn_dic0, cm_is, cm_isn, cm_lt, cm_le, cm_gt, cm_ge, cm_eqi, cm_nei, cm_eqb, cm_neb, isTy, subP, evCs', occB, occE, occEs, occO, occI, occT, occT.occTs, occS, occSs, sz_eq, *])
theorem xs_nx {R : Rp} {s : Sx} {ss : Sxs} {σ σ' : Ps} (h : exP R s σ = .ok .nx σ') : exPs R (.cons s ss) σ = exPs R ss σ' := by
  rw [xs_cons]
  unfold pbnd
  rw [h]
theorem xs_rt {R : Rp} {s : Sx} {ss : Sxs} {σ σ' : Ps} {d : D} (h : exP R s σ = .ok (.rt d) σ') : exPs R (.cons s ss) σ = .ok (.rt d) σ' := by
  rw [xs_cons]
  unfold pbnd
  rw [h]
  rfl
def Picks (R : Rp) (pk : Nat) : Prop := ∀ (b : Int) (sm : Sst) (xs : List D), SmOk b sm → b < 1099511627776 → xs ≠ [] → xs.length ≤ 1000000 → ∃ x sm', R pk [.stm, .lst xs] sm = .ok x sm' ∧ x ∈ xs ∧ SmOk (b + 1) sm'
def Bents (R : Rp) (be : Nat) (odds : List D) (B m n : Nat) : Prop := ∀ (b : Int) (sm : Sst) (d : D), SmOk b sm → b + 10 * (n + 1) < 1099511627776 → plD B n d = true → ∃ d' sm', R be [.stm, d, .lst odds] sm = .ok d' sm' ∧ plD (B + 1) (n + m) d' = true ∧ SmOk (b + 10 * (n + 1)) sm'
abbrev be1 (dw pk : Nat) : Sx := (.ite (.or (.nt (.isi (.var 1) [.lst, .tup])) (.or (.cmp .eq (.bi .len (.cons (.var 1) .nil)) (.int 0)) (.cmp .eq (.call dw (.cons (.var 0) (.cons (.int 6) .nil))) (.int 0)))) (.cons (.ret (.call pk (.cons (.var 0) (.cons (.var 2) .nil)))) .nil) .nil)
abbrev be2 (dw : Nat) : Sx := (.par 3 4 (.call dw (.cons (.var 0) (.cons (.bi .len (.cons (.var 1) .nil)) .nil))) (.call dw (.cons (.var 0) (.cons (.int 7) .nil))))
abbrev be3 (be : Nat) : Sx := (.asg (.nm 5) (.ife (.cmp .eq (.var 4) (.int 0)) (.lst .nil) (.ife (.cmp .eq (.var 4) (.int 1)) (.lst (.cons (.sub (.var 1) (.var 3)) (.cons (.sub (.var 1) (.var 3)) .nil))) (.lst (.cons (.call be (.cons (.var 0) (.cons (.sub (.var 1) (.var 3)) (.cons (.var 2) .nil)))) .nil)))))
abbrev be4 : Sx := (.asg (.nm 6) (.ife (.cmp .ne (.var 4) (.int 2)) (.bin .add (.bin .add (.bi .list (.cons (.slc (.var 1) .none (.some (.var 3))) .nil)) (.var 5)) (.bi .list (.cons (.slc (.var 1) (.some (.bin .add (.var 3) (.int 1))) .none) .nil))) (.rev (.bi .list (.cons (.var 1) .nil)))))
abbrev be5 (dw : Nat) : Sx := (.ret (.ife (.cmp .eq (.call dw (.cons (.var 0) (.cons (.int 2) .nil))) (.int 0)) (.bi .tuple (.cons (.var 6) .nil)) (.var 6)))
def f_bent (dw pk be : Nat) : Fn := ⟨3, 7, (.cons (be1 dw pk) (.cons (be2 dw) (.cons (be3 be) (.cons be4 (.cons (be5 dw) .nil)))))⟩
section
variable {R : Rp} {dw pk be : Nat} {d : D} {odds : List D}
theorem be1_pick {sm sm' : Sst} {x : D} (h : ∀ xs, d.items ≠ some xs) (ho : okA d = true) (e : R pk [.stm, .lst odds] sm = .ok x sm') :
    exP R (be1 dw pk) ⟨[some (.sh .stm), some (.sh d), some (.sh (.lst odds)), none, none, none, none], sm⟩ = .ok (.rt x) ⟨[some (.sh .stm), some (.sh d), some (.sh (.lst odds)), none, none, none, none], sm'⟩ := by
  cases d with
  | lst xs => exact absurd rfl (h xs)
  | tup xs => exact absurd rfl (h xs)
  | fn _ => cases ho
  | scr _ => cases ho
  | stm => cases ho
  | _ =>
    clear h ho
    walk_at "ev"
theorem be1_nil {sm sm' : Sst} {x : D} (hi : d.items = some []) (e : R pk [.stm, .lst odds] sm = .ok x sm') :
    exP R (be1 dw pk) ⟨[some (.sh .stm), some (.sh d), some (.sh (.lst odds)), none, none, none, none], sm⟩ = .ok (.rt x) ⟨[some (.sh .stm), some (.sh d), some (.sh (.lst odds)), none, none, none, none], sm'⟩ := by
  have l1 : biP .len [d] = some (.sh (.int 0)) := by rcases it_eq hi with rfl | rfl <;> rfl
  rcases it_eq hi with rfl | rfl <;> clear hi <;> walk_at "ev"
theorem be1_more {sm sm' : Sst} {xs : List D} {r : Int} (hi : d.items = some xs) (hx : xs ≠ []) (e : R dw [.stm, .int 6] sm = .ok (.int r) sm') (hr : r ≠ 0) :
    exP R (be1 dw pk) ⟨[some (.sh .stm), some (.sh d), some (.sh (.lst odds)), none, none, none, none], sm⟩ = .ok .nx ⟨[some (.sh .stm), some (.sh d), some (.sh (.lst odds)), none, none, none, none], sm'⟩ := by
  have l1 : biP .len [d] = some (.sh (.int (xs.length : Nat))) := by rcases it_eq hi with rfl | rfl <;> rfl
  have h0 : 0 < xs.length := List.length_pos_iff.mpr hx
  have l2 : ((xs.length : Int) == 0) = false := beq_eq_false_iff_ne.mpr (by omega)
  have l3 : (r == 0) = false := beq_eq_false_iff_ne.mpr hr
  clear h0 hx hr
  generalize ((xs.length : Nat) : Int) = n at *
  rcases it_eq hi with rfl | rfl <;> clear hi <;> walk_at "ev"
theorem be1_zero {sm sm1 sm' : Sst} {xs : List D} {x : D} (hi : d.items = some xs) (hx : xs ≠ []) (e : R dw [.stm, .int 6] sm = .ok (.int 0) sm1) (e2 : R pk [.stm, .lst odds] sm1 = .ok x sm') :
    exP R (be1 dw pk) ⟨[some (.sh .stm), some (.sh d), some (.sh (.lst odds)), none, none, none, none], sm⟩ = .ok (.rt x) ⟨[some (.sh .stm), some (.sh d), some (.sh (.lst odds)), none, none, none, none], sm'⟩ := by
  have l1 : biP .len [d] = some (.sh (.int (xs.length : Nat))) := by rcases it_eq hi with rfl | rfl <;> rfl
  have h0 : 0 < xs.length := List.length_pos_iff.mpr hx
  have l2 : ((xs.length : Int) == 0) = false := beq_eq_false_iff_ne.mpr (by omega)
  clear h0 hx
  generalize ((xs.length : Nat) : Int) = n at *
  rcases it_eq hi with rfl | rfl <;> clear hi <;> walk_at "ev"
theorem be2_run {sm sm1 sm2 : Sst} {xs : List D} {r w : Int} (hi : d.items = some xs) (e : R dw [.stm, .int (xs.length : Nat)] sm = .ok (.int r) sm1) (e2 : R dw [.stm, .int 7] sm1 = .ok (.int w) sm2) :
    exP R (be2 dw) ⟨[some (.sh .stm), some (.sh d), some (.sh (.lst odds)), none, none, none, none], sm⟩ = .ok .nx ⟨[some (.sh .stm), some (.sh d), some (.sh (.lst odds)), some (.sh (.int r)), some (.sh (.int w)), none, none], sm2⟩ := by
  have l1 : biP .len [d] = some (.sh (.int (xs.length : Nat))) := by rcases it_eq hi with rfl | rfl <;> rfl
  clear hi
  generalize ((xs.length : Nat) : Int) = n at *
  walk_at "ev"
theorem be3_run {sm sm1 : Sst} {xs : List D} {r w : Int} {x y : D} (hi : d.items = some xs) (hx : L2.atI xs r = some x) (e : R be [.stm, x, .lst odds] sm = .ok y sm1) :
    exP R (be3 be) ⟨[some (.sh .stm), some (.sh d), some (.sh (.lst odds)), some (.sh (.int r)), some (.sh (.int w)), none, none], sm⟩ = .ok .nx ⟨[some (.sh .stm), some (.sh d), some (.sh (.lst odds)), some (.sh (.int r)), some (.sh (.int w)), some (.ow (if w = 0 then [] else if w = 1 then [x, x] else [y])), none], if w = 0 then sm else if w = 1 then sm else sm1⟩ := by
  by_cases h0 : w = 0
  · subst h0
    clear e hx
    walk_at "ev"
  · by_cases h1 : w = 1
    · subst h1
      clear e h0
      have l1 : ((1 : Int) == 0) = false := rfl
      rcases it_eq hi with rfl | rfl <;> clear hi <;> walk_at "ev"
    · rw [if_neg h0, if_neg h1, if_neg h0, if_neg h1]
      have l0 : (w == 0) = false := beq_eq_false_iff_ne.mpr h0
      have l1 : (w == 1) = false := beq_eq_false_iff_ne.mpr h1
      clear h0 h1
      rcases it_eq hi with rfl | rfl <;> clear hi <;> walk_at "ev"
theorem sl_toT {xs : List D} {k : Nat} : slcP (.tup xs) none (some (k : Int)) = some (.sh (.tup (xs.take k))) := by
  show some (PV.sh (.tup (cutL xs none (some (k : Int))))) = _
  rw [cut_to]
theorem sl_fromT {xs : List D} {k : Nat} : slcP (.tup xs) (some (k : Int)) none = some (.sh (.tup (xs.drop k))) := by
  show some (PV.sh (.tup (cutL xs (some (k : Int)) none))) = _
  rw [cut_from]
theorem be4_run {sm : Sst} {xs ms : List D} {k : Nat} {w : Int} (hi : d.items = some xs) (hl : xs.length ≤ 1000000) (hm : ms.length ≤ 2) :
    exP R be4 ⟨[some (.sh .stm), some (.sh d), some (.sh (.lst odds)), some (.sh (.int (k : Nat))), some (.sh (.int w)), some (.ow ms), none], sm⟩ = .ok .nx ⟨[some (.sh .stm), some (.sh d), some (.sh (.lst odds)), some (.sh (.int (k : Nat))), some (.sh (.int w)), some (.ow ms), some (.ow (if w = 2 then xs.reverse else xs.take k ++ ms ++ xs.drop (k + 1)))], sm⟩ := by
  have b1 : ∀ zs : List D, biP .list [.lst zs] = some (.ow zs) := fun _ => rfl
  have b2 : ∀ zs : List D, biP .list [.tup zs] = some (.ow zs) := fun _ => rfl
  by_cases h : w = 2
  · subst h
    clear hl hm
    rcases it_eq hi with rfl | rfl <;> clear hi <;> walk_at "ev"
  · rw [if_neg h]
    have l2 : (w == 2) = false := beq_eq_false_iff_ne.mpr h
    have l3 : binP .add (.int (k : Nat)) (.int 1) = some (.sh (.int ((k + 1 : Nat) : Int))) := rfl
    have a1 := bn_addL (xs := xs.take k) (ys := ms) (by rw [List.length_take]; unfold sizeLine; omega)
    have a2 := bn_addL (xs := xs.take k ++ ms) (ys := xs.drop (k + 1)) (by rw [List.length_append, List.length_take, List.length_drop]; unfold sizeLine; omega)
    have s1 := sl_to (xs := xs) (k := k)
    have s2 := sl_from (xs := xs) (k := k + 1)
    have s3 := sl_toT (xs := xs) (k := k)
    have s4 := sl_fromT (xs := xs) (k := k + 1)
    clear h hl hm
    generalize ((k + 1 : Nat) : Int) = k2 at *
    generalize ((k : Nat) : Int) = k1 at *
    generalize xs.take k ++ ms ++ xs.drop (k + 1) = Z at *
    generalize xs.take k ++ ms = Y at *
    generalize xs.take k = X1 at *
    generalize xs.drop (k + 1) = X2 at *
    rcases it_eq hi with rfl | rfl <;> clear hi <;> walk_at "ev"
theorem be5_run {sm sm1 : Sst} {e1 e2 e3 e4 e5 : Option PV} {r : Int} {fs : List D} (e : R dw [.stm, .int 2] sm = .ok (.int r) sm1) :
    ∃ s', exP R (be5 dw) ⟨[some (.sh .stm), e1, e2, e3, e4, e5, some (.ow fs)], sm⟩ = .ok (.rt (if r = 0 then .tup fs else .lst fs)) s' ∧ s'.sm = sm1 := by
  by_cases h : r = 0
  · subst h
    have l1 : biP .tuple [.lst fs] = some (.sh (.tup fs)) := rfl
    refine ⟨⟨[some (.sh .stm), e1, e2, e3, e4, e5, some (.ow fs)], sm1⟩, ?_, rfl⟩
    walk_at "ev"
  · rw [if_neg h]
    have l1 : (r == 0) = false := beq_eq_false_iff_ne.mpr h
    clear h
    refine ⟨⟨[some (.sh .stm), e1, e2, e3, e4, e5, some (.sh (.lst fs))], sm1⟩, ?_, rfl⟩
    walk_at "ev"
theorem l_bent {B m n : Nat} {b : Int} {sm : Sst} (hR : Draws R dw) (hP : Picks R pk) (hB : ∀ k, n = k + 1 → Bents R be odds B m k) (ho : odds ≠ []) (hol : odds.length ≤ 1000000) (hoo : ∀ o ∈ odds, plD B m o = true) (hBl : B ≤ 1000000)
    (hs : SmOk b sm) (hb : b + 10 * (n + 1) < 1099511627776) (hd : plD B n d = true) :
    ∃ d' sm', finP (exPs R (f_bent dw pk be).body ⟨envP (f_bent dw pk be) [.stm, d, .lst odds], sm⟩) = .ok d' sm' ∧ plD (B + 1) (n + m) d' = true ∧ SmOk (b + 10 * (n + 1)) sm' := by
  have he : envP (f_bent dw pk be) [.stm, d, .lst odds] = [some (.sh .stm), some (.sh d), some (.sh (.lst odds)), none, none, none, none] := rfl
  have hbo : (f_bent dw pk be).body = (.cons (be1 dw pk) (.cons (be2 dw) (.cons (be3 be) (.cons be4 (.cons (be5 dw) .nil))))) := rfl
  rw [he, hbo]
  have pick : ∀ (c : Int) (sm1 : Sst), SmOk c sm1 → c < 1099511627776 → ∃ x sm', R pk [.stm, .lst odds] sm1 = .ok x sm' ∧ plD (B + 1) (n + m) x = true ∧ SmOk (c + 1) sm' := fun c sm1 h1 h2 => by
    obtain ⟨x, sm', e, hx, h⟩ := hP c sm1 odds h1 h2 ho hol
    exact ⟨x, sm', e, plD_mono (by omega) (by omega) (hoo x hx), h⟩
  cases hi : d.items with
  | none =>
    obtain ⟨x, sm', e, hx, h⟩ := pick b sm hs (by omega)
    refine ⟨x, sm', ?_, hx, h.le (by omega)⟩
    rw [xs_rt (be1_pick (dw := dw) (fun xs => by rw [hi]; exact fun z => nomatch z) (plD_okA hd) e)]
    rfl
  | some xs =>
    obtain ⟨k, rfl, hl, hx⟩ := plD_items hd hi
    by_cases hnil : xs = []
    · subst hnil
      obtain ⟨x, sm', e, hx, h⟩ := pick b sm hs (by omega)
      refine ⟨x, sm', ?_, hx, h.le (by omega)⟩
      rw [xs_rt (be1_nil (dw := dw) hi e)]
      rfl
    · have hpos : 0 < xs.length := List.length_pos_iff.mpr hnil
      obtain ⟨r, sm1, e1, r0, r1, h1⟩ := hR b 6 sm hs (by omega) (by omega) (by omega)
      by_cases hr : r = 0
      · subst hr
        obtain ⟨x, sm', e, hx, h⟩ := pick (b + 1) sm1 h1 (by omega)
        refine ⟨x, sm', ?_, hx, h.le (by omega)⟩
        rw [xs_rt (be1_zero (dw := dw) hi hnil e1 e)]
        rfl
      · obtain ⟨a, sm2, e2, a0, a1, h2⟩ := hR (b + 1) xs.length sm1 h1 (by omega) (by omega) (by omega)
        obtain ⟨w, sm3, e3, w0, w1, h3⟩ := hR (b + 1 + 1) 7 sm2 h2 (by omega) (by omega) (by omega)
        obtain ⟨x, x1, x2⟩ := at_nat (xs := xs) a0 a1
        obtain ⟨y, sm4, e4, y1, h4⟩ := hB k rfl (b + 1 + 1 + 1) sm3 x h3 (by omega) (hx x (List.mem_of_getElem? x2))
        obtain ⟨j, rfl⟩ : ∃ j : Nat, a = j := ⟨a.toNat, by omega⟩
        have h5 : SmOk (b + 1 + 1 + 1 + 10 * (k + 1)) (if w = 0 then sm3 else if w = 1 then sm3 else sm4) := by
          split
          · exact h3.le (by omega)
          · split
            · exact h3.le (by omega)
            · exact h4
        obtain ⟨t, sm6, e6, t0, t1, h6⟩ := hR _ 2 _ h5 (by omega) (by omega) (by omega)
        have hml : (if w = 0 then [] else if w = 1 then [x, x] else [y] : List D).length ≤ 2 := by
          split
          · exact Nat.zero_le _
          · split
            · exact Nat.le_refl _
            · exact Nat.le_succ _
        obtain ⟨s', e7, h7⟩ := be5_run (dw := dw) (e1 := some (.sh d)) (e2 := some (.sh (.lst odds))) (e3 := some (.sh (.int (j : Nat)))) (e4 := some (.sh (.int w))) (e5 := some (.ow (if w = 0 then [] else if w = 1 then [x, x] else [y]))) (fs := if w = 2 then xs.reverse else xs.take j ++ (if w = 0 then [] else if w = 1 then [x, x] else [y]) ++ xs.drop (j + 1)) e6
        have hxp : plD (B + 1) (k + m) x = true := plD_mono (by omega) (by omega) (hx x (List.mem_of_getElem? x2))
        have hfp : ∀ z ∈ (if w = 2 then xs.reverse else xs.take j ++ (if w = 0 then [] else if w = 1 then [x, x] else [y]) ++ xs.drop (j + 1)), plD (B + 1) (k + m) z = true := fun z hz => by
          split at hz
          · exact plD_mono (by omega) (by omega) (hx z (List.mem_reverse.mp hz))
          · rcases List.mem_append.mp hz with hz | hz
            · rcases List.mem_append.mp hz with hz | hz
              · exact plD_mono (by omega) (by omega) (hx z (List.mem_of_mem_take hz))
              · split at hz
                · exact (List.not_mem_nil hz).elim
                · split at hz
                  · rcases List.mem_cons.mp hz with rfl | hz
                    · exact hxp
                    · rcases List.mem_cons.mp hz with rfl | hz
                      · exact hxp
                      · exact (List.not_mem_nil hz).elim
                  · rcases List.mem_cons.mp hz with rfl | hz
                    · exact y1
                    · exact (List.not_mem_nil hz).elim
            · exact plD_mono (by omega) (by omega) (hx z (List.mem_of_mem_drop hz))
        have hfl : (if w = 2 then xs.reverse else xs.take j ++ (if w = 0 then [] else if w = 1 then [x, x] else [y]) ++ xs.drop (j + 1)).length ≤ B + 1 := by
          split
          · rw [List.length_reverse]; omega
          · rw [List.length_append, List.length_append, List.length_take, List.length_drop]
            omega
        refine ⟨if t = 0 then .tup (if w = 2 then xs.reverse else xs.take j ++ (if w = 0 then [] else if w = 1 then [x, x] else [y]) ++ xs.drop (j + 1)) else .lst (if w = 2 then xs.reverse else xs.take j ++ (if w = 0 then [] else if w = 1 then [x, x] else [y]) ++ xs.drop (j + 1)), sm6, ?_, ?_, h6.le (by omega)⟩
        · rw [xs_nx (be1_more (pk := pk) hi hnil e1 hr), xs_nx (be2_run hi e2 e3), xs_nx (be3_run hi x1 e4), xs_nx (be4_run hi (by omega) hml), xs_rt e7, ← h7]
          rfl
        · have e : k + 1 + m = (k + m) + 1 := by omega
          rw [e]
          split
          · exact plD_tup hfl hfp
          · exact plD_lst hfl hfp
end
end Ih
end
section
set_option Elab.async false
set_option linter.all false
set_option maxHeartbeats 1000000
namespace Ih
open PySem
theorem rndI_dvd : ∀ (ss : List Int) (a : Nat), a ∣ rndI a ss ∧ ∀ s ∈ ss, s.toNat ∣ rndI a ss
  | [], a => ⟨Nat.dvd_refl a, fun _ h => (List.not_mem_nil h).elim⟩
  | s :: r, a => by
    obtain ⟨h1, h2⟩ := rndI_dvd r (Nat.lcm a s.toNat)
    rw [rndI_cons]
    refine ⟨Nat.dvd_trans (Nat.dvd_lcm_left _ _) h1, fun t ht => ?_⟩
    rcases List.mem_cons.mp ht with rfl | ht
    · exact Nat.dvd_trans (Nat.dvd_lcm_right _ _) h1
    · exact h2 t ht
theorem rndI_least : ∀ (ss : List Int) (a n : Nat), a ∣ n → (∀ s ∈ ss, s.toNat ∣ n) → rndI a ss ∣ n
  | [], a, n, h, _ => h
  | s :: r, a, n, h, k => by
    rw [rndI_cons]
    exact rndI_least r _ n (Nat.lcm_dvd h (k s List.mem_cons_self)) fun t ht => k t (List.mem_cons_of_mem _ ht)
theorem rndI_pos : ∀ (ss : List Int) (a : Nat), 0 < a → (∀ s ∈ ss, 0 < s) → 0 < rndI a ss
  | [], a, h, _ => h
  | s :: r, a, h, k => by
    rw [rndI_cons]
    refine rndI_pos r _ (Nat.lcm_pos h ?_) fun t ht => k t (List.mem_cons_of_mem _ ht)
    have := k s List.mem_cons_self
    omega
theorem hasB_iff {n : Int} {p : Int × Int} : hasB n p = true ↔ p.2 ∣ n - p.1 := by
  unfold hasB
  rw [beq_iff_eq]
  exact ⟨Int.dvd_of_emod_eq_zero, Int.emod_eq_zero_of_dvd⟩
theorem hasB_mod {n m : Int} {p : Int × Int} (h : p.2 ∣ m) : hasB (n % m) p = hasB n p := by
  rw [Bool.eq_iff_iff, hasB_iff, hasB_iff]
  have e : n = n % m + m * (n / m) := (Int.emod_add_mul_ediv n m).symm
  have hd : p.2 ∣ m * (n / m) := Int.dvd_trans h (Int.dvd_mul_right _ _)
  constructor
  · intro q
    have := Int.dvd_add q hd
    have e2 : n % m - p.1 + m * (n / m) = n - p.1 := by omega
    rw [e2] at this
    exact this
  · intro q
    have := Int.dvd_sub q hd
    have e2 : n - p.1 - m * (n / m) = n % m - p.1 := by omega
    rw [e2] at this
    exact this
theorem hadB_cnt {ls : List (Int × Int)} {n : Int} : hadB ls n = decide (0 < cntB ls n) := by
  unfold hadB cntB
  rw [Bool.eq_iff_iff, decide_eq_true_eq, List.length_pos_iff, List.any_eq_true]
  constructor
  · rintro ⟨x, hx, h⟩ z
    have : x ∈ ls.filter (hasB n) := List.mem_filter.mpr ⟨hx, h⟩
    rw [z] at this
    exact List.not_mem_nil this
  · intro z
    obtain ⟨x, hx⟩ := List.exists_mem_of_ne_nil _ z
    have := List.mem_filter.mp hx
    exact ⟨x, this.1, this.2⟩
theorem hadB_mod {n m : Int} {ls : List (Int × Int)} (h : ∀ p ∈ ls, p.2 ∣ m) : hadB ls (n % m) = hadB ls n := by
  unfold hadB
  induction ls with
  | nil => rfl
  | cons p r ih =>
    rw [List.any_cons, List.any_cons, hasB_mod (h p List.mem_cons_self), ih fun q hq => h q (List.mem_cons_of_mem _ hq)]
theorem missed_none {ls : List (Int × Int)} {a b : Int} : (missedI ls a b).isNone = true ↔ ∀ i, a ≤ i → i < a + b → hadB ls i = true := by
  unfold missedI
  rw [Option.isNone_iff_eq_none, List.find?_eq_none]
  constructor
  · intro h i h1 h2
    have := h i (mem_rgI.mpr ⟨h1, h2⟩)
    simpa using this
  · intro h i hi
    have := mem_rgI.mp hi
    rw [h i this.1 this.2]
    decide
theorem missed_round {ls : List (Int × Int)} {n : Int} (hn : 0 < n) (h : ∀ p ∈ ls, 0 < p.2 ∧ p.2 ∣ n) : (missedI ls 0 (rndL ls)).isNone = (rgI 0 n).all fun i => decide (0 < cntB ls i) := by
  have hp : ∀ s ∈ ls.map (·.2), 0 < s := fun s hs => by
    obtain ⟨p, hp, rfl⟩ := List.mem_map.mp hs
    exact (h p hp).1
  have hL : 0 < rndL ls := by
    have := rndI_pos (ls.map (·.2)) 1 (by omega) hp
    unfold rndL
    omega
  have hd : ∀ p ∈ ls, p.2 ∣ rndL ls := fun p hp' => by
    have := (rndI_dvd (ls.map (·.2)) 1).2 p.2 (List.mem_map.mpr ⟨p, hp', rfl⟩)
    have h2 := Int.natCast_dvd_natCast.mpr this
    have e : ((p.2.toNat : Nat) : Int) = p.2 := Int.toNat_of_nonneg (by have := (h p hp').1; omega)
    rw [e] at h2
    exact h2
  have hle : rndL ls ≤ n := by
    have : rndI 1 (ls.map (·.2)) ∣ n.toNat := rndI_least _ _ _ (Nat.one_dvd _) fun s hs => by
      obtain ⟨p, hp', rfl⟩ := List.mem_map.mp hs
      have q := (h p hp').2
      have q1 := (h p hp').1
      have e : ((p.2.toNat : Nat) : Int) = p.2 := Int.toNat_of_nonneg (by omega)
      have e2 : ((n.toNat : Nat) : Int) = n := Int.toNat_of_nonneg (by omega)
      rw [← e, ← e2] at q
      exact Int.natCast_dvd_natCast.mp q
    have := Nat.le_of_dvd (by omega) this
    unfold rndL
    omega
  rw [Bool.eq_iff_iff, missed_none, List.all_eq_true]
  constructor
  · intro k i hi
    rw [← hadB_cnt, ← hadB_mod hd]
    exact k _ (Int.emod_nonneg _ (by omega)) (by rw [Int.zero_add]; exact Int.emod_lt_of_pos _ hL)
  · intro k i h1 h2
    rw [hadB_cnt]
    exact k i (mem_rgI.mpr ⟨h1, by omega⟩)
theorem take_nodup (ss : List Int) : (ss.zipIdx.all fun p => !(ss.take p.2).contains p.1) = true ↔ ss.Nodup := by
  rw [List.all_eq_true]
  constructor
  · intro h
    rw [List.nodup_iff_pairwise_ne, List.pairwise_iff_getElem]
    intro i j hi hj hij e
    have hm : (ss[j], j) ∈ ss.zipIdx := by
      rw [List.mk_mem_zipIdx_iff_getElem?]
      exact List.getElem?_eq_getElem hj
    have := h _ hm
    simp only [Bool.not_eq_true', List.contains_eq_mem, decide_eq_false_iff_not] at this
    apply this
    rw [← e, List.mem_take_iff_getElem]
    exact ⟨i, by omega, rfl⟩
  · intro h p hp
    obtain ⟨s, j⟩ := p
    have hj := List.mk_mem_zipIdx_iff_getElem?.mp hp
    simp only [Bool.not_eq_true', List.contains_eq_mem, decide_eq_false_iff_not]
    intro hm
    obtain ⟨i, hi, e⟩ := List.mem_take_iff_getElem.mp hm
    obtain ⟨hjl, ej⟩ := List.getElem?_eq_some_iff.mp hj
    have := List.pairwise_iff_getElem.mp (List.nodup_iff_pairwise_ne.mp h) i j (by omega) hjl (by omega)
    exact this (e.trans ej.symm)
theorem putU_snoc {acc : List Int} {l s : Int} (h : acc.getLast? = some l) (hn : l ≠ s) : putU acc s = acc ++ [s] := by
  unfold putU
  rw [h]
  dsimp only
  rw [if_neg hn]
theorem putU_same {acc : List Int} {l : Int} (h : acc.getLast? = some l) : putU acc l = acc := by
  unfold putU
  rw [h]
  dsimp only
  rw [if_pos rfl]
/-- of things ascending: behind a thing, as many are put as differ from the one ahead -/
theorem fold_putU : ∀ (ss acc : List Int) (l : Int), acc.getLast? = some l → (∀ s ∈ ss, l ≤ s) → ss.Pairwise (· ≤ ·) → ((ss.foldl putU acc).length ≤ acc.length + ss.length ∧ ((ss.foldl putU acc).length = acc.length + ss.length ↔ (l :: ss).Nodup))
  | [], acc, l, h, _, _ => ⟨Nat.le_refl _, by simp⟩
  | s :: r, acc, l, h, hl, hp => by
    obtain ⟨h1, h2⟩ := List.pairwise_cons.mp hp
    rw [List.foldl_cons, List.length_cons]
    by_cases q : l = s
    · subst q
      rw [putU_same h]
      obtain ⟨a1, a2⟩ := fold_putU r acc l h (fun t ht => h1 t ht) h2
      refine ⟨by omega, ⟨fun e => by omega, fun e => ?_⟩⟩
      have := (List.nodup_cons.mp e).1
      exact absurd List.mem_cons_self this
    · rw [putU_snoc h q]
      obtain ⟨a1, a2⟩ := fold_putU r (acc ++ [s]) s (by simp) (fun t ht => h1 t ht) h2
      rw [List.length_append, List.length_cons, List.length_nil] at a1 a2
      refine ⟨by omega, ⟨fun e => ?_, fun e => ?_⟩⟩
      · have hnd := a2.mp (by omega)
        refine List.nodup_cons.mpr ⟨fun hm => ?_, hnd⟩
        rcases List.mem_cons.mp hm with z | hm
        · exact q z
        · have := h1 l hm
          have := hl s List.mem_cons_self
          omega
      · have := a2.mpr (List.nodup_cons.mp e).2
        omega
theorem unlI_len (ss : List Int) : (unlI ss).length = ss.length ↔ ss.Nodup := by
  have hp := sortI_perm ss
  rw [← hp.nodup_iff, ← hp.length_eq]
  unfold unlI
  have hs := sortI_sorted ss
  cases e : sortI ss with
  | nil => simp
  | cons a r =>
    rw [e] at hs
    obtain ⟨h1, h2⟩ := List.pairwise_cons.mp hs
    have := (fold_putU r [a] a rfl h1 h2).2
    rw [List.foldl_cons]
    have e2 : putU [] a = [a] := rfl
    rw [e2, ← this, List.length_cons, List.length_cons, List.length_nil]
    omega
/-- THE PLAIN LAW -/
theorem cover_law {n : Int} {d : D} (hn : 1 ≤ n) : coverB n d = lawB n d := by
  unfold coverB lawB
  cases hk : keptOf d with
  | none => rfl
  | some ls =>
    dsimp only
    have hpos := kept_mem hk
    have hu : unlikeB (ls.map (·.2)) = (decide (2 ≤ ls.length) && ((unlI (ls.map (·.2))).length == ls.length)) := by
      unfold unlikeB
      rw [List.length_map]
      congr 1
      rw [Bool.eq_iff_iff, take_nodup, beq_iff_eq, ← unlI_len, List.length_map]
    have hd : (ls.all fun p => (divsI n).contains p.2) = ls.all fun p => decide (1 < p.2) && n % p.2 == 0 := by
      rw [Bool.eq_iff_iff, List.all_eq_true, List.all_eq_true]
      refine forall_congr' fun p => forall_congr' fun hp => ?_
      unfold divsI
      rw [List.contains_eq_mem, decide_eq_true_eq, List.mem_filter, mem_rgI, Bool.and_eq_true, decide_eq_true_eq]
      constructor
      · rintro ⟨⟨h1, h2⟩, h3⟩
        exact ⟨by omega, h3⟩
      · rintro ⟨h1, h3⟩
        have := Int.le_of_dvd (by omega) (Int.dvd_of_emod_eq_zero (beq_iff_eq.mp h3))
        exact ⟨⟨by omega, by omega⟩, h3⟩
    rw [hu, hd]
    cases q : ls.all fun p => decide (1 < p.2) && n % p.2 == 0 with
    | false => simp
    | true =>
      have hall : ∀ p ∈ ls, 0 < p.2 ∧ p.2 ∣ n := fun p hp => by
        have := List.all_eq_true.mp q p hp
        rw [Bool.and_eq_true, decide_eq_true_eq, beq_iff_eq] at this
        exact ⟨by omega, Int.dvd_of_emod_eq_zero this.2⟩
      rw [missed_round (by omega) hall]
      simp [Bool.and_assoc]
end Ih
end
section
set_option Elab.async false
set_option linter.all false
set_option maxHeartbeats 1000000
namespace Ih
open PySem
/-- a comprehension without a test, its turns by an invariant of the state -/
theorem comW_inv {R : Rp} {tg : Tg} {own : List Nat} {e : Ex} {α : Type} (up : α → PIv) (J : Nat → Ps → Prop) (P : α → D → Prop) (ht : tgIn own tg = true) {xs : List α} {s : Ps}
    (h : ∀ i x s, xs[i]? = some x → J i s → ∃ env' d s1, asgIP tg (up x) s.env = some env' ∧ shr (evF R e) { s with env := env' } = .ok d s1 ∧ P x d ∧ J (i + 1) { s1 with env := wipeP s1.env own })
    (hl : xs.length ≤ sizeLine) (hJ : J 0 { s with env := wipeP s.env own }) : ∃ ds s1, comW R tg own .nil e (xs.map up) s = .ok (.ow ds) { s1 with env := backP s.env s1.env own } ∧ ds.length = xs.length ∧ (∀ d ∈ ds, ∃ x ∈ xs, P x d) ∧ J xs.length s1 := by
  have key : ∀ (ys : List α) (k i : Nat) (s : Ps), (∀ j x, ys[j]? = some x → xs[i + j]? = some x) → i + ys.length = xs.length → k + ys.length ≤ sizeLine → J i s → ∃ ds s1, comP tg own (evCs' R .nil) (shr (evF R e)) k (ys.map up) s = .ok ds s1 ∧ ds.length = ys.length ∧ (∀ d ∈ ds, ∃ x ∈ xs, P x d) ∧ J (i + ys.length) s1 := by
    intro ys
    induction ys with
    | nil => intro k i s _ _ _ hJ; exact ⟨[], s, rfl, rfl, fun _ h => (List.not_mem_nil h).elim, hJ⟩
    | cons y r ih =>
      intro k i s hm hi hk hJ
      rw [List.length_cons] at hi hk
      have hy : xs[i]? = some y := hm 0 y rfl
      obtain ⟨env', d, s1, h1, h2, h3, h4⟩ := h i y s hy hJ
      obtain ⟨ds, s2, e2, l2, p2, j2⟩ := ih (k + 1) (i + 1) _ (fun j x hx => by
        have e : i + 1 + j = i + (j + 1) := by omega
        rw [e]
        exact hm (j + 1) x hx) (by omega) (by omega) h4
      have en : i + (y :: r).length = i + 1 + r.length := by rw [List.length_cons]; omega
      refine ⟨d :: ds, s2, ?_, by rw [List.length_cons, List.length_cons, l2], fun u hu => ?_, en ▸ j2⟩
      · rw [List.map_cons]
        unfold comP
        rw [h1]
        dsimp only
        have : evCs' R .nil { s with env := env' } = .ok true { s with env := env' } := rfl
        rw [this]
        dsimp only
        rw [h2]
        dsimp only
        rw [if_pos (by omega)]
        unfold pbnd
        rw [e2]
        rfl
      · rcases List.mem_cons.mp hu with rfl | hu
        · exact ⟨y, List.mem_of_getElem? hy, h3⟩
        · exact p2 u hu
  obtain ⟨ds, s1, e1, l1, p1, j1⟩ := key xs 0 0 _ (fun j x hx => by rw [Nat.zero_add]; exact hx) (by omega) (by omega) hJ
  refine ⟨ds, s1, ?_, l1, p1, by rw [Nat.zero_add] at j1; exact j1⟩
  unfold comW
  rw [if_pos ht, e1]
theorem draws_run {Q : Prm} {T : List Fn} {k : Nat} (h : Q.draw ≠ Q.strm) : Draws (runP Q T (k + 1)) Q.draw := fun b m sm hs hb h0 h1 => by
  obtain ⟨r, sm', e, r0, r1, h2⟩ := draw_ok hs hb h0 h1
  refine ⟨r, sm', ?_, r0, r1, h2⟩
  unfold runP
  rw [if_neg h, if_pos rfl]
  exact e
theorem strm_run {Q : Prm} {T : List Fn} {k : Nat} {ns : List Int} : runP Q T (k + 1) Q.strm [.scr ns] none = .ok .stm (some (ns, 0, 0, 17)) := by
  unfold runP
  rw [if_pos rfl]
  rfl
theorem sm_start {ns : List Int} (h : ns.length ≤ 63) : SmOk 0 (some (ns, 0, 0, 17)) := ⟨ns, 0, 0, 17, rfl, h, by decide, by decide, by decide, by decide, by decide⟩
end Ih
end
section
set_option Elab.async false
set_option linter.all false
set_option maxHeartbeats 1000000
namespace Ih
open PySem
abbrev Lad := Int × Int
def restOf (left : List Int) (p : Lad) : List Int := left.filter fun x => !hasB x p
def shownL (rec : List Int → List Lad → Option (List Lad)) (left : List Int) : List Lad → Option (List Lad)
  | [] => none
  | p :: later => if left.any (fun x => hasB x p) then (match rec (restOf left p) later with
    | some f => some (p :: f)
    | none => shownL rec left later) else shownL rec left later
def shownI : Nat → List Int → List Lad → Option (List Lad)
  | 0, left, _ => if left.isEmpty then some [] else none
  | n + 1, left, ps => if left.isEmpty then some [] else shownL (shownI n) left ps
theorem shownL_all {rec : List Int → List Lad → Option (List Lad)} {left : List Int} (hn : left ≠ []) : ∀ (ps C : List Lad), (∀ x ∈ left, ∃ c ∈ C, hasB x c = true) → (∀ c ∈ C, (∃ x ∈ left, hasB x c = true) → c ∈ ps) →
    (∀ (left' : List Int) (ps' C' : List Lad), C'.length < C.length → (∀ x ∈ left', ∃ c ∈ C', hasB x c = true) → (∀ c ∈ C', (∃ x ∈ left', hasB x c = true) → c ∈ ps') → rec left' ps' ≠ none) → shownL rec left ps ≠ none
  | [], C, h1, h2, h3 => by
    obtain ⟨x, hx⟩ := List.exists_mem_of_ne_nil _ hn
    obtain ⟨c, hc, hh⟩ := h1 x hx
    exact (List.not_mem_nil (h2 c hc ⟨x, hx, hh⟩)).elim
  | p :: later, C, h1, h2, h3 => by
    unfold shownL
    split
    · rename_i q
      cases e : rec (restOf left p) later with
      | some f => exact fun z => nomatch z
      | none =>
        by_cases hp : p ∈ C
        · refine absurd e (h3 _ _ (C.filter fun c => decide (c ≠ p)) ?_ (fun x hx => ?_) fun c hc hu => ?_)
          · refine List.length_filter_lt_length_iff_exists.mpr ⟨p, hp, by simp⟩
          · unfold restOf at hx
            obtain ⟨x1, x2⟩ := List.mem_filter.mp hx
            obtain ⟨c, hc, hh⟩ := h1 x x1
            refine ⟨c, List.mem_filter.mpr ⟨hc, decide_eq_true fun e => ?_⟩, hh⟩
            rw [e] at hh
            rw [hh] at x2
            cases x2
          · obtain ⟨c1, c2⟩ := List.mem_filter.mp hc
            obtain ⟨x, hx, hh⟩ := hu
            have := h2 c c1 ⟨x, (List.mem_filter.mp hx).1, hh⟩
            rcases List.mem_cons.mp this with z | z
            · exact absurd z (of_decide_eq_true c2)
            · exact z
        · refine shownL_all hn later C h1 (fun c hc hu => ?_) h3
          rcases List.mem_cons.mp (h2 c hc hu) with z | z
          · exact absurd (z ▸ hc) hp
          · exact z
    · rename_i q
      refine shownL_all hn later C h1 (fun c hc hu => ?_) h3
      rcases List.mem_cons.mp (h2 c hc hu) with z | z
      · obtain ⟨x, hx, hh⟩ := hu
        exact absurd (List.any_eq_true.mpr ⟨x, hx, z ▸ hh⟩) q
      · exact z
/-- complete: where so many have all that is left, some are found -/
theorem shownI_all : ∀ (k : Nat) (left : List Int) (ps C : List Lad), C.length ≤ k → (∀ x ∈ left, ∃ c ∈ C, hasB x c = true) → (∀ c ∈ C, (∃ x ∈ left, hasB x c = true) → c ∈ ps) → shownI k left ps ≠ none
  | 0, left, ps, C, hl, h1, h2 => by
    have hC : C = [] := List.length_eq_zero_iff.mp (by omega)
    subst hC
    cases left with
    | nil => exact fun z => nomatch z
    | cons x r =>
      obtain ⟨c, hc, _⟩ := h1 x List.mem_cons_self
      exact (List.not_mem_nil hc).elim
  | k + 1, left, ps, C, hl, h1, h2 => by
    unfold shownI
    cases left with
    | nil => exact fun z => nomatch z
    | cons x r =>
      exact shownL_all (List.cons_ne_nil _ _) ps C h1 h2 fun left' ps' C' hl' k1 k2 => shownI_all k left' ps' C' (by omega) k1 k2
theorem shownL_sound {rec : List Int → List Lad → Option (List Lad)} {k : Nat} {left : List Int} (hr : ∀ l ps f, rec l ps = some f → (∀ x ∈ l, ∃ p ∈ f, hasB x p = true) ∧ (∀ p ∈ f, p ∈ ps) ∧ f.length ≤ k) :
    ∀ (ps f : List Lad), shownL rec left ps = some f → (∀ x ∈ left, ∃ p ∈ f, hasB x p = true) ∧ (∀ p ∈ f, p ∈ ps) ∧ f.length ≤ k + 1
  | [], f, e => by cases e
  | p :: later, f, e => by
    have ih := fun (e : shownL rec left later = some f) => shownL_sound hr later f e
    have up : shownL rec left later = some f → (∀ x ∈ left, ∃ p ∈ f, hasB x p = true) ∧ (∀ q ∈ f, q ∈ p :: later) ∧ f.length ≤ k + 1 := fun e => by
      obtain ⟨a, b, c⟩ := ih e
      exact ⟨a, fun q hq => List.mem_cons_of_mem _ (b q hq), c⟩
    unfold shownL at e
    split at e
    · split at e
      · rename_i f' e1
        cases e
        obtain ⟨a, b, c⟩ := hr _ _ _ e1
        refine ⟨fun x hx => ?_, fun q hq => ?_, by rw [List.length_cons]; omega⟩
        · cases hh : hasB x p with
          | true => exact ⟨p, List.mem_cons_self, hh⟩
          | false =>
            obtain ⟨q, hq, h2⟩ := a x (List.mem_filter.mpr ⟨hx, by rw [hh]; rfl⟩)
            exact ⟨q, List.mem_cons_of_mem _ hq, h2⟩
        · rcases List.mem_cons.mp hq with rfl | hq
          · exact List.mem_cons_self
          · exact List.mem_cons_of_mem _ (b q hq)
      · exact up e
    · exact up e
theorem shownI_sound : ∀ (k : Nat) (left : List Int) (ps f : List Lad), shownI k left ps = some f → (∀ x ∈ left, ∃ p ∈ f, hasB x p = true) ∧ (∀ p ∈ f, p ∈ ps) ∧ f.length ≤ k
  | 0, left, ps, f, e => by
    unfold shownI at e
    cases left with
    | nil => cases e; exact ⟨fun _ h => (List.not_mem_nil h).elim, fun _ h => (List.not_mem_nil h).elim, Nat.le_refl _⟩
    | cons x r => cases e
  | k + 1, left, ps, f, e => by
    unfold shownI at e
    cases left with
    | nil => cases e; exact ⟨fun _ h => (List.not_mem_nil h).elim, fun _ h => (List.not_mem_nil h).elim, Nat.zero_le _⟩
    | cons x r => exact shownL_sound (fun l ps f e => shownI_sound k l ps f e) ps f e
def rowI (ls : List Lad) (n : Int) : List Int := (rgI 0 n).map fun i => if hadB ls i then 1 else 0
/-- the ladders of steps to most without a rung at a nought of a row -/
def withinL (r : List Int) (most : Int) : List Lad := (rgI 1 (min most r.length + 1)).flatMap fun s => ((rgI 0 s).filter fun a => (stepL r a.toNat s.toNat).all fun i => i != 0).map fun a => (a, s)
def withinI (r : List Int) (most : Int) : List Lad := sortK (fun p => p) (withinL r most)
theorem mem_withinI {r : List Int} {most : Int} {p : Lad} : p ∈ withinI r most ↔ (1 ≤ p.2 ∧ p.2 ≤ most ∧ p.2 ≤ r.length) ∧ (0 ≤ p.1 ∧ p.1 < p.2) ∧ (stepL r p.1.toNat p.2.toNat).all (fun i => i != 0) = true := by
  unfold withinI
  rw [(sortK_perm _ _).mem_iff]
  unfold withinL
  rw [List.mem_flatMap]
  constructor
  · rintro ⟨s, hs, hp⟩
    obtain ⟨a, ha, rfl⟩ := List.mem_map.mp hp
    obtain ⟨a1, a2⟩ := List.mem_filter.mp ha
    have h1 := mem_rgI.mp hs
    have h2 := mem_rgI.mp a1
    exact ⟨by omega, h2, a2⟩
  · rintro ⟨h1, h2, h3⟩
    exact ⟨p.2, mem_rgI.mpr (by omega), List.mem_map.mpr ⟨p.1, List.mem_filter.mpr ⟨mem_rgI.mpr h2, h3⟩, rfl⟩⟩
theorem rowI_len {ls : List Lad} {n : Int} : (rowI ls n).length = n.toNat := by
  unfold rowI
  rw [List.length_map, len_rgI]
  omega
theorem rowI_at {ls : List Lad} {n : Int} {m : Nat} (h : (m : Int) < n) : (rowI ls n)[m]? = some (if hadB ls m then 1 else 0) := by
  have e : (rgI 0 n)[m]? = some (m : Int) := by
    unfold rgI
    rw [List.getElem?_map, List.getElem?_range (by omega)]
    simp
  unfold rowI
  rw [List.getElem?_map, e]
  rfl
/-- the rungs of a ladder within stand at no nought -/
theorem step_all {r : List Int} {p : Lad} (h1 : 0 ≤ p.1) (h2 : p.1 < p.2) : (stepL r p.1.toNat p.2.toNat).all (fun i => i != 0) = true ↔ ∀ m : Nat, hasB m p = true → ∀ v, r[m]? = some v → v ≠ 0 := by
  rw [List.all_eq_true]
  constructor
  · intro h m hm v hv
    have hd := hasB_iff.mp hm
    obtain ⟨q, hq⟩ := hd
    have hq0 : 0 ≤ q := by
      rcases Int.lt_or_le q 0 with z | z
      · exfalso
        have : p.2 * q ≤ p.2 * (-1) := Int.mul_le_mul_of_nonneg_left (by omega) (by omega)
        omega
      · exact z
    obtain ⟨q, rfl⟩ := Int.eq_ofNat_of_zero_le hq0
    have em : m = p.1.toNat + p.2.toNat * q := by
      have h3 : ((p.2.toNat : Nat) : Int) = p.2 := Int.toNat_of_nonneg (by omega)
      have h4 : ((p.2.toNat * q : Nat) : Int) = p.2 * (q : Int) := by rw [Int.natCast_mul, h3]
      omega
    have hml : m < r.length := (List.getElem?_eq_some_iff.mp hv).1
    have : v ∈ stepL r p.1.toNat p.2.toNat := by
      unfold stepL
      refine List.mem_filterMap.mpr ⟨q, List.mem_range.mpr ?_, by rw [← em]; exact hv⟩
      have : q ≤ p.2.toNat * q := Nat.le_mul_of_pos_left q (by omega)
      omega
    have := h v this
    simpa using this
  · intro h v hv
    unfold stepL at hv
    obtain ⟨m, _, e⟩ := List.mem_filterMap.mp hv
    have hh : hasB ((p.1.toNat + p.2.toNat * m : Nat) : Int) p = true := by
      refine hasB_iff.mpr ⟨m, ?_⟩
      have h3 : ((p.2.toNat : Nat) : Int) = p.2 := Int.toNat_of_nonneg (by omega)
      have h4 : ((p.2.toNat * m : Nat) : Int) = p.2 * (m : Int) := by rw [Int.natCast_mul, h3]
      omega
    have := h _ hh v e
    simpa using this
def onesI (r : List Int) : List Int := (r.zipIdx.filter fun z => z.1 != 0).map fun z => (z.2 : Int)
theorem mem_onesI {r : List Int} {x : Int} : x ∈ onesI r ↔ ∃ m : Nat, x = m ∧ ∃ v, r[m]? = some v ∧ v ≠ 0 := by
  unfold onesI
  rw [List.mem_map]
  constructor
  · rintro ⟨z, hz, rfl⟩
    obtain ⟨z1, z2⟩ := List.mem_filter.mp hz
    obtain ⟨v, m⟩ := z
    have := List.mk_mem_zipIdx_iff_getElem?.mp z1
    exact ⟨m, rfl, v, this, by simpa using z2⟩
  · rintro ⟨m, rfl, v, hv, hn⟩
    exact ⟨(v, m), List.mem_filter.mpr ⟨List.mk_mem_zipIdx_iff_getElem?.mpr hv, by simpa using hn⟩, rfl⟩
/-- the first list of as few ladders -/
def fewI (ones : List Int) (ps : List Lad) : Option (List Lad) := (List.range (ones.length + 1)).findSome? fun k => shownI k ones ps
structure Lads (ls : List Lad) : Prop where
  ok : ∀ p ∈ ls, 0 ≤ p.1 ∧ p.1 < p.2
section
variable {ls : List Lad} {n : Int}
theorem lads_within (h : Lads ls) (hs : ∀ p ∈ ls, p.2 ≤ 8) (hn : 9 ≤ n) : ∀ p ∈ ls, p ∈ withinI (rowI ls n) 8 := fun p hp => by
  obtain ⟨h1, h2⟩ := h.ok p hp
  have h3 := hs p hp
  refine mem_withinI.mpr ⟨⟨by omega, h3, by rw [rowI_len]; omega⟩, ⟨h1, h2⟩, (step_all h1 h2).mpr fun m hm v hv => ?_⟩
  have hml := (List.getElem?_eq_some_iff.mp hv).1
  rw [rowI_len] at hml
  rw [rowI_at (by omega)] at hv
  have hh : hadB ls m = true := List.any_eq_true.mpr ⟨p, hp, hm⟩
  rw [hh, if_pos rfl] at hv
  have := Option.some.inj hv
  omega
theorem ones_had : ∀ x ∈ onesI (rowI ls n), hadB ls x = true := fun x hx => by
  obtain ⟨m, rfl, v, hv, hz⟩ := mem_onesI.mp hx
  have hml := (List.getElem?_eq_some_iff.mp hv).1
  rw [rowI_len] at hml
  rw [rowI_at (by omega)] at hv
  cases hh : hadB ls m with
  | true => rfl
  | false =>
    rw [hh] at hv
    exact absurd (Option.some.inj hv).symm hz
/-- ladders within that have all ones show the row -/
theorem row_shown {f : List Lad} (h1 : ∀ p ∈ f, p ∈ withinI (rowI ls n) 8) (h2 : ∀ x ∈ onesI (rowI ls n), ∃ p ∈ f, hasB x p = true) : rowI f n = rowI ls n := by
  refine List.ext_getElem? fun m => ?_
  by_cases hm : (m : Int) < n
  · rw [rowI_at hm, rowI_at hm]
    congr 1
    have : hadB f m = hadB ls m := by
      cases hh : hadB ls m with
      | true =>
        have hx : (m : Int) ∈ onesI (rowI ls n) := mem_onesI.mpr ⟨m, rfl, 1, by rw [rowI_at hm, hh, if_pos rfl], by decide⟩
        obtain ⟨p, hp, e⟩ := h2 _ hx
        exact List.any_eq_true.mpr ⟨p, hp, e⟩
      | false =>
        rw [Bool.eq_false_iff]
        intro z
        obtain ⟨p, hp, e⟩ := List.any_eq_true.mp z
        obtain ⟨_, ⟨a, b⟩, c⟩ := mem_withinI.mp (h1 p hp)
        refine (step_all a b).mp c m e 0 ?_ rfl
        rw [rowI_at hm, hh]
        rfl
    rw [this]
  · rw [List.getElem?_eq_none (by rw [rowI_len]; omega), List.getElem?_eq_none (by rw [rowI_len]; omega)]
/-- the search finds ladders, no more of them than any that have all -/
theorem few_found (C : List Lad) (hC : ∀ p ∈ C, p ∈ withinI (rowI ls n) 8) (hc : ∀ x ∈ onesI (rowI ls n), ∃ c ∈ C, hasB x c = true) :
    ∃ f, fewI (onesI (rowI ls n)) (withinI (rowI ls n) 8) = some f ∧ f.length ≤ C.length ∧ (∀ p ∈ f, p ∈ withinI (rowI ls n) 8) ∧ ∀ x ∈ onesI (rowI ls n), ∃ p ∈ f, hasB x p = true := by
  generalize onesI (rowI ls n) = ones at *
  generalize withinI (rowI ls n) 8 = ps at *
  have pick : ∃ D : List Lad, D.length = ones.length ∧ (∀ p ∈ D, p ∈ ps) ∧ ∀ x ∈ ones, ∃ c ∈ D, hasB x c = true := by
    induction ones with
    | nil => exact ⟨[], rfl, fun _ h => (List.not_mem_nil h).elim, fun _ h => (List.not_mem_nil h).elim⟩
    | cons x r ih =>
      obtain ⟨D, d1, d2, d3⟩ := ih fun y hy => hc y (List.mem_cons_of_mem _ hy)
      obtain ⟨c, c1, c2⟩ := hc x List.mem_cons_self
      refine ⟨c :: D, by rw [List.length_cons, List.length_cons, d1], fun p hp => ?_, fun y hy => ?_⟩
      · rcases List.mem_cons.mp hp with rfl | hp
        · exact hC _ c1
        · exact d2 p hp
      · rcases List.mem_cons.mp hy with rfl | hy
        · exact ⟨c, List.mem_cons_self, c2⟩
        · obtain ⟨d, e1, e2⟩ := d3 y hy
          exact ⟨d, List.mem_cons_of_mem _ e1, e2⟩
  obtain ⟨D, d1, d2, d3⟩ := pick
  have best : ∃ B : List Lad, B.length ≤ C.length ∧ B.length ≤ ones.length ∧ (∀ p ∈ B, p ∈ ps) ∧ ∀ x ∈ ones, ∃ c ∈ B, hasB x c = true := by
    by_cases h : C.length ≤ ones.length
    · exact ⟨C, Nat.le_refl _, h, hC, hc⟩
    · exact ⟨D, by omega, by omega, d2, d3⟩
  obtain ⟨B, b1, b2, b3, b4⟩ := best
  have hB := shownI_all B.length ones ps B (Nat.le_refl _) b4 fun c hc _ => b3 c hc
  unfold fewI
  have key : ∀ (a k : Nat), (∀ j, j < a → shownI j ones ps = none) → a + k = ones.length + 1 → a ≤ B.length → ∃ f, (List.range' a k).findSome? (fun k => shownI k ones ps) = some f ∧ f.length ≤ C.length ∧ (∀ p ∈ f, p ∈ ps) ∧ ∀ x ∈ ones, ∃ p ∈ f, hasB x p = true := by
    intro a k
    induction k generalizing a with
    | zero => intro _ h1 h2; omega
    | succ k ih =>
      intro h1 h2 h3
      rw [List.range'_succ, List.findSome?_cons]
      cases e : shownI a ones ps with
      | some f =>
        obtain ⟨s1, s2, s3⟩ := shownI_sound a ones ps f e
        exact ⟨f, rfl, by omega, s2, s1⟩
      | none =>
        have hne : a ≠ B.length := fun z => hB (z ▸ e)
        exact ih (a + 1) (fun j hj => by
          rcases Nat.lt_succ_iff_lt_or_eq.mp hj with z | z
          · exact h1 j z
          · rw [z]; exact e) (by omega) (by omega)
  rw [List.range_eq_range']
  exact key 0 _ (fun _ h => absurd h (Nat.not_lt_zero _)) (by omega) (Nat.zero_le _)
end
end Ih
end
section
set_option Elab.async false
set_option linter.all false
set_option maxHeartbeats 1000000
namespace Ih
open PySem
local macro_rules | `(tactic| walk_at "ev") => `(tactic| simp [v_var, v_non, v_bl, v_int, v_str, v_bin, v_neg, v_nt, v_and, v_or, v_ife, v_cmp, v_cmp2, v_sub, v_slc, v_rev, v_stpL, v_tup, v_lst, v_dic0, v_call, v_callK, v_bi, v_isi, v_met, v_com, x_ex, x_asg, x_asgT, x_par, x_ret, x_retN, x_ite, x_for, x_whl, x_pas, x_con, xs_nil, xs_cons, varP, opd, tst, shr, pret, pbad, pbnd, pof, rdV, rdVs, rdO, rdOs, lend_s, frzE, frz1, evKs, evPs, evMs, evPO, exoP, evW, walkP, tryP, setP, envP, finP, pd_sh, pd_ow, at_non, at_bl, at_int, at_str, at_lst, at_tup, at_dic0, at_stm, it_lst, it_tup, it_non, it_bl, it_int, it_str, it_dic0, tr_non, tr_bl, tr_int, tr_lst, tr_tup, tr_dic0, is_non, is_bl, is_int, is_str, is_lst, is_tup, is_dic0, nn_non, nn_bl, nn_int, nn_str, nn_lst, nn_tup, nn_dic0, cm_is, cm_isn, cm_lt, cm_le, cm_gt, cm_ge, cm_eqi, cm_nei, cm_eqb, cm_neb, isTy, subP, evCs', occB, occE, occEs, occO, occI, occT, occT.occTs, occS, occSs, sz_eq, *])
def f_need_ladders (kl : Nat) (b : Sxs) : Fn := ⟨1, 2, (.cons (.asg (.nm 1) (.call kl (.cons (.var 0) .nil))) (.cons (.ite (.cmp .is (.var 1) .non) b .nil) (.cons (.ret (.var 1)) .nil)))⟩
theorem l_need_ladders {R : Rp} {kl : Nat} {b : Sxs} {d : D} {xs : List D} {sm : Sst} (h : R kl [d] sm = .ok (.lst xs) sm) : finP (exPs R (f_need_ladders kl b).body ⟨envP (f_need_ladders kl b) [d], sm⟩) = .ok (.lst xs) sm := by
  simp only [f_need_ladders]
  walk_at "ev"
def Row01 (r : List Int) : Prop := r ≠ [] ∧ ∀ i ∈ r, i = 0 ∨ i = 1
def f_need_shown (l w : Nat) (b : Sxs) : Fn := ⟨1, 3, (.cons (.ite (.or (.nt (.call l (.cons (.var 0) .nil))) (.or (.cmp .eq (.bi .len (.cons (.var 0) .nil)) (.int 0)) (.nt (.bi .all (.cons (.com (.nm 2) (.key 0) .nil (.and (.call w (.cons (.var 2) .nil)) (.cmp .inn (.var 2) (.tup (.cons (.int 0) (.cons (.int 1) .nil))))) [1, 2]) .nil))))) b .nil) (.cons (.ret (.bi .list (.cons (.var 0) .nil))) .nil))⟩
theorem l_need_shown {R : Rp} {l w : Nat} {b : Sxs} {r : List Int} {sm : Sst} (hr : Row01 r) (hz : r.length ≤ 1000000) (hl : R l [.lst (r.map .int)] sm = .ok (.bl true) sm) (hw : ∀ i : Int, R w [.int i] sm = .ok (.bl true) sm) :
    finP (exPs R (f_need_shown l w b).body ⟨envP (f_need_shown l w b) [.lst (r.map .int)], sm⟩) = .ok (.lst (r.map .int)) sm := by
  have hc : comW R (.nm 2) [1, 2] .nil (.and (.call w (.cons (.var 2) .nil)) (.cmp .inn (.var 2) (.tup (.cons (.int 0) (.cons (.int 1) .nil))))) (onesP (r.map .int)) ⟨[some (.sh (.lst (r.map .int))), none, none], sm⟩ = .ok (.ow (r.map fun _ => .bl true)) ⟨[some (.sh (.lst (r.map .int))), none, none], sm⟩ := by
    rw [onesP_map, comW_gen (fun i => .one (.int i)) (fun i => [some (.sh (.lst (r.map .int))), none, some (.sh (.int i))]) (fun _ => true) (fun _ => .bl true) rfl rfl rfl (fun i hi => ⟨rfl, rfl, rfl, fun _ => ?_⟩) (Nat.le_trans hz (by decide)), List.filter_eq_self.mpr fun _ _ => rfl]
    have h1 := hw i
    have h2 : cmpP .inn (.int i) (.tup [.int 0, .int 1]) = some true := by
      rcases hr.2 i hi with rfl | rfl <;> rfl
    clear hw hi hr hz hl
    generalize r.map D.int = S at *
    walk_at "ev"
  have h0 : 0 < r.length := List.length_pos_iff.mpr hr.1
  have h1 := bi_all (fun _ : Int => true) r
  have h2 : (r.all fun _ => true) = true := by simp
  rw [h2] at h1
  have h3 := bi_len (r.map .int)
  rw [List.length_map] at h3
  have h4 : ((r.length : Int) == 0) = false := beq_eq_false_iff_ne.mpr (by omega)
  have h5 : biP .list [.lst (r.map .int)] = some (.ow (r.map .int)) := rfl
  simp only [f_need_shown]
  clear hr hz hw h0 h2
  generalize r.map (fun _ => D.bl true) = Z at *
  generalize r.map D.int = S at *
  generalize ((r.length : Nat) : Int) = n at *
  walk_at "ev"
def f_row_by : Fn := ⟨2, 6, (.cons (.ret (.com (.nm 3) (.rng1 (.var 1)) .nil (.bi .int (.cons (.bi .any (.cons (.com (.tp [(.nm 4), (.nm 5)]) (.key 0) .nil (.cmp .eq (.bin .mod (.bin .sub (.var 3) (.var 4)) (.var 5)) (.int 0)) [2, 4, 5]) .nil)) .nil)) [2, 3])) .nil)⟩
theorem row_in {R : Rp} {ls : List Lad} {i n : Int} {sm : Sst} (h : ∀ p ∈ ls, 0 < p.2) (hz : ls.length ≤ 1000000) :
    comW R (.tp [(.nm 4), (.nm 5)]) [2, 4, 5] .nil (.cmp .eq (.bin .mod (.bin .sub (.var 3) (.var 4)) (.var 5)) (.int 0)) (onesP (ls.map ladP)) ⟨[some (.sh (.lst (ls.map ladP))), some (.sh (.int n)), none, some (.sh (.int i)), none, none], sm⟩ =
      .ok (.ow (ls.map fun p => .bl (hasB i p))) ⟨[some (.sh (.lst (ls.map ladP))), some (.sh (.int n)), none, some (.sh (.int i)), none, none], sm⟩ := by
  rw [onesP_map, comW_gen (fun p => .one (ladP p)) (fun p => [some (.sh (.lst (ls.map ladP))), some (.sh (.int n)), none, some (.sh (.int i)), some (.sh (.int p.1)), some (.sh (.int p.2))]) (fun _ => true) (fun p => .bl (hasB i p)) rfl rfl rfl (fun p hp => ⟨rfl, rfl, rfl, fun _ => ?_⟩) (Nat.le_trans hz (by decide)), List.filter_eq_self.mpr fun _ _ => rfl]
  have hm := bn_mod (i := i - p.1) (j := p.2) (h p hp)
  have hs : binP .sub (.int i) (.int p.1) = some (.sh (.int (i - p.1))) := rfl
  have e : hasB i p = ((i - p.1) % p.2 == 0) := rfl
  rw [e]
  clear h hz hp e
  generalize ls.map ladP = L at *
  generalize (i - p.1) % p.2 = q at *
  generalize i - p.1 = m at *
  generalize p.1 = a at *
  generalize p.2 = b at *
  walk_at "ev"
theorem l_row_by {R : Rp} {ls : List Lad} {n : Int} {sm : Sst} (h : ∀ p ∈ ls, 0 < p.2) (hz : ls.length ≤ 1000000) (h0 : 0 ≤ n) (hn : n ≤ 1000000) : finP (exPs R f_row_by.body ⟨envP f_row_by [.lst (ls.map ladP), .int n], sm⟩) = .ok (.lst ((rowI ls n).map .int)) sm := by
  have hc : comW R (.nm 3) [2, 3] .nil (.bi .int (.cons (.bi .any (.cons (.com (.tp [(.nm 4), (.nm 5)]) (.key 0) .nil (.cmp .eq (.bin .mod (.bin .sub (.var 3) (.var 4)) (.var 5)) (.int 0)) [2, 4, 5]) .nil)) .nil)) ((rgI 0 n).map fun i => .one (.int i)) ⟨[some (.sh (.lst (ls.map ladP))), some (.sh (.int n)), none, none, none, none], sm⟩ =
      .ok (.ow ((rowI ls n).map .int)) ⟨[some (.sh (.lst (ls.map ladP))), some (.sh (.int n)), none, none, none, none], sm⟩ := by
    have em : (rowI ls n).map D.int = (rgI 0 n).map fun i => .int (if hadB ls i then 1 else 0) := by unfold rowI; rw [List.map_map]; rfl
    rw [em, comW_gen (fun i => .one (.int i)) (fun i => [some (.sh (.lst (ls.map ladP))), some (.sh (.int n)), none, some (.sh (.int i)), none, none]) (fun _ => true) (fun i => .int (if hadB ls i then 1 else 0)) rfl rfl rfl (fun i hi => ⟨rfl, rfl, rfl, fun _ => ?_⟩) (by rw [len_rgI]; exact Nat.le_trans (m := 1000000) (by omega) (by decide)), List.filter_eq_self.mpr fun _ _ => rfl]
    have h1 := row_in (R := R) (i := i) (n := n) (sm := sm) h hz
    have h2 := bi_any (hasB i) ls
    have h3 : ∀ b : Bool, biP .int [.bl b] = some (.sh (.int (if b then 1 else 0))) := fun _ => rfl
    have h3 := h3 (hadB ls i)
    have e : ls.any (hasB i) = hadB ls i := rfl
    rw [e] at h2
    clear h hz hi e em
    generalize hadB ls i = B at *
    generalize ls.map (fun p => D.bl (hasB i p)) = Z at *
    generalize ls.map ladP = L at *
    cases B <;> walk_at "ev"
  have hr := rngP_ok (a := 0) (b := n) (by omega) (by omega) (by omega) (by omega)
  simp only [f_row_by]
  clear h hz h0 hn
  generalize (rowI ls n).map D.int = Z at *
  generalize ls.map ladP = L at *
  generalize (rgI 0 n).map (fun i => PIv.one (.int i)) = I at *
  walk_at "ev"
def f_row_of (nl w rb : Nat) (b : Sxs) : Fn := ⟨2, 3, (.cons (.asg (.nm 2) (.call nl (.cons (.var 0) .nil))) (.cons (.ite (.or (.nt (.call w (.cons (.var 1) .nil))) (.cmp .lt (.var 1) (.int 1))) b .nil) (.cons (.ret (.call rb (.cons (.var 2) (.cons (.var 1) .nil)))) .nil)))⟩
theorem l_row_of {R : Rp} {nl w rb : Nat} {b : Sxs} {d z : D} {xs : List D} {n : Int} {sm : Sst} (h1 : R nl [d] sm = .ok (.lst xs) sm) (h2 : R w [.int n] sm = .ok (.bl true) sm) (h3 : R rb [.lst xs, .int n] sm = .ok z sm) (hn : 1 ≤ n) :
    finP (exPs R (f_row_of nl w rb b).body ⟨envP (f_row_of nl w rb b) [d, .int n], sm⟩) = .ok z sm := by
  have h4 : cmpP .lt (.int n) (.int 1) = some false := by rw [cm_lt, decide_eq_false (by omega)]
  have h5 : decide (n < 1) = false := decide_eq_false (by omega)
  simp only [f_row_of]
  clear hn
  walk_at "ev"
theorem eqvAll_ints : ∀ a b : List Int, PyData.eqvAll (a.map .int) (b.map .int) = (a == b)
  | [], [] => rfl
  | [], _ :: _ => rfl
  | _ :: _, [] => rfl
  | x :: r, y :: s => by
    show (PyData.eqv (.int x) (.int y) && PyData.eqvAll (r.map .int) (s.map .int)) = _
    rw [eqvAll_ints r s]
    rfl
theorem eq_ints {a b : List Int} (ha : a.length ≤ 10000000) (hb : b.length ≤ 10000000) : cmpP .eq (.lst (a.map .int)) (.lst (b.map .int)) = some (a == b) := by
  rw [cm_eq, look_ints ha, look_ints hb]
  dsimp only
  show some (PyData.eqvAll (a.map .int) (b.map .int)) = _
  rw [eqvAll_ints]
theorem ne_ints {a b : List Int} (ha : a.length ≤ 10000000) (hb : b.length ≤ 10000000) : cmpP .ne (.lst (a.map .int)) (.lst (b.map .int)) = some (!(a == b)) := by
  rw [cm_ne, look_ints ha, look_ints hb]
  dsimp only
  show some (!PyData.eqvAll (a.map .int) (b.map .int)) = _
  rw [eqvAll_ints]
def f_shows (nl ns rb : Nat) : Fn := ⟨2, 4, (.cons (.asg (.nm 2) (.call nl (.cons (.var 0) .nil))) (.cons (.asg (.nm 3) (.call ns (.cons (.var 1) .nil))) (.cons (.ret (.cmp .eq (.call rb (.cons (.var 2) (.cons (.bi .len (.cons (.var 3) .nil)) .nil))) (.var 3))) .nil)))⟩
theorem l_shows {R : Rp} {nl ns rb : Nat} {d : D} {xs : List D} {r q : List Int} {sm : Sst} (h1 : R nl [d] sm = .ok (.lst xs) sm) (h2 : R ns [.lst (r.map .int)] sm = .ok (.lst (r.map .int)) sm) (h3 : R rb [.lst xs, .int (r.length : Nat)] sm = .ok (.lst (q.map .int)) sm) (hr : r.length ≤ 10000000) (hq : q.length ≤ 10000000) :
    finP (exPs R (f_shows nl ns rb).body ⟨envP (f_shows nl ns rb) [d, .lst (r.map .int)], sm⟩) = .ok (.bl (q == r)) sm := by
  have h4 := eq_ints hq hr
  have h5 := bi_len (r.map .int)
  rw [List.length_map] at h5
  simp only [f_shows]
  clear hr hq
  generalize (q == r) = B at *
  generalize ((r.length : Nat) : Int) = n at *
  generalize r.map D.int = S at *
  generalize q.map D.int = T at *
  walk_at "ev"
def f_within_by : Fn := ⟨2, 6, (.cons (.asg (.nm 2) (.lst .nil)) (.cons (.forE (.nm 3) (.rng2 (.int 1) (.bin .add (.bi .min2 (.cons (.var 1) (.cons (.bi .len (.cons (.var 0) .nil)) .nil))) (.int 1))) (.cons (.ex (.met .extend (.var 2) (.cons (.com (.nm 5) (.rng1 (.var 3)) (.cons (.bi .all (.cons (.stpL (.var 0) (.some (.var 5)) (.some (.var 3))) .nil)) .nil) (.tup (.cons (.var 5) (.cons (.var 3) .nil))) [4, 5]) .nil))) .nil)) (.cons (.ret (.bi .sorted (.cons (.var 2) .nil))) .nil)))⟩
abbrev wi_b : Sxs := (.cons (.ex (.met .extend (.var 2) (.cons (.com (.nm 5) (.rng1 (.var 3)) (.cons (.bi .all (.cons (.stpL (.var 0) (.some (.var 5)) (.some (.var 3))) .nil)) .nil) (.tup (.cons (.var 5) (.cons (.var 3) .nil))) [4, 5]) .nil))) .nil)
def wiS (r : List Int) (s : Int) : List Lad := ((rgI 0 s).filter fun a => (stepL r a.toNat s.toNat).all fun i => i != 0).map fun a => (a, s)
theorem bi_allZ (ns : List Int) : biP .all [.lst (ns.map .int)] = some (.sh (.bl (ns.all fun i => i != 0))) := by
  cases ns with
  | nil => rfl
  | cons n r => exact bi_allI (n :: r) (List.cons_ne_nil _ _)
theorem stp_ints {r : List Int} {a s : Int} (ha : 0 ≤ a) (hs : 1 ≤ s) : stpP (.lst (r.map .int)) (some a) (some s) = some (.ow ((stepL r a.toNat s.toNat).map .int)) := by
  unfold stpP
  dsimp only
  rw [decide_eq_true ha, decide_eq_true hs, stepL_map]
  rfl
theorem wi_com {R : Rp} {r : List Int} {s m : Int} {acc : List D} {sm : Sst} (hs : 1 ≤ s) (hs2 : s ≤ 1000000) :
    comW R (.nm 5) [4, 5] (.cons (.bi .all (.cons (.stpL (.var 0) (.some (.var 5)) (.some (.var 3))) .nil)) .nil) (.tup (.cons (.var 5) (.cons (.var 3) .nil))) ((rgI 0 s).map fun i => .one (.int i)) ⟨[some (.sh (.lst (r.map .int))), some (.sh (.int m)), some (.ow acc), some (.sh (.int s)), none, none], sm⟩ =
      .ok (.ow ((wiS r s).map ladP)) ⟨[some (.sh (.lst (r.map .int))), some (.sh (.int m)), some (.ow acc), some (.sh (.int s)), none, none], sm⟩ := by
  have em : (wiS r s).map ladP = ((rgI 0 s).filter fun a => (stepL r a.toNat s.toNat).all fun i => i != 0).map fun a => .tup [.int a, .int s] := by unfold wiS; rw [List.map_map]; rfl
  rw [em]
  refine comW_gen (fun i => .one (.int i)) (fun i => [some (.sh (.lst (r.map .int))), some (.sh (.int m)), some (.ow acc), some (.sh (.int s)), none, some (.sh (.int i))]) (fun a => (stepL r a.toNat s.toNat).all fun i => i != 0) (fun a => .tup [.int a, .int s]) rfl rfl rfl (fun i hi => ⟨rfl, rfl, ?_, fun _ => ?_⟩) (by rw [len_rgI]; exact Nat.le_trans (m := 1000000) (by omega) (by decide))
  · have h1 := stp_ints (r := r) (mem_rgI.mp hi).1 hs
    have h2 := bi_allZ (stepL r i.toNat s.toNat)
    clear hs hs2 em hi
    generalize ((stepL r i.toNat s.toNat).all fun i => i != 0) = B at *
    generalize (stepL r i.toNat s.toNat).map D.int = S at *
    generalize r.map D.int = T at *
    walk_at "ev"
  · clear hs hs2 em hi
    generalize r.map D.int = T at *
    walk_at "ev"
theorem wi_turn {R : Rp} {r : List Int} {s m : Int} {acc : List D} {sm : Sst} (hs : 1 ≤ s) (hs2 : s ≤ 100) (ha : acc.length ≤ 100000) :
    exPs R wi_b ⟨[some (.sh (.lst (r.map .int))), some (.sh (.int m)), some (.ow acc), some (.sh (.int s)), none, none], sm⟩ = .ok .nx ⟨[some (.sh (.lst (r.map .int))), some (.sh (.int m)), some (.ow (acc ++ (wiS r s).map ladP)), some (.sh (.int s)), none, none], sm⟩ := by
  have hc := wi_com (R := R) (r := r) (s := s) (m := m) (acc := acc) (sm := sm) hs (by omega)
  have hr := rngP_ok (a := 0) (b := s) (by omega) (by omega) (by omega) (by omega)
  have hl : ((wiS r s).map ladP).length ≤ 100 := by
    unfold wiS
    rw [List.length_map, List.length_map]
    refine Nat.le_trans (List.length_filter_le _ _) ?_
    rw [len_rgI]
    omega
  have he : metP .extend acc [.lst ((wiS r s).map ladP)] = some (.non, acc ++ (wiS r s).map ladP) := by
    unfold metP
    dsimp only
    rw [if_pos (by rw [sz_eq]; omega)]
  clear hl ha hs hs2
  generalize (wiS r s).map ladP = W at *
  generalize (rgI 0 s).map (fun i => PIv.one (.int i)) = I at *
  generalize r.map D.int = T at *
  walk_at "ev"
theorem wi_for {R : Rp} {r : List Int} {m : Int} {sm : Sst} : ∀ (ss : List Int) (acc : List D) (y : Option PV), (∀ s ∈ ss, 1 ≤ s ∧ s ≤ 100) → acc.length + 100 * ss.length ≤ 100000 →
    ∃ y', forW R (.nm 3) wi_b (ss.map fun i => .one (.int i)) ⟨[some (.sh (.lst (r.map .int))), some (.sh (.int m)), some (.ow acc), y, none, none], sm⟩ = .ok .nx ⟨[some (.sh (.lst (r.map .int))), some (.sh (.int m)), some (.ow (acc ++ (ss.flatMap (wiS r)).map ladP)), y', none, none], sm⟩
  | [], acc, y, _, _ => ⟨y, by rw [List.map_nil, forW_nil, List.flatMap_nil, List.map_nil, List.append_nil]⟩
  | s :: t, acc, y, h, hl => by
    obtain ⟨h1, h2⟩ := h s List.mem_cons_self
    rw [List.length_cons] at hl
    have hl2 : ((wiS r s).map ladP).length ≤ 100 := by
      unfold wiS
      rw [List.length_map, List.length_map]
      refine Nat.le_trans (List.length_filter_le _ _) ?_
      rw [len_rgI]
      omega
    obtain ⟨y', e⟩ := wi_for (R := R) (r := r) (m := m) (sm := sm) t (acc ++ (wiS r s).map ladP) (some (.sh (.int s))) (fun z hz => h z (List.mem_cons_of_mem _ hz)) (by rw [List.length_append]; omega)
    refine ⟨y', ?_⟩
    rw [List.map_cons, List.flatMap_cons, List.map_append, ← List.append_assoc]
    exact (forW_nx (env' := [some (.sh (.lst (r.map .int))), some (.sh (.int m)), some (.ow acc), some (.sh (.int s)), none, none]) rfl (.inl (wi_turn h1 h2 (by omega)))).trans e
theorem prsD_lad : ∀ ps : List Lad, prsD (ps.map ladP) = some ps
  | [] => rfl
  | p :: r => by
    rw [List.map_cons]
    unfold prsD
    rw [prsD_lad r]
    rfl
theorem bi_sortP (ps : List Lad) : biP .sorted [.lst (ps.map ladP)] = some (.ow ((sortK (fun p => p) ps).map ladP)) := by
  cases ps with
  | nil => rfl
  | cons p r =>
    have h := prsD_lad (p :: r)
    have h2 : intsD ((p :: r).map ladP) = none := rfl
    unfold biP
    dsimp only
    rw [h2]
    dsimp only
    rw [h]
    rfl
theorem l_within_by {R : Rp} {r : List Int} {m : Int} {sm : Sst} (hm : 1 ≤ m) (hm2 : m ≤ 100) (hr : r.length ≤ 1000000) : finP (exPs R f_within_by.body ⟨envP f_within_by [.lst (r.map .int), .int m], sm⟩) = .ok (.lst ((withinI r m).map ladP)) sm := by
  obtain ⟨y', e⟩ := wi_for (R := R) (r := r) (m := m) (sm := sm) (rgI 1 (min m r.length + 1)) [] none (fun s hs => by have := mem_rgI.mp hs; omega) (by rw [len_rgI, List.length_nil]; omega)
  rw [List.nil_append] at e
  have ew : (rgI 1 (min m r.length + 1)).flatMap (wiS r) = withinL r m := rfl
  rw [ew] at e
  have hs := bi_sortP (withinL r m)
  replace hs : biP .sorted [.lst ((withinL r m).map ladP)] = some (.ow ((withinI r m).map ladP)) := hs
  have h1 := bi_len (r.map .int)
  rw [List.length_map] at h1
  have h2 : biP .min2 [.int m, .int (r.length : Nat)] = some (.sh (.int (min m r.length))) := by
    show some (PV.sh (.int (if (r.length : Int) < m then (r.length : Int) else m))) = _
    congr 3
    by_cases q : (r.length : Int) < m
    · rw [if_pos q]; omega
    · rw [if_neg q]; omega
  have h3 : binP .add (.int (min m r.length)) (.int 1) = some (.sh (.int (min m r.length + 1))) := rfl
  have h4 := rngP_ok (a := 1) (b := min m r.length + 1) (by omega) (by omega) (by omega) (by omega)
  simp only [f_within_by]
  clear ew hm hm2 hr
  generalize (rgI 1 (min m r.length + 1)).map (fun i => PIv.one (.int i)) = I at *
  generalize min m (r.length : Int) + 1 = n1 at *
  generalize min m (r.length : Int) = n0 at *
  generalize ((r.length : Nat) : Int) = n at *
  generalize (withinL r m).map ladP = W at *
  generalize (withinI r m).map ladP = V at *
  generalize r.map D.int = S at *
  walk_at "ev"
def f_need_most (w : Nat) (b : Sxs) : Fn := ⟨1, 1, (.cons (.ite (.or (.nt (.call w (.cons (.var 0) .nil))) (.cmp .lt (.var 0) (.int 1))) b .nil) (.cons (.ret (.var 0)) .nil))⟩
theorem l_need_most {R : Rp} {w : Nat} {b : Sxs} {n : Int} {sm : Sst} (h : R w [.int n] sm = .ok (.bl true) sm) (hn : 1 ≤ n) : finP (exPs R (f_need_most w b).body ⟨envP (f_need_most w b) [.int n], sm⟩) = .ok (.int n) sm := by
  have h4 : cmpP .lt (.int n) (.int 1) = some false := by rw [cm_lt, decide_eq_false (by omega)]
  have h5 : ¬ n < 1 := by omega
  simp only [f_need_most]
  walk_at "ev"
end Ih
end
section
set_option Elab.async false
set_option linter.all false
set_option maxHeartbeats 1000000
namespace Ih
open PySem
local macro_rules | `(tactic| walk_at "ev") => `(tactic| simp [v_var, v_non, v_bl, v_int, v_str, v_bin, v_neg, v_nt, v_and, v_or, v_ife, v_cmp, v_cmp2, v_sub, v_slc, v_rev, v_stpL, v_tup, v_lst, v_dic0, v_call, v_callK, v_bi, v_isi, v_met, v_com, x_ex, x_asg, x_asgT, x_par, x_ret, x_retN, x_ite, x_for, x_whl, x_pas, x_con, xs_nil, xs_cons, varP, opd, tst, shr, pret, pbad, pbnd, pof, rdV, rdVs, rdO, rdOs, lend_s, frzE, frz1, evKs, evPs, evMs, evPO, exoP, evW, walkP, tryP, setP, envP, finP, pd_sh, pd_ow, at_non, at_bl, at_int, at_str, at_lst, at_tup, at_dic0, at_stm, it_lst, it_tup, it_non, it_bl, it_int, it_str, it_dic0, tr_non, tr_bl, tr_int, tr_lst, tr_tup, tr_dic0, is_non, is_bl, is_int, is_str, is_lst, is_tup, is_dic0, nn_non, nn_bl, nn_int, nn_str, nn_lst, nn_tup, nn_dic0, cm_is, cm_isn, cm_lt, cm_le, cm_gt, cm_ge, cm_eqi, cm_nei, cm_eqb, cm_neb, isTy, subP, evCs', occB, occE, occEs, occO, occI, occT, occT.occTs, occS, occSs, sz_eq, *])
def f_shown_by (g : Nat) : Fn := ⟨4, 14, (.cons (.ite (.nt (.var 0)) (.cons (.ret (.lst .nil)) .nil) .nil) (.cons (.ite (.or (.cmp .eq (.var 2) (.int 0)) (.nt (.var 1))) (.cons (.ret .non) .nil) .nil) (.cons (.forE (.tp [(.nm 4), (.tp [(.nm 5), (.nm 6)])]) (.enm (.var 1)) (.cons (.asg (.nm 7) (.com (.nm 12) (.key 0) (.cons (.cmp .eq (.bin .mod (.bin .sub (.var 12) (.var 5)) (.var 6)) (.int 0)) .nil) (.var 12) [11, 12])) (.cons (.asg (.nm 8) (.com (.nm 12) (.seq (.var 0)) (.cons (.cmp .nin (.var 12) (.var 7)) .nil) (.var 12) [11, 12])) (.cons (.asg (.nm 9) (.slc (.var 1) (.some (.bin .add (.var 4) (.int 1))) .none)) (.cons (.ite (.var 3) (.cons (.asg (.nm 9) (.com (.nm 13) (.seq (.var 9)) (.cons (.nt (.bi .any (.cons (.com (.nm 12) (.key 7) .nil (.cmp .eq (.bin .mod (.bin .sub (.var 12) (.sub (.var 13) (.int 0))) (.sub (.var 13) (.int 1))) (.int 0)) [11, 12]) .nil))) .nil) (.var 13) [11, 13])) .nil) .nil) (.cons (.asg (.nm 10) (.ife (.var 7) (.call g (.cons (.var 8) (.cons (.var 9) (.cons (.bin .sub (.var 2) (.int 1)) (.cons (.var 3) .nil))))) .non)) (.cons (.ite (.cmp .isn (.var 10) .non) (.cons (.ret (.bin .add (.lst (.cons (.tup (.cons (.var 5) (.cons (.var 6) .nil))) .nil)) (.var 10))) .nil) .nil) .nil))))))) (.cons (.ret .non) .nil))))⟩
abbrev sh1 : Sx := (.asg (.nm 7) (.com (.nm 12) (.key 0) (.cons (.cmp .eq (.bin .mod (.bin .sub (.var 12) (.var 5)) (.var 6)) (.int 0)) .nil) (.var 12) [11, 12]))
abbrev sh2 : Sx := (.asg (.nm 8) (.com (.nm 12) (.seq (.var 0)) (.cons (.cmp .nin (.var 12) (.var 7)) .nil) (.var 12) [11, 12]))
abbrev sh3 : Sx := (.asg (.nm 9) (.slc (.var 1) (.some (.bin .add (.var 4) (.int 1))) .none))
abbrev sh4 : Sx := (.ite (.var 3) (.cons (.asg (.nm 9) (.com (.nm 13) (.seq (.var 9)) (.cons (.nt (.bi .any (.cons (.com (.nm 12) (.key 7) .nil (.cmp .eq (.bin .mod (.bin .sub (.var 12) (.sub (.var 13) (.int 0))) (.sub (.var 13) (.int 1))) (.int 0)) [11, 12]) .nil))) .nil) (.var 13) [11, 13])) .nil) .nil)
abbrev sh5 (g : Nat) : Sx := (.asg (.nm 10) (.ife (.var 7) (.call g (.cons (.var 8) (.cons (.var 9) (.cons (.bin .sub (.var 2) (.int 1)) (.cons (.var 3) .nil))))) .non))
abbrev sh6 : Sx := (.ite (.cmp .isn (.var 10) .non) (.cons (.ret (.bin .add (.lst (.cons (.tup (.cons (.var 5) (.cons (.var 6) .nil))) .nil)) (.var 10))) .nil) .nil)
abbrev sh_b (g : Nat) : Sxs := .cons sh1 (.cons sh2 (.cons sh3 (.cons sh4 (.cons (sh5 g) (.cons sh6 .nil)))))
section
variable {R : Rp} {g : Nat} {sm : Sst} {L P : D} {k : Int} {w4 w5 w6 w7 w8 w9 w10 : Option PV}
abbrev ShE (L P : D) (k : Int) (w4 w5 w6 w7 w8 w9 w10 : Option PV) : List (Option PV) := [some (.sh L), some (.sh P), some (.sh (.int k)), some (.sh (.bl false)), w4, w5, w6, w7, w8, w9, w10, none, none, none]
theorem sh1_run {left : List Int} {p : Lad} (hp : 0 < p.2) (hz : left.length ≤ 1000000) : exP R sh1 ⟨ShE (.lst (left.map .int)) P k w4 (some (.sh (.int p.1))) (some (.sh (.int p.2))) w7 w8 w9 w10, sm⟩ = .ok .nx ⟨ShE (.lst (left.map .int)) P k w4 (some (.sh (.int p.1))) (some (.sh (.int p.2))) (some (.ow ((left.filter fun x => hasB x p).map .int))) w8 w9 w10, sm⟩ := by
  have hc : comW R (.nm 12) [11, 12] (.cons (.cmp .eq (.bin .mod (.bin .sub (.var 12) (.var 5)) (.var 6)) (.int 0)) .nil) (.var 12) (onesP (left.map .int)) ⟨ShE (.lst (left.map .int)) P k w4 (some (.sh (.int p.1))) (some (.sh (.int p.2))) w7 w8 w9 w10, sm⟩ = .ok (.ow ((left.filter fun x => hasB x p).map .int)) ⟨ShE (.lst (left.map .int)) P k w4 (some (.sh (.int p.1))) (some (.sh (.int p.2))) w7 w8 w9 w10, sm⟩ := by
    rw [onesP_map, comW_gen (fun i => .one (.int i)) (fun i => [some (.sh (.lst (left.map .int))), some (.sh P), some (.sh (.int k)), some (.sh (.bl false)), w4, some (.sh (.int p.1)), some (.sh (.int p.2)), w7, w8, w9, w10, none, some (.sh (.int i)), none]) (fun x => hasB x p) (fun i => .int i) rfl rfl rfl (fun i hi => ⟨rfl, rfl, ?_, fun _ => rfl⟩) (Nat.le_trans hz (by decide))]
    have hm := bn_mod (i := i - p.1) (j := p.2) hp
    have hs : binP .sub (.int i) (.int p.1) = some (.sh (.int (i - p.1))) := rfl
    have e : hasB i p = ((i - p.1) % p.2 == 0) := rfl
    rw [e]
    clear hi hz hp e
    generalize left.map D.int = S at *
    generalize (i - p.1) % p.2 = q at *
    generalize i - p.1 = m at *
    generalize p.1 = a at *
    generalize p.2 = b at *
    walk_at "ev"
  clear hp hz
  generalize (left.filter fun x => hasB x p).map D.int = F at *
  generalize left.map D.int = S at *
  walk_at "ev"
theorem sh2_run {left own : List Int} (hz : left.length ≤ 1000000) (hz2 : own.length ≤ 1000000) : exP R sh2 ⟨ShE (.lst (left.map .int)) P k w4 w5 w6 (some (.ow (own.map .int))) w8 w9 w10, sm⟩ = .ok .nx ⟨ShE (.lst (left.map .int)) P k w4 w5 w6 (some (.ow (own.map .int))) (some (.ow ((left.filter fun x => !own.contains x).map .int))) w9 w10, sm⟩ := by
  have hc : comW R (.nm 12) [11, 12] (.cons (.cmp .nin (.var 12) (.var 7)) .nil) (.var 12) (onesP (left.map .int)) ⟨ShE (.lst (left.map .int)) P k w4 w5 w6 (some (.ow (own.map .int))) w8 w9 w10, sm⟩ = .ok (.ow ((left.filter fun x => !own.contains x).map .int)) ⟨ShE (.lst (left.map .int)) P k w4 w5 w6 (some (.ow (own.map .int))) w8 w9 w10, sm⟩ := by
    rw [onesP_map, comW_gen (fun i => .one (.int i)) (fun i => [some (.sh (.lst (left.map .int))), some (.sh P), some (.sh (.int k)), some (.sh (.bl false)), w4, w5, w6, some (.ow (own.map .int)), w8, w9, w10, none, some (.sh (.int i)), none]) (fun x => !own.contains x) (fun i => .int i) rfl rfl rfl (fun i hi => ⟨rfl, rfl, ?_, fun _ => rfl⟩) (Nat.le_trans hz (by decide))]
    have hm := nin_ints (d := i) (ss := own) (by omega)
    clear hi hz hz2
    generalize (!own.contains i) = B at *
    generalize left.map D.int = S at *
    generalize own.map D.int = O at *
    walk_at "ev"
  clear hz hz2
  generalize (left.filter fun x => !own.contains x).map D.int = F at *
  generalize left.map D.int = S at *
  generalize own.map D.int = O at *
  walk_at "ev"
theorem sh3_run {xs : List D} {j : Nat} : exP R sh3 ⟨ShE L (.lst xs) k (some (.sh (.int (j : Nat)))) w5 w6 w7 w8 w9 w10, sm⟩ = .ok .nx ⟨ShE L (.lst xs) k (some (.sh (.int (j : Nat)))) w5 w6 w7 w8 (some (.ow (xs.drop (j + 1)))) w10, sm⟩ := by
  have h1 := sl_from (xs := xs) (k := j + 1)
  have h2 : binP .add (.int (j : Nat)) (.int 1) = some (.sh (.int ((j + 1 : Nat) : Int))) := rfl
  generalize xs.drop (j + 1) = Y at *
  generalize ((j + 1 : Nat) : Int) = b at *
  generalize ((j : Nat) : Int) = a at *
  walk_at "ev"
theorem sh4_run : exP R sh4 ⟨ShE L P k w4 w5 w6 w7 w8 w9 w10, sm⟩ = .ok .nx ⟨ShE L P k w4 w5 w6 w7 w8 w9 w10, sm⟩ := by
  walk_at "ev"
/-- the ladders found, or none -/
theorem sh5_none {ps : List D} : exP R (sh5 g) ⟨ShE L P k w4 w5 w6 (some (.ow [])) w8 (some (.ow ps)) w10, sm⟩ = .ok .nx ⟨ShE L P k w4 w5 w6 (some (.ow [])) w8 (some (.ow ps)) (some (.sh .non)), sm⟩ := by
  walk_at "ev"
theorem sh5_some {o : D} {os rs ps : List D} {d : D} (h : R g [.lst rs, .lst ps, .int (k - 1), .bl false] sm = .ok d sm) : ∃ u8 u9, exP R (sh5 g) ⟨ShE L P k w4 w5 w6 (some (.ow (o :: os))) (some (.ow rs)) (some (.ow ps)) w10, sm⟩ = .ok .nx ⟨ShE L P k w4 w5 w6 (some (.ow (o :: os))) u8 u9 (some (.sh d)), sm⟩ := by
  have hs : binP .sub (.int k) (.int 1) = some (.sh (.int (k - 1))) := rfl
  generalize k - 1 = k1 at *
  cases ha : d.atom with
  | true =>
    refine ⟨some (.ow rs), some (.ow ps), ?_⟩
    walk_at "ev"
  | false =>
    refine ⟨some (.sh (.lst rs)), some (.sh (.lst ps)), ?_⟩
    walk_at "ev"
theorem sh6_none : exP R sh6 ⟨ShE L P k w4 w5 w6 w7 w8 w9 (some (.sh .non)), sm⟩ = .ok .nx ⟨ShE L P k w4 w5 w6 w7 w8 w9 (some (.sh .non)), sm⟩ := by
  walk_at "ev"
theorem sh6_some {p : Lad} {fs : List D} (hl : fs.length ≤ 1000000) : exP R sh6 ⟨ShE L P k w4 (some (.sh (.int p.1))) (some (.sh (.int p.2))) w7 w8 w9 (some (.sh (.lst fs))), sm⟩ = .ok (.rt (.lst (ladP p :: fs))) ⟨ShE L P k w4 (some (.sh (.int p.1))) (some (.sh (.int p.2))) w7 w8 w9 (some (.sh (.lst fs))), sm⟩ := by
  have ha := bn_addL (xs := [.tup [.int p.1, .int p.2]]) (ys := fs) (by rw [List.length_cons, List.length_nil, sz_eq]; omega)
  have e : ladP p :: fs = [.tup [.int p.1, .int p.2]] ++ fs := rfl
  rw [e]
  clear hl e
  generalize ([.tup [.int p.1, .int p.2]] ++ fs : List D) = F at *
  walk_at "ev"
end
theorem rest_eq {left : List Int} {p : Lad} : (left.filter fun x => !(left.filter fun x => hasB x p).contains x) = restOf left p := by
  unfold restOf
  refine List.filter_congr fun x hx => ?_
  congr 1
  rw [List.contains_eq_mem]
  cases h : hasB x p with
  | true => exact decide_eq_true (List.mem_filter.mpr ⟨hx, h⟩)
  | false =>
    refine decide_eq_false fun z => ?_
    have := (List.mem_filter.mp z).2
    rw [h] at this
    cases this
theorem sh_for {R : Rp} {g : Nat} {sm : Sst} {left : List Int} {all : List Lad} {k : Int} {rec : List Int → List Lad → Option (List Lad)} (hz : left.length ≤ 1000000) (ha : ∀ p ∈ all, 0 < p.2)
    (hg : ∀ (l : List Int) (ps : List Lad), l.length ≤ left.length → (∀ p ∈ ps, 0 < p.2) → R g [.lst (l.map .int), .lst (ps.map ladP), .int (k - 1), .bl false] sm = .ok (keptD (rec l ps)) sm ∧ ∀ f, rec l ps = some f → f.length ≤ 1000000) :
    ∀ (ps : List Lad) (j : Nat) (w4 w5 w6 w7 w8 w9 w10 : Option PV), ps = all.drop j → ∃ s', forW R (.tp [(.nm 4), (.tp [(.nm 5), (.nm 6)])]) (sh_b g) (enmP j (ps.map ladP)) ⟨ShE (.lst (left.map .int)) (.lst (all.map ladP)) k w4 w5 w6 w7 w8 w9 w10, sm⟩ =
      .ok (match shownL rec left ps with
        | some f => .rt (.lst (f.map ladP))
        | none => .nx) s' ∧ s'.sm = sm
  | [], j, w4, w5, w6, w7, w8, w9, w10, _ => ⟨_, rfl, rfl⟩
  | p :: r, j, w4, w5, w6, w7, w8, w9, w10, hd => by
    have hpm : p ∈ all := List.mem_of_mem_drop (hd ▸ List.mem_cons_self)
    have hr : r = all.drop (j + 1) := by
      have := congrArg (List.drop 1) hd
      rw [List.drop_drop] at this
      exact this
    have ih := fun w4 w5 w6 w7 w8 w9 w10 => sh_for hz ha hg r (j + 1) w4 w5 w6 w7 w8 w9 w10 hr
    have st : enmP j ((p :: r).map ladP) = .many [.int (j : Nat), ladP p] :: enmP (j + 1) (r.map ladP) := rfl
    have tg : asgIP (.tp [(.nm 4), (.tp [(.nm 5), (.nm 6)])]) (.many [.int (j : Nat), ladP p]) (ShE (.lst (left.map .int)) (.lst (all.map ladP)) k w4 w5 w6 w7 w8 w9 w10) = some (ShE (.lst (left.map .int)) (.lst (all.map ladP)) k (some (.sh (.int (j : Nat)))) (some (.sh (.int p.1))) (some (.sh (.int p.2))) w7 w8 w9 w10) := rfl
    have hol : (left.filter fun x => hasB x p).length ≤ 1000000 := Nat.le_trans (List.length_filter_le _ _) hz
    have e1 := sh1_run (R := R) (P := .lst (all.map ladP)) (k := k) (sm := sm) (w4 := some (.sh (.int (j : Nat)))) (w7 := w7) (w8 := w8) (w9 := w9) (w10 := w10) (left := left) (ha p hpm) hz
    have e2 := sh2_run (R := R) (P := .lst (all.map ladP)) (k := k) (sm := sm) (w4 := some (.sh (.int (j : Nat)))) (w5 := some (.sh (.int p.1))) (w6 := some (.sh (.int p.2))) (w8 := w8) (w9 := w9) (w10 := w10) (left := left) hz hol
    rw [rest_eq] at e2
    have e3 := sh3_run (R := R) (L := .lst (left.map .int)) (k := k) (sm := sm) (w5 := some (.sh (.int p.1))) (w6 := some (.sh (.int p.2))) (w7 := some (.ow ((left.filter fun x => hasB x p).map .int))) (w8 := some (.ow ((restOf left p).map .int))) (w9 := w9) (w10 := w10) (xs := all.map ladP) (j := j)
    rw [← List.map_drop, ← hr] at e3
    unfold shownL
    cases hown : left.filter fun x => hasB x p with
    | nil =>
      have hany : left.any (fun x => hasB x p) = false := by
        rw [Bool.eq_false_iff]
        intro z
        obtain ⟨x, hx, hh⟩ := List.any_eq_true.mp z
        have : x ∈ left.filter fun x => hasB x p := List.mem_filter.mpr ⟨hx, hh⟩
        rw [hown] at this
        exact List.not_mem_nil this
      rw [if_neg (by rw [hany]; exact Bool.false_ne_true)]
      rw [hown] at e1 e2 e3
      obtain ⟨s', e, h⟩ := ih (some (.sh (.int (j : Nat)))) (some (.sh (.int p.1))) (some (.sh (.int p.2))) (some (.ow [])) (some (.ow ((restOf left p).map .int))) (some (.ow (r.map ladP))) (some (.sh .non))
      refine ⟨s', ?_, h⟩
      rw [st, ← e]
      refine forW_nx tg (.inl ?_)
      rw [xs_nx e1, xs_nx e2, xs_nx e3, xs_nx sh4_run]
      have e5 := sh5_none (R := R) (g := g) (L := .lst (left.map .int)) (P := .lst (all.map ladP)) (k := k) (sm := sm) (w4 := some (.sh (.int (j : Nat)))) (w5 := some (.sh (.int p.1))) (w6 := some (.sh (.int p.2))) (w8 := some (.ow ((restOf left p).map .int))) (w10 := w10) (ps := r.map ladP)
      rw [List.map_nil, xs_nx e5, xs_nx sh6_none]
      rfl
    | cons x t =>
      have hany : left.any (fun x => hasB x p) = true := by
        have : x ∈ left.filter fun x => hasB x p := by rw [hown]; exact List.mem_cons_self
        obtain ⟨m1, m2⟩ := List.mem_filter.mp this
        exact List.any_eq_true.mpr ⟨x, m1, m2⟩
      rw [if_pos hany]
      rw [hown] at e1 e2 e3
      obtain ⟨hc, hfl⟩ := hg (restOf left p) r (List.length_filter_le _ _) fun q hq => ha q (List.mem_of_mem_drop (hr ▸ hq))
      obtain ⟨u8, u9, e5⟩ := sh5_some (R := R) (g := g) (L := .lst (left.map .int)) (P := .lst (all.map ladP)) (k := k) (sm := sm) (w4 := some (.sh (.int (j : Nat)))) (w5 := some (.sh (.int p.1))) (w6 := some (.sh (.int p.2))) (w10 := w10) (o := .int x) (os := t.map .int) hc
      cases hrec : rec (restOf left p) r with
      | some f =>
        rw [hrec] at e5
        refine ⟨⟨ShE (.lst (left.map .int)) (.lst (all.map ladP)) k (some (.sh (.int (j : Nat)))) (some (.sh (.int p.1))) (some (.sh (.int p.2))) (some (.ow ((x :: t).map .int))) u8 u9 (some (.sh (.lst (f.map ladP)))), sm⟩, ?_, rfl⟩
        rw [st]
        refine forW_rt tg ?_
        rw [xs_nx e1, xs_nx e2, xs_nx e3, xs_nx sh4_run]
        rw [List.map_cons, xs_nx e5]
        exact xs_rt (sh6_some (by rw [List.length_map]; exact hfl f hrec))
      | none =>
        rw [hrec] at e5
        obtain ⟨s', e, h⟩ := ih (some (.sh (.int (j : Nat)))) (some (.sh (.int p.1))) (some (.sh (.int p.2))) (some (.ow ((x :: t).map .int))) u8 u9 (some (.sh .non))
        refine ⟨s', ?_, h⟩
        rw [st, ← e]
        refine forW_nx tg (.inl ?_)
        rw [xs_nx e1, xs_nx e2, xs_nx e3, xs_nx sh4_run]
        rw [List.map_cons, xs_nx e5]
        show exPs R (.cons sh6 .nil) ⟨ShE _ _ k _ _ _ _ u8 u9 (some (.sh .non)), sm⟩ = _
        rw [xs_nx sh6_none]
        rfl
theorem l_shown_by {R : Rp} {g n : Nat} {sm : Sst} {left : List Int} {ps : List Lad} (hz : left.length ≤ 1000000) (ha : ∀ p ∈ ps, 0 < p.2) (hn : n ≤ 1000)
    (hg : ∀ k, n = k + 1 → ∀ (l : List Int) (ps : List Lad), l.length ≤ left.length → (∀ p ∈ ps, 0 < p.2) → R g [.lst (l.map .int), .lst (ps.map ladP), .int (k : Nat), .bl false] sm = .ok (keptD (shownI k l ps)) sm) :
    finP (exPs R (f_shown_by g).body ⟨envP (f_shown_by g) [.lst (left.map .int), .lst (ps.map ladP), .int (n : Nat), .bl false], sm⟩) = .ok (keptD (shownI n left ps)) sm := by
  have he : envP (f_shown_by g) [.lst (left.map .int), .lst (ps.map ladP), .int (n : Nat), .bl false] = ShE (.lst (left.map .int)) (.lst (ps.map ladP)) (n : Nat) none none none none none none none := rfl
  have hb : (f_shown_by g).body = (.cons (.ite (.nt (.var 0)) (.cons (.ret (.lst .nil)) .nil) .nil) (.cons (.ite (.or (.cmp .eq (.var 2) (.int 0)) (.nt (.var 1))) (.cons (.ret .non) .nil) .nil) (.cons (.forE (.tp [(.nm 4), (.tp [(.nm 5), (.nm 6)])]) (.enm (.var 1)) (sh_b g)) (.cons (.ret .non) .nil)))) := rfl
  rw [he, hb]
  cases left with
  | nil =>
    have : shownI n [] ps = some [] := by cases n <;> rfl
    rw [this]
    have e1 : exP R (.ite (.nt (.var 0)) (.cons (.ret (.lst .nil)) .nil) .nil) ⟨ShE (.lst ([].map .int)) (.lst (ps.map ladP)) (n : Nat) none none none none none none none, sm⟩ = .ok (.rt (.lst [])) ⟨ShE (.lst ([].map .int)) (.lst (ps.map ladP)) (n : Nat) none none none none none none none, sm⟩ := by
      clear hg
      generalize ps.map ladP = P at *
      walk_at "ev"
    rw [xs_rt e1]
    rfl
  | cons x t =>
    have e1 : exP R (.ite (.nt (.var 0)) (.cons (.ret (.lst .nil)) .nil) .nil) ⟨ShE (.lst ((x :: t).map .int)) (.lst (ps.map ladP)) (n : Nat) none none none none none none none, sm⟩ = .ok .nx ⟨ShE (.lst ((x :: t).map .int)) (.lst (ps.map ladP)) (n : Nat) none none none none none none none, sm⟩ := by
      clear hg
      generalize ps.map ladP = P at *
      walk_at "ev"
    rw [xs_nx e1]
    cases n with
    | zero =>
      have e2 : exP R (.ite (.or (.cmp .eq (.var 2) (.int 0)) (.nt (.var 1))) (.cons (.ret .non) .nil) .nil) ⟨ShE (.lst ((x :: t).map .int)) (.lst (ps.map ladP)) ((0 : Nat) : Int) none none none none none none none, sm⟩ = .ok (.rt .non) ⟨ShE (.lst ((x :: t).map .int)) (.lst (ps.map ladP)) ((0 : Nat) : Int) none none none none none none none, sm⟩ := by
        clear hg e1
        generalize ps.map ladP = P at *
        walk_at "ev"
      rw [xs_rt e2]
      rfl
    | succ k =>
      have hk : (((k + 1 : Nat) : Int) == 0) = false := beq_eq_false_iff_ne.mpr (by omega)
      have hk2 : ((k + 1 : Nat) : Int) - 1 = (k : Nat) := by omega
      cases ps with
      | nil =>
        have e2 : exP R (.ite (.or (.cmp .eq (.var 2) (.int 0)) (.nt (.var 1))) (.cons (.ret .non) .nil) .nil) ⟨ShE (.lst ((x :: t).map .int)) (.lst ([].map ladP)) ((k + 1 : Nat) : Int) none none none none none none none, sm⟩ = .ok (.rt .non) ⟨ShE (.lst ((x :: t).map .int)) (.lst ([].map ladP)) ((k + 1 : Nat) : Int) none none none none none none none, sm⟩ := by
          clear hg e1 hk2
          generalize ((k + 1 : Nat) : Int) = n at *
          generalize (x :: t).map D.int = S at *
          walk_at "ev"
        rw [xs_rt e2]
        rfl
      | cons p r =>
        have e2 : exP R (.ite (.or (.cmp .eq (.var 2) (.int 0)) (.nt (.var 1))) (.cons (.ret .non) .nil) .nil) ⟨ShE (.lst ((x :: t).map .int)) (.lst ((p :: r).map ladP)) ((k + 1 : Nat) : Int) none none none none none none none, sm⟩ = .ok .nx ⟨ShE (.lst ((x :: t).map .int)) (.lst ((p :: r).map ladP)) ((k + 1 : Nat) : Int) none none none none none none none, sm⟩ := by
          clear hg e1 hk2
          generalize ((k + 1 : Nat) : Int) = n at *
          generalize (x :: t).map D.int = S at *
          rw [List.map_cons]
          walk_at "ev"
        rw [xs_nx e2]
        obtain ⟨s', e3, h3⟩ := sh_for (R := R) (g := g) (sm := sm) (left := x :: t) (all := p :: r) (k := ((k + 1 : Nat) : Int)) (rec := shownI k) hz ha (fun l qs hl hq => ⟨by rw [hk2]; exact hg k rfl l qs hl hq, fun f hf => by have := (shownI_sound k l qs f hf).2.2; omega⟩) (p :: r) 0 none none none none none none none rfl
        have ef : shownI (k + 1) (x :: t) (p :: r) = shownL (shownI k) (x :: t) (p :: r) := rfl
        rw [ef]
        have e4 : exP R (.forE (.tp [(.nm 4), (.tp [(.nm 5), (.nm 6)])]) (.enm (.var 1)) (sh_b g)) ⟨ShE (.lst ((x :: t).map .int)) (.lst ((p :: r).map ladP)) ((k + 1 : Nat) : Int) none none none none none none none, sm⟩ = .ok (match shownL (shownI k) (x :: t) (p :: r) with
            | some f => .rt (.lst (f.map ladP))
            | none => .nx) s' := by
          rw [x_for]
          unfold tryP
          exact e3
        cases hf : shownL (shownI k) (x :: t) (p :: r) with
        | some f =>
          rw [hf] at e4
          rw [xs_rt e4]
          show FRes.ok _ s'.sm = _
          rw [h3]
          rfl
        | none =>
          rw [hf] at e4
          rw [xs_nx e4]
          show FRes.ok .non s'.sm = _
          rw [h3]
          rfl
end Ih
end
section
set_option Elab.async false
set_option linter.all false
set_option maxHeartbeats 1000000
namespace Ih
open PySem
local macro_rules | `(tactic| walk_at "ev") => `(tactic| simp [v_var, v_non, v_bl, v_int, v_str, v_bin, v_neg, v_nt, v_and, v_or, v_ife, v_cmp, v_cmp2, v_sub, v_slc, v_rev, v_stpL, v_tup, v_lst, v_dic0, v_call, v_callK, v_bi, v_isi, v_met, v_com, x_ex, x_asg, x_asgT, x_par, x_ret, x_retN, x_ite, x_for, x_whl, x_pas, x_con, xs_nil, xs_cons, varP, opd, tst, shr, pret, pbad, pbnd, pof, rdV, rdVs, rdO, rdOs, lend_s, frzE, frz1, evKs, evPs, evMs, evPO, exoP, evW, walkP, tryP, setP, envP, finP, pd_sh, pd_ow, at_non, at_bl, at_int, at_str, at_lst, at_tup, at_dic0, at_stm, it_lst, it_tup, it_non, it_bl, it_int, it_str, it_dic0, tr_non, tr_bl, tr_int, tr_lst, tr_tup, tr_dic0, is_non, is_bl, is_int, is_str, is_lst, is_tup, is_dic0, nn_non, nn_bl, nn_int, nn_str, nn_lst, nn_tup, nn_dic0, cm_is, cm_isn, cm_lt, cm_le, cm_gt, cm_ge, cm_eqi, cm_nei, cm_eqb, cm_neb, isTy, subP, evCs', occB, occE, occEs, occO, occI, occT, occT.occTs, occS, occSs, sz_eq, *])
def f_fewest_by (wb sb : Nat) : Fn := ⟨3, 10, (.cons (.par 3 4 (.call wb (.cons (.var 0) (.cons (.var 1) .nil))) (.com (.tp [(.nm 8), (.nm 9)]) (.enm (.var 0)) (.cons (.var 9) .nil) (.var 8) [7, 8, 9])) (.cons (.forE (.nm 5) (.rng1 (.bin .add (.bi .len (.cons (.var 4) .nil)) (.int 1))) (.cons (.asg (.nm 6) (.call sb (.cons (.var 4) (.cons (.var 3) (.cons (.var 5) (.cons (.var 2) .nil)))))) (.cons (.ite (.cmp .isn (.var 6) .non) (.cons (.ret (.var 6)) .nil) .nil) .nil))) (.cons (.ret .non) .nil)))⟩
abbrev few_b (sb : Nat) : Sxs := (.cons (.asg (.nm 6) (.call sb (.cons (.var 4) (.cons (.var 3) (.cons (.var 5) (.cons (.var 2) .nil)))))) (.cons (.ite (.cmp .isn (.var 6) .non) (.cons (.ret (.var 6)) .nil) .nil) .nil))
theorem few_turn {R : Rp} {sb : Nat} {sm : Sst} {v0 v1 y6 : Option PV} {P : D} {os : List D} {k : Int} {o : Option (List Lad)} (h : R sb [.lst os, P, .int k, .bl false] sm = .ok (keptD o) sm) :
    ∃ s', exPs R (few_b sb) ⟨[v0, v1, some (.sh (.bl false)), some (.sh P), some (.ow os), some (.sh (.int k)), y6, none, none, none], sm⟩ = .ok (match o with
      | some f => .rt (.lst (f.map ladP))
      | none => .nx) s' ∧ s'.sm = sm ∧ (o = none → s'.env = [v0, v1, some (.sh (.bl false)), some (.sh P), some (.ow os), some (.sh (.int k)), some (.sh .non), none, none, none]) := by
  cases o with
  | none =>
    refine ⟨⟨[v0, v1, some (.sh (.bl false)), some (.sh P), some (.ow os), some (.sh (.int k)), some (.sh .non), none, none, none], sm⟩, ?_, rfl, fun _ => rfl⟩
    simp only [keptD] at h
    walk_at "ev"
  | some f =>
    refine ⟨⟨[v0, v1, some (.sh (.bl false)), some (.sh P), some (.sh (.lst os)), some (.sh (.int k)), some (.sh (.lst (f.map ladP))), none, none, none], sm⟩, ?_, rfl, fun z => nomatch z⟩
    simp only [keptD] at h
    dsimp only
    generalize f.map ladP = F at *
    walk_at "ev"
theorem few_for {R : Rp} {sb : Nat} {sm : Sst} {v0 v1 : Option PV} {ones : List Int} {ps : List Lad} (h : ∀ k : Nat, k ≤ ones.length → R sb [.lst (ones.map .int), .lst (ps.map ladP), .int (k : Nat), .bl false] sm = .ok (keptD (shownI k ones ps)) sm) :
    ∀ (ks : List Nat) (y5 y6 : Option PV), (∀ k ∈ ks, k ≤ ones.length) → ∃ s', forW R (.nm 5) (few_b sb) (ks.map fun k : Nat => .one (.int (k : Int))) ⟨[v0, v1, some (.sh (.bl false)), some (.sh (.lst (ps.map ladP))), some (.ow (ones.map .int)), y5, y6, none, none, none], sm⟩ = .ok (match ks.findSome? fun k => shownI k ones ps with
      | some f => .rt (.lst (f.map ladP))
      | none => .nx) s' ∧ s'.sm = sm
  | [], y5, y6, _ => ⟨_, rfl, rfl⟩
  | k :: r, y5, y6, hk => by
    obtain ⟨s1, e1, e2, e3⟩ := few_turn (v0 := v0) (v1 := v1) (y6 := y6) (h k (hk k List.mem_cons_self))
    rw [List.map_cons, List.findSome?_cons]
    cases hs : shownI k ones ps with
    | some f =>
      rw [hs] at e1
      exact ⟨s1, forW_rt (env' := [v0, v1, some (.sh (.bl false)), some (.sh (.lst (ps.map ladP))), some (.ow (ones.map .int)), some (.sh (.int (k : Nat))), y6, none, none, none]) rfl e1, e2⟩
    | none =>
      rw [hs] at e1 e3
      have e3 := e3 rfl
      obtain ⟨s', e4, e5⟩ := few_for h r (some (.sh (.int (k : Nat)))) (some (.sh .non)) fun j hj => hk j (List.mem_cons_of_mem _ hj)
      refine ⟨s', (forW_nx (env' := [v0, v1, some (.sh (.bl false)), some (.sh (.lst (ps.map ladP))), some (.ow (ones.map .int)), some (.sh (.int (k : Nat))), y6, none, none, none]) rfl (.inl e1)).trans ?_, e5⟩
      have : s1 = ⟨[v0, v1, some (.sh (.bl false)), some (.sh (.lst (ps.map ladP))), some (.ow (ones.map .int)), some (.sh (.int (k : Nat))), some (.sh .non), none, none, none], sm⟩ := by
        obtain ⟨a, b⟩ := s1
        cases e2
        cases e3
        rfl
      rw [this]
      exact e4
theorem ones_com {R : Rp} {r : List Int} {sm : Sst} {v1 v2 : Option PV} (hz : r.length ≤ 1000000) : comW R (.tp [(.nm 8), (.nm 9)]) [7, 8, 9] (.cons (.var 9) .nil) (.var 8) (enmP 0 (r.map .int)) ⟨[some (.sh (.lst (r.map .int))), v1, v2, none, none, none, none, none, none, none], sm⟩ =
    .ok (.ow ((onesI r).map .int)) ⟨[some (.sh (.lst (r.map .int))), v1, v2, none, none, none, none, none, none, none], sm⟩ := by
  have em : (onesI r).map D.int = (r.zipIdx.filter fun z => z.1 != 0).map fun z => .int (z.2 : Nat) := by unfold onesI; rw [List.map_map]; rfl
  rw [em, enmP_ints]
  refine comW_gen (α := Int × Nat) (fun p => .many [.int (p.2 : Nat), .int p.1]) (fun p => [some (.sh (.lst (r.map .int))), v1, v2, none, none, none, none, none, some (.sh (.int (p.2 : Nat))), some (.sh (.int p.1))]) (fun z => z.1 != 0) (fun z => .int (z.2 : Nat)) rfl rfl rfl (fun p hp => ⟨rfl, rfl, ?_, fun _ => rfl⟩) (by rw [List.length_zipIdx]; exact Nat.le_trans hz (by decide))
  clear em hp hz
  generalize ((p.2 : Nat) : Int) = b at *
  generalize p.1 = a at *
  generalize r.map D.int = S at *
  walk_at "ev"
theorem rg_nat (n : Nat) : (rgI 0 (n : Int)).map (fun i => PIv.one (.int i)) = (List.range n).map fun k : Nat => .one (.int (k : Int)) := by
  unfold rgI
  rw [List.map_map]
  have : ((n : Int) - 0).toNat = n := by omega
  rw [this]
  refine List.map_congr_left fun k _ => ?_
  show PIv.one (.int (0 + (k : Int))) = _
  rw [Int.zero_add]
theorem l_fewest_by {R : Rp} {wb sb : Nat} {r : List Int} {m : Int} {sm : Sst} {ps : List Lad} (hw : R wb [.lst (r.map .int), .int m] sm = .ok (.lst (ps.map ladP)) sm) (hz : r.length ≤ 1000000)
    (h : ∀ k : Nat, k ≤ (onesI r).length → R sb [.lst ((onesI r).map .int), .lst (ps.map ladP), .int (k : Nat), .bl false] sm = .ok (keptD (shownI k (onesI r) ps)) sm) :
    finP (exPs R (f_fewest_by wb sb).body ⟨envP (f_fewest_by wb sb) [.lst (r.map .int), .int m, .bl false], sm⟩) = .ok (keptD (fewI (onesI r) ps)) sm := by
  have hc := ones_com (R := R) (r := r) (sm := sm) (v1 := some (.sh (.int m))) (v2 := some (.sh (.bl false))) hz
  obtain ⟨s', e, hs⟩ := few_for (R := R) (sb := sb) (sm := sm) (v0 := some (.sh (.lst (r.map .int)))) (v1 := some (.sh (.int m))) h (List.range ((onesI r).length + 1)) none none fun k hk => by have := List.mem_range.mp hk; omega
  have hol : (onesI r).length ≤ 1000000 := by
    unfold onesI
    rw [List.length_map]
    refine Nat.le_trans (List.length_filter_le _ _) ?_
    rw [List.length_zipIdx]
    exact hz
  have h1 := bi_len ((onesI r).map .int)
  rw [List.length_map] at h1
  have h2 : binP .add (.int ((onesI r).length : Nat)) (.int 1) = some (.sh (.int (((onesI r).length + 1 : Nat) : Int))) := rfl
  have h3 := rngP_ok (a := 0) (b := (((onesI r).length + 1 : Nat) : Int)) (by omega) (by omega) (by omega) (by omega)
  rw [rg_nat] at h3
  have hf : (List.range ((onesI r).length + 1)).findSome? (fun k => shownI k (onesI r) ps) = fewI (onesI r) ps := rfl
  rw [hf] at e
  simp only [f_fewest_by]
  clear hf h hz hol
  generalize (List.range ((onesI r).length + 1)).map (fun k : Nat => PIv.one (.int (k : Int))) = I at *
  generalize (((onesI r).length + 1 : Nat) : Int) = n1 at *
  generalize (((onesI r).length : Nat) : Int) = n0 at *
  generalize (onesI r).map D.int = O at *
  generalize ps.map ladP = P at *
  cases hx : fewI (onesI r) ps with
  | some f =>
    rw [hx] at e
    dsimp only at e
    simp only [keptD]
    clear hx
    generalize f.map ladP = F at *
    generalize r.map D.int = S at *
    walk_at "ev"
  | none =>
    rw [hx] at e
    dsimp only at e
    simp only [keptD]
    clear hx
    generalize r.map D.int = S at *
    walk_at "ev"
def f_bare_place (rb wb : Nat) : Fn := ⟨2, 6, (.cons (.asg (.nm 2) (.call rb (.cons (.call wb (.cons (.var 0) (.cons (.var 1) .nil))) (.cons (.bi .len (.cons (.var 0) .nil)) .nil)))) (.cons (.ret (.sub (.bin .add (.com (.tp [(.nm 4), (.nm 5)]) (.enm (.var 0)) (.cons (.and (.var 5) (.nt (.sub (.var 2) (.var 4)))) .nil) (.var 4) [3, 4, 5]) (.lst (.cons .non .nil))) (.int 0))) .nil))⟩
theorem l_bare_place {R : Rp} {rb wb : Nat} {r q : List Int} {m : Int} {sm : Sst} {P : D} (hw : R wb [.lst (r.map .int), .int m] sm = .ok P sm) (hr : R rb [P, .int (r.length : Nat)] sm = .ok (.lst (q.map .int)) sm) (hz : r.length ≤ 1000000) (hl : q.length = r.length) (hq : ∀ (j : Nat) (v w : Int), r[j]? = some v → v ≠ 0 → q[j]? = some w → w ≠ 0) :
    finP (exPs R (f_bare_place rb wb).body ⟨envP (f_bare_place rb wb) [.lst (r.map .int), .int m], sm⟩) = .ok .non sm := by
  have hc : comW R (.tp [(.nm 4), (.nm 5)]) [3, 4, 5] (.cons (.and (.var 5) (.nt (.sub (.var 2) (.var 4)))) .nil) (.var 4) (enmP 0 (r.map .int)) ⟨[some (.sh (.lst (r.map .int))), some (.sh (.int m)), some (.sh (.lst (q.map .int))), none, none, none], sm⟩ = .ok (.ow ((r.zipIdx.filter fun _ => false).map fun z => .int (z.2 : Nat))) ⟨[some (.sh (.lst (r.map .int))), some (.sh (.int m)), some (.sh (.lst (q.map .int))), none, none, none], sm⟩ := by
    rw [enmP_ints]
    refine comW_gen (α := Int × Nat) (fun p => .many [.int (p.2 : Nat), .int p.1]) (fun p => [some (.sh (.lst (r.map .int))), some (.sh (.int m)), some (.sh (.lst (q.map .int))), none, some (.sh (.int (p.2 : Nat))), some (.sh (.int p.1))]) (fun z => false) (fun z => .int (z.2 : Nat)) rfl rfl rfl (fun p hp => ⟨rfl, rfl, ?_, fun z => nomatch z⟩) (by rw [List.length_zipIdx]; exact Nat.le_trans hz (by decide))
    obtain ⟨v, j⟩ := p
    have hv := List.mk_mem_zipIdx_iff_getElem?.mp hp
    have hj : j < q.length := by
      have := (List.getElem?_eq_some_iff.mp hv).1
      omega
    have hqj : q[j]? = some q[j] := List.getElem?_eq_getElem hj
    have hat : L2.atI (q.map D.int) (j : Nat) = some (.int q[j]) := by
      unfold L2.atI L2.ixN
      rw [List.length_map, if_pos (by omega), if_pos (by omega)]
      show (q.map D.int)[((j : Nat) : Int).toNat]? = _
      rw [Int.toNat_natCast, List.getElem?_map, hqj]
      rfl
    dsimp only
    by_cases h0 : v = 0
    · subst h0
      clear hq hp hv hr hw hz hl hat hqj
      generalize ((j : Nat) : Int) = a at *
      generalize q.map D.int = Q at *
      generalize r.map D.int = S at *
      walk_at "ev"
    · have hne := hq j v q[j] hv h0 hqj
      have h1 : (v != 0) = true := by simpa using h0
      have h2 : (q[j] != 0) = true := by simpa using hne
      clear hq hp hv hr hw hz hqj h0 hne
      generalize q[j] = w at *
      clear hl hj
      generalize ((j : Nat) : Int) = a at *
      generalize q.map D.int = Q at *
      generalize r.map D.int = S at *
      walk_at "ev"
  have hf : (r.zipIdx.filter fun _ => false) = [] := by simp
  rw [hf, List.map_nil] at hc
  have h1 := bi_len (r.map .int)
  rw [List.length_map] at h1
  have h2 : binP .add (.lst []) (.lst [.non]) = some (.ow [.non]) := rfl
  have h3 : L2.atI [D.non] 0 = some .non := rfl
  simp only [f_bare_place]
  clear hq hf hz hl
  generalize ((r.length : Nat) : Int) = n at *
  generalize q.map D.int = Q at *
  generalize r.map D.int = S at *
  walk_at "ev"
def f_told_or_place (ns bp nm fb : Nat) : Fn := ⟨2, 4, (.cons (.asg (.nm 2) (.call ns (.cons (.var 0) .nil))) (.cons (.asg (.nm 3) (.call bp (.cons (.var 2) (.cons (.call nm (.cons (.var 1) .nil)) .nil)))) (.cons (.ret (.ife (.cmp .isn (.var 3) .non) (.tup (.cons (.str "place") (.cons (.var 3) .nil))) (.tup (.cons (.str "told") (.cons (.call fb (.cons (.var 2) (.cons (.var 1) (.cons (.bl false) .nil)))) .nil))))) .nil)))⟩
theorem l_told_or_place {R : Rp} {ns bp nm fb : Nat} {d S F : D} {m : Int} {sm : Sst} (h1 : R ns [d] sm = .ok S sm) (h2 : R nm [.int m] sm = .ok (.int m) sm) (h3 : R bp [S, .int m] sm = .ok .non sm) (h4 : R fb [S, .int m, .bl false] sm = .ok F sm) :
    finP (exPs R (f_told_or_place ns bp nm fb).body ⟨envP (f_told_or_place ns bp nm fb) [d, .int m], sm⟩) = .ok (.tup [.str "told", F]) sm := by
  simp only [f_told_or_place]
  walk_at "ev"
def f_fewest_ladders (tp : Nat) : Fn := ⟨2, 3, (.cons (.asg (.nm 2) (.call tp (.cons (.var 0) (.cons (.var 1) .nil)))) (.cons (.ret (.ife (.cmp .eq (.sub (.var 2) (.int 0)) (.str "told")) (.bi .len (.cons (.sub (.var 2) (.int 1)) .nil)) .non)) .nil))⟩
theorem eq_str {z : Str} (h : PyData.strOk z = true) : cmpP .eq (.str z) (.str z) = some true := by
  rw [cm_eq, lk_str h]
  dsimp only
  show some (z == z) = _
  rw [beq_self_eq_true]
theorem l_fewest_ladders {R : Rp} {tp : Nat} {d : D} {fs : List D} {m : Int} {sm : Sst} (h : R tp [d, .int m] sm = .ok (.tup [.str "told", .lst fs]) sm) : finP (exPs R (f_fewest_ladders tp).body ⟨envP (f_fewest_ladders tp) [d, .int m], sm⟩) = .ok (.int (fs.length : Nat)) sm := by
  have h1 := eq_str (z := "told") (by decide +kernel)
  have a0 : L2.atI [.str "told", D.lst fs] 0 = some (.str "told") := rfl
  have a1 : L2.atI [.str "told", D.lst fs] 1 = some (.lst fs) := rfl
  have h2 := bi_len fs
  simp only [f_fewest_ladders]
  generalize ((fs.length : Nat) : Int) = n at *
  walk_at "ev"
def f_told_missed : Fn := ⟨1, 1, (.cons (.ret (.ife (.cmp .is (.var 0) .non) (.tup (.cons (.str "all") .nil)) (.tup (.cons (.str "missed") (.cons (.var 0) .nil))))) .nil)⟩
def toldD (o : Option Int) : D := match o with
  | some n => .tup [.str "missed", .int n]
  | none => .tup [.str "all"]
theorem l_told_missed {R : Rp} {o : Option Int} {sm : Sst} : finP (exPs R f_told_missed.body ⟨envP f_told_missed [firstD o], sm⟩) = .ok (toldD o) sm := by
  simp only [f_told_missed]
  cases o <;> simp only [firstD, toldD] <;> walk_at "ev"
def f_all_or_missed (tm fm nl : Nat) : Fn := ⟨1, 1, (.cons (.ret (.call tm (.cons (.call fm (.cons (.call nl (.cons (.var 0) .nil)) .nil)) .nil))) .nil)⟩
theorem l_all_or_missed {R : Rp} {tm fm nl : Nat} {d S F z : D} {sm : Sst} (h1 : R nl [d] sm = .ok S sm) (h2 : R fm [S] sm = .ok F sm) (h3 : R tm [F] sm = .ok z sm) : finP (exPs R (f_all_or_missed tm fm nl).body ⟨envP (f_all_or_missed tm fm nl) [d], sm⟩) = .ok z sm := by
  simp only [f_all_or_missed]
  walk_at "ev"
end Ih
end
section
set_option Elab.async false
set_option linter.all false
set_option maxHeartbeats 1000000
namespace Ih
open PySem
local macro_rules | `(tactic| walk_at "ev") => `(tactic| simp [v_var, v_non, v_bl, v_int, v_str, v_bin, v_neg, v_nt, v_and, v_or, v_ife, v_cmp, v_cmp2, v_sub, v_slc, v_rev, v_stpL, v_tup, v_lst, v_dic0, v_call, v_callK, v_bi, v_isi, v_met, v_com, x_ex, x_asg, x_asgT, x_par, x_ret, x_retN, x_ite, x_for, x_whl, x_pas, x_con, xs_nil, xs_cons, varP, opd, tst, shr, pret, pbad, pbnd, pof, rdV, rdVs, rdO, rdOs, lend_s, frzE, frz1, evKs, evPs, evMs, evPO, exoP, evW, walkP, tryP, setP, envP, finP, pd_sh, pd_ow, at_non, at_bl, at_int, at_str, at_lst, at_tup, at_dic0, at_stm, it_lst, it_tup, it_non, it_bl, it_int, it_str, it_dic0, tr_non, tr_bl, tr_int, tr_lst, tr_tup, tr_dic0, is_non, is_bl, is_int, is_str, is_lst, is_tup, is_dic0, nn_non, nn_bl, nn_int, nn_str, nn_lst, nn_tup, nn_dic0, cm_is, cm_isn, cm_lt, cm_le, cm_gt, cm_ge, cm_eqi, cm_nei, cm_eqb, cm_neb, isTy, subP, evCs', occB, occE, occEs, occO, occI, occT, occT.occTs, occS, occSs, sz_eq, *])
def putP (acc : List Lad) (s : Lad) : List Lad := match acc.getLast? with
  | none => acc ++ [s]
  | some l => if l = s then acc else acc ++ [s]
def unlP (ls : List Lad) : List Lad := (sortK (fun p => p) ls).foldl putP []
theorem look_lad (p : Lad) : D.look (ladP p) = some (.tuple [.int p.1, .int p.2]) := rfl
theorem ne_lad (p q : Lad) : cmpP .ne (ladP p) (ladP q) = some (!(p == q)) := by
  rw [cm_ne, look_lad, look_lad]
  dsimp only
  refine congrArg some (congrArg (fun b => !b) ?_)
  show ((p.1 == q.1) && ((p.2 == q.2) && true)) = (p == q)
  rw [Bool.and_true]
  rfl
theorem look_lads {ps : List Lad} (h : ps.length ≤ 1000000) : D.look (.lst (ps.map ladP)) = some (.list (ps.map fun p => .tuple [.int p.1, .int p.2])) := by
  have := lads_look (ls := ps.map some) (by rw [List.length_map]; exact h)
  unfold ladsD ladsPy at this
  rw [List.map_map, List.map_map] at this
  exact this
theorem eq_nilP {ps : List Lad} (h : ps.length ≤ 1000000) : cmpP .eq (.lst (ps.map ladP)) (.lst []) = some ps.isEmpty := by
  rw [cm_eq, look_lads h, lk_nil]
  dsimp only
  cases ps <;> rfl
theorem unlP_turn {R : Rp} {sm : Sst} {x0 : Option PV} {acc : List Lad} {s : Lad} (h : acc.length < 100000) : exPs R unl_b ⟨[x0, some (.ow (acc.map ladP)), some (.sh (ladP s))], sm⟩ = .ok .nx ⟨[x0, some (.ow ((putP acc s).map ladP)), some (.sh (ladP s))], sm⟩ := by
  have h1 := eq_nilP (ps := acc) (by omega)
  have hl : acc.length + 1 ≤ sizeLine := by unfold sizeLine; omega
  have ext : ∀ zs : List D, (acc.map ladP).length + zs.length ≤ sizeLine → metP .extend (acc.map ladP) [.lst zs] = some (.non, acc.map ladP ++ zs) := fun zs hz => by
    unfold metP
    dsimp only
    rw [if_pos hz]
  have h2 := ext [ladP s] (by rw [List.length_map]; exact hl)
  have h3 := ext [] (by rw [List.length_map]; exact Nat.le_of_lt hl)
  rw [List.append_nil] at h3
  have h4 : L2.atI (acc.map ladP) (-1) = acc.getLast?.map ladP := by rw [at_last, List.getLast?_map]
  cases hg : acc.getLast? with
  | none =>
    have : acc = [] := List.getLast?_eq_none_iff.mp hg
    subst this
    simp only [putP, List.getLast?_nil]
    clear h1 h3 h4 hl h ext hg
    have h1 : cmpP .eq (.lst []) (.lst []) = some true := rfl
    simp only [List.map_nil, List.map_cons, List.nil_append] at h2 ⊢
    generalize ladP s = S at *
    walk_at "ev"
  | some l =>
    replace h1 : cmpP .eq (.lst (acc.map ladP)) (.lst []) = some false := by
      rw [h1]
      cases acc with
      | nil => cases hg
      | cons a r => rfl
    rw [hg] at h4
    have h5 := ne_lad l s
    simp only [putP, hg]
    by_cases q : l = s
    · rw [if_pos q]
      have e : (l == s) = true := beq_iff_eq.mpr q
      rw [e] at h5
      clear hg hl h ext h2 e q
      simp only [Option.map_some, Bool.not_true] at h4 h5
      generalize ladP s = S at *
      generalize ladP l = L at *
      generalize acc.map ladP = A at *
      walk_at "ev"
    · rw [if_neg q]
      have e : (l == s) = false := beq_eq_false_iff_ne.mpr q
      rw [e] at h5
      rw [List.map_append, List.map_cons, List.map_nil]
      clear hg hl h ext h3 e q
      simp only [Option.map_some, Bool.not_false] at h4 h5
      generalize ladP s = S at *
      generalize ladP l = L at *
      generalize acc.map ladP = A at *
      walk_at "ev"
theorem putP_len (acc : List Lad) (s : Lad) : (putP acc s).length ≤ acc.length + 1 := by
  unfold putP
  split
  · rw [List.length_append]; exact Nat.le_refl _
  · split
    · exact Nat.le_succ _
    · rw [List.length_append]; exact Nat.le_refl _
theorem unlP_for {R : Rp} {sm : Sst} {x0 : Option PV} : ∀ (ss acc : List Lad) (y : Option PV), acc.length + ss.length ≤ 100000 → ∃ y', forW R (.nm 2) unl_b (onesP (ss.map ladP)) ⟨[x0, some (.ow (acc.map ladP)), y], sm⟩ = .ok .nx ⟨[x0, some (.ow ((ss.foldl putP acc).map ladP)), y'], sm⟩
  | [], acc, y, _ => ⟨y, rfl⟩
  | s :: r, acc, y, h => by
    rw [List.length_cons] at h
    have := putP_len acc s
    obtain ⟨y', e⟩ := unlP_for (R := R) (sm := sm) (x0 := x0) r (putP acc s) (some (.sh (ladP s))) (by omega)
    exact ⟨y', (forW_nx (env' := [x0, some (.ow (acc.map ladP)), some (.sh (ladP s))]) rfl (.inl (unlP_turn (by omega)))).trans e⟩
theorem l_unlikeP {R : Rp} {sm : Sst} {ls : List Lad} (h : ls.length ≤ 100000) : finP (exPs R f_unlike.body ⟨envP f_unlike [.lst (ls.map ladP)], sm⟩) = .ok (.lst ((unlP ls).map ladP)) sm := by
  have hp := sortK_perm (fun p : Lad => p) ls
  obtain ⟨y', e⟩ := unlP_for (R := R) (sm := sm) (x0 := some (.sh (.lst (ls.map ladP)))) (sortK (fun p => p) ls) [] none (by rw [hp.length_eq]; exact (Nat.zero_add _).symm ▸ h)
  have hs := bi_sortP ls
  have eu : (sortK (fun p => p) ls).foldl putP [] = unlP ls := rfl
  rw [eu, List.map_nil] at e
  simp only [f_unlike]
  clear h eu hp
  generalize (unlP ls).map ladP = U at *
  generalize (sortK (fun p => p) ls).map ladP = S at *
  generalize ls.map ladP = A at *
  walk_at "ev"
theorem putP_mem {acc : List Lad} {s x : Lad} (h : x ∈ acc ∨ x = s) : x ∈ putP acc s := by
  unfold putP
  split
  · rcases h with h | rfl
    · exact List.mem_append_left _ h
    · exact List.mem_append_right _ List.mem_cons_self
  · rename_i l hl
    split
    · rename_i q
      rcases h with h | rfl
      · exact h
      · rw [← q]
        exact List.mem_of_getLast? hl
    · rcases h with h | rfl
      · exact List.mem_append_left _ h
      · exact List.mem_append_right _ List.mem_cons_self
theorem putP_sub {acc : List Lad} {s x : Lad} (h : x ∈ putP acc s) : x ∈ acc ∨ x = s := by
  unfold putP at h
  split at h
  · rcases List.mem_append.mp h with h | h
    · exact .inl h
    · exact .inr (List.mem_singleton.mp h)
  · split at h
    · exact .inl h
    · rcases List.mem_append.mp h with h | h
      · exact .inl h
      · exact .inr (List.mem_singleton.mp h)
theorem foldP_mem : ∀ (ss acc : List Lad) (x : Lad), x ∈ ss.foldl putP acc ↔ x ∈ acc ∨ x ∈ ss
  | [], acc, x => by simp
  | s :: r, acc, x => by
    rw [List.foldl_cons, foldP_mem r]
    constructor
    · rintro (h | h)
      · rcases putP_sub h with h | rfl
        · exact .inl h
        · exact .inr List.mem_cons_self
      · exact .inr (List.mem_cons_of_mem _ h)
    · rintro (h | h)
      · exact .inl (putP_mem (.inl h))
      · rcases List.mem_cons.mp h with rfl | h
        · exact .inl (putP_mem (.inr rfl))
        · exact .inr h
theorem unlP_mem {ls : List Lad} {x : Lad} : x ∈ unlP ls ↔ x ∈ ls := by
  unfold unlP
  rw [foldP_mem, (sortK_perm _ _).mem_iff]
  simp
def LdOk (ls : List Lad) : Prop := ∀ p ∈ ls, 0 ≤ p.1 ∧ p.1 < p.2 ∧ p.2 ≤ 36
abbrev es1 (dw pk : Nat) : Sx := (.asg (.tp [(.nm 4), (.nm 5)]) (.tup (.cons (.call dw (.cons (.var 0) (.cons (.bi .len (.cons (.var 2) .nil)) .nil))) (.cons (.call pk (.cons (.var 0) (.cons (.lst (.cons (.int 2) (.cons (.int 2) (.cons (.int 2) (.cons (.int 3) .nil))))) .nil))) .nil))))
abbrev es2 : Sx := (.asg (.tp [(.nm 6), (.nm 7)]) (.sub (.var 2) (.var 4)))
abbrev es3c : Ex := (.com (.nm 9) (.rng1 (.var 5)) .nil (.tup (.cons (.bin .add (.var 6) (.bin .mul (.var 7) (.var 9))) (.cons (.bin .mul (.var 7) (.var 5)) .nil))) [8, 9])
abbrev es3 : Sx := (.ite (.cmp .lt (.bin .mul (.var 7) (.var 5)) (.int 37)) (.cons (.asg (.nm 2) (.bin .add (.bin .add (.slc (.var 2) .none (.some (.var 4))) es3c) (.slc (.var 2) (.some (.bin .add (.var 4) (.int 1))) .none))) .nil) .nil)
def f_e_split (dw pk : Nat) : Fn := ⟨2, 10, (.cons (.asg (.nm 2) (.lst (.cons (.tup (.cons (.int 0) (.cons (.int 1) .nil))) .nil))) (.cons (.forE (.nm 3) (.rng1 (.var 1)) (.cons (es1 dw pk) (.cons es2 (.cons es3 .nil)))) (.cons (.ret (.var 2)) .nil)))⟩
section
variable {R : Rp} {dw pk : Nat} {sm sm1 sm2 : Sst} {n : Int} {w3 w4 w5 w6 w7 : Option PV}
abbrev EsE (n : Int) (L : List D) (w3 w4 w5 w6 w7 : Option PV) : List (Option PV) := [some (.sh .stm), some (.sh (.int n)), some (.ow L), w3, w4, w5, w6, w7, none, none]
def twosD : List D := [.int 2, .int 2, .int 2, .int 3]
theorem es1_run {L : List D} {a b : D} (h1 : R dw [.stm, .int (L.length : Nat)] sm = .ok a sm1) (h2 : R pk [.stm, .lst twosD] sm1 = .ok b sm2) : exP R (es1 dw pk) ⟨EsE n L w3 w4 w5 w6 w7, sm⟩ = .ok .nx ⟨EsE n L w3 (some (.sh a)) (some (.sh b)) w6 w7, sm2⟩ := by
  have h3 := bi_len L
  unfold twosD at h2
  generalize ((L.length : Nat) : Int) = m at *
  walk_at "ev"
  rfl
theorem es2_run {L : List D} {a : Int} {p : Lad} (h : L2.atI L a = some (ladP p)) : exP R es2 ⟨EsE n L w3 (some (.sh (.int a))) w5 w6 w7, sm⟩ = .ok .nx ⟨EsE n L w3 (some (.sh (.int a))) w5 (some (.sh (.int p.1))) (some (.sh (.int p.2))), sm⟩ := by
  have e : ladP p = .tup [.int p.1, .int p.2] := rfl
  rw [e] at h
  generalize p.1 = x at *
  generalize p.2 = y at *
  walk_at "ev"
  rfl
theorem es3_com {L : List D} {a b : Option PV} {m : Int} {p : Lad} (hm : 0 ≤ m) (hm2 : m ≤ 3) : comW R (.nm 9) [8, 9] .nil (.tup (.cons (.bin .add (.var 6) (.bin .mul (.var 7) (.var 9))) (.cons (.bin .mul (.var 7) (.var 5)) .nil))) ((rgI 0 m).map fun i => .one (.int i)) ⟨EsE n L w3 a (some (.sh (.int m))) (some (.sh (.int p.1))) (some (.sh (.int p.2))), sm⟩ =
    .ok (.ow (((rgI 0 m).map fun i => (p.1 + p.2 * i, p.2 * m)).map ladP)) ⟨EsE n L w3 a (some (.sh (.int m))) (some (.sh (.int p.1))) (some (.sh (.int p.2))), sm⟩ := by
  rw [List.map_map]
  rw [comW_gen (fun i => .one (.int i)) (fun i => [some (.sh .stm), some (.sh (.int n)), some (.ow L), w3, a, some (.sh (.int m)), some (.sh (.int p.1)), some (.sh (.int p.2)), none, some (.sh (.int i))]) (fun _ => true) (fun i => .tup [.int (p.1 + p.2 * i), .int (p.2 * m)]) rfl rfl rfl (fun i hi => ⟨rfl, rfl, rfl, fun _ => ?_⟩) (by rw [len_rgI]; exact Nat.le_trans (m := 3) (by omega) (by decide)), List.filter_eq_self.mpr fun _ _ => rfl]
  · rfl
  · have := mem_rgI.mp hi
    have h1 := bn_mulR (i := p.2) (j := i) (small_of (by omega) (by omega))
    have h2 := bn_mulR (i := p.2) (j := m) (small_of (by omega) (by omega))
    have h3 : binP .add (.int p.1) (.int (p.2 * i)) = some (.sh (.int (p.1 + p.2 * i))) := rfl
    clear this hi hm hm2
    generalize p.1 + p.2 * i = s at *
    generalize p.2 * i = t at *
    generalize p.2 * m = u at *
    generalize p.1 = x at *
    generalize p.2 = y at *
    walk_at "ev"
theorem es3_no {L : List D} {a : Option PV} {m : Int} {p : Lad} (hm : 0 ≤ m) (hm2 : m ≤ 3) (h : ¬ p.2 * m < 37) : exP R es3 ⟨EsE n L w3 a (some (.sh (.int m))) (some (.sh (.int p.1))) (some (.sh (.int p.2))), sm⟩ = .ok .nx ⟨EsE n L w3 a (some (.sh (.int m))) (some (.sh (.int p.1))) (some (.sh (.int p.2))), sm⟩ := by
  have h2 := bn_mulR (i := p.2) (j := m) (small_of (by omega) (by omega))
  have h3 : cmpP .lt (.int (p.2 * m)) (.int 37) = some false := by rw [cm_lt, decide_eq_false h]
  clear hm hm2
  generalize p.2 * m = u at *
  generalize p.1 = x at *
  generalize p.2 = y at *
  walk_at "ev"
theorem es3_yes {ls : List Lad} {j : Nat} {m : Int} {p : Lad} (hm : 0 ≤ m) (hm2 : m ≤ 3) (hl : ls.length ≤ 1000) (h : p.2 * m < 37) : exP R es3 ⟨EsE n (ls.map ladP) w3 (some (.sh (.int (j : Nat)))) (some (.sh (.int m))) (some (.sh (.int p.1))) (some (.sh (.int p.2))), sm⟩ =
    .ok .nx ⟨EsE n ((ls.take j ++ (rgI 0 m).map (fun i => (p.1 + p.2 * i, p.2 * m)) ++ ls.drop (j + 1)).map ladP) w3 (some (.sh (.int (j : Nat)))) (some (.sh (.int m))) (some (.sh (.int p.1))) (some (.sh (.int p.2))), sm⟩ := by
  have hc := es3_com (R := R) (n := n) (sm := sm) (w3 := w3) (L := ls.map ladP) (a := some (.sh (.int (j : Nat)))) (b := none) (p := p) hm hm2
  have h2 := bn_mulR (i := p.2) (j := m) (small_of (by omega) (by omega))
  have h3 : cmpP .lt (.int (p.2 * m)) (.int 37) = some true := by rw [cm_lt, decide_eq_true h]
  have h4 := rngP_ok (a := 0) (b := m) (by omega) (by omega) (by omega) (by omega)
  have s1 := sl_to (xs := ls.map ladP) (k := j)
  have s2 := sl_from (xs := ls.map ladP) (k := j + 1)
  rw [← List.map_take] at s1
  rw [← List.map_drop] at s2
  have h5 : binP .add (.int (j : Nat)) (.int 1) = some (.sh (.int ((j + 1 : Nat) : Int))) := rfl
  have lm : ((rgI 0 m).map (fun i => (p.1 + p.2 * i, p.2 * m))).length ≤ 3 := by rw [List.length_map, len_rgI]; omega
  have a1 := bn_addL (xs := (ls.take j).map ladP) (ys := ((rgI 0 m).map (fun i => (p.1 + p.2 * i, p.2 * m))).map ladP) (by rw [List.length_map, List.length_map, List.length_take, sz_eq]; omega)
  rw [← List.map_append] at a1
  have a2 := bn_addL (xs := (ls.take j ++ (rgI 0 m).map (fun i => (p.1 + p.2 * i, p.2 * m))).map ladP) (ys := (ls.drop (j + 1)).map ladP) (by rw [List.length_map, List.length_map, List.length_append, List.length_take, List.length_drop, sz_eq]; omega)
  rw [← List.map_append] at a2
  clear hm hm2 hl h lm
  generalize (ls.take j ++ (rgI 0 m).map (fun i => (p.1 + p.2 * i, p.2 * m)) ++ ls.drop (j + 1)).map ladP = Z at *
  generalize (ls.take j ++ (rgI 0 m).map (fun i => (p.1 + p.2 * i, p.2 * m))).map ladP = Y at *
  generalize ((rgI 0 m).map (fun i => (p.1 + p.2 * i, p.2 * m))).map ladP = W at *
  generalize (ls.take j).map ladP = T at *
  generalize (ls.drop (j + 1)).map ladP = U at *
  generalize ls.map ladP = L at *
  generalize (rgI 0 m).map (fun i => PIv.one (.int i)) = I at *
  generalize ((j + 1 : Nat) : Int) = j1 at *
  generalize ((j : Nat) : Int) = j0 at *
  generalize p.2 * m = u at *
  generalize p.1 = x at *
  generalize p.2 = y at *
  walk_at "ev"
theorem twos_ok : ∀ x ∈ twosD, ∃ m : Int, x = .int m ∧ 2 ≤ m ∧ m ≤ 3 := by
  intro x hx
  unfold twosD at hx
  simp only [List.mem_cons, List.not_mem_nil, or_false] at hx
  rcases hx with rfl | rfl | rfl | rfl <;> exact ⟨_, rfl, by decide, by decide⟩
theorem es_turn {ls : List Lad} {b : Int} (hR : Draws R dw) (hP : Picks R pk) (hs : SmOk b sm) (hb : b + 10 < 1099511627776) (hn : ls ≠ []) (hl : ls.length ≤ 500) (ho : LdOk ls) :
    ∃ ms u4 u5 u6 u7 sm', exPs R (.cons (es1 dw pk) (.cons es2 (.cons es3 .nil))) ⟨EsE n (ls.map ladP) w3 w4 w5 w6 w7, sm⟩ = .ok .nx ⟨EsE n (ms.map ladP) w3 u4 u5 u6 u7, sm'⟩ ∧ ms ≠ [] ∧ ms.length ≤ ls.length + 2 ∧ LdOk ms ∧ SmOk (b + 2) sm' := by
  have hpos : 0 < ls.length := List.length_pos_iff.mpr hn
  obtain ⟨a, sm1, e1, a0, a1, h1⟩ := hR b ls.length sm hs (by omega) (by omega) (by omega)
  obtain ⟨x, sm2, e2, hx, h2⟩ := hP (b + 1) sm1 twosD h1 (by omega) (by decide) (by decide)
  obtain ⟨m, rfl, m1, m2⟩ := twos_ok x hx
  obtain ⟨j, rfl⟩ : ∃ j : Nat, a = j := ⟨a.toNat, by omega⟩
  have hj : j < ls.length := by omega
  have hat : L2.atI (ls.map ladP) (j : Nat) = some (ladP ls[j]) := by
    unfold L2.atI L2.ixN
    rw [List.length_map, if_pos (by omega), if_pos (by omega)]
    show (ls.map ladP)[((j : Nat) : Int).toNat]? = _
    rw [Int.toNat_natCast, List.getElem?_map, List.getElem?_eq_getElem hj]
    rfl
  have hpo := ho ls[j] (List.getElem_mem hj)
  have e1' : R dw [.stm, .int ((ls.map ladP).length : Nat)] sm = .ok (.int (j : Nat)) sm1 := by rw [List.length_map]; exact e1
  have h2' : SmOk (b + 2) sm2 := h2.le (by omega)
  by_cases hlt : ls[j].2 * m < 37
  · refine ⟨_, _, _, _, _, sm2, by
      rw [xs_nx (es1_run e1' e2), xs_nx (es2_run hat), xs_nx (es3_yes (by omega) m2 (by omega) hlt)]
      rfl, fun z => ?_, ?_, fun q hq => ?_, h2'⟩
    · have := congrArg List.length z
      rw [List.length_append, List.length_append, List.length_map, len_rgI, List.length_nil] at this
      omega
    · rw [List.length_append, List.length_append, List.length_map, len_rgI, List.length_take, List.length_drop]
      omega
    · rcases List.mem_append.mp hq with hq | hq
      · rcases List.mem_append.mp hq with hq | hq
        · exact ho q (List.mem_of_mem_take hq)
        · obtain ⟨i, hi, rfl⟩ := List.mem_map.mp hq
          have hi := mem_rgI.mp hi
          have k1 : 0 ≤ ls[j].2 * i := Int.mul_nonneg (by omega) hi.1
          have k2 : ls[j].2 * (i + 1) ≤ ls[j].2 * m := Int.mul_le_mul_of_nonneg_left (by omega) (by omega)
          rw [Int.mul_add, Int.mul_one] at k2
          exact ⟨by show 0 ≤ ls[j].1 + ls[j].2 * i; omega, by show ls[j].1 + ls[j].2 * i < ls[j].2 * m; omega, by show ls[j].2 * m ≤ 36; omega⟩
      · exact ho q (List.mem_of_mem_drop hq)
  · exact ⟨ls, _, _, _, _, sm2, by
      rw [xs_nx (es1_run e1' e2), xs_nx (es2_run hat), xs_nx (es3_no (by omega) m2 hlt)]
      rfl, hn, by omega, ho, h2'⟩
theorem es_for (hR : Draws R dw) (hP : Picks R pk) : ∀ (is : List Int) (ls : List Lad) (b : Int) (w3 w4 w5 w6 w7 : Option PV) (sm : Sst), SmOk b sm → b + 10 * is.length + 10 < 1099511627776 → ls ≠ [] → ls.length + 2 * is.length ≤ 500 → LdOk ls →
    ∃ ms u3 u4 u5 u6 u7 sm', forW R (.nm 3) (.cons (es1 dw pk) (.cons es2 (.cons es3 .nil))) (is.map fun i => .one (.int i)) ⟨EsE n (ls.map ladP) w3 w4 w5 w6 w7, sm⟩ = .ok .nx ⟨EsE n (ms.map ladP) u3 u4 u5 u6 u7, sm'⟩ ∧ ms ≠ [] ∧ ms.length ≤ ls.length + 2 * is.length ∧ LdOk ms ∧ SmOk (b + 2 * is.length) sm'
  | [], ls, b, w3, w4, w5, w6, w7, sm, hs, _, hn, _, ho => ⟨ls, w3, w4, w5, w6, w7, sm, rfl, hn, Nat.le_refl _, ho, hs.le (by rw [List.length_nil]; omega)⟩
  | i :: r, ls, b, w3, w4, w5, w6, w7, sm, hs, hb, hn, hl, ho => by
    rw [List.length_cons] at hb hl
    obtain ⟨ms, u4, u5, u6, u7, sm1, e1, n1, l1, o1, h1⟩ := es_turn (n := n) (w3 := some (.sh (.int i))) (w4 := w4) (w5 := w5) (w6 := w6) (w7 := w7) hR hP hs (by omega) hn (by omega) ho
    obtain ⟨ks, v3, v4, v5, v6, v7, sm2, e2, n2, l2, o2, h2⟩ := es_for hR hP r ms (b + 2) (some (.sh (.int i))) u4 u5 u6 u7 sm1 h1 (by omega) n1 (by omega) o1
    refine ⟨ks, v3, v4, v5, v6, v7, sm2, (forW_nx (env' := EsE n (ls.map ladP) (some (.sh (.int i))) w4 w5 w6 w7) rfl (.inl e1)).trans e2, n2, by rw [List.length_cons]; omega, o2, h2.le (by rw [List.length_cons]; omega)⟩
theorem l_e_split {b : Int} (hR : Draws R dw) (hP : Picks R pk) (hs : SmOk b sm) (hn : 0 ≤ n) (hn2 : n ≤ 20) (hb : b + 1000 < 1099511627776) :
    ∃ ms sm', finP (exPs R (f_e_split dw pk).body ⟨envP (f_e_split dw pk) [.stm, .int n], sm⟩) = .ok (.lst (ms.map ladP)) sm' ∧ ms ≠ [] ∧ ms.length ≤ 41 ∧ LdOk ms ∧ SmOk (b + 40) sm' := by
  have hlen : (rgI 0 n).length = n.toNat := by rw [len_rgI]; omega
  obtain ⟨ms, u3, u4, u5, u6, u7, sm', e, h1, h2, h3, h4⟩ := es_for (n := n) hR hP (rgI 0 n) [(0, 1)] b none none none none none sm hs (by omega) (by decide) (by rw [List.length_cons, List.length_nil]; omega) (by intro p hp; cases List.mem_singleton.mp hp; decide)
  refine ⟨ms, sm', ?_, h1, by rw [List.length_cons, List.length_nil] at h2; omega, h3, h4.le (by omega)⟩
  have hr := rngP_ok (a := 0) (b := n) (by omega) (by omega) (by omega) (by omega)
  have e0 : ([(0, 1)] : List Lad).map ladP = [.tup [.int 0, .int 1]] := rfl
  rw [e0] at e
  simp only [f_e_split]
  clear hR hP hs h1 h2 h3 h4 hlen hb hn hn2 e0
  generalize (rgI 0 n).map (fun i => PIv.one (.int i)) = I at *
  generalize ms.map ladP = M at *
  walk_at "ev"
end
end Ih
end
section
set_option Elab.async false
set_option linter.all false
set_option maxHeartbeats 1000000
namespace Ih
open PySem
local macro_rules | `(tactic| walk_at "ev") => `(tactic| simp [v_var, v_non, v_bl, v_int, v_str, v_bin, v_neg, v_nt, v_and, v_or, v_ife, v_cmp, v_cmp2, v_sub, v_slc, v_rev, v_stpL, v_tup, v_lst, v_dic0, v_call, v_callK, v_bi, v_isi, v_met, v_com, x_ex, x_asg, x_asgT, x_par, x_ret, x_retN, x_ite, x_for, x_whl, x_pas, x_con, xs_nil, xs_cons, varP, opd, tst, shr, pret, pbad, pbnd, pof, rdV, rdVs, rdO, rdOs, lend_s, frzE, frz1, evKs, evPs, evMs, evPO, exoP, evW, walkP, tryP, setP, envP, finP, pd_sh, pd_ow, at_non, at_bl, at_int, at_str, at_lst, at_tup, at_dic0, at_stm, it_lst, it_tup, it_non, it_bl, it_int, it_str, it_dic0, tr_non, tr_bl, tr_int, tr_lst, tr_tup, tr_dic0, is_non, is_bl, is_int, is_str, is_lst, is_tup, is_dic0, nn_non, nn_bl, nn_int, nn_str, nn_lst, nn_tup, nn_dic0, cm_is, cm_isn, cm_lt, cm_le, cm_gt, cm_ge, cm_eqi, cm_nei, cm_eqb, cm_neb, isTy, subP, evCs', occB, occE, occEs, occO, occI, occT, occT.occTs, occS, occSs, sz_eq, *])
abbrev laE (a b : Int) : Ex := .tup (.cons (.int a) (.cons (.int b) .nil))
abbrev dr5 (dw : Nat) : Ex := (.tup (.cons (.call dw (.cons (.var 0) (.cons (.var 5) .nil))) (.cons (.var 5) .nil)))
abbrev el0 (dw es : Nat) : Sx := (.par 2 3 (.call dw (.cons (.var 0) (.cons (.int 5) .nil))) (.slc (.call es (.cons (.var 0) (.cons (.int 5) .nil))) .none (.some (.var 1))))
abbrev st13 : Ex := (.lst (.cons (.int 1) (.cons (.int 2) (.cons (.int 2) (.cons (.int 3) (.cons (.int 3) (.cons (.int 4) (.cons (.int 4) (.cons (.int 5) (.cons (.int 6) (.cons (.int 8) (.cons (.int 9) (.cons (.int 10) (.cons (.int 12) .nil))))))))))))))
abbrev el1b (dw pk : Nat) : Sxs := (.cons (.asg (.nm 5) (.call pk (.cons (.var 0) (.cons st13 .nil)))) (.cons (.ex (.met .append (.var 3) (.cons (dr5 dw) .nil))) .nil))
abbrev el1 (dw pk : Nat) : Sx := (.ite (.cmp .eq (.var 2) (.int 0)) (.cons (.asg (.nm 3) (.lst .nil)) (.cons (.forE (.nm 4) (.rng1 (.call dw (.cons (.var 0) (.cons (.bin .add (.var 1) (.int 1)) .nil)))) (el1b dw pk)) .nil)) .nil)
abbrev el2a (dw : Nat) : Sx := (.asg (.nm 6) (.call dw (.cons (.var 0) (.cons (.bi .len (.cons (.var 3) .nil)) .nil))))
abbrev el2b : Sx := (.asg (.tp [(.nm 7), (.nm 5)]) (.sub (.var 3) (.var 6)))
abbrev el2c (dw : Nat) : Sx := (.asg (.nm 3) (.bin .add (.bin .add (.slc (.var 3) .none (.some (.var 6))) (.lst (.cons (dr5 dw) .nil))) (.slc (.var 3) (.some (.bin .add (.var 6) (.int 1))) .none)))
abbrev el2 (dw : Nat) : Sx := (.ite (.cmp .eq (.var 2) (.int 1)) (.cons (el2a dw) (.cons el2b (.cons (el2c dw) .nil))) .nil)
abbrev el3a (pk : Nat) : Sx := (.asg (.nm 5) (.call pk (.cons (.var 0) (.cons (.lst (.cons (.int 2) (.cons (.int 3) (.cons (.int 4) (.cons (.int 6) .nil))))) .nil))))
abbrev el3b (dw : Nat) : Sx := (.asg (.nm 3) (.bin .add (.var 3) (.lst (.cons (dr5 dw) .nil))))
abbrev el3 (dw pk : Nat) : Sx := (.ite (.and (.cmp .eq (.var 2) (.int 2)) (.cmp .lt (.bi .len (.cons (.var 3) .nil)) (.var 1))) (.cons (el3a pk) (.cons (el3b dw) .nil)) .nil)
abbrev el4a (pk : Nat) : Sx := (.asg (.nm 3) (.slc (.lst (.cons (laE 0 2) (.cons (laE 0 3) (.cons (laE 1 4) (.cons (laE 5 6) (.cons (laE 7 12) .nil)))))) .none (.some (.call pk (.cons (.var 0) (.cons (.lst (.cons (.int 5) (.cons (.int 5) (.cons (.int 4) .nil)))) .nil))))))
abbrev el4b (dw : Nat) : Sx := (.asg (.nm 8) (.call dw (.cons (.var 0) (.cons (.int 12) .nil))))
abbrev el4e : Ex := (.tup (.cons (.bin .mod (.bi .int (.cons (.bin .add (.var 7) (.var 8)) .nil)) (.var 5)) (.cons (.var 5) .nil)))
abbrev el4c : Sx := (.asg (.nm 3) (.com (.tp [(.nm 7), (.nm 5)]) (.seq (.var 3)) .nil el4e [9, 7, 5]))
abbrev el4 (dw pk : Nat) : Sx := (.ite (.cmp .eq (.var 2) (.int 3)) (.cons (el4a pk) (.cons (el4b dw) (.cons el4c .nil))) .nil)
def f_e_ladders (dw pk mx es : Nat) : Fn := ⟨2, 10, .cons (el0 dw es) (.cons (el1 dw pk) (.cons (el2 dw) (.cons (el3 dw pk) (.cons (el4 dw pk) (.cons (.ret (.call mx (.cons (.var 0) (.cons (.var 3) .nil)))) .nil)))))⟩
section
variable {R : Rp} {dw pk mx es : Nat} {sm sm1 sm2 : Sst} {n w : Int} {L : List D} {w4 w5 w6 w7 w8 : Option PV}
abbrev ElE (n w : Int) (L : List D) (w4 w5 w6 w7 w8 : Option PV) : List (Option PV) := [some (.sh .stm), some (.sh (.int n)), some (.sh (.int w)), some (.ow L), w4, w5, w6, w7, w8, none]
theorem el0_run {w : D} {k : Nat} {xs : List D} (h1 : R dw [.stm, .int 5] sm = .ok w sm1) (h2 : R es [.stm, .int 5] sm1 = .ok (.lst xs) sm2) : exP R (el0 dw es) ⟨[some (.sh .stm), some (.sh (.int (k : Nat))), none, none, none, none, none, none, none, none], sm⟩ = .ok .nx ⟨[some (.sh .stm), some (.sh (.int (k : Nat))), some (.sh w), some (.ow (xs.take k)), none, none, none, none, none, none], sm2⟩ := by
  have h3 := sl_to (xs := xs) (k := k)
  generalize xs.take k = T at *
  generalize ((k : Nat) : Int) = n at *
  walk_at "ev"
theorem el1_no (h : w ≠ 0) : exP R (el1 dw pk) ⟨ElE n w L w4 w5 w6 w7 w8, sm⟩ = .ok .nx ⟨ElE n w L w4 w5 w6 w7 w8, sm⟩ := by
  have e : (w == 0) = false := beq_eq_false_iff_ne.mpr h
  clear h
  walk_at "ev"
theorem el2_no (h : w ≠ 1) : exP R (el2 dw) ⟨ElE n w L w4 w5 w6 w7 w8, sm⟩ = .ok .nx ⟨ElE n w L w4 w5 w6 w7 w8, sm⟩ := by
  have e : (w == 1) = false := beq_eq_false_iff_ne.mpr h
  clear h
  walk_at "ev"
theorem el3_no (h : w ≠ 2 ∨ ¬ (L.length : Int) < n) : exP R (el3 dw pk) ⟨ElE n w L w4 w5 w6 w7 w8, sm⟩ = .ok .nx ⟨ElE n w L w4 w5 w6 w7 w8, sm⟩ := by
  have hl := bi_len L
  by_cases q : w = 2
  · subst q
    have h2 : ¬ (L.length : Int) < n := h.resolve_left fun z => z rfl
    have h3 : cmpP .lt (.int (L.length : Nat)) (.int n) = some false := by rw [cm_lt, decide_eq_false h2]
    clear h h2
    generalize ((L.length : Nat) : Int) = m at *
    walk_at "ev"
  · have e : (w == 2) = false := beq_eq_false_iff_ne.mpr q
    clear h q
    walk_at "ev"
theorem el4_no (h : w ≠ 3) : exP R (el4 dw pk) ⟨ElE n w L w4 w5 w6 w7 w8, sm⟩ = .ok .nx ⟨ElE n w L w4 w5 w6 w7 w8, sm⟩ := by
  have e : (w == 3) = false := beq_eq_false_iff_ne.mpr h
  clear h
  walk_at "ev"
def st13D : List D := [.int 1, .int 2, .int 2, .int 3, .int 3, .int 4, .int 4, .int 5, .int 6, .int 8, .int 9, .int 10, .int 12]
theorem st13_ok : ∀ x ∈ st13D, ∃ m : Int, x = .int m ∧ 1 ≤ m ∧ m ≤ 12 := by
  intro x hx
  unfold st13D at hx
  simp only [List.mem_cons, List.not_mem_nil, or_false] at hx
  rcases hx with rfl | rfl | rfl | rfl | rfl | rfl | rfl | rfl | rfl | rfl | rfl | rfl | rfl <;> exact ⟨_, rfl, by decide, by decide⟩
theorem el1_turn {ls : List Lad} {a m : Int} (h1 : R pk [.stm, .lst st13D] sm = .ok (.int m) sm1) (h2 : R dw [.stm, .int m] sm1 = .ok (.int a) sm2) (hl : ls.length ≤ 1000) :
    exPs R (el1b dw pk) ⟨ElE n w (ls.map ladP) w4 w5 w6 w7 w8, sm⟩ = .ok .nx ⟨ElE n w ((ls ++ [(a, m)]).map ladP) w4 (some (.sh (.int m))) w6 w7 w8, sm2⟩ := by
  have h3 : metP .append (ls.map ladP) [.tup [.int a, .int m]] = some (.non, (ls ++ [(a, m)]).map ladP) := by
    unfold metP
    dsimp only
    rw [if_pos (by rw [List.length_map, sz_eq]; omega), List.map_append]
    rfl
  unfold st13D at h1
  clear hl
  generalize (ls ++ [(a, m)]).map ladP = Z at *
  generalize ls.map ladP = Y at *
  walk_at "ev"
theorem el1_for (hR : Draws R dw) (hP : Picks R pk) : ∀ (is : List Int) (ls : List Lad) (b : Int) (w4 w5 : Option PV) (sm : Sst), SmOk b sm → b + 10 * is.length + 10 < 1099511627776 → ls.length + is.length ≤ 100 → LdOk ls →
    ∃ ms u4 u5 sm', forW R (.nm 4) (el1b dw pk) (is.map fun i => .one (.int i)) ⟨ElE n w (ls.map ladP) w4 w5 w6 w7 w8, sm⟩ = .ok .nx ⟨ElE n w (ms.map ladP) u4 u5 w6 w7 w8, sm'⟩ ∧ ms.length = ls.length + is.length ∧ LdOk ms ∧ SmOk (b + 2 * is.length) sm'
  | [], ls, b, w4, w5, sm, hs, _, _, ho => ⟨ls, w4, w5, sm, rfl, rfl, ho, hs.le (by rw [List.length_nil]; omega)⟩
  | i :: r, ls, b, w4, w5, sm, hs, hb, hl, ho => by
    rw [List.length_cons] at hb hl
    obtain ⟨x, sm1, e1, hx, h1⟩ := hP b sm st13D hs (by omega) (by decide) (by decide)
    obtain ⟨m, rfl, m1, m2⟩ := st13_ok x hx
    obtain ⟨a, sm2, e2, a0, a1, h2⟩ := hR (b + 1) m sm1 h1 (by omega) (by omega) (by omega)
    obtain ⟨ms, u4, u5, sm3, e3, l3, o3, h3⟩ := el1_for hR hP r (ls ++ [(a, m)]) (b + 1 + 1) (some (.sh (.int i))) (some (.sh (.int m))) sm2 h2 (by omega) (by rw [List.length_append, List.length_cons, List.length_nil]; omega) (fun p hp => by
      rcases List.mem_append.mp hp with hp | hp
      · exact ho p hp
      · cases List.mem_singleton.mp hp
        exact ⟨a0, a1, by show m ≤ 36; omega⟩)
    rw [List.length_append, List.length_cons, List.length_nil] at l3
    exact ⟨ms, u4, u5, sm3, (forW_nx (env' := ElE n w (ls.map ladP) (some (.sh (.int i))) w5 w6 w7 w8) rfl (.inl (el1_turn e1 e2 (by omega)))).trans e3, by rw [List.length_cons]; omega, o3, h3.le (by rw [List.length_cons]; omega)⟩
theorem el1_yes {b : Int} (hR : Draws R dw) (hP : Picks R pk) (hn : 0 ≤ n) (hn2 : n ≤ 20) (hs : SmOk b sm) (hb : b + 1000 < 1099511627776) : ∃ ms u4 u5 sm', exP R (el1 dw pk) ⟨ElE n 0 L w4 w5 w6 w7 w8, sm⟩ = .ok .nx ⟨ElE n 0 (ms.map ladP) u4 u5 w6 w7 w8, sm'⟩ ∧ ms.length ≤ n ∧ LdOk ms ∧ SmOk (b + 50) sm' := by
  obtain ⟨c, sm1, e1, c0, c1, h1⟩ := hR b (n + 1) sm hs (by omega) (by omega) (by omega)
  have hlen : (rgI 0 c).length = c.toNat := by rw [len_rgI]; omega
  obtain ⟨ms, u4, u5, sm2, e2, l2, o2, h2⟩ := el1_for (n := n) (w := 0) (w6 := w6) (w7 := w7) (w8 := w8) hR hP (rgI 0 c) [] (b + 1) w4 w5 sm1 h1 (by omega) (by rw [List.length_nil]; omega) (fun p hp => (List.not_mem_nil hp).elim)
  rw [List.length_nil] at l2
  refine ⟨ms, u4, u5, sm2, ?_, by omega, o2, h2.le (by omega)⟩
  have hr := rngP_ok (a := 0) (b := c) (by omega) (by omega) (by omega) (by omega)
  have ha : binP .add (.int n) (.int 1) = some (.sh (.int (n + 1))) := rfl
  rw [List.map_nil] at e2
  clear hR hP hs hb h1 h2 o2 l2 hlen c0 c1 hn hn2
  generalize (rgI 0 c).map (fun i => PIv.one (.int i)) = I at *
  generalize ms.map ladP = M at *
  generalize n + 1 = n1 at *
  walk_at "ev"
theorem lad_at {ls : List Lad} {a : Int} (a0 : 0 ≤ a) (a1 : a < ls.length) : ∃ (j : Nat) (hj : j < ls.length), a = j ∧ L2.atI (ls.map ladP) (j : Nat) = some (ladP ls[j]) := by
  obtain ⟨j, rfl⟩ : ∃ j : Nat, a = j := ⟨a.toNat, by omega⟩
  have hj : j < ls.length := by omega
  refine ⟨j, hj, rfl, ?_⟩
  unfold L2.atI L2.ixN
  rw [List.length_map, if_pos (by omega), if_pos (by omega)]
  show (ls.map ladP)[((j : Nat) : Int).toNat]? = _
  rw [Int.toNat_natCast, List.getElem?_map, List.getElem?_eq_getElem hj]
  rfl
theorem el2a_run {a : D} (h : R dw [.stm, .int (L.length : Nat)] sm = .ok a sm1) : exP R (el2a dw) ⟨ElE n w L w4 w5 w6 w7 w8, sm⟩ = .ok .nx ⟨ElE n w L w4 w5 (some (.sh a)) w7 w8, sm1⟩ := by
  have hl := bi_len L
  generalize ((L.length : Nat) : Int) = m at *
  walk_at "ev"
theorem el2b_run {a : Int} {p : Lad} (h : L2.atI L a = some (ladP p)) : exP R el2b ⟨ElE n w L w4 w5 (some (.sh (.int a))) w7 w8, sm⟩ = .ok .nx ⟨ElE n w L w4 (some (.sh (.int p.2))) (some (.sh (.int a))) (some (.sh (.int p.1))) w8, sm⟩ := by
  have e : ladP p = .tup [.int p.1, .int p.2] := rfl
  rw [e] at h
  generalize p.1 = x at *
  generalize p.2 = y at *
  walk_at "ev"
  rfl
theorem el2c_run {ls : List Lad} {j : Nat} {m c : Int} (h : R dw [.stm, .int m] sm = .ok (.int c) sm1) (hl : ls.length ≤ 1000) : exP R (el2c dw) ⟨ElE n w (ls.map ladP) w4 (some (.sh (.int m))) (some (.sh (.int (j : Nat)))) w7 w8, sm⟩ = .ok .nx ⟨ElE n w ((ls.take j ++ [(c, m)] ++ ls.drop (j + 1)).map ladP) w4 (some (.sh (.int m))) (some (.sh (.int (j : Nat)))) w7 w8, sm1⟩ := by
  have s1 := sl_to (xs := ls.map ladP) (k := j)
  have s2 := sl_from (xs := ls.map ladP) (k := j + 1)
  rw [← List.map_take] at s1
  rw [← List.map_drop] at s2
  have h5 : binP .add (.int (j : Nat)) (.int 1) = some (.sh (.int ((j + 1 : Nat) : Int))) := rfl
  have e1 : [D.tup [.int c, .int m]] = [(c, m)].map ladP := rfl
  have a1 := bn_addL (xs := (ls.take j).map ladP) (ys := [D.tup [.int c, .int m]]) (by rw [List.length_map, List.length_take, List.length_cons, List.length_nil, sz_eq]; omega)
  have a2 := bn_addL (xs := (ls.take j).map ladP ++ [D.tup [.int c, .int m]]) (ys := (ls.drop (j + 1)).map ladP) (by rw [List.length_append, List.length_map, List.length_map, List.length_take, List.length_drop, List.length_cons, List.length_nil, sz_eq]; omega)
  have e2 : (ls.take j ++ [(c, m)] ++ ls.drop (j + 1)).map ladP = (ls.take j).map ladP ++ [D.tup [.int c, .int m]] ++ (ls.drop (j + 1)).map ladP := by rw [List.map_append, List.map_append, e1]
  rw [e2]
  clear e1 e2 hl
  generalize (ls.take j).map ladP ++ [D.tup [.int c, .int m]] ++ (ls.drop (j + 1)).map ladP = Z at *
  generalize (ls.take j).map ladP ++ [D.tup [.int c, .int m]] = Y at *
  generalize (ls.take j).map ladP = T at *
  generalize (ls.drop (j + 1)).map ladP = U at *
  generalize ls.map ladP = L at *
  generalize ((j + 1 : Nat) : Int) = j1 at *
  generalize ((j : Nat) : Int) = j0 at *
  walk_at "ev"
theorem el2_yes {ls : List Lad} {b : Int} (hR : Draws R dw) (hs : SmOk b sm) (hb : b + 1000 < 1099511627776) (hn : ls ≠ []) (hl : ls.length ≤ 500) (ho : LdOk ls) : ∃ ms u5 u6 u7 sm', exP R (el2 dw) ⟨ElE n 1 (ls.map ladP) w4 w5 w6 w7 w8, sm⟩ = .ok .nx ⟨ElE n 1 (ms.map ladP) w4 u5 u6 u7 w8, sm'⟩ ∧ ms.length ≤ ls.length ∧ LdOk ms ∧ SmOk (b + 2) sm' := by
  have hpos : 0 < ls.length := List.length_pos_iff.mpr hn
  obtain ⟨a, sm1, e1, a0, a1, h1⟩ := hR b ls.length sm hs (by omega) (by omega) (by omega)
  obtain ⟨j, hj, rfl, hat⟩ := lad_at a0 a1
  have hp := ho _ (List.getElem_mem hj)
  obtain ⟨c, sm2, e2, c0, c1, h2⟩ := hR (b + 1) ls[j].2 sm1 h1 (by omega) (by omega) (by omega)
  have e1' : R dw [.stm, .int ((ls.map ladP).length : Nat)] sm = .ok (.int (j : Nat)) sm1 := by rw [List.length_map]; exact e1
  refine ⟨ls.take j ++ [(c, ls[j].2)] ++ ls.drop (j + 1), some (.sh (.int ls[j].2)), some (.sh (.int (j : Nat))), some (.sh (.int ls[j].1)), sm2, ?_, ?_, fun q hq => ?_, h2.le (by omega)⟩
  · have eb : exPs R (.cons (el2a dw) (.cons el2b (.cons (el2c dw) .nil))) ⟨ElE n 1 (ls.map ladP) w4 w5 w6 w7 w8, sm⟩ = .ok .nx ⟨ElE n 1 ((ls.take j ++ [(c, ls[j].2)] ++ ls.drop (j + 1)).map ladP) w4 (some (.sh (.int ls[j].2))) (some (.sh (.int (j : Nat)))) (some (.sh (.int ls[j].1))) w8, sm2⟩ := by
      rw [xs_nx (el2a_run e1'), xs_nx (el2b_run hat), xs_nx (el2c_run e2 (by omega))]
      rfl
    rw [x_ite]
    have et : tst (.cmp .eq (.var 2) (.int 1)) (evF R (.cmp .eq (.var 2) (.int 1))) ⟨ElE n 1 (ls.map ladP) w4 w5 w6 w7 w8, sm⟩ = .ok true ⟨ElE n 1 (ls.map ladP) w4 w5 w6 w7 w8, sm⟩ := by
      clear eb
      generalize ls.map ladP = L at *
      walk_at "ev"
    unfold tryP
    rw [et]
    exact eb
  · rw [List.length_append, List.length_append, List.length_take, List.length_drop, List.length_cons, List.length_nil]
    omega
  · rcases List.mem_append.mp hq with hq | hq
    · rcases List.mem_append.mp hq with hq | hq
      · exact ho q (List.mem_of_mem_take hq)
      · cases List.mem_singleton.mp hq
        exact ⟨c0, c1, hp.2.2⟩
    · exact ho q (List.mem_of_mem_drop hq)
def fourD : List D := [.int 2, .int 3, .int 4, .int 6]
theorem four_ok : ∀ x ∈ fourD, ∃ m : Int, x = .int m ∧ 1 ≤ m ∧ m ≤ 12 := by
  intro x hx
  unfold fourD at hx
  simp only [List.mem_cons, List.not_mem_nil, or_false] at hx
  rcases hx with rfl | rfl | rfl | rfl <;> exact ⟨_, rfl, by decide, by decide⟩
theorem el3_yes {ls : List Lad} {b : Int} (hR : Draws R dw) (hP : Picks R pk) (hs : SmOk b sm) (hb : b + 1000 < 1099511627776) (hl : ls.length ≤ 500) (hl2 : (ls.length : Int) < n) (ho : LdOk ls) : ∃ ms u5 sm', exP R (el3 dw pk) ⟨ElE n 2 (ls.map ladP) w4 w5 w6 w7 w8, sm⟩ = .ok .nx ⟨ElE n 2 (ms.map ladP) w4 u5 w6 w7 w8, sm'⟩ ∧ ms.length = ls.length + 1 ∧ LdOk ms ∧ SmOk (b + 2) sm' := by
  obtain ⟨x, sm1, e1, hx, h1⟩ := hP b sm fourD hs (by omega) (by decide) (by decide)
  obtain ⟨m, rfl, m1, m2⟩ := four_ok x hx
  obtain ⟨c, sm2, e2, c0, c1, h2⟩ := hR (b + 1) m sm1 h1 (by omega) (by omega) (by omega)
  refine ⟨ls ++ [(c, m)], some (.sh (.int m)), sm2, ?_, by rw [List.length_append]; rfl, fun q hq => ?_, h2.le (by omega)⟩
  · have hlen := bi_len (ls.map ladP)
    rw [List.length_map] at hlen
    have h3 : cmpP .lt (.int (ls.length : Nat)) (.int n) = some true := by rw [cm_lt, decide_eq_true hl2]
    have a1 := bn_addL (xs := ls.map ladP) (ys := [D.tup [.int c, .int m]]) (by rw [List.length_map, List.length_cons, List.length_nil, sz_eq]; omega)
    have e3 : (ls ++ [(c, m)]).map ladP = ls.map ladP ++ [D.tup [.int c, .int m]] := by rw [List.map_append]; rfl
    rw [e3]
    unfold fourD at e1
    clear e3 hR hP hs hb hl hl2 ho hx m1 m2 c0 c1 h1 h2
    generalize ls.map ladP ++ [D.tup [.int c, .int m]] = Z at *
    generalize ls.map ladP = L at *
    generalize ((ls.length : Nat) : Int) = k at *
    walk_at "ev"
  · rcases List.mem_append.mp hq with hq | hq
    · exact ho q hq
    · cases List.mem_singleton.mp hq
      exact ⟨c0, c1, by show m ≤ 36; omega⟩
def cutD : List D := [.int 5, .int 5, .int 4]
def fiveL : List Lad := [(0, 2), (0, 3), (1, 4), (5, 6), (7, 12)]
theorem el4c_com {ls : List Lad} {t : Int} (h : ∀ p ∈ ls, 0 < p.2) (hl : ls.length ≤ 1000) : comW R (.tp [(.nm 7), (.nm 5)]) [9, 7, 5] .nil el4e (onesP (ls.map ladP)) ⟨ElE n w (ls.map ladP) w4 none w6 none (some (.sh (.int t))), sm⟩ =
    .ok (.ow ((ls.map fun p => ((p.1 + t) % p.2, p.2)).map ladP)) ⟨ElE n w (ls.map ladP) w4 none w6 none (some (.sh (.int t))), sm⟩ := by
  rw [List.map_map, onesP_map, comW_gen (fun p => .one (ladP p)) (fun p => [some (.sh .stm), some (.sh (.int n)), some (.sh (.int w)), some (.ow (ls.map ladP)), w4, some (.sh (.int p.2)), w6, some (.sh (.int p.1)), some (.sh (.int t)), none]) (fun _ => true) (fun p => .tup [.int ((p.1 + t) % p.2), .int p.2]) rfl rfl rfl (fun p hp => ⟨rfl, rfl, rfl, fun _ => ?_⟩) (by rw [sz_eq]; omega), List.filter_eq_self.mpr fun _ _ => rfl]
  · rfl
  · have hm := bn_mod (i := p.1 + t) (j := p.2) (h p hp)
    have ha : binP .add (.int p.1) (.int t) = some (.sh (.int (p.1 + t))) := rfl
    have hi : biP .int [.int (p.1 + t)] = some (.sh (.int (p.1 + t))) := rfl
    clear h hl hp
    generalize ls.map ladP = L at *
    generalize (p.1 + t) % p.2 = a at *
    generalize p.1 + t = b at *
    generalize p.1 = c at *
    generalize p.2 = d at *
    walk_at "ev"
theorem el4_yes {b : Int} (hR : Draws R dw) (hP : Picks R pk) (hs : SmOk b sm) (hb : b + 1000 < 1099511627776) : ∃ ms u8 sm', exP R (el4 dw pk) ⟨ElE n 3 L w4 none w6 none w8, sm⟩ = .ok .nx ⟨ElE n 3 (ms.map ladP) w4 none w6 none u8, sm'⟩ ∧ ms.length ≤ 5 ∧ LdOk ms ∧ SmOk (b + 2) sm' := by
  obtain ⟨x, sm1, e1, hx, h1⟩ := hP b sm cutD hs (by omega) (by decide) (by decide)
  obtain ⟨k, rfl, hk⟩ : ∃ k : Nat, x = .int (k : Nat) ∧ k ≤ 5 := by
    unfold cutD at hx
    simp only [List.mem_cons, List.not_mem_nil, or_false] at hx
    rcases hx with rfl | rfl | rfl
    · exact ⟨5, rfl, by decide⟩
    · exact ⟨5, rfl, by decide⟩
    · exact ⟨4, rfl, by decide⟩
  obtain ⟨t, sm2, e2, t0, t1, h2⟩ := hR (b + 1) 12 sm1 h1 (by omega) (by omega) (by omega)
  have h5 : ∀ p ∈ fiveL, 0 < p.2 ∧ p.2 ≤ 36 := by decide
  have hlt : (fiveL.take k).length ≤ 5 := by rw [List.length_take]; exact Nat.le_trans (Nat.min_le_right _ _) (by decide)
  refine ⟨(fiveL.take k).map fun p => ((p.1 + t) % p.2, p.2), some (.sh (.int t)), sm2, ?_, by rw [List.length_map]; exact hlt, fun q hq => ?_, h2.le (by omega)⟩
  · have s1 := sl_to (xs := fiveL.map ladP) (k := k)
    rw [← List.map_take] at s1
    have ea : exP R (el4a pk) ⟨ElE n 3 L w4 none w6 none w8, sm⟩ = .ok .nx ⟨ElE n 3 ((fiveL.take k).map ladP) w4 none w6 none w8, sm1⟩ := by
      have ef : fiveL.map ladP = [.tup [.int 0, .int 2], .tup [.int 0, .int 3], .tup [.int 1, .int 4], .tup [.int 5, .int 6], .tup [.int 7, .int 12]] := rfl
      rw [ef] at s1
      unfold cutD at e1
      clear ef h5 hlt hR hP
      generalize (fiveL.take k).map ladP = T at *
      generalize ((k : Nat) : Int) = kk at *
      walk_at "ev"
    have eb : exP R (el4b dw) ⟨ElE n 3 ((fiveL.take k).map ladP) w4 none w6 none w8, sm1⟩ = .ok .nx ⟨ElE n 3 ((fiveL.take k).map ladP) w4 none w6 none (some (.sh (.int t))), sm2⟩ := by
      clear ea s1 h5 hlt hR hP
      generalize (fiveL.take k).map ladP = T at *
      walk_at "ev"
    have hc := el4c_com (R := R) (n := n) (w := 3) (w4 := w4) (w6 := w6) (sm := sm2) (ls := fiveL.take k) (t := t) (fun p hp => (h5 p (List.mem_of_mem_take hp)).1) (by omega)
    have ec : exP R el4c ⟨ElE n 3 ((fiveL.take k).map ladP) w4 none w6 none (some (.sh (.int t))), sm2⟩ = .ok .nx ⟨ElE n 3 (((fiveL.take k).map fun p => ((p.1 + t) % p.2, p.2)).map ladP) w4 none w6 none (some (.sh (.int t))), sm2⟩ := by
      clear ea eb s1 h5 hlt hR hP
      generalize ((fiveL.take k).map fun p => ((p.1 + t) % p.2, p.2)).map ladP = Z at *
      generalize (fiveL.take k).map ladP = T at *
      walk_at "ev"
    rw [x_ite]
    have et : tst (.cmp .eq (.var 2) (.int 3)) (evF R (.cmp .eq (.var 2) (.int 3))) ⟨ElE n 3 L w4 none w6 none w8, sm⟩ = .ok true ⟨ElE n 3 L w4 none w6 none w8, sm⟩ := by
      clear ea eb ec hc s1 hR hP
      walk_at "ev"
    unfold tryP
    rw [et]
    show exPs R (.cons (el4a pk) (.cons (el4b dw) (.cons el4c .nil))) _ = _
    rw [xs_nx ea, xs_nx eb, xs_nx ec]
    rfl
  · obtain ⟨p, hp, rfl⟩ := List.mem_map.mp hq
    have := h5 p (List.mem_of_mem_take hp)
    exact ⟨Int.emod_nonneg _ (by omega), Int.emod_lt_of_pos _ this.1, this.2⟩
end
end Ih
end
section
set_option Elab.async false
set_option linter.all false
set_option maxHeartbeats 1000000
namespace Ih
open PySem
local macro_rules | `(tactic| walk_at "ev") => `(tactic| simp [v_var, v_non, v_bl, v_int, v_str, v_bin, v_neg, v_nt, v_and, v_or, v_ife, v_cmp, v_cmp2, v_sub, v_slc, v_rev, v_stpL, v_tup, v_lst, v_dic0, v_call, v_callK, v_bi, v_isi, v_met, v_com, x_ex, x_asg, x_asgT, x_par, x_ret, x_retN, x_ite, x_for, x_whl, x_pas, x_con, xs_nil, xs_cons, varP, opd, tst, shr, pret, pbad, pbnd, pof, rdV, rdVs, rdO, rdOs, lend_s, frzE, frz1, evKs, evPs, evMs, evPO, exoP, evW, walkP, tryP, setP, envP, finP, pd_sh, pd_ow, at_non, at_bl, at_int, at_str, at_lst, at_tup, at_dic0, at_stm, it_lst, it_tup, it_non, it_bl, it_int, it_str, it_dic0, tr_non, tr_bl, tr_int, tr_lst, tr_tup, tr_dic0, is_non, is_bl, is_int, is_str, is_lst, is_tup, is_dic0, nn_non, nn_bl, nn_int, nn_str, nn_lst, nn_tup, nn_dic0, cm_is, cm_isn, cm_lt, cm_le, cm_gt, cm_ge, cm_eqi, cm_nei, cm_eqb, cm_neb, isTy, subP, evCs', occB, occE, occEs, occO, occI, occT, occT.occTs, occS, occSs, sz_eq, *])
section
variable {R : Rp} {dw pk mx es : Nat} {sm sm1 sm2 : Sst}
def Mixes (R : Rp) (mx : Nat) : Prop := ∀ (b : Int) (sm : Sst) (xs : List D), SmOk b sm → b + xs.length < 1099511627776 → xs.length ≤ 1000000 → ∃ ys sm', R mx [.stm, .lst xs] sm = .ok (.lst ys) sm' ∧ ys.Perm xs ∧ SmOk (b + xs.length) sm'
theorem perm_map {α β : Type} {f : α → β} : ∀ {xs : List α} {ys : List β}, ys.Perm (xs.map f) → ∃ zs : List α, ys = zs.map f ∧ zs.Perm xs := by
  intro xs ys h
  have h2 : ∀ (as bs : List β), as.Perm bs → ∀ xs : List α, bs = xs.map f → ∃ zs : List α, as = zs.map f ∧ zs.Perm xs := by
    intro as bs hp
    induction hp with
    | nil =>
      intro xs e
      cases xs with
      | nil => exact ⟨[], rfl, .nil⟩
      | cons _ _ => cases e
    | cons x _ ih =>
      intro xs e
      cases xs with
      | nil => cases e
      | cons a r =>
        rw [List.map_cons] at e
        injection e with e1 e2
        obtain ⟨zs, e3, p⟩ := ih r e2
        exact ⟨a :: zs, by rw [List.map_cons, e3, e1], p.cons a⟩
    | swap x y l =>
      intro xs e
      rcases xs with _ | ⟨a, _ | ⟨c, r⟩⟩
      · cases e
      · cases e
      · rw [List.map_cons, List.map_cons] at e
        injection e with e1 e2
        injection e2 with e2 e3
        exact ⟨c :: a :: r, by rw [List.map_cons, List.map_cons, e1, e2, e3], .swap a c r⟩
    | trans _ _ i1 i2 =>
      intro xs e
      obtain ⟨zs, e1, p1⟩ := i2 xs e
      obtain ⟨us, e2, p2⟩ := i1 zs e1
      exact ⟨us, e2, p2.trans p1⟩
  exact h2 ys _ h xs rfl
theorem el5_run {n w : Int} {L : List D} {d : D} {w4 w5 w6 w7 w8 : Option PV} (h : R mx [.stm, .lst L] sm = .ok d sm1) : finP (exPs R (.cons (.ret (.call mx (.cons (.var 0) (.cons (.var 3) .nil)))) .nil) ⟨ElE n w L w4 w5 w6 w7 w8, sm⟩) = .ok d sm1 := by
  walk_at "ev"
theorem ldOk_take {ms : List Lad} {k : Nat} (h : LdOk ms) : LdOk (ms.take k) := fun p hp => h p (List.mem_of_mem_take hp)
theorem l_e_ladders {b : Int} (hR : Draws R dw) (hP : Picks R pk) (hM : Mixes R mx)
    (hE : ∀ (b : Int) (sm : Sst), SmOk b sm → b + 1000 < 1099511627776 → ∃ ms sm', R es [.stm, .int 5] sm = .ok (.lst (ms.map ladP)) sm' ∧ ms ≠ [] ∧ ms.length ≤ 41 ∧ LdOk ms ∧ SmOk (b + 40) sm')
    (hs : SmOk b sm) (hb : b + 2000 < 1099511627776) :
    ∃ ls sm', finP (exPs R (f_e_ladders dw pk mx es).body ⟨envP (f_e_ladders dw pk mx es) [.stm, .int 5], sm⟩) = .ok (.lst (ls.map ladP)) sm' ∧ ls.length ≤ 6 ∧ LdOk ls ∧ SmOk (b + 200) sm' := by
  obtain ⟨w, sm1, e1, w0, w5, h1⟩ := hR b 5 sm hs (by omega) (by omega) (by omega)
  obtain ⟨ms, sm2, e2, n2, l2, o2, h2⟩ := hE (b + 1) sm1 h1 (by omega)
  have e0 := el0_run (k := 5) e1 e2
  rw [← List.map_take] at e0
  have l5 : (ms.take 5).length ≤ 5 := by rw [List.length_take]; omega
  have n5 : ms.take 5 ≠ [] := by
    cases ms with
    | nil => exact absurd rfl n2
    | cons a r => rw [List.take_succ_cons]; exact List.cons_ne_nil _ _
  have o5 : LdOk (ms.take 5) := ldOk_take o2
  generalize ms.take 5 = ls at *
  have e0 : exP R (el0 dw es) ⟨[some (.sh .stm), some (.sh (.int 5)), none, none, none, none, none, none, none, none], sm⟩ = .ok .nx ⟨ElE 5 w (ls.map ladP) none none none none none, sm2⟩ := e0
  have fin : ∀ (ks : List Lad) (u4 u5 u6 u7 u8 : Option PV) (sm3 : Sst), (∀ t : Sxs, exPs R (.cons (el1 dw pk) (.cons (el2 dw) (.cons (el3 dw pk) (.cons (el4 dw pk) t)))) ⟨ElE 5 w (ls.map ladP) none none none none none, sm2⟩ = exPs R t ⟨ElE 5 w (ks.map ladP) u4 u5 u6 u7 u8, sm3⟩) → ks.length ≤ 6 → LdOk ks → SmOk (b + 1 + 40 + 50) sm3 →
      ∃ ls' sm', finP (exPs R (f_e_ladders dw pk mx es).body ⟨envP (f_e_ladders dw pk mx es) [.stm, .int 5], sm⟩) = .ok (.lst (ls'.map ladP)) sm' ∧ ls'.length ≤ 6 ∧ LdOk ls' ∧ SmOk (b + 200) sm' := fun ks u4 u5 u6 u7 u8 sm3 e3 l3 o3 h3 => by
    obtain ⟨ys, sm4, e4, p4, h4⟩ := hM (b + 1 + 40 + 50) sm3 (ks.map ladP) h3 (by rw [List.length_map]; omega) (by rw [List.length_map]; omega)
    obtain ⟨zs, rfl, pz⟩ := perm_map p4
    rw [List.length_map] at h4
    refine ⟨zs, sm4, ?_, by rw [pz.length_eq]; exact l3, fun p hp => o3 p (pz.mem_iff.mp hp), h4.le (by omega)⟩
    have e5 := el5_run (R := R) (mx := mx) (n := 5) (w := w) (w4 := u4) (w5 := u5) (w6 := u6) (w7 := u7) (w8 := u8) e4
    have he : envP (f_e_ladders dw pk mx es) [.stm, .int 5] = [some (.sh .stm), some (.sh (.int 5)), none, none, none, none, none, none, none, none] := rfl
    rw [he]
    show finP (exPs R (.cons (el0 dw es) _) _) = _
    rw [xs_nx e0]
    rw [e3]
    exact e5
  have hwc : w = 0 ∨ w = 1 ∨ w = 2 ∨ w = 3 ∨ w = 4 := by omega
  rcases hwc with rfl | rfl | rfl | rfl | rfl
  · obtain ⟨ks, u4, u5, sm3, e3, l3, o3, h3⟩ := el1_yes (n := 5) (L := ls.map ladP) (w4 := none) (w5 := none) (w6 := none) (w7 := none) (w8 := none) hR hP (by omega) (by omega) h2 (by omega)
    exact fin ks _ _ _ _ _ sm3 (by intro t; rw [xs_nx e3, xs_nx (el2_no (by decide)), xs_nx (el3_no (.inl (by decide))), xs_nx (el4_no (by decide))]) (by omega) o3 h3
  · obtain ⟨ks, u5, u6, u7, sm3, e3, l3, o3, h3⟩ := el2_yes (n := 5) (w4 := none) (w5 := none) (w6 := none) (w7 := none) (w8 := none) hR h2 (by omega) n5 (by omega) o5
    exact fin ks _ _ _ _ _ sm3 (by intro t; rw [xs_nx (el1_no (by decide)), xs_nx e3, xs_nx (el3_no (.inl (by decide))), xs_nx (el4_no (by decide))]) (by omega) o3 (h3.le (by omega))
  · by_cases hl : (ls.length : Int) < 5
    · obtain ⟨ks, u5, sm3, e3, l3, o3, h3⟩ := el3_yes (n := 5) (w4 := none) (w5 := none) (w6 := none) (w7 := none) (w8 := none) hR hP h2 (by omega) (by omega) hl o5
      exact fin ks _ _ _ _ _ sm3 (by intro t; rw [xs_nx (el1_no (by decide)), xs_nx (el2_no (by decide)), xs_nx e3, xs_nx (el4_no (by decide))]) (by omega) o3 (h3.le (by omega))
    · exact fin ls _ _ _ _ _ sm2 (by intro t; rw [xs_nx (el1_no (by decide)), xs_nx (el2_no (by decide)), xs_nx (el3_no (.inr (by rw [List.length_map]; exact hl))), xs_nx (el4_no (by decide))]) (by omega) o5 (h2.le (by omega))
  · obtain ⟨ks, u8, sm3, e3, l3, o3, h3⟩ := el4_yes (n := 5) (L := ls.map ladP) (w4 := none) (w6 := none) (w8 := none) hR hP h2 (by omega)
    exact fin ks _ _ _ _ _ sm3 (by intro t; rw [xs_nx (el1_no (by decide)), xs_nx (el2_no (by decide)), xs_nx (el3_no (.inl (by decide))), xs_nx e3]) (by omega) o3 (h3.le (by omega))
  · exact fin ls _ _ _ _ _ sm2 (by intro t; rw [xs_nx (el1_no (by decide)), xs_nx (el2_no (by decide)), xs_nx (el3_no (.inl (by decide))), xs_nx (el4_no (by decide))]) (by omega) o5 (h2.le (by omega))
end
end Ih
end
section
set_option Elab.async false
set_option linter.all false
set_option maxRecDepth 100000
set_option maxHeartbeats 0
namespace K83
open PySem Ih
abbrev prog := PySem.Challenge.pw_stepcovers_k83_whole_told_back_by_all
def ds : List Df := dsOf prog
def blt : List Str := ["len", "isinstance", "list", "tuple", "int", "bool", "range", "all", "any", "enumerate", "zip", "sorted", "sum", "abs", "dict", "str", "max", "min"]
def T : List Fn := fnsOf blt ds
def Q : Prm := ⟨25, 26⟩
def nvS : Sxs := .cons .nev .nil
def f_law : Fn := ⟨1, 11, (.cons (.asg (.nm 1) (.call 25 (.cons (.var 0) .nil))) (.cons (.forE (.nm 2) (.rng1 (.int 8)) (.cons (.asg (.nm 3) (.com (.nm 9) (.seq (.call 35 (.cons (.var 1) (.cons (.int 5) .nil)))) (.cons (.cmp .lt (.sub (.var 9) (.int 1)) (.int 9)) .nil) (.var 9) [8, 9])) (.cons (.asg (.nm 4) (.bin .add (.int 9) (.call 26 (.cons (.var 1) (.cons (.int 12) .nil))))) (.cons (.asg (.nm 5) (.call 12 (.cons (.call 30 (.cons (.var 3) .nil)) (.cons (.var 4) .nil)))) (.cons (.ite (.nt (.call 29 (.cons (.lst (.cons (.var 5) (.cons (.call 13 (.cons (.call 30 (.cons (.var 3) .nil)) (.cons (.call 30 (.cons (.var 5) .nil)) .nil))) .nil))) (.cons (.lst (.cons (.com (.nm 10) (.rng1 (.var 4)) .nil (.bi .int (.cons (.cmp .gt (.call 33 (.cons (.var 3) (.cons (.var 10) .nil))) (.int 0)) .nil)) [8, 10]) (.cons (.bl true) .nil))) .nil)))) (.cons (.ret (.bl false)) .nil) .nil) (.cons (.asg (.nm 6) (.call 20 (.cons (.call 30 (.cons (.var 5) .nil)) (.cons (.int 8) .nil)))) (.cons (.ite (.or (.cmp .is (.var 6) .non) (.cmp .gt (.var 6) (.bi .len (.cons (.call 31 (.cons (.var 3) .nil)) .nil)))) (.cons (.ret (.bl false)) .nil) .nil) (.cons (.asg (.nm 7) (.call 19 (.cons (.call 30 (.cons (.var 5) .nil)) (.cons (.int 8) .nil)))) (.cons (.ite (.or (.cmp .ne (.sub (.var 7) (.int 0)) (.str "told")) (.cmp .ne (.com (.nm 10) (.rng1 (.var 4)) .nil (.bi .int (.cons (.cmp .gt (.call 33 (.cons (.sub (.var 7) (.int 1)) (.cons (.var 10) .nil))) (.int 0)) .nil)) [8, 10]) (.var 5))) (.cons (.ret (.bl false)) .nil) .nil) (.cons (.ite (.or (.cmp .ne (.bi .len (.cons (.sub (.var 7) (.int 1)) .nil)) (.var 6)) (.nt (.call 13 (.cons (.call 30 (.cons (.sub (.var 7) (.int 1)) .nil)) (.cons (.call 30 (.cons (.var 5) .nil)) .nil))))) (.cons (.ret (.bl false)) .nil) .nil) (.cons (.ite (.and (.cmp .eq (.call 24 (.cons (.call 30 (.cons (.var 3) .nil)) .nil)) (.tup (.cons (.str "all") .nil))) (.cmp .ne (.var 6) (.int 1))) (.cons (.ret (.bl false)) .nil) .nil) .nil))))))))))) (.cons (.ret (.call 29 (.cons (.lst (.cons (.call 12 (.cons (.lst (.cons (.tup (.cons (.int 0) (.cons (.int 2) .nil))) (.cons (.tup (.cons (.int 0) (.cons (.int 3) .nil))) .nil))) (.cons (.int 6) .nil))) (.cons (.call 20 (.cons (.lst (.cons (.int 1) (.cons (.int 1) (.cons (.int 1) .nil)))) (.cons (.int 3) .nil))) .nil))) (.cons (.lst (.cons (.lst (.cons (.int 1) (.cons (.int 0) (.cons (.int 1) (.cons (.int 1) (.cons (.int 1) (.cons (.int 0) .nil))))))) (.cons (.int 1) .nil))) .nil)))) .nil)))⟩
theorem tt : T = [f_is_list, f_is_whole, (f_is_number 1), (f_is_row 0), f_greatest, (f_kept_ladder 3 2 1), (f_kept_ladders 0 5), (f_need_ladders 6 nvS), f_has, (f_round_by 4), (f_need_shown 0 1 nvS), f_row_by, (f_row_of 7 1 11 nvS), (f_shows 7 10 11), f_within_by, (f_need_most 1 nvS), (f_shown_by 16), (f_fewest_by 14 16), (f_bare_place 11 14), (f_told_or_place 10 18 15 17), (f_fewest_ladders 19), (f_missed_from 8), f_told_missed, (f_first_missed 21 9), (f_all_or_missed 22 23 7), strmF, drawF, (f_pick 26), (f_mixed 26), (f_same 29), (f_copied 30), f_unlike, f_e_has, (f_e_had 32), (f_e_split 26 27), (f_e_ladders 26 27 28 34), f_law] := by kernel_rfl
theorem t0 : T[0]? = some f_is_list := by rw [tt]; rfl
theorem t1 : T[1]? = some f_is_whole := by rw [tt]; rfl
theorem t2 : T[2]? = some (f_is_number 1) := by rw [tt]; rfl
theorem t3 : T[3]? = some (f_is_row 0) := by rw [tt]; rfl
theorem t4 : T[4]? = some f_greatest := by rw [tt]; rfl
theorem t5 : T[5]? = some (f_kept_ladder 3 2 1) := by rw [tt]; rfl
theorem t6 : T[6]? = some (f_kept_ladders 0 5) := by rw [tt]; rfl
theorem t7 : T[7]? = some (f_need_ladders 6 nvS) := by rw [tt]; rfl
theorem t8 : T[8]? = some f_has := by rw [tt]; rfl
theorem t9 : T[9]? = some (f_round_by 4) := by rw [tt]; rfl
theorem t10 : T[10]? = some (f_need_shown 0 1 nvS) := by rw [tt]; rfl
theorem t11 : T[11]? = some f_row_by := by rw [tt]; rfl
theorem t12 : T[12]? = some (f_row_of 7 1 11 nvS) := by rw [tt]; rfl
theorem t13 : T[13]? = some (f_shows 7 10 11) := by rw [tt]; rfl
theorem t14 : T[14]? = some f_within_by := by rw [tt]; rfl
theorem t15 : T[15]? = some (f_need_most 1 nvS) := by rw [tt]; rfl
theorem t16 : T[16]? = some (f_shown_by 16) := by rw [tt]; rfl
theorem t17 : T[17]? = some (f_fewest_by 14 16) := by rw [tt]; rfl
theorem t18 : T[18]? = some (f_bare_place 11 14) := by rw [tt]; rfl
theorem t19 : T[19]? = some (f_told_or_place 10 18 15 17) := by rw [tt]; rfl
theorem t20 : T[20]? = some (f_fewest_ladders 19) := by rw [tt]; rfl
theorem t21 : T[21]? = some (f_missed_from 8) := by rw [tt]; rfl
theorem t22 : T[22]? = some f_told_missed := by rw [tt]; rfl
theorem t23 : T[23]? = some (f_first_missed 21 9) := by rw [tt]; rfl
theorem t24 : T[24]? = some (f_all_or_missed 22 23 7) := by rw [tt]; rfl
theorem t25 : T[25]? = some strmF := by rw [tt]; rfl
theorem t26 : T[26]? = some drawF := by rw [tt]; rfl
theorem t27 : T[27]? = some (f_pick 26) := by rw [tt]; rfl
theorem t28 : T[28]? = some (f_mixed 26) := by rw [tt]; rfl
theorem t29 : T[29]? = some (f_same 29) := by rw [tt]; rfl
theorem t30 : T[30]? = some (f_copied 30) := by rw [tt]; rfl
theorem t31 : T[31]? = some f_unlike := by rw [tt]; rfl
theorem t32 : T[32]? = some f_e_has := by rw [tt]; rfl
theorem t33 : T[33]? = some (f_e_had 32) := by rw [tt]; rfl
theorem t34 : T[34]? = some (f_e_split 26 27) := by rw [tt]; rfl
theorem t35 : T[35]? = some (f_e_ladders 26 27 28 34) := by rw [tt]; rfl
theorem t36 : T[36]? = some f_law := by rw [tt]; rfl
end K83
end
section
set_option Elab.async false
set_option linter.all false
set_option maxRecDepth 100000
set_option maxHeartbeats 1000000
namespace K83
open PySem Ih
abbrev R (k : Nat) : Rp := runP Q T k
theorem up {k h : Nat} (hk : h + 1 ≤ k) : ∃ j, k = j + 1 ∧ h ≤ j := ⟨k - 1, by omega, by omega⟩
section
variable {k : Nat} {sm : Sst}
theorem r_is_list {d : D} (hk : 1 ≤ k) (h : d.plain = true) : R k 0 [d] sm = .ok (.bl (isSeq d)) sm := by
  obtain ⟨j, rfl, _⟩ := up hk
  exact (runP_at (by decide) (by decide) t0 ⟨rfl, by decide⟩).trans (l_is_list h)
theorem r_is_whole {d : D} (hk : 1 ≤ k) (h : d.plain = true) : R k 1 [d] sm = .ok (.bl (isInt d)) sm := by
  obtain ⟨j, rfl, _⟩ := up hk
  exact (runP_at (by decide) (by decide) t1 ⟨rfl, by decide⟩).trans (l_is_whole h)
theorem r_is_number {d : D} (hk : 2 ≤ k) (h : d.plain = true) : R k 2 [d] sm = .ok (.bl (isNum d)) sm := by
  obtain ⟨j, rfl, hj⟩ := up hk
  exact (runP_at (by decide) (by decide) t2 ⟨rfl, by decide⟩).trans (l_is_number (fun d sm hd => r_is_whole hj hd) h)
theorem r_is_row {d : D} {n : Int} (hk : 2 ≤ k) (h : d.plain = true) : R k 3 [d, .int n] sm = .ok (.bl (match d.items with
    | some xs => ((xs.length : Int) == n)
    | none => false)) sm := by
  obtain ⟨j, rfl, hj⟩ := up hk
  exact (runP_at (by decide) (by decide) t3 ⟨rfl, by decide⟩).trans (l_is_row (fun d sm hd => r_is_list hj hd) h)
theorem r_greatest {a b : Nat} (hk : 1 ≤ k) (h : b < 1073741824) : R k 4 [.int a, .int b] sm = .ok (.int (Nat.gcd a b : Nat)) sm := by
  obtain ⟨j, rfl, _⟩ := up hk
  exact (runP_at (by decide) (by decide) t4 ⟨rfl, by decide⟩).trans (l_greatest h)
theorem allPl_of : ∀ {xs : List D}, (∀ x ∈ xs, x.plain = true) → allPl xs = true
  | [], _ => rfl
  | x :: r, h => by
    unfold allPl
    rw [h x List.mem_cons_self, allPl_of fun y hy => h y (List.mem_cons_of_mem _ hy)]
    rfl
theorem r_kept_ladder {d : D} (hk : 3 ≤ k) (h : pl2 d = true) : R k 5 [d] sm = .ok (ladD (ladOf d)) sm := by
  obtain ⟨j, rfl, hj⟩ := up hk
  have hp : d.plain = true := by
    unfold pl2 at h
    rw [Bool.and_eq_true] at h
    exact h.1
  refine (runP_at (by decide) (by decide) t5 ⟨rfl, by decide⟩).trans (l_kept_ladder (fun d n sm hd => r_is_row hj hd) (fun d sm hd => r_is_number hj hd) (fun d sm hd => r_is_whole (by omega) hd) hp fun xs hi => allPl_of fun x hx => ?_)
  unfold pl2 at h
  rw [hi] at h
  simp only [Bool.and_eq_true, List.all_eq_true] at h
  exact h.2 x hx
theorem pl3_items {d : D} {xs : List D} (h : pl3 d = true) (hi : d.items = some xs) : (∀ x ∈ xs, pl2 x = true) ∧ xs.length ≤ 1000000 := by
  unfold pl3 at h
  rw [hi] at h
  simp only [Bool.and_eq_true, List.all_eq_true, decide_eq_true_eq] at h
  exact h.2
theorem pl3_plain {d : D} (h : pl3 d = true) : d.plain = true := by
  unfold pl3 at h
  rw [Bool.and_eq_true] at h
  exact h.1
theorem r_kept_ladders {d : D} (hk : 4 ≤ k) (h : pl3 d = true) : R k 6 [d] sm = .ok (keptD (keptOf d)) sm := by
  obtain ⟨j, rfl, hj⟩ := up hk
  exact (runP_at (by decide) (by decide) t6 ⟨rfl, by decide⟩).trans (l_kept_ladders (r_is_list (by omega) (pl3_plain h)) (fun xs hi x hx => r_kept_ladder hj ((pl3_items h hi).1 x hx)) fun xs hi => (pl3_items h hi).2)
theorem lads_plD {ls : List Lad} {B : Nat} (hB : 2 ≤ B) (hl : ls.length ≤ B) : plD B 2 (.lst (ls.map ladP)) = true := plD_lst (by rw [List.length_map]; exact hl) fun x hx => by
  obtain ⟨p, _, rfl⟩ := List.mem_map.mp hx
  exact plD_tup hB fun y hy => by
    simp only [List.mem_cons, List.not_mem_nil, or_false] at hy
    rcases hy with rfl | rfl <;> rfl
theorem lad_of {p : Lad} (h : 0 ≤ p.1 ∧ p.1 < p.2) : ladOf (ladP p) = some p := by
  show (if 0 ≤ p.1 ∧ p.1 < p.2 then some (p.1, p.2) else none) = some p
  rw [if_pos h]
theorem lads_of : ∀ {ls : List Lad}, Lads ls → (ls.map ladP).filterMap ladOf = ls ∧ ∀ x ∈ ls.map ladP, (ladOf x).isSome = true
  | [], _ => ⟨rfl, fun _ h => (List.not_mem_nil h).elim⟩
  | p :: r, h => by
    have hp := lad_of (h.ok p List.mem_cons_self)
    obtain ⟨e1, e2⟩ := lads_of (ls := r) ⟨fun q hq => h.ok q (List.mem_cons_of_mem _ hq)⟩
    refine ⟨by rw [List.map_cons, List.filterMap_cons, hp, e1], fun x hx => ?_⟩
    rw [List.map_cons] at hx
    rcases List.mem_cons.mp hx with rfl | hx
    · rw [hp]; rfl
    · exact e2 x hx
theorem kept_lads {ls : List Lad} (h : Lads ls) : keptOf (.lst (ls.map ladP)) = some ls := by
  obtain ⟨e1, e2⟩ := lads_of h
  have e3 : ((ls.map ladP).map ladOf).any Option.isNone = false := by
    rw [List.any_eq_false]
    intro x hx
    obtain ⟨d, hd, rfl⟩ := List.mem_map.mp hx
    have := e2 d hd
    cases hh : ladOf d with
    | none => rw [hh] at this; cases this
    | some _ => exact Bool.false_ne_true
  show (if ((ls.map ladP).map ladOf).any Option.isNone then none else some ((ls.map ladP).filterMap ladOf)) = some ls
  rw [e3, e1]
  rfl
theorem r_need_ladders {ls : List Lad} (hk : 6 ≤ k) (h : Lads ls) (hl : ls.length ≤ 1000) : R k 7 [.lst (ls.map ladP)] sm = .ok (.lst (ls.map ladP)) sm := by
  obtain ⟨j, rfl, hj⟩ := up hk
  refine (runP_at (by decide) (by decide) t7 ⟨rfl, by decide⟩).trans (l_need_ladders ?_)
  have := r_kept_ladders (k := j) (sm := sm) (d := .lst (ls.map ladP)) (by omega) (plD_pl3 (lads_plD (B := 1000) (by decide) hl) (by decide))
  rw [kept_lads h] at this
  exact this
theorem r_has {p : Int × Int} {n : Int} (hk : 1 ≤ k) (h : 0 < p.2) : R k 8 [ladP p, .int n] sm = .ok (.bl (hasB n p)) sm := by
  obtain ⟨j, rfl, _⟩ := up hk
  exact (runP_at (by decide) (by decide) t8 ⟨rfl, by decide⟩).trans (l_has h)
theorem r_round_by {ss : List Int} (hk : 2 ≤ k) (h : ∀ s ∈ ss, 1 ≤ s ∧ s < 1073741824) : R k 9 [.lst (ss.map .int)] sm = .ok (.int (rndI 1 ss : Nat)) sm := by
  obtain ⟨j, rfl, hj⟩ := up hk
  exact (runP_at (by decide) (by decide) t9 ⟨rfl, by decide⟩).trans (l_round_by (fun a b sm hb => r_greatest hj hb) h)
theorem r_need_shown {r : List Int} (hk : 2 ≤ k) (h : Row01 r) (hl : r.length ≤ 1000000) : R k 10 [.lst (r.map .int)] sm = .ok (.lst (r.map .int)) sm := by
  obtain ⟨j, rfl, hj⟩ := up hk
  exact (runP_at (by decide) (by decide) t10 ⟨rfl, by decide⟩).trans (l_need_shown h hl (r_is_list hj rfl) fun i => r_is_whole hj rfl)
theorem r_row_by {ls : List Lad} {n : Int} (hk : 1 ≤ k) (h : ∀ p ∈ ls, 0 < p.2) (hz : ls.length ≤ 1000000) (h0 : 0 ≤ n) (hn : n ≤ 1000000) : R k 11 [.lst (ls.map ladP), .int n] sm = .ok (.lst ((rowI ls n).map .int)) sm := by
  obtain ⟨j, rfl, hj⟩ := up hk
  exact (runP_at (by decide) (by decide) t11 ⟨rfl, by decide⟩).trans (l_row_by h hz h0 hn)
theorem r_row_of {ls : List Lad} {n : Int} (hk : 7 ≤ k) (h : Lads ls) (hl : ls.length ≤ 1000) (h1 : 1 ≤ n) (hn : n ≤ 1000000) : R k 12 [.lst (ls.map ladP), .int n] sm = .ok (.lst ((rowI ls n).map .int)) sm := by
  obtain ⟨j, rfl, hj⟩ := up hk
  exact (runP_at (by decide) (by decide) t12 ⟨rfl, by decide⟩).trans (l_row_of (r_need_ladders hj h hl) (r_is_whole (by omega) rfl) (r_row_by (by omega) (fun p hp => by have := h.ok p hp; omega) (by omega) (by omega) hn) h1)
theorem r_shows {ls : List Lad} {r : List Int} (hk : 7 ≤ k) (h : Lads ls) (hl : ls.length ≤ 1000) (hr : Row01 r) (hn : r.length ≤ 1000000) : R k 13 [.lst (ls.map ladP), .lst (r.map .int)] sm = .ok (.bl (rowI ls r.length == r)) sm := by
  obtain ⟨j, rfl, hj⟩ := up hk
  exact (runP_at (by decide) (by decide) t13 ⟨rfl, by decide⟩).trans (l_shows (r_need_ladders hj h hl) (r_need_shown (by omega) hr hn) (r_row_by (by omega) (fun p hp => by have := h.ok p hp; omega) (by omega) (by omega) (by omega)) (by omega) (by rw [rowI_len]; omega))
theorem r_within_by {r : List Int} {m : Int} (hk : 1 ≤ k) (hm : 1 ≤ m) (hm2 : m ≤ 100) (hr : r.length ≤ 1000000) : R k 14 [.lst (r.map .int), .int m] sm = .ok (.lst ((withinI r m).map ladP)) sm := by
  obtain ⟨j, rfl, hj⟩ := up hk
  exact (runP_at (by decide) (by decide) t14 ⟨rfl, by decide⟩).trans (l_within_by hm hm2 hr)
theorem r_need_most {n : Int} (hk : 2 ≤ k) (hn : 1 ≤ n) : R k 15 [.int n] sm = .ok (.int n) sm := by
  obtain ⟨j, rfl, hj⟩ := up hk
  exact (runP_at (by decide) (by decide) t15 ⟨rfl, by decide⟩).trans (l_need_most (r_is_whole hj rfl) hn)
theorem r_shown_by : ∀ (n k : Nat) (left : List Int) (ps : List Lad) (sm : Sst), n + 2 ≤ k → n ≤ 1000 → left.length ≤ 1000000 → (∀ p ∈ ps, 0 < p.2) → R k 16 [.lst (left.map .int), .lst (ps.map ladP), .int (n : Nat), .bl false] sm = .ok (keptD (shownI n left ps)) sm
  | n, k, left, ps, sm, hk, hn, hl, hp => by
    obtain ⟨j, rfl, hj⟩ := up hk
    refine (runP_at (by decide) (by decide) t16 ⟨rfl, by decide⟩).trans (l_shown_by hl hp hn fun i hi l qs h1 h2 => ?_)
    subst hi
    exact r_shown_by i j l qs sm (by omega) (by omega) (by omega) h2
theorem len_flat {α β : Type} {f : α → List β} {B : Nat} : ∀ {xs : List α}, (∀ x ∈ xs, (f x).length ≤ B) → (xs.flatMap f).length ≤ B * xs.length
  | [], _ => Nat.zero_le _
  | x :: r, h => by
    have h1 := h x List.mem_cons_self
    have h2 := len_flat (xs := r) fun y hy => h y (List.mem_cons_of_mem _ hy)
    rw [List.flatMap_cons, List.length_append, List.length_cons, Nat.mul_add, Nat.mul_one]
    omega
theorem len_within {r : List Int} : (withinI r 8).length ≤ 64 := by
  unfold withinI
  rw [(sortK_perm _ _).length_eq]
  unfold withinL
  have h1 : (rgI 1 (min 8 (r.length : Int) + 1)).length ≤ 8 := by rw [len_rgI]; omega
  refine Nat.le_trans (len_flat (B := 8) fun s hs => ?_) (Nat.mul_le_mul_left 8 h1)
  have := mem_rgI.mp hs
  rw [List.length_map]
  refine Nat.le_trans (List.length_filter_le _ _) ?_
  rw [len_rgI]
  omega
theorem len_ones {r : List Int} : (onesI r).length ≤ r.length := by
  unfold onesI
  rw [List.length_map]
  refine Nat.le_trans (List.length_filter_le _ _) ?_
  rw [List.length_zipIdx]
  exact Nat.le_refl _
theorem r_fewest_by {r : List Int} (hk : 100 ≤ k) (hr : r.length ≤ 50) : R k 17 [.lst (r.map .int), .int 8, .bl false] sm = .ok (keptD (fewI (onesI r) (withinI r 8))) sm := by
  obtain ⟨j, rfl, hj⟩ := up hk
  have h1 := len_ones (r := r)
  refine (runP_at (by decide) (by decide) t17 ⟨rfl, by decide⟩).trans (l_fewest_by (r_within_by (by omega) (by omega) (by omega) (by omega)) (by omega) fun i hi => ?_)
  exact r_shown_by i j _ _ sm (by omega) (by omega) (by omega) fun p hp => by have := mem_withinI.mp hp; omega
theorem row01 {ls : List Lad} {n : Int} (h : 1 ≤ n) : Row01 (rowI ls n) := by
  refine ⟨fun z => ?_, fun i hi => ?_⟩
  · have := congrArg List.length z
    rw [rowI_len, List.length_nil] at this
    omega
  · unfold rowI at hi
    obtain ⟨j, _, rfl⟩ := List.mem_map.mp hi
    split
    · exact .inr rfl
    · exact .inl rfl
theorem r_bare {ls : List Lad} {n : Int} (hk : 3 ≤ k) (h : Lads ls) (hs : ∀ p ∈ ls, p.2 ≤ 8) (hn : 9 ≤ n) (hn2 : n ≤ 50) : R k 18 [.lst ((rowI ls n).map .int), .int 8] sm = .ok .non sm := by
  obtain ⟨j, rfl, hj⟩ := up hk
  have hlen : ((rowI ls n).length : Int) = n := by rw [rowI_len]; omega
  have h64 := len_within (r := rowI ls n)
  refine (runP_at (by decide) (by decide) t18 ⟨rfl, by decide⟩).trans (l_bare_place (q := rowI (withinI (rowI ls n) 8) n) (r_within_by (by omega) (by omega) (by omega) (by omega)) ?_ (by omega) (by rw [rowI_len, rowI_len]) fun i v w hv hv0 hw hw0 => ?_)
  · rw [hlen]
    exact r_row_by (by omega) (fun p hp => by have := mem_withinI.mp hp; omega) (by omega) (by omega) (by omega)
  · have hi := (List.getElem?_eq_some_iff.mp hv).1
    rw [rowI_len] at hi
    rw [rowI_at (by omega)] at hv hw
    have e1 := Option.some.inj hv
    have e2 := Option.some.inj hw
    cases hh : hadB ls i with
    | false => rw [hh] at e1; exact hv0 e1.symm
    | true =>
      obtain ⟨p, hp, e⟩ := List.any_eq_true.mp hh
      have : hadB (withinI (rowI ls n) 8) i = true := List.any_eq_true.mpr ⟨p, lads_within h hs hn p hp, e⟩
      rw [this, if_pos rfl] at e2
      omega
theorem r_told {ls : List Lad} {n : Int} (hk : 110 ≤ k) (h : Lads ls) (hs : ∀ p ∈ ls, p.2 ≤ 8) (hn : 9 ≤ n) (hn2 : n ≤ 50) : R k 19 [.lst ((rowI ls n).map .int), .int 8] sm = .ok (.tup [.str "told", keptD (fewI (onesI (rowI ls n)) (withinI (rowI ls n) 8))]) sm := by
  obtain ⟨j, rfl, hj⟩ := up hk
  have hlen : ((rowI ls n).length : Int) = n := by rw [rowI_len]; omega
  exact (runP_at (by decide) (by decide) t19 ⟨rfl, by decide⟩).trans (l_told_or_place (r_need_shown (by omega) (row01 (by omega)) (by omega)) (r_need_most (by omega) (by omega)) (r_bare (by omega) h hs hn hn2) (r_fewest_by (by omega) (by omega)))
theorem r_fewest {ls f : List Lad} {n : Int} (hk : 120 ≤ k) (h : Lads ls) (hs : ∀ p ∈ ls, p.2 ≤ 8) (hn : 9 ≤ n) (hn2 : n ≤ 50) (hf : fewI (onesI (rowI ls n)) (withinI (rowI ls n) 8) = some f) : R k 20 [.lst ((rowI ls n).map .int), .int 8] sm = .ok (.int (f.length : Nat)) sm := by
  obtain ⟨j, rfl, hj⟩ := up hk
  have := r_told (k := j) (sm := sm) (by omega) h hs hn hn2
  rw [hf] at this
  have := (runP_at (Q := Q) (T := T) (k := j) (by decide) (by decide) t20 ⟨rfl, by decide⟩).trans (l_fewest_ladders this)
  rw [List.length_map] at this
  exact this
theorem rnd840 {ls : List Lad} (h : ∀ p ∈ ls, 1 ≤ p.2 ∧ p.2 ≤ 8) : rndL ls ≤ 840 := by
  have : rndI 1 (ls.map (·.2)) ∣ 840 := rndI_least _ _ _ (Nat.one_dvd _) fun s hs => by
    obtain ⟨p, hp, rfl⟩ := List.mem_map.mp hs
    obtain ⟨q1, q2⟩ := h p hp
    have hc : p.2 = 1 ∨ p.2 = 2 ∨ p.2 = 3 ∨ p.2 = 4 ∨ p.2 = 5 ∨ p.2 = 6 ∨ p.2 = 7 ∨ p.2 = 8 := by omega
    rcases hc with e | e | e | e | e | e | e | e <;> rw [e] <;> decide
  exact Int.ofNat_le.mpr (Nat.le_of_dvd (by decide) this)
theorem r_missed_from {ls : List (Int × Int)} {a b : Int} (hk : 2 ≤ k) (h : ∀ p ∈ ls, 0 < p.2) (hl : ls.length ≤ 1000000) (h1 : -(2 ^ 62) ≤ a) (h2 : a < 2 ^ 62) (h3 : -(2 ^ 62) ≤ a + b) (h4 : a + b < 2 ^ 62) : R k 21 [.lst (ls.map ladP), .int a, .int b] sm = .ok (firstD (missedI ls a b)) sm := by
  obtain ⟨j, rfl, hj⟩ := up hk
  exact (runP_at (by decide) (by decide) t21 ⟨rfl, by decide⟩).trans (l_missed_from (fun p hp n sm => r_has hj (h p hp)) hl h1 h2 h3 h4)
theorem r_told_missed {o : Option Int} (hk : 1 ≤ k) : R k 22 [firstD o] sm = .ok (toldD o) sm := by
  obtain ⟨j, rfl, hj⟩ := up hk
  exact (runP_at (by decide) (by decide) t22 ⟨rfl, by decide⟩).trans l_told_missed
theorem r_first_missed {ls : List (Int × Int)} (hk : 3 ≤ k) (h : ∀ p ∈ ls, 1 ≤ p.2 ∧ p.2 < 1073741824) (hl : ls.length ≤ 1000000) (hr : rndL ls < 1000000) : R k 23 [.lst (ls.map ladP)] sm = .ok (firstD (missedI ls 0 (rndL ls))) sm := by
  obtain ⟨j, rfl, hj⟩ := up hk
  have h0 : 0 ≤ rndL ls := by unfold rndL; omega
  exact (runP_at (by decide) (by decide) t23 ⟨rfl, by decide⟩).trans (l_first_missed (r_round_by hj fun s hs => by
    obtain ⟨p, hp, rfl⟩ := List.mem_map.mp hs
    exact h p hp) (r_missed_from hj (fun p hp => by have := h p hp; omega) hl (by omega) (by omega) (by omega) (by omega)) hl)
theorem r_all {ls : List Lad} (hk : 7 ≤ k) (h : Lads ls) (hs : ∀ p ∈ ls, p.2 ≤ 8) (hl : ls.length ≤ 1000) : R k 24 [.lst (ls.map ladP)] sm = .ok (toldD (missedI ls 0 (rndL ls))) sm := by
  obtain ⟨j, rfl, hj⟩ := up hk
  have hp : ∀ p ∈ ls, 1 ≤ p.2 ∧ p.2 ≤ 8 := fun p hp => by have := h.ok p hp; have := hs p hp; omega
  have := rnd840 hp
  exact (runP_at (by decide) (by decide) t24 ⟨rfl, by decide⟩).trans (l_all_or_missed (r_need_ladders hj h hl) (r_first_missed (by omega) (fun p hq => by have := hp p hq; omega) (by omega) (by omega)) (r_told_missed (by omega)))
theorem r_draws (hk : 1 ≤ k) : Draws (R k) 26 := by
  obtain ⟨j, rfl, hj⟩ := up hk
  exact draws_run (Q := Q) (by decide)
theorem r_picks (hk : 2 ≤ k) : Picks (R k) 27 := fun b sm xs hs hb hx hl => by
  obtain ⟨j, rfl, hj⟩ := up hk
  obtain ⟨x, sm', e, h⟩ := l_pick (r_draws hj) hs hb hx hl
  exact ⟨x, sm', (runP_at (by decide) (by decide) t27 ⟨rfl, by decide⟩).trans e, h⟩
theorem r_mixed {b : Int} {d : D} {xs : List D} (hk : 2 ≤ k) (hd : d.items = some xs) (hs : SmOk b sm) (hb : b + xs.length < 1099511627776) (hl : xs.length ≤ 1000000) : ∃ ys sm', R k 28 [.stm, d] sm = .ok (.lst ys) sm' ∧ ys.Perm xs ∧ SmOk (b + xs.length) sm' := by
  obtain ⟨j, rfl, hj⟩ := up hk
  obtain ⟨x, sm', e, h⟩ := l_mixed (r_draws hj) hd hs hb hl
  exact ⟨x, sm', (runP_at (by decide) (by decide) t28 ⟨rfl, by decide⟩).trans e, h⟩
theorem r_same0 (hk : 1 ≤ k) : R k 29 [.lst [], .lst []] sm = .ok (.bl true) sm := by
  obtain ⟨j, rfl, hj⟩ := up hk
  refine (runP_at (by decide) (by decide) t29 ⟨rfl, by decide⟩).trans ?_
  kernel_rfl
theorem r_same {B : Nat} (hB : B ≤ 1000000) : ∀ (n k : Nat) (d : D), n + 2 ≤ k → plD B n d = true → ∀ sm, R k 29 [d, d] sm = .ok (.bl true) sm
  | n, k, d, hk, h, sm => by
    obtain ⟨j, rfl, hj⟩ := up hk
    refine (runP_at (by decide) (by decide) t29 ⟨rfl, by decide⟩).trans (l_same (plD_okA h) (fun xs hi => ?_) (r_same0 (by omega)))
    obtain ⟨m, rfl, hl, hx⟩ := plD_items h hi
    exact ⟨fun x hx' => r_same hB m j x (by omega) (hx x hx') sm, by omega⟩
theorem r_copied {B : Nat} (hB : B ≤ 1000000) : ∀ (n k : Nat) (d : D), n + 1 ≤ k → plD B n d = true → ∀ sm, R k 30 [d] sm = .ok d sm
  | n, k, d, hk, h, sm => by
    obtain ⟨j, rfl, hj⟩ := up hk
    refine (runP_at (by decide) (by decide) t30 ⟨rfl, by decide⟩).trans (l_copied (plD_okA h) fun xs hi => ?_)
    obtain ⟨m, rfl, hl, hx⟩ := plD_items h hi
    exact ⟨fun x hx' => r_copied hB m j x (by omega) (hx x hx') sm, by omega⟩
theorem r_unlike {ls : List Lad} (hk : 1 ≤ k) (h : ls.length ≤ 100000) : R k 31 [.lst (ls.map ladP)] sm = .ok (.lst ((unlP ls).map ladP)) sm := by
  obtain ⟨j, rfl, hj⟩ := up hk
  exact (runP_at (by decide) (by decide) t31 ⟨rfl, by decide⟩).trans (l_unlikeP h)
theorem r_e_had {ls : List Lad} {n : Int} (hk : 2 ≤ k) (h : Lads ls) (hl : ls.length ≤ 1000) : R k 33 [.lst (ls.map ladP), .int n] sm = .ok (.int (cntB ls n : Nat)) sm := by
  obtain ⟨j, rfl, hj⟩ := up hk
  exact (runP_at (by decide) (by decide) t33 ⟨rfl, by decide⟩).trans (l_e_had rfl (lads_of h) (by rw [List.length_map]; omega) fun x p hx => by
    obtain ⟨u, rfl, hu⟩ := up hj
    exact (runP_at (by decide) (by decide) t32 ⟨rfl, by decide⟩).trans (l_e_has hx))
theorem r_mixes (hk : 2 ≤ k) : Mixes (R k) 28 := fun b sm xs hs hb hl => r_mixed hk rfl hs hb hl
theorem r_e_ladders {b : Int} (hk : 5 ≤ k) (hs : SmOk b sm) (hb : b + 2000 < 1099511627776) : ∃ ls sm', R k 35 [.stm, .int 5] sm = .ok (.lst (ls.map ladP)) sm' ∧ ls.length ≤ 6 ∧ LdOk ls ∧ SmOk (b + 200) sm' := by
  obtain ⟨j, rfl, hj⟩ := up hk
  obtain ⟨ls, sm', e, h⟩ := l_e_ladders (dw := 26) (pk := 27) (mx := 28) (es := 34) (r_draws (k := j) (by omega)) (r_picks (by omega)) (r_mixes (by omega)) (fun b sm hs hb => by
    obtain ⟨i, rfl, hi⟩ := up hj
    obtain ⟨ms, sm', e, h⟩ := l_e_split (dw := 26) (pk := 27) (n := 5) (r_draws (k := i) (by omega)) (r_picks (by omega)) hs (by decide) (by decide) hb
    exact ⟨ms, sm', (runP_at (by decide) (by decide) t34 ⟨rfl, by decide⟩).trans e, h⟩) hs hb
  exact ⟨ls, sm', (runP_at (by decide) (by decide) t35 ⟨rfl, by decide⟩).trans e, h⟩
end
end K83
end
section
set_option Elab.async false
set_option linter.all false
set_option maxRecDepth 100000
set_option maxHeartbeats 1000000
namespace K83
open PySem Ih
local macro_rules | `(tactic| walk_at "ev") => `(tactic| simp [v_var, v_non, v_bl, v_int, v_str, v_bin, v_neg, v_nt, v_and, v_or, v_ife, v_cmp, v_cmp2, v_sub, v_slc, v_rev, v_stpL, v_tup, v_lst, v_dic0, v_call, v_callK, v_bi, v_isi, v_met, v_com, x_ex, x_asg, x_asgT, x_par, x_ret, x_retN, x_ite, x_for, x_whl, x_pas, x_con, xs_nil, xs_cons, varP, opd, tst, shr, pret, pbad, pbnd, pof, rdV, rdVs, rdO, rdOs, lend_s, frzE, frz1, evKs, evPs, evMs, evPO, exoP, evW, walkP, tryP, setP, envP, finP, pd_sh, pd_ow, at_non, at_bl, at_int, at_str, at_lst, at_tup, at_dic0, at_stm, it_lst, it_tup, it_non, it_bl, it_int, it_str, it_dic0, tr_non, tr_bl, tr_int, tr_lst, tr_tup, tr_dic0, is_non, is_bl, is_int, is_str, is_lst, is_tup, is_dic0, nn_non, nn_bl, nn_int, nn_str, nn_lst, nn_tup, nn_dic0, cm_is, cm_isn, cm_lt, cm_le, cm_gt, cm_ge, cm_eqi, cm_nei, cm_eqb, cm_neb, isTy, subP, evCs', occB, occE, occEs, occO, occI, occT, occT.occTs, occS, occSs, sz_eq, *])
abbrev s1 : Sx := .asg (.nm 1) (.call 25 (.cons (.var 0) .nil))
abbrev cp (i : Nat) : Ex := .call 30 (.cons (.var i) .nil)
abbrev t1e : Ex := (.sub (.var 7) (.int 1))
abbrev q1c : Exs := (.cons (.cmp .lt (.sub (.var 9) (.int 1)) (.int 9)) .nil)
abbrev q1 : Sx := .asg (.nm 3) (.com (.nm 9) (.seq (.call 35 (.cons (.var 1) (.cons (.int 5) .nil)))) q1c (.var 9) [8, 9])
abbrev q2 : Sx := .asg (.nm 4) (.bin .add (.int 9) (.call 26 (.cons (.var 1) (.cons (.int 12) .nil))))
abbrev q3 : Sx := .asg (.nm 5) (.call 12 (.cons (cp 3) (.cons (.var 4) .nil)))
abbrev hade (e : Ex) : Ex := (.bi .int (.cons (.cmp .gt (.call 33 (.cons e (.cons (.var 10) .nil))) (.int 0)) .nil))
abbrev hadc (e : Ex) : Ex := (.com (.nm 10) (.rng1 (.var 4)) .nil (hade e) [8, 10])
abbrev no : Sxs := (.cons (.ret (.bl false)) .nil)
abbrev q4 : Sx := (.ite (.nt (.call 29 (.cons (.lst (.cons (.var 5) (.cons (.call 13 (.cons (cp 3) (.cons (cp 5) .nil))) .nil))) (.cons (.lst (.cons (hadc (.var 3)) (.cons (.bl true) .nil))) .nil)))) no .nil)
abbrev q5 : Sx := .asg (.nm 6) (.call 20 (.cons (cp 5) (.cons (.int 8) .nil)))
abbrev q6 : Sx := (.ite (.or (.cmp .is (.var 6) .non) (.cmp .gt (.var 6) (.bi .len (.cons (.call 31 (.cons (.var 3) .nil)) .nil)))) no .nil)
abbrev q7 : Sx := .asg (.nm 7) (.call 19 (.cons (cp 5) (.cons (.int 8) .nil)))
abbrev q8 : Sx := (.ite (.or (.cmp .ne (.sub (.var 7) (.int 0)) (.str "told")) (.cmp .ne (hadc t1e) (.var 5))) no .nil)
abbrev q9 : Sx := (.ite (.or (.cmp .ne (.bi .len (.cons t1e .nil)) (.var 6)) (.nt (.call 13 (.cons (.call 30 (.cons t1e .nil)) (.cons (cp 5) .nil))))) no .nil)
abbrev q10 : Sx := (.ite (.and (.cmp .eq (.call 24 (.cons (cp 3) .nil)) (.tup (.cons (.str "all") .nil))) (.cmp .ne (.var 6) (.int 1))) no .nil)
abbrev turn : Sxs := .cons q1 (.cons q2 (.cons q3 (.cons q4 (.cons q5 (.cons q6 (.cons q7 (.cons q8 (.cons q9 (.cons q10 .nil)))))))))
abbrev s2 : Sx := .forE (.nm 2) (.rng1 (.int 8)) turn
abbrev s3 : Sx := (.ret (.call 29 (.cons (.lst (.cons (.call 12 (.cons (.lst (.cons (.tup (.cons (.int 0) (.cons (.int 2) .nil))) (.cons (.tup (.cons (.int 0) (.cons (.int 3) .nil))) .nil))) (.cons (.int 6) .nil))) (.cons (.call 20 (.cons (.lst (.cons (.int 1) (.cons (.int 1) (.cons (.int 1) .nil)))) (.cons (.int 3) .nil))) .nil))) (.cons (.lst (.cons (.lst (.cons (.int 1) (.cons (.int 0) (.cons (.int 1) (.cons (.int 1) (.cons (.int 1) (.cons (.int 0) .nil))))))) (.cons (.int 1) .nil))) .nil))))
theorem body_eq : f_law.body = .cons s1 (.cons s2 (.cons s3 .nil)) := rfl
abbrev E (z : D) (v2 v3 v4 v5 v6 v7 : Option PV) : List (Option PV) := [some (.sh z), some (.sh .stm), v2, v3, v4, v5, v6, v7, none, none, none]
section
variable {R : Rp} {z : D} {v2 v3 v4 v5 v6 v7 : Option PV} {sm sm1 sm2 : Sst}
theorem q1_com {ls : List Lad} (hl : ls.length ≤ 1000) : comW R (.nm 9) [8, 9] q1c (.var 9) (onesP (ls.map ladP)) ⟨E z v2 v3 v4 v5 v6 v7, sm⟩ = .ok (.ow ((ls.filter fun p => decide (p.2 < 9)).map ladP)) ⟨E z v2 v3 v4 v5 v6 v7, sm⟩ := by
  rw [onesP_map]
  refine comW_gen (fun p => .one (ladP p)) (fun p => [some (.sh z), some (.sh .stm), v2, v3, v4, v5, v6, v7, none, some (.sh (ladP p)), none]) (fun p => decide (p.2 < 9)) (fun p => ladP p) rfl rfl rfl (fun p hp => ⟨rfl, rfl, ?_, fun _ => ?_⟩) (by rw [sz_eq]; omega)
  · have e : ladP p = .tup [.int p.1, .int p.2] := rfl
    have a1 : L2.atI [D.int p.1, D.int p.2] 1 = some (.int p.2) := rfl
    rw [e]
    have h1 : cmpP .lt (.int p.2) (.int 9) = some (decide (p.2 < 9)) := cm_lt
    clear e hp hl
    generalize decide (p.2 < 9) = B at *
    generalize p.1 = x at *
    generalize p.2 = y at *
    cases B <;> walk_at "ev"
  · generalize ladP p = x
    walk_at "ev"
theorem q1_run {ls : List Lad} (h : R 35 [.stm, .int 5] sm = .ok (.lst (ls.map ladP)) sm1) (hl : ls.length ≤ 1000) : exP R q1 ⟨E z v2 v3 v4 v5 v6 v7, sm⟩ = .ok .nx ⟨E z v2 (some (.ow ((ls.filter fun p => decide (p.2 < 9)).map ladP))) v4 v5 v6 v7, sm1⟩ := by
  have hc := q1_com (R := R) (z := z) (v2 := v2) (v3 := v3) (v4 := v4) (v5 := v5) (v6 := v6) (v7 := v7) (sm := sm1) hl
  clear hl
  generalize (ls.filter fun p => decide (p.2 < 9)).map ladP = F at *
  generalize ls.map ladP = L at *
  walk_at "ev"
theorem q2_run {a : Int} (h : R 26 [.stm, .int 12] sm = .ok (.int a) sm1) : exP R q2 ⟨E z v2 v3 v4 v5 v6 v7, sm⟩ = .ok .nx ⟨E z v2 v3 (some (.sh (.int (9 + a)))) v5 v6 v7, sm1⟩ := by
  have ha : binP .add (.int 9) (.int a) = some (.sh (.int (9 + a))) := rfl
  generalize 9 + a = n at *
  walk_at "ev"
theorem q3_run {L : List D} {r n : D} (hc : R 30 [.lst L] sm = .ok (.lst L) sm) (h : R 12 [.lst L, n] sm = .ok r sm) : exP R q3 ⟨E z v2 (some (.ow L)) (some (.sh n)) v5 v6 v7, sm⟩ = .ok .nx ⟨E z v2 (some (.sh (.lst L))) (some (.sh n)) (some (.sh r)) v6 v7, sm⟩ := by
  walk_at "ev"
theorem int_bl (b : Bool) : biP .int [.bl b] = some (.sh (.int (if b then 1 else 0))) := rfl
theorem gt_cnt {ls : List Lad} {i : Int} : cmpP .gt (.int (cntB ls i : Nat)) (.int 0) = some (hadB ls i) := by
  rw [cm_gt, hadB_cnt]
  congr 1
  exact decide_eq_decide.mpr (by omega)
theorem had_com3 {ls : List Lad} {n : Int} (hn : n ≤ 1000) (h : ∀ i : Int, R 33 [.lst (ls.map ladP), .int i] sm = .ok (.int (cntB ls i : Nat)) sm) : comW R (.nm 10) [8, 10] .nil (hade (.var 3)) ((rgI 0 n).map fun i => .one (.int i)) ⟨E z v2 (some (.sh (.lst (ls.map ladP)))) (some (.sh (.int n))) v5 v6 v7, sm⟩ =
    .ok (.ow ((rowI ls n).map .int)) ⟨E z v2 (some (.sh (.lst (ls.map ladP)))) (some (.sh (.int n))) v5 v6 v7, sm⟩ := by
  have em : (rowI ls n).map D.int = (rgI 0 n).map fun i => .int (if hadB ls i then 1 else 0) := by unfold rowI; rw [List.map_map]; rfl
  rw [em, comW_gen (fun i => .one (.int i)) (fun i => [some (.sh z), some (.sh .stm), v2, some (.sh (.lst (ls.map ladP))), some (.sh (.int n)), v5, v6, v7, none, none, some (.sh (.int i))]) (fun _ => true) (fun i => .int (if hadB ls i then 1 else 0)) rfl rfl rfl (fun i hi => ⟨rfl, rfl, rfl, fun _ => ?_⟩) (by rw [len_rgI]; exact Nat.le_trans (m := 1000000) (by omega) (by decide)), List.filter_eq_self.mpr fun _ _ => rfl]
  have h1 := h i
  have h2 := gt_cnt (ls := ls) (i := i)
  have h3 := int_bl (hadB ls i)
  clear h hi em hn
  generalize hadB ls i = B at *
  generalize ls.map ladP = L at *
  generalize ((cntB ls i : Nat) : Int) = c at *
  cases B <;> walk_at "ev"
theorem had_com7 {ls : List Lad} {n : Int} (hn : n ≤ 1000) (h : ∀ i : Int, R 33 [.lst (ls.map ladP), .int i] sm = .ok (.int (cntB ls i : Nat)) sm) : comW R (.nm 10) [8, 10] .nil (hade t1e) ((rgI 0 n).map fun i => .one (.int i)) ⟨E z v2 v3 (some (.sh (.int n))) v5 v6 (some (.sh (.tup [.str "told", .lst (ls.map ladP)]))), sm⟩ =
    .ok (.ow ((rowI ls n).map .int)) ⟨E z v2 v3 (some (.sh (.int n))) v5 v6 (some (.sh (.tup [.str "told", .lst (ls.map ladP)]))), sm⟩ := by
  have em : (rowI ls n).map D.int = (rgI 0 n).map fun i => .int (if hadB ls i then 1 else 0) := by unfold rowI; rw [List.map_map]; rfl
  rw [em, comW_gen (fun i => .one (.int i)) (fun i => [some (.sh z), some (.sh .stm), v2, v3, some (.sh (.int n)), v5, v6, some (.sh (.tup [.str "told", .lst (ls.map ladP)])), none, none, some (.sh (.int i))]) (fun _ => true) (fun i => .int (if hadB ls i then 1 else 0)) rfl rfl rfl (fun i hi => ⟨rfl, rfl, rfl, fun _ => ?_⟩) (by rw [len_rgI]; exact Nat.le_trans (m := 1000000) (by omega) (by decide)), List.filter_eq_self.mpr fun _ _ => rfl]
  have h1 := h i
  have h2 := gt_cnt (ls := ls) (i := i)
  have h3 := int_bl (hadB ls i)
  have a1 : L2.atI [D.str "told", D.lst (ls.map ladP)] 1 = some (.lst (ls.map ladP)) := rfl
  clear h hi em hn
  generalize hadB ls i = B at *
  generalize ls.map ladP = L at *
  generalize ((cntB ls i : Nat) : Int) = c at *
  cases B <;> walk_at "ev"
theorem q4_run {ls : List Lad} {n : Int} (h0 : 0 ≤ n) (hn : n ≤ 1000) (h : ∀ i : Int, R 33 [.lst (ls.map ladP), .int i] sm = .ok (.int (cntB ls i : Nat)) sm)
    (c3 : R 30 [.lst (ls.map ladP)] sm = .ok (.lst (ls.map ladP)) sm) (c5 : R 30 [.lst ((rowI ls n).map .int)] sm = .ok (.lst ((rowI ls n).map .int)) sm)
    (hs : R 13 [.lst (ls.map ladP), .lst ((rowI ls n).map .int)] sm = .ok (.bl true) sm) (he : R 29 [.lst [.lst ((rowI ls n).map .int), .bl true], .lst [.lst ((rowI ls n).map .int), .bl true]] sm = .ok (.bl true) sm) :
    exP R q4 ⟨E z v2 (some (.sh (.lst (ls.map ladP)))) (some (.sh (.int n))) (some (.sh (.lst ((rowI ls n).map .int)))) v6 v7, sm⟩ = .ok .nx ⟨E z v2 (some (.sh (.lst (ls.map ladP)))) (some (.sh (.int n))) (some (.sh (.lst ((rowI ls n).map .int)))) v6 v7, sm⟩ := by
  have hc := had_com3 (z := z) (v2 := v2) (v5 := some (.sh (.lst ((rowI ls n).map .int)))) (v6 := v6) (v7 := v7) hn h
  have hr := rngP_ok (a := 0) (b := n) (by omega) (by omega) (by omega) (by omega)
  clear h h0 hn
  generalize (rgI 0 n).map (fun i => PIv.one (.int i)) = I at *
  generalize (rowI ls n).map D.int = W at *
  generalize ls.map ladP = L at *
  walk_at "ev"
theorem q5_run {W : List D} {f : D} (c5 : R 30 [.lst W] sm = .ok (.lst W) sm) (h : R 20 [.lst W, .int 8] sm = .ok f sm) : exP R q5 ⟨E z v2 v3 v4 (some (.sh (.lst W))) v6 v7, sm⟩ = .ok .nx ⟨E z v2 v3 v4 (some (.sh (.lst W))) (some (.sh f)) v7, sm⟩ := by
  walk_at "ev"
theorem q6_run {L U : List D} {k : Nat} (h : R 31 [.lst L] sm = .ok (.lst U) sm) (hk : k ≤ U.length) : exP R q6 ⟨E z v2 (some (.sh (.lst L))) v4 v5 (some (.sh (.int (k : Nat)))) v7, sm⟩ = .ok .nx ⟨E z v2 (some (.sh (.lst L))) v4 v5 (some (.sh (.int (k : Nat)))) v7, sm⟩ := by
  have h1 : cmpP .gt (.int (k : Nat)) (.int (U.length : Nat)) = some false := by rw [cm_gt]; congr 1; exact decide_eq_false (by omega)
  have h2 := bi_len U
  clear hk
  generalize ((U.length : Nat) : Int) = u at *
  generalize ((k : Nat) : Int) = f at *
  walk_at "ev"
theorem q7_run {W : List D} {f : D} (c5 : R 30 [.lst W] sm = .ok (.lst W) sm) (h : R 19 [.lst W, .int 8] sm = .ok f sm) : exP R q7 ⟨E z v2 v3 v4 (some (.sh (.lst W))) v6 v7, sm⟩ = .ok .nx ⟨E z v2 v3 v4 (some (.sh (.lst W))) v6 (some (.sh f)), sm⟩ := by
  walk_at "ev"
theorem ne_str {z : Str} (h : PyData.strOk z = true) : cmpP .ne (.str z) (.str z) = some false := by
  rw [cm_ne, lk_str h]
  dsimp only
  show some (!(z == z)) = _
  rw [beq_self_eq_true]
  rfl
theorem q8_run {ls : List Lad} {n : Int} {r : List Int} (h0 : 0 ≤ n) (hn : n ≤ 1000) (h : ∀ i : Int, R 33 [.lst (ls.map ladP), .int i] sm = .ok (.int (cntB ls i : Nat)) sm) (hr : rowI ls n = r) :
    exP R q8 ⟨E z v2 v3 (some (.sh (.int n))) (some (.sh (.lst (r.map .int)))) v6 (some (.sh (.tup [.str "told", .lst (ls.map ladP)]))), sm⟩ = .ok .nx ⟨E z v2 v3 (some (.sh (.int n))) (some (.sh (.lst (r.map .int)))) v6 (some (.sh (.tup [.str "told", .lst (ls.map ladP)]))), sm⟩ := by
  have hc := had_com7 (z := z) (v2 := v2) (v3 := v3) (v5 := some (.sh (.lst (r.map .int)))) (v6 := v6) hn h
  have hg := rngP_ok (a := 0) (b := n) (by omega) (by omega) (by omega) (by omega)
  have hl : r.length ≤ 10000000 := by rw [← hr, rowI_len]; omega
  rw [hr] at hc
  have h1 := ne_ints hl hl
  have h2 : (!(r == r)) = false := by rw [beq_self_eq_true]; rfl
  rw [h2] at h1
  have h3 := ne_str (z := "told") (by decide +kernel)
  have a0 : L2.atI [D.str "told", D.lst (ls.map ladP)] 0 = some (.str "told") := rfl
  clear h h0 hn hr hl h2
  generalize (rgI 0 n).map (fun i => PIv.one (.int i)) = I at *
  generalize r.map D.int = W at *
  generalize ls.map ladP = L at *
  walk_at "ev"
theorem q9_run {F W : List D} (c : R 30 [.lst F] sm = .ok (.lst F) sm) (c5 : R 30 [.lst W] sm = .ok (.lst W) sm) (h : R 13 [.lst F, .lst W] sm = .ok (.bl true) sm) :
    exP R q9 ⟨E z v2 v3 v4 (some (.sh (.lst W))) (some (.sh (.int (F.length : Nat)))) (some (.sh (.tup [.str "told", .lst F]))), sm⟩ = .ok .nx ⟨E z v2 v3 v4 (some (.sh (.lst W))) (some (.sh (.int (F.length : Nat)))) (some (.sh (.tup [.str "told", .lst F]))), sm⟩ := by
  have h1 := bi_len F
  have h2 : cmpP .ne (.int (F.length : Nat)) (.int (F.length : Nat)) = some false := by rw [cm_nei, beq_self_eq_true]; rfl
  have a1 : L2.atI [D.str "told", D.lst F] 1 = some (.lst F) := rfl
  generalize ((F.length : Nat) : Int) = f at *
  walk_at "ev"
theorem eq_all (o : Option Int) : cmpP .eq (toldD o) (.tup [.str "all"]) = some o.isNone := by
  cases o with
  | none => decide +kernel
  | some n =>
    have l1 : (toldD (some n)).look = some (.tuple [.str "missed", .int n]) := by kernel_rfl
    have l2 : (D.tup [.str "all"]).look = some (.tuple [.str "all"]) := by kernel_rfl
    rw [cm_eq, l1, l2]
    kernel_rfl
theorem q10_no {L : List D} {o : Option Int} (c : R 30 [.lst L] sm = .ok (.lst L) sm) (h : R 24 [.lst L] sm = .ok (toldD o) sm) (ho : o.isNone = false) :
    exP R q10 ⟨E z v2 (some (.sh (.lst L))) v4 v5 v6 v7, sm⟩ = .ok .nx ⟨E z v2 (some (.sh (.lst L))) v4 v5 v6 v7, sm⟩ := by
  have h1 := eq_all o
  rw [ho] at h1
  generalize toldD o = t at *
  walk_at "ev"
theorem q10_yes {L : List D} {o : Option Int} (c : R 30 [.lst L] sm = .ok (.lst L) sm) (h : R 24 [.lst L] sm = .ok (toldD o) sm) (ho : o.isNone = true) :
    exP R q10 ⟨E z v2 (some (.sh (.lst L))) v4 v5 (some (.sh (.int 1))) v7, sm⟩ = .ok .nx ⟨E z v2 (some (.sh (.lst L))) v4 v5 (some (.sh (.int 1))) v7, sm⟩ := by
  have h1 := eq_all o
  rw [ho] at h1
  generalize toldD o = t at *
  walk_at "ev"
end
end K83
end
section
set_option Elab.async false
set_option linter.all false
set_option maxRecDepth 100000
set_option maxHeartbeats 1000000
namespace K83
open PySem Ih
local macro_rules | `(tactic| walk_at "ev") => `(tactic| simp [v_var, v_non, v_bl, v_int, v_str, v_bin, v_neg, v_nt, v_and, v_or, v_ife, v_cmp, v_cmp2, v_sub, v_slc, v_rev, v_stpL, v_tup, v_lst, v_dic0, v_call, v_callK, v_bi, v_isi, v_met, v_com, x_ex, x_asg, x_asgT, x_par, x_ret, x_retN, x_ite, x_for, x_whl, x_pas, x_con, xs_nil, xs_cons, varP, opd, tst, shr, pret, pbad, pbnd, pof, rdV, rdVs, rdO, rdOs, lend_s, frzE, frz1, evKs, evPs, evMs, evPO, exoP, evW, walkP, tryP, setP, envP, finP, pd_sh, pd_ow, at_non, at_bl, at_int, at_str, at_lst, at_tup, at_dic0, at_stm, it_lst, it_tup, it_non, it_bl, it_int, it_str, it_dic0, tr_non, tr_bl, tr_int, tr_lst, tr_tup, tr_dic0, is_non, is_bl, is_int, is_str, is_lst, is_tup, is_dic0, nn_non, nn_bl, nn_int, nn_str, nn_lst, nn_tup, nn_dic0, cm_is, cm_isn, cm_lt, cm_le, cm_gt, cm_ge, cm_eqi, cm_nei, cm_eqb, cm_neb, isTy, subP, evCs', occB, occE, occEs, occO, occI, occT, occT.occTs, occS, occSs, sz_eq, *])
theorem ints_plD {r : List Int} {B : Nat} (h : r.length ≤ B) : plD B 1 (.lst (r.map .int)) = true := plD_lst (by rw [List.length_map]; exact h) fun x hx => by
  obtain ⟨i, _, rfl⟩ := List.mem_map.mp hx
  rfl
section
variable {ks : List Lad} {n : Int}
theorem fact_few (h : Lads ks) (hs : ∀ p ∈ ks, p.2 ≤ 8) (hn : 9 ≤ n) : ∃ f, fewI (onesI (rowI ks n)) (withinI (rowI ks n) 8) = some f ∧ f.length ≤ (unlP ks).length ∧ f.length ≤ ks.length ∧ Lads f ∧ (∀ p ∈ f, p.2 ≤ 8) ∧ rowI f n = rowI ks n := by
  have hw := lads_within h hs hn
  have hh : ∀ x ∈ onesI (rowI ks n), ∃ c ∈ ks, hasB x c = true := fun x hx => List.any_eq_true.mp (ones_had x hx)
  obtain ⟨f, e, l1, w1, c1⟩ := few_found (unlP ks) (fun p hp => hw p (unlP_mem.mp hp)) fun x hx => by
    obtain ⟨c, hc, e⟩ := hh x hx
    exact ⟨c, unlP_mem.mpr hc, e⟩
  obtain ⟨f2, e2, l2, _, _⟩ := few_found ks hw hh
  have : f = f2 := Option.some.inj (e.symm.trans e2)
  subst this
  exact ⟨f, e, l1, l2, ⟨fun p hp => (mem_withinI.mp (w1 p hp)).2.1⟩, fun p hp => (mem_withinI.mp (w1 p hp)).1.2.1, row_shown w1 c1⟩
theorem fact_one {f : List Lad} (h : Lads ks) (hs : ∀ p ∈ ks, p.2 ≤ 8) (hn : 9 ≤ n) (hn2 : n ≤ 100) (hf : fewI (onesI (rowI ks n)) (withinI (rowI ks n) 8) = some f) (ho : (missedI ks 0 (rndL ks)).isNone = true) : f.length = 1 := by
  rw [missed_round (n := 840) (by decide) fun p hp => ?_, List.all_eq_true] at ho
  · have had : ∀ i : Int, 0 ≤ i → i < 840 → hadB ks i = true := fun i h0 h1 => by
      rw [hadB_cnt]
      exact ho i (mem_rgI.mpr ⟨h0, h1⟩)
    obtain ⟨f2, e2, l2, _, c2⟩ := few_found (ls := ks) (n := n) [(0, 1)] (fun p hp => by
      cases List.mem_singleton.mp hp
      refine mem_withinI.mpr ⟨⟨by decide, by decide, by rw [rowI_len]; show (1 : Int) ≤ _; omega⟩, ⟨by decide, by decide⟩, (step_all (by decide) (by decide)).mpr fun m _ v hv => ?_⟩
      have hm := (List.getElem?_eq_some_iff.mp hv).1
      rw [rowI_len] at hm
      rw [rowI_at (by omega), had m (by omega) (by omega)] at hv
      have := Option.some.inj hv
      rw [if_pos rfl] at this
      omega) fun x _ => ⟨(0, 1), List.mem_cons_self, by
        show (x - 0) % 1 == 0
        rw [Int.emod_one]
        rfl⟩
    have : f = f2 := Option.some.inj (hf.symm.trans e2)
    subst this
    have h0 : (0 : Int) ∈ onesI (rowI ks n) := mem_onesI.mpr ⟨0, rfl, 1, by rw [rowI_at (m := 0) (by omega), had (0 : Nat) (by omega) (by omega), if_pos rfl], by decide⟩
    obtain ⟨p, hp, _⟩ := c2 0 h0
    have := List.length_pos_of_mem hp
    rw [List.length_cons, List.length_nil] at l2
    omega
  · have h1 := h.ok p hp
    have h2 := hs p hp
    refine ⟨by omega, ?_⟩
    have hc : p.2 = 1 ∨ p.2 = 2 ∨ p.2 = 3 ∨ p.2 = 4 ∨ p.2 = 5 ∨ p.2 = 6 ∨ p.2 = 7 ∨ p.2 = 8 := by omega
    rcases hc with e | e | e | e | e | e | e | e <;> rw [e] <;> decide
end
theorem turn_run {z : D} {v2 v3 v4 v5 v6 v7 : Option PV} {sm : Sst} {b : Int} (hs : SmOk b sm) (hb : b + 10000 < 1099511627776) :
    ∃ w3 w4 w5 w6 w7 sm', exPs (R 199) turn ⟨E z v2 v3 v4 v5 v6 v7, sm⟩ = .ok .nx ⟨E z v2 w3 w4 w5 w6 w7, sm'⟩ ∧ SmOk (b + 300) sm' := by
  obtain ⟨ls, sm1, e1, l1, o1, h1⟩ := r_e_ladders (k := 199) (by decide) hs (by omega)
  obtain ⟨a, sm2, e2, a0, a1, h2⟩ := r_draws (k := 199) (by decide) (b + 200) 12 sm1 h1 (by omega) (by omega) (by omega)
  have hks : Lads (ls.filter fun p => decide (p.2 < 9)) := ⟨fun p hp => by
    have := o1 p (List.mem_filter.mp hp).1
    exact ⟨this.1, this.2.1⟩⟩
  have hst : ∀ p ∈ ls.filter fun p => decide (p.2 < 9), p.2 ≤ 8 := fun p hp => by
    have := of_decide_eq_true (List.mem_filter.mp hp).2
    omega
  have hkl : (ls.filter fun p => decide (p.2 < 9)).length ≤ 6 := Nat.le_trans (List.length_filter_le _ _) l1
  have q1 := q1_run (R := R 199) (z := z) (v2 := v2) (v3 := v3) (v4 := v4) (v5 := v5) (v6 := v6) (v7 := v7) e1 (by omega)
  generalize (ls.filter fun p => decide (p.2 < 9)) = ks at *
  have q2 := q2_run (R := R 199) (z := z) (v2 := v2) (v3 := some (.ow (ks.map ladP))) (v4 := v4) (v5 := v5) (v6 := v6) (v7 := v7) e2
  have hn1 : 9 ≤ 9 + a := by omega
  have hn2 : 9 + a ≤ 50 := by omega
  generalize 9 + a = n at *
  have hrl : (rowI ks n).length ≤ 1000 := by rw [rowI_len]; omega
  have hrn : ((rowI ks n).length : Int) = n := by rw [rowI_len]; omega
  obtain ⟨f, hf, f1, f2, f3, f4, f5⟩ := fact_few hks hst hn1
  have c3 := r_copied (B := 1000) (by decide) 2 199 (.lst (ks.map ladP)) (by decide) (lads_plD (by decide) (by omega)) sm2
  have cf := r_copied (B := 1000) (by decide) 2 199 (.lst (f.map ladP)) (by decide) (lads_plD (by decide) (by omega)) sm2
  have c5 := r_copied (B := 1000) (by decide) 1 199 (.lst ((rowI ks n).map .int)) (by decide) (ints_plD hrl) sm2
  have q3 := q3_run (R := R 199) (z := z) (v2 := v2) (v5 := v5) (v6 := v6) (v7 := v7) c3 (r_row_of (k := 199) (sm := sm2) (by decide) hks (by omega) (by omega) (n := n) (by omega))
  have sh : ∀ g : List Lad, Lads g → g.length ≤ 1000 → rowI g n = rowI ks n → R 199 13 [.lst (g.map ladP), .lst ((rowI ks n).map .int)] sm2 = .ok (.bl true) sm2 := fun g hg hl he => by
    have := r_shows (k := 199) (sm := sm2) (by decide) hg hl (row01 (ls := ks) (n := n) (by omega)) (by omega)
    rw [hrn, he, beq_self_eq_true] at this
    exact this
  have q4 := q4_run (R := R 199) (z := z) (v2 := v2) (v6 := v6) (v7 := v7) (ls := ks) (n := n) (sm := sm2) (by omega) (by omega) (fun i => r_e_had (by decide) hks (by omega)) c3 c5 (sh ks hks (by omega) rfl) (r_same (B := 1000) (by decide) 2 199 _ (by decide) (plD_lst (by show 2 ≤ 1000; decide) fun x hx => by
    simp only [List.mem_cons, List.not_mem_nil, or_false] at hx
    rcases hx with rfl | rfl
    · exact ints_plD hrl
    · rfl) sm2)
  have q5 := q5_run (R := R 199) (z := z) (v2 := v2) (v3 := some (.sh (.lst (ks.map ladP)))) (v4 := some (.sh (.int n))) (v6 := v6) (v7 := v7) c5 (r_fewest (k := 199) (sm := sm2) (by decide) hks hst hn1 hn2 hf)
  have q6 := q6_run (R := R 199) (z := z) (v2 := v2) (v4 := some (.sh (.int n))) (v5 := some (.sh (.lst ((rowI ks n).map .int)))) (v7 := v7) (k := f.length) (r_unlike (k := 199) (sm := sm2) (by decide) (ls := ks) (by omega)) (by rw [List.length_map]; exact f1)
  have ht := r_told (k := 199) (sm := sm2) (by decide) hks hst hn1 hn2
  rw [hf] at ht
  have q7 := q7_run (R := R 199) (z := z) (v2 := v2) (v3 := some (.sh (.lst (ks.map ladP)))) (v4 := some (.sh (.int n))) (v6 := some (.sh (.int (f.length : Nat)))) (v7 := v7) c5 ht
  have q8 := q8_run (R := R 199) (z := z) (v2 := v2) (v3 := some (.sh (.lst (ks.map ladP)))) (v6 := some (.sh (.int (f.length : Nat)))) (sm := sm2) (ls := f) (n := n) (by omega) (by omega) (fun i => r_e_had (by decide) f3 (by omega)) f5
  have q9 := q9_run (R := R 199) (z := z) (v2 := v2) (v3 := some (.sh (.lst (ks.map ladP)))) (v4 := some (.sh (.int n))) cf c5 (sh f f3 (by omega) f5)
  rw [List.length_map] at q9
  have ha := r_all (k := 199) (sm := sm2) (by decide) hks hst (by omega)
  have q10 : ∃ e, exP (R 199) q10 ⟨E z v2 (some (.sh (.lst (ks.map ladP)))) (some (.sh (.int n))) (some (.sh (.lst ((rowI ks n).map .int)))) (some (.sh (.int (f.length : Nat)))) (some (.sh (.tup [.str "told", .lst (f.map ladP)]))), sm2⟩ = .ok .nx e ∧ e = ⟨E z v2 (some (.sh (.lst (ks.map ladP)))) (some (.sh (.int n))) (some (.sh (.lst ((rowI ks n).map .int)))) (some (.sh (.int (f.length : Nat)))) (some (.sh (.tup [.str "told", .lst (f.map ladP)]))), sm2⟩ := by
    cases ho : (missedI ks 0 (rndL ks)).isNone with
    | false => exact ⟨_, q10_no c3 ha ho, rfl⟩
    | true =>
      have := fact_one hks hst hn1 (by omega) hf ho
      rw [this]
      exact ⟨_, q10_yes c3 ha ho, rfl⟩
  obtain ⟨_, q10, rfl⟩ := q10
  refine ⟨some (.sh (.lst (ks.map ladP))), some (.sh (.int n)), some (.sh (.lst ((rowI ks n).map .int))), some (.sh (.int (f.length : Nat))), some (.sh (.tup [.str "told", .lst (f.map ladP)])), sm2, ?_, h2.le (by omega)⟩
  rw [xs_nx q1, xs_nx q2, xs_nx q3, xs_nx q4, xs_nx q5, xs_nx q6, xs_nx q7]
  rw [show keptD (some f) = .lst (f.map ladP) from rfl]
  rw [xs_nx q8, xs_nx q9, xs_nx q10]
  rfl
theorem s2_for {z : D} : ∀ (xs : List Int) (b : Int) (v2 v3 v4 v5 v6 v7 : Option PV) (sm : Sst), SmOk b sm → b + 10000 * xs.length < 1099511627776 →
    ∃ w2 w3 w4 w5 w6 w7 sm', forW (R 199) (.nm 2) turn (xs.map fun i => .one (.int i)) ⟨E z v2 v3 v4 v5 v6 v7, sm⟩ = .ok .nx ⟨E z w2 w3 w4 w5 w6 w7, sm'⟩
  | [], b, v2, v3, v4, v5, v6, v7, sm, _, _ => ⟨v2, v3, v4, v5, v6, v7, sm, rfl⟩
  | x :: r, b, v2, v3, v4, v5, v6, v7, sm, hs, hb => by
    rw [List.length_cons] at hb
    obtain ⟨w3, w4, w5, w6, w7, sm', e, hs'⟩ := turn_run (z := z) (v2 := some (.sh (.int x))) (v3 := v3) (v4 := v4) (v5 := v5) (v6 := v6) (v7 := v7) hs (by omega)
    obtain ⟨u2, u3, u4, u5, u6, u7, sm2, e2⟩ := s2_for (z := z) r (b + 300) (some (.sh (.int x))) w3 w4 w5 w6 w7 sm' hs' (by omega)
    refine ⟨u2, u3, u4, u5, u6, u7, sm2, ?_⟩
    rw [List.map_cons]
    exact (forW_nx (env' := E z (some (.sh (.int x))) v3 v4 v5 v6 v7) rfl (.inl e)).trans e2
theorem ones3 {sm : Sst} : R 199 20 [.lst [.int 1, .int 1, .int 1], .int 3] sm = .ok (.int 1) sm := by
  have hw : R 196 14 [.lst ([1, 1, 1].map .int), .int 3] sm = .ok (.lst ((withinI [1, 1, 1] 3).map ladP)) sm := r_within_by (by decide) (by decide) (by decide) (by decide)
  have hp : ∀ p ∈ withinI [1, 1, 1] 3, 0 < p.2 := fun p hp => by have := mem_withinI.mp hp; omega
  have hl : (withinI [1, 1, 1] 3).length ≤ 1000 := by
    unfold withinI
    rw [(sortK_perm _ _).length_eq]
    decide +kernel
  have hb : R 197 18 [.lst ([1, 1, 1].map .int), .int 3] sm = .ok .non sm := by
    refine (runP_at (k := 196) (by decide) (by decide) t18 ⟨rfl, by decide⟩).trans (l_bare_place (q := rowI (withinI [1, 1, 1] 3) 3) hw (r_row_by (by decide) hp (by omega) (by decide) (by decide)) (by decide) (by rw [rowI_len]; rfl) fun i v w hv hv0 hw hw0 => ?_)
    have hi : i < 3 := (List.getElem?_eq_some_iff.mp hv).1
    rw [rowI_at (by omega)] at hw
    have e2 := Option.some.inj hw
    have : hadB (withinI [1, 1, 1] 3) i = true := List.any_eq_true.mpr ⟨(0, 1), mem_withinI.mpr ⟨by decide, by decide, by decide +kernel⟩, by
      show ((i : Int) - 0) % 1 == 0
      rw [Int.emod_one]
      rfl⟩
    rw [this, if_pos rfl] at e2
    omega
  have hf : fewI (onesI [1, 1, 1]) (withinI [1, 1, 1] 3) = some [(0, 1)] := by decide +kernel
  have ho : onesI [1, 1, 1] = [0, 1, 2] := by decide +kernel
  have he : R 197 17 [.lst ([1, 1, 1].map .int), .int 3, .bl false] sm = .ok (keptD (fewI (onesI [1, 1, 1]) (withinI [1, 1, 1] 3))) sm := by
    refine (runP_at (k := 196) (by decide) (by decide) t17 ⟨rfl, by decide⟩).trans (l_fewest_by hw (by decide) fun i hi => ?_)
    have hi : i ≤ 3 := by rw [ho] at hi; exact hi
    exact r_shown_by i 196 _ _ sm (by omega) (by omega) (by rw [ho]; decide) hp
  rw [hf] at he
  have ht : R 198 19 [.lst ([1, 1, 1].map .int), .int 3] sm = .ok (.tup [.str "told", .lst [ladP (0, 1)]]) sm := (runP_at (k := 197) (by decide) (by decide) t19 ⟨rfl, by decide⟩).trans (l_told_or_place (r_need_shown (by decide) ⟨by decide, by decide⟩ (by decide)) (r_need_most (by decide) (by decide)) hb he)
  exact (runP_at (k := 198) (by decide) (by decide) t20 ⟨rfl, by decide⟩).trans (l_fewest_ladders ht)
def lastD : D := .lst [.lst [.int 1, .int 0, .int 1, .int 1, .int 1, .int 0], .int 1]
theorem s3_run {z : D} {v2 v3 v4 v5 v6 v7 : Option PV} {sm : Sst} : ∃ s', exPs (R 199) (.cons s3 .nil) ⟨E z v2 v3 v4 v5 v6 v7, sm⟩ = .ok (.rt (.bl true)) s' := by
  have c1 : R 199 12 [.lst [.tup [.int 0, .int 2], .tup [.int 0, .int 3]], .int 6] sm = .ok (.lst [.int 1, .int 0, .int 1, .int 1, .int 1, .int 0]) sm := by
    have := r_row_of (k := 199) (sm := sm) (ls := [(0, 2), (0, 3)]) (n := 6) (by decide) ⟨by decide⟩ (by decide) (by decide) (by decide)
    have e : rowI [(0, 2), (0, 3)] 6 = [1, 0, 1, 1, 1, 0] := by decide +kernel
    rw [e] at this
    exact this
  have c2 := ones3 (sm := sm)
  have c3 : R 199 29 [lastD, lastD] sm = .ok (.bl true) sm := r_same (B := 10) (by decide) 2 199 _ (by decide) (by decide +kernel) sm
  unfold lastD at c3
  generalize R 199 = W at *
  refine ⟨⟨E z v2 v3 v4 v5 v6 v7, sm⟩, ?_⟩
  walk_at "ev"
theorem plain (ns : List Int) (h : ns.length ≤ 63) : ∃ sm, runP Q T 200 36 [.scr ns] none = .ok (.bl true) sm := by
  have e1 : exP (R 199) s1 ⟨[some (.sh (.scr ns)), none, none, none, none, none, none, none, none, none, none], none⟩ = .ok .nx ⟨E (.scr ns) none none none none none none, some (ns, 0, 0, 17)⟩ := by
    have e0 : R 199 25 [.scr ns] none = .ok .stm (some (ns, 0, 0, 17)) := strm_run (Q := Q)
    generalize R 199 = W at *
    generalize (some (ns, 0, 0, 17) : Sst) = S at *
    walk_at "ev"
  obtain ⟨w2, w3, w4, w5, w6, w7, sm', e3⟩ := s2_for (z := .scr ns) (rgI 0 8) 0 none none none none none none (some (ns, 0, 0, 17)) (sm_start h) (by decide)
  have e4 : exP (R 199) s2 ⟨E (.scr ns) none none none none none none, some (ns, 0, 0, 17)⟩ = .ok .nx ⟨E (.scr ns) w2 w3 w4 w5 w6 w7, sm'⟩ := by
    have hr := rngP_ok (a := 0) (b := 8) (by omega) (by omega) (by omega) (by omega)
    rw [x_for]
    have ew : evW (R 199) (fun i => occT i (.nm 2) || occSs i turn) (.rng1 (.int 8)) ⟨E (.scr ns) none none none none none none, some (ns, 0, 0, 17)⟩ = .ok ((rgI 0 8).map fun i => .one (.int i)) ⟨E (.scr ns) none none none none none none, some (ns, 0, 0, 17)⟩ := by
      clear e1 e3
      generalize ((rgI 0 8).map fun i => PIv.one (.int i)) = I at *
      walk_at "ev"
    unfold tryP
    rw [ew]
    exact e3
  obtain ⟨s', e5⟩ := s3_run (z := .scr ns) (v2 := w2) (v3 := w3) (v4 := w4) (v5 := w5) (v6 := w6) (v7 := w7) (sm := sm')
  refine ⟨s'.sm, ?_⟩
  rw [runP_at (F := f_law) (by decide) (by decide) t36 ⟨rfl, by decide⟩]
  have he : envP f_law [.scr ns] = [some (.sh (.scr ns)), none, none, none, none, none, none, none, none, none, none] := rfl
  rw [he, body_eq, xs_nx e1, xs_nx e4, e5]
  rfl
end K83
end
set_option Elab.async false
set_option linter.all false
set_option maxRecDepth 100000
set_option maxHeartbeats 0
namespace K83
open PySem PySem.Spec PyProof.Rows L2 Ih
def lawN : Nat := 36
def looseN : List Str := "is_list" :: "is_whole" :: "is_number" :: "is_row" :: "StepError" :: "BadLadders" :: "BadCount" :: "greatest" :: "kept_ladder" :: "kept_ladders" :: "need_ladders" :: "has" :: "round_by" :: "BadRow" :: "BadMost" :: "need_shown" :: "row_by" :: "row_of" :: "shows" :: "within_by" :: "need_most" :: "shown_by" :: "fewest_by" :: "bare_place" :: "told_or_place" :: "fewest_ladders" :: "missed_from" :: "told_missed" :: "first_missed" :: "all_or_missed" :: "_law_stream" :: "_law_draw" :: "_law_pick" :: "_law_mixed" :: "_law_same" :: "_law_copied" :: "_law_unlike" :: "_law_e_has" :: "_law_e_had" :: "_law_e_split" :: "_law_e_ladders" :: []
abbrev fa : List He.Fa := faOf ds blt
abbrev fn : List He.DefD := ds.map Df.dd
abbrev Rw : PySem.W.OpenRow := PySem.W.OpenLaw.row PySem.Challenge.rw_stepcovers_k83_whole_told_back_by_all
abbrev hk : PySem.W.Hook := He.hookD 4 fa fn
def ob (s : PySem.W.SharedT) : He.AlD := He.obsDG 4 fa fn (HandSHeadRun.getT s)
theorem ob_eq (s : PySem.W.SharedT) : ob s = hk.obs s.abs := He.obsDG_eq (HandSHeadRun.getT_eq s)
theorem run (w : World) : HandSHeadRun.RunEq Rw (PySem.W.view Rw.prog [48]) hk ob 8000 looseN w := by
  intro os
  kernel_rfl
def dLaw : Df := (ds[lawN]?).getD ⟨"", "", ⟨[], [], none, [], [], none, []⟩, [], ⟨.function, [], false, false, []⟩, ""⟩
theorem d_law : ds[lawN]? = some dLaw := by rfl
theorem d_ok : dLaw.okB = true := by rfl
theorem d_ps : dLaw.ps = [("script" : Str)] := by rfl
theorem d_x : dLaw.y = ("law" : Str) := by rfl
end K83
open PySem PySem.W PySem.Calls PyProof.Rows
theorem PySem.Challenge.cw_stepcovers_k83_whole_told_back_by_all_holds : PySem.Challenge.rw_stepcovers_k83_whole_told_back_by_all.Holds := by
  w_on; o_law
  refine HandSHeadRun.head_any (r := OpenLaw.row PySem.Challenge.rw_stepcovers_k83_whole_told_back_by_all) (q := view (OpenLaw.row PySem.Challenge.rw_stepcovers_k83_whole_told_back_by_all).prog [48]) (H := K83.hk) (ob := K83.ob) (M := 8000) (loose := K83.looseN) (d := HandSHeadRun.topDef (OpenLaw.row PySem.Challenge.rw_stepcovers_k83_whole_told_back_by_all).prog 48) (kwd := []) K83.ob_eq
    (by kernel_rfl) (fun s => by kernel_rfl) K83.run (by kernel_rfl) (by kernel_rfl) (by kernel_rfl) (by rfl) (by first | assumption | decide +kernel) (by decide +kernel) ⟨rfl, rfl, rfl, rfl, rfl, by decide +kernel⟩ ?hw ?hc
  case hw => w_witness2
  case hc =>
    refine L2.walk_ofE (l := PySem.Challenge.rw_stepcovers_k83_whole_told_back_by_all) (n := 63) (k := 200) (x := "script") (CX := L2.CX0) rfl (by decide) (by kernel_rfl) ⟨rfl, by decide, by decide⟩ ?F (fun _ _ _ _ z => z)
    intro w mg fa h Y G hmg0
    obtain ⟨K, KX, c⟩ := Y
    have hmg : mg K83.dLaw.y = some (.ref fa) := by
      have e : (HandSHeadRun.topDef (OpenLaw.row PySem.Challenge.rw_stepcovers_k83_whole_told_back_by_all).prog 48).name = K83.dLaw.y := by kernel_rfl
      rw [← e]
      exact hmg0
    exact Ih.law_end (k := 200) (n := K83.lawN) (Q := K83.Q) KX G c K83.d_law K83.d_ok K83.d_ps hmg K83.t25 K83.t26 K83.plain
