import PyProof.Rows.All
import Wide.All
import OpenK.AllK
import Wide.FinOn
import KE.KStateDown
import KE.SortData
import KE.KDictDisplayH
import KE.KDictPairs
import HandS.ForMost
import HandS.More
import HandS.Defaults
import HandS.Conv
import HandS.Style
import HandS.TupAny
import HandS.IsInst
import HandS.StrMore
import HandS.Deep
import HandS.Zip
import HandS.Star
import HandS.Sort
import KE.KDictCopyH
import KE.KDictSum
import PyProof.ListStr
import HandS.Ends
import HandS.HeadEnd
import KE.GoesMore
import HandS.Head0
import HandS.Head1
import HandS.Head2
import HandS.HeadHook1
import HandS.HeadHook2
import PySem.Challenge.RW_onestrokeatatime_k00_whole_one_least_ker
set_option Elab.async false
set_option linter.all false
set_option maxRecDepth 100000
set_option maxHeartbeats 4000000
/-! PL1: a small language of values for the programs' defs (terms over slots), and what its terms come to. -/
namespace PL
open PySem PySem.Spec PyProof.Rows L2

abbrev Da := PyData
def LIM : Nat := 1000000
/-- what a list or a dict that may change holds -/
inductive Ob where
  | L (ds : List Da) | K (kvs : List (Key × Da)) | T (kvs : List (List Key × Da))
/-- what a slot holds: a value that never changes, or an object of the def's own (or handed in to be changed) -/
inductive SV where
  | val (d : Da) | own (o : Ob)
abbrev En := List (Option SV)
/-- what an expression comes to: a value, a new object, the object of a slot -/
inductive RV where
  | val (d : Da) | fr (o : Ob) | bo (i : Nat) (o : Ob)
def RV.dat : RV → Option Da
  | .val d => some d
  | .fr (.L ds) => some (.list ds)
  | .bo _ (.L ds) => some (.list ds)
  | _ => none
/-- put into a container, handed to a def that does not change it -/
def RV.frz : RV → Option Da
  | .val d => some d
  | .fr (.L ds) => some (.list ds)
  | _ => none
def RV.ob : RV → Option Ob
  | .fr o => some o
  | .bo _ o => some o
  | _ => none
mutual
def noList : Da → Bool
  | .list _ => false
  | .dict _ => false
  | .tuple xs => noLists xs
  | .none => true
  | .bool _ => true
  | .int _ => true
  | .str _ => true
def noLists : List Da → Bool
  | [] => true
  | x :: xs => noList x && noLists xs
end
open Classical in
/-- a guard -/
noncomputable def gd (p : Prop) : Option Unit := if p then some () else none
theorem gd_pos {p : Prop} (h : p) : gd p = some () := if_pos h
theorem gd_some {p : Prop} {u : Unit} (h : gd p = some u) : p := by
  unfold gd at h
  split at h
  · assumption
  · cases h

/-! ### keys and dicts -/
def keyD : Da → Option Key
  | .int i => some (.inl i)
  | .str s => some (.inr s)
  | _ => none
def keysD : List Da → Option (List Key)
  | [] => some []
  | d :: ds => (keyD d).bind fun k => (keysD ds).map fun ks => k :: ks
def dOfKey : Key → Da
  | .inl i => .int i
  | .inr s => .str s
section
variable {κ : Type} [DecidableEq κ]
def look (kvs : List (κ × Da)) (k : κ) : Option Da := (kvs.find? fun kv => decide (kv.1 = k)).map (·.2)
def has (kvs : List (κ × Da)) (k : κ) : Bool := (look kvs k).isSome
def put (kvs : List (κ × Da)) (k : κ) (v : Da) : List (κ × Da) :=
  if has kvs k then kvs.map fun kv => if kv.1 = k then (kv.1, v) else kv else kvs ++ [(k, v)]
def puts (kvs more : List (κ × Da)) : List (κ × Da) := more.foldl (fun acc kv => put acc kv.1 kv.2) kvs
end

/-! ### operators -/
def cutD {α : Type} (xs : List α) (lo hi : Option Int) : List α := (xs.drop (HT.sIx xs.length 0 lo)).take (HT.sIx xs.length xs.length hi - HT.sIx xs.length 0 lo)
def strOf (l : List Nat) : Str := ⟨l.toArray⟩
def chars (s : Str) : List Da := s.cps.toList.map fun c => .str ⟨#[c]⟩
inductive Cm where
  | lt | le | gt | ge
noncomputable def opBin (op : Operator) (a b : RV) : Option RV :=
  match op, a, b with
  | .Add, .val (.int i), .val (.int j) => some (.val (.int (i + j)))
  | .Add, .val (.str x), .val (.str y) => (gd (x.length + y.length ≤ LIM)).map fun _ => .val (.str (x ++ y))
  | .Add, .val (.tuple xs), .val (.tuple ys) => (gd (xs.length + ys.length ≤ LIM)).map fun _ => .val (.tuple (xs ++ ys))
  | .Add, .fr (.L xs), .fr (.L ys) => (gd (xs.length + ys.length ≤ LIM)).map fun _ => .fr (.L (xs ++ ys))
  | .Add, .bo _ (.L xs), .fr (.L ys) => (gd (xs.length + ys.length ≤ LIM)).map fun _ => .fr (.L (xs ++ ys))
  | .Add, .fr (.L xs), .bo _ (.L ys) => (gd (xs.length + ys.length ≤ LIM)).map fun _ => .fr (.L (xs ++ ys))
  | .Add, .bo _ (.L xs), .bo _ (.L ys) => (gd (xs.length + ys.length ≤ LIM)).map fun _ => .fr (.L (xs ++ ys))
  | .Sub, .val (.int i), .val (.int j) => some (.val (.int (i - j)))
  | .Mult, .val (.int i), .val (.int j) => (gd ((-(2 ^ 64) < i ∧ i < 2 ^ 64) ∨ (-(2 ^ 64) < j ∧ j < 2 ^ 64))).map fun _ => .val (.int (i * j))
  | .Mult, .val (.str x), .val (.int j) => (gd (0 ≤ j ∧ x.length * j.toNat ≤ LIM ∧ j ≤ LIM)).map fun _ => .val (.str (strOf (List.replicate j.toNat x.cps.toList).flatten))
  | .Mult, .fr (.L xs), .val (.int j) => (gd (-(2 ^ 63) ≤ j ∧ j < 2 ^ 63 ∧ xs.length * j.toNat ≤ LIM)).map fun _ => .fr (.L (List.replicate j.toNat xs).flatten)
  | .FloorDiv, .val (.int i), .val (.int j) => (gd (0 < j ∧ j < 1073741824)).map fun _ => .val (.int (i / j))
  | .Mod, .val (.int i), .val (.int j) => (gd (0 < j)).map fun _ => .val (.int (i % j))
  | .Pow, .val (.int i), .val (.int j) => (gd (0 ≤ j ∧ (Builtin.Int.intBits i : Int) * j ≤ 2 ^ 27)).map fun _ => .val (.int (i ^ j.toNat))
  | _, _, _ => none
/-- two data can be asked for == -/
def eqOk (a b : Da) : Prop := a.canLay0 = true ∧ b.canLay0 = true ∧ a.depth ≤ 64 ∧ b.depth ≤ 64
noncomputable def opEq (a b : Da) : Option Bool :=
  match a, b with
  | .int i, .int j => some (decide (i = j))
  | .str x, .str y => some (decide (x = y))
  | .bool x, .bool y => some (decide (x = y))
  | a, b => (gd (eqOk a b)).map fun _ => PyData.eqv a b
noncomputable def opCmp (op : CmpOp) (a b : RV) : Option Bool :=
  match op with
  | .Eq => a.dat.bind fun x => b.dat.bind fun y => opEq x y
  | .NotEq => a.dat.bind fun x => b.dat.bind fun y => (opEq x y).map (!·)
  | .Lt => match a, b with
    | .val (.int i), .val (.int j) => some (decide (i < j))
    | .val (.str x), .val (.str y) => some (decide (x.cps.toList < y.cps.toList))
    | .val (.tuple x), .val (.tuple y) => (gd (PySem.W.alike (.tuple x) (.tuple y) = true ∧ (PyData.tuple x).depth ≤ 64)).map fun _ => PySem.W.dataLt (.tuple x) (.tuple y)
    | _, _ => none
  | .LtE => match a, b with
    | .val (.int i), .val (.int j) => some (decide (i ≤ j))
    | _, _ => none
  | .Gt => match a, b with
    | .val (.int i), .val (.int j) => some (decide (j < i))
    | _, _ => none
  | .GtE => match a, b with
    | .val (.int i), .val (.int j) => some (decide (j ≤ i))
    | _, _ => none
  | .Is => match a, b with
    | .val (.bool x), .val (.bool y) => some (decide (x = y))
    | .val .none, .val .none => some true
    | .val (.int _), .val .none => some false
    | .val (.str _), .val .none => some false
    | .val (.tuple _), .val .none => some false
    | _, _ => none
  | .IsNot => match a, b with
    | .val (.bool x), .val (.bool y) => some (!decide (x = y))
    | .val .none, .val .none => some false
    | .val (.int _), .val .none => some true
    | .val (.str _), .val .none => some true
    | .val (.tuple _), .val .none => some true
    | _, _ => none
  | .In => opIn a b
  | .NotIn => (opIn a b).map (!·)
where
  opIn (a b : RV) : Option Bool := match a, b with
    | .val (.str x), .val (.str z) => match x.cps.toList with
      | [c] => some (decide (c ∈ z.cps.toList))
      | _ => none
    | .val d, .val (.tuple xs) => (gd (eqOk d (.tuple xs))).map fun _ => xs.any fun z => PyData.eqv z d
    | .val d, .val (.list xs) => (gd (eqOk d (.list xs))).map fun _ => xs.any fun z => PyData.eqv z d
    | .val d, .fr (.L xs) => (gd (eqOk d (.list xs))).map fun _ => xs.any fun z => PyData.eqv z d
    | .val d, .bo _ (.L xs) => (gd (eqOk d (.list xs))).map fun _ => xs.any fun z => PyData.eqv z d
    | .val d, .bo _ (.K kvs) => (keyD d).map fun k => has kvs k
    | .val (.tuple ds), .bo _ (.T kvs) => (keysD ds).map fun k => has kvs k
    | _, _ => none
def atD {α : Type} (xs : List α) (i : Int) : Option α := atI xs i
def opIdx (a b : RV) : Option Da :=
  match a, b with
  | .bo _ (.K kvs), .val d => (keyD d).bind fun k => look kvs k
  | .bo _ (.T kvs), .val (.tuple ds) => (keysD ds).bind fun k => look kvs k
  | a, .val (.int i) => match a.dat with
    | some (.list xs) => atI xs i
    | some (.tuple xs) => atI xs i
    | _ => none
  | _, _ => none
noncomputable def opSlc (a : RV) (lo hi : Option Int) : Option RV :=
  match a.dat with
  | some (.list xs) => some (.fr (.L (cutD xs lo hi)))
  | some (.tuple xs) => some (.val (.tuple (cutD xs lo hi)))
  | some (.str z) => (gd (z.length ≤ LIM)).map fun _ => .val (.str (strOf (cutD z.cps.toList lo hi)))
  | _ => none
noncomputable def opRev (a : RV) : Option RV :=
  match a.dat with
  | some (.str z) => (gd (z.length ≤ LIM)).map fun _ => .val (.str (strOf z.cps.toList.reverse))
  | some (.list xs) => some (.fr (.L xs.reverse))
  | _ => none

/-! ### built-ins -/
inductive B where
  | len | all | any | sum | max | min | sorted | tuple | list | dict | int | abs | repr
def boolsD : List Da → Option (List Bool)
  | [] => some []
  | .bool b :: ds => (boolsD ds).map (b :: ·)
  | _ => none
def intsD : List Da → Option (List Int)
  | [] => some []
  | .int b :: ds => (intsD ds).map (b :: ·)
  | _ => none
def strsD : List Da → Option (List Str)
  | [] => some []
  | .str b :: ds => (strsD ds).map (b :: ·)
  | _ => none
def pairsK : List Da → Option (List (Key × Da))
  | [] => some []
  | .tuple [k, v] :: ds => (keyD k).bind fun k => (pairsK ds).map ((k, v) :: ·)
  | _ => none
def pairsT : List Da → Option (List (List Key × Da))
  | [] => some []
  | .tuple [.tuple ks, v] :: ds => (keysD ks).bind fun k => (pairsT ds).map ((k, v) :: ·)
  | _ => none
def sortOk (ds : List Da) : Prop := PySem.W.AllAlike ds ∧ PySem.W.Sortable ds ∧ ds.length ≤ LIM ∧ ∀ d ∈ ds, d.depth ≤ 64
noncomputable def sortD (ds : List Da) : List Da := ds.mergeSort (PySem.W.dataLe false id)
/-- a tuple's repr fits -/
def shOk (xs : List Da) : Prop := (PyData.tuple xs).showable = true ∧ (PyData.tuple xs).hasDict = false ∧ (PyData.tuple xs).shown.length ≤ LIM ∧ (PyData.tuple xs).depth ≤ 60
noncomputable def bcall (b : B) (rs : List RV) : Option RV :=
  match b, rs with
  | .len, [r] => match r with
    | .val (.str x) => (gd (x.length ≤ LIM)).map fun _ => .val (.int x.length)
    | .bo _ (.K kvs) => some (.val (.int kvs.length))
    | r => match r.dat with
      | some (.list xs) => some (.val (.int xs.length))
      | some (.tuple xs) => some (.val (.int xs.length))
      | _ => none
  | .all, [r] => match r.dat with
    | some (.list xs) => (boolsD xs).map fun bs => .val (.bool (bs.all id))
    | _ => none
  | .any, [r] => match r.dat with
    | some (.list xs) => (boolsD xs).map fun bs => .val (.bool (bs.any id))
    | _ => none
  | .sum, [r] => match r.dat with
    | some (.list xs) => (intsD xs).map fun is => .val (.int is.sum)
    | _ => none
  | .max, [.val (.int i), .val (.int j)] => some (.val (.int (if j > i then j else i)))
  | .min, [.val (.int i), .val (.int j)] => some (.val (.int (if j < i then j else i)))
  | .sorted, [r] => match r with
    | .fr (.K kvs) => (gd (sortOk (kvs.map fun kv => dOfKey kv.1))).map fun _ => .fr (.L (sortD (kvs.map fun kv => dOfKey kv.1)))
    | .fr (.T kvs) => (gd (sortOk (kvs.map fun kv => .tuple (kv.1.map dOfKey)))).map fun _ => .fr (.L (sortD (kvs.map fun kv => .tuple (kv.1.map dOfKey))))
    | r => match r.dat with
      | some (.list xs) => (gd (sortOk xs)).map fun _ => .fr (.L (sortD xs))
      | _ => none
  | .tuple, [r] => match r.dat with
    | some (.list xs) => some (.val (.tuple xs))
    | some (.tuple xs) => some (.val (.tuple xs))
    | _ => none
  | .list, [r] => match r with
    | .bo _ (.T kvs) => some (.fr (.L (kvs.map fun kv => .tuple (kv.1.map dOfKey))))
    | r => match r.dat with
      | some (.list xs) => some (.fr (.L xs))
      | some (.tuple xs) => some (.fr (.L xs))
      | some (.str x) => (gd (x.length ≤ LIM)).map fun _ => .fr (.L (chars x))
      | _ => none
  | .dict, [r] => match r.dat with
    | some (.list xs) => match xs with
      | .tuple [.tuple _, _] :: _ => (pairsT xs).bind fun ps => (gd (ps.length ≤ LIM)).map fun _ => .fr (.T (puts [] ps))
      | _ => (pairsK xs).bind fun ps => (gd (ps.length ≤ LIM)).map fun _ => .fr (.K (puts [] ps))
    | _ => none
  | .int, [.val (.int i)] => some (.val (.int i))
  | .int, [.val (.bool k)] => some (.val (.int (if k then 1 else 0)))
  | .abs, [.val (.int i)] => some (.val (.int (if i < 0 then -i else i)))
  | .repr, [.val (.bool k)] => some (.val (.str (if k then ("True" : Str) else ("False" : Str))))
  | .repr, [.val (.tuple xs)] => (gd (shOk xs)).map fun _ => .val (.str (PyData.tuple xs).shown)
  | _, _ => none
inductive Ty where
  | int | bool | tuple | str
def opIsi (T : Ty) (r : RV) : Option Bool :=
  match r with
  | .val .none => some false
  | .val (.bool _) => some (match T with | .int => true | .bool => true | _ => false)
  | .val (.int _) => some (match T with | .int => true | _ => false)
  | .val (.str _) => some (match T with | .str => true | _ => false)
  | .val (.tuple _) => some (match T with | .tuple => true | _ => false)
  | _ => none
/-- methods that change nothing -/
inductive Mt where
  | join | starts2 | index | starts1
noncomputable def mcall (m : Mt) (a : RV) (rs : List RV) : Option RV :=
  match m, a, rs with
  | .join, .val (.str z), [r] => match r.dat with
    | some (.list xs) => (strsD xs).bind fun ss => (gd (z.length = 0 ∧ (ss.map (·.length)).sum ≤ LIM)).map fun _ => .val (.str (strOf (ss.flatMap fun s => s.cps.toList)))
    | _ => none
  | .starts2, .val (.str x), [.val (.str y), .val (.int i)] => (gd (0 ≤ i)).map fun _ => .val (.bool (decide (i + y.length ≤ x.length ∧ (x.cps.toList.drop i.toNat).take y.length = y.cps.toList)))
  | .starts1, .val (.str x), [.val (.str y)] => some (.val (.bool (decide (x.cps.toList.take y.length = y.cps.toList))))
  | .index, a, [.val d] => match a.dat with
    | some (.list xs) => (gd (eqOk d (.list xs))).bind fun _ => (xs.findIdx? fun z => PyData.eqv z d).map fun (j : Nat) => .val (.int j)
    | _ => none
  | _, _, _ => none

def mtOk (m : Mt) (r : RV) : Prop := match m with
  | .index => ∃ ds, r.dat = some (.list ds)
  | _ => ∃ z, r = .val (.str z)
/-! ### terms -/
mutual
inductive Tg where
  | nm (i : Nat) | tp (ts : Tgs)
inductive Tgs where
  | nil | cons (t : Tg) (ts : Tgs)
end
mutual
inductive E where
  | var (i : Nat)
  | cst (d : Da)
  | glb (x : Str) (d : Da)
  | tup (es : Es)
  | lst (es : Es)
  | bin (op : Operator) (a b : E)
  | neg (a : E)
  | inv (a : E)
  | cmp (op : CmpOp) (a b : E)
  | chn (op op' : CmpOp) (a b c : E)
  | and (a b : E)
  | or (a b : E)
  | ite (c a b : E)
  | idx (a b : E)
  | slc (a : E) (lo hi : Oe)
  | rev (a : E)
  | call (f : Nat) (es : Es) (io : List (Option Nat))
  | bc (b : B) (es : Es)
  | isi (T : Ty) (a : E)
  | lrg (a : E)
  | mth (m : Mt) (a : E) (es : Es)
  | pop (i : Nat) (a : E)
  | comp (elt : E) (tg : Tg) (it : It) (cs : Oe) (own : List (Str × Nat))
  | dK
  | dT1 (k v : E)
inductive Es where
  | nil | cons (e : E) (es : Es) | star (e : E) (es : Es)
inductive Oe where
  | no | yes (e : E)
inductive It where
  | rng1 (a : E) | rng2 (a b : E) | vals (a : E) | zip (a b : E) | enu (a : E)
end
mutual
inductive S where
  | asg (t : Tg) (e : E)
  | par (is : List Nat) (es : Es)
  | set (i : Nat) (k v : E)
  | exp (e : E)
  | app (i : Nat) (e : E)
  | ite (c : E) (a b : Ss)
  | for (t : Tg) (it : It) (b : Ss)
  | whl (c : E) (b : Ss)
  | ret (e : E)
  | retN
  | brk
  | cnt
  | pas
  | nev
inductive Ss where
  | nil | cons (s : S) (ss : Ss)
end

/-! ### the slots that a statement sets -/
mutual
def asgT : Tg → List Nat
  | .nm i => [i]
  | .tp ts => asgTs ts
def asgTs : Tgs → List Nat
  | .nil => []
  | .cons t ts => asgT t ++ asgTs ts
end
mutual
def asgS : S → List Nat
  | .asg t _ => asgT t
  | .par is _ => is
  | .ite _ a b => asgSs a ++ asgSs b
  | .for t _ b => asgT t ++ asgSs b
  | .whl _ b => asgSs b
  | _ => []
def asgSs : Ss → List Nat
  | .nil => []
  | .cons s ss => asgS s ++ asgSs ss
end
/-! ### what they come to -/
abbrev Cl := Nat → List SV → Option (RV × List (Option SV))
mutual
def bindT (io : List Nat) : Tg → RV → En → Option En
  | .nm i, .val d, env => if i < env.length ∧ i ∉ io then some (env.set i (some (.val d))) else none
  | .nm i, .fr o, env => if i < env.length ∧ i ∉ io then some (env.set i (some (.own o))) else none
  | .nm i, .bo j _, env => if i = j ∧ i ∉ io then some env else none
  | .tp ts, .val (.tuple ds), env => bindTs io ts ds env
  | .tp _, _, _ => none
def bindTs (io : List Nat) : Tgs → List Da → En → Option En
  | .nil, [], env => some env
  | .cons t ts, d :: ds, env => (bindT io t (.val d) env).bind fun env1 => bindTs io ts ds env1
  | _, _, _ => none
end
/-- the object of a slot, as it is by now -/
def refr (r : RV) (env : En) : Option RV :=
  match r with
  | .bo i _ => match env[i]? with
    | some (some (.own o)) => some (.bo i o)
    | _ => none
  | r => some r
def wipeD (env : En) : List Nat → En
  | [] => env
  | v :: vs => (wipeD env vs).set v none
def valAt (env : En) (v : Nat) : Option SV := match env[v]? with
  | some (some (.val d)) => some (.val d)
  | _ => none
def backD (env0 : En) (env : En) : List Nat → En
  | [] => env
  | v :: vs => (backD env0 env vs).set v (valAt env0 v)
/-- what is handed to a def: an object to be changed, or a value -/
def passA : List (Option Nat) → List RV → Option (List SV)
  | [], [] => some []
  | some i :: io, .bo j o :: rs => if i = j then (passA io rs).map (.own o :: ·) else none
  | none :: io, r :: rs => (r.dat).bind fun d => (passA io rs).map (.val d :: ·)
  | _, _ => none
/-- slots whose lists are handed in as values -/
def valSl : List (Option Nat) → List RV → List Nat
  | none :: io, .bo j _ :: rs => j :: valSl io rs
  | _ :: io, _ :: rs => valSl io rs
  | _, _ => []
def obNl : Ob → Bool
  | .L ds => noLists ds
  | .K kvs => noLists (kvs.map (·.2))
  | .T kvs => noLists (kvs.map (·.2))
/-- the objects that come back -/
def backA : List (Option Nat) → List (Option SV) → En → Option En
  | [], [], env => some env
  | some i :: io, some (.own o) :: outs, env => if obNl o = true then (backA io outs env).map fun e => e.set i (some (.own o)) else none
  | none :: io, _ :: outs, env => backA io outs env
  | _, _, _ => none
def retOk : RV → Bool
  | .val d => noList d
  | .fr o => obNl o
  | .bo _ _ => false
noncomputable def compL (own : List Nat) (bs : List Nat) (elt : Da → En → Option (Option Da × En)) : List Da → En → En → List Da → Option (List Da × En)
  | [], _, env, acc => some (acc, env)
  | d :: ds, env0, env, acc => (elt d env).bind fun p =>
      let env1 := wipeD p.2 own
      (gd (∀ j ∈ bs, env1[j]? = env0[j]?)).bind fun _ => (gd (acc.length < LIM)).bind fun _ =>
        compL own bs elt ds env0 env1 (match p.1 with | some y => acc ++ [y] | none => acc)
def intR (lo : Int) (n : Nat) : List Da := (List.range n).map fun (i : Nat) => .int (lo + i)
def enumD (ds : List Da) : List Da := (List.range ds.length).zipWith (fun (i : Nat) d => .tuple [.int i, d]) ds
def zipD (xs ys : List Da) : List Da := xs.zipWith (fun x y => .tuple [x, y]) ys
def boSl : RV → List Nat
  | .bo i _ => [i]
  | _ => []
mutual
noncomputable def ev (C : Cl) : E → En → Option (RV × En)
  | .var i, env => match env[i]? with
    | some (some (.val d)) => some (.val d, env)
    | some (some (.own o)) => some (.bo i o, env)
    | _ => none
  | .cst d, env => some (.val d, env)
  | .glb _ d, env => some (.val d, env)
  | .tup es, env => (evs C es env).bind fun p => (p.1.mapM RV.frz).bind fun ds => (gd (ds.length ≤ LIM)).map fun _ => (.val (.tuple ds), p.2)
  | .lst es, env => (evs C es env).bind fun p => (p.1.mapM RV.frz).bind fun ds => (gd (ds.length ≤ LIM)).map fun _ => (.fr (.L ds), p.2)
  | .bin op a b, env => (ev C a env).bind fun p => (ev C b p.2).bind fun q => (refr p.1 q.2).bind fun x => (opBin op x q.1).map fun r => (r, q.2)
  | .neg a, env => (ev C a env).bind fun p => match p.1 with
    | .val (.int i) => some (.val (.int (-i)), p.2)
    | _ => none
  | .inv a, env => (ev C a env).bind fun p => match p.1 with
    | .val (.bool b) => some (.val (.bool (!b)), p.2)
    | _ => none
  | .cmp op a b, env => (ev C a env).bind fun p => (ev C b p.2).bind fun q => (refr p.1 q.2).bind fun x => (opCmp op x q.1).map fun r => (.val (.bool r), q.2)
  | .chn op op' a b c, env => (ev C a env).bind fun p => (ev C b p.2).bind fun q => (refr p.1 q.2).bind fun x => (opCmp op x q.1).bind fun r =>
      if r = true then (ev C c q.2).bind fun t => (refr q.1 t.2).bind fun y => (opCmp op' y t.1).map fun r' => (.val (.bool r'), t.2) else some (.val (.bool false), q.2)
  | .and a b, env => (ev C a env).bind fun p => match p.1 with
    | .val (.bool true) => (ev C b p.2).bind fun q => match q.1 with
      | .val (.bool r) => some (.val (.bool r), q.2)
      | _ => none
    | .val (.bool false) => some (.val (.bool false), p.2)
    | _ => none
  | .or a b, env => (ev C a env).bind fun p => match p.1 with
    | .val (.bool false) => (ev C b p.2).bind fun q => match q.1 with
      | .val (.bool r) => some (.val (.bool r), q.2)
      | _ => none
    | .val (.bool true) => some (.val (.bool true), p.2)
    | _ => none
  | .ite c a b, env => (ev C c env).bind fun p => match p.1 with
    | .val (.bool true) => ev C a p.2
    | .val (.bool false) => ev C b p.2
    | _ => none
  | .idx a b, env => (ev C a env).bind fun p => (ev C b p.2).bind fun q => (refr p.1 q.2).bind fun x => (opIdx x q.1).map fun d => (.val d, q.2)
  | .slc a lo hi, env => (ev C a env).bind fun p => (evo C lo p.2).bind fun q => (evo C hi q.2).bind fun t => (refr p.1 t.2).bind fun x => (opSlc x q.1 t.1).map fun r => (r, t.2)
  | .rev a, env => (ev C a env).bind fun p => (opRev p.1).map fun r => (r, p.2)
  | .call f es io, env => (evs C es env).bind fun p => (passA io p.1).bind fun svs => (gd ((io.filterMap id).Nodup ∧ ∀ j ∈ valSl io p.1, j ∉ io.filterMap id)).bind fun _ => (C f svs).bind fun q =>
      (gd (retOk q.1 = true)).bind fun _ => (backA io q.2 p.2).map fun env' => (q.1, env')
  | .bc b es, env => (evs C es env).bind fun p => (bcall b p.1).map fun r => (r, p.2)
  | .isi T a, env => (ev C a env).bind fun p => (opIsi T p.1).map fun b => (.val (.bool b), p.2)
  | .lrg a, env => (ev C a env).bind fun p => match p.1 with
    | .val (.int n) => (gd (-(2 ^ 62) ≤ n ∧ n ≤ LIM)).map fun _ => (.fr (.L (intR 0 n.toNat)), p.2)
    | _ => none
  | .mth m a es, env => (ev C a env).bind fun p => (gd (mtOk m p.1)).bind fun _ => (evs C es p.2).bind fun q => (refr p.1 q.2).bind fun x => (mcall m x q.1).map fun r => (r, q.2)
  | .pop i a, env => match env[i]? with
    | some (some (.own (.L _))) => (ev C a env).bind fun p => match p.1, p.2[i]? with
      | .val (.int k), some (some (.own (.L ds))) => (gd (-(2 ^ 62) ≤ k ∧ k < 2 ^ 62)).bind fun _ => (ixN ds.length k).bind fun j => (ds[j]?).map fun d => (.val d, p.2.set i (some (.own (.L (ds.eraseIdx j)))))
      | _, _ => none
    | _ => none
  | .comp elt tg it cs own, env => (evi C it env).bind fun p => (gd (∀ j ∈ p.2.1, j ∉ own.map (·.2))).bind fun _ =>
      (compL (own.map (·.2)) p.2.1 (fun d e => (bindT [] tg (.val d) e).bind fun e1 => (match cs with
        | .no => some (true, e1)
        | .yes c => (ev C c e1).bind fun q => match q.1 with
          | .val (.bool b) => some (b, q.2)
          | _ => none).bind fun q => if q.1 = true then (ev C elt q.2).bind fun t => (RV.frz t.1).map fun y => (some y, t.2) else some (none, q.2))
        p.1 (wipeD p.2.2 (own.map (·.2))) (wipeD p.2.2 (own.map (·.2))) []).map fun q => (.fr (.L q.1), backD p.2.2 q.2 (own.map (·.2)))
  | .dK, env => some (.fr (.K []), env)
  | .dT1 k v, env => (ev C k env).bind fun p => (ev C v p.2).bind fun q => match p.1 with
    | .val (.tuple ds) => (keysD ds).bind fun ks => (RV.frz q.1).map fun y => (.fr (.T [(ks, y)]), q.2)
    | _ => none
noncomputable def evs (C : Cl) : Es → En → Option (List RV × En)
  | .nil, env => some ([], env)
  | .cons e es, env => (ev C e env).bind fun p => (evs C es p.2).bind fun q => (refr p.1 q.2).map fun x => (x :: q.1, q.2)
  | .star e es, env => (ev C e env).bind fun p => match p.1.dat with
    | some (.list ds) => (evs C es p.2).map fun q => (ds.map RV.val ++ q.1, q.2)
    | some (.tuple ds) => (evs C es p.2).map fun q => (ds.map RV.val ++ q.1, q.2)
    | _ => none
noncomputable def evo (C : Cl) : Oe → En → Option (Option Int × En)
  | .no, env => some (none, env)
  | .yes e, env => (ev C e env).bind fun p => match p.1 with
    | .val (.int i) => some (some i, p.2)
    | _ => none
noncomputable def evi (C : Cl) : It → En → Option (List Da × List Nat × En)
  | .rng1 a, env => (ev C a env).bind fun p => match p.1 with
    | .val (.int n) => (gd (-(2 ^ 62) ≤ n ∧ n < 2 ^ 62)).map fun _ => (intR 0 n.toNat, [], p.2)
    | _ => none
  | .rng2 a b, env => (ev C a env).bind fun p => (ev C b p.2).bind fun q => match p.1, q.1 with
    | .val (.int m), .val (.int n) => (gd (-(2 ^ 62) ≤ m ∧ m < 2 ^ 62 ∧ -(2 ^ 62) ≤ n ∧ n < 2 ^ 62)).map fun _ => (intR m (n - m).toNat, [], q.2)
    | _, _ => none
  | .vals a, env => (ev C a env).bind fun p => match p.1.dat with
    | some (.list ds) => some (ds, boSl p.1, p.2)
    | some (.tuple ds) => some (ds, [], p.2)
    | some (.str x) => some (chars x, [], p.2)
    | _ => none
  | .zip a b, env => (ev C a env).bind fun p => (ev C b p.2).bind fun q => (refr p.1 q.2).bind fun x => match x.dat, q.1.dat with
    | some (.list xs), some (.list ys) => some (zipD xs ys, boSl x ++ boSl q.1, q.2)
    | some (.tuple xs), some (.tuple ys) => some (zipD xs ys, [], q.2)
    | _, _ => none
  | .enu a, env => (ev C a env).bind fun p => match p.1.dat with
    | some (.list ds) => some (enumD ds, boSl p.1, p.2)
    | some (.tuple ds) => some (enumD ds, [], p.2)
    | _ => none
end
inductive Fl where
  | nx (e : En) | rt (r : RV) (e : En) | bk (e : En) | ct (e : En)
noncomputable def forL (bs : List Nat) (turn : Da → En → Option Fl) : List Da → En → En → Option Fl
  | [], _, env => some (.nx env)
  | d :: ds, env0, env => (turn d env).bind fun f => match f with
    | .nx e => (gd (∀ j ∈ bs, e[j]? = env0[j]?)).bind fun _ => forL bs turn ds env0 e
    | .ct e => (gd (∀ j ∈ bs, e[j]? = env0[j]?)).bind fun _ => forL bs turn ds env0 e
    | .bk e => some (.nx e)
    | .rt r e => some (.rt r e)
noncomputable def whileL (c : En → Option (Bool × En)) (turn : En → Option Fl) : Nat → En → Option Fl
  | 0, _ => none
  | n + 1, env => (c env).bind fun p => if p.1 = true then (turn p.2).bind fun f => match f with
    | .nx e => whileL c turn n e
    | .ct e => whileL c turn n e
    | .bk e => some (.nx e)
    | .rt r e => some (.rt r e)
    else some (.nx p.2)
noncomputable def evt (C : Cl) (c : E) (env : En) : Option (Bool × En) := (ev C c env).bind fun p => match p.1 with
  | .val (.bool b) => some (b, p.2)
  | _ => none
def bindP (io : List Nat) : List Nat → List RV → En → Option En
  | [], [], env => some env
  | i :: is, r :: rs, env => (bindT io (.nm i) r env).bind fun e => bindP io is rs e
  | _, _, _ => none
mutual
noncomputable def ex (C : Cl) (N : Nat) (io : List Nat) : S → En → Option Fl
  | .asg t e, env => (ev C e env).bind fun p => (bindT io t p.1 p.2).map fun e => .nx e
  | .par is es, env => (evs C es env).bind fun p => (gd (∀ r ∈ p.1, ∀ (i : Nat) (o : Ob), r ≠ .bo i o)).bind fun _ => (bindP io is p.1 p.2).map fun e => .nx e
  | .set i k v, env => (ev C v env).bind fun p => (RV.frz p.1).bind fun d => match p.2[i]? with
    | some (some (.own _)) => (ev C k p.2).bind fun q => match q.1, q.2[i]? with
      | .val (.int j), some (some (.own (.L ds))) => (ixN ds.length j).map fun n => .nx (q.2.set i (some (.own (.L (ds.set n d)))))
      | .val x, some (some (.own (.K kvs))) => (keyD x).bind fun k => (gd (kvs.length < LIM)).map fun _ => .nx (q.2.set i (some (.own (.K (put kvs k d)))))
      | .val (.tuple xs), some (some (.own (.T kvs))) => (keysD xs).bind fun k => (gd (kvs.length < LIM)).map fun _ => .nx (q.2.set i (some (.own (.T (put kvs k d)))))
      | _, _ => none
    | _ => none
  | .exp e, env => (ev C e env).map fun p => .nx p.2
  | .app i e, env => match env[i]? with
    | some (some (.own (.L _))) => (ev C e env).bind fun p => (RV.frz p.1).bind fun d => match p.2[i]? with
      | some (some (.own (.L ds))) => (gd (ds.length < LIM)).map fun _ => .nx (p.2.set i (some (.own (.L (ds ++ [d])))))
      | _ => none
    | _ => none
  | .ite c a b, env => (evt C c env).bind fun p => if p.1 = true then exs C N io a p.2 else exs C N io b p.2
  | .for t it b, env => (evi C it env).bind fun p => (gd (∀ j ∈ p.2.1, j ∉ asgT t ++ asgSs b)).bind fun _ => forL p.2.1 (fun d e => (bindT io t (.val d) e).bind fun e1 => exs C N io b e1) p.1 p.2.2 p.2.2
  | .whl c b, env => whileL (evt C c) (exs C N io b) N env
  | .ret e, env => (ev C e env).map fun p => .rt p.1 p.2
  | .retN, env => some (.rt (.val .none) env)
  | .brk, env => some (.bk env)
  | .cnt, env => some (.ct env)
  | .pas, env => some (.nx env)
  | .nev, _ => none
noncomputable def exs (C : Cl) (N : Nat) (io : List Nat) : Ss → En → Option Fl
  | .nil, env => some (.nx env)
  | .cons s ss, env => (ex C N io s env).bind fun f => match f with
    | .nx e => exs C N io ss e
    | f => some f
end
/-- a def of the table: how many slots, how many parameters, which are handed in to be changed, its body -/
structure Fn where
  slots : Nat
  pars : Nat
  io : List Nat
  body : Ss
def ownAt (svs : List SV) (i : Nat) : Bool := match svs[i]? with
  | some (.own _) => true
  | _ => false
noncomputable def retV (io : List Nat) (r : RV) : Option RV :=
  match r with
  | .bo i o => if i ∈ io then none else some (.fr o)
  | r => some r
noncomputable def finish (fn : Fn) (f : Fl) : Option (RV × List (Option SV)) :=
  match f with
  | .nx e => some (.val .none, e.take fn.pars)
  | .rt r e => (gd (∀ j ∈ fn.io, ∃ o : Ob, e[j]? = some (some (.own o)))).bind fun _ => (retV fn.io r).map fun r => (r, e.take fn.pars)
  | _ => none
noncomputable def run (F : List Fn) (N : Nat) : Nat → Cl
  | 0, _, _ => none
  | k + 1, f, svs => match F[f]? with
    | none => none
    | some fn => (gd (svs.length = fn.pars ∧ fn.pars ≤ fn.slots ∧ ∀ i, ownAt svs i = true ↔ i ∈ fn.io)).bind fun _ =>
        (exs (run F N k) N fn.io fn.body (svs.map some ++ List.replicate (fn.slots - fn.pars) none)).bind (finish fn)
end PL
set_option maxRecDepth 100000
set_option maxHeartbeats 4000000
/-! PL2: what the values, objects and slots of PL1 stand for over the abstract heap. -/
namespace PL
open PySem PySem.Spec PyProof.Rows L2

/-- the heap without some addresses -/
def Fz (O : List Addr) (H : Hp) : Hp := fun a => if a ∈ O then none else H a
theorem Fz.sub {O : List Addr} {H : Hp} : Same (Fz O H) H := fun a o h => by
  unfold Fz at h
  split at h
  · cases h
  · exact h
theorem Fz.at {O : List Addr} {H : Hp} {a : Addr} (h : a ∉ O) : Fz O H a = H a := if_neg h
theorem Fz.of {O : List Addr} {H : Hp} {a : Addr} {o : HO} (h : Fz O H a = some o) : a ∉ O ∧ H a = some o := by
  unfold Fz at h
  split at h
  · cases h
  · exact ⟨by assumption, h⟩
mutual
/-- a value that never changes stands for a datum: tuples are tracked, lists are to be read -/
inductive Dq (K : PySem.W.Frag) (G : Hp) : V → Da → Prop
  | non : Dq K G .non .none
  | bl (b : Bool) : Dq K G (.bl b) (.bool b)
  | int (i : Int) : Dq K G (.int i) (.int i)
  | str (x : Str) : Dq K G (.str x) (.str x)
  | lst {a : Addr} {xs : List V} {ds : List Da} : SqL K G a xs → DqA K G xs ds → Dq K G (.ref a) (.list ds)
  | tup {a : Addr} {xs : List V} {ds : List Da} : G a = some (.tup xs) → DqA K G xs ds → Dq K G (.ref a) (.tuple ds)
inductive DqA (K : PySem.W.Frag) (G : Hp) : List V → List Da → Prop
  | nil : DqA K G [] []
  | cons {v : V} {vs : List V} {d : Da} {ds : List Da} : Dq K G v d → DqA K G vs ds → DqA K G (v :: vs) (d :: ds)
end
section
variable {K : PySem.W.Frag} {G G' : Hp}
mutual
theorem Dq.mono (e : Same G G') : ∀ {v : V} {d : Da}, Dq K G v d → Dq K G' v d
  | _, _, .non => .non
  | _, _, .bl b => .bl b
  | _, _, .int i => .int i
  | _, _, .str x => .str x
  | _, _, .lst h t => .lst (e.seq h) (DqA.mono e t)
  | _, _, .tup h t => .tup (e _ _ h) (DqA.mono e t)
theorem DqA.mono (e : Same G G') : ∀ {vs : List V} {ds : List Da}, DqA K G vs ds → DqA K G' vs ds
  | _, _, .nil => .nil
  | _, _, .cons h t => .cons (Dq.mono e h) (DqA.mono e t)
end
mutual
theorem Dq.dp : ∀ {v : V} {d : Da}, Dq K G v d → Dp K G v d
  | _, _, .non => .non
  | _, _, .bl b => .bl b
  | _, _, .int i => .int i
  | _, _, .str x => .str x
  | _, _, .lst h t => .lst h (DqA.dp t)
  | _, _, .tup h t => .tup (.of h) (DqA.dp t)
theorem DqA.dp : ∀ {vs : List V} {ds : List Da}, DqA K G vs ds → DpAll K G vs ds
  | _, _, .nil => .nil
  | _, _, .cons h t => .cons (Dq.dp h) (DqA.dp t)
end
theorem DqA.length : ∀ {vs : List V} {ds : List Da}, DqA K G vs ds → vs.length = ds.length
  | _, _, .nil => rfl
  | _, _, .cons _ t => congrArg (· + 1) t.length
theorem DqA.get : ∀ {vs : List V} {ds : List Da} {i : Nat} {d : Da}, DqA K G vs ds → ds[i]? = some d → ∃ v, vs[i]? = some v ∧ Dq K G v d
  | _, _, _, _, .nil, e => by simp at e
  | _, _, 0, _, .cons h _, e => by simp at e; subst e; exact ⟨_, rfl, h⟩
  | _, _, i + 1, _, .cons _ t, e => by
    obtain ⟨v, h1, h2⟩ := t.get (i := i) (by simpa using e)
    exact ⟨v, by simpa using h1, h2⟩
theorem DqA.append : ∀ {vs ws : List V} {ds es : List Da}, DqA K G vs ds → DqA K G ws es → DqA K G (vs ++ ws) (ds ++ es)
  | _, _, _, _, .nil, t => t
  | _, _, _, _, .cons h r, t => .cons h (r.append t)
theorem DqA.take : ∀ {vs : List V} {ds : List Da} (n : Nat), DqA K G vs ds → DqA K G (vs.take n) (ds.take n)
  | _, _, 0, _ => .nil
  | _, _, _ + 1, .nil => .nil
  | _, _, n + 1, .cons h t => .cons h (t.take n)
theorem DqA.drop : ∀ {vs : List V} {ds : List Da} (n : Nat), DqA K G vs ds → DqA K G (vs.drop n) (ds.drop n)
  | _, _, 0, h => h
  | _, _, _ + 1, .nil => .nil
  | _, _, n + 1, .cons _ t => t.drop n
theorem DqA.set : ∀ {vs : List V} {ds : List Da} {v : V} {d : Da} (n : Nat), Dq K G v d → DqA K G vs ds → DqA K G (vs.set n v) (ds.set n d)
  | _, _, _, _, _, _, .nil => .nil
  | _, _, _, _, 0, q, .cons _ t => .cons q t
  | _, _, _, _, n + 1, q, .cons h t => .cons h (t.set n q)
theorem DqA.erase : ∀ {vs : List V} {ds : List Da} (n : Nat), DqA K G vs ds → DqA K G (vs.eraseIdx n) (ds.eraseIdx n)
  | _, _, _, .nil => .nil
  | _, _, 0, .cons _ t => t
  | _, _, n + 1, .cons h t => .cons h (t.erase n)
theorem DqA.reverse : ∀ {vs : List V} {ds : List Da}, DqA K G vs ds → DqA K G vs.reverse ds.reverse
  | _, _, .nil => .nil
  | _, _, .cons h t => by
    rw [List.reverse_cons, List.reverse_cons]
    exact (t.reverse).append (.cons h .nil)
theorem DqA.rep {vs : List V} {ds : List Da} (h : DqA K G vs ds) : ∀ n : Nat, DqA K G (List.replicate n vs).flatten (List.replicate n ds).flatten
  | 0 => .nil
  | n + 1 => by
    rw [List.replicate_succ, List.replicate_succ, List.flatten_cons, List.flatten_cons]
    exact h.append (h.rep n)
theorem DqA.cut {vs : List V} {ds : List Da} (h : DqA K G vs ds) (lo hi : Option Int) : DqA K G (cutV vs lo hi) (cutD ds lo hi) := by
  unfold cutV cutD
  rw [h.length]
  exact (h.drop _).take _
theorem DqA.ints : ∀ {vs : List V} {ds : List Da} {is : List Int}, DqA K G vs ds → intsD ds = some is → vs = is.map V.int
  | _, _, _, .nil, e => by
    cases e
    rfl
  | _, _, is, .cons (d := d) h t, e => by
    cases h with
    | int i =>
      simp only [intsD, Option.map_eq_some_iff] at e
      obtain ⟨r, e1, e2⟩ := e
      subst e2
      rw [t.ints e1]
      rfl
    | _ => simp [intsD] at e
theorem DqA.bools : ∀ {vs : List V} {ds : List Da} {is : List Bool}, DqA K G vs ds → boolsD ds = some is → vs = is.map V.bl
  | _, _, _, .nil, e => by
    cases e
    rfl
  | _, _, is, .cons (d := d) h t, e => by
    cases h with
    | bl i =>
      simp only [boolsD, Option.map_eq_some_iff] at e
      obtain ⟨r, e1, e2⟩ := e
      subst e2
      rw [t.bools e1]
      rfl
    | _ => simp [boolsD] at e
theorem DqA.strs : ∀ {vs : List V} {ds : List Da} {is : List Str}, DqA K G vs ds → strsD ds = some is → vs = is.map V.str
  | _, _, _, .nil, e => by
    cases e
    rfl
  | _, _, is, .cons (d := d) h t, e => by
    cases h with
    | str i =>
      simp only [strsD, Option.map_eq_some_iff] at e
      obtain ⟨r, e1, e2⟩ := e
      subst e2
      rw [t.strs e1]
      rfl
    | _ => simp [strsD] at e
theorem Dq.key {v : V} {d : Da} {k : Key} (h : Dq K G v d) (e : keyD d = some k) : v = kV k := by
  cases h <;> simp [keyD] at e <;> subst e <;> rfl
theorem DqA.keys : ∀ {vs : List V} {ds : List Da} {ks : List Key}, DqA K G vs ds → keysD ds = some ks → vs = ks.map kV
  | _, _, _, .nil, e => by
    simp [keysD] at e
    subst e
    rfl
  | _, _, _, .cons h t, e => by
    simp only [keysD, Option.bind_eq_some_iff, Option.map_eq_some_iff] at e
    obtain ⟨k, e1, r, e2, e3⟩ := e
    subst e3
    rw [h.key e1, t.keys e2]
    rfl
theorem Dq.ofKey (k : Key) : Dq K G (kV k) (dOfKey k) := by
  cases k with
  | inl i => exact .int i
  | inr s => exact .str s
theorem DqA.ofKeys : ∀ ks : List Key, DqA K G (ks.map kV) (ks.map dOfKey)
  | [] => .nil
  | k :: ks => .cons (.ofKey k) (DqA.ofKeys ks)
theorem DqA.ofChars : ∀ l : List Nat, DqA K G (l.map fun c => V.str ⟨#[c]⟩) (l.map fun c => .str ⟨#[c]⟩)
  | [] => .nil
  | c :: l => .cons (.str _) (DqA.ofChars l)
theorem DqA.ofInts : ∀ l : List Int, DqA K G (l.map V.int) (l.map .int)
  | [] => .nil
  | c :: l => .cons (.int _) (DqA.ofInts l)
/-- a dict's entries -/
abbrev KvA {κ : Type} (K : PySem.W.Frag) (G : Hp) : List (κ × V) → List (κ × Da) → Prop := Paired fun p q => p.1 = q.1 ∧ Dq K G p.2 q.2
theorem KvA.mono {κ : Type} (e : Same G G') {ws : List (κ × V)} {kvs : List (κ × Da)} (h : KvA K G ws kvs) : KvA K G' ws kvs := L2.Paired.mapP h fun _ _ z => ⟨z.1, z.2.mono e⟩
theorem KvA.vals {κ : Type} : ∀ {ws : List (κ × V)} {kvs : List (κ × Da)}, KvA K G ws kvs → DqA K G (ws.map (·.2)) (kvs.map (·.2))
  | _, _, .nil => .nil
  | _, _, .cons h t => .cons h.2 (KvA.vals t)
theorem KvA.keys {κ : Type} : ∀ {ws : List (κ × V)} {kvs : List (κ × Da)}, KvA K G ws kvs → ws.map (·.1) = kvs.map (·.1)
  | _, _, .nil => rfl
  | _, _, .cons h t => by rw [List.map_cons, List.map_cons, h.1, KvA.keys t]
theorem KvA.look {κ : Type} [DecidableEq κ] (k : κ) : ∀ {ws : List (κ × V)} {kvs : List (κ × Da)}, KvA K G ws kvs → (valV ws k = none ∧ PL.look kvs k = none) ∨ ∃ v d, valV ws k = some v ∧ PL.look kvs k = some d ∧ Dq K G v d
  | _, _, .nil => .inl ⟨rfl, rfl⟩
  | _, _, .cons (a := p) (b := q) h t => by
    obtain ⟨k1, v⟩ := p
    obtain ⟨k2, d⟩ := q
    obtain ⟨e, hd⟩ := h
    have e : k1 = k2 := e
    subst e
    by_cases hk : k1 = k
    · right
      refine ⟨v, d, valV_pos hk, ?_, hd⟩
      simp [PL.look, List.find?_cons, hk]
    · rcases KvA.look k t with ⟨h1, h2⟩ | ⟨v', d', h1, h2, h3⟩
      · left
        refine ⟨(valV_neg hk).trans h1, ?_⟩
        simp only [PL.look, List.find?_cons, decide_eq_false hk] at h2 ⊢
        exact h2
      · right
        refine ⟨v', d', (valV_neg hk).trans h1, ?_, h3⟩
        simp only [PL.look, List.find?_cons, decide_eq_false hk] at h2 ⊢
        exact h2
theorem KvA.has {κ : Type} [DecidableEq κ] (k : κ) {ws : List (κ × V)} {kvs : List (κ × Da)} (h : KvA K G ws kvs) : (valV ws k).isSome = PL.has kvs k := by
  unfold PL.has
  rcases h.look k with ⟨h1, h2⟩ | ⟨v, d, h1, h2, _⟩
  · rw [h1, h2]; rfl
  · rw [h1, h2]; rfl
theorem KvA.length {κ : Type} {ws : List (κ × V)} {kvs : List (κ × Da)} (h : KvA K G ws kvs) : ws.length = kvs.length := Paired.length h
theorem KvA.repl {κ : Type} [DecidableEq κ] (k : κ) {v : V} {d : Da} (hd : Dq K G v d) : ∀ {ws : List (κ × V)} {kvs : List (κ × Da)}, KvA K G ws kvs →
    KvA K G (ws.map fun kv => if kv.1 = k then (kv.1, v) else kv) (kvs.map fun kv => if kv.1 = k then (kv.1, d) else kv)
  | _, _, .nil => .nil
  | (k1, w) :: _, (k2, c) :: _, .cons h t => by
    have e : k1 = k2 := h.1
    subst e
    refine .cons ?_ (KvA.repl k hd t)
    show (if k1 = k then (k1, v) else (k1, w)).1 = (if k1 = k then (k1, d) else (k1, c)).1 ∧ Dq K G (if k1 = k then (k1, v) else (k1, w)).2 (if k1 = k then (k1, d) else (k1, c)).2
    by_cases hk : k1 = k
    · rw [if_pos hk, if_pos hk]
      exact ⟨rfl, hd⟩
    · rw [if_neg hk, if_neg hk]
      exact h
theorem KvA.put {κ : Type} [DecidableEq κ] (k : κ) {v : V} {d : Da} {ws : List (κ × V)} {kvs : List (κ × Da)} (h : KvA K G ws kvs) (hd : Dq K G v d) : KvA K G (putK ws k v) (PL.put kvs k d) := by
  have e : (ws.any fun kv => decide (kv.1 = k)) = PL.has kvs k := (valV_any k ws).trans (h.has k)
  unfold putK PL.put
  rw [e]
  split
  · exact KvA.repl k hd h
  · exact Paired.snoc h ⟨rfl, hd⟩
end
/-- the object at a holds o, what is in it stands for itself in G -/
def ObR (K : PySem.W.Frag) (G H : Hp) (a : Addr) : Ob → Prop
  | .L ds => ∃ vs, H a = some (.lst vs) ∧ DqA K G vs ds
  | .K kvs => ∃ ws, H a = some (.dK ws) ∧ KvA K G ws kvs
  | .T kvs => ∃ ws, H a = some (.dT ws) ∧ KvA K G ws kvs
theorem ObR.mono {K : PySem.W.Frag} {G G' H H' : Hp} {a : Addr} {o : Ob} (h : ObR K G H a o) (e : Same G G') (ha : ∀ u, H a = some u → H' a = some u) : ObR K G' H' a o := by
  cases o with
  | L ds => obtain ⟨vs, h1, h2⟩ := h; exact ⟨vs, ha _ h1, h2.mono e⟩
  | K ds => obtain ⟨vs, h1, h2⟩ := h; exact ⟨vs, ha _ h1, h2.mono e⟩
  | T ds => obtain ⟨vs, h1, h2⟩ := h; exact ⟨vs, ha _ h1, h2.mono e⟩
theorem ObR.there {K : PySem.W.Frag} {G H : Hp} {a : Addr} {o : Ob} (h : ObR K G H a o) : H a ≠ none := by
  cases o with
  | L ds => obtain ⟨vs, h1, _⟩ := h; rw [h1]; simp
  | K ds => obtain ⟨vs, h1, _⟩ := h; rw [h1]; simp
  | T ds => obtain ⟨vs, h1, _⟩ := h; rw [h1]; simp
/-- a list or a dict that may change -/
def IsM : Option HO → Prop
  | some (.lst _) => True
  | some (.dK _) => True
  | some (.dT _) => True
  | _ => False
theorem IsM.ne {o : Option HO} (h : IsM o) : o ≠ none := fun e => by
  rw [e] at h
  exact h
theorem ObR.mu {K : PySem.W.Frag} {G H : Hp} {a : Addr} {o : Ob} (h : ObR K G H a o) : IsM (H a) := by
  cases o with
  | L ds => obtain ⟨vs, h1, _⟩ := h; rw [h1]; exact True.intro
  | K ds => obtain ⟨vs, h1, _⟩ := h; rw [h1]; exact True.intro
  | T ds => obtain ⟨vs, h1, _⟩ := h; rw [h1]; exact True.intro
/-- the slots: values, and objects of one's own at addresses of O, apart -/
structure EnvR (K : PySem.W.Frag) (O : List Addr) (α : Nat → Addr) (env : En) (σ : L2.St) (H : Hp) : Prop where
  len : env.length = σ.length
  val : ∀ (i : Nat) (d : Da), env[i]? = some (some (SV.val d)) → ∃ v, σ[i]? = some (some v) ∧ Dq K (Fz O H) v d
  own : ∀ (i : Nat) (o : Ob), env[i]? = some (some (SV.own o)) → σ[i]? = some (some (V.ref (α i))) ∧ α i ∈ O ∧ ObR K (Fz O H) H (α i) o
  inj : ∀ (i j : Nat) (o o' : Ob), env[i]? = some (some (SV.own o)) → env[j]? = some (some (SV.own o')) → α i = α j → i = j
  trm : ∀ a ∈ O, IsM (H a)
theorem EnvR.trk {K : PySem.W.Frag} {O : List Addr} {α : Nat → Addr} {env : En} {σ : L2.St} {H : Hp} (E : EnvR K O α env σ H) : ∀ a ∈ O, H a ≠ none := fun a h => (E.trm a h).ne
/-- from H to H': what stands outside O stays, nothing that is tracked is lost -/
structure Gr (O : List Addr) (H H' : Hp) : Prop where
  fz : Same (Fz O H) (Fz O H')
  dom : ∀ a, H a ≠ none → H' a ≠ none
  mu : ∀ a ∈ O, IsM (H a) → IsM (H' a)
theorem Gr.refl {O : List Addr} {H : Hp} : Gr O H H := ⟨fun _ _ h => h, fun _ h => h, fun _ _ h => h⟩
theorem Gr.trans {O : List Addr} {H H1 H2 : Hp} (a : Gr O H H1) (b : Gr O H1 H2) : Gr O H H2 := ⟨a.fz.trans b.fz, fun x h => b.dom x (a.dom x h), fun x o h => b.mu x o (a.mu x o h)⟩
theorem Gr.none {O : List Addr} {H H' : Hp} (g : Gr O H H') {a : Addr} (h : H' a = none) : H a = none := by
  cases e : H a with
  | none => rfl
  | some o => exact absurd h (g.dom a (by rw [e]; simp))
theorem _root_.L2.Same.dom {H H' : Hp} (e : Same H H') : ∀ a, H a ≠ none → H' a ≠ none := fun a h => by
  cases q : H a with
  | none => exact absurd q h
  | some o => rw [e a o q]; simp
theorem _root_.L2.Same.fz {O : List Addr} {H H' : Hp} (e : Same H H') : Same (Fz O H) (Fz O H') := fun a o h => by
  obtain ⟨h1, h2⟩ := Fz.of h
  rw [Fz.at h1]
  exact e a o h2
theorem _root_.L2.Same.mu {H H' : Hp} (e : Same H H') {a : Addr} (h : IsM (H a)) : IsM (H' a) := by
  cases q : H a with
  | none => rw [q] at h; exact h.elim
  | some o => rw [e a o q, ← q]; exact h
theorem _root_.L2.Same.gr {O : List Addr} {H H' : Hp} (e : Same H H') : Gr O H H' := ⟨e.fz, e.dom, fun _ _ h => e.mu h⟩
theorem same_new {H : Hp} {p : Addr} {o : HO} (h : H p = none) : Same H (upd H p o) := fun b x e => by
  rw [upd_ne (ne_of_none e h)]
  exact e
theorem EnvR.same {K : PySem.W.Frag} {O : List Addr} {α : Nat → Addr} {env : En} {σ : L2.St} {H H' : Hp} (E : EnvR K O α env σ H) (e : Same H H') : EnvR K O α env σ H' where
  len := E.len
  val := fun i d h => let ⟨v, h1, h2⟩ := E.val i d h; ⟨v, h1, h2.mono e.fz⟩
  own := fun i o h => let ⟨h1, h2, h3⟩ := E.own i o h; ⟨h1, h2, h3.mono e.fz fun u q => e _ u q⟩
  inj := E.inj
  trm := fun a h => e.mu (E.trm a h)
/-- what an expression has come to: H0 the heap ahead of it -/
def RvR (K : PySem.W.Frag) (O : List Addr) (α : Nat → Addr) (env : En) (H0 H : Hp) : RV → V → Prop
  | .val d, v => Dq K (Fz O H) v d
  | .fr o, v => ∃ a, v = .ref a ∧ H0 a = none ∧ ObR K (Fz (a :: O) H) H a o
  | .bo i o, v => v = .ref (α i) ∧ env[i]? = some (some (SV.own o))
/-- the same of an operation that changes nothing: a value or a new object -/
def Rn (K : PySem.W.Frag) (O : List Addr) (H0 H : Hp) : RV → V → Prop
  | .val d, v => Same H0 H ∧ Dq K (Fz O H) v d
  | .fr o, v => Same H0 H ∧ ∃ a, v = .ref a ∧ H0 a = none ∧ ObR K (Fz (a :: O) H) H a o
  | .bo _ _, _ => False
section
variable {K : PySem.W.Frag} {O : List Addr} {α : Nat → Addr} {env env' : En} {σ : L2.St} {H0 H H' : Hp} {r : RV} {v : V}
theorem Rn.same (h : Rn K O H0 H r v) : Same H0 H := by
  cases r with
  | val d => exact h.1
  | fr o => exact h.1
  | bo i o => exact h.elim
theorem Rn.rv (h : Rn K O H H' r v) (hd : ∀ a, H0 a ≠ none → H a ≠ none) : RvR K O α env H0 H' r v := by
  cases r with
  | val d => exact h.2
  | fr o =>
    obtain ⟨_, a, e, h1, h2⟩ := h
    refine ⟨a, e, ?_, h2⟩
    cases q : H0 a with
    | none => rfl
    | some u => exact absurd h1 (hd a (by rw [q]; simp))
  | bo i o => exact h.elim
/-- a fresh object lies outside O -/
theorem fr_out (E : ∀ a ∈ O, H0 a ≠ none) {a : Addr} (h : H0 a = none) : a ∉ O := fun q => E a q h
theorem fz_cons {D : Addr} : Same (Fz (D :: O) H) (Fz O H) := fun a o q => by
  obtain ⟨h1, h2⟩ := Fz.of q
  rw [Fz.at (fun z => h1 (List.mem_cons_of_mem _ z))]
  exact h2
theorem Gr.cons {D : Addr} (g : Gr O H H') : Same (Fz (D :: O) H) (Fz (D :: O) H') := fun a o q => by
  obtain ⟨h1, h2⟩ := Fz.of q
  have n : a ∉ O := fun z => h1 (List.mem_cons_of_mem _ z)
  have z := g.fz a o (by rw [Fz.at n]; exact h2)
  rw [Fz.at n] at z
  rw [Fz.at h1]
  exact z
theorem ObR.weak {a : Addr} {o : Ob} (h : ObR K (Fz (a :: O) H) H a o) : ObR K (Fz O H) H a o := h.mono fz_cons fun _ z => z
theorem ObR.keep (E : ∀ a ∈ O, H0 a ≠ none) (g : Gr O H H') {a : Addr} {o : Ob} (h0 : H0 a = none) (h : ObR K (Fz (a :: O) H) H a o) : ObR K (Fz (a :: O) H') H' a o :=
  h.mono g.cons fun u q => by
    have n := fr_out E h0
    have z := g.fz a u (by rw [Fz.at n]; exact q)
    rw [Fz.at n] at z
    exact z
/-- what has come stays while more is reckoned -/
theorem RvR.keep (E : ∀ a ∈ O, H0 a ≠ none) (g : Gr O H H') (h : RvR K O α env H0 H r v) {r' : RV} (hr : refr r env' = some r') : RvR K O α env' H0 H' r' v := by
  cases r with
  | val d =>
    cases hr
    exact Dq.mono g.fz h
  | fr o =>
    cases hr
    obtain ⟨a, e, h1, h2⟩ := h
    exact ⟨a, e, h1, h2.keep E g h1⟩
  | bo i o =>
    obtain ⟨e, _⟩ := h
    simp only [refr] at hr
    split at hr
    · rename_i o' e'
      cases hr
      exact ⟨e, e'⟩
    · cases hr
/-- the same rvalue where the slots have not changed -/
theorem RvR.keep' (E : ∀ a ∈ O, H0 a ≠ none) (g : Gr O H H') (h : RvR K O α env H0 H r v) : RvR K O α env H0 H' r v := by
  cases r with
  | val d => exact Dq.mono g.fz h
  | fr o =>
    obtain ⟨a, e, h1, h2⟩ := h
    exact ⟨a, e, h1, h2.keep E g h1⟩
  | bo i o => exact h
/-- what is seen of a datum: the list itself anywhere, its items outside O -/
def Vw (K : PySem.W.Frag) (O : List Addr) (H : Hp) : Da → V → Prop
  | .list ds, v => ∃ a vs, v = .ref a ∧ SqL K H a vs ∧ DqA K (Fz O H) vs ds
  | d, v => Dq K (Fz O H) v d
theorem Vw.ofDq {d : Da} (h : Dq K (Fz O H) v d) : Vw K O H d v := by
  cases h with
  | lst h t => exact ⟨_, _, rfl, Fz.sub.seq h, t⟩
  | non => exact .non
  | bl b => exact .bl b
  | int i => exact .int i
  | str x => exact .str x
  | tup h t => exact .tup h t
theorem Vw.dp {d : Da} (h : Vw K O H d v) : Dp K H v d := by
  cases d with
  | list ds =>
    obtain ⟨a, vs, rfl, h1, h2⟩ := h
    exact .lst h1 (h2.mono Fz.sub).dp
  | none => exact (Dq.mono Fz.sub (show Dq K (Fz O H) v _ from h)).dp
  | bool b => exact (Dq.mono Fz.sub (show Dq K (Fz O H) v _ from h)).dp
  | int b => exact (Dq.mono Fz.sub (show Dq K (Fz O H) v _ from h)).dp
  | str b => exact (Dq.mono Fz.sub (show Dq K (Fz O H) v _ from h)).dp
  | tuple b => exact (Dq.mono Fz.sub (show Dq K (Fz O H) v _ from h)).dp
  | dict b => exact (Dq.mono Fz.sub (show Dq K (Fz O H) v _ from h)).dp
theorem RvR.vw (E : EnvR K O α env σ H) {d : Da} (h : RvR K O α env H0 H r v) (e : r.dat = some d) : Vw K O H d v := by
  cases r with
  | val d' =>
    cases e
    exact .ofDq h
  | fr o =>
    cases o with
    | L ds =>
      cases e
      obtain ⟨a, rfl, _, vs, h1, h2⟩ := h
      exact ⟨a, vs, rfl, .of h1, h2.mono fz_cons⟩
    | K _ => cases e
    | T _ => cases e
  | bo i o =>
    cases o with
    | L ds =>
      cases e
      obtain ⟨rfl, h1⟩ := h
      obtain ⟨_, _, vs, h2, h3⟩ := E.own i _ h1
      exact ⟨_, vs, rfl, .of h2, h3⟩
    | K _ => cases e
    | T _ => cases e
/-- a list of a fresh object, of a slot -/
theorem RvR.lst (E : EnvR K O α env σ H) {ds : List Da} (h : RvR K O α env H0 H r v) (e : r.ob = some (.L ds)) : ∃ a vs, v = .ref a ∧ H a = some (.lst vs) ∧ DqA K (Fz O H) vs ds := by
  cases r with
  | val d' => cases e
  | fr o =>
    cases e
    obtain ⟨a, rfl, _, vs, h1, h2⟩ := h
    exact ⟨a, vs, rfl, h1, h2.mono fz_cons⟩
  | bo i o =>
    cases e
    obtain ⟨rfl, h1⟩ := h
    obtain ⟨_, _, vs, h2, h3⟩ := E.own i _ h1
    exact ⟨_, vs, rfl, h2, h3⟩
theorem RvR.obr (E : EnvR K O α env σ H) {o : Ob} (h : RvR K O α env H0 H r v) (e : r.ob = some o) : ∃ a, v = .ref a ∧ ObR K (Fz O H) H a o := by
  cases r with
  | val d' => cases e
  | fr o =>
    cases e
    obtain ⟨a, rfl, _, h1⟩ := h
    exact ⟨a, rfl, h1.weak⟩
  | bo i o =>
    cases e
    obtain ⟨rfl, h1⟩ := h
    exact ⟨_, rfl, (E.own i _ h1).2.2⟩
/-- put into a container -/
theorem RvR.frz (E : ∀ a ∈ O, H0 a ≠ none) {d : Da} (h : RvR K O α env H0 H r v) (e : r.frz = some d) : Dq K (Fz O H) v d := by
  cases r with
  | val d' =>
    cases e
    exact h
  | fr o =>
    cases o with
    | L ds =>
      cases e
      obtain ⟨a, rfl, h0, vs, h1, h2⟩ := h
      exact .lst (.of (by rw [Fz.at (fr_out E h0)]; exact h1)) (h2.mono fz_cons)
    | K _ => cases e
    | T _ => cases e
  | bo i o => cases e
theorem Fz.new (E : ∀ a ∈ O, H a ≠ none) {p : Addr} {o : HO} (h : H p = none) : Fz O (upd H p o) = upd (Fz O H) p o := by
  have n : p ∉ O := fr_out E h
  funext a
  unfold Fz upd
  by_cases e : a = p
  · subst e
    rw [if_neg n, if_pos rfl, if_pos rfl]
  · rw [if_neg e, if_neg e]
theorem Rn.val (h : Dq K (Fz O H) v d) : Rn K O H H (.val d) v := ⟨Same.refl H, h⟩
theorem Rn.tup (E : ∀ a ∈ O, H a ≠ none) {p : Addr} {vs : List V} {ds : List Da} (h : H p = none) (t : DqA K (Fz O H) vs ds) : Rn K O H (upd H p (.tup vs)) (.val (.tuple ds)) (.ref p) := by
  have e := same_new (o := .tup vs) h
  refine ⟨e, .tup ?_ (t.mono e.fz)⟩
  rw [Fz.at (fr_out E h), upd_same]
theorem fz_new (E : ∀ a ∈ O, H a ≠ none) {p : Addr} {u : HO} (h : H p = none) : Same (Fz O H) (Fz (p :: O) (upd H p u)) := fun a o q => by
  obtain ⟨h1, h2⟩ := Fz.of q
  have ne : a ≠ p := ne_of_none h2 h
  rw [Fz.at (by simp only [List.mem_cons, not_or]; exact ⟨ne, h1⟩), upd_ne ne]
  exact h2
theorem Rn.lst (E : ∀ a ∈ O, H a ≠ none) {p : Addr} {vs : List V} {ds : List Da} (h : H p = none) (t : DqA K (Fz O H) vs ds) : Rn K O H (upd H p (.lst vs)) (.fr (.L ds)) (.ref p) :=
  ⟨same_new h, p, rfl, h, vs, upd_same, t.mono (fz_new E h)⟩
end
end PL
set_option maxRecDepth 100000
set_option maxHeartbeats 4000000
/-! PL3a: what the operators of PL1 come to, over values: arithmetic, +, *. -/
namespace PL
open PySem PySem.Spec PyProof.Rows L2

/-- the widest readings -/
def WO (X : Cx) (f : Value → Value → Sem Value) (x y : V) (H : Hp) (Q : VK) : Prop :=
  ∀ (pins : List (Addr × Obj)) (s : Shared) (σ : L2.St) (v u : Value), Inv X pins σ H s → RelV x v → RelV y u → wpAny (model X.prog X.w) X.A (f v u) (EP X pins σ Q) X.xe s
def WU (X : Cx) (f : Value → Sem Value) (x : V) (H : Hp) (Q : VK) : Prop :=
  ∀ (pins : List (Addr × Obj)) (s : Shared) (σ : L2.St) (v : Value), Inv X pins σ H s → RelV x v → wpAny (model X.prog X.w) X.A (f v) (EP X pins σ Q) X.xe s
def WC (X : Cx) (f : Value) (xs : List V) (H : Hp) (Q : VK) : Prop :=
  ∀ (pins : List (Addr × Obj)) (s : Shared) (σ : L2.St) (us : List Value), Inv X pins σ H s → Vals xs us → wpAny (model X.prog X.w) X.A (call f us) (EP X pins σ Q) X.xe s
def WM (X : Cx) (id : String) (x : V) (xs : List V) (H : Hp) (Q : VK) : Prop :=
  ∀ (pins : List (Addr × Obj)) (s : Shared) (σ : L2.St) (v : Value) (us : List Value), Inv X pins σ H s → RelV x v → Vals xs us → wpAny (model X.prog X.w) X.A (call (.builtin id) (v :: us)) (EP X pins σ Q) X.xe s
section
variable {X : Cx} {f : Value → Value → Sem Value} {g : Value} {id : String} {r : R2} {c : List V → Hp → VK → Prop} {m : V → List V → Hp → VK → Prop} {x y : V} {xs : List V} {H : Hp} {Q : VK}
theorem wo_of (h : OpR X f r) (q : r x y H Q) : WO X f x y H Q := fun pins s σ v u I rx ry => h pins s σ H x y v u Q I rx ry q
theorem wc_of (h : CallR X g c) (q : c xs H Q) : WC X g xs H Q := fun pins s σ us I r => h pins s σ H xs us Q I r q
theorem wm_of (h : MtR X id m) (q : m x xs H Q) : WM X id x xs H Q := fun pins s σ v us I rx r => h pins s σ H x xs v us Q I rx r q
theorem or_wo : OpR X f (fun x y H Q => WO X f x y H Q) := fun pins s σ H x y v u Q I rx ry q => q pins s σ v u I rx ry
theorem cr_wc : CallR X g (fun xs H Q => WC X g xs H Q) := fun pins s σ H xs us Q I r q => q pins s σ us I r
theorem mt_wm : MtR X id (fun x xs H Q => WM X id x xs H Q) := fun pins s σ H x xs v us Q I rx r q => q pins s σ v us I rx r
end
theorem lim_line {n : Nat} (h : n ≤ LIM) : n ≤ sizeLine := Nat.le_trans h (by rw [sizeLine_eq]; decide)
theorem lim_lt {n : Nat} (h : n < LIM) : n < sizeLine := Nat.lt_of_lt_of_le h (by rw [sizeLine_eq]; decide)
theorem str_eta (x : Str) : strOf x.cps.toList = x := by
  cases x with
  | mk c => simp [strOf]
section
variable {X : Cx}
theorem op_powW : OpR X (binaryOp .Pow) (rI (fun i j => 0 ≤ j ∧ (Builtin.Int.intBits i : Int) * j ≤ 2 ^ 27) fun i j => .int (i ^ j.toNat)) := opI fun _ _ _ _ _ _ _ hc q => pow_int hc.1 hc.2 q
theorem foldl_app : ∀ (l : List (Array Nat)) (acc : Array Nat), (l.foldl (· ++ ·) acc).toList = acc.toList ++ (l.map Array.toList).flatten
  | [], acc => by simp
  | a :: l, acc => by rw [List.foldl_cons, foldl_app l]; simp
theorem op_mul_str : OpR X (binaryOp .Mult) (fun x y H Q => ∃ (s : Str) (j : Int), x = .str s ∧ y = .int j ∧ (0 ≤ j ∧ s.length * j.toNat ≤ LIM ∧ j ≤ LIM) ∧ Q (.str (strOf (List.replicate j.toNat s.cps.toList).flatten)) H) := by
  intro pins s σ H x y v u Q I rx ry h
  obtain ⟨z, j, rfl, rfl, ⟨h0, h1, h2⟩, q⟩ := h
  obtain ⟨t, rfl⟩ := rx
  obtain ⟨t', rfl⟩ := ry
  have hj : j ≤ 1000000 := h2
  have hz : z.length * j.toNat ≤ 1000000 := h1
  refine PySem.P.mul_str (by
    have a : ¬ j < -(2 ^ 63) := by omega
    have b : ¬ j ≥ 2 ^ 63 := by omega
    rw [decide_eq_false a, decide_eq_false b]; rfl) (fun n1 _ => ?_) (fun n1 _ => ?_) ?_
  · intro hlt
    have hj1 : 1 ≤ j := by omega
    have e1 : (2 ^ 63 - 1) / j * j > (2 ^ 63 - 1) - j := by
      have := Int.emod_add_mul_ediv (2 ^ 63 - 1) j
      have hm := Int.emod_lt_of_pos (2 ^ 63 - 1) (by omega : 0 < j)
      have e : j * ((2 ^ 63 - 1) / j) = (2 ^ 63 - 1) / j * j := Int.mul_comm _ _
      omega
    have e2 : (z.length : Int) * j ≤ 1000000 := by
      have e3 : ((z.length * j.toNat : Nat) : Int) = (z.length : Int) * j := by
        rw [Int.natCast_mul, Int.toNat_of_nonneg h0]
      omega
    have e4 : ((2 ^ 63 - 1) / j + 1) * j ≤ (z.length : Int) * j := Int.mul_le_mul_of_nonneg_right (by omega) h0
    rw [Int.add_mul] at e4
    omega
  · show decide _ = false
    refine decide_eq_false ?_
    have := sizeLine_eq
    intro hx
    have : z.length * j.toNat ≤ 16777216 := by omega
    first | omega | simp_all
  · have fin : ∀ (z' : Str), z' = strOf (List.replicate j.toNat z.cps.toList).flatten → EP X pins σ Q (.str z' s.toks) { s with toks := s.toks + 1 } := fun z' e => by
      rw [e]
      exact ⟨.str _, H, I.tok _, ⟨_, rfl⟩, q⟩
    by_cases c1 : j < 1
    · rw [if_pos c1]
      have e0 : j.toNat = 0 := by omega
      refine ⟨by decide, fin _ ?_⟩
      rw [e0]
      rfl
    · rw [if_neg c1]
      by_cases c2 : (j == 1 || z.length == 0) = true
      · rw [if_pos c2]
        refine ⟨.str z, H, I, ⟨t, rfl⟩, ?_⟩
        have e : strOf (List.replicate j.toNat z.cps.toList).flatten = z := by
          rcases Bool.or_eq_true_iff.mp c2 with c3 | c3
          · have : j = 1 := by simpa using c3
            subst this
            simp
            exact str_eta z
          · have c4 : z.length = 0 := by simpa using c3
            have e0 : z.cps = #[] := Array.eq_empty_of_size_eq_zero c4
            cases z with
            | mk c =>
              have e0 : c = #[] := e0
              subst e0
              simp [strOf]
        rw [e] at q
        exact q
      · rw [if_neg c2]
        have e : (⟨(List.replicate j.toNat z.cps).foldl (· ++ ·) #[]⟩ : Str) = strOf (List.replicate j.toNat z.cps.toList).flatten := by
          unfold strOf
          congr 1
          apply Array.toList_inj.mp
          rw [foldl_app]
          simp
        refine ⟨?_, fin _ e⟩
        rw [e]
        have e5 : (strOf (List.replicate j.toNat z.cps.toList).flatten).length = j.toNat * z.length := by
          simp [strOf, Str.length]
        rw [e5, Nat.mul_comm]
        have := sizeLine_eq
        omega
theorem nodupNil {α : Type} {l : List α} (h : ¬ l ≠ []) : l = [] := Classical.not_not.mp h
variable {O : List Addr} {α : Nat → Addr} {env : En} {σ : L2.St} {Ha Hb H : Hp} {a b r : RV} {x y : V} {Q : VK}
theorem bin_ok {op : Operator} (E : EnvR X.K O α env σ H) (ha : RvR X.K O α env Ha H a x) (hb : RvR X.K O α env Hb H b y) (e : opBin op a b = some r) (k : ∀ v H', Rn X.K O H H' r v → Q v H') : WO X (binaryOp op) x y H Q := by
  have lists : ∀ {xs ys : List Da}, a.ob = some (.L xs) → b.ob = some (.L ys) → xs.length + ys.length ≤ LIM → r = .fr (.L (xs ++ ys)) → op = .Add → WO X (binaryOp op) x y H Q := by
    intro xs ys oa ob hl er eo
    subst er eo
    obtain ⟨p, vs, rfl, h1, h2⟩ := ha.lst E oa
    obtain ⟨p', vs', rfl, h1', h2'⟩ := hb.lst E ob
    exact wo_of op_cat ⟨p, p', vs, vs', rfl, rfl, h1, h1', by rw [h2.length, h2'.length]; exact lim_line hl, fun q hq => k _ _ (Rn.lst E.trk hq (h2.append h2'))⟩
  unfold opBin at e
  split at e
  · cases e
    cases (show Dq _ _ x _ from ha)
    cases (show Dq _ _ y _ from hb)
    exact wo_of op_add ⟨_, _, rfl, rfl, k _ _ (.val (.int _))⟩
  · obtain ⟨u, hg, e2⟩ := Option.map_eq_some_iff.mp e
    subst e2
    cases (show Dq _ _ x _ from ha)
    cases (show Dq _ _ y _ from hb)
    exact wo_of op_add_str ⟨_, _, rfl, rfl, lim_line (gd_some hg), k _ _ (.val (.str _))⟩
  · obtain ⟨u, hg, e2⟩ := Option.map_eq_some_iff.mp e
    subst e2
    cases (show Dq _ _ x _ from ha) with
    | tup p t =>
      cases (show Dq _ _ y _ from hb) with
      | tup p' t' =>
        refine wo_of op_catA ⟨_, _, _, _, rfl, rfl, .of (Fz.sub _ _ p), .of (Fz.sub _ _ p'), by rw [t.length, t'.length]; exact lim_line (gd_some hg), ?_, ?_, fun z1 z2 q hq => k _ _ (Rn.tup E.trk hq (t.append t'))⟩
        · intro z
          subst z
          cases t
          exact k _ _ (.val (.tup p' t'))
        · intro z1 z2
          subst z2
          cases t'
          refine k _ _ (.val ?_)
          rw [List.append_nil]
          exact .tup p t
  · obtain ⟨u, hg, e2⟩ := Option.map_eq_some_iff.mp e
    exact lists rfl rfl (gd_some hg) e2.symm rfl
  · obtain ⟨u, hg, e2⟩ := Option.map_eq_some_iff.mp e
    exact lists rfl rfl (gd_some hg) e2.symm rfl
  · obtain ⟨u, hg, e2⟩ := Option.map_eq_some_iff.mp e
    exact lists rfl rfl (gd_some hg) e2.symm rfl
  · obtain ⟨u, hg, e2⟩ := Option.map_eq_some_iff.mp e
    exact lists rfl rfl (gd_some hg) e2.symm rfl
  · cases e
    cases (show Dq _ _ x _ from ha)
    cases (show Dq _ _ y _ from hb)
    exact wo_of op_sub ⟨_, _, rfl, rfl, k _ _ (.val (.int _))⟩
  · obtain ⟨u, hg, e2⟩ := Option.map_eq_some_iff.mp e
    subst e2
    cases (show Dq _ _ x _ from ha)
    cases (show Dq _ _ y _ from hb)
    exact wo_of op_mul ⟨_, _, rfl, rfl, gd_some hg, k _ _ (.val (.int _))⟩
  · obtain ⟨u, hg, e2⟩ := Option.map_eq_some_iff.mp e
    subst e2
    cases (show Dq _ _ x _ from ha)
    cases (show Dq _ _ y _ from hb)
    exact wo_of op_mul_str ⟨_, _, rfl, rfl, gd_some hg, k _ _ (.val (.str _))⟩
  · obtain ⟨u, hg, e2⟩ := Option.map_eq_some_iff.mp e
    subst e2
    obtain ⟨p, vs, rfl, h1, h2⟩ := ha.lst E rfl
    cases (show Dq _ _ y _ from hb)
    obtain ⟨g1, g2, g3⟩ := gd_some hg
    exact wo_of op_rep ⟨p, _, vs, rfl, rfl, h1, g1, g2, by rw [h2.length]; exact lim_line g3, fun q hq => k _ _ (Rn.lst E.trk hq (h2.rep _))⟩
  · obtain ⟨u, hg, e2⟩ := Option.map_eq_some_iff.mp e
    subst e2
    cases (show Dq _ _ x _ from ha)
    cases (show Dq _ _ y _ from hb)
    exact wo_of op_fdiv ⟨_, _, rfl, rfl, gd_some hg, k _ _ (.val (.int _))⟩
  · obtain ⟨u, hg, e2⟩ := Option.map_eq_some_iff.mp e
    subst e2
    cases (show Dq _ _ x _ from ha)
    cases (show Dq _ _ y _ from hb)
    exact wo_of op_mod ⟨_, _, rfl, rfl, gd_some hg, k _ _ (.val (.int _))⟩
  · obtain ⟨u, hg, e2⟩ := Option.map_eq_some_iff.mp e
    subst e2
    cases (show Dq _ _ x _ from ha)
    cases (show Dq _ _ y _ from hb)
    exact wo_of op_powW ⟨_, _, rfl, rfl, gd_some hg, k _ _ (.val (.int _))⟩
  · cases e
end
end PL
set_option maxRecDepth 100000
set_option maxHeartbeats 4000000
/-! PL3b: the comparisons of PL1, over values. -/
namespace PL
open PySem PySem.Spec PyProof.Rows L2
theorem shaped_of {a : Da} (h1 : a.canLay0 = true) (h2 : a.depth ≤ 64) : SeqAt.shaped a = true := by
  unfold SeqAt.shaped
  rw [h1, decide_eq_true h2]
  rfl
section
variable {X : Cx}
theorem op_ltD (hu : X.A.units + 64 < cLine) : OpR X (compareOp .Lt) (fun x y H Q => ∃ d e, Dp X.K H x d ∧ Dp X.K H y e ∧ PySem.W.alike d e = true ∧ d ≠ .none ∧ d.depth ≤ 64 ∧ Q (.bl (PySem.W.dataLt d e)) H) := by
  intro pins s σ H x y v u Q I rx ry h
  obtain ⟨d, e, hd, he, al, hn, dp, q⟩ := h
  obtain ⟨as, r1⟩ := Dp.reads I d x v hd rx
  obtain ⟨bs, r2⟩ := Dp.reads I e y u he ry
  refine PySem.W.rcLt_alike d e X.A s v u as bs r1 r2 al hn ?_ X.prog X.w X.xe _ ⟨.bl _, H, I, rfl, q⟩
  have := Nat.min_le_left d.depth e.depth
  omega
theorem op_inTD (hu : X.A.units + 64 + 1 < cLine) : OpR X (compareOp .In) (fun x y H Q => ∃ d ds, Dp X.K H x d ∧ Dp X.K H y (.tuple ds) ∧ d.canLay0 = true ∧ PyData.canLayAll0 ds = true ∧ d.depth ≤ 64 ∧ Q (.bl (ds.any fun z => PyData.eqv z d)) H) := by
  intro pins s σ H x y v u Q I rx ry h
  obtain ⟨d, ds, hd, he, c1, c2, dp, q⟩ := h
  obtain ⟨as, r1⟩ := Dp.reads I d x v hd rx
  obtain ⟨bs, r2⟩ := Dp.reads I _ y u he ry
  refine SeqAt.in_tuple_reads r2 r1 c2 c1 ?_ ⟨.bl _, H, I, rfl, q⟩
  have := Nat.min_le_right (PyData.depthAll ds) d.depth
  omega
theorem op_notInTD (hu : X.A.units + 64 + 1 < cLine) : OpR X (compareOp .NotIn) (fun x y H Q => ∃ d ds, Dp X.K H x d ∧ Dp X.K H y (.tuple ds) ∧ d.canLay0 = true ∧ PyData.canLayAll0 ds = true ∧ d.depth ≤ 64 ∧ Q (.bl (!ds.any fun z => PyData.eqv z d)) H) := by
  intro pins s σ H x y v u Q I rx ry h
  obtain ⟨d, ds, hd, he, c1, c2, dp, q⟩ := h
  obtain ⟨as, r1⟩ := Dp.reads I d x v hd rx
  obtain ⟨bs, r2⟩ := Dp.reads I _ y u he ry
  refine SeqAt.notIn_tuple_reads r2 r1 c2 c1 ?_ ⟨.bl _, H, I, rfl, q⟩
  have := Nat.min_le_right (PyData.depthAll ds) d.depth
  omega
theorem op_inDct (hu : X.A.units + 1 < cLine) : OpR X (compareOp .In) (fun y x H Q => ∃ a o, x = .ref a ∧ DGet H a y o ∧ Q (.bl o.isSome) H) := by
  intro pins s σ H y x iv u Q I ry rx h
  obtain ⟨a, o, rfl, g, q⟩ := h
  obtain rfl : u = Value.ref a := rx
  exact d_in hu I g ry fun s3 I3 => ⟨.bl o.isSome, H, I3, rfl, q⟩
theorem op_notInDct (hu : X.A.units + 1 < cLine) : OpR X (compareOp .NotIn) (fun y x H Q => ∃ a o, x = .ref a ∧ DGet H a y o ∧ Q (.bl (!o.isSome)) H) := by
  intro pins s σ H y x iv u Q I ry rx h
  obtain ⟨a, o, rfl, g, q⟩ := h
  obtain rfl : u = Value.ref a := rx
  exact d_notIn hu I g ry fun s3 I3 => ⟨.bl (!o.isSome), H, I3, rfl, q⟩
variable {O : List Addr} {α : Nat → Addr} {env : En} {σ : L2.St} {Ha Hb H : Hp} {a b : RV} {x y : V} {Q : VK} {r : Bool}
theorem eq_ok (hu : X.A.units + 64 < cLine) {da db : Da} (ha : Vw X.K O H da x) (hb : Vw X.K O H db y) (e : opEq da db = some r) (k : Q (.bl r) H) : WO X (compareOp .Eq) x y H Q := by
  unfold opEq at e
  split at e
  · cases e
    cases (show Dq _ _ x _ from ha)
    cases (show Dq _ _ y _ from hb)
    refine wo_of op_eq ⟨rfl, ?_⟩
    rw [show decide (V.int _ = V.int _) = _ from dec_int, Bool.beq_eq_decide_eq]
    exact k
  · cases e
    cases (show Dq _ _ x _ from ha)
    cases (show Dq _ _ y _ from hb)
    refine wo_of op_eq ⟨rfl, ?_⟩
    rw [show decide (V.str _ = V.str _) = _ from dec_str, Bool.beq_eq_decide_eq]
    exact k
  · cases e
    cases (show Dq _ _ x _ from ha)
    cases (show Dq _ _ y _ from hb)
    refine wo_of op_eq ⟨rfl, ?_⟩
    rw [show decide (V.bl _ = V.bl _) = _ from dec_bl, Bool.beq_eq_decide_eq]
    exact k
  · obtain ⟨u, hg, e2⟩ := Option.map_eq_some_iff.mp e
    subst e2
    obtain ⟨g1, g2, g3, g4⟩ := gd_some hg
    exact wo_of (op_eqD hu) ⟨_, _, ha.dp, hb.dp, shaped_of g1 g3, shaped_of g2 g4, k⟩
theorem ne_ok (hu : X.A.units + 64 < cLine) {da db : Da} (ha : Vw X.K O H da x) (hb : Vw X.K O H db y) (e : opEq da db = some r) (k : Q (.bl (!r)) H) : WO X (compareOp .NotEq) x y H Q := by
  unfold opEq at e
  split at e
  · cases e
    cases (show Dq _ _ x _ from ha)
    cases (show Dq _ _ y _ from hb)
    refine wo_of op_ne ⟨rfl, ?_⟩
    rw [show decide (V.int _ = V.int _) = _ from dec_int, Bool.beq_eq_decide_eq]
    exact k
  · cases e
    cases (show Dq _ _ x _ from ha)
    cases (show Dq _ _ y _ from hb)
    refine wo_of op_ne ⟨rfl, ?_⟩
    rw [show decide (V.str _ = V.str _) = _ from dec_str, Bool.beq_eq_decide_eq]
    exact k
  · cases e
    cases (show Dq _ _ x _ from ha)
    cases (show Dq _ _ y _ from hb)
    refine wo_of op_ne ⟨rfl, ?_⟩
    rw [show decide (V.bl _ = V.bl _) = _ from dec_bl, Bool.beq_eq_decide_eq]
    exact k
  · obtain ⟨u, hg, e2⟩ := Option.map_eq_some_iff.mp e
    subst e2
    obtain ⟨g1, g2, g3, g4⟩ := gd_some hg
    exact wo_of (op_neD hu) ⟨_, _, ha.dp, hb.dp, shaped_of g1 g3, shaped_of g2 g4, k⟩
theorem str_one {x : Str} {c : Nat} (h : x.cps.toList = [c]) : x = ⟨#[c]⟩ := by
  cases x with
  | mk z =>
    have : z = #[c] := by
      apply Array.toList_inj.mp
      exact h
    rw [this]
theorem canLay_all {ds : List Da} (h : (PyData.tuple ds).canLay0 = true) : PyData.canLayAll0 ds = true := by
  simpa only [PyData.canLay0] using h
theorem in_ok (hu : X.A.units + 65 < cLine) (E : EnvR X.K O α env σ H) (ha : RvR X.K O α env Ha H a x) (hb : RvR X.K O α env Hb H b y) (e : opCmp.opIn a b = some r) :
    (∀ Q : VK, Q (.bl r) H → WO X (compareOp .In) x y H Q) ∧ (∀ Q : VK, Q (.bl (!r)) H → WO X (compareOp .NotIn) x y H Q) := by
  have viaL : ∀ {d : Da} {xs : List Da}, a = .val d → b.dat = some (.list xs) → eqOk d (.list xs) → r = (xs.any fun z => PyData.eqv z d) →
      (∀ Q : VK, Q (.bl r) H → WO X (compareOp .In) x y H Q) ∧ (∀ Q : VK, Q (.bl (!r)) H → WO X (compareOp .NotIn) x y H Q) := by
    rintro d xs rfl eb ⟨g1, g2, g3, g4⟩ er
    subst er
    have hx : Dp X.K H x d := (Dq.mono Fz.sub (show Dq _ _ x _ from ha)).dp
    have hy := (hb.vw E eb).dp
    exact ⟨fun Q k => wo_of (op_inD hu) ⟨d, xs, hx, hy, shaped_of g1 g3, shaped_of g2 g4, k⟩, fun Q k => wo_of (op_notInD hu) ⟨d, xs, hx, hy, shaped_of g1 g3, shaped_of g2 g4, k⟩⟩
  unfold opCmp.opIn at e
  split at e
  · split at e
    · rename_i c hc
      cases e
      cases (show Dq _ _ x _ from ha)
      cases (show Dq _ _ y _ from hb)
      rw [str_one hc]
      exact ⟨fun Q k => wo_of op_in_sign ⟨_, _, rfl, rfl, k⟩, fun Q k => wo_of op_notIn_sign ⟨_, _, rfl, rfl, k⟩⟩
    · cases e
  · obtain ⟨u, hg, e2⟩ := Option.map_eq_some_iff.mp e
    subst e2
    obtain ⟨g1, g2, g3, g4⟩ := gd_some hg
    have hx := (Dq.mono Fz.sub (show Dq _ _ x _ from ha)).dp
    have hy := (Dq.mono Fz.sub (show Dq _ _ y _ from hb)).dp
    exact ⟨fun Q k => wo_of (op_inTD (by omega)) ⟨_, _, hx, hy, g1, canLay_all g2, g3, k⟩, fun Q k => wo_of (op_notInTD (by omega)) ⟨_, _, hx, hy, g1, canLay_all g2, g3, k⟩⟩
  · obtain ⟨u, hg, e2⟩ := Option.map_eq_some_iff.mp e
    exact viaL rfl rfl (gd_some hg) e2.symm
  · obtain ⟨u, hg, e2⟩ := Option.map_eq_some_iff.mp e
    exact viaL rfl rfl (gd_some hg) e2.symm
  · obtain ⟨u, hg, e2⟩ := Option.map_eq_some_iff.mp e
    exact viaL rfl rfl (gd_some hg) e2.symm
  · obtain ⟨kk, hk, e2⟩ := Option.map_eq_some_iff.mp e
    subst e2
    have ex := Dq.key (show Dq _ _ x _ from ha) hk
    obtain ⟨p, rfl, ws, h1, h2⟩ := hb.obr E rfl
    subst ex
    rw [← h2.has kk]
    exact ⟨fun Q k => wo_of (op_inDct (by omega)) ⟨_, _, rfl, .k h1, k⟩, fun Q k => wo_of (op_notInDct (by omega)) ⟨_, _, rfl, .k h1, k⟩⟩
  · obtain ⟨kk, hk, e2⟩ := Option.map_eq_some_iff.mp e
    subst e2
    cases (show Dq _ _ x _ from ha) with
    | tup g t =>
      have ev := t.keys hk
      subst ev
      obtain ⟨p, rfl, ws, h1, h2⟩ := hb.obr E rfl
      rw [← h2.has kk]
      exact ⟨fun Q k => wo_of (op_inDct (by omega)) ⟨_, _, rfl, .t h1 (Fz.sub _ _ g), k⟩, fun Q k => wo_of (op_notInDct (by omega)) ⟨_, _, rfl, .t h1 (Fz.sub _ _ g), k⟩⟩
  · cases e
theorem cmp_ok {op : CmpOp} (hu : X.A.units + 65 < cLine) (E : EnvR X.K O α env σ H) (ha : RvR X.K O α env Ha H a x) (hb : RvR X.K O α env Hb H b y) (e : opCmp op a b = some r) (k : Q (.bl r) H) : WO X (compareOp op) x y H Q := by
  cases op with
  | Eq =>
    obtain ⟨da, e1, e⟩ := Option.bind_eq_some_iff.mp e
    obtain ⟨db, e2, e⟩ := Option.bind_eq_some_iff.mp e
    exact eq_ok (by omega) (ha.vw E e1) (hb.vw E e2) e k
  | NotEq =>
    obtain ⟨da, e1, e⟩ := Option.bind_eq_some_iff.mp e
    obtain ⟨db, e2, e⟩ := Option.bind_eq_some_iff.mp e
    obtain ⟨r', e3, e⟩ := Option.map_eq_some_iff.mp e
    subst e
    exact ne_ok (by omega) (ha.vw E e1) (hb.vw E e2) e3 k
  | Lt =>
    simp only [opCmp] at e
    split at e
    · cases e
      cases (show Dq _ _ x _ from ha)
      cases (show Dq _ _ y _ from hb)
      exact wo_of op_lt ⟨_, _, rfl, rfl, k⟩
    · cases e
      cases (show Dq _ _ x _ from ha)
      cases (show Dq _ _ y _ from hb)
      exact wo_of op_lt_str ⟨_, _, rfl, rfl, k⟩
    · obtain ⟨u, hg, e2⟩ := Option.map_eq_some_iff.mp e
      subst e2
      obtain ⟨g1, g2⟩ := gd_some hg
      exact wo_of (op_ltD (by omega)) ⟨_, _, (Dq.mono Fz.sub (show Dq _ _ x _ from ha)).dp, (Dq.mono Fz.sub (show Dq _ _ y _ from hb)).dp, g1, by simp, g2, k⟩
    · cases e
  | LtE =>
    simp only [opCmp] at e
    split at e
    · cases e
      cases (show Dq _ _ x _ from ha)
      cases (show Dq _ _ y _ from hb)
      exact wo_of op_le ⟨_, _, rfl, rfl, k⟩
    · cases e
  | Gt =>
    simp only [opCmp] at e
    split at e
    · cases e
      cases (show Dq _ _ x _ from ha)
      cases (show Dq _ _ y _ from hb)
      exact wo_of op_gt ⟨_, _, rfl, rfl, k⟩
    · cases e
  | GtE =>
    simp only [opCmp] at e
    split at e
    · cases e
      cases (show Dq _ _ x _ from ha)
      cases (show Dq _ _ y _ from hb)
      exact wo_of op_ge ⟨_, _, rfl, rfl, k⟩
    · cases e
  | Is =>
    simp only [opCmp] at e
    split at e
    · cases e
      cases (show Dq _ _ x _ from ha)
      cases (show Dq _ _ y _ from hb)
      exact wo_of op_isBl ⟨_, _, rfl, rfl, k⟩
    all_goals first
      | (cases e; done)
      | (cases e
         cases (show Dq _ _ x _ from ha)
         cases (show Dq _ _ y _ from hb)
         exact wo_of op_isN ⟨rfl, k⟩)
  | IsNot =>
    simp only [opCmp] at e
    split at e
    · cases e
      cases (show Dq _ _ x _ from ha)
      cases (show Dq _ _ y _ from hb)
      exact wo_of op_notBl ⟨_, _, rfl, rfl, k⟩
    all_goals first
      | (cases e; done)
      | (cases e
         cases (show Dq _ _ x _ from ha)
         cases (show Dq _ _ y _ from hb)
         exact wo_of op_notN ⟨rfl, k⟩)
  | In => exact (in_ok hu E ha hb e).1 Q k
  | NotIn =>
    obtain ⟨r', e3, e⟩ := Option.map_eq_some_iff.mp e
    subst e
    exact (in_ok hu E ha hb e3).2 Q k
end
end PL
set_option maxRecDepth 100000
set_option maxHeartbeats 4000000
/-! PL3c: subscripts and slices, dicts made of pairs, sorted, list of a text. -/
namespace PL
open PySem PySem.Spec PyProof.Rows L2
def WX (X : Cx) (x y : V) (H : Hp) (Q : VK) : Prop :=
  ∀ (value slice : Expr) (pins : List (Addr × Obj)) (s : Shared) (σ : L2.St) (v u : Value), Inv X pins σ H s → RelV x v → RelV y u →
    subscripted slice false v u = operate [v, u] (getItem v u) → wpAny (model X.prog X.w) X.A (subscriptTail value slice v u) (EP X pins σ Q) X.xe s
def WSl (X : Cx) (x : V) (lo hi : Option Int) (H : Hp) (Q : VK) : Prop :=
  ∀ (pins : List (Addr × Obj)) (s : Shared) (σ : L2.St) (v vl vu : Value) (sl : Addr), Inv X pins σ H s → RelV x v → s.heap.IsSliceOf sl vl vu .none → IsPart vl lo → IsPart vu hi →
    ∃ T id, typeLookup (.type T) "__getitem__" = pure (some (.builtin id)) ∧ s.TypeIs v T ∧ wpAny (model X.prog X.w) X.A (getItem v (.ref sl)) (EP X pins σ Q) X.xe s
section
variable {X : Cx}
theorem ix_wx : IxR X (fun x y H Q => WX X x y H Q) := fun value slice pins s σ H x y v u Q I rx ry q hs => q value slice pins s σ v u I rx ry hs
theorem wx_of {r : R2} {x y : V} {H : Hp} {Q : VK} (h : IxR X r) (q : r x y H Q) : WX X x y H Q := fun value slice pins s σ v u I rx ry hs => h value slice pins s σ H x y v u Q I rx ry q hs
theorem sl_wsl : SlR X (fun x lo hi H Q => WSl X x lo hi H Q) := fun pins s σ H x v vl vu lo hi sl Q I rx hs pl pu q => q pins s σ v vl vu sl I rx hs pl pu
theorem wsl_of {r : V → Option Int → Option Int → Hp → VK → Prop} {x : V} {lo hi : Option Int} {H : Hp} {Q : VK} (h : SlR X r) (q : r x lo hi H Q) : WSl X x lo hi H Q := fun pins s σ v vl vu sl I rx hs pl pu => h pins s σ H x v vl vu lo hi sl Q I rx hs pl pu q
theorem ix_dict (hu : X.A.units + 1 < cLine) : IxR X (fun x y H Q => ∃ a v, x = .ref a ∧ DGet H a y (some v) ∧ Q v H) := by
  intro value slice pins s σ H x y v u Q I rx ry h hs
  obtain ⟨a, z, rfl, g, q⟩ := h
  obtain rfl : v = Value.ref a := rx
  exact tail_any (ops := [.ref a, u]) (dict_typeIs I g) PySem.F.slot_dict_getitem.lookup (d_getItem hu I g ry fun w' s3 I3 rw' => ⟨z, H, I3, rw', q⟩) hs
variable {O : List Addr} {α : Nat → Addr} {env : En} {σ : L2.St} {Ha Hb H : Hp} {a b : RV} {x y : V} {Q : VK}
theorem atD_get {vs : List V} {ds : List Da} {i : Int} {d : Da} {K : PySem.W.Frag} {G : Hp} (h : DqA K G vs ds) (e : atI ds i = some d) : ∃ v, atI vs i = some v ∧ Dq K G v d := by
  unfold atI at e ⊢
  rw [h.length]
  obtain ⟨j, e1, e2⟩ := Option.bind_eq_some_iff.mp e
  obtain ⟨v, h1, h2⟩ := h.get e2
  exact ⟨v, by rw [e1]; exact h1, h2⟩
theorem idx_ok (hu : X.A.units + 65 < cLine) (E : EnvR X.K O α env σ H) (ha : RvR X.K O α env Ha H a x) (hb : RvR X.K O α env Hb H b y) {d : Da} (e : opIdx a b = some d) (k : ∀ v, Dq X.K (Fz O H) v d → Q v H) : WX X x y H Q := by
  unfold opIdx at e
  split at e
  · obtain ⟨kk, hk, e2⟩ := Option.bind_eq_some_iff.mp e
    have ey := Dq.key (show Dq _ _ y _ from hb) hk
    subst ey
    obtain ⟨p, rfl, ws, h1, h2⟩ := ha.obr E rfl
    rcases h2.look kk with ⟨_, z⟩ | ⟨v, d', z1, z2, z3⟩
    · rw [z] at e2
      cases e2
    · rw [z2] at e2
      cases e2
      refine wx_of (ix_dict (by omega)) ⟨p, v, rfl, ?_, k v z3⟩
      rw [← z1]
      exact .k h1
  · obtain ⟨kk, hk, e2⟩ := Option.bind_eq_some_iff.mp e
    cases (show Dq _ _ y _ from hb) with
    | tup g t =>
      have ev := t.keys hk
      subst ev
      obtain ⟨p, rfl, ws, h1, h2⟩ := ha.obr E rfl
      rcases h2.look kk with ⟨_, z⟩ | ⟨v, d', z1, z2, z3⟩
      · rw [z] at e2
        cases e2
      · rw [z2] at e2
        cases e2
        refine wx_of (ix_dict (by omega)) ⟨p, v, rfl, ?_, k v z3⟩
        rw [← z1]
        exact .t h1 (Fz.sub _ _ g)
  · cases (show Dq _ _ y _ from hb)
    split at e
    · rename_i xs ea
      obtain ⟨p, vs, rfl, h1, h2⟩ := ha.vw E ea
      obtain ⟨v, h3, h4⟩ := atD_get h2 e
      exact wx_of ix_list ⟨p, vs, _, v, rfl, rfl, h1, h3, k v h4⟩
    · rename_i xs ea
      cases (show Dq _ _ x _ from ha.vw E ea) with
      | tup g t =>
        obtain ⟨v, h3, h4⟩ := atD_get t e
        exact wx_of ix_tup ⟨_, _, _, v, rfl, rfl, .of (Fz.sub _ _ g), h3, k v h4⟩
    · cases e
  · cases e
theorem slc_ok (E : EnvR X.K O α env σ H) (ha : RvR X.K O α env Ha H a x) {lo hi : Option Int} {r : RV} (e : opSlc a lo hi = some r) (k : ∀ v H', Rn X.K O H H' r v → Q v H') : WSl X x lo hi H Q := by
  unfold opSlc at e
  split at e
  · rename_i xs ea
    cases e
    obtain ⟨p, vs, rfl, h1, h2⟩ := ha.vw E ea
    exact wsl_of sl_list ⟨p, vs, rfl, h1, fun q hq => k _ _ (Rn.lst E.trk hq (h2.cut lo hi))⟩
  · rename_i xs ea
    cases e
    cases (show Dq _ _ x _ from ha.vw E ea) with
    | tup g t =>
      refine wsl_of sl_tupA ⟨_, _, rfl, .of (Fz.sub _ _ g), fun hw => ?_, fun _ q hq => k _ _ (Rn.tup E.trk hq (t.cut lo hi))⟩
      refine k _ _ (.val ?_)
      have e : cutD xs lo hi = xs := by
        unfold cutD
        rw [← t.length, hw.1, hw.2, List.drop_zero, Nat.sub_zero, t.length, List.take_length]
      rw [e]
      exact .tup g t
  · rename_i z ea
    obtain ⟨u, hg, e2⟩ := Option.map_eq_some_iff.mp e
    subst e2
    cases (show Dq _ _ x _ from ha.vw E ea)
    exact wsl_of sl_str ⟨_, rfl, lim_line (gd_some hg), k _ _ (.val (.str _))⟩
  · cases e
/-! ### dicts of pairs -/
theorem pairsK_rel {K : PySem.W.Frag} {G : Hp} : ∀ {vs : List V} {ds : List Da} {kvs : List (Key × Da)}, DqA K G vs ds → pairsK ds = some kvs →
    ∃ (ps : List Addr) (ws : List (Key × V)), vs = ps.map V.ref ∧ Paired (fun p w => G p = some (.tup [kV w.1, w.2])) ps ws ∧ KvA K G ws kvs
  | _, [], _, h, e => by
    cases h
    cases e
    exact ⟨[], [], rfl, .nil, .nil⟩
  | _, d :: ds, kvs, h, e => by
    cases h with
    | cons hd t =>
      unfold pairsK at e
      split at e
      · cases ‹_ :: _ = []›
      · rename_i k v r eq
        cases eq
        obtain ⟨kk, e1, e2⟩ := Option.bind_eq_some_iff.mp e
        obtain ⟨m, e3, e4⟩ := Option.map_eq_some_iff.mp e2
        subst e4
        obtain ⟨ps, ws, ev, hp, hk⟩ := pairsK_rel t e3
        cases hd with
        | tup g t2 =>
          cases t2 with
          | cons h1 t3 =>
            cases t3 with
            | cons h2 t4 =>
              cases t4
              have ek := h1.key e1
              subst ek ev
              exact ⟨_ :: ps, (kk, _) :: ws, rfl, .cons g hp, .cons ⟨rfl, h2⟩ hk⟩
      · cases e
theorem pairsT_rel {K : PySem.W.Frag} {G : Hp} : ∀ {vs : List V} {ds : List Da} {kvs : List (List Key × Da)}, DqA K G vs ds → pairsT ds = some kvs →
    ∃ (ps : List Addr) (ws : List (List Key × Addr × V)), vs = ps.map V.ref ∧ Paired (fun p w => G p = some (.tup [.ref w.2.1, w.2.2]) ∧ G w.2.1 = some (.tup (w.1.map kV))) ps ws ∧ KvA K G (ws.map fun w => (w.1, w.2.2)) kvs
  | _, [], _, h, e => by
    cases h
    cases e
    exact ⟨[], [], rfl, .nil, .nil⟩
  | _, d :: ds, kvs, h, e => by
    cases h with
    | cons hd t =>
      unfold pairsT at e
      split at e
      · cases ‹_ :: _ = []›
      · rename_i k v r eq
        cases eq
        obtain ⟨kk, e1, e2⟩ := Option.bind_eq_some_iff.mp e
        obtain ⟨m, e3, e4⟩ := Option.map_eq_some_iff.mp e2
        subst e4
        obtain ⟨ps, ws, ev, hp, hk⟩ := pairsT_rel t e3
        cases hd with
        | tup g t2 =>
          cases t2 with
          | cons h1 t3 =>
            cases t3 with
            | cons h2 t4 =>
              cases t4
              cases h1 with
              | tup gk tk =>
                have ek := tk.keys e1
                subst ek ev
                exact ⟨_ :: ps, (kk, _, _) :: ws, rfl, .cons ⟨g, gk⟩ hp, .cons ⟨rfl, h2⟩ hk⟩
      · cases e
theorem KvA.puts {κ : Type} [DecidableEq κ] {K : PySem.W.Frag} {G : Hp} : ∀ {ws more : List (κ × V)} {kvs mds : List (κ × Da)}, KvA K G ws kvs → KvA K G more mds →
    KvA K G (more.foldl (fun acc kv => putK acc kv.1 kv.2) ws) (PL.puts kvs mds)
  | _, _, _, _, h, .nil => h
  | _, (k1, v) :: _, _, (k2, d) :: _, h, .cons a t => by
    have e : k1 = k2 := a.1
    subst e
    have z := KvA.puts (h.put k1 a.2) t
    exact z
theorem foldl_put_len {κ : Type} [DecidableEq κ] : ∀ (more ws : List (κ × V)), (more.foldl (fun acc kv => putK acc kv.1 kv.2) ws).length ≤ ws.length + more.length
  | [], ws => Nat.le_refl _
  | a :: more, ws => by
    rw [List.foldl_cons]
    have h1 := foldl_put_len more (putK ws a.1 a.2)
    have h2 := length_putK ws a.1 a.2
    rw [List.length_cons]
    omega
theorem pairs_ofT {pins : List (Addr × Obj)} {σ : L2.St} {H : Hp} {s : Shared} (I : Inv X pins σ H s) : ∀ {ps : List Addr} {ws : List (List Key × Addr × V)}, Paired (fun p w => H p = some (.tup [.ref w.2.1, w.2.2]) ∧ H w.2.1 = some (.tup (w.1.map kV))) ps ws →
    ∃ xs : List (List Key × Addr × Value), Paired (fun (w : List Key × Addr × V) (x : List Key × Addr × Value) => w.1 = x.1 ∧ w.2.1 = x.2.1 ∧ RelV w.2.2 x.2.2 ∧ H x.2.1 = some (.tup (x.1.map kV))) ws xs ∧ xs.length = ps.length ∧
      ∀ (j : Nat) (x : List Key × Addr × Value), xs[j]? = some x → ∃ b : Addr, ps[j]? = some b ∧ s.heap.IsTuple b #[.ref x.2.1, x.2.2]
  | _, _, .nil => ⟨[], .nil, rfl, fun j q e => by simp at e⟩
  | _, _, .cons (a := p) (b := w) h t => by
    obtain ⟨xs, r, hl, hp⟩ := pairs_ofT I t
    obtain ⟨its, rv, ht, _⟩ := I.tuple (.of h.1)
    obtain ⟨u, y, ei, ru, ry⟩ := vals2 rv
    subst ei
    cases ru
    refine ⟨(w.1, w.2.1, y) :: xs, .cons ⟨rfl, rfl, ry, h.2⟩ r, by rw [List.length_cons, List.length_cons, hl], fun j q e => ?_⟩
    cases j with
    | zero =>
      cases (show some (w.1, w.2.1, y) = some q from e)
      exact ⟨p, rfl, ht⟩
    | succ j =>
      obtain ⟨b, e1, e2⟩ := hp j q (by simpa using e)
      exact ⟨b, by simpa using e1, e2⟩
theorem KT.fold {H : Hp} : ∀ {ws : List (List Key × Addr × V)} {xs : List (List Key × Addr × Value)}, Paired (fun (w : List Key × Addr × V) (x : List Key × Addr × Value) => w.1 = x.1 ∧ w.2.1 = x.2.1 ∧ RelV w.2.2 x.2.2 ∧ H x.2.1 = some (.tup (x.1.map kV))) ws xs →
    ∀ {kvs : List (List Key × V)} {acc : List (List Key × Addr × Value)}, KT H kvs acc → KT H ((ws.map fun w => (w.1, w.2.2)).foldl (fun acc kv => putK acc kv.1 kv.2) kvs) (storedAllH acc xs)
  | _, _, .nil, _, _, h => h
  | (k1, a1, v1) :: _, (k2, a2, v2) :: _, .cons r t, kvs, acc, h => by
    obtain ⟨e1, e2, e3, e4⟩ := r
    have e1 : k1 = k2 := e1
    subst e1
    exact KT.fold t (L2.KT.put h k1 (b := a2) (y := v1) (u := v2) e4 e3)
theorem call_dictT (hcalm : X.calm = true) (hu : X.A.units + 64 < cLine) : CallR X (.type "dict") (fun xs H Q => ∃ (a : Addr) (ps : List Addr) (ws : List (List Key × Addr × V)), xs = [.ref a] ∧ SqL X.K H a (ps.map V.ref) ∧
    Paired (fun p w => H p = some (.tup [.ref w.2.1, w.2.2]) ∧ H w.2.1 = some (.tup (w.1.map kV))) ps ws ∧ ∀ p, H p = none → Q (.ref p) (upd H p (.dT ((ws.map fun w => (w.1, w.2.2)).foldl (fun acc kv => putK acc kv.1 kv.2) [])))) := by
  intro pins s σ H xs us Q I r q
  obtain ⟨a, ps, ws, rfl, hq, hp, q⟩ := q
  obtain ⟨u, rfl, rx⟩ := vals1 r
  cases rx
  obtain ⟨its, rv, pl, hz⟩ := I.list hq
  have ei := refs_at rv
  subst ei
  rw [List.length_map] at hz
  obtain ⟨kx, rel, hl, hpr⟩ := pairs_ofT I hp
  have hlw : ws.length = ps.length := (Paired.length hp).symm
  obtain ⟨o, n, ho, hc, hd, hdat⟩ := pl
  have hitems : PairItems s.heap (ps.map Value.ref).toArray (fun j => ps.getD j 0) (kx.map fun x => (Value.ref x.2.1, x.2.2)) := by
    refine ⟨by simp [hl], fun j key v e => ?_⟩
    rw [List.getElem?_map] at e
    obtain ⟨x, e1, e2⟩ := Option.map_eq_some_iff.mp e
    cases e2
    obtain ⟨b, e3, e4⟩ := hpr j x e1
    refine ⟨?_, .inl ?_⟩
    · simp [e3]
    · have eb : ps.getD j 0 = b := by rw [List.getD_eq_getElem?_getD, e3]; rfl
      show s.heap.IsTuple (ps.getD j 0) _
      rw [eb]
      exact e4
  have P := PairArg.list (prog := X.prog) (w := X.w) a (ps.map Value.ref).toArray (fun j => ps.getD j 0) (kx.map fun x => (Value.ref x.2.1, x.2.2))
  have room : (tupleKind (mixKind X.prog X.w)).room X.A.in1.in1 := by
    show X.A.in1.in1.units < cLine
    show X.A.units + 1 + 1 < cLine
    omega
  refine call_dict_pairsH (knd := tupleKind (mixKind X.prog X.w)) (ps := kx) P (I.ok.hd hcalm) room ⟨⟨o, n, ho, hc, hd, hdat⟩, hitems⟩ ⟨by simp, fun i key v e => ?_⟩ (fun h' hk x hx => ?_) (by rw [List.length_map, hl]; exact hz) fun h' tk hd' k => ?_
  · have e : (kx.map fun x => (Value.ref x.2.1, x.2.2))[i]? = some (key, v) := e
    rw [List.getElem?_map] at e
    obtain ⟨x, e1, e2⟩ := Option.map_eq_some_iff.mp e
    cases e2
    exact ⟨x.1, x.2.1, e1, rfl⟩
  · have hm : H x.2.1 = some (.tup (x.1.map kV)) := by
      have all : ∀ {ws' : List (List Key × Addr × V)} {xs' : List (List Key × Addr × Value)}, Paired (fun (w : List Key × Addr × V) (x : List Key × Addr × Value) => w.1 = x.1 ∧ w.2.1 = x.2.1 ∧ RelV w.2.2 x.2.2 ∧ H x.2.1 = some (.tup (x.1.map kV))) ws' xs' → ∀ x ∈ xs', H x.2.1 = some (.tup (x.1.map kV)) := by
        intro ws' xs' q
        induction q with
        | nil => intro x hx; exact nomatch hx
        | cons hq t ih =>
          intro x hx
          rcases List.mem_cons.mp hx with e | hx
          · subst e; exact hq.2.2.2
          · exact ih x hx
      exact all rel x hx
    have hk0 := key_of I.hok hm
    obtain ⟨o', items', n', h1, h2, h3, h4⟩ := hk0
    exact ⟨o', items', n', hk _ _ (Nat.ne_of_lt (Heap.lt_size h1)) (by simp) h1, h2, h3, h4⟩
  · have hm : (s.heap.objs.size == sysModules) = false := beq_eq_false_iff_ne.mpr (Nat.ne_of_gt I.big)
    have hlen : ((ws.map fun w => (w.1, w.2.2)).foldl (fun acc kv => putK acc kv.1 kv.2) ([] : List (List Key × V))).length ≤ sizeLine := by
      refine Nat.le_trans (foldl_put_len _ _) ?_
      rw [List.length_nil, Nat.zero_add, List.length_map, hlw]
      exact hz
    have kt0 : KT H ((ws.map fun w => (w.1, w.2.2)).foldl (fun acc kv => putK acc kv.1 kv.2) []) (storedAllH [] kx) := KT.fold rel .nil
    obtain ⟨o', es, ep, g1, g2, g3, g4, _, g6⟩ := hd'
    refine ⟨.ref s.heap.objs.size, upd H s.heap.objs.size (.dT ((ws.map fun w => (w.1, w.2.2)).foldl (fun acc kv => putK acc kv.1 kv.2) [])), I.laid (t' := tk) (fun b o e => k b o (by simp) e) (Nat.le_refl _) ?_, rfl, q _ (I.hok.fresh (Nat.le_refl _))⟩
    refine ⟨hlen, hm, storedAllH [] kx, kt0.keeps fun b ys e => ?_, o', es, ep, g1, g2, g3, g4, g6⟩
    rw [upd_ne (ne_of_none e (I.hok.fresh (Nat.le_refl _)))]
    exact e
end
end PL
set_option maxRecDepth 100000
set_option maxHeartbeats 4000000
/-! PL3d: sorted. -/
namespace PL
open PySem PySem.Spec PyProof.Rows L2
theorem map_id' {α : Type} (l : List α) : l.map (id : α → α) = l := List.map_id l
/-- what a datum's value is known to be -/
def Rs (K : PySem.W.Frag) (G : Hp) (u : Value) (d : Da) : Prop := ∃ v, RelV v u ∧ Dq K G v d
theorem each_of {K : PySem.W.Frag} {G : Hp} : ∀ {vs : List V} {us : List Value} {ds : List Da}, Vals vs us → DqA K G vs ds → PySem.W.EachIs (Rs K G) us ds
  | _, _, _, .nil, .nil => .nil
  | _, _, _, .cons r t, .cons h t' => .cons ⟨_, r, h⟩ (each_of t t')
theorem of_each {K : PySem.W.Frag} {G : Hp} : ∀ {us : List Value} {ds : List Da}, PySem.W.EachIs (Rs K G) us ds → ∃ vs, Vals vs us ∧ DqA K G vs ds
  | _, _, .nil => ⟨[], .nil, .nil⟩
  | _, _, .cons ⟨v, r, h⟩ t => let ⟨vs, a, b⟩ := of_each t; ⟨v :: vs, .cons r a, .cons h b⟩
theorem each_reads {X : Cx} {pins : List (Addr × Obj)} {σ : L2.St} {H G : Hp} {s : Shared} (I : Inv X pins σ H s) (e : Same G H) {us : List Value} {ds : List Da} (h : PySem.W.EachIs (Rs X.K G) us ds) :
    PySem.W.EachIs (fun v b => ∃ as, Reads s.heap v (id b) as) us ds := h.mono fun _ _ ⟨_, r, q⟩ => Dp.reads I _ _ _ (q.mono e).dp r
section
variable {X : Cx}
theorem each_len {α β : Type} {R : α → β → Prop} : ∀ {as : List α} {bs : List β}, PySem.W.EachIs R as bs → as.length = bs.length
  | _, _, .nil => rfl
  | _, _, .cons _ t => congrArg (· + 1) (each_len t)
theorem call_sortedL (hu : X.A.units + 66 < cLine) : CallR X (.builtin "sorted") (fun xs H Q => ∃ (a : Addr) (vs : List V) (ds : List Da) (G : Hp), xs = [.ref a] ∧ SqL X.K H a vs ∧ DqA X.K G vs ds ∧ Same G H ∧ sortOk ds ∧
    ∀ p vs', H p = none → DqA X.K G vs' (sortD ds) → Q (.ref p) (upd H p (.lst vs'))) := by
  intro pins s σ H xs us Q I r q
  obtain ⟨a, vs, ds, G, rfl, hs, hd, e, ⟨o1, o2, o3, o4⟩, q⟩ := q
  obtain ⟨u, rfl, rx⟩ := vals1 r
  cases rx
  obtain ⟨its, rv, hl, hz⟩ := I.list hs
  have he := each_of rv hd
  have em : ds.map id = ds := map_id' ds
  refine PySem.W.sorted_data (enc := id) (R := Rs X.K G) hl.isList he (each_reads I e he) (by rw [em]; exact o1) (by rw [em]; exact o2) (lim_line o3) (fun b hb => ?_) fun out ho eo => ?_
  · have := o4 b hb
    show X.A.units + 2 + b.depth < cLine
    omega
  · obtain ⟨vs', rv', hd'⟩ := of_each eo
    obtain ⟨c, hc⟩ := sortedAll_at s.heap its (List.toArray out)
    have hp : s.heap.objs.size ≤ s.heap.objs.size + 1 := Nat.le_succ _
    refine ⟨.ref (s.heap.objs.size + 1), upd H (s.heap.objs.size + 1) (.lst vs'), I.laid (t' := s.toks) (fun b u e => sortedAll_old e) hp ?_, rfl, q _ vs' (I.hok.fresh hp) hd'⟩
    refine ⟨?_, out, c, rv', hc⟩
    rw [rv'.length, ho]
    exact lim_line o3
theorem sort_new (hu : X.A.units + 66 < cLine) {pins : List (Addr × Obj)} {s : Shared} {σ : L2.St} {H G : Hp} {us : List Value} {ds : List Da} {Q : VK} {vs : List V} (I : Inv X pins σ H s) (e : Same G H) (rv : Vals vs us) (hd : DqA X.K G vs ds) (ok : sortOk ds)
    (q : ∀ p vs', H p = none → DqA X.K G vs' (sortD ds) → Q (.ref p) (upd H p (.lst vs'))) {Q' : Value → Shared → Prop}
    (fin : ∀ s', EP X pins σ Q (.ref s.heap.objs.size) s' → Q' .none s') :
    wpAny (model X.prog X.w) X.A.in1 (call (.builtin "list.sort") [.ref s.heap.objs.size]) Q' X.xe { s with heap := s.heap.push (seqObj "list" us.toArray 0) } := by
  obtain ⟨o1, o2, o3, o4⟩ := ok
  have hoL : (s.heap.push (seqObj "list" us.toArray 0)).get? s.heap.objs.size = some (seqObj "list" us.toArray 0) := Heap.get?_push_size _ rfl
  have I2 : Inv X pins σ H { s with heap := s.heap.push (seqObj "list" us.toArray 0) } := I.kept (t' := s.toks) fun b u q => Heap.get?_push_of_some _ q
  have he := each_of rv hd
  have em : ds.map id = ds := map_id' ds
  have old : ∀ (b : Addr) (o : Obj), s.heap.get? b = some o → (PySem.W.sortingHeap (s.heap.push (seqObj "list" us.toArray 0)) s.heap.objs.size us).get? b = some o := fun b o e => by
    have hb := Heap.lt_size e
    exact PySem.W.sortingHeap_old (Nat.ne_of_lt hb) (Heap.get?_push_of_some _ e)
  have er' : PySem.W.EachIs (fun v b => ∃ as, Reads (PySem.W.sortingHeap (s.heap.push (seqObj "list" us.toArray 0)) s.heap.objs.size us) v (id b) as) us ds := (each_reads I e he).mono fun _ _ ⟨as, r⟩ => ⟨as, PyProof.Rows.Reads.keeps old r⟩
  refine wpAny_call_entry PyProof.Rows.slot_list_sort ⟨_, hoL, rfl⟩ PyProof.Rows.entry_list_sort (PySem.W.list_sort_vals (s := { s with heap := s.heap.push (seqObj "list" us.toArray 0) }) hoL
    (PySem.W.SortsAt.data (s := { s with heap := PySem.W.sortingHeap (s.heap.push (seqObj "list" us.toArray 0)) s.heap.objs.size us }) (PySem.W.each_map (R := fun v d => ∃ as, Reads (PySem.W.sortingHeap (s.heap.push (seqObj "list" us.toArray 0)) s.heap.objs.size us) v d as) id er') (by rw [em]; exact o1) (by rw [em]; exact o2) ?_) (by rw [each_len he]; exact lim_line o3) ⟨.none, rfl, ?_⟩) (PyProof.Rows.args_list_sort _)
  · rw [em]
    intro d hd
    have := o4 d hd
    show X.A.units + 1 + 1 + d.depth < cLine
    omega
  · have eo := PySem.W.sortVals_data (enc := id) false he er' (by rw [em]; exact o1)
    obtain ⟨vs', rv', hd'⟩ := of_each eo
    obtain ⟨c, hc⟩ := sortedHeap_at (vs := us) (out := (PySem.W.sortVals (PySem.W.dataKind (PySem.W.sortingHeap (s.heap.push (seqObj "list" us.toArray 0)) s.heap.objs.size us) (ds.map id)) false us us).toArray) hoL
    refine fin _ ⟨.ref s.heap.objs.size, upd H s.heap.objs.size (.lst vs'), I.laid (t' := s.toks) (fun b u e => ?_) (Nat.le_refl _) ?_, rfl, q _ vs' (I.hok.fresh (Nat.le_refl _)) hd'⟩
    · have hb : b < s.heap.objs.size := Heap.lt_size e
      rw [PyProof.Rows.sortedHeap_old (Nat.ne_of_lt hb) (by rw [size_push']; exact Nat.lt_succ_of_lt hb)]
      exact Heap.get?_push_of_some _ e
    · refine ⟨?_, _, c, rv', hc⟩
      rw [rv'.length, each_len eo]
      have : (ds.mergeSort (PySem.W.dataLe false id)).length = ds.length := List.length_mergeSort _
      rw [this]
      exact lim_line o3
/-- sorted of what collects to us -/
theorem sorted_col (hcalm : X.calm = true) (hu : X.A.units + 68 < cLine) {pins : List (Addr × Obj)} {s : Shared} {σ : L2.St} {H G : Hp} {ds : List Da} {Q : VK} {r : Value} (I : Inv X pins σ H s) (e : Same G H) (ok : sortOk ds)
    (q : ∀ p vs', H p = none → DqA X.K G vs' (sortD ds) → Q (.ref p) (upd H p (.lst vs')))
    (col : ∀ (R : List Value → Shared → Prop), (∀ (us : List Value) (vs : List V) (h' : Heap) (tk : Nat), (∀ b o, s.heap.get? b = some o → h'.get? b = some o) → Vals vs us → DqA X.K G vs ds → R us { s with heap := h', toks := tk }) → wpAny (model X.prog X.w) X.A.in1 (collect r) R X.xe s) :
    wpAny (model X.prog X.w) X.A (call (.builtin "sorted") [r]) (EP X pins σ Q) X.xe s := by
  refine Calls.call_function_entry PyProof.Rows.kind_sorted PyProof.Rows.plain_sorted PyProof.Rows.entry_sorted (PyProof.Rows.args_sorted1 _) ?_
  unfold Builtin.«sorted»
  refine wpAny_bind (m := checkCount "sorted" 1 1 _) (wpAny_pure ?_)
  refine wpAny_bind (col _ fun us vs h' tk hk rv hd => ?_)
  have hl : us.length ≤ sizeLine := by
    rw [← rv.length, hd.length]
    exact lim_line ok.2.2.1
  have I1 : Inv X pins σ H { s with heap := h', toks := tk } := I.kept hk
  refine wpAny_bind (wpAny_newList ?_ hl)
  refine wpAny_bind (wpAny_holding (wpAny_mono (sort_new (by omega) I1 e rv hd ok q (Q' := fun _ s' => EP X pins σ Q (.ref h'.objs.size) s') fun s' x => x) (fun _ s' x => ?_) fun _ _ e => e))
  exact wpAny_pure ⟨_, rfl, x⟩
end
end PL
set_option maxRecDepth 100000
set_option maxHeartbeats 4000000
/-! PL3e: sorted of a dict, list of a text, a text or list turned round. -/
namespace PL
open PySem PySem.Spec PyProof.Rows L2
section
variable {X : Cx}
theorem call_sortedK (hcalm : X.calm = true) (hu : X.A.units + 68 < cLine) : CallR X (.builtin "sorted") (fun xs H Q => ∃ (a : Addr) (kvs : List (Key × V)), xs = [.ref a] ∧ H a = some (.dK kvs) ∧ sortOk (kvs.map fun kv => dOfKey kv.1) ∧
    ∀ p vs', H p = none → DqA X.K (fun _ => none) vs' (sortD (kvs.map fun kv => dOfKey kv.1)) → Q (.ref p) (upd H p (.lst vs'))) := by
  intro pins s σ H xs us Q I r q
  obtain ⟨p, kvs, rfl, hk, ok, q⟩ := q
  obtain ⟨u, rfl, rx⟩ := vals1 r
  obtain rfl : u = Value.ref p := rx
  obtain ⟨z, lo, vs, rk, hd⟩ := (show ObjOk X.prog X.w H s.heap p (.dK kvs) from I.hok p _ hk)
  obtain ⟨ep, hat⟩ := hd.dictAt
  have hl : kvs.length = vs.length := Paired.length rk
  refine sorted_col hcalm hu I (fun _ _ e => by cases e) ok q fun R hR => ?_
  refine PySem.W.kdu_collect (A := X.A.in1) (PySem.W.kdl_dict (knd := mixKind X.prog X.w) (kvs := vs) (ep := ep) lo) (I.ok.hd hcalm) hat (by rw [← hl]; exact z) fun h' tk acc hkeep hacc => ?_
  refine hR acc.toList (kvs.map fun kv => kV kv.1) h' tk hkeep ?_ ?_
  · have el : acc.toList.length = acc.size := by simp
    refine vals_of_at (by rw [List.length_map, el, hacc.1, hl]) fun j x w h1 h2 => ?_
    obtain ⟨k, y, hky, hi⟩ := hacc.2 j w (by rw [← Array.getElem?_toList]; exact h2)
    have e1 : (kvs.map (·.1))[j]? = some k := by
      rw [KV.keys rk, List.getElem?_map, hky] <;> rfl
    have e2 : (kvs.map fun kv => kV kv.1)[j]? = some (kV k) := by
      have e3 : (kvs.map fun kv => kV kv.1) = (kvs.map (·.1)).map kV := by rw [List.map_map] <;> rfl
      rw [e3, List.getElem?_map, e1] <;> rfl
    rw [e2] at h1
    cases h1
    exact keyIs_rel hi
  · have e3 : (kvs.map fun kv => kV kv.1) = (kvs.map (·.1)).map kV := by rw [List.map_map] <;> rfl
    have e4 : (kvs.map fun kv => dOfKey kv.1) = (kvs.map (·.1)).map dOfKey := by rw [List.map_map] <;> rfl
    rw [e3, e4]
    exact .ofKeys _
open Classical in
theorem keysT {K : PySem.W.Frag} {H : Hp} : ∀ {kvs : List (List Key × V)} {bs : List Addr}, IsKeys H kvs bs → DqA K (fun a => if IsM (H a) then none else H a) (bs.map V.ref) (kvs.map fun kv => .tuple (kv.1.map dOfKey))
  | _, _, .nil => .nil
  | _, _, .cons h t => .cons (.tup ((if_neg (by rw [h]; exact fun z => z)).trans h) (.ofKeys _)) (keysT t)
open Classical in
theorem call_sortedT (hcalm : X.calm = true) (hu : X.A.units + 68 < cLine) : CallR X (.builtin "sorted") (fun xs H Q => ∃ (a : Addr) (kvs : List (List Key × V)), xs = [.ref a] ∧ H a = some (.dT kvs) ∧ sortOk (kvs.map fun kv => .tuple (kv.1.map dOfKey)) ∧
    ∀ p vs', H p = none → DqA X.K (fun a => if IsM (H a) then none else H a) vs' (sortD (kvs.map fun kv => .tuple (kv.1.map dOfKey))) → Q (.ref p) (upd H p (.lst vs'))) := by
  intro pins s σ H xs us Q I r q
  obtain ⟨d, kvs, rfl, hd, ok, q⟩ := q
  obtain ⟨u, rfl, rx⟩ := vals1 r
  obtain rfl : u = Value.ref d := rx
  obtain ⟨z, hs, ks, pr, o, es, ep, ho, hx, hdt, he, hn⟩ := (show ObjOk X.prog X.w H s.heap d (.dT kvs) from I.hok d _ hd)
  have l1 : es.size = ks.length := size_of_entries he
  have l2 : kvs.length = ks.length := Paired.length pr
  refine sorted_col hcalm hu I (fun a o z => by split at z; cases z; exact z) ok q fun R hR => ?_
  refine PySem.W.kdu_collect (A := X.A.in1) (kdl_raw hs hx hdt) (I.ok.hd hcalm) ho (by omega) fun h' tk acc' kp it => ?_
  have ea : acc'.toList = ks.map fun x => Value.ref x.2.1 := by
    have hl : acc'.toList.length = ks.length := by rw [Array.length_toList, it.1]; exact l1
    apply List.ext_getElem?
    intro j
    rw [List.getElem?_map]
    cases hj : acc'.toList[j]? with
    | none =>
      have h1 := List.getElem?_eq_none_iff.mp hj
      rw [List.getElem?_eq_none (by omega)]
      all_goals rfl
    | some v =>
      obtain ⟨en, hen, hv⟩ := it.2 j v (by rw [← Array.getElem?_toList]; exact hj)
      have qe := entry_at he j
      rw [hen] at qe
      cases hb : ks[j]? with
      | none =>
        rw [hb] at qe
        exact nomatch (show some en = none from qe)
      | some b =>
        rw [hb] at qe
        have e2 : en = entryOfKey (tupleKind (mixKind X.prog X.w)) b := Option.some.inj qe
        rw [hv, e2]
        all_goals rfl
  have eb : acc'.toList = (ks.map fun x => x.2.1).map Value.ref := by rw [ea, List.map_map]; all_goals rfl
  exact hR acc'.toList ((ks.map fun x => x.2.1).map V.ref) h' tk kp (by rw [eb]; exact vals_refs _) (keysT (isKeys_of pr))
theorem call_listS (hcalm : X.calm = true) : CallR X (.type "list") (fun xs H Q => ∃ x : Str, xs = [.str x] ∧ x.length ≤ LIM ∧ ∀ p, H p = none → Q (.ref p) (upd H p (.lst (x.cps.toList.map fun c => V.str ⟨#[c]⟩)))) := by
  intro pins s σ H xs us Q I r h
  obtain ⟨x, rfl, hx, q⟩ := h
  obtain ⟨u, rfl, rx⟩ := vals1 r
  obtain ⟨t, rfl⟩ := (show ∃ t, u = Value.str x t from rx)
  have hz : x.cps.size ≤ sizeLine := lim_line hx
  refine call_list_str (I.ok.hd hcalm) x t (fun h' tk acc' c' hk hS hacc => ?_) hz
  refine ⟨.ref s.heap.objs.size, _, I.laid (t' := tk) (o := .lst (x.cps.toList.map fun c => V.str ⟨#[c]⟩)) hk (Nat.le_refl _) (show ObjOk X.prog X.w _ _ _ (.lst _) from ⟨by rw [List.length_map, Array.length_toList]; exact hz, acc'.toList, c', ?_, by rw [Array.toArray_toList]; exact hS⟩), rfl, q _ (I.hok.fresh (Nat.le_refl _))⟩
  refine vals_of_at (by rw [List.length_map, Array.length_toList, Array.length_toList, hacc.1]) fun j y w h1 h2 => ?_
  have h3 := hacc.2 j w (by rw [← Array.getElem?_toList]; exact h2)
  obtain ⟨c, t', hc, hw⟩ := h3
  rw [List.getElem?_map, Array.getElem?_toList, hc] at h1
  cases h1
  exact ⟨t', hw⟩
/-- xs[::-1] -/
def rRev (K : PySem.W.Frag) (x : V) (H : Hp) (Q : VK) : Prop :=
  (∃ a xs, x = .ref a ∧ SqL K H a xs ∧ ∀ p, H p = none → Q (.ref p) (upd H p (.lst xs.reverse))) ∨ ∃ z : Str, x = .str z ∧ z.length ≤ LIM ∧ Q (.str (strOf z.cps.toList.reverse)) H
def tRev (K : PySem.W.Frag) (te : TE) : TE := fun σ H Q => te σ H fun x H1 => rRev K x H1 Q
theorem pe_rev {e : Expr} {te : TE} {k : Nat} {p1 p2 p3 pos : Pos} (he : PE X e te) : PE X (.Subscript e (.Slice none none (some (.UnaryOp .USub (.Constant (.int 1) k p1) p2)) p3) pos) (tRev X.K te) := by
  refine ⟨fun pins s σ H Q I h => ?_⟩
  refine Subscript_ (thn (he.run pins s σ H _ I h) fun v s1 ⟨x, H1, I1, r1, q1⟩ => ?_)
  have hst : PO X (some (.UnaryOp .USub (.Constant (.int 1) k p1) p2)) (tPart (tUn (rU fun i => .int (-i)) (tC (.int 1)))) := po_some (pe_un un_neg pe_int)
  refine wpAny_Slice (thn (po_none.run pins s1 σ H1 (fun o H2 => o = none ∧ H2 = H1) I1 ⟨rfl, rfl⟩) fun vl s2 ⟨l, H2, I2, pl, el, e2⟩ => ?_)
  subst el e2
  refine thn (po_none.run pins s2 σ H2 (fun o H3 => o = none ∧ H3 = H2) I2 ⟨rfl, rfl⟩) fun vu s3 ⟨u, H3, I3, pu, eu, e3⟩ => ?_
  subst eu e3
  refine thn (hst.run pins s3 σ H3 (fun o H4 => o = some (-1) ∧ H4 = H3) I3 ⟨1, rfl, -1, rfl, rfl, rfl⟩) fun vs s4 ⟨o, H4, I4, ps, eo, e4⟩ => ?_
  subst eo e4
  have I5 : Inv X pins σ H4 { s4 with heap := s4.heap.push { cls := .type "slice", data := .fields #[vl, vu, vs] } } := I4.kept (t' := s4.toks) fun b ob q => Heap.get?_push_of_some _ q
  rcases q1 with ⟨a, xs, rfl, hx, q⟩ | ⟨z, rfl, hz, q⟩
  · cases r1
    obtain ⟨its, r, ht, hz⟩ := I5.list hx
    have hlen := r.length
    show wpAny (model X.prog X.w) X.A (subscriptTail e (.Slice none none (some (.UnaryOp .USub (.Constant (.int 1) k p1) p2)) p3) (.ref a) (.ref s4.heap.objs.size)) (EP X pins σ Q) X.xe { s4 with heap := s4.heap.push { cls := .type "slice", data := .fields #[vl, vu, vs] } }
    refine tail_any (ops := [.ref a, .ref s4.heap.objs.size]) ht.isList.typeIs (PySem.slot_list_getitem.lookup) ?_ (by with_unfolding_all rfl)
    refine wpAny_getItem_list_slice ht.isList (Heap.IsSliceOf.new _ vl vu vs) pl pu ps (by decide) ?_ (by rw [List.size_toArray]; omega)
    rw [PySem.W.krv_pick]
    refine ⟨.ref _, _, I5.laid (t' := s4.toks) (o := .lst xs.reverse) (fun b ob q => Heap.get?_push_of_some _ q) (Nat.le_refl _) ?_, rfl, q _ (I5.hok.fresh (Nat.le_refl _))⟩
    exact ⟨by rw [List.length_reverse]; exact hz, _, 0, r.reverse, Heap.get?_push_size _ rfl⟩
  · obtain ⟨t, rfl⟩ := (show ∃ t, v = Value.str z t from r1)
    obtain ⟨l, rfl, el⟩ := IsPart.raw pl
    obtain ⟨u, rfl, eu⟩ := IsPart.raw pu
    obtain ⟨st, rfl, est⟩ := IsPart.raw ps
    obtain rfl : l = none := by cases l with
      | none => rfl
      | some _ => cases el
    obtain rfl : u = none := by cases u with
      | none => rfl
      | some _ => cases eu
    obtain ⟨tk, rfl⟩ : ∃ tk, st = some (-1, tk) := by cases st with
      | none => cases est
      | some p =>
        obtain ⟨i, tk⟩ := p
        cases est
        exact ⟨tk, rfl⟩
    show wpAny (model X.prog X.w) X.A (subscriptTail e (.Slice none none (some (.UnaryOp .USub (.Constant (.int 1) k p1) p2)) p3) (.str z t) (.ref s4.heap.objs.size)) (EP X pins σ Q) X.xe { s4 with heap := s4.heap.push { cls := .type "slice", data := .fields #[partValue none, partValue none, partValue (some (-1, tk))] } }
    refine tail_any (ops := [.str z t, .ref s4.heap.objs.size]) (PySem.typeIs_str _ _ _) PySem.F.slot_str_getitem.lookup ?_ (by with_unfolding_all rfl)
    refine wpAny_getItem_str_slice (l := none) (u := none) (st := some (-1, tk)) ⟨_, Heap.get?_push_size _ rfl, rfl, rfl⟩ rfl ?_
    have e : (slicePicked z none none (some (-1, tk))).filterMap (z.cps[·]?) = z.cps.toList.reverse := by
      unfold slicePicked
      show (Builtin.Str.strSliceIndices none none (-1) z.length).filterMap (z.cps[·]?) = _
      unfold Builtin.Str.strSliceIndices
      show (sliceRange ((z.length : Int) - 1) (-1) (-1)).filterMap (z.cps[·]?) = _
      rw [PySem.W.krv_sliceRange, PySem.W.krv_range, List.filterMap_reverse]
      show ((List.range z.cps.size).filterMap (z.cps[·]?)).reverse = _
      rw [PySem.W.krv_all]
    have hl : (strOf z.cps.toList.reverse).length ≤ sizeLine := by
      show z.cps.toList.reverse.toArray.size ≤ _
      rw [List.size_toArray, List.length_reverse, Array.length_toList]
      exact lim_line hz
    unfold sliceMade
    rw [if_neg (by simp), e]
    exact ⟨hl, .str _, H4, I5.tok _, ⟨_, rfl⟩, q⟩
end
end PL
set_option maxRecDepth 100000
set_option maxHeartbeats 4000000
/-! PL3f: the built-ins of PL1, over values. -/
namespace PL
open Classical
open PySem PySem.Spec PyProof.Rows L2
def bV : B → Value
  | .len => .builtin "len" | .all => .builtin "all" | .any => .builtin "any" | .sum => .builtin "sum" | .max => .builtin "max" | .min => .builtin "min"
  | .sorted => .builtin "sorted" | .tuple => .type "tuple" | .list => .type "list" | .dict => .type "dict" | .int => .type "int" | .abs => .builtin "abs" | .repr => .builtin "repr"
/-- what the arguments have come to -/
inductive RvA (K : PySem.W.Frag) (O : List Addr) (α : Nat → Addr) (env : En) (H : Hp) : List RV → List V → Prop
  | nil : RvA K O α env H [] []
  | cons {H0 : Hp} {r : RV} {v : V} {rs : List RV} {vs : List V} : (∀ a ∈ O, H0 a ≠ none) → (∀ a, H0 a ≠ none → H a ≠ none) → RvR K O α env H0 H r v → RvA K O α env H rs vs → RvA K O α env H (r :: rs) (v :: vs)
section
variable {X : Cx} {O : List Addr} {α : Nat → Addr} {env : En} {σ : L2.St} {H : Hp} {x : V} {xs : List V} {Q : VK}
theorem RvA.one {r : RV} (h : RvA X.K O α env H [r] xs) : ∃ H0 v, xs = [v] ∧ (∀ a ∈ O, H0 a ≠ none) ∧ RvR X.K O α env H0 H r v := by
  cases h with
  | cons e _ q t =>
    cases t
    exact ⟨_, _, rfl, e, q⟩
theorem RvA.two {r r' : RV} (h : RvA X.K O α env H [r, r'] xs) : ∃ H0 v H0' v', xs = [v, v'] ∧ RvR X.K O α env H0 H r v ∧ RvR X.K O α env H0' H r' v' := by
  cases h with
  | cons e _ q t =>
    cases t with
    | cons e' _ q' t' =>
      cases t'
      exact ⟨_, _, _, _, rfl, q, q'⟩
theorem call_reprB : CallR X (.builtin "repr") (fun xs H Q => ∃ b, xs = [.bl b] ∧ Q (.str (if b then ("True" : Str) else ("False" : Str))) H) := by
  intro pins s σ H xs us Q I r h
  obtain ⟨b, rfl, q⟩ := h
  obtain ⟨u, rfl, rx⟩ := vals1 r
  cases (show u = Value.bool b from rx)
  exact PySem.P.repr_of_bool ⟨.str _, H, I.tok _, ⟨_, rfl⟩, q⟩
theorem call_reprT (hu : X.A.units + 66 < cLine) (gs : X.A.guards = some []) : CallR X (.builtin "repr") (fun xs H Q => ∃ v ds, xs = [v] ∧ Dp X.K H v (.tuple ds) ∧ shOk ds ∧ Q (.str (PyData.tuple ds).shown) H) := by
  intro pins s σ H xs us Q I r h
  obtain ⟨v, ds, rfl, hd, ⟨o1, o2, o3, o4⟩, q⟩ := h
  obtain ⟨u, rfl, rx⟩ := vals1 r
  obtain ⟨as, rd⟩ := Dp.reads I (.tuple ds) v u hd rx
  cases rd with
  | tuple h1 h2 h3 h4 =>
    exact repr_of_reads' (.tuple h1 h2 h3 h4) o1 (PyData.noDict_hsm o2) gs (by omega) (fun _ _ e => e) (fun h' u tk kp => ⟨.str _, H, I.kept kp, ⟨_, rfl⟩, q⟩) (lim_line o3)
theorem pairs_at {K : PySem.W.Frag} {H : Hp} {G : Hp} (e : Same G H) {ps : List Addr} {ws : List (Key × V)} (h : Paired (fun p w => G p = some (.tup [kV w.1, w.2])) ps ws) : Paired (fun p kv => SqT K H p [kV kv.1, kv.2]) ps ws := L2.Paired.mapP h fun _ _ z => .of (e _ _ z)
theorem bcall_ok (hc : X.calm = true) (hu : X.A.units + 68 < cLine) (gs : X.A.guards = some []) (E : EnvR X.K O α env σ H) {b : B} {rs : List RV} (ha : RvA X.K O α env H rs xs) {r : RV} (e : bcall b rs = some r) (k : ∀ v H', Rn X.K O H H' r v → Q v H') : WC X (bV b) xs H Q := by
  unfold bcall at e
  split at e
  · -- len
    obtain ⟨H0, v, rfl, he, hr⟩ := ha.one
    split at e
    · obtain ⟨u, hg, e2⟩ := Option.map_eq_some_iff.mp e
      subst e2
      cases (show Dq _ _ v _ from hr)
      exact wc_of call_len_str ⟨_, rfl, lim_line (gd_some hg), k _ _ (.val (.int _))⟩
    · cases e
      obtain ⟨p, rfl, ws, h1, h2⟩ := hr.obr E rfl
      refine wc_of call_lenD ⟨p, ws, rfl, h1, ?_⟩
      rw [h2.length]
      exact k _ _ (.val (.int _))
    · split at e
      · rename_i ea
        cases e
        obtain ⟨p, vs, rfl, h1, h2⟩ := hr.vw E ea
        refine wc_of call_len_seq ⟨p, vs, rfl, .inl h1, ?_⟩
        rw [h2.length]
        exact k _ _ (.val (.int _))
      · rename_i ea
        cases e
        cases (show Dq _ _ v _ from hr.vw E ea) with
        | tup g t =>
          refine wc_of call_len_seq ⟨_, _, rfl, .inr (.of (Fz.sub _ _ g)), ?_⟩
          rw [t.length]
          exact k _ _ (.val (.int _))
      · cases e
  · -- all
    obtain ⟨H0, v, rfl, he, hr⟩ := ha.one
    split at e
    · rename_i ea
      obtain ⟨bs, e1, e2⟩ := Option.map_eq_some_iff.mp e
      subst e2
      obtain ⟨p, vs, rfl, h1, h2⟩ := hr.vw E ea
      have := h2.bools e1
      subst this
      exact wc_of (cr_all hc) ⟨p, bs, rfl, h1, k _ _ (.val (.bl _))⟩
    · cases e
  · -- any
    obtain ⟨H0, v, rfl, he, hr⟩ := ha.one
    split at e
    · rename_i ea
      obtain ⟨bs, e1, e2⟩ := Option.map_eq_some_iff.mp e
      subst e2
      obtain ⟨p, vs, rfl, h1, h2⟩ := hr.vw E ea
      have := h2.bools e1
      subst this
      exact wc_of (cr_any hc) ⟨p, bs, rfl, h1, k _ _ (.val (.bl _))⟩
    · cases e
  · -- sum
    obtain ⟨H0, v, rfl, he, hr⟩ := ha.one
    split at e
    · rename_i ea
      obtain ⟨bs, e1, e2⟩ := Option.map_eq_some_iff.mp e
      subst e2
      obtain ⟨p, vs, rfl, h1, h2⟩ := hr.vw E ea
      have := h2.ints e1
      subst this
      exact wc_of (cr_sum hc) ⟨p, bs, rfl, h1, k _ _ (.val (.int _))⟩
    · cases e
  · -- max
    cases e
    obtain ⟨_, v, _, w, rfl, h1, h2⟩ := ha.two
    cases (show Dq _ _ v _ from h1)
    cases (show Dq _ _ w _ from h2)
    exact wc_of (call_max2 hc) ⟨_, _, rfl, k _ _ (.val (.int _))⟩
  · -- min
    cases e
    obtain ⟨_, v, _, w, rfl, h1, h2⟩ := ha.two
    cases (show Dq _ _ v _ from h1)
    cases (show Dq _ _ w _ from h2)
    exact wc_of (call_min2 hc) ⟨_, _, rfl, k _ _ (.val (.int _))⟩
  · -- sorted
    obtain ⟨H0, v, rfl, he, hr⟩ := ha.one
    split at e
    · rename_i kvs
      obtain ⟨u, hg, e2⟩ := Option.map_eq_some_iff.mp e
      subst e2
      obtain ⟨p, rfl, ws, h1, h2⟩ := hr.obr E rfl
      have ek : (ws.map fun kv => dOfKey kv.1) = kvs.map fun kv => dOfKey kv.1 := by
        have := congrArg (List.map dOfKey) h2.keys
        rw [List.map_map, List.map_map] at this
        exact this
      refine wc_of (call_sortedK hc hu) ⟨p, ws, rfl, h1, by rw [ek]; exact gd_some hg, fun q vs' hq hv => ?_⟩
      rw [ek] at hv
      exact k _ _ (Rn.lst E.trk hq (hv.mono fun _ _ z => by cases z))
    · rename_i kvs
      obtain ⟨u, hg, e2⟩ := Option.map_eq_some_iff.mp e
      subst e2
      obtain ⟨p, rfl, ws, h1, h2⟩ := hr.obr E rfl
      have ek : (ws.map fun kv => PyData.tuple (kv.1.map dOfKey)) = kvs.map fun kv => .tuple (kv.1.map dOfKey) := by
        have := congrArg (List.map fun ks => PyData.tuple (ks.map dOfKey)) h2.keys
        rw [List.map_map, List.map_map] at this
        exact this
      have sp : Same (fun a => if IsM (H a) then none else H a) (Fz O H) := fun a o z => by
        have z : (if IsM (H a) then none else H a) = some o := z
        by_cases m : IsM (H a)
        · rw [if_pos m] at z
          cases z
        · rw [if_neg m] at z
          rw [Fz.at fun h => m (E.trm a h)]
          exact z
      refine wc_of (call_sortedT hc hu) ⟨p, ws, rfl, h1, by rw [ek]; exact gd_some hg, fun q vs' hq hv => ?_⟩
      rw [ek] at hv
      exact k _ _ (Rn.lst E.trk hq (hv.mono sp))
    · split at e
      · rename_i ea
        obtain ⟨u, hg, e2⟩ := Option.map_eq_some_iff.mp e
        subst e2
        obtain ⟨p, vs, rfl, h1, h2⟩ := hr.vw E ea
        exact wc_of (call_sortedL (by omega)) ⟨p, vs, _, _, rfl, h1, h2, Fz.sub, gd_some hg, fun q vs' hq hv => k _ _ (Rn.lst E.trk hq hv)⟩
      · cases e
  · -- tuple
    obtain ⟨H0, v, rfl, he, hr⟩ := ha.one
    split at e
    · rename_i ea
      cases e
      obtain ⟨p, vs, rfl, h1, h2⟩ := hr.vw E ea
      exact wc_of call_tuple_of ⟨p, vs, rfl, .inl ⟨h1, fun q hq => k _ _ (Rn.tup E.trk hq h2)⟩⟩
    · rename_i ea
      cases e
      cases (show Dq _ _ v _ from hr.vw E ea) with
      | tup g t => exact wc_of call_tuple_of ⟨_, _, rfl, .inr ⟨.of (Fz.sub _ _ g), k _ _ (.val (.tup g t))⟩⟩
    · cases e
  · -- list
    obtain ⟨H0, v, rfl, he, hr⟩ := ha.one
    split at e
    · rename_i kvs
      cases e
      obtain ⟨p, rfl, ws, h1, h2⟩ := hr.obr E rfl
      refine wc_of (call_list_dT hc) ⟨p, ws, rfl, .inl h1, fun q bs hq hv => ?_⟩
      have ek : (ws.map fun kv => PyData.tuple (kv.1.map dOfKey)) = kvs.map fun kv => .tuple (kv.1.map dOfKey) := by
        have := congrArg (List.map fun ks => PyData.tuple (ks.map dOfKey)) h2.keys
        rw [List.map_map, List.map_map] at this
        exact this
      have sp : Same (fun a => if IsM (H a) then none else H a) (Fz O H) := fun a o z => by
        have z : (if IsM (H a) then none else H a) = some o := z
        by_cases m : IsM (H a)
        · rw [if_pos m] at z
          cases z
        · rw [if_neg m] at z
          rw [Fz.at fun h => m (E.trm a h)]
          exact z
      have hk := (keysT (K := X.K) hv).mono sp
      rw [ek] at hk
      exact k _ _ (Rn.lst E.trk hq hk)
    · split at e
      · rename_i ea
        cases e
        obtain ⟨p, vs, rfl, h1, h2⟩ := hr.vw E ea
        exact wc_of call_list_of ⟨p, vs, rfl, .inl h1, fun q hq => k _ _ (Rn.lst E.trk hq h2)⟩
      · rename_i ea
        cases e
        cases (show Dq _ _ v _ from hr.vw E ea) with
        | tup g t => exact wc_of call_list_of ⟨_, _, rfl, .inr (.of (Fz.sub _ _ g)), fun q hq => k _ _ (Rn.lst E.trk hq t)⟩
      · rename_i ea
        obtain ⟨u, hg, e2⟩ := Option.map_eq_some_iff.mp e
        subst e2
        cases (show Dq _ _ v _ from hr.vw E ea)
        exact wc_of (call_listS hc) ⟨_, rfl, gd_some hg, fun q hq => k _ _ (Rn.lst E.trk hq (.ofChars _))⟩
      · cases e
  · -- dict
    obtain ⟨H0, v, rfl, he, hr⟩ := ha.one
    split at e
    · rename_i ea
      obtain ⟨p, vs, rfl, h1, h2⟩ := hr.vw E ea
      split at e
      · obtain ⟨ps, e1, e2⟩ := Option.bind_eq_some_iff.mp e
        obtain ⟨u, hg, e2⟩ := Option.map_eq_some_iff.mp e2
        subst e2
        obtain ⟨qs, ws, rfl, hp, hk⟩ := pairsT_rel h2 e1
        refine wc_of (call_dictT hc (by omega)) ⟨p, qs, ws, rfl, h1, L2.Paired.mapP hp fun _ _ z => ⟨Fz.sub _ _ z.1, Fz.sub _ _ z.2⟩, fun q hq => k _ _ ?_⟩
        exact ⟨same_new hq, q, rfl, hq, _, upd_same, KvA.mono (fz_new E.trk hq) (KvA.puts .nil hk)⟩
      · obtain ⟨ps, e1, e2⟩ := Option.bind_eq_some_iff.mp e
        obtain ⟨u, hg, e2⟩ := Option.map_eq_some_iff.mp e2
        subst e2
        obtain ⟨qs, ws, rfl, hp, hk⟩ := pairsK_rel h2 e1
        refine wc_of (call_dictP hc) ⟨p, qs, ws, rfl, h1, pairs_at Fz.sub hp, fun q hq => k _ _ ?_⟩
        exact ⟨same_new hq, q, rfl, hq, _, upd_same, KvA.mono (fz_new E.trk hq) (KvA.puts .nil hk)⟩
    · cases e
  · cases e
    obtain ⟨H0, v, rfl, he, hr⟩ := ha.one
    cases (show Dq _ _ v _ from hr)
    exact wc_of call_int1 (.inl ⟨_, rfl, k _ _ (.val (.int _))⟩)
  · cases e
    obtain ⟨H0, v, rfl, he, hr⟩ := ha.one
    cases (show Dq _ _ v _ from hr)
    exact wc_of call_int1 (.inr ⟨_, rfl, k _ _ (.val (.int _))⟩)
  · cases e
    obtain ⟨H0, v, rfl, he, hr⟩ := ha.one
    cases (show Dq _ _ v _ from hr)
    exact wc_of call_abs ⟨_, rfl, k _ _ (.val (.int _))⟩
  · cases e
    obtain ⟨H0, v, rfl, he, hr⟩ := ha.one
    cases (show Dq _ _ v _ from hr)
    exact wc_of call_reprB ⟨_, rfl, k _ _ (.val (.str _))⟩
  · obtain ⟨u, hg, e2⟩ := Option.map_eq_some_iff.mp e
    subst e2
    obtain ⟨H0, v, rfl, he, hr⟩ := ha.one
    exact wc_of (call_reprT (by omega) gs) ⟨v, _, rfl, (hr.vw E rfl).dp, gd_some hg, k _ _ (.val (.str _))⟩
  · cases e
end
end PL
set_option maxRecDepth 100000
set_option maxHeartbeats 4000000
/-! PL3g: isinstance, methods that change nothing. -/
namespace PL
open PySem PySem.Spec PyProof.Rows L2 TL
def tyN : Ty → String
  | .int => "int" | .bool => "bool" | .tuple => "tuple" | .str => "str"
def mN : Mt → String
  | .join => "str.join" | .starts2 => "str.startswith" | .starts1 => "str.startswith" | .index => "list.index"
section
variable {X : Cx} {O : List Addr} {α : Nat → Addr} {env : En} {σ : L2.St} {H : Hp} {x : V} {xs : List V} {Q : VK}
theorem isi_ok {H0 : Hp} {T : Ty} {r : RV} {b : Bool} (h : RvR X.K O α env H0 H r x) (e : opIsi T r = some b) (k : Q (.bl b) H) : WC X (.builtin "isinstance") [x, .ty (tyN T)] H Q := by
  have go : ∀ {a : String}, TyOf X.K H x (.type a) → kitB a (tyN T) = some b → WC X (.builtin "isinstance") [x, .ty (tyN T)] H Q := fun t kb => wc_of call_isi ⟨x, .ty (tyN T), _, _, b, rfl, .ty _, .base t, kit_ty kb, k⟩
  unfold opIsi at e
  split at e
  · cases e
    cases (show Dq _ _ x _ from h)
    exact go .non (by cases T <;> kernel_rfl)
  · cases (show Dq _ _ x _ from h)
    cases T <;> cases e <;> exact go (.bl _) (by kernel_rfl)
  · cases (show Dq _ _ x _ from h)
    cases T <;> cases e <;> exact go (.int _) (by kernel_rfl)
  · cases (show Dq _ _ x _ from h)
    cases T <;> cases e <;> exact go (.str _) (by kernel_rfl)
  · cases (show Dq _ _ x _ from h) with
    | tup g t => cases T <;> cases e <;> exact go (.tup (Fz.sub _ _ g)) (by kernel_rfl)
  · cases e
theorem joinL_nil : ∀ l : List (List Nat), joinL [] l = l.flatten
  | [] => rfl
  | [p] => by simp [joinL]
  | p :: q :: r => by
    show p ++ ([] ++ joinL [] (q :: r)) = _
    rw [joinL_nil (q :: r)]
    simp
theorem sub_list {a b : Str} {i : Nat} : Builtin.Str.subAt a b i = decide ((a.cps.toList.drop i).take b.length = b.cps.toList) := by
  unfold Builtin.Str.subAt
  have e : (a.cps.extract i (i + b.length)).toList = (a.cps.toList.drop i).take b.length := by
    rw [Array.toList_extract, List.extract_eq_drop_take, Nat.add_sub_cancel_left]
  rw [← e, Bool.beq_eq_decide_eq]
  exact decide_eq_decide.mpr ⟨fun h => by rw [h], fun h => Array.toList_inj.mp h⟩
theorem starts_eq (x y : Str) (i : Nat) : (decide (i + y.length ≤ x.length) && Builtin.Str.subAt x y i) = decide ((x.cps.toList.drop i).take y.length = y.cps.toList ∧ i + y.length ≤ x.length) := by
  rw [sub_list, Bool.decide_and, Bool.and_comm]
theorem from_nat {n : Nat} {i : Int} (h : 0 ≤ i) : fromIndex n i = i.toNat := by
  unfold fromIndex
  rw [if_neg (by omega)]
  congr 1
  omega
theorem starts3_eq (x y : Str) (i : Int) (h : 0 ≤ i) : Txt.startswith3 x y i = decide (i + y.length ≤ x.length ∧ (x.cps.toList.drop i.toNat).take y.length = y.cps.toList) := by
  unfold Txt.startswith3
  rw [from_nat h, starts_eq]
  exact decide_eq_decide.mpr ⟨fun z => ⟨by have := z.2; omega, z.1⟩, fun z => ⟨z.2, by have := z.1; omega⟩⟩
theorem starts1_eq (x y : Str) : Txt.startswith x y = decide (x.cps.toList.take y.length = y.cps.toList) := by
  unfold Txt.startswith
  have := starts_eq x y 0
  rw [Nat.zero_add] at this ⊢
  rw [this]
  refine decide_eq_decide.mpr ⟨fun z => z.1, fun z => ⟨z, ?_⟩⟩
  have e := congrArg List.length z
  rw [List.length_take, Array.length_toList, Array.length_toList] at e
  show y.cps.size ≤ x.cps.size
  have e : min y.cps.size x.cps.size = y.cps.size := e
  omega
theorem mcall_ok (hu : X.A.units + 65 < cLine) (E : EnvR X.K O α env σ H) {H0 : Hp} {m : Mt} {a : RV} (h : RvR X.K O α env H0 H a x) {rs : List RV} (ha : RvA X.K O α env H rs xs) {r : RV} (e : mcall m a rs = some r) (k : ∀ v H', Rn X.K O H H' r v → Q v H') : WM X (mN m) x xs H Q := by
  unfold mcall at e
  split at e
  · -- join
    cases (show Dq _ _ x _ from h)
    obtain ⟨H0, v, rfl, he, hr⟩ := ha.one
    split at e
    · rename_i z _ _ _ ea
      obtain ⟨ss, e1, e2⟩ := Option.bind_eq_some_iff.mp e
      obtain ⟨u, hg, e2⟩ := Option.map_eq_some_iff.mp e2
      subst e2
      obtain ⟨p, vs, rfl, h1, h2⟩ := hr.vw E ea
      have := h2.strs e1
      subst this
      obtain ⟨g1, g2⟩ := gd_some hg
      have g2 : (ss.map (·.length)).sum ≤ 1000000 := g2
      refine wm_of mt_join ⟨_, p, ss, rfl, rfl, .inl h1, by rw [g1]; omega, ?_⟩
      have e : Txt.join z ss = strOf (ss.flatMap fun s => s.cps.toList) := by
        have ez : tl z = [] := by
          have : z.cps = #[] := Array.eq_empty_of_size_eq_zero g1
          rw [tl, this]
        have e1 : tl (Txt.join z ss) = (ss.flatMap fun s => s.cps.toList) := by
          rw [join_eq, tl_join, ez, joinL_nil, List.flatMap_def]
        rw [← e1]
        exact (str_eta _).symm
      rw [e]
      exact k _ _ (.val (.str _))
    · cases e
  · -- starts2
    cases (show Dq _ _ x _ from h)
    obtain ⟨_, v, _, w, rfl, h1, h2⟩ := ha.two
    cases (show Dq _ _ v _ from h1)
    cases (show Dq _ _ w _ from h2)
    obtain ⟨u, hg, e2⟩ := Option.map_eq_some_iff.mp e
    subst e2
    refine wm_of mt_startswith3 ⟨_, _, _, rfl, rfl, ?_⟩
    rw [starts3_eq _ _ _ (gd_some hg)]
    exact k _ _ (.val (.bl _))
  · -- starts1
    cases e
    cases (show Dq _ _ x _ from h)
    obtain ⟨_, v, rfl, _, h1⟩ := ha.one
    cases (show Dq _ _ v _ from h1)
    refine wm_of mt_startswith ⟨_, _, rfl, rfl, ?_⟩
    rw [starts1_eq]
    exact k _ _ (.val (.bl _))
  · -- index
    obtain ⟨_, v, rfl, _, h1⟩ := ha.one
    split at e
    · rename_i ds ea
      obtain ⟨u, hg, e2⟩ := Option.bind_eq_some_iff.mp e
      obtain ⟨j, e3, e4⟩ := Option.map_eq_some_iff.mp e2
      subst e4
      obtain ⟨g1, g2, g3, g4⟩ := gd_some hg
      have hl := (h.vw E ea).dp
      obtain ⟨p, vs, rfl, hs, ht⟩ := h.vw E ea
      obtain ⟨hj, b1, b2⟩ := List.findIdx?_eq_some_iff_getElem.mp e3
      refine wm_of (mt_indexD hu) ⟨p, v, _, ds, j, ds[j], rfl, rfl, hl, ((Vw.ofDq (show Dq _ _ v _ from h1)).dp : Dp X.K H v _), shaped_of g2 g4, shaped_of g1 g3, List.getElem?_eq_getElem hj, b1, fun m z hm hz => ?_, k _ _ (.val (.int _))⟩
      obtain ⟨hm', ez⟩ := List.getElem?_eq_some_iff.mp hz
      subst ez
      simpa using b2 m hm
    · cases e
  · cases e
end
end PL
set_option maxRecDepth 100000
set_option maxHeartbeats 4000000
/-! PL4a: the readings of PL1's expressions. -/
namespace PL
open PySem PySem.Spec PyProof.Rows L2
theorem PE.weak {X : Cx} {e : Expr} {t t' : TE} (h : PE X e t) (i : ∀ σ H Q, t' σ H Q → t σ H Q) : PE X e t' := ⟨fun pins s σ H Q I q => h.run pins s σ H Q I (i σ H Q q)⟩
theorem PT.weak {X : Cx} {e : Expr} {t t' : TT} (h : PT X e t) (i : ∀ σ H Q, t' σ H Q → t σ H Q) : PT X e t' := ⟨fun pins s σ H Q I q => h.run pins s σ H Q I (i σ H Q q)⟩
theorem PA.weak {X : Cx} {e : List Expr} {t t' : TA} (h : PA X e t) (i : ∀ σ H Q, t' σ H Q → t σ H Q) : PA X e t' := ⟨fun pos pins s σ H Q I q => h.run pos pins s σ H Q I (i σ H Q q)⟩
theorem PI.weak {X : Cx} {tg e : Expr} {t t' : TI} (h : PI X tg e t) (i : ∀ σ H Q, t' σ H Q → t σ H Q) : PI X tg e t' := ⟨fun pins s σ H Q I q => h.run pins s σ H Q I (i σ H Q q)⟩
/-- from (O, H) to (O', H') -/
structure Xt (O O' : List Addr) (H H' : Hp) : Prop where
  fz : Same (Fz O H) (Fz O' H')
  dom : ∀ a, H a ≠ none → H' a ≠ none
  mu : ∀ a ∈ O, IsM (H a) → IsM (H' a)
  sub : ∀ a ∈ O, a ∈ O'
theorem Gr.xt {O : List Addr} {H H' : Hp} (g : Gr O H H') : Xt O O H H' := ⟨g.fz, g.dom, g.mu, fun _ h => h⟩
theorem Xt.gr {O : List Addr} {H H' : Hp} (g : Xt O O H H') : Gr O H H' := ⟨g.fz, g.dom, g.mu⟩
theorem Xt.refl {O : List Addr} {H : Hp} : Xt O O H H := Gr.refl.xt
theorem Xt.trans {O O1 O2 : List Addr} {H H1 H2 : Hp} (a : Xt O O1 H H1) (b : Xt O1 O2 H1 H2) : Xt O O2 H H2 :=
  ⟨a.fz.trans b.fz, fun x h => b.dom x (a.dom x h), fun x h z => b.mu x (a.sub x h) (a.mu x h z), fun x h => b.sub x (a.sub x h)⟩
/-- back to the objects one knew -/
theorem Xt.back {O O' : List Addr} {H H' : Hp} (x : Xt O O' H H') : Gr O H H' where
  fz := fun a o h => by
    obtain ⟨h1, h2⟩ := Fz.of h
    rw [Fz.at h1]
    exact Fz.sub a o (x.fz a o h)
  dom := x.dom
  mu := x.mu
theorem Fz.upd_in {O : List Addr} {H : Hp} {p : Addr} {u : HO} (h : p ∈ O) : Fz O (upd H p u) = Fz O H := by
  funext a
  unfold Fz upd
  by_cases e : a ∈ O
  · rw [if_pos e, if_pos e]
  · rw [if_neg e, if_neg e, if_neg]
    intro z
    subst z
    exact e h
theorem Gr.mut {O : List Addr} {H : Hp} {p : Addr} {u : HO} (h : p ∈ O) (m : IsM (some u)) : Gr O H (upd H p u) where
  fz := by rw [Fz.upd_in h]; exact Same.refl _
  dom := fun a ha => by
    by_cases e : a = p
    · subst e; rw [upd_same]; simp
    · rw [upd_ne e]; exact ha
  mu := fun a _ z => by
    by_cases e : a = p
    · subst e; rw [upd_same]; exact m
    · rw [upd_ne e]; exact z
/-- no slot has come to own an object -/
def Ow (env env' : En) : Prop := ∀ (i : Nat) (o : Ob), env'[i]? = some (some (.own o)) → ∃ o', env[i]? = some (some (.own o'))
theorem Ow.refl {env : En} : Ow env env := fun _ o h => ⟨o, h⟩
theorem Ow.trans {a b c : En} (h : Ow a b) (q : Ow b c) : Ow a c := fun i o z => let ⟨o', e⟩ := q i o z; h i o' e
section
variable {K : PySem.W.Frag} {O O' : List Addr} {α : Nat → Addr} {env env' env1 env2 : En} {σ : L2.St} {H H' H1 H2 : Hp}
/-- an owned object changed -/
theorem EnvR.mut {i : Nat} {o o' : Ob} {u : HO} (E : EnvR K O α env σ H) (hi : env[i]? = some (some (.own o))) (m : IsM (some u)) (ho : ObR K (Fz O H) (upd H (α i) u) (α i) o') : EnvR K O α (env.set i (some (.own o'))) σ (upd H (α i) u) := by
  obtain ⟨e1, e2, e3⟩ := E.own i o hi
  have hl : i < env.length := by
    rcases Nat.lt_or_ge i env.length with h | h
    · exact h
    · rw [List.getElem?_eq_none h] at hi
      cases hi
  have own' : ∀ (j : Nat) (w : Ob), (env.set i (some (SV.own o')))[j]? = some (some (SV.own w)) → (j = i ∧ w = o') ∨ (j ≠ i ∧ env[j]? = some (some (SV.own w))) := fun j w h => by
    by_cases e : j = i
    · subst e
      rw [List.getElem?_set_self hl] at h
      cases h
      exact .inl ⟨rfl, rfl⟩
    · rw [List.getElem?_set_ne (Ne.symm e)] at h
      exact .inr ⟨e, h⟩
  refine ⟨by rw [List.length_set]; exact E.len, fun j d h => ?_, fun j w h => ?_, fun j j' w w' h h' e => ?_, fun a ha => ?_⟩
  · rw [Fz.upd_in e2]
    by_cases e : j = i
    · subst e
      rw [List.getElem?_set_self hl] at h
      cases h
    · rw [List.getElem?_set_ne (Ne.symm e)] at h
      exact E.val j d h
  · rw [Fz.upd_in e2]
    rcases own' j w h with ⟨rfl, rfl⟩ | ⟨e, h⟩
    · exact ⟨e1, e2, ho⟩
    · obtain ⟨f1, f2, f3⟩ := E.own j w h
      refine ⟨f1, f2, f3.mono (Same.refl _) fun x hx => ?_⟩
      rw [upd_ne fun z => e (E.inj j i _ _ h hi z)]
      exact hx
  · have a1 : ∃ w, env[j]? = some (some (SV.own w)) := by
      rcases own' j w h with ⟨rfl, _⟩ | ⟨_, h⟩
      · exact ⟨_, hi⟩
      · exact ⟨_, h⟩
    have a2 : ∃ w, env[j']? = some (some (SV.own w)) := by
      rcases own' j' w' h' with ⟨rfl, _⟩ | ⟨_, h⟩
      · exact ⟨_, hi⟩
      · exact ⟨_, h⟩
    obtain ⟨_, a1⟩ := a1
    obtain ⟨_, a2⟩ := a2
    exact E.inj j j' _ _ a1 a2 e
  · exact (Gr.mut e2 m).mu a ha (E.trm a ha)
theorem Ow.set {i : Nat} {o o' : Ob} (hi : env[i]? = some (some (.own o))) : Ow env (env.set i (some (.own o'))) := fun j w h => by
  by_cases e : j = i
  · subst e; exact ⟨_, hi⟩
  · rw [List.getElem?_set_ne (Ne.symm e)] at h; exact ⟨_, h⟩
/-- an expression has come to its end -/
structure Po (K : PySem.W.Frag) (O : List Addr) (α : Nat → Addr) (env : En) (σ : L2.St) (H : Hp) (env' : En) (H' : Hp) : Prop where
  E : EnvR K O α env' σ H'
  g : Gr O H H'
  ow : Ow env env'
  fr : ∀ a ∈ O, (∀ (i : Nat) (o : Ob), env[i]? = some (some (SV.own o)) → α i ≠ a) → ∀ u, H a = some u → H' a = some u
theorem Po.refl (E : EnvR K O α env σ H) : Po K O α env σ H env H := ⟨E, .refl, .refl, fun _ _ _ _ h => h⟩
theorem Po.trans (a : Po K O α env σ H env1 H1) (b : Po K O α env1 σ H1 env2 H2) : Po K O α env σ H env2 H2 := ⟨b.E, a.g.trans b.g, a.ow.trans b.ow, fun x hx hn u h =>
  b.fr x hx (fun i o q => let ⟨o', q'⟩ := a.ow i o q; hn i o' q') u (a.fr x hx hn u h)⟩
theorem Po.same (a : Po K O α env σ H env1 H1) (e : Same H1 H2) : Po K O α env σ H env1 H2 := ⟨a.E.same e, a.g.trans e.gr, a.ow, fun x hx hn u h => e x u (a.fr x hx hn u h)⟩
/-- a new object: all else stands without it -/
def Nw (K : PySem.W.Frag) (O : List Addr) (α : Nat → Addr) (env : En) (σ : L2.St) (H : Hp) (r : RV) (v : V) : Prop := match r with
  | .fr _ => ∀ a, v = .ref a → EnvR K (a :: O) α env σ H
  | _ => True
theorem EnvR.newly {a : Addr} (E : EnvR K O α env σ H) (e : Same H H') (ha : H a = none) (m : IsM (H' a)) : EnvR K (a :: O) α env σ H' := by
  have s1 : Same (Fz O H) (Fz (a :: O) H') := fun b u q => by
    obtain ⟨h1, h2⟩ := Fz.of q
    have ne : b ≠ a := ne_of_none h2 ha
    rw [Fz.at (by simp only [List.mem_cons, not_or]; exact ⟨ne, h1⟩)]
    exact e b u h2
  exact ⟨E.len, fun i d q => let ⟨v, h1, h2⟩ := E.val i d q; ⟨v, h1, h2.mono s1⟩, fun i o q => let ⟨h1, h2, h3⟩ := E.own i o q; ⟨h1, List.mem_cons_of_mem _ h2, h3.mono s1 fun w z => e _ w z⟩, E.inj,
    fun b q => (List.mem_cons.mp q).elim (fun z => by rw [z]; exact m) fun z => e.mu (E.trm b z)⟩
theorem Rn.nw {r : RV} {v : V} (n : Rn K O H H' r v) (E : EnvR K O α env σ H) : Nw K O α env σ H' r v := by
  cases r with
  | val d => trivial
  | fr o =>
    obtain ⟨s, a, e, h1, h2⟩ := n
    intro b eb
    rw [e] at eb
    cases eb
    exact E.newly s h1 h2.mu
  | bo i o => trivial
/-- the readings -/
def tE (K : PySem.W.Frag) (C : Cl) (t : E) : TE := fun σ H Q => ∃ O α env r env', EnvR K O α env σ H ∧ ev C t env = some (r, env') ∧ ∀ v H', Po K O α env σ H env' H' → RvR K O α env' H H' r v → Nw K O α env' σ H' r v → Q v H'
def tT (K : PySem.W.Frag) (C : Cl) (t : E) : TT := fun σ H Q => ∃ O α env b env', EnvR K O α env σ H ∧ evt C t env = some (b, env') ∧ ∀ H', Po K O α env σ H env' H' → Q b H'
def tA (K : PySem.W.Frag) (C : Cl) (t : Es) : TA := fun σ H Q => ∃ O α env rs env', EnvR K O α env σ H ∧ evs C t env = some (rs, env') ∧ ∀ vs H', Po K O α env σ H env' H' → RvA K O α env' H' rs vs → Q vs H'
def tO (K : PySem.W.Frag) (C : Cl) (t : Oe) : TO := fun σ H Q => ∃ O α env o env', EnvR K O α env σ H ∧ evo C t env = some (o, env') ∧ ∀ H', Po K O α env σ H env' H' → Q o H'
/-- what an iterator gives: the items ds, as long as the slots bs hold what they hold -/
def JR (K : PySem.W.Frag) (O : List Addr) (α : Nat → Addr) (env : En) (bs : List Nat) (ds : List Da) (J : L2.It) (H : Hp) : Prop :=
  ∀ (i : Nat) (O' : List Addr) (α' : Nat → Addr) (env' : En) (σ' : L2.St) (H' : Hp), EnvR K O' α' env' σ' H' → Xt O O' H H' → (∀ j ∈ bs, env'[j]? = env[j]? ∧ α' j = α j) →
    (∀ d, ds[i]? = some d → J.go i H' ∧ ∀ x H2, J.yld i H' x H2 → Same H' H2 ∧ Dq K (Fz O' H2) x d) ∧ (ds.length ≤ i → J.stop i H')
def tI (K : PySem.W.Frag) (C : Cl) (t : PL.It) : TI := fun σ H R => ∃ O α env ds bs env', EnvR K O α env σ H ∧ evi C t env = some (ds, bs, env') ∧ ∀ (J : L2.It) H', Po K O α env σ H env' H' → (∀ j ∈ bs, ∃ o, env'[j]? = some (some (.own o))) → JR K O α env' bs ds J H' → R J H'
/-- an expression read as a value and as a test -/
structure EOK (X : Cx) (C : Cl) (t : E) (e : Expr) : Prop where
  pe : PE X e (tE X.K C t)
  pt : PT X e (tT X.K C t)
theorem tT_of {C : Cl} {t : E} {σ : L2.St} {H : Hp} {Q : Bool → Hp → Prop} (h : tT K C t σ H Q) : tE K C t σ H fun x H1 => ∃ c, x = .bl c ∧ Q c H1 := by
  obtain ⟨O, α, env, b, env', E, e, k⟩ := h
  unfold evt at e
  obtain ⟨p, h1, h2⟩ := Option.bind_eq_some_iff.mp e
  obtain ⟨r, env1⟩ := p
  split at h2
  · rename_i c hr
    cases h2
    have hr : r = .val (.bool b) := hr
    subst hr
    refine ⟨O, α, env, _, _, E, h1, fun v H' P q _ => ?_⟩
    cases (show Dq _ _ v _ from q)
    exact ⟨_, rfl, k H' P⟩
  · cases h2
/-- plain: the test is the value's truth -/
theorem EOK.plain {X : Cx} {C : Cl} {t : E} {e : Expr} (h : PE X e (tE X.K C t)) (he : ∀ whole, isTrue e X.env whole = (do let v ← whole; standAt e.pos; holding [v] (truthy v))) : EOK X C t e :=
  ⟨h, PT.weak (pt_val h he) fun σ H Q q => tT_of q⟩
end
/-! ### operations -/
section
variable {X : Cx} {C : Cl} {a b c : E} {ea eb ec : Expr} {pos : Pos}
theorem bin_run {f : RV → RV → Option RV} {r : R2} (hr : ∀ {O : List Addr} {α : Nat → Addr} {env : En} {σ : L2.St} {Ha Hb H : Hp} {a b r' : RV} {x y : V} {Q : VK}, EnvR X.K O α env σ H → RvR X.K O α env Ha H a x → RvR X.K O α env Hb H b y → f a b = some r' →
      (∀ v H', Rn X.K O H H' r' v → Q v H') → r x y H Q)
    {t : E} (ht : ∀ env, ev C t env = (ev C a env).bind fun p => (ev C b p.2).bind fun q => (refr p.1 q.2).bind fun x => (f x q.1).map fun r => (r, q.2)) :
    ∀ σ H Q, tE X.K C t σ H Q → tOp r (tE X.K C a) (tE X.K C b) σ H Q := by
  rintro σ H Q ⟨O, α, env, r', env', E, e, k⟩
  rw [ht] at e
  obtain ⟨⟨ra, env1⟩, h1, e⟩ := Option.bind_eq_some_iff.mp e
  obtain ⟨⟨rb, env2⟩, h2, e⟩ := Option.bind_eq_some_iff.mp e
  obtain ⟨x, h3, e⟩ := Option.bind_eq_some_iff.mp e
  obtain ⟨r2, h4, e⟩ := Option.map_eq_some_iff.mp e
  cases e
  refine ⟨O, α, env, ra, env1, E, h1, fun v H1 P1 q1 _ => ⟨O, α, env1, rb, env2, P1.E, h2, fun u H2 P2 q2 _ => ?_⟩⟩
  refine hr P2.E (q1.keep E.trk P2.g h3) q2 h4 fun w H3 hn => ?_
  have P := P1.trans P2
  exact k w H3 (P.same hn.same) (hn.rv P.g.dom) (hn.nw P.E)
theorem bin_e {op : Operator} (ha : EOK X C a ea) (hb : EOK X C b eb) : EOK X C (.bin op a b) (.BinOp ea op eb pos) :=
  .plain (PE.weak (pe_op or_wo ha.pe hb.pe) (bin_run (f := opBin op) (fun E h1 h2 e k => bin_ok E h1 h2 e k) fun env => by rw [ev])) fun _ => rfl
theorem idx_e (hu : X.A.units + 68 < cLine) (ha : EOK X C a ea) (hb : EOK X C b eb) (hs : PlainIx eb) : EOK X C (.idx a b) (.Subscript ea eb pos) :=
  .plain (PE.weak (pe_ix ix_wx ha.pe hb.pe hs) (bin_run (f := fun x y => (opIdx x y).map .val) (fun E h1 h2 e k => by
    obtain ⟨d, e1, e2⟩ := Option.map_eq_some_iff.mp e
    subst e2
    exact idx_ok (by omega) E h1 h2 e1 fun v hv => k v _ (.val hv)) fun env => by
      rw [ev]
      simp only [Option.map_map]
      rfl)) fun _ => rfl
theorem cmp_run (hu : X.A.units + 68 < cLine) {op : CmpOp} : ∀ σ H Q, tE X.K C (.cmp op a b) σ H Q → tOp (fun x y H Q => WO X (compareOp op) x y H Q) (tE X.K C a) (tE X.K C b) σ H Q :=
  bin_run (f := fun x y => (opCmp op x y).map fun r => .val (.bool r)) (fun E h1 h2 e k => by
    obtain ⟨d, e1, e2⟩ := Option.map_eq_some_iff.mp e
    subst e2
    exact cmp_ok (by omega) E h1 h2 e1 (k _ _ (.val (.bl _)))) fun env => by
      rw [ev]
      simp only [Option.map_map]
      rfl
theorem cmp_e (hu : X.A.units + 68 < cLine) {op : CmpOp} (ha : EOK X C a ea) (hb : EOK X C b eb) (hm : behindInMarks op eb = false) : EOK X C (.cmp op a b) (.Compare ea [op] [eb] pos) :=
  ⟨PE.weak (pe_cmpR or_wo ha.pe hb.pe hm) (cmp_run hu), PT.weak (pt_cmpR or_wo ha.pe hb.pe hm) fun σ H Q q => cmp_run hu σ H _ (tT_of q)⟩
end
end PL
set_option maxRecDepth 100000
set_option maxHeartbeats 4000000
/-! PL4b: the soundness of PL1's expressions, form by form. -/
namespace PL
open PySem PySem.Spec PyProof.Rows L2
section
variable {K : PySem.W.Frag} {O O' : List Addr} {α : Nat → Addr} {env env' env1 env2 : En} {σ : L2.St} {H H' H1 H2 : Hp}
theorem xt_push {D : Addr} {u : HO} (E : ∀ a ∈ O, H a ≠ none) (h : H D = none) : Xt O (D :: O) H (upd H D u) where
  fz := fun a o q => by
    obtain ⟨h1, h2⟩ := Fz.of q
    have ne : a ≠ D := ne_of_none h2 h
    rw [Fz.at (by simp only [List.mem_cons, not_or]; exact ⟨ne, h1⟩), upd_ne ne]
    exact h2
  dom := fun a q => by
    by_cases e : a = D
    · subst e; rw [upd_same]; simp
    · rw [upd_ne e]; exact q
  mu := fun a q z => by
    have ne : a ≠ D := fun e => E a q (by rw [e]; exact h)
    rw [upd_ne ne]
    exact z
  sub := fun a q => List.mem_cons_of_mem _ q
theorem EnvR.push {D : Addr} {u : HO} (E : EnvR K O α env σ H) (h : H D = none) (m : IsM (some u)) : EnvR K (D :: O) α env σ (upd H D u) where
  len := E.len
  val := fun i d q => let ⟨v, h1, h2⟩ := E.val i d q; ⟨v, h1, h2.mono (xt_push E.trk h).fz⟩
  own := fun i o q => by
    obtain ⟨h1, h2, h3⟩ := E.own i o q
    refine ⟨h1, List.mem_cons_of_mem _ h2, h3.mono (xt_push E.trk h).fz fun w z => ?_⟩
    rw [upd_ne (ne_of_none z h)]
    exact z
  inj := E.inj
  trm := fun a q => by
    rcases List.mem_cons.mp q with e | q
    · subst e; rw [upd_same]; exact m
    · exact (xt_push (u := u) E.trk h).mu a q (E.trm a q)
theorem EnvR.drop {D : Addr} (E : EnvR K (D :: O) α env σ H) (h : ∀ (i : Nat) (o : Ob), env[i]? = some (some (SV.own o)) → α i ∈ O) : EnvR K O α env σ H where
  len := E.len
  val := fun i d q => let ⟨v, h1, h2⟩ := E.val i d q; ⟨v, h1, h2.mono fz_cons⟩
  own := fun i o q => let ⟨h1, h2, h3⟩ := E.own i o q; ⟨h1, h i o q, h3.mono fz_cons fun _ z => z⟩
  inj := E.inj
  trm := fun a q => E.trm a (List.mem_cons_of_mem _ q)
theorem Gr.drop {D : Addr} (g : Gr (D :: O) H H') (hD : ∀ o, H D = some o → H' D = some o) : Gr O H H' where
  fz := fun a o q => by
    obtain ⟨h1, h2⟩ := Fz.of q
    rw [Fz.at h1]
    by_cases e : a = D
    · subst e
      exact hD o h2
    · have n : a ∉ D :: O := by simp only [List.mem_cons, not_or]; exact ⟨e, h1⟩
      have z := g.fz a o (by rw [Fz.at n]; exact h2)
      rw [Fz.at n] at z
      exact z
  dom := g.dom
  mu := fun a q => g.mu a (List.mem_cons_of_mem _ q)
end
section
variable {X : Cx} {C : Cl} {a b c : E} {ea eb ec : Expr} {pos : Pos}
theorem un_run {f : RV → Option RV} {r : V → Hp → VK → Prop} (hr : ∀ {O : List Addr} {α : Nat → Addr} {env : En} {σ : L2.St} {Ha H : Hp} {a r' : RV} {x : V} {Q : VK}, EnvR X.K O α env σ H → (∀ a ∈ O, Ha a ≠ none) → RvR X.K O α env Ha H a x → f a = some r' →
      (∀ v H', Rn X.K O H H' r' v → Q v H') → r x H Q)
    {t : E} (ht : ∀ env, ev C t env = (ev C a env).bind fun p => (f p.1).map fun r => (r, p.2)) :
    ∀ σ H Q, tE X.K C t σ H Q → tE X.K C a σ H fun x H1 => r x H1 Q := by
  rintro σ H Q ⟨O, α, env, r', env', E, e, k⟩
  rw [ht] at e
  obtain ⟨⟨ra, env1⟩, h1, e⟩ := Option.bind_eq_some_iff.mp e
  obtain ⟨r2, h4, e⟩ := Option.map_eq_some_iff.mp e
  cases e
  refine ⟨O, α, env, ra, env1, E, h1, fun v H1 P1 q1 _ => ?_⟩
  exact hr P1.E E.trk q1 h4 fun w H3 hn => k w H3 (P1.same hn.same) (hn.rv P1.g.dom) (hn.nw P1.E)
theorem neg_e (ha : EOK X C a ea) : EOK X C (.neg a) (.UnaryOp .USub ea pos) :=
  .plain (PE.weak (pe_un un_neg ha.pe) (un_run (f := fun p => match p with
    | .val (.int i) => some (.val (.int (-i)))
    | _ => none) (fun E _ h1 e k => by
      split at e
      · cases e
        cases (show Dq _ _ _ _ from h1)
        exact ⟨_, rfl, k _ _ (.val (.int _))⟩
      · cases e) fun env => by
        rw [ev]
        congr 1
        funext p
        obtain ⟨p1, p2⟩ := p
        split <;> simp_all)) fun _ => rfl
theorem inv_ev (env : En) : ev C (.inv a) env = (evt C a env).map fun p => (.val (.bool (!p.1)), p.2) := by
  rw [ev, evt]
  cases ev C a env with
  | none => rfl
  | some p =>
    obtain ⟨p1, p2⟩ := p
    simp only [Option.bind_some]
    split <;> simp_all
theorem tt_map {t : E} {g : Bool → Bool} (ht : ∀ env, ev C t env = (evt C a env).map fun p => (.val (.bool (g p.1)), p.2)) {σ : L2.St} {H : Hp} {Q : VK} (h : tE X.K C t σ H Q) : tT X.K C a σ H fun b H1 => Q (.bl (g b)) H1 := by
  obtain ⟨O, α, env, r', env', E, e, k⟩ := h
  rw [ht] at e
  obtain ⟨⟨b, env1⟩, h1, e⟩ := Option.map_eq_some_iff.mp e
  cases e
  exact ⟨O, α, env, b, _, E, h1, fun H' P => k _ _ P (.bl _) trivial⟩
theorem tt_map' {t : E} {g : Bool → Bool} (ht : ∀ env, ev C t env = (evt C a env).map fun p => (.val (.bool (g p.1)), p.2)) {σ : L2.St} {H : Hp} {Q : Bool → Hp → Prop} (h : tT X.K C t σ H Q) : tT X.K C a σ H fun b H1 => Q (g b) H1 := by
  obtain ⟨O, α, env, r', env', E, e, k⟩ := h
  unfold evt at e
  rw [ht] at e
  obtain ⟨p, h0, e⟩ := Option.bind_eq_some_iff.mp e
  obtain ⟨⟨b, env1⟩, h1, h2⟩ := Option.map_eq_some_iff.mp h0
  subst h2
  cases e
  exact ⟨O, α, env, b, _, E, h1, fun H' P => k _ P⟩
theorem te_of {t : E} {σ : L2.St} {H : Hp} {Q : VK} (h : tT X.K C t σ H fun b H1 => Q (.bl b) H1) : tE X.K C t σ H fun x H1 => ∃ c, x = .bl c ∧ Q (.bl c) H1 := tT_of h
theorem inv_e (ha : EOK X C a ea) : EOK X C (.inv a) (.UnaryOp .Not ea pos) :=
  ⟨PE.weak (pe_not ha.pe) fun σ H Q q => tT_of (tt_map inv_ev q), PT.weak (pt_not ha.pt) fun σ H Q q => tt_map' inv_ev q⟩
/-! ### and, or, if -/
theorem and_ev (env : En) : ev C (.and a b) env = (evt C a env).bind fun p => if p.1 = true then (evt C b p.2).map fun q => (.val (.bool q.1), q.2) else some (.val (.bool false), p.2) := by
  rw [ev, evt]
  cases ev C a env with
  | none => rfl
  | some p =>
    obtain ⟨p1, p2⟩ := p
    simp only [Option.bind_some]
    split <;> simp_all
    · rw [evt]
      cases ev C b p2 with
      | none => rfl
      | some q =>
        obtain ⟨q1, q2⟩ := q
        simp only [Option.bind_some]
        split <;> simp_all
theorem or_ev (env : En) : ev C (.or a b) env = (evt C a env).bind fun p => if p.1 = true then some (.val (.bool true), p.2) else (evt C b p.2).map fun q => (.val (.bool q.1), q.2) := by
  rw [ev, evt]
  cases ev C a env with
  | none => rfl
  | some p =>
    obtain ⟨p1, p2⟩ := p
    simp only [Option.bind_some]
    split <;> simp_all
    · rw [evt]
      cases ev C b p2 with
      | none => rfl
      | some q =>
        obtain ⟨q1, q2⟩ := q
        simp only [Option.bind_some]
        split <;> simp_all
theorem ite_ev (env : En) : ev C (.ite c a b) env = (evt C c env).bind fun p => if p.1 = true then ev C a p.2 else ev C b p.2 := by
  rw [ev, evt]
  cases ev C c env with
  | none => rfl
  | some p =>
    obtain ⟨p1, p2⟩ := p
    simp only [Option.bind_some]
    split <;> simp_all
theorem evt_val {t : E} {env env' : En} {r : RV} {b : Bool} (h : ev C t env = some (r, env')) (e : r = .val (.bool b)) : evt C t env = some (b, env') := by
  unfold evt
  rw [h]
  subst e
  rfl
theorem te_evt {t : E} {O : List Addr} {α : Nat → Addr} {env env' : En} {σ : L2.St} {H : Hp} {Q : VK} {b : Bool} (E : EnvR X.K O α env σ H) (h : evt C t env = some (b, env')) (k : ∀ H', Po X.K O α env σ H env' H' → Q (.bl b) H') : tE X.K C t σ H Q :=
  have z := tT_of (K := X.K) (Q := fun c H1 => Q (.bl c) H1) ⟨O, α, env, b, env', E, h, k⟩
  let ⟨O, α, env, r, env', E, e, k⟩ := z
  ⟨O, α, env, r, env', E, e, fun v H' P q n => by
    obtain ⟨c, e, q2⟩ := k v H' P q n
    rw [e]
    exact q2⟩
theorem and_e {rest : List Expr} (ha : EOK X C a ea) (hb : PE X (.BoolOp .And (eb :: rest) pos) (tE X.K C b)) (hw : PW X (.BoolOp .And (eb :: rest) pos) (tT X.K C b)) : EOK X C (.and a b) (.BoolOp .And (ea :: eb :: rest) pos) := by
  refine ⟨PE.weak (pe_and ha.pe hb) ?_, PT.weak (pw_and ha.pt hw).pt ?_⟩
  · rintro σ H Q ⟨O, α, env, r, env', E, e, k⟩
    rw [and_ev] at e
    obtain ⟨⟨d, env1⟩, h1, e⟩ := Option.bind_eq_some_iff.mp e
    refine tT_of ⟨O, α, env, d, env1, E, h1, fun H1 P1 => ?_⟩
    cases d with
    | true =>
      simp only [if_true] at e ⊢
      obtain ⟨⟨d2, env2⟩, h2, e⟩ := Option.map_eq_some_iff.mp e
      cases e
      exact te_evt P1.E h2 fun H2 P2 => k _ _ (P1.trans P2) (.bl _) trivial
    | false =>
      simp only [Bool.false_eq_true, if_false] at e ⊢
      cases e
      exact k _ _ P1 (.bl _) trivial
  · rintro σ H Q ⟨O, α, env, r, env', E, e, k⟩
    unfold evt at e
    rw [and_ev] at e
    obtain ⟨p, h0, e⟩ := Option.bind_eq_some_iff.mp e
    obtain ⟨⟨d, env1⟩, h1, h0⟩ := Option.bind_eq_some_iff.mp h0
    refine ⟨O, α, env, d, env1, E, h1, fun H1 P1 => ?_⟩
    cases d with
    | true =>
      simp only [if_true] at h0 ⊢
      obtain ⟨⟨d2, env2⟩, h2, h0⟩ := Option.map_eq_some_iff.mp h0
      subst h0
      cases e
      exact ⟨O, α, env1, _, _, P1.E, h2, fun H2 P2 => k _ (P1.trans P2)⟩
    | false =>
      simp only [Bool.false_eq_true, if_false] at h0 ⊢
      cases h0
      cases e
      exact k _ P1
theorem or_e {rest : List Expr} (ha : EOK X C a ea) (hb : PE X (.BoolOp .Or (eb :: rest) pos) (tE X.K C b)) (hw : PW X (.BoolOp .Or (eb :: rest) pos) (tT X.K C b)) : EOK X C (.or a b) (.BoolOp .Or (ea :: eb :: rest) pos) := by
  refine ⟨PE.weak (pe_or ha.pe hb) ?_, PT.weak (pw_or ha.pt hw).pt ?_⟩
  · rintro σ H Q ⟨O, α, env, r, env', E, e, k⟩
    rw [or_ev] at e
    obtain ⟨⟨d, env1⟩, h1, e⟩ := Option.bind_eq_some_iff.mp e
    refine tT_of ⟨O, α, env, d, env1, E, h1, fun H1 P1 => ?_⟩
    cases d with
    | false =>
      simp only [Bool.false_eq_true, if_false] at e ⊢
      obtain ⟨⟨d2, env2⟩, h2, e⟩ := Option.map_eq_some_iff.mp e
      cases e
      exact te_evt P1.E h2 fun H2 P2 => k _ _ (P1.trans P2) (.bl _) trivial
    | true =>
      simp only [if_true] at e ⊢
      cases e
      exact k _ _ P1 (.bl _) trivial
  · rintro σ H Q ⟨O, α, env, r, env', E, e, k⟩
    unfold evt at e
    rw [or_ev] at e
    obtain ⟨p, h0, e⟩ := Option.bind_eq_some_iff.mp e
    obtain ⟨⟨d, env1⟩, h1, h0⟩ := Option.bind_eq_some_iff.mp h0
    refine ⟨O, α, env, d, env1, E, h1, fun H1 P1 => ?_⟩
    cases d with
    | false =>
      simp only [Bool.false_eq_true, if_false] at h0 ⊢
      obtain ⟨⟨d2, env2⟩, h2, h0⟩ := Option.map_eq_some_iff.mp h0
      subst h0
      cases e
      exact ⟨O, α, env1, _, _, P1.E, h2, fun H2 P2 => k _ (P1.trans P2)⟩
    | true =>
      simp only [if_true] at h0 ⊢
      cases h0
      cases e
      exact k _ P1
theorem pw_bool {op : BoolOp} {es : List Expr} {tt : TT} (h : PT X (.BoolOp op es pos) tt) : PW X (.BoolOp op es pos) tt := ⟨fun wh pins s σ H Q I q => h.run pins s σ H Q I q⟩
theorem RvR.up {K : PySem.W.Frag} {O : List Addr} {α : Nat → Addr} {env : En} {H H1 H2 : Hp} {r : RV} {v : V} (g : Gr O H H1) (q : RvR K O α env H1 H2 r v) : RvR K O α env H H2 r v := by
  cases r with
  | val d => exact q
  | fr o =>
    obtain ⟨p, e1, e2, e3⟩ := q
    exact ⟨p, e1, g.none e2, e3⟩
  | bo i o => exact q
theorem ite_run {c : E} {σ : L2.St} {H : Hp} {Q : VK} (h : tE X.K C (.ite c a b) σ H Q) : tIf (tT X.K C c) (tE X.K C a) (tE X.K C b) σ H Q := by
  obtain ⟨O, α, env, r, env', E, e, k⟩ := h
  rw [ite_ev] at e
  obtain ⟨⟨d, env1⟩, h1, e⟩ := Option.bind_eq_some_iff.mp e
  refine ⟨O, α, env, d, env1, E, h1, fun H1 P1 => ?_⟩
  cases d with
  | true =>
    simp only [if_true] at e ⊢
    exact ⟨O, α, env1, r, env', P1.E, e, fun v H2 P2 q2 n2 => k v H2 (P1.trans P2) (q2.up P1.g) n2⟩
  | false =>
    simp only [Bool.false_eq_true, if_false] at e ⊢
    exact ⟨O, α, env1, r, env', P1.E, e, fun v H2 P2 q2 n2 => k v H2 (P1.trans P2) (q2.up P1.g) n2⟩
theorem ite_e {c : E} {ec : Expr} (hc : EOK X C c ec) (ha : EOK X C a ea) (hb : EOK X C b eb) : EOK X C (.ite c a b) (.IfExp ec ea eb pos) := by
  refine ⟨PE.weak (pe_ifExp hc.pt ha.pe hb.pe) fun σ H Q q => ite_run q, ⟨fun pins s σ H Q I h => ?_⟩⟩
  obtain ⟨O, α, env, r, env', E, e, k⟩ := h
  unfold evt at e
  obtain ⟨p, h0, e⟩ := Option.bind_eq_some_iff.mp e
  rw [ite_ev] at h0
  obtain ⟨⟨d, env1⟩, h1, h0⟩ := Option.bind_eq_some_iff.mp h0
  refine isTrue_IfExp (thn (hc.pt.run pins s σ H (fun c H1 => c = d ∧ Po X.K O α env σ H env1 H1) I ⟨O, α, env, d, env1, E, h1, fun H1 P1 => ⟨rfl, P1⟩⟩) fun c s1 ⟨H1, I1, hcd, P1⟩ => ?_)
  subst hcd
  cases c with
  | true =>
    simp only [if_true] at h0 ⊢
    exact ha.pt.run pins s1 σ H1 Q I1 ⟨O, α, env1, r, env', P1.E, by unfold evt; rw [h0]; exact e, fun H2 P2 => k _ (P1.trans P2)⟩
  | false =>
    simp only [Bool.false_eq_true, if_false] at h0 ⊢
    exact hb.pt.run pins s1 σ H1 Q I1 ⟨O, α, env1, r, env', P1.E, by unfold evt; rw [h0]; exact e, fun H2 P2 => k _ (P1.trans P2)⟩
end
end PL
set_option maxRecDepth 100000
set_option maxHeartbeats 4000000
/-! PL4c: the soundness of PL1's expressions: names, chains, slices, argument lists, displays, built-ins, methods. -/
namespace PL
open PySem PySem.Spec PyProof.Rows L2
section
variable {X : Cx} {C : Cl} {a b c : E} {ea eb ec : Expr} {pos : Pos}
theorem RvA.mono' {K : PySem.W.Frag} {O : List Addr} {α : Nat → Addr} {env : En} {H H' : Hp} : ∀ {rs : List RV} {vs : List V}, (e : Same H H') → RvA K O α env H rs vs → RvA K O α env H' rs vs
  | _, _, _, .nil => .nil
  | _, _, e, .cons h1 h2 h3 h4 => .cons h1 (fun a h => e.dom a (h2 a h)) (h3.keep' h1 e.gr) (RvA.mono' e h4)
theorem var_e {i : Nat} {x : Str} (hN : X.N[i]? = some x) (hv : Vis X.env.scope x) (hd : (x == ("__debug__" : Str)) = false) (hc : (x == ("__classdict__" : Str)) = false) : EOK X C (.var i) (.Name x pos) :=
  .plain (PE.weak (pe_var hN hv hd hc) (by
    rintro σ H Q ⟨O, α, env, r, env', E, e, k⟩
    rw [ev] at e
    split at e
    · rename_i d h
      cases e
      obtain ⟨v, h1, h2⟩ := E.val i d h
      exact ⟨v, h1, k v H (.refl E) h2 trivial⟩
    · rename_i o h
      cases e
      obtain ⟨h1, h2, h3⟩ := E.own i o h
      exact ⟨_, h1, k _ H (.refl E) ⟨rfl, h⟩ trivial⟩
    · cases e)) fun _ => rfl
/-- a constant -/
def cstOk : Const → Da → Bool
  | .int i, .int j => decide (i = j)
  | .str x, .str y => decide (x = y)
  | .bool x, .bool y => x == y
  | .none, .none => true
  | _, _ => false
theorem cst_run {d : Da} {v : V} {t : E} (ht : ∀ env, ev C t env = some (.val d, env)) (hv : ∀ G, Dq X.K G v d) {σ : L2.St} {H : Hp} {Q : VK} (h : tE X.K C t σ H Q) : Q v H := by
  obtain ⟨O, α, env, r, env', E, e, k⟩ := h
  rw [ht] at e
  cases e
  exact k v H (.refl E) (hv _) trivial
theorem cst_e {d : Da} {k : Const} {j : Nat} (h : cstOk k d = true) : EOK X C (.cst d) (.Constant k j pos) := by
  unfold cstOk at h
  split at h
  · have e := of_decide_eq_true h
    subst e
    exact .plain (PE.weak pe_int fun σ H Q q => cst_run (fun env => by rw [ev]) (fun G => .int _) q) fun _ => rfl
  · have e := of_decide_eq_true h
    subst e
    exact .plain (PE.weak pe_str fun σ H Q q => cst_run (fun env => by rw [ev]) (fun G => .str _) q) fun _ => rfl
  · have e := eq_of_beq h
    subst e
    exact .plain (PE.weak pe_bl fun σ H Q q => cst_run (fun env => by rw [ev]) (fun G => .bl _) q) fun _ => rfl
  · exact .plain (PE.weak pe_non fun σ H Q q => cst_run (fun env => by rw [ev]) (fun G => .non) q) fun _ => rfl
  · cases h
theorem glb_e {x : Str} {d : Da} {u : Value} {v : V} (hg : Gl X x) (hm : X.mg x = some u) (r : RelV v u) (hv : ∀ G, Dq X.K G v d) (hd : (x == ("__debug__" : Str)) = false) : EOK X C (.glb x d) (.Name x pos) :=
  .plain (PE.weak (pe_glob hg hm r hd) fun σ H Q q => cst_run (fun env => by rw [ev]) hv q) fun _ => rfl
/-! ### argument lists -/
theorem nil_a : PA X [] (tA X.K C .nil) := PA.weak pa_nil (by
  rintro σ H Q ⟨O, α, env, r, env', E, e, k⟩
  rw [evs] at e
  cases e
  exact k [] H (.refl E) .nil)
theorem cons_a {e : E} {es : Es} {x : Expr} {xs : List Expr} (he : PE X x (tE X.K C e)) (hs : PA X xs (tA X.K C es)) (h : starEach (x :: xs) X.env = (false, eval x X.env) :: starEach xs X.env) : PA X (x :: xs) (tA X.K C (.cons e es)) :=
  PA.weak (pa_cons he hs h) (by
    rintro σ H Q ⟨O, α, env, rs, env', E, e, k⟩
    rw [evs] at e
    obtain ⟨⟨r, env1⟩, h1, e⟩ := Option.bind_eq_some_iff.mp e
    obtain ⟨⟨rs', env2⟩, h2, e⟩ := Option.bind_eq_some_iff.mp e
    obtain ⟨x, h3, e⟩ := Option.map_eq_some_iff.mp e
    cases e
    refine ⟨O, α, env, r, env1, E, h1, fun v H1 P1 q1 _ => ⟨O, α, env1, rs', env2, P1.E, h2, fun vs H2 P2 q2 => ?_⟩⟩
    have P := P1.trans P2
    exact k (v :: vs) H2 P (.cons E.trk P.g.dom (q1.keep E.trk P2.g h3) q2))
theorem RvA.vals {K : PySem.W.Frag} {O : List Addr} {α : Nat → Addr} {env : En} {H : Hp} (E : ∀ a ∈ O, H a ≠ none) : ∀ {vs ws : List V} {ds : List Da} {rs : List RV}, DqA K (Fz O H) vs ds → RvA K O α env H rs ws → RvA K O α env H (ds.map RV.val ++ rs) (vs ++ ws)
  | _, _, _, _, .nil, h => h
  | _, _, _, _, .cons h t, q => .cons E (fun _ z => z) h (RvA.vals E t q)
theorem star_a {e : E} {es : Es} {x : Expr} {xs : List Expr} {p : Pos} (he : PE X x (tE X.K C e)) (hs : PA X xs (tA X.K C es)) : PA X (.Starred x p :: xs) (tA X.K C (.star e es)) :=
  PA.weak (StX.pa_star he hs rfl) (by
    rintro σ H Q ⟨O, α, env, rs, env', E, e, k⟩
    rw [evs] at e
    obtain ⟨⟨r, env1⟩, h1, e⟩ := Option.bind_eq_some_iff.mp e
    have go : ∀ {ds : List Da} (v : V) (H1 : Hp) (a : Addr) (vs : List V), Po X.K O α env σ H env1 H1 → v = .ref a → (SqT X.K H1 a vs ∨ SqL X.K H1 a vs) → DqA X.K (Fz O H1) vs ds → ((evs C es env1).map fun q => (ds.map RV.val ++ q.1, q.2)) = some (rs, env') →
        ∃ a xs, v = V.ref a ∧ (SqT X.K H1 a xs ∨ SqL X.K H1 a xs) ∧ tA X.K C es σ H1 fun ws H2 => Q (xs ++ ws) H2 := by
      rintro ds v H1 a vs P1 rfl sq hd e
      obtain ⟨⟨rs', env2⟩, h2, e⟩ := Option.map_eq_some_iff.mp e
      cases e
      refine ⟨a, vs, rfl, sq, O, α, env1, rs', _, P1.E, h2, fun ws H2 P2 q2 => ?_⟩
      exact k _ H2 (P1.trans P2) (.vals P2.E.trk (hd.mono P2.g.fz) q2)
    refine ⟨O, α, env, r, env1, E, h1, fun v H1 P1 q1 _ => ?_⟩
    split at e
    · rename_i ds er
      obtain ⟨p, vs, rfl, a1, a2⟩ := q1.vw P1.E er
      exact go _ H1 p vs P1 rfl (.inr a1) a2 e
    · rename_i ds er
      cases (show Dq _ _ v _ from q1.vw P1.E er) with
      | tup g t => exact go _ H1 _ _ P1 rfl (.inl (.of (Fz.sub _ _ g))) t e
    · cases e)
/-! ### displays -/
theorem RvA.frz {K : PySem.W.Frag} {O : List Addr} {α : Nat → Addr} {env : En} {H : Hp} : ∀ {rs : List RV} {vs : List V} {ds : List Da}, RvA K O α env H rs vs → rs.mapM RV.frz = some ds → DqA K (Fz O H) vs ds
  | [], _, _, .nil, e => by
    simp at e
    subst e
    exact .nil
  | r :: rs, _, ds, .cons h1 h2 h3 h4, e => by
    rw [List.mapM_cons] at e
    obtain ⟨d, e1, e⟩ := Option.bind_eq_some_iff.mp e
    obtain ⟨ds', e2, e⟩ := Option.bind_eq_some_iff.mp e
    cases e
    exact .cons (h3.frz h1 e1) (h4.frz e2)
theorem tup_e {es : Es} {xs : List Expr} {k : Nat} (h : PA X xs (tA X.K C es)) : EOK X C (.tup es) (.Tuple xs k pos) :=
  .plain (PE.weak (pe_tup h) (by
    rintro σ H Q ⟨O, α, env, r, env', E, e, k⟩
    rw [ev] at e
    obtain ⟨⟨rs, env1⟩, h1, e⟩ := Option.bind_eq_some_iff.mp e
    obtain ⟨ds, h2, e⟩ := Option.bind_eq_some_iff.mp e
    obtain ⟨u, h3, e⟩ := Option.map_eq_some_iff.mp e
    cases e
    refine ⟨O, α, env, rs, env1, E, h1, fun vs H1 P1 q1 => ?_⟩
    have hd := q1.frz h2
    refine ⟨by rw [hd.length]; exact lim_line (gd_some h3), fun p hp => ?_⟩
    have n := Rn.tup P1.E.trk hp hd
    exact k _ _ (P1.same n.same) (n.rv P1.g.dom) (n.nw P1.E))) fun _ => rfl
theorem lst_e {es : Es} {xs : List Expr} (h : PA X xs (tA X.K C es)) : EOK X C (.lst es) (.List xs pos) :=
  .plain (PE.weak (pe_lst h) (by
    rintro σ H Q ⟨O, α, env, r, env', E, e, k⟩
    rw [ev] at e
    obtain ⟨⟨rs, env1⟩, h1, e⟩ := Option.bind_eq_some_iff.mp e
    obtain ⟨ds, h2, e⟩ := Option.bind_eq_some_iff.mp e
    obtain ⟨u, h3, e⟩ := Option.map_eq_some_iff.mp e
    cases e
    refine ⟨O, α, env, rs, env1, E, h1, fun vs H1 P1 q1 => ?_⟩
    have hd := q1.frz h2
    refine ⟨by rw [hd.length]; exact lim_line (gd_some h3), fun p hp => ?_⟩
    have n := Rn.lst P1.E.trk hp hd
    exact k _ _ (P1.same n.same) (n.rv P1.g.dom) (n.nw P1.E))) fun _ => rfl
theorem dK_e : EOK X C .dK (.Dict [] [] pos) :=
  .plain (PE.weak pe_dnewK (by
    rintro σ H Q ⟨O, α, env, r, env', E, e, k⟩
    rw [ev] at e
    cases e
    intro p hp
    have n : Rn X.K O H (upd H p (.dK [])) (.fr (.K [])) (.ref p) := ⟨same_new hp, p, rfl, hp, [], upd_same, .nil⟩
    exact k _ _ ((Po.refl E).same n.same) (n.rv fun _ h => h) (n.nw E))) fun _ => rfl
/-! ### chains -/
theorem chn_run (hu : X.A.units + 68 < cLine) {op op' : CmpOp} {σ : L2.St} {H : Hp} {Q : VK} (h : tE X.K C (.chn op op' a b c) σ H Q) :
    tChain (fun x y H Q => WO X (compareOp op) x y H Q) (fun x y H Q => WO X (compareOp op') x y H Q) (tE X.K C a) (tE X.K C b) (tE X.K C c) σ H Q := by
  obtain ⟨O, α, env, r, env', E, e, k⟩ := h
  rw [ev] at e
  obtain ⟨⟨ra, env1⟩, h1, e⟩ := Option.bind_eq_some_iff.mp e
  obtain ⟨⟨rb, env2⟩, h2, e⟩ := Option.bind_eq_some_iff.mp e
  obtain ⟨x, h3, e⟩ := Option.bind_eq_some_iff.mp e
  obtain ⟨d, h4, e⟩ := Option.bind_eq_some_iff.mp e
  refine ⟨O, α, env, ra, env1, E, h1, fun v H1 P1 q1 _ => ⟨O, α, env1, rb, env2, P1.E, h2, fun u H2 P2 q2 _ => ?_⟩⟩
  refine cmp_ok (by omega) P2.E (q1.keep E.trk P2.g h3) q2 h4 ⟨d, rfl, ?_⟩
  cases d with
  | true =>
    simp only [if_true] at e ⊢
    obtain ⟨⟨rc, env3⟩, h5, e⟩ := Option.bind_eq_some_iff.mp e
    obtain ⟨y, h6, e⟩ := Option.bind_eq_some_iff.mp e
    obtain ⟨d', h7, e⟩ := Option.map_eq_some_iff.mp e
    cases e
    refine ⟨O, α, env2, rc, env3, P2.E, h5, fun w H3 P3 q3 _ => ?_⟩
    exact cmp_ok (by omega) P3.E (q2.keep P1.E.trk P3.g h6) q3 h7 (k _ _ ((P1.trans P2).trans P3) (.bl _) trivial)
  | false =>
    simp only [Bool.false_eq_true, if_false] at e ⊢
    cases e
    exact k _ _ (P1.trans P2) (.bl _) trivial
theorem chn_e (hu : X.A.units + 68 < cLine) {op op' : CmpOp} (ha : EOK X C a ea) (hb : EOK X C b eb) (hc : EOK X C c ec) (hm : lastMarks [op, op'] [eb, ec] = false) : EOK X C (.chn op op' a b c) (.Compare ea [op, op'] [eb, ec] pos) :=
  ⟨PE.weak (pe_chain or_wo or_wo ha.pe hb.pe hc.pe hm) fun σ H Q q => chn_run hu q, PT.weak (pt_chain or_wo or_wo ha.pe hb.pe hc.pe hm) fun σ H Q q => chn_run hu (tT_of q)⟩
/-! ### slices -/
theorem no_o : PO X none (tO X.K C .no) := ⟨fun pins s σ H Q I h => po_none.run pins s σ H Q I (by
  obtain ⟨O, α, env, r, env', E, e, k⟩ := h
  rw [evo] at e
  cases e
  exact k H (.refl E))⟩
theorem yes_o (h : PE X ea (tE X.K C a)) : PO X (some ea) (tO X.K C (.yes a)) := ⟨fun pins s σ H Q I q => (po_some h).run pins s σ H Q I (by
  obtain ⟨O, α, env, r, env', E, e, k⟩ := q
  rw [evo] at e
  obtain ⟨⟨rc, env3⟩, h5, e⟩ := Option.bind_eq_some_iff.mp e
  split at e
  · rename_i i hr
    have hr : rc = .val (.int i) := hr
    subst hr
    cases e
    refine ⟨O, α, env, _, _, E, h5, fun v H1 P1 q1 _ => ?_⟩
    cases (show Dq _ _ v _ from q1)
    exact ⟨i, rfl, k H1 P1⟩
  · cases e)⟩
theorem slc_e {lo hi : Oe} {l u : Option Expr} {p2 : Pos} (ha : EOK X C a ea) (hl : PO X l (tO X.K C lo)) (hh : PO X u (tO X.K C hi)) : EOK X C (.slc a lo hi) (.Subscript ea (.Slice l u none p2) pos) :=
  .plain ⟨fun pins s σ H Q I q => (pe_slice sl_wsl ha.pe hl hh).run pins s σ H Q I (by
    obtain ⟨O, α, env, r, env', E, e, k⟩ := q
    rw [ev] at e
    obtain ⟨⟨ra, env1⟩, h1, e⟩ := Option.bind_eq_some_iff.mp e
    obtain ⟨⟨i, env2⟩, h2, e⟩ := Option.bind_eq_some_iff.mp e
    obtain ⟨⟨j, env3⟩, h3, e⟩ := Option.bind_eq_some_iff.mp e
    obtain ⟨x, h4, e⟩ := Option.bind_eq_some_iff.mp e
    obtain ⟨d, h5, e⟩ := Option.map_eq_some_iff.mp e
    cases e
    refine ⟨O, α, env, ra, env1, E, h1, fun v H1 P1 q1 _ => ⟨O, α, env1, i, env2, P1.E, h2, fun H2 P2 => ⟨O, α, env2, j, env3, P2.E, h3, fun H3 P3 => ?_⟩⟩⟩
    have P := (P1.trans P2).trans P3
    exact slc_ok P3.E (q1.keep E.trk (P2.trans P3).g h4) h5 fun w H4 hn => k w H4 (P.same hn.same) (hn.rv P.g.dom) (hn.nw P.E))⟩ fun _ => rfl
theorem rev_e {k : Nat} {p1 p2 p3 : Pos} (ha : EOK X C a ea) : EOK X C (.rev a) (.Subscript ea (.Slice none none (some (.UnaryOp .USub (.Constant (.int 1) k p1) p2)) p3) pos) :=
  .plain (PE.weak (pe_rev ha.pe) (un_run (f := opRev) (fun {O} {α} {env} {σ} {Ha} {H} {a} {r'} {x} {Q} E _ h1 e k => by
    unfold opRev at e
    split at e
    · rename_i z ez
      obtain ⟨u, h3, e⟩ := Option.map_eq_some_iff.mp e
      subst e
      cases (show Dq _ _ x _ from h1.vw E ez)
      exact .inr ⟨z, rfl, gd_some h3, k _ _ (.val (.str _))⟩
    · rename_i ds ez
      cases e
      obtain ⟨p, vs, rfl, a1, a2⟩ := h1.vw E ez
      exact .inl ⟨p, vs, rfl, a1, fun q hq => k _ _ (Rn.lst E.trk hq a2.reverse)⟩
    · cases e) fun env => by rw [ev])) fun _ => rfl
end
end PL
set_option maxRecDepth 100000
set_option maxHeartbeats 4000000
/-! PL4d: the soundness of PL1's expressions: built-ins, methods, pop, calls. -/
namespace PL
open PySem PySem.Spec PyProof.Rows L2
def notStar : Expr → Bool
  | .Starred _ _ => false
  | _ => true
def noStars (es : List Expr) : Bool := es.all notStar
theorem star_cons {e : Expr} {es : List Expr} {env : Env} (h : notStar e = true) : starEach (e :: es) env = (false, eval e env) :: starEach es env := by
  cases e <;> first | rfl | cases h
theorem plain_any {env : Env} {pos : Pos} : ∀ {es : List Expr}, noStars es = true → (backTo pos (starEach es env)).any (·.1) = false
  | [], _ => rfl
  | e :: es, h => by
    obtain ⟨h1, h2⟩ : notStar e = true ∧ noStars es = true := by
      unfold noStars at h ⊢
      rw [List.all_cons, Bool.and_eq_true] at h
      exact h
    rw [star_cons h1]
    show (false || (backTo pos (starEach es env)).any (·.1)) = false
    rw [plain_any h2]
    rfl
theorem plain_all {env : Env} {pos : Pos} : ∀ {es : List Expr}, noStars es = true → (backTo pos (starEach es env)).all (fun x => !x.1) = true
  | [], _ => rfl
  | e :: es, h => by
    obtain ⟨h1, h2⟩ : notStar e = true ∧ noStars es = true := by
      unfold noStars at h ⊢
      rw [List.all_cons, Bool.and_eq_true] at h
      exact h
    rw [star_cons h1]
    show (true && (backTo pos (starEach es env)).all (fun x => !x.1)) = true
    rw [plain_all h2]
    rfl
def bN : B → Str
  | .len => "len" | .all => "all" | .any => "any" | .sum => "sum" | .max => "max" | .min => "min" | .sorted => "sorted" | .tuple => "tuple" | .list => "list" | .dict => "dict" | .int => "int" | .abs => "abs" | .repr => "repr"
theorem boot_b (b : B) : bootBuiltins (bN b) = some (bV b) := by cases b <;> decide +kernel
theorem bN_ne (b : B) : bN b ≠ "__name__" := by cases b <;> decide
theorem bN_db (b : B) : (bN b == ("__debug__" : Str)) = false := by cases b <;> decide
def mA : Mt → Str
  | .join => "join" | .starts2 => "startswith" | .starts1 => "startswith" | .index => "index"
/-- the receiver of a method -/
def recv : Expr → Bool
  | .Name _ _ => true
  | .Constant _ _ _ => true
  | .Subscript _ _ _ => true
  | .Attribute _ _ _ => true
  | _ => false
theorem recv_base {o : Expr} {m : Str} {env : Env} {w : Sem Value} (h : recv o = true) : attributeBase o m env w = w := by
  cases o <;> first | rfl | cases h
section
variable {X : Cx} {C : Cl} {a b c : E} {ea eb ec : Expr} {pos p : Pos} {es : Es} {xs : List Expr}
theorem bc_run (hc : X.calm = true) (hu : X.A.units + 68 < cLine) (gs : X.A.guards = some []) {b : B} {σ : L2.St} {H : Hp} {Q : VK} (h : tE X.K C (.bc b es) σ H Q) : tCB (fun xs H Q => WC X (bV b) xs H Q) (tA X.K C es) σ H Q := by
  obtain ⟨O, α, env, r, env', E, e, k⟩ := h
  rw [ev] at e
  obtain ⟨⟨rs, env1⟩, h1, e⟩ := Option.bind_eq_some_iff.mp e
  obtain ⟨r, h2, e⟩ := Option.map_eq_some_iff.mp e
  cases e
  refine ⟨O, α, env, rs, env1, E, h1, fun vs H1 P1 q1 => ?_⟩
  exact bcall_ok hc hu gs P1.E q1 h2 fun w H4 hn => k w H4 (P1.same hn.same) (hn.rv P1.g.dom) (hn.nw P1.E)
theorem bc_e (hc : X.calm = true) (hu : X.A.units + 68 < cLine) (gs : X.A.guards = some []) {b : B} (hg : Gl X (bN b)) (hm : X.mg (bN b) = none) (ha : PA X (ea :: xs) (tA X.K C es)) (h1 : notStar ea = true) (h2 : noStars xs = true) :
    EOK X C (.bc b es) (.Call (.Name (bN b) p) (ea :: xs) [] pos) := by
  refine .plain (PE.weak (t := tCB (fun xs H Q => WC X (bV b) xs H Q) (tA X.K C es)) ?_ fun σ H Q q => bc_run hc hu gs q) fun _ => rfl
  have hv := boot_b b
  have n1 := bN_ne b
  have n2 := bN_db b
  have s1 := star_cons (es := xs) (env := X.env) h1
  have s2 := plain_any (env := X.env) (pos := pos) h2
  cases b <;> first
    | exact pe_callB cr_wc hg hm hv ha n1 n2 s1 s2
    | exact pe_callTy cr_wc hg hm hv ha n1 n2 s1 s2
/-! ### isinstance -/
def tyS : Ty → Str
  | .int => "int" | .bool => "bool" | .tuple => "tuple" | .str => "str"
theorem boot_ty (T : Ty) : bootBuiltins (tyS T) = some (.type (tyN T)) := by cases T <;> decide +kernel
theorem boot_isi : bootBuiltins "isinstance" = some (.builtin "isinstance") := by decide +kernel
theorem isi_e {T : Ty} {p2 : Pos} (hg : Gl X "isinstance") (hm : X.mg "isinstance" = none) (hg2 : Gl X (tyS T)) (hm2 : X.mg (tyS T) = none) (ha : PE X ea (tE X.K C a)) (h1 : notStar ea = true) :
    EOK X C (.isi T a) (.Call (.Name "isinstance" p) [ea, .Name (tyS T) p2] [] pos) := by
  have n1 : tyS T ≠ "__name__" := by cases T <;> decide
  have n2 : (tyS T == ("__debug__" : Str)) = false := by cases T <;> decide
  have hty : PE X (.Name (tyS T) p2) (tC (.ty (tyN T))) := pe_bltn hg2 hm2 (boot_ty T) rfl n1 n2
  have pa : PA X [ea, .Name (tyS T) p2] (tCons (tE X.K C a) (tCons (tC (.ty (tyN T))) tNil)) := pa_cons ha (pa_cons hty pa_nil rfl) (star_cons h1)
  refine .plain (PE.weak (pe_callB cr_wc hg hm boot_isi pa (by decide) (by decide) (star_cons h1) rfl) ?_) fun _ => rfl
  rintro σ H Q ⟨O, α, env, r, env', E, e, k⟩
  rw [ev] at e
  obtain ⟨⟨ra, env1⟩, h1, e⟩ := Option.bind_eq_some_iff.mp e
  obtain ⟨r, h2, e⟩ := Option.map_eq_some_iff.mp e
  cases e
  exact ⟨O, α, env, ra, env1, E, h1, fun v H1 P1 q1 _ => isi_ok q1 h2 (k _ _ P1 (.bl _) trivial)⟩
/-! ### list(range(n)) -/
theorem boot_list : bootBuiltins "list" = some (.type "list") := by decide +kernel
theorem lrg_e {p1 p2 : Pos} (hc : X.calm = true) (hg : Gl X "list") (hm : X.mg "list" = none) (hg2 : Gl X "range") (hm2 : X.mg "range" = none) (ha : PE X ea (tE X.K C a)) (h1 : notStar ea = true) :
    EOK X C (.lrg a) (.Call (.Name "list" p) [.Call (.Name "range" p1) [ea] [] p2] [] pos) := by
  refine .plain (PE.weak (pe_listRg hc hg hm (prg_1 hg2 hm2 ha (star_cons h1)) rfl) ?_) fun _ => rfl
  rintro σ H Q ⟨O, α, env, r, env', E, e, k⟩
  rw [ev] at e
  obtain ⟨⟨ra, env1⟩, h1, e⟩ := Option.bind_eq_some_iff.mp e
  split at e
  · rename_i n hn
    have hn : ra = .val (.int n) := hn
    subst hn
    obtain ⟨u, h3, e⟩ := Option.map_eq_some_iff.mp e
    cases e
    refine ⟨O, α, env, _, env1, E, h1, fun v H1 P1 q1 _ => ?_⟩
    cases (show Dq _ _ v _ from q1)
    obtain ⟨h4, h5⟩ := gd_some h3
    have h5 : n ≤ 1000000 := h5
    refine ⟨n, rfl, ⟨by omega, by omega, by omega, by omega, by omega⟩, fun q hq => ?_⟩
    have hd : DqA X.K (Fz O H1) (rgV 0 n) (intR 0 n.toNat) := by
      unfold rgV intR
      rw [Int.sub_zero]
      have go : ∀ l : List Nat, DqA X.K (Fz O H1) (l.map fun (i : Nat) => V.int (0 + (i : Int))) (l.map fun (i : Nat) => PyData.int (0 + (i : Int))) := fun l => by
        induction l with
        | nil => exact .nil
        | cons i l ih => exact .cons (.int _) ih
      exact go _
    have n := Rn.lst P1.E.trk hq hd
    exact k _ _ (P1.same n.same) (n.rv P1.g.dom) (n.nw P1.E)
  · cases e
/-! ### methods -/
theorem mth_run (hu : X.A.units + 68 < cLine) {m : Mt} {T : String} (hT : T = (match m with | .index => "list" | _ => "str")) {σ : L2.St} {H : Hp} {Q : VK} (h : tE X.K C (.mth m a es) σ H Q) : tBM X.K T (fun x xs H Q => WM X (mN m) x xs H Q) (tE X.K C a) (tA X.K C es) σ H Q := by
  obtain ⟨O, α, env, r, env', E, e, k⟩ := h
  rw [ev] at e
  obtain ⟨⟨ra, env1⟩, h1, e⟩ := Option.bind_eq_some_iff.mp e
  obtain ⟨u0, hok, e⟩ := Option.bind_eq_some_iff.mp e
  obtain ⟨⟨rs, env2⟩, h2, e⟩ := Option.bind_eq_some_iff.mp e
  obtain ⟨x, h3, e⟩ := Option.bind_eq_some_iff.mp e
  obtain ⟨r, h4, e⟩ := Option.map_eq_some_iff.mp e
  cases e
  have hok : mtOk m ra := gd_some hok
  refine ⟨O, α, env, ra, env1, E, h1, fun v H1 P1 q1 _ => ⟨?_, O, α, env1, rs, env2, P1.E, h2, fun vs H2 P2 q2 => ?_⟩⟩
  · have txts : (∃ z, ra = .val (.str z)) → tyV X.K "str" v H1 := fun ⟨z, ea⟩ => by
      subst ea
      cases (show Dq _ _ v _ from q1)
      exact rfl
    subst hT
    cases m with
    | join => exact txts hok
    | starts1 => exact txts hok
    | starts2 => exact txts hok
    | index =>
      obtain ⟨ds, ea⟩ := hok
      obtain ⟨p, vs, rfl, a1, a2⟩ := q1.vw P1.E ea
      exact .inl ⟨rfl, vs, a1⟩
  · have P := P1.trans P2
    exact mcall_ok (by omega) P2.E (q1.keep E.trk P2.g h3) q2 h4 fun w H4 hn => k w H4 (P.same hn.same) (hn.rv P.g.dom) (hn.nw P.E)
theorem few_ok {cpos : Pos} {env : Env} (h1 : notStar ea = true) (h2 : noStars xs = true) (h3 : xs.length < 29) : ((backTo cpos (starEach (ea :: xs) env)).all (fun x => !x.1) && (backToKw cpos (keywordEach [] env)).all (fun x => x.1.isSome)
      && decide ((ea :: xs).length + ([] : List Keyword).length + (if ([] : List Keyword).isEmpty then 0 else 1) < 30)) = true := by
  have e1 := plain_all (env := env) (pos := cpos) (es := ea :: xs) (by unfold noStars at h2 ⊢; rw [List.all_cons, h1, h2]; rfl)
  rw [e1]
  show decide ((ea :: xs).length + 0 + 0 < 30) = true
  rw [decide_eq_true_eq, List.length_cons]
  omega
theorem mth_e (hu : X.A.units + 68 < cLine) {m : Mt} {apos cpos : Pos} (ho : PE X ea (tE X.K C a)) (ha : PA X (eb :: xs) (tA X.K C es)) (hr : recv ea = true) (h1 : notStar eb = true) (h2 : noStars xs = true) (h3 : xs.length < 29) (hl : (apos.endLine == cpos.line) = true) :
    EOK X C (.mth m a es) (.Call (.Attribute ea (mA m) apos) (eb :: xs) [] cpos) := by
  have s1 := star_cons (es := xs) (env := X.env) h1
  have s2 := plain_any (env := X.env) (pos := cpos) h2
  have s3 := few_ok (cpos := cpos) (env := X.env) h1 h2 h3
  refine .plain ?_ fun _ => rfl
  cases m with
  | join => exact PE.weak (pe_bm PySem.F.plainAttrs_str PySem.F.slot_str_join PySem.F.type_str_join mt_wm ho ha (recv_base hr) s3 hl s1 s2) fun σ H Q q => mth_run hu rfl q
  | starts1 => exact PE.weak (pe_bm PySem.F.plainAttrs_str PySem.F.slot_str_startswith PySem.F.type_str_startswith mt_wm ho ha (recv_base hr) s3 hl s1 s2) fun σ H Q q => mth_run hu rfl q
  | starts2 => exact PE.weak (pe_bm PySem.F.plainAttrs_str PySem.F.slot_str_startswith PySem.F.type_str_startswith mt_wm ho ha (recv_base hr) s3 hl s1 s2) fun σ H Q q => mth_run hu rfl q
  | index => exact PE.weak (pe_bm PySem.F.plainAttrs_list PySem.F.slot_list_index PySem.F.type_list_index mt_wm ho ha (recv_base hr) s3 hl s1 s2) fun σ H Q q => mth_run hu rfl q
/-! ### pop, append -/
theorem pop_e {i : Nat} {x : Str} {p1 apos cpos : Pos} (hN : X.N[i]? = some x) (hv : Vis X.env.scope x) (hd : (x == ("__debug__" : Str)) = false) (hc : (x == ("__classdict__" : Str)) = false) (ha : PE X ea (tE X.K C a)) (h1 : notStar ea = true) (hl : (apos.endLine == cpos.line) = true) :
    EOK X C (.pop i a) (.Call (.Attribute (.Name x p1) "pop" apos) [ea] [] cpos) := by
  have s1 := star_cons (es := []) (env := X.env) h1
  have pa : PA X [ea] (tCons (tE X.K C a) tNil) := pa_cons ha pa_nil s1
  refine .plain (PE.weak (pe_bm PySem.F.plainAttrs_list PySem.F.slot_list_pop PySem.F.type_list_pop mt_popAt (pe_var hN hv hd hc) pa rfl (few_ok h1 rfl (by decide)) hl s1 rfl) ?_) fun _ => rfl
  rintro σ H Q ⟨O, α, env, r, env', E, e, k⟩
  rw [ev] at e
  split at e
  · rename_i ds0 hi
    obtain ⟨b1, b2, vs0, b3, b4⟩ := E.own i _ hi
    obtain ⟨⟨ra, env1⟩, h1, e⟩ := Option.bind_eq_some_iff.mp e
    refine ⟨_, b1, .inl ⟨rfl, vs0, .of b3⟩, O, α, env, ra, env1, E, h1, fun v H1 P1 q1 _ => ?_⟩
    split at e
    · rename_i kk ds hr hi1
      have hr : ra = .val (.int kk) := hr
      subst hr
      cases (show Dq _ _ v _ from q1)
      obtain ⟨u, hb, e⟩ := Option.bind_eq_some_iff.mp e
      obtain ⟨j, hj, e⟩ := Option.bind_eq_some_iff.mp e
      obtain ⟨d, hdj, e⟩ := Option.map_eq_some_iff.mp e
      cases e
      have hb := gd_some hb
      have hi1 : env1[i]? = some (some (.own (.L ds))) := hi1
      obtain ⟨c1, c2, vs, c3, c4⟩ := P1.E.own i _ hi1
      obtain ⟨y, hy, hyd⟩ := c4.get hdj
      refine ⟨α i, vs, kk, j, y, rfl, rfl, c3, by omega, by omega, ?_, hy, ?_⟩
      · rw [c4.length]
        exact (L2.ixN_seq hj).1
      · have E2 := P1.E.mut (o' := .L (ds.eraseIdx j)) (u := .lst (vs.eraseIdx j)) hi1 True.intro ⟨vs.eraseIdx j, upd_same, c4.erase j⟩
        have g2 : Gr O H1 (upd H1 (α i) (.lst (vs.eraseIdx j))) := Gr.mut c2 True.intro
        refine k y _ (P1.trans ⟨E2, g2, .set hi1, fun x _ hn u h => by rw [upd_ne (Ne.symm (hn i _ hi1))]; exact h⟩) (hyd.mono g2.fz) trivial
    · cases e
  · cases e
end
end PL
set_option maxRecDepth 100000
set_option maxHeartbeats 4000000
/-! PLG: promises of defs that run where nothing is being shown (no guard stands). -/
namespace PL
open PySem PySem.Spec PyProof.Rows L2
/-- as FnOk, for callers around which no guard stands -/
structure FnG (P : Program) (w : World) (K : PySem.W.Frag) (mg : Str → Option Value) (base : Heap) (CX : CXT) (k : Nat) (f : Addr) (fd : FuncData) (ps : List Str) (sp : Sp) : Prop where
  len : ∀ vs H Q E, sp vs H Q E → vs.length = ps.length
  go : ∀ (A : Around), Room k A → A.guards = some [] → ∀ (outer : List Env) (s : Shared) (H : Hp) (args : Args) (us : List Value) (vs : List V) (Q : VK) (E : XK), Env0 P w K mg base A outer s H → BindsTo s fd args (ps.zip us) →
    Vals vs us → sp vs H Q E → codeAny (model P w) A (.call (.ref f) args) (CR CX outer P w H s Q E) s
section
variable {X : Cx} {CX : CXT} {k : Nat} {f : Addr} {fd : FuncData} {ps : List Str} {sp : Sp} {E : XK} {x : Str} {p pos : Pos} {e : Expr} {es : List Expr} {t : TA}
theorem FnG.calls {pins : List (Addr × Obj)} {σ : L2.St} {H : Hp} {s : Shared} {Q : VK} {us : List Value} {vs : List V} (F : FnG X.prog X.w X.K X.mg X.base CX k f fd ps sp) (room : Room k X.A) (gs : X.A.guards = some []) (bi : Binds X.K fd ps [])
    (no : ∀ a b c d e f, ¬ CX a b c d e f) (I : Inv X pins σ H s) (rv : Vals vs us) (z : sp vs H Q E) :
    wpAny (model X.prog X.w) X.A (call (.ref f) us) (EP X pins σ Q) X.xe s := by
  have lu : us.length = ps.length := by rw [← rv.length]; exact F.len _ _ _ _ z
  have bz := bi s us I.kIn (by rw [List.append_nil]; exact lu)
  rw [List.append_nil] at bz
  refine wpAny_call (codeAny_mono (F.go X.A room gs X.stack s H ⟨us, []⟩ us vs Q E I.env0 bz rv z) ?_)
  intro res s' hres
  match res, hres with
  | .error er, hres => exact (no _ _ _ _ _ _ hres).elim
  | .ok (.ret u), hres => exact I.after hres
  | .ok .next, hres => exact hres.elim
  | .ok .brk, hres => exact hres.elim
  | .ok .cont, hres => exact hres.elim
theorem pe_callG (F : FnG X.prog X.w X.K X.mg X.base CX k f fd ps sp) (room : Room k X.A) (gs : X.A.guards = some []) (gl : Gl X x) (mx : X.mg x = some (.ref f)) (kp : PySem.W.keepIn X.K (.ref f) = true) (bi : Binds X.K fd ps [])
    (no : ∀ a b c d e f, ¬ CX a b c d e f) (ha : PA X (e :: es) t) (nd : (x == ("__debug__" : Str)) = false) (hst : starEach (e :: es) X.env = (false, eval e X.env) :: starEach es X.env)
    (hpl : (backTo pos (starEach es X.env)).any (·.1) = false) : PE X (.Call (.Name x p) (e :: es) [] pos) (tCall sp [] E t) :=
  ⟨fun pins s σ H Q I z => wpAny_Call_Name_kw (ld_glob I gl mx (PySem.W.callWith_K (h₀ := X.base) I.ok.mod.kin kp (thn (ha.run pos pins s σ H _ I z) fun us s1 ⟨vs, H1, I1, rv, q⟩ =>
    ⟨I1.kIn, F.calls (Q := Q) (E := E) room gs bi no I1 rv (by
      have q' : sp (vs ++ []) H1 Q E := q
      rw [List.append_nil] at q'
      exact q')⟩) hst hpl) nd)⟩
theorem pe_callG0 (F : FnG X.prog X.w X.K X.mg X.base CX k f fd ps sp) (room : Room k X.A) (gs : X.A.guards = some []) (gl : Gl X x) (mx : X.mg x = some (.ref f)) (kp : PySem.W.keepIn X.K (.ref f) = true) (bi : Binds X.K fd ps [])
    (no : ∀ a b c d e f, ¬ CX a b c d e f) (nd : (x == ("__debug__" : Str)) = false) : PE X (.Call (.Name x p) [] [] pos) (tCall sp [] E tNil) :=
  ⟨fun pins s σ H Q I z => wpAny_Call_Name_kw (ld_glob I gl mx (PySem.W.callWith_K0 I.kIn kp (F.calls (us := []) (vs := []) room gs bi no I .nil z)) nd)⟩
end
section
variable {P : Program} {w : World} {K : PySem.W.Frag} {mg : Str → Option Value} {base : Heap} {CX : CXT} {k : Nat} {f : Addr} {name qual : Str} {params : Arguments} {body : List Stmt} {scope : Scope}
/-- a def keeps its promise, if its body does -/
theorem fnG_of {dV kV doc pm cdv ct oc : Value} {an od : Option Addr} {osl : Array (Option Value)} {N ps : List Str} {sp : Sp} (at_f : K.lookup f = some ⟨oc, od, .func (PySem.W.fnOf name qual params body scope dV kV doc pm an cdv ct), osl⟩)
    (cd : PySem.W.codeIn K cdv qual = true) (S : FnScope N ps scope) (len : ∀ vs H Q E, sp vs H Q E → vs.length = ps.length)
    (run : ∀ (A : Around), (∀ env, Room k (A.deeper env)) → A.guards = some [] → ∀ (outer : List Env) (s : Shared) (H : Hp) (vs : List V) (Q : VK) (E : XK), sp vs H Q E →
      ∃ t, PSs (cxOf CX P w K mg base N qual scope f cdv A outer s H E) body t ∧ t { nx := fun _ H' => Q .non H', rt := Q } (start N vs) H) :
    FnG P w K mg base CX (k + 1) f (PySem.W.fnOf name qual params body scope dV kV doc pm an cdv ct) ps sp := by
  constructor
  · exact len
  · intro A room gs outer s H args us vs Q E ev bi rv z
    have inK : K.In s.heap := ev.mod.kin.keeps fun b o q => (ev.bs b o q).1
    obtain ⟨t, ht, hq⟩ := run A (fun env => room.deeper env) gs outer s H vs Q E z
    have kinds : ∀ y ∈ ps.zip us, scope.names.lookup y.1 = some .local ∨ (scope.names.lookup y.1 = some .cell ∧ ((cellsFrom (s.heap.objs.size + 1) scope.names []).lookup y.1).isSome = true) := by
      rintro ⟨n, v⟩ hy
      exact (S.par n (List.of_mem_zip hy).1).imp id fun q => ⟨q, PySem.W.cellsFrom_some _ _ _ (.inl q)⟩
    refine codeAny_call_function room.depth (inK _ _ at_f) rfl S.co S.gen rfl (PySem.W.codeRec_of inK cd) (bi _ _ _ _ (wpAny_newFunctionEnv_cells S.kind kinds fun env he s1 inc => ?_))
    cases he
    refine ⟨(ev.mod.nolimit.keeps fun b o q => (ev.bs b o q).1).keeps inc.toInCall.keep, codeAny_func ?_⟩
    have I0 := inv_start (CX := CX) (E := E) (mg := mg) (f := f) (cd := cdv) (qual := qual) S room.hd ev (len _ _ _ _ z) rv inc
    refine wpAny_mono (ht.run [] s1 (start N vs) H _ I0 hq) ?_ (fun _ _ q => q)
    intro fl s' q
    match fl, q with
    | .ret u, ⟨v, _, H', J, r, q⟩ => exact ⟨v, H', J.os, J.bare, J.base, J.hok, r, q⟩
    | .next, ⟨_, H', J, q⟩ => exact ⟨V.non, H', J.os, J.bare, J.base, J.hok, rfl, q⟩
    | .brk, ⟨_, _, _, q⟩ => exact q.elim
    | .cont, ⟨_, _, _, q⟩ => exact q.elim
theorem okG {x : Str} {dvs : List V} {kws : List (Str × V)} {fd : FuncData} {N ps : List Str} {sp : Sp} (F : FunD K x qual params body scope dvs kws f fd) (S : FnScope N ps scope) (len : ∀ vs H Q E, sp vs H Q E → vs.length = ps.length)
    (run : ∀ (cdv : Value) (A : Around), (∀ env, Room k (A.deeper env)) → A.guards = some [] → ∀ (outer : List Env) (s : Shared) (H : Hp) (vs : List V) (Q : VK) (E : XK), sp vs H Q E →
      ∃ t, PSs (cxOf CX P w K mg base N qual scope f cdv A outer s H E) body t ∧ t { nx := fun _ H' => Q .non H', rt := Q } (start N vs) H) : FnG P w K mg base CX (k + 1) f fd ps sp := by
  obtain ⟨_, _, _, _, _, _, _, cdv, _, _, e, at_f, cd, _⟩ := F.ex
  subst e
  exact fnG_of at_f cd S len (run cdv)
end
end PL
set_option maxRecDepth 100000
set_option maxHeartbeats 4000000
/-! PLG2: a law's end, from the promise of its def where no guard stands. -/
namespace PL
open PySem PySem.Spec PyProof.Rows L2
section
variable {P : Program} {w : World} {K : PySem.W.Frag} {mg mb : Str → Option Value} {CX : CXT} {k : Nat} {fa a : Addr} {fd : FuncData} {x : Str} {sp : Sp} {s₁ : Shared} {vs : List Value} {ns : List Int}
/-- over one abstract heap that tracks at most the script, frozen -/
theorem law_from (inK : K.In s₁.heap) (glob : s₁.heap.Ns mainGlobals mg) (bl : s₁.heap.Ns builtinsNs mb) (bb : ∀ y : Str, y ≠ "__name__" → mb y = bootBuiltins y) (lim : s₁.heap.NoLimit) (gens : s₁.gens = #[])
    (scr : s₁.heap.get? a = some { cls := .type "list", data := .seq vs.toArray }) (room : Room k callerA)
    (F : ∀ base : Heap, K.In base → base.Ns mainGlobals mg → FnG P w K mg base CX k fa fd [x] sp) (bi : ∀ (s : Shared) (u : Value), BindsTo s fd ⟨[u], []⟩ [(x, u)])
    (no : ∀ H e s', CX [] H s₁ (fun _ _ _ => False) e s' → False) {H : Hp} (only : Only H) (z : sp [.ref a] H (fun v _ => v = .bl true) fun _ _ _ => False) (hok : HOk P w H s₁.heap)
    (ha : ∀ b, H b ≠ none → b = a) (hk : H a ≠ none → K.lookup a = none) :
    codeAny (model P w) callerA (.call (.ref fa) ⟨[.ref a], []⟩) (fun r s' => r = .ok (.ret (.bool true)) ∧ OldK s₁.heap s'.heap ∧ s'.os = s₁.os ∧ AllBare s'.gens) s₁ := by
  have free : ∀ {b : Addr} {o : Obj}, s₁.heap.get? b = some o → (b = a → H b = none) → (hidT s₁.heap H).get? b = some o := fun {b o} q n => hidT_get q (by
    by_cases ea : b = a
    · exact n ea
    · exact Classical.byContradiction fun q => ea (ha b q))
  have names : ∀ {b : Addr} {m : Str → Option Value}, s₁.heap.Ns b m → (hidT s₁.heap H).Ns b m := by
    rintro b m ⟨o, es, ep, q, dt, r⟩
    refine ⟨o, es, ep, free q fun ea => ?_, dt, r⟩
    subst ea
    rw [scr] at q
    cases q
    cases (show Data.seq vs.toArray _ = Data.dict es ep from dt)
  have inB : K.In (hidT s₁.heap H) := fun b o q => free (inK b o q) fun ea => Classical.byContradiction fun n => by
    subst ea
    rw [hk n] at q
    cases q
  have st : Env0 P w K mg (hidT s₁.heap H) callerA [] s₁ H :=
    { frames := rfl
      mod := ⟨inB, names glob, ⟨mb, names bl, bb⟩, lim.elim fun mc q => ⟨mc, names q.1, q.2⟩⟩
      bs := fun b o q => of_hidT q
      bsz := Nat.le_of_eq (hidT_size _ _)
      funs := trivial
      frf := fun b q => nomatch q
      hok := hok
      bare := .of_eq gens }
  refine codeAny_mono ((F _ inB (names glob)).go callerA room rfl [] s₁ H ⟨[.ref a], []⟩ [.ref a] [.ref a] _ _ st (bi s₁ (.ref a)) (.cons rfl .nil) z) ?_
  intro res s' q
  match res, q with
  | .error er, q => exact (no H er s' q).elim
  | .ok .next, q => exact q.elim
  | .ok .brk, q => exact q.elim
  | .ok .cont, q => exact q.elim
  | .ok (.ret u), ⟨v, H', os, bare, un, hok', rv, qv⟩ =>
    cases (show v = .bl true from qv)
    cases (show u = Value.bool true from rv)
    refine ⟨rfl, OldK.of_keep fun b o q => ?_, os, bare⟩
    by_cases n : H b = none
    · exact un.keep b o q n (fun z => nomatch z) (fun z => nomatch z)
    · rcases only b with t | ⟨ob, xs, t⟩
      · exact absurd t n
      · obtain ⟨e1, _⟩ := hok b _ t
        obtain ⟨e2, _⟩ := hok' b _ (un.frzs b ob _ t)
        rw [q] at e1
        cases e1
        exact e2
theorem law_callG (inK : K.In s₁.heap) (glob : s₁.heap.Ns mainGlobals mg) (bl : s₁.heap.Ns builtinsNs mb) (bb : ∀ y : Str, y ≠ "__name__" → mb y = bootBuiltins y) (lim : s₁.heap.NoLimit) (gens : s₁.gens = #[])
    (scr : s₁.heap.get? a = some { cls := .type "list", data := .seq vs.toArray }) (hin : IntsAre vs ns) (len : ns.length ≤ sizeLine) (room : Room k callerA)
    (F : ∀ base : Heap, K.In base → base.Ns mainGlobals mg → FnG P w K mg base CX k fa fd [x] sp) (bi : ∀ (s : Shared) (u : Value), BindsTo s fd ⟨[u], []⟩ [(x, u)])
    (z : ∀ H : Hp, Only H → SqL K H a (ns.map V.int) → sp [.ref a] H (fun v _ => v = .bl true) fun _ _ _ => False) (no : ∀ H e s', CX [] H s₁ (fun _ _ _ => False) e s' → False) :
    codeAny (model P w) callerA (.call (.ref fa) ⟨[.ref a], []⟩) (fun r s' => r = .ok (.ret (.bool true)) ∧ OldK s₁.heap s'.heap ∧ s'.os = s₁.os ∧ AllBare s'.gens) s₁ := by
  have vi := vals_ints hin
  by_cases q : K.lookup a = none
  · let H1 : Hp := fun b => if b = a then some (.frz { cls := .type "list", data := .seq vs.toArray } (.lst (ns.map V.int))) else none
    have at_a : H1 a = some (.frz { cls := .type "list", data := .seq vs.toArray } (.lst (ns.map V.int))) := if_pos rfl
    have off : ∀ b, b ≠ a → H1 b = none := fun b n => if_neg n
    have on1 : Only H1 := fun b => by
      by_cases n : b = a
      · subst n; exact .inr ⟨_, _, at_a⟩
      · exact .inl (off b n)
    refine law_from inK glob bl bb lim gens scr room F bi no on1 (z H1 on1 (.inl (.inr ⟨_, at_a⟩))) (fun b u t => ?_) (fun b t => Classical.byContradiction fun n => t (off b n)) fun _ => q
    by_cases n : b = a
    · subst n
      rw [at_a] at t
      cases t
      exact ⟨scr, by rw [List.length_map]; exact len, vs, _, vi, scr⟩
    · rw [off b n] at t
      cases t
  · obtain ⟨o, hl⟩ := Option.ne_none_iff_exists'.mp q
    have e := inK a o hl
    rw [scr] at e
    cases e
    let H0 : Hp := fun _ => none
    have on0 : Only H0 := fun _ => .inl rfl
    have sq : SqL K H0 a (ns.map V.int) := .inr ⟨_, vs.toArray, _, hl, rfl, rfl, rfl, by rw [List.size_toArray, hin.length]; exact len, by simpa using vi⟩
    exact law_from inK glob bl bb lim gens scr room F bi no on0 (z H0 on0 sq) (fun b u t => by cases (show (none : Option HO) = some u from t)) (fun b t => (t rfl).elim) fun t => (t rfl).elim
end
theorem walk_ofG {l : PySem.W.OpenLaw} {n k : Nat} {q : Program} {loose : List Str} {XP : (Str → Option Value) → Heap → Prop} {YP : World → Heap → Prop} {d : DefRec} {CX : CXT} {x : Str}
    (most : l.most = some n) (small : n ≤ sizeLine) (dfl : d.params.defaults = []) (room : Room k callerA)
    (F : ∀ (w : World) (mg : Str → Option Value) (fa : Addr) (h : Heap), YP w h → h.Ns mainGlobals mg → mg d.name = some (.ref fa) →
      ∃ (K : PySem.W.Frag) (fd : FuncData) (sp : Sp), K.In h ∧ (∀ (s : Shared) (u : Value), BindsTo s fd ⟨[u], []⟩ [(x, u)]) ∧ (∀ (H : Hp) (a : Addr) (ns : List Int), ns.length ≤ n → Only H → SqL K H a (ns.map V.int) →
        sp [.ref a] H (fun v _ => v = .bl true) fun _ _ _ => False) ∧ ∀ base : Heap, K.In base → base.Ns mainGlobals mg → FnG l.prog w K mg base CX k fa fd [x] sp)
    (no : ∀ (H : Hp) (s : Shared) (e : Value) (s' : Shared), CX [] H s (fun _ _ _ => False) e s' → False) :
    PySem.W.WalkO q loose XP YP l.row.toRowW d [] (fun f vs => PySem.call f vs) :=
  Att.attach_call most dfl fun w s₀ s₁ mg mb fa o pm cd doc a vs ns G Y ho hd hcd hmg hobj hints hlen hg =>
    (F w mg fa _ Y G.T.g hmg).elim fun K t => t.elim fun fd t => t.elim fun sp ⟨KX, hb, hsp, hF⟩ =>
      law_callG KX G.T.g G.T.b G.T.builtins G.T.nolimit hg hobj hints (Nat.le_trans hlen small) room hF hb (fun H hO hS => hsp H a ns hlen hO hS) fun H e s' => no H s₁ e s'
end PL
set_option maxRecDepth 100000
set_option maxHeartbeats 4000000
/-! PL4e: calls of defs. -/
namespace PL
open PySem PySem.Spec PyProof.Rows L2
/-- the promise of a def -/
def spF (K : PySem.W.Frag) (C : Cl) (f : Nat) : Sp := fun vs H Q _ => ∃ (O : List Addr) (α : Nat → Addr) (svs : List SV) (r : RV) (outs : List (Option SV)), EnvR K O α (svs.map some) (vs.map some) H ∧ (∀ a ∈ O, ∃ j, ownAt svs j = true ∧ α j = a) ∧ C f svs = some (r, outs) ∧ retOk r = true ∧
  ∀ v H', Gr O H H' → (∀ (j : Nat) (o : Ob), outs[j]? = some (some (SV.own o)) → ownAt svs j = true → ObR K (Fz O H') H' (α j) o) → RvR K O α [] H H' r v → Q v H'
structure FnP (X : Cx) (C : Cl) (f : Nat) (x : Str) : Prop where
  ok : ∃ (CX : CXT) (k : Nat) (a : Addr) (fd : FuncData) (ps : List Str) (E : XK), FnG X.prog X.w X.K X.mg X.base CX k a fd ps (spF X.K C f) ∧ Room k X.A ∧ X.mg x = some (.ref a) ∧ PySem.W.keepIn X.K (.ref a) = true ∧ Binds X.K fd ps [] ∧
    (∀ a b c d e f, ¬ CX a b c d e f)
mutual
theorem Dq.nl {K : PySem.W.Frag} {O O' : List Addr} {H : Hp} (m : ∀ a ∈ O, IsM (H a)) : ∀ {v : V} {d : Da}, Dq K (Fz O' H) v d → noList d = true → Dq K (Fz O H) v d
  | _, _, .non, _ => .non
  | _, _, .bl b, _ => .bl b
  | _, _, .int i, _ => .int i
  | _, _, .str x, _ => .str x
  | _, _, .lst h t, e => by cases e
  | _, _, .tup (a := a) h t, e => by
    have z := (Fz.of h).2
    have n : a ∉ O := fun q => by
      have := m a q
      rw [z] at this
      exact this
    exact .tup (by rw [Fz.at n]; exact z) (DqA.nl m t e)
theorem DqA.nl {K : PySem.W.Frag} {O O' : List Addr} {H : Hp} (m : ∀ a ∈ O, IsM (H a)) : ∀ {vs : List V} {ds : List Da}, DqA K (Fz O' H) vs ds → noLists ds = true → DqA K (Fz O H) vs ds
  | _, _, .nil, _ => .nil
  | _, _, .cons h t, e => by
    unfold noLists at e
    rw [Bool.and_eq_true] at e
    exact .cons (Dq.nl m h e.1) (DqA.nl m t e.2)
end
theorem KvA.nl {κ : Type} {K : PySem.W.Frag} {O O' : List Addr} {H : Hp} (m : ∀ a ∈ O, IsM (H a)) : ∀ {ws : List (κ × V)} {kvs : List (κ × Da)}, KvA K (Fz O' H) ws kvs → noLists (kvs.map (·.2)) = true → KvA K (Fz O H) ws kvs
  | _, _, .nil, _ => .nil
  | _, _, .cons h t, e => by
    rw [List.map_cons] at e
    unfold noLists at e
    rw [Bool.and_eq_true] at e
    exact .cons ⟨h.1, h.2.nl m e.1⟩ (KvA.nl m t e.2)
theorem ObR.nl {K : PySem.W.Frag} {O O' : List Addr} {H : Hp} (m : ∀ a ∈ O, IsM (H a)) {a : Addr} {o : Ob} (h : ObR K (Fz O' H) H a o) (e : obNl o = true) : ObR K (Fz O H) H a o := by
  cases o with
  | L ds => obtain ⟨vs, h1, h2⟩ := h; exact ⟨vs, h1, h2.nl m e⟩
  | K ds => obtain ⟨vs, h1, h2⟩ := h; exact ⟨vs, h1, KvA.nl m h2 e⟩
  | T ds => obtain ⟨vs, h1, h2⟩ := h; exact ⟨vs, h1, KvA.nl m h2 e⟩
section
variable {K : PySem.W.Frag} {O : List Addr} {α : Nat → Addr} {env env' : En} {σ : L2.St} {H H' : Hp}
theorem valSl_some {i : Nat} {io : List (Option Nat)} {r : RV} {rs : List RV} : valSl (some i :: io) (r :: rs) = valSl io rs := by cases r <;> simp [valSl]
theorem valSl_val {io : List (Option Nat)} {d : Da} {rs : List RV} : valSl (none :: io) (.val d :: rs) = valSl io rs := by simp [valSl]
theorem valSl_fr {io : List (Option Nat)} {d : Ob} {rs : List RV} : valSl (none :: io) (.fr d :: rs) = valSl io rs := by simp [valSl]
/-- what is handed over, place by place -/
theorem passA_at (E : EnvR K O α env σ H) : ∀ {io : List (Option Nat)} {rs : List RV} {vs : List V} {svs : List SV}, RvA K O α env H rs vs → passA io rs = some svs →
    svs.length = vs.length ∧ io.length = vs.length ∧ ∀ (j : Nat) (sv : SV), svs[j]? = some sv → ∃ v, vs[j]? = some v ∧ match sv with
      | .own o => ∃ i, io[j]? = some (some i) ∧ v = .ref (α i) ∧ env[i]? = some (some (SV.own o))
      | .val d => io[j]? = some none ∧ (Dq K (Fz O H) v d ∨ ∃ i ds, i ∈ valSl io rs ∧ d = .list ds ∧ v = .ref (α i) ∧ env[i]? = some (some (SV.own (.L ds))))
  | [], _, _, svs, .nil, e => by
    rw [passA] at e
    cases e
    exact ⟨rfl, rfl, fun j sv h => by simp at h⟩
  | _ :: _, _, _, svs, .nil, e => by cases ‹Option Nat› <;> simp [passA] at e
  | [], _, _, svs, .cons _ _ _ _, e => by simp [passA] at e
  | some i :: io, r :: rs, _, svs, .cons h1 h2 h3 h4, e => by
    cases r with
    | val d => simp [passA] at e
    | fr o => simp [passA] at e
    | bo j o =>
      rw [passA] at e
      split at e
      · rename_i hij
        subst hij
        obtain ⟨svs', e1, e2⟩ := Option.map_eq_some_iff.mp e
        subst e2
        obtain ⟨a1, a2, a3⟩ := passA_at E h4 e1
        obtain ⟨q1, q2⟩ := h3
        refine ⟨by simp [a1], by simp [a2], fun j sv h => ?_⟩
        cases j with
        | zero =>
          cases (show some (SV.own o) = some sv from h)
          exact ⟨_, rfl, i, rfl, q1, q2⟩
        | succ j =>
          obtain ⟨v, b1, b2⟩ := a3 j sv (by simpa using h)
          refine ⟨v, by simpa using b1, ?_⟩
          cases sv with
          | own o' => obtain ⟨i', c1, c2⟩ := b2; exact ⟨i', by simpa using c1, c2⟩
          | val d =>
            obtain ⟨c1, c2⟩ := b2
            refine ⟨by simpa using c1, ?_⟩
            rcases c2 with c2 | ⟨i', ds, c2, c3⟩
            · exact .inl c2
            · exact .inr ⟨i', ds, by rw [valSl_some]; exact c2, c3⟩
      · cases e
  | none :: io, r :: rs, _, svs, .cons (H0 := H0) (v := v0) h1 h2 h3 h4, e => by
    rw [passA] at e
    obtain ⟨d, ed, e⟩ := Option.bind_eq_some_iff.mp e
    obtain ⟨svs', e1, e2⟩ := Option.map_eq_some_iff.mp e
    subst e2
    obtain ⟨a1, a2, a3⟩ := passA_at E h4 e1
    refine ⟨by simp [a1], by simp [a2], fun j sv h => ?_⟩
    cases j with
    | zero =>
      cases (show some (SV.val d) = some sv from h)
      refine ⟨_, rfl, rfl, ?_⟩
      cases r with
      | val d' => cases ed; exact .inl h3
      | fr o =>
        refine .inl (h3.frz h1 ?_)
        cases o with
        | L ds => exact ed
        | K _ => cases ed
        | T _ => cases ed
      | bo i o =>
        cases o with
        | L ds =>
          cases ed
          exact .inr ⟨i, ds, by rw [valSl]; exact List.mem_cons_self, rfl, h3.1, h3.2⟩
        | K _ => cases ed
        | T _ => cases ed
    | succ j =>
      obtain ⟨v, b1, b2⟩ := a3 j sv (by simpa using h)
      refine ⟨v, by simpa using b1, ?_⟩
      cases sv with
      | own o' => obtain ⟨i', c1, c2⟩ := b2; exact ⟨i', by simpa using c1, c2⟩
      | val d =>
        obtain ⟨c1, c2⟩ := b2
        refine ⟨by simpa using c1, ?_⟩
        rcases c2 with c2 | ⟨i', ds, c2, c3⟩
        · exact .inl c2
        · refine .inr ⟨i', ds, ?_, c3⟩
          cases r with
          | val _ => rw [valSl_val]; exact c2
          | fr _ => rw [valSl_fr]; exact c2
          | bo _ _ => rw [valSl]; exact List.mem_cons_of_mem _ c2
theorem io_inj : ∀ {io : List (Option Nat)} {j j' i : Nat}, (io.filterMap id).Nodup → io[j]? = some (some i) → io[j']? = some (some i) → j = j'
  | [], _, _, _, _, h, _ => by simp at h
  | none :: io, j, j', i, n, h, h' => by
    cases j with
    | zero => cases h
    | succ j =>
      cases j' with
      | zero => cases h'
      | succ j' => exact congrArg (· + 1) (io_inj (io := io) (by simpa using n) (by simpa using h) (by simpa using h'))
  | some k :: io, j, j', i, n, h, h' => by
    have n : (k :: io.filterMap id).Nodup := n
    obtain ⟨n1, n2⟩ := List.nodup_cons.mp n
    have mem : ∀ {m : Nat}, io[m]? = some (some k) → False := fun {m} q => n1 (List.mem_filterMap.mpr ⟨some k, List.mem_of_getElem? q, rfl⟩)
    cases j with
    | zero =>
      cases h
      cases j' with
      | zero => rfl
      | succ j' => exact (mem (by simpa using h')).elim
    | succ j =>
      cases j' with
      | zero => cases h'; exact (mem (by simpa using h)).elim
      | succ j' => exact congrArg (· + 1) (io_inj (io := io) n2 (by simpa using h) (by simpa using h'))
theorem backA_at : ∀ {io : List (Option Nat)} {outs : List (Option SV)} {env env' : En}, (∀ i ∈ io.filterMap id, i < env.length) → backA io outs env = some env' → env'.length = env.length ∧ ∀ (i : Nat) (w : Option SV), env'[i]? = some w →
    (∃ (j : Nat) (o : Ob), io[j]? = some (some i) ∧ outs[j]? = some (some (SV.own o)) ∧ obNl o = true ∧ w = some (SV.own o)) ∨ (i ∉ io.filterMap id ∧ env[i]? = some w)
  | [], [], env, env', _, e => by
    rw [backA] at e
    cases e
    exact ⟨rfl, fun i w h => .inr ⟨by simp, h⟩⟩
  | [], _ :: _, _, _, _, e => by simp [backA] at e
  | some _ :: _, [], _, _, _, e => by simp [backA] at e
  | none :: _, [], _, _, _, e => by simp [backA] at e
  | some i0 :: io, none :: outs, _, _, _, e => by simp [backA] at e
  | some i0 :: io, some (.val _) :: outs, _, _, _, e => by simp [backA] at e
  | some i0 :: io, some (.own o) :: outs, env, env', hl, e => by
    rw [backA] at e
    split at e
    · rename_i hn
      obtain ⟨e0, h0, e⟩ := Option.map_eq_some_iff.mp e
      subst e
      have hl' : ∀ i ∈ io.filterMap id, i < env.length := fun i hi => hl i (List.mem_cons_of_mem _ hi)
      obtain ⟨a1, a2⟩ := backA_at hl' h0
      refine ⟨by rw [List.length_set]; exact a1, fun i w h => ?_⟩
      by_cases hi : i = i0
      · subst hi
        have : i < e0.length := by rw [a1]; exact hl i List.mem_cons_self
        rw [List.getElem?_set_self this] at h
        cases h
        exact .inl ⟨0, o, rfl, rfl, hn, rfl⟩
      · rw [List.getElem?_set_ne (Ne.symm hi)] at h
        rcases a2 i w h with ⟨j, o', b1, b2, b3⟩ | ⟨b1, b2⟩
        · exact .inl ⟨j + 1, o', by simpa using b1, by simpa using b2, b3⟩
        · exact .inr ⟨by show i ∉ i0 :: io.filterMap id; simp only [List.mem_cons, not_or]; exact ⟨hi, b1⟩, b2⟩
    · cases e
  | none :: io, x :: outs, env, env', hl, e => by
    rw [backA] at e
    obtain ⟨a1, a2⟩ := backA_at (io := io) hl e
    refine ⟨a1, fun i w h => ?_⟩
    rcases a2 i w h with ⟨j, o', b1, b2, b3⟩ | ⟨b1, b2⟩
    · exact .inl ⟨j + 1, o', by simpa using b1, by simpa using b2, b3⟩
    · exact .inr ⟨b1, b2⟩
def outα (α : Nat → Addr) (io : List (Option Nat)) (j : Nat) : Addr := match io[j]? with
  | some (some i) => α i
  | _ => 0
/-- a call's arguments stand for what the def gets; what comes back stands -/
theorem call_ok {io : List (Option Nat)} {rs : List RV} {vs : List V} {svs : List SV} (E : EnvR K O α env σ H) (q : RvA K O α env H rs vs) (e : passA io rs = some svs) (hn : (io.filterMap id).Nodup) (hv : ∀ j ∈ valSl io rs, j ∉ io.filterMap id) :
    EnvR K ((io.filterMap id).map α) (outα α io) (svs.map some) (vs.map some) H ∧ (∀ a ∈ (io.filterMap id).map α, ∃ j, ownAt svs j = true ∧ outα α io j = a) ∧ ∀ {env' : En} {H' : Hp} {outs : List (Option SV)} {r : RV} {v : V}, backA io outs env = some env' → retOk r = true → Gr ((io.filterMap id).map α) H H' →
      (∀ (j : Nat) (o : Ob), outs[j]? = some (some (SV.own o)) → ownAt svs j = true → ObR K (Fz ((io.filterMap id).map α) H') H' (outα α io j) o) → RvR K ((io.filterMap id).map α) (outα α io) [] H H' r v → Po K O α env σ H env' H' ∧ RvR K O α env' H H' r v ∧ Nw K O α env' σ H' r v := by
  obtain ⟨p1, p2, p3⟩ := passA_at E q e
  have ownI : ∀ i ∈ io.filterMap id, ∃ j o, io[j]? = some (some i) ∧ svs[j]? = some (SV.own o) ∧ env[i]? = some (some (SV.own o)) := fun i hi => by
    obtain ⟨w, hw, ew⟩ := List.mem_filterMap.mp hi
    have ew : w = some i := ew
    subst ew
    obtain ⟨j, hj⟩ := List.getElem?_of_mem hw
    have hlt : j < svs.length := by
      rw [p1, ← p2]
      rcases Nat.lt_or_ge j io.length with h | h
      · exact h
      · rw [List.getElem?_eq_none h] at hj; cases hj
    obtain ⟨v, hv, m⟩ := p3 j svs[j] (List.getElem?_eq_getElem hlt)
    cases es : svs[j] with
    | own o =>
      rw [es] at m
      obtain ⟨i', c1, c2, c3⟩ := m
      rw [hj] at c1
      cases c1
      exact ⟨j, o, hj, by rw [List.getElem?_eq_getElem hlt, es], c3⟩
    | val d =>
      rw [es] at m
      rw [hj] at m
      exact nomatch m.1
  have sub : ∀ a ∈ (io.filterMap id).map α, a ∈ O := fun a ha => by
    obtain ⟨i, hi, rfl⟩ := List.mem_map.mp ha
    obtain ⟨_, o, _, _, h⟩ := ownI i hi
    exact (E.own i o h).2.1
  have s1 : Same (Fz O H) (Fz ((io.filterMap id).map α) H) := fun a o z => by
    obtain ⟨h1, h2⟩ := Fz.of z
    rw [Fz.at fun w => h1 (sub a w)]
    exact h2
  have out : ∀ {i : Nat} {o : Ob}, env[i]? = some (some (SV.own o)) → i ∉ io.filterMap id → α i ∉ (io.filterMap id).map α := fun {i o} h1 h2 h3 => by
    obtain ⟨i', hi', e'⟩ := List.mem_map.mp h3
    obtain ⟨_, o', _, _, h⟩ := ownI i' hi'
    exact h2 (by rw [E.inj i i' _ _ h1 h e'.symm]; exact hi')
  have oα : ∀ {j i : Nat}, io[j]? = some (some i) → outα α io j = α i := fun {j i} h => by unfold outα; rw [h]
  have getm : ∀ {j : Nat} {sv : SV}, (svs.map some)[j]? = some (some sv) → svs[j]? = some sv := fun {j sv} h => by
    rw [List.getElem?_map] at h
    obtain ⟨x, h1, h2⟩ := Option.map_eq_some_iff.mp h
    cases h2
    exact h1
  have getv : ∀ {j : Nat} {v : V}, vs[j]? = some v → (vs.map some)[j]? = some (some v) := fun {j v} h => by rw [List.getElem?_map, h] <;> rfl
  refine ⟨⟨by rw [List.length_map, List.length_map]; exact p1, fun j d h => ?_, fun j o h => ?_, fun j j' o o' h h' ea => ?_, fun a ha => E.trm a (sub a ha)⟩, fun a ha => ?_, fun {env' H' outs r v} eb er g ho hr => ?_⟩
  · obtain ⟨v, hv1, m⟩ := p3 j _ (getm h)
    refine ⟨v, getv hv1, ?_⟩
    rcases m.2 with m | ⟨i, ds, m1, rfl, rfl, m4⟩
    · exact m.mono s1
    · obtain ⟨_, _, ws, w1, w2⟩ := E.own i _ m4
      exact .lst (.of (by rw [Fz.at (out m4 (hv i m1))]; exact w1)) (w2.mono s1)
  · obtain ⟨v, hv1, i, m1, m2, m3⟩ := p3 j _ (getm h)
    obtain ⟨w1, w2, w3⟩ := E.own i _ m3
    rw [oα m1]
    refine ⟨by rw [getv hv1, m2], List.mem_map.mpr ⟨i, List.mem_filterMap.mpr ⟨_, List.mem_of_getElem? m1, rfl⟩, rfl⟩, w3.mono s1 fun _ z => z⟩
  · obtain ⟨v, hv1, i, m1, m2, m3⟩ := p3 j _ (getm h)
    obtain ⟨v', hv1', i', m1', m2', m3'⟩ := p3 j' _ (getm h')
    rw [oα m1, oα m1'] at ea
    have := E.inj i i' _ _ m3 m3' ea
    subst this
    exact io_inj hn m1 m1'
  · obtain ⟨i, hi, rfl⟩ := List.mem_map.mp ha
    obtain ⟨j, o, h1, h2, h3⟩ := ownI i hi
    exact ⟨j, by unfold ownAt; rw [h2], oα h1⟩
  · -- what comes back
    have hlen : ∀ i ∈ io.filterMap id, i < env.length := fun i hi => by
      obtain ⟨_, o, _, _, h⟩ := ownI i hi
      rcases Nat.lt_or_ge i env.length with z | z
      · exact z
      · rw [List.getElem?_eq_none z] at h; cases h
    obtain ⟨b1, b2⟩ := backA_at hlen eb
    have un : ∀ {a : Addr} {u : HO}, a ∉ (io.filterMap id).map α → H a = some u → H' a = some u := fun {a u} h1 h2 => by
      have z := g.fz a u (by rw [Fz.at h1]; exact h2)
      exact (Fz.of z).2
    have g2 : Gr O H H' := ⟨fun a u z => by
        obtain ⟨h1, h2⟩ := Fz.of z
        rw [Fz.at h1]
        exact un (fun w => h1 (sub a w)) h2, g.dom, fun a ha hm => by
        by_cases z : a ∈ (io.filterMap id).map α
        · exact g.mu a z hm
        · cases hh : H a with
          | none => rw [hh] at hm; exact hm.elim
          | some u => rw [un z hh, ← hh]; exact hm⟩
    have m2 : ∀ a ∈ O, IsM (H' a) := fun a ha => g2.mu a ha (E.trm a ha)
    have ow : Ow env env' := fun i o h => by
      rcases b2 i _ h with ⟨j, o', c1, c2, c3, c4⟩ | ⟨c1, c2⟩
      · obtain ⟨_, o2, _, _, h2⟩ := ownI i (List.mem_filterMap.mpr ⟨_, List.mem_of_getElem? c1, rfl⟩)
        exact ⟨o2, h2⟩
      · exact ⟨o, c2⟩
    have fr : ∀ a ∈ O, (∀ (i : Nat) (o : Ob), env[i]? = some (some (SV.own o)) → α i ≠ a) → ∀ u, H a = some u → H' a = some u := fun a ha hne u hu => un (fun w => by
      obtain ⟨i, hi, rfl⟩ := List.mem_map.mp w
      obtain ⟨_, o, _, _, h⟩ := ownI i hi
      exact hne i o h rfl) hu
    have gen : ∀ O2 : List Addr, (∀ b ∈ O, b ∈ O2) → (∀ b ∈ O2, IsM (H' b)) → (∀ b ∈ O2, b ∉ O → H b = none) → EnvR K O2 α env' σ H' := by
      intro O2 o1 o2 o3
      have s2 : Same (Fz O H) (Fz O2 H') := fun b u z => by
        obtain ⟨h1, h2⟩ := Fz.of z
        have n : b ∉ O2 := fun w => by
          have := o3 b w h1
          rw [this] at h2
          cases h2
        rw [Fz.at n]
        exact un (fun w => h1 (sub b w)) h2
      refine ⟨by rw [b1]; exact E.len, fun i d h => ?_, fun i o h => ?_, fun i i' o o' h h' ea => ?_, o2⟩
      · rcases b2 i _ h with ⟨j, o', c1, c2, c3, c4⟩ | ⟨c1, c2⟩
        · cases c4
        · obtain ⟨v, d1, d2⟩ := E.val i d c2
          exact ⟨v, d1, d2.mono s2⟩
      · rcases b2 i _ h with ⟨j, o', c1, c2, c3, c4⟩ | ⟨c1, c2⟩
        · cases c4
          obtain ⟨j2, o2', i1, i2, i3⟩ := ownI i (List.mem_filterMap.mpr ⟨_, List.mem_of_getElem? c1, rfl⟩)
          have := io_inj hn c1 i1
          subst this
          obtain ⟨w1, w2, w3⟩ := E.own i _ i3
          refine ⟨w1, o1 _ w2, ?_⟩
          have := ho j o c2 (by unfold ownAt; rw [i2])
          rw [oα c1] at this
          exact this.nl o2 c3
        · obtain ⟨w1, w2, w3⟩ := E.own i _ c2
          exact ⟨w1, o1 _ w2, w3.mono s2 fun u hu => un (out c2 c1) hu⟩
      · obtain ⟨_, h1⟩ := ow i o h
        obtain ⟨_, h2⟩ := ow i' o' h'
        exact E.inj i i' _ _ h1 h2 ea
    refine ⟨⟨gen O (fun _ h => h) m2 (fun _ h h' => absurd h h'), g2, ow, fr⟩, ?_, ?_⟩
    · cases r with
      | val d => exact Dq.nl m2 hr er
      | fr o =>
        obtain ⟨a, a1, a2, a3⟩ := hr
        exact ⟨a, a1, a2, a3.nl (O := a :: O) (fun b hb => (List.mem_cons.mp hb).elim (fun e => by rw [e]; exact a3.mu) (m2 b)) er⟩
      | bo _ _ => cases er
    · cases r with
      | val d => trivial
      | fr o =>
        obtain ⟨a, a1, a2, a3⟩ := hr
        intro b eb
        rw [a1] at eb
        cases eb
        refine gen (a :: O) (fun _ h => List.mem_cons_of_mem _ h) (fun b hb => ?_) (fun b hb hn => ?_)
        · rcases List.mem_cons.mp hb with e | hb
          · rw [e]; exact a3.mu
          · exact m2 b hb
        · rcases List.mem_cons.mp hb with e | hb
          · rw [e]; exact a2
          · exact absurd hb hn
      | bo _ _ => cases er
end
section
variable {X : Cx} {C : Cl} {ea : Expr} {xs : List Expr} {es : Es} {p pos : Pos}
theorem call_run {f : Nat} {io : List (Option Nat)} {E : XK} {σ : L2.St} {H : Hp} {Q : VK} (h : tE X.K C (.call f es io) σ H Q) : tCall (spF X.K C f) [] E (tA X.K C es) σ H Q := by
  obtain ⟨O, α, env, r, env', E, e, k⟩ := h
  rw [ev] at e
  obtain ⟨⟨rs, env1⟩, h1, e⟩ := Option.bind_eq_some_iff.mp e
  obtain ⟨svs, h2, e⟩ := Option.bind_eq_some_iff.mp e
  obtain ⟨u1, h3, e⟩ := Option.bind_eq_some_iff.mp e
  obtain ⟨⟨r', outs⟩, h4, e⟩ := Option.bind_eq_some_iff.mp e
  obtain ⟨u2, h5, e⟩ := Option.bind_eq_some_iff.mp e
  obtain ⟨env2, h6, e⟩ := Option.map_eq_some_iff.mp e
  cases e
  obtain ⟨g1, g2⟩ := gd_some h3
  have g5 := gd_some h5
  refine ⟨O, α, env, rs, env1, E, h1, fun vs H1 P1 q1 => ?_⟩
  obtain ⟨c1, c1', c2⟩ := call_ok P1.E q1 h2 g1 g2
  rw [List.append_nil]
  refine ⟨_, _, svs, _, outs, c1, c1', h4, g5, fun v H' g ho hr => ?_⟩
  obtain ⟨d1, d2, d3⟩ := c2 (r := r') h6 g5 g ho hr
  exact k v H' (P1.trans d1) (d2.up P1.g) d3
theorem call_e {f : Nat} {x : Str} {io : List (Option Nat)} (gs : X.A.guards = some []) (F : FnP X C f x) (hg : Gl X x) (ha : PA X (ea :: xs) (tA X.K C es)) (h1 : notStar ea = true) (h2 : noStars xs = true) (hd : (x == ("__debug__" : Str)) = false) :
    EOK X C (.call f es io) (.Call (.Name x p) (ea :: xs) [] pos) := by
  obtain ⟨CX, k, a, fd, ps, E, F1, F2, F3, F4, F5, F6⟩ := F.ok
  exact .plain (PE.weak (pe_callG (E := E) F1 F2 gs hg F3 F4 F5 F6 ha hd (star_cons h1) (plain_any h2)) fun σ H Q q => call_run q) fun _ => rfl
theorem call_e0 {f : Nat} {x : Str} {io : List (Option Nat)} (gs : X.A.guards = some []) (F : FnP X C f x) (hg : Gl X x) (hd : (x == ("__debug__" : Str)) = false) :
    EOK X C (.call f .nil io) (.Call (.Name x p) [] [] pos) := by
  obtain ⟨CX, k, a, fd, ps, E, F1, F2, F3, F4, F5, F6⟩ := F.ok
  refine .plain (PE.weak (pe_callG0 (E := E) F1 F2 gs hg F3 F4 F5 F6 hd) ?_) fun _ => rfl
  intro σ H Q q
  have := call_run (X := X) (E := E) q
  obtain ⟨O, α, env, rs, env', E', e, k'⟩ := this
  rw [evs] at e
  cases e
  exact k' [] H (.refl E') .nil
end
end PL
set_option maxRecDepth 100000
set_option maxHeartbeats 4000000
/-! PL4f: enumerate over a tuple. -/
namespace PL
open PySem PySem.Spec PyProof.Rows L2
theorem meets_enumT (l : Addr) (items : Array Value) :
    Meets (Builtin.«enumerate.__new__» ⟨[.type "enumerate", .ref l], []⟩) (fun _ R s => s.heap.IsTuple l items ∧
      R (.ok (.ret (.ref (s.heap.push { cls := .type "tuple_iterator", data := .fields #[.ref l, .int 0 0] }).objs.size)))
        { s with heap := (s.heap.push { cls := .type "tuple_iterator", data := .fields #[.ref l, .int 0 0] }).push { cls := .type "enumerate", data := .fields #[.none, .bool false, .ref s.heap.objs.size, rawInt 0, .none, .none] } }) :=
  .of_wp fun prog w A R s h => by
    obtain ⟨hp, g, d, tk, os⟩ := s; obtain ⟨hl, h⟩ := h
    have hsub := sub_enumerate
    have hL : Heap.IsTuple (Shared.heap ⟨hp, g, d, tk, os⟩) l items := hl
    wp_walk
    refine wpAny_stack_any fun st => wpAny_pure ?_
    split
    · rename_i c _ _ _ _ _
      cases (c == Value.type "enumerate")
      · wp_walk using wpAny_pyIter_tuple hL
        exact ⟨_, rfl, h⟩
      · wp_walk using wpAny_pyIter_tuple hL
        exact ⟨_, rfl, h⟩
    · wp_walk using wpAny_pyIter_tuple hL
      exact ⟨_, rfl, h⟩
section
variable {prog : Program} {w : World} {A : Around} {E : Value → Shared → Prop} {s : Shared}
theorem call_enumT {l : Addr} {items : Array Value} {Q : Value → Shared → Prop} (hL : s.heap.IsTuple l items)
    (h : ∀ h', IsEnum h' (s.heap.objs.size + 1) s.heap.objs.size 0 .none → h'.IsTupleIter s.heap.objs.size l 0 → h'.objs.size = s.heap.objs.size + 2 →
      (∀ b o, s.heap.get? b = some o → h'.get? b = some o) → Q (.ref (s.heap.objs.size + 1)) { s with heap := h' }) :
    wpAny (model prog w) A (call (.type "enumerate") [.ref l]) Q E s := by
  refine callType_new PySem.F.called_enumerate (by decide) (PySem.F.typeCall_enumerate_1 _) (PySem.F.newCall_enumerate_1 _) (fun obj => PySem.F.args_object_init_2 obj _) PySem.F.entry_enumerate_new
    (meets_enumT l items) ⟨hL, ?_⟩
  have hz : (s.heap.push { cls := .type "tuple_iterator", data := .fields #[.ref l, .int 0 0] }).objs.size = s.heap.objs.size + 1 := Heap.size_push ..
  show _ ∧ _
  rw [hz]
  have he : IsEnum ((s.heap.push { cls := .type "tuple_iterator", data := .fields #[.ref l, .int 0 0] }).push
      { cls := .type "enumerate", data := .fields #[.none, .bool false, .ref s.heap.objs.size, rawInt 0, .none, .none] }) (s.heap.objs.size + 1) s.heap.objs.size 0 .none := by
    have := Heap.get?_push_size (s.heap.push { cls := .type "tuple_iterator", data := .fields #[.ref l, .int 0 0] })
      (o := { cls := .type "enumerate", data := .fields #[.none, .bool false, .ref s.heap.objs.size, rawInt 0, .none, .none] }) rfl
    rw [hz] at this; exact this
  refine ⟨⟨_, he, rfl⟩, h _ he ⟨_, Heap.get?_push_of_some _ (Heap.get?_push_size _ rfl), rfl, rfl⟩ (by rw [Heap.size_push, hz]) fun b o x => Heap.get?_push_of_some _ (Heap.get?_push_of_some _ x)⟩
end
def IteT (K : PySem.W.Frag) (a : Addr) : L2.It :=
  ⟨fun i H => ∃ (xs : List V) (x : V), SqT K H a xs ∧ xs[i]? = some x, fun i H v H' => ∃ T x, v = .ref T ∧ H T = none ∧ H' = upd H T (.tup [.int (i : Nat), x]) ∧ ∀ xs, SqT K H a xs → xs[i]? = some x, fun i H => ∃ xs : List V, SqT K H a xs ∧ xs.length ≤ i⟩
theorem turn_enumT {P : Program} {w : World} {K : PySem.W.Frag} {elts : List Expr} {kk : Nat} {tpos : Pos} (a e it : Addr) :
    Turn P w K (.Tuple elts kk tpos) (IteT K a) [e, it] e (fun i h => (∃ old, IsEnum h e it ((i : Nat) : Int) old) ∧ h.IsTupleIter it a i ∧ e ≠ it ∧ e ≠ a ∧ a ≠ it) where
  mem := by simp
  obj := fun i h st b hb => by
    obtain ⟨⟨old, he⟩, ⟨o, ho, hc, hd⟩, _⟩ := st
    have e' : b = e ∨ b = it := by simpa using hb
    rcases e' with z | z
    · rw [z]; exact ⟨_, he, fun v q => nomatch q⟩
    · rw [z]; exact ⟨o, ho, fun v q => by rw [hd] at q; cases q⟩
  keep := fun i h h' st k => let ⟨⟨old, he⟩, hi, hne⟩ := st; ⟨⟨old, k e (by simp) _ he⟩, hi.at fun o q => k it (by simp) o q, hne⟩
  item := by
    intro X hP hw hK hc i pins s σ H E I hf st hg
    subst hP hw hK
    obtain ⟨⟨old, he⟩, hit, hne, hea, hai⟩ := st
    obtain ⟨xs, x, hq, hx⟩ := hg
    obtain ⟨its, rv, p, hz⟩ := I.tuple hq
    have p' : s.heap.IsTuple a its.toArray := p
    obtain ⟨u, hu, ru⟩ := rv.get hx
    have hel : e < s.heap.objs.size := Heap.lt_size he
    have hil : it < s.heap.objs.size := by obtain ⟨_, q, _⟩ := hit; exact Heap.lt_size q
    have hlt : i < its.toArray.size := by
      rw [List.size_toArray]
      rcases Nat.lt_or_ge i its.length with z | z
      · exact z
      · rw [List.getElem?_eq_none z] at hu; cases hu
    refine wpAny_pyNext_enum_itemD (PySem.Draws.tuple (A := X.A.in1) (I.ok.hd hc) it a hai its.toArray) he ⟨hit, p'⟩ hlt hne (by simp [hne, hea]) fun x' h' tk hPx ho hst' hT hsz hk => ?_
    obtain ⟨hit', _⟩ := hst'
    have ex : x' = u := by
      have h1 : its.toArray[i]? = some x' := hPx
      have h2 : its.toArray[i]? = some u := by simpa using hu
      rw [h1] at h2
      exact Option.some.inj h2
    subst ex
    refine ⟨_, rfl, wpAny_letOwnedTupleGo_enum (s := { s with heap := h', toks := tk + 1 }) ho fun h'' he' sb => ?_⟩
    have hT2 : h''.get? s.heap.objs.size = some { cls := .type "tuple", data := .seq #[.int i tk, x'] } := (sb.2 _ (Nat.ne_of_gt hel)).trans hT
    have new : ObjOk X.prog X.w (upd H s.heap.objs.size (.tup [.int (i : Nat), x])) h'' s.heap.objs.size (.tup [.int (i : Nat), x]) :=
      ⟨by show 2 ≤ sizeLine; decide, [.int i tk, x'], .cons ⟨_, rfl⟩ (.cons ru .nil), ⟨_, hT2, rfl, _, rfl⟩⟩
    have I1 : Inv X pins σ (upd H s.heap.objs.size (.tup [.int (i : Nat), x])) { s with heap := h'', toks := tk + 1 } :=
      I.turnedNew (ch := [e, it]) (fun b ob hb q => (sb.2 b (fun z => hb (by simp [z]))).trans (hk b ob (fun z => hb (by simp [z])) (fun z => hb (by simp [z])) q)) hf (Nat.le_refl _) new
    refine ⟨.ref s.heap.objs.size, _, I1, rfl, ⟨_, x, rfl, I.hok.fresh (Nat.le_refl _), rfl, fun ys hy => by rw [I.tuple_inj hy hq]; exact hx⟩, ⟨⟨x', ?_⟩, hit'.at fun o q => (sb.2 it (Ne.symm hne)).trans q, hne, hea, hai⟩, fun b hb => ?_⟩
    · have e1 : ((i + 1 : Nat) : Int) = (i : Int) + 1 := by omega
      rw [e1]; exact he'
    · have hb' : b < s.heap.objs.size := by
        have e' : b = e ∨ b = it := by simpa using hb
        rcases e' with z | z
        · rw [z]; exact hel
        · rw [z]; exact hil
      rw [upd_ne (Nat.ne_of_lt hb')]
      exact (hf b hb).1
  done := by
    intro X hP hw hK hc i pins s σ H E I hf st hg
    subst hP hw hK
    obtain ⟨⟨old, he⟩, hit, hne, hea, hai⟩ := st
    obtain ⟨xs, hq, hx⟩ := hg
    obtain ⟨its, rv, p, hz⟩ := I.tuple hq
    have p' : s.heap.IsTuple a its.toArray := p
    obtain ⟨f0, f1, f2, f3, f4, f5⟩ := hf it (by simp)
    have hl := rv.length
    have hT : s.TypeIs (.ref e) "enumerate" := ⟨_, he, rfl⟩
    unfold pyNext
    refine wpAny_bind (wpAny_attempt (wpAny_callSpecial?_slot (name := Str.ofString "__next__") hT PySem.F.slot_enumerate_next
      (wpAny_call_entry PySem.F.slot_enumerate_next hT PySem.F.entry_enumerate_next ?_ (PySem.F.args_enumerate_next_1 _))))
    show wpAny _ _ (field (.ref e) 2 >>= _) _ _ _
    refine wpAny_bind (wpAny_field he rfl (x := .ref it) rfl ?_)
    refine wpAny_bind (wpAny_nextOf_tuple_end (I.ok.hd hc) hit p' (by simp; omega) fun h' x he' hx' => ?_)
    obtain ⟨o, ho, hcl⟩ := hx'
    refine wpAny_bind (wpAny_isInstance (T := "StopIteration") (b := true) ⟨o, ho, hcl⟩ isSubtype_stop ?_)
    exact wpAny_pure ⟨rfl, I.turned (t' := s.toks) (fun b o hb q => he' b o hb q) f0 f1 f3 f4 f5⟩
  self := fun A i s Q E st h => let ⟨⟨_, he⟩, _⟩ := st; wpAny_pyIter_enum he h
def iEnumT (K : PySem.W.Frag) (te : TE) : TI := fun σ H R => te σ H fun v H1 => ∃ a xs, v = .ref a ∧ ((SqL K H1 a xs ∧ R (Ite K a) H1) ∨ (SqT K H1 a xs ∧ R (IteT K a) H1))
theorem pi_enumA {X : Cx} {e : Expr} {te : TE} {p pos tpos : Pos} {elts : List Expr} {kk : Nat} (hg : Gl X "enumerate") (hm : X.mg "enumerate" = none) (he : PE X e te) (hs : starEach [e] X.env = [(false, eval e X.env)]) :
    PI X (.Tuple elts kk tpos) (.Call (.Name "enumerate" p) [e] [] pos) (iEnumT X.K te) := by
  refine ⟨fun pins s σ H R I h => ?_⟩
  let R1 : List V → Hp → Prop := fun vs H1 => match vs with
    | [v] => ∃ a xs, v = V.ref a ∧ ((SqL X.K H1 a xs ∧ R (Ite X.K a) H1) ∨ (SqT X.K H1 a xs ∧ R (IteT X.K a) H1))
    | _ => False
  refine Call_ (ld_blt I hg hm boot_enumerate (PyProof.Rows.callWith_type1 (thn ((pa_cons he pa_nil hs).run pos pins s σ H R1 I h) fun us s1 ⟨vs, H1, I1, r1, q1⟩ => ?_) hs rfl))
  cases r1 with
  | nil => exact q1.elim
  | cons r rr =>
    cases rr with
    | cons _ _ => exact q1.elim
    | nil =>
      obtain ⟨a, xs, ev, q⟩ := q1
      subst ev
      cases r
      have fin : ∀ {tn : Nat → Heap → Prop} {J : L2.It} {h' : Heap} (T : Turn X.prog X.w X.K (.Tuple elts kk tpos) J [s1.heap.objs.size + 1, s1.heap.objs.size] (s1.heap.objs.size + 1) tn), tn 0 h' → (∀ b o, s1.heap.get? b = some o → h'.get? b = some o) → R J H1 →
          PIE X pins σ (.Tuple elts kk tpos) R (.ref (s1.heap.objs.size + 1)) { s1 with heap := h' } := fun {tn J h'} T ht hk q => by
        have I2 : Inv X pins σ H1 { s1 with heap := h' } := I1.kept (t' := s1.toks) hk
        refine ⟨s1.heap.objs.size + 1, [s1.heap.objs.size + 1, s1.heap.objs.size], _, _, H1, rfl, I2, T, ht, fun b hb => ?_, q⟩
        have e' : b = s1.heap.objs.size + 1 ∨ b = s1.heap.objs.size := by simpa using hb
        have hle : s1.heap.objs.size ≤ b := by
          rcases e' with z | z
          · rw [z]; exact Nat.le_add_right _ _
          · rw [z]; exact Nat.le_refl _
        exact I1.fpOk hle (I1.hok.fresh hle)
      rcases q with ⟨hq, q⟩ | ⟨hq, q⟩
      · obtain ⟨its, rv, p', hz⟩ := I1.list hq
        refine call_enumerate_list p'.isList fun h' he hit hsz hk => wpAny_pyIter_enum he ?_
        exact fin (turn_enum a (s1.heap.objs.size + 1) s1.heap.objs.size) ⟨⟨.none, he⟩, hit, Nat.succ_ne_self _⟩ hk q
      · obtain ⟨its, rv, p', hz⟩ := I1.tuple hq
        have p2 : s1.heap.IsTuple a its.toArray := p'
        have hal : a < s1.heap.objs.size := by
          obtain ⟨o, ho, _⟩ := p2
          exact Heap.lt_size ho
        refine call_enumT p2 fun h' he hit hsz hk => wpAny_pyIter_enum he ?_
        exact fin (turn_enumT a (s1.heap.objs.size + 1) s1.heap.objs.size) ⟨⟨.none, he⟩, hit, Nat.succ_ne_self _, Nat.ne_of_gt (Nat.lt_succ_of_lt hal), Nat.ne_of_lt hal⟩ hk q
end PL
set_option maxRecDepth 100000
set_option maxHeartbeats 4000000
/-! PL4g: what is walked. -/
namespace PL
open PySem PySem.Spec PyProof.Rows L2 RZ
section
variable {K : PySem.W.Frag} {O : List Addr} {α : Nat → Addr} {env : En} {σ : L2.St} {H0 H H' : Hp}
/-- the items of a list, later -/
theorem later_l {O' : List Addr} {α' : Nat → Addr} {env' : En} {σ' : L2.St} {r : RV} {v : V} {ds : List Da} (E : ∀ a ∈ O, H0 a ≠ none) (h : RvR K O α env H0 H r v) (e : r.dat = some (.list ds)) (E' : EnvR K O' α' env' σ' H') (x : Xt O O' H H')
    (hb : ∀ j ∈ boSl r, env'[j]? = env[j]? ∧ α' j = α j) : ∀ p, v = .ref p → ∃ vs, SqL K H' p vs ∧ DqA K (Fz O' H') vs ds := by
  intro p ep
  cases r with
  | val d =>
    cases e
    subst ep
    cases (show Dq _ _ _ _ from h) with
    | lst g t => exact ⟨_, Fz.sub.seq (x.fz.seq g), t.mono x.fz⟩
  | fr o =>
    cases o with
    | L ds' =>
      cases e
      obtain ⟨a, e1, h0, vs, h1, h2⟩ := h
      rw [e1] at ep
      cases ep
      have n := fr_out E h0
      have z := x.fz _ _ (by rw [Fz.at n]; exact h1)
      exact ⟨vs, .of (Fz.sub _ _ z), (h2.mono fz_cons).mono x.fz⟩
    | K _ => cases e
    | T _ => cases e
  | bo i o =>
    cases o with
    | L ds' =>
      cases e
      obtain ⟨e1, h1⟩ := h
      obtain ⟨b1, b2⟩ := hb i List.mem_cons_self
      rw [h1] at b1
      obtain ⟨_, _, vs, w1, w2⟩ := E'.own i _ b1
      rw [e1, ← b2] at ep
      cases ep
      exact ⟨vs, .of w1, w2⟩
    | K _ => cases e
    | T _ => cases e
theorem later_t {O' : List Addr} {r : RV} {v : V} {ds : List Da} (h : RvR K O α env H0 H r v) (e : r.dat = some (.tuple ds)) (x : Xt O O' H H') : ∀ p, v = .ref p → ∃ vs, SqT K H' p vs ∧ DqA K (Fz O' H') vs ds := by
  intro p ep
  cases r with
  | val d =>
    cases e
    subst ep
    cases (show Dq _ _ _ _ from h) with
    | tup g t => exact ⟨_, .of (Fz.sub _ _ (x.fz _ _ g)), t.mono x.fz⟩
  | fr o => cases o <;> cases e
  | bo i o => cases o <;> cases e
theorem dqa_none {vs : List V} {ds : List Da} {G : Hp} (h : DqA K G vs ds) {i : Nat} (hi : ds.length ≤ i) : vs.length ≤ i := by rw [h.length]; exact hi
theorem JR.list {r : RV} {p : Addr} {ds : List Da} (E : ∀ a ∈ O, H0 a ≠ none) (h : RvR K O α env H0 H r (.ref p)) (e : r.dat = some (.list ds)) : JR K O α env (boSl r) ds (Itl K p) H := by
  intro i O' α' env' σ' H' E' x hb
  obtain ⟨vs, h1, h2⟩ := later_l E h e E' x hb p rfl
  refine ⟨fun d hd => ?_, fun hi => ⟨vs, h1, dqa_none h2 hi⟩⟩
  obtain ⟨y, hy, hyd⟩ := h2.get hd
  refine ⟨⟨vs, y, h1, hy⟩, fun z H2 hz => ?_⟩
  obtain ⟨rfl, hz⟩ := hz
  have := hz vs h1
  rw [hy] at this
  cases this
  exact ⟨Same.refl _, hyd⟩
theorem JR.tup {r : RV} {p : Addr} {ds : List Da} (h : RvR K O α env H0 H r (.ref p)) (e : r.dat = some (.tuple ds)) : JR K O α env [] ds (Itt K p) H := by
  intro i O' α' env' σ' H' E' x hb
  obtain ⟨vs, h1, h2⟩ := later_t h e x p rfl
  refine ⟨fun d hd => ?_, fun hi => ⟨vs, h1, dqa_none h2 hi⟩⟩
  obtain ⟨y, hy, hyd⟩ := h2.get hd
  refine ⟨⟨vs, y, h1, hy⟩, fun z H2 hz => ?_⟩
  obtain ⟨rfl, hz⟩ := hz
  have := hz vs h1
  rw [hy] at this
  cases this
  exact ⟨Same.refl _, hyd⟩
theorem JR.str {x : Str} : JR K O α env [] (chars x) (Its x) H := by
  intro i O' α' env' σ' H' E' g hb
  unfold chars
  refine ⟨fun d hd => ?_, fun hi => ?_⟩
  · rw [List.getElem?_map] at hd
    obtain ⟨c, hc, ed⟩ := Option.map_eq_some_iff.mp hd
    subst ed
    rw [Array.getElem?_toList] at hc
    have hlt : i < x.cps.size := by
      rcases Nat.lt_or_ge i x.cps.size with z | z
      · exact z
      · rw [Array.getElem?_eq_none z] at hc; cases hc
    refine ⟨hlt, fun z H2 hz => ?_⟩
    obtain ⟨rfl, c', hc', rfl⟩ := hz
    rw [hc] at hc'
    cases hc'
    exact ⟨Same.refl _, .str _⟩
  · rw [List.length_map, Array.length_toList] at hi
    exact hi
theorem JR.rng {lo : Int} {n : Nat} : JR K O α env [] (intR lo n) (Itr lo n) H := by
  intro i O' α' env' σ' H' E' g hb
  unfold intR
  refine ⟨fun d hd => ?_, fun hi => ?_⟩
  · rw [List.getElem?_map] at hd
    obtain ⟨c, hc, ed⟩ := Option.map_eq_some_iff.mp hd
    obtain ⟨h1, h2⟩ := List.getElem?_eq_some_iff.mp hc
    rw [List.length_range] at h1
    rw [List.getElem_range] at h2
    subst h2 ed
    refine ⟨h1, fun z H2 hz => ?_⟩
    obtain ⟨rfl, rfl⟩ := hz
    exact ⟨Same.refl _, .int _⟩
  · rw [List.length_map, List.length_range] at hi
    exact hi
theorem dq_pair {O' : List Addr} {H' : Hp} {T : Addr} {x y : V} {a b : Da} (E : ∀ a ∈ O', H' a ≠ none) (hT : H' T = none) (hx : Dq K (Fz O' H') x a) (hy : Dq K (Fz O' H') y b) : Same H' (upd H' T (.tup [x, y])) ∧ Dq K (Fz O' (upd H' T (.tup [x, y]))) (.ref T) (.tuple [a, b]) := by
  have n := Rn.tup (K := K) E hT (vs := [x, y]) (ds := [a, b]) (.cons hx (.cons hy .nil))
  exact ⟨n.same, n.2⟩
theorem enum_get {ds : List Da} {i : Nat} {d : Da} (h : (enumD ds)[i]? = some d) : ∃ e, ds[i]? = some e ∧ d = .tuple [.int i, e] := by
  unfold enumD at h
  rw [List.getElem?_zipWith] at h
  split at h
  · rename_i a b ha hb
    obtain ⟨h1, h2⟩ := List.getElem?_eq_some_iff.mp ha
    rw [List.getElem_range] at h2
    subst h2
    cases h
    exact ⟨b, hb, rfl⟩
  · cases h
theorem enum_len {ds : List Da} : (enumD ds).length = ds.length := by
  unfold enumD
  rw [List.length_zipWith, List.length_range, Nat.min_self]
theorem JR.enl {r : RV} {p : Addr} {ds : List Da} (E : ∀ a ∈ O, H0 a ≠ none) (h : RvR K O α env H0 H r (.ref p)) (e : r.dat = some (.list ds)) : JR K O α env (boSl r) (enumD ds) (Ite K p) H := by
  intro i O' α' env' σ' H' E' x hb
  obtain ⟨vs, h1, h2⟩ := later_l E h e E' x hb p rfl
  refine ⟨fun d hd => ?_, fun hi => ⟨vs, h1, dqa_none h2 (by rw [enum_len] at hi; exact hi)⟩⟩
  obtain ⟨d', hd', rfl⟩ := enum_get hd
  obtain ⟨y, hy, hyd⟩ := h2.get hd'
  refine ⟨⟨vs, y, h1, hy⟩, fun z H2 hz => ?_⟩
  obtain ⟨T, x', rfl, hT, rfl, hz⟩ := hz
  have := hz vs h1
  rw [hy] at this
  cases this
  exact dq_pair E'.trk hT (.int _) hyd
theorem JR.ent {r : RV} {p : Addr} {ds : List Da} (h : RvR K O α env H0 H r (.ref p)) (e : r.dat = some (.tuple ds)) : JR K O α env [] (enumD ds) (IteT K p) H := by
  intro i O' α' env' σ' H' E' x hb
  obtain ⟨vs, h1, h2⟩ := later_t h e x p rfl
  refine ⟨fun d hd => ?_, fun hi => ⟨vs, h1, dqa_none h2 (by rw [enum_len] at hi; exact hi)⟩⟩
  obtain ⟨d', hd', rfl⟩ := enum_get hd
  obtain ⟨y, hy, hyd⟩ := h2.get hd'
  refine ⟨⟨vs, y, h1, hy⟩, fun z H2 hz => ?_⟩
  obtain ⟨T, x', rfl, hT, rfl, hz⟩ := hz
  have := hz vs h1
  rw [hy] at this
  cases this
  exact dq_pair E'.trk hT (.int _) hyd
theorem zip_get {xs ys : List Da} {i : Nat} {d : Da} (h : (zipD xs ys)[i]? = some d) : ∃ a b, xs[i]? = some a ∧ ys[i]? = some b ∧ d = .tuple [a, b] := by
  unfold zipD at h
  rw [List.getElem?_zipWith] at h
  split at h
  · rename_i a b ha hb
    cases h
    exact ⟨a, b, ha, hb, rfl⟩
  · cases h
theorem zip_len {xs ys : List Da} : (zipD xs ys).length = min xs.length ys.length := by
  unfold zipD
  rw [List.length_zipWith]
theorem JR.zil {H00 : Hp} {r r' : RV} {p p' : Addr} {ds es : List Da} (E : ∀ a ∈ O, H0 a ≠ none) (E0 : ∀ a ∈ O, H00 a ≠ none) (h : RvR K O α env H0 H r (.ref p)) (h' : RvR K O α env H00 H r' (.ref p')) (e : r.dat = some (.list ds)) (e' : r'.dat = some (.list es)) : JR K O α env (boSl r ++ boSl r') (zipD ds es) (Itz K p p') H := by
  intro i O' α' env' σ' H' E' x hb
  obtain ⟨vs, h1, h2⟩ := later_l E h e E' x (fun j hj => hb j (List.mem_append_left _ hj)) p rfl
  obtain ⟨ws, k1, k2⟩ := later_l E0 h' e' E' x (fun j hj => hb j (List.mem_append_right _ hj)) p' rfl
  refine ⟨fun d hd => ?_, fun hi => ⟨vs, ws, h1, k1, ?_⟩⟩
  · obtain ⟨a, b, ha, hb', rfl⟩ := zip_get hd
    obtain ⟨y, hy, hyd⟩ := h2.get ha
    obtain ⟨y', hy', hyd'⟩ := k2.get hb'
    refine ⟨⟨vs, ws, y, y', h1, k1, hy, hy'⟩, fun z H2 hz => ?_⟩
    obtain ⟨T, x', x'', rfl, hT, rfl, hz, hz'⟩ := hz
    have q := hz vs h1
    rw [hy] at q
    cases q
    have q := hz' ws k1
    rw [hy'] at q
    cases q
    exact dq_pair E'.trk hT hyd hyd'
  · rw [zip_len] at hi
    rw [h2.length, k2.length]
    omega
theorem JR.zit {H00 : Hp} {r r' : RV} {p p' : Addr} {ds es : List Da} (h : RvR K O α env H0 H r (.ref p)) (h' : RvR K O α env H00 H r' (.ref p')) (e : r.dat = some (.tuple ds)) (e' : r'.dat = some (.tuple es)) : JR K O α env [] (zipD ds es) (ItzT K p p') H := by
  intro i O' α' env' σ' H' E' x hb
  obtain ⟨vs, h1, h2⟩ := later_t h e x p rfl
  obtain ⟨ws, k1, k2⟩ := later_t h' e' x p' rfl
  refine ⟨fun d hd => ?_, fun hi => ⟨vs, ws, h1, k1, ?_⟩⟩
  · obtain ⟨a, b, ha, hb', rfl⟩ := zip_get hd
    obtain ⟨y, hy, hyd⟩ := h2.get ha
    obtain ⟨y', hy', hyd'⟩ := k2.get hb'
    refine ⟨⟨vs, ws, y, y', h1, k1, hy, hy'⟩, fun z H2 hz => ?_⟩
    obtain ⟨T, x', x'', rfl, hT, rfl, hz, hz'⟩ := hz
    have q := hz vs h1
    rw [hy] at q
    cases q
    have q := hz' ws k1
    rw [hy'] at q
    cases q
    exact dq_pair E'.trk hT hyd hyd'
  · rw [zip_len] at hi
    rw [h2.length, k2.length]
    omega
theorem bo_own {r : RV} {v : V} (h : RvR K O α env H0 H r v) : ∀ j ∈ boSl r, ∃ o, env[j]? = some (some (SV.own o)) := by
  intro j hj
  cases r with
  | val d => exact nomatch hj
  | fr o => exact nomatch hj
  | bo i o =>
    have : j = i := by simpa [boSl] using hj
    subst this
    exact ⟨o, h.2⟩
end
section
variable {X : Cx} {C : Cl} {a b : E} {ea eb tg : Expr} {p pos : Pos}
def iVal (K : PySem.W.Frag) (te : TE) : TI := fun σ H R => te σ H fun v H1 => (∃ a, v = .ref a ∧ (∃ xs, SqL K H1 a xs) ∧ R (Itl K a) H1) ∨ (∃ a, v = .ref a ∧ (∃ xs, SqT K H1 a xs) ∧ R (Itt K a) H1) ∨ ∃ x, v = .str x ∧ R (Its x) H1
theorem pi_any {te : TE} (he : PE X ea te) : PI X tg ea (iVal X.K te) := by
  refine ⟨fun pins s σ H R I h => ?_⟩
  refine thn (he.run pins s σ H _ I h) fun v s1 ⟨y, H1, I1, r1, q⟩ => ?_
  rcases q with ⟨a, rfl, ⟨xs, hq⟩, q⟩ | ⟨a, rfl, ⟨xs, hq⟩, q⟩ | ⟨x, rfl, q⟩
  · cases r1
    obtain ⟨its, rv, p, hz⟩ := I1.list hq
    exact wpAny_pyIter_list p.isList (pi_one (tk := s1.toks) I1 _ (turn_list a _) ⟨_, Heap.get?_push_size _ rfl, rfl, rfl⟩ q)
  · cases r1
    obtain ⟨its, rv, p, hz⟩ := I1.tuple hq
    exact wpAny_pyIter_tuple (show s1.heap.IsTuple a its.toArray from p) (pi_one (tk := s1.toks) I1 _ (turn_tuple a _) ⟨_, Heap.get?_push_size _ rfl, rfl, rfl⟩ q)
  · obtain ⟨t, rfl⟩ := (show ∃ t, v = Value.str x t from r1)
    cases ha : x.cps.all (· < 128)
    · exact wpAny_pyIter_wide ha (pi_one (tk := s1.toks) I1 _ (turn_str _ x t "str_iterator" (.inr rfl)) ⟨_, Heap.get?_push_size _ rfl, rfl, rfl⟩ q)
    · exact wpAny_pyIter_ascii ha (pi_one (tk := s1.toks) I1 _ (turn_str _ x t "str_ascii_iterator" (.inl rfl)) ⟨_, Heap.get?_push_size _ rfl, rfl, rfl⟩ q)
theorem vals_i (ha : PE X ea (tE X.K C a)) : PI X tg ea (tI X.K C (.vals a)) :=
  PI.weak (pi_any ha) (by
    rintro σ H R ⟨O, α, env, ds, bs, env', E, e, k⟩
    rw [evi] at e
    obtain ⟨⟨r, env1⟩, h1, e⟩ := Option.bind_eq_some_iff.mp e
    refine ⟨O, α, env, r, env1, E, h1, fun v H1 P1 q1 _ => ?_⟩
    split at e
    · rename_i ds' er
      cases e
      obtain ⟨p, vs, rfl, w1, w2⟩ := q1.vw P1.E er
      exact .inl ⟨p, rfl, ⟨vs, w1⟩, k _ H1 P1 (bo_own q1) (.list E.trk q1 er)⟩
    · rename_i ds' er
      cases e
      cases (show Dq _ _ v _ from q1.vw P1.E er) with
      | tup g t => exact .inr (.inl ⟨_, rfl, ⟨_, .of (Fz.sub _ _ g)⟩, k _ H1 P1 (fun j hj => nomatch hj) (.tup q1 er)⟩)
    · rename_i x er
      cases e
      cases (show Dq _ _ v _ from q1.vw P1.E er)
      exact .inr (.inr ⟨x, rfl, k _ H1 P1 (fun j hj => nomatch hj) .str⟩)
    · cases e)
theorem rng1_i (hg : Gl X "range") (hm : X.mg "range" = none) (ha : PE X ea (tE X.K C a)) (h1 : notStar ea = true) : PI X tg (.Call (.Name "range" p) [ea] [] pos) (tI X.K C (.rng1 a)) :=
  PI.weak (pi_range1 hg hm (pa_cons ha pa_nil (star_cons h1)) (star_cons h1)) (by
    rintro σ H R ⟨O, α, env, ds, bs, env', E, e, k⟩
    rw [evi] at e
    obtain ⟨⟨r, env1⟩, h1, e⟩ := Option.bind_eq_some_iff.mp e
    split at e
    · rename_i n er
      have er : r = .val (.int n) := er
      subst er
      obtain ⟨u, h2, e⟩ := Option.map_eq_some_iff.mp e
      cases e
      obtain ⟨g1, g2⟩ := gd_some h2
      refine ⟨O, α, env, _, env1, E, h1, fun v H1 P1 q1 _ => ?_⟩
      cases (show Dq _ _ v _ from q1)
      exact ⟨n, rfl, g1, g2, k _ H1 P1 (fun j hj => nomatch hj) .rng⟩
    · cases e)
theorem rng2_i (hg : Gl X "range") (hm : X.mg "range" = none) (ha : PE X ea (tE X.K C a)) (hb : PE X eb (tE X.K C b)) (h1 : notStar ea = true) (h2 : notStar eb = true) : PI X tg (.Call (.Name "range" p) [ea, eb] [] pos) (tI X.K C (.rng2 a b)) :=
  PI.weak (pi_range2 hg hm (pa_cons ha (pa_cons hb pa_nil (star_cons h2)) (star_cons h1)) (by rw [star_cons h1, star_cons h2]; rfl) (star_cons h2)) (by
    rintro σ H R ⟨O, α, env, ds, bs, env', E, e, k⟩
    rw [evi] at e
    obtain ⟨⟨r, env1⟩, h1, e⟩ := Option.bind_eq_some_iff.mp e
    obtain ⟨⟨r', env2⟩, h2, e⟩ := Option.bind_eq_some_iff.mp e
    split at e
    · rename_i m n er er'
      have er : r = .val (.int m) := er
      have er' : r' = .val (.int n) := er'
      subst er er'
      obtain ⟨u, h3, e⟩ := Option.map_eq_some_iff.mp e
      cases e
      obtain ⟨g1, g2, g3, g4⟩ := gd_some h3
      refine ⟨O, α, env, _, env1, E, h1, fun v H1 P1 q1 _ => ⟨O, α, env1, _, env2, P1.E, h2, fun w H2 P2 q2 _ => ?_⟩⟩
      cases (show Dq _ _ v _ from q1)
      cases (show Dq _ _ w _ from q2)
      exact ⟨m, n, rfl, ⟨g1, g2, g3, g4⟩, k _ H2 (P1.trans P2) (fun j hj => nomatch hj) .rng⟩
    · cases e)
theorem enu_i {elts : List Expr} {kk : Nat} {tpos : Pos} (hg : Gl X "enumerate") (hm : X.mg "enumerate" = none) (ha : PE X ea (tE X.K C a)) (h1 : notStar ea = true) : PI X (.Tuple elts kk tpos) (.Call (.Name "enumerate" p) [ea] [] pos) (tI X.K C (.enu a)) :=
  PI.weak (pi_enumA hg hm ha (star_cons h1)) (by
    rintro σ H R ⟨O, α, env, ds, bs, env', E, e, k⟩
    rw [evi] at e
    obtain ⟨⟨r, env1⟩, h1, e⟩ := Option.bind_eq_some_iff.mp e
    refine ⟨O, α, env, r, env1, E, h1, fun v H1 P1 q1 _ => ?_⟩
    split at e
    · rename_i ds' er
      cases e
      obtain ⟨p, vs, rfl, w1, w2⟩ := q1.vw P1.E er
      exact ⟨p, vs, rfl, .inl ⟨w1, k _ H1 P1 (bo_own q1) (.enl E.trk q1 er)⟩⟩
    · rename_i ds' er
      cases e
      cases (show Dq _ _ v _ from q1.vw P1.E er) with
      | tup g t => exact ⟨_, _, rfl, .inr ⟨.of (Fz.sub _ _ g), k _ H1 P1 (fun j hj => nomatch hj) (.ent q1 er)⟩⟩
    · cases e)
theorem zip_i {elts : List Expr} {kk : Nat} {tpos : Pos} (hg : Gl X "zip") (hm : X.mg "zip" = none) (ha : PE X ea (tE X.K C a)) (hb : PE X eb (tE X.K C b)) (h1 : notStar ea = true) (h2 : notStar eb = true) : PI X (.Tuple elts kk tpos) (.Call (.Name "zip" p) [ea, eb] [] pos) (tI X.K C (.zip a b)) := by
  have pa := pa_cons ha (pa_cons hb pa_nil (star_cons h2)) (star_cons (es := [eb]) h1)
  refine PI.weak (pi_zipA hg hm pa (star_cons h1) (plain_any (es := [eb]) (by unfold noStars; rw [List.all_cons, h2]; rfl))) (by
    rintro σ H R ⟨O, α, env, ds, bs, env', E, e, k⟩
    rw [evi] at e
    obtain ⟨⟨r, env1⟩, h1, e⟩ := Option.bind_eq_some_iff.mp e
    obtain ⟨⟨r', env2⟩, h2, e⟩ := Option.bind_eq_some_iff.mp e
    obtain ⟨x, h3, e⟩ := Option.bind_eq_some_iff.mp e
    refine ⟨O, α, env, _, env1, E, h1, fun v H1 P1 q1 _ => ⟨O, α, env1, _, env2, P1.E, h2, fun w H2 P2 q2 _ => ?_⟩⟩
    have q1' := q1.keep E.trk P2.g h3
    have P := P1.trans P2
    split at e
    · rename_i xs ys er er'
      cases e
      obtain ⟨p, vs, rfl, w1, w2⟩ := q1'.vw P.E er
      obtain ⟨p', vs', rfl, w1', w2'⟩ := q2.vw P.E er'
      exact ⟨p, p', vs, vs', rfl, .inl ⟨w1, w1', k _ H2 P (fun j hj => (List.mem_append.mp hj).elim (bo_own q1' j) (bo_own q2 j)) (.zil E.trk P1.E.trk q1' q2 er er')⟩⟩
    · rename_i xs ys er er'
      cases e
      cases (show Dq _ _ v _ from q1'.vw P.E er) with
      | tup g t =>
        cases (show Dq _ _ w _ from q2.vw P.E er') with
        | tup g' t' => exact ⟨_, _, _, _, rfl, .inr ⟨.of (Fz.sub _ _ g), .of (Fz.sub _ _ g'), k _ H2 P (fun j hj => nomatch hj) (.zit q1' q2 er er')⟩⟩
    · cases e)
end
end PL
set_option maxRecDepth 100000
set_option maxHeartbeats 4000000
/-! PL4h: targets, comprehensions, a dict display with one pair. -/
namespace PL
open PySem PySem.Spec PyProof.Rows L2
/-! ### targets -/
section
variable {K : PySem.W.Frag} {O : List Addr} {α : Nat → Addr} {env env' : En} {σ σ' : L2.St} {H H' : Hp}
theorem EnvR.setVal {i : Nat} {d : Da} {v : V} (E : EnvR K O α env σ H) (hi : i < env.length) (hv : Dq K (Fz O H) v d) : EnvR K O α (env.set i (some (.val d))) (σ.set i (some v)) H := by
  have hi2 : i < σ.length := by rw [← E.len]; exact hi
  refine ⟨by rw [List.length_set, List.length_set]; exact E.len, fun j e h => ?_, fun j o h => ?_, fun j j' o o' h h' e => ?_, E.trm⟩
  · by_cases q : j = i
    · subst q
      rw [List.getElem?_set_self hi] at h
      cases h
      exact ⟨v, List.getElem?_set_self hi2, hv⟩
    · rw [List.getElem?_set_ne (Ne.symm q)] at h ⊢
      exact E.val j e h
  · by_cases q : j = i
    · subst q
      rw [List.getElem?_set_self hi] at h
      cases h
    · rw [List.getElem?_set_ne (Ne.symm q)] at h ⊢
      exact E.own j o h
  · have g : ∀ {j : Nat} {o : Ob}, (env.set i (some (SV.val d)))[j]? = some (some (SV.own o)) → env[j]? = some (some (SV.own o)) := fun {j o} h => by
      by_cases q : j = i
      · subst q
        rw [List.getElem?_set_self hi] at h
        cases h
      · rw [List.getElem?_set_ne (Ne.symm q)] at h
        exact h
    exact E.inj j j' _ _ (g h) (g h') e
/-- a target that takes a value -/
def tG (K : PySem.W.Frag) (io : List Nat) (t : Tg) : TG := fun v σ H Q => ∃ O α env d env', EnvR K O α env σ H ∧ Dq K (Fz O H) v d ∧ bindT io t (.val d) env = some env' ∧
  ∀ σ', EnvR K O α env' σ' H → (∀ i, i ∉ asgT t → σ'[i]? = σ[i]? ∧ env'[i]? = env[i]?) → (∀ i ∈ asgT t, i ∉ io) → Ow env env' → Q σ' H
def tGs (K : PySem.W.Frag) (io : List Nat) (t : Tgs) : TGs := fun vs σ H Q => ∃ O α env ds env', EnvR K O α env σ H ∧ DqA K (Fz O H) vs ds ∧ bindTs io t ds env = some env' ∧
  ∀ σ', EnvR K O α env' σ' H → (∀ i, i ∉ asgTs t → σ'[i]? = σ[i]? ∧ env'[i]? = env[i]?) → (∀ i ∈ asgTs t, i ∉ io) → Ow env env' → Q σ' H
mutual
theorem bindT_len {io : List Nat} : ∀ {t : Tg} {r : RV} {env env' : En}, bindT io t r env = some env' → env'.length = env.length
  | .nm i, .val d, env, env', h => by
    rw [bindT] at h
    split at h
    · cases h; rw [List.length_set]
    · cases h
  | .nm i, .fr d, env, env', h => by
    rw [bindT] at h
    split at h
    · cases h; rw [List.length_set]
    · cases h
  | .nm i, .bo j o, env, env', h => by
    rw [bindT] at h
    split at h
    · cases h; rfl
    · cases h
  | .tp ts, .val d, env, env', h => by
    cases d with
    | tuple ds => rw [bindT] at h; exact bindTs_len h
    | _ => simp [bindT] at h
  | .tp ts, .fr d, env, env', h => by simp [bindT] at h
  | .tp ts, .bo _ _, env, env', h => by simp [bindT] at h
theorem bindTs_len {io : List Nat} : ∀ {t : Tgs} {ds : List Da} {env env' : En}, bindTs io t ds env = some env' → env'.length = env.length
  | .nil, [], _, _, h => by rw [bindTs] at h; cases h; rfl
  | .nil, _ :: _, _, _, h => by simp [bindTs] at h
  | .cons _ _, [], _, _, h => by simp [bindTs] at h
  | .cons t ts, d :: ds, env, env', h => by
    rw [bindTs] at h
    obtain ⟨e1, h1, h2⟩ := Option.bind_eq_some_iff.mp h
    exact (bindTs_len h2).trans (bindT_len h1)
end
end
def lenTs : Tgs → Nat
  | .nil => 0
  | .cons _ ts => lenTs ts + 1
theorem lenTs_ok {io : List Nat} : ∀ {t : Tgs} {ds : List Da} {env env' : En}, bindTs io t ds env = some env' → ds.length = lenTs t
  | .nil, [], _, _, _ => rfl
  | .nil, _ :: _, _, _, h => by simp [bindTs] at h
  | .cons _ _, [], _, _, h => by simp [bindTs] at h
  | .cons t ts, d :: ds, env, env', h => by
    rw [bindTs] at h
    obtain ⟨e1, _, h2⟩ := Option.bind_eq_some_iff.mp h
    show ds.length + 1 = lenTs ts + 1
    rw [lenTs_ok h2]
section
variable {X : Cx} {io : List Nat}
theorem PG.weak {tg : Expr} {t t' : TG} (h : PG X tg t) (i : ∀ v σ H Q, t' v σ H Q → t v σ H Q) : PG X tg t' := ⟨fun pins s σ H v u Q I r q => h.run pins s σ H v u Q I r (i v σ H Q q)⟩
theorem PGs.weak {tg : List Expr} {t t' : TGs} (h : PGs X tg t) (i : ∀ v σ H Q, t' v σ H Q → t v σ H Q) : PGs X tg t' := ⟨fun pins s σ H v u Q I r q => h.run pins s σ H v u Q I r (i v σ H Q q)⟩
theorem nm_g {i : Nat} {x : Str} {pos : Pos} (hN : X.N.Nodup) (hi : X.N[i]? = some x) (hx : Loc X.env.scope x) (hf : X.fn x = true ∨ X.env.scope.names.lookup x = some .local) : PG X (.Name x pos) (tG X.K io (.nm i)) :=
  PG.weak (pg_name hN hi hx hf) (by
    rintro v σ H Q ⟨O, α, env, d, env', E, hv, e, k⟩
    rw [bindT] at e
    split at e
    · rename_i hc
      cases e
      refine k _ (E.setVal hc.1 hv) (fun j hj => ?_) (fun j hj => ?_) (fun j o h => ?_)
      · have q : j ≠ i := fun e => hj (by rw [e]; exact List.mem_cons_self)
        rw [List.getElem?_set_ne (Ne.symm q), List.getElem?_set_ne (Ne.symm q)]
        exact ⟨rfl, rfl⟩
      · have : j = i := by simpa [asgT] using hj
        rw [this]
        exact hc.2
      · by_cases q : j = i
        · subst q
          rw [List.getElem?_set_self hc.1] at h
          cases h
        · rw [List.getElem?_set_ne (Ne.symm q)] at h
          exact ⟨o, h⟩
    · cases e)
theorem nil_gs : PGs X [] (tGs X.K io .nil) :=
  PGs.weak pgs_nil (by
    rintro v σ H Q ⟨O, α, env, ds, env', E, hv, e, k⟩
    cases hv with
    | nil =>
      rw [bindTs] at e
      cases e
      exact ⟨rfl, k σ E (fun _ _ => ⟨rfl, rfl⟩) (fun _ h => nomatch h) .refl⟩
    | cons _ _ => simp [bindTs] at e)
theorem assign_cons {e : Expr} {es : List Expr} {env : Env} (h : notStar e = true) : assignEach (e :: es) env = (false, assign e env) :: assignEach es env := by
  cases e <;> first | rfl | cases h
theorem cons_gs {t : Tg} {ts : Tgs} {e : Expr} {es : List Expr} (h1 : PG X e (tG X.K io t)) (h2 : PGs X es (tGs X.K io ts)) (hn : notStar e = true) : PGs X (e :: es) (tGs X.K io (.cons t ts)) :=
  PGs.weak (pgs_cons h1 h2 (by rw [assign_cons hn]; rfl)) (by
    rintro v σ H Q ⟨O, α, env, ds, env', E, hv, e, k⟩
    cases hv with
    | nil => simp [bindTs] at e
    | cons hd t =>
      rw [bindTs] at e
      obtain ⟨env1, e1, e2⟩ := Option.bind_eq_some_iff.mp e
      refine ⟨_, _, rfl, O, α, env, _, env1, E, hd, e1, fun σ1 E1 a1 a2 a3 => ⟨O, α, env1, _, env', E1, t, e2, fun σ2 E2 b1 b2 b3 => ?_⟩⟩
      refine k σ2 E2 (fun i hi => ?_) (fun i hi => ?_) (a3.trans b3)
      · have hi : i ∉ asgT _ ++ asgTs ts := hi
        simp only [List.mem_append, not_or] at hi
        obtain ⟨c1, c2⟩ := a1 i hi.1
        obtain ⟨d1, d2⟩ := b1 i hi.2
        exact ⟨d1.trans c1, d2.trans c2⟩
      · have hi : i ∈ asgT _ ++ asgTs ts := hi
        rcases List.mem_append.mp hi with z | z
        · exact a2 i z
        · exact b2 i z)
theorem assign_len {env : Env} : ∀ {es : List Expr}, noStars es = true → (assignEach es env).length = es.length ∧ (assignEach es env).findIdx? (·.1) = none
  | [], _ => ⟨rfl, rfl⟩
  | e :: es, h => by
    obtain ⟨h1, h2⟩ : notStar e = true ∧ noStars es = true := by
      unfold noStars at h ⊢
      rw [List.all_cons, Bool.and_eq_true] at h
      exact h
    obtain ⟨a, b⟩ := assign_len (env := env) h2
    rw [assign_cons h1]
    refine ⟨by rw [List.length_cons, List.length_cons, a], ?_⟩
    rw [List.findIdx?_cons, b]
    rfl
theorem tp_g {ts : Tgs} {es : List Expr} {k : Nat} {pos : Pos} (hc : X.calm = true) (h : PGs X es (tGs X.K io ts)) (hs : noStars es = true) (hl : es.length = lenTs ts) : PG X (.Tuple es k pos) (tG X.K io (.tp ts)) := by
  obtain ⟨a, b⟩ := assign_len (env := X.env) hs
  refine PG.weak (pg_tup (n := lenTs ts) hc h (a.trans hl) b) ?_
  rintro v σ H Q ⟨O, α, env, d, env', E, hv, e, k⟩
  cases hv with
  | tup g t =>
    rw [bindT] at e
    exact ⟨_, _, rfl, .of (Fz.sub _ _ g), by rw [t.length]; exact lenTs_ok e, O, α, env, _, env', E, t, e, fun σ' E' h1 h2 h3 => k σ' E' h1 h2 h3⟩
  | _ => simp [bindT] at e
end
/-! ### comprehensions -/
section
variable {K : PySem.W.Frag} {O : List Addr} {α : Nat → Addr} {env env' : En} {σ σ' : L2.St} {H H' : Hp}
theorem wipe_get : ∀ {vs : List Nat} {i : Nat}, (wipe σ vs)[i]? = if i ∈ vs then (if i < σ.length then some none else none) else σ[i]?
  | [], i => by simp [wipe]
  | v :: vs, i => by
    unfold wipe
    by_cases h : i = v
    · subst h
      rw [if_pos List.mem_cons_self, List.getElem?_set]
      simp only [if_true, wipe_length]
    · rw [List.getElem?_set_ne (Ne.symm h), wipe_get]
      have : (i ∈ v :: vs) = (i ∈ vs) := by simp [h]
      simp only [this]
theorem wipeD_len : ∀ {vs : List Nat}, (wipeD env vs).length = env.length
  | [] => rfl
  | v :: vs => by unfold wipeD; rw [List.length_set, wipeD_len]
theorem wipeD_get : ∀ {vs : List Nat} {i : Nat}, (wipeD env vs)[i]? = if i ∈ vs then (if i < env.length then some none else none) else env[i]?
  | [], i => by simp [wipeD]
  | v :: vs, i => by
    unfold wipeD
    by_cases h : i = v
    · subst h
      rw [if_pos List.mem_cons_self, List.getElem?_set]
      simp only [if_true, wipeD_len]
    · rw [List.getElem?_set_ne (Ne.symm h), wipeD_get]
      have : (i ∈ v :: vs) = (i ∈ vs) := by simp [h]
      simp only [this]
theorem backD_len {env0 : En} : ∀ {vs : List Nat}, (backD env0 env vs).length = env.length
  | [] => rfl
  | v :: vs => by unfold backD; rw [List.length_set, backD_len]
theorem backD_get {env0 : En} : ∀ {vs : List Nat} {i : Nat}, (backD env0 env vs)[i]? = if i ∈ vs then (if i < env.length then some (valAt env0 i) else none) else env[i]?
  | [], i => by simp [backD]
  | v :: vs, i => by
    unfold backD
    by_cases h : i = v
    · subst h
      rw [if_pos List.mem_cons_self, List.getElem?_set]
      simp only [if_true, backD_len]
    · rw [List.getElem?_set_ne (Ne.symm h), backD_get]
      have : (i ∈ v :: vs) = (i ∈ vs) := by simp [h]
      simp only [this]
theorem wipe_eq {vs : List Nat} (h : ∀ i, i ∉ vs → σ'[i]? = σ[i]?) (hl : σ'.length = σ.length) : wipe σ' vs = wipe σ vs := by
  apply List.ext_getElem?
  intro i
  rw [wipe_get, wipe_get, hl]
  by_cases q : i ∈ vs
  · rw [if_pos q, if_pos q]
  · rw [if_neg q, if_neg q, h i q]
theorem wipeD_none {vs : List Nat} {i : Nat} {w : SV} (h : (wipeD env vs)[i]? = some (some w)) : i ∉ vs ∧ env[i]? = some (some w) := by
  rw [wipeD_get] at h
  by_cases q : i ∈ vs
  · rw [if_pos q] at h
    split at h <;> cases h
  · rw [if_neg q] at h
    exact ⟨q, h⟩
theorem EnvR.wipe {vs : List Nat} (E : EnvR K O α env σ H) : EnvR K O α (wipeD env vs) (wipe σ vs) H where
  len := by rw [wipeD_len, wipe_length]; exact E.len
  val := fun i d h => by
    obtain ⟨h1, h2⟩ := wipeD_none h
    obtain ⟨v, h3, h4⟩ := E.val i d h2
    exact ⟨v, by rw [wipe_get, if_neg h1]; exact h3, h4⟩
  own := fun i o h => by
    obtain ⟨h1, h2⟩ := wipeD_none h
    obtain ⟨h3, h4, h5⟩ := E.own i o h2
    exact ⟨by rw [wipe_get, if_neg h1]; exact h3, h4, h5⟩
  inj := fun i j o o' h h' e => E.inj i j o o' (wipeD_none h).2 (wipeD_none h').2 e
  trm := E.trm
theorem Ow.wipe {vs : List Nat} : Ow env (wipeD env vs) := fun i o h => ⟨o, (wipeD_none h).2⟩
theorem EnvR.poke {D : Addr} {u : HO} (E : EnvR K O α env σ H) (hD : D ∈ O) (hn : ∀ (i : Nat) (o : Ob), env[i]? = some (some (SV.own o)) → α i ≠ D) (m : IsM (some u)) : EnvR K O α env σ (upd H D u) where
  len := E.len
  val := fun i d h => by rw [Fz.upd_in hD]; exact E.val i d h
  own := fun i o h => by
    rw [Fz.upd_in hD]
    obtain ⟨h1, h2, h3⟩ := E.own i o h
    refine ⟨h1, h2, h3.mono (Same.refl _) fun w hw => ?_⟩
    rw [upd_ne (hn i o h)]
    exact hw
  inj := E.inj
  trm := fun a h => (Gr.mut hD m).mu a h (E.trm a h)
/-- out of the block -/
theorem EnvR.back {D : Addr} {env1 envc : En} {σ : L2.St} {H1 : Hp} {vs : List Nat} (E1 : EnvR K O α env1 σ H1) (E : EnvR K (D :: O) α envc (L2.wipe σ vs) H') (x : Xt O (D :: O) H1 H') : EnvR K (D :: O) α (backD env1 envc vs) σ H' where
  len := by rw [backD_len, E.len, wipe_length]
  val := fun i d h => by
    rw [backD_get] at h
    by_cases q : i ∈ vs
    · rw [if_pos q] at h
      split at h
      · have h := Option.some.inj h
        unfold valAt at h
        split at h
        · rename_i d' hd
          cases h
          obtain ⟨v, h1, h2⟩ := E1.val i d hd
          exact ⟨v, h1, h2.mono x.fz⟩
        · cases h
      · cases h
    · rw [if_neg q] at h
      obtain ⟨v, h1, h2⟩ := E.val i d h
      rw [wipe_get, if_neg q] at h1
      exact ⟨v, h1, h2⟩
  own := fun i o h => by
    rw [backD_get] at h
    by_cases q : i ∈ vs
    · rw [if_pos q] at h
      split at h
      · have h := Option.some.inj h
        unfold valAt at h
        split at h <;> cases h
      · cases h
    · rw [if_neg q] at h
      obtain ⟨h1, h2, h3⟩ := E.own i o h
      rw [wipe_get, if_neg q] at h1
      exact ⟨h1, h2, h3⟩
  inj := fun i j o o' h h' e => by
    have g : ∀ {i : Nat} {o : Ob}, (backD env1 envc vs)[i]? = some (some (SV.own o)) → envc[i]? = some (some (SV.own o)) := fun {i o} h => by
      rw [backD_get] at h
      by_cases q : i ∈ vs
      · rw [if_pos q] at h
        split at h
        · have h := Option.some.inj h
          unfold valAt at h
          split at h <;> cases h
        · cases h
      · rw [if_neg q] at h
        exact h
    exact E.inj i j o o' (g h) (g h') e
  trm := E.trm
theorem back_own {env1 envc : En} {vs : List Nat} {i : Nat} {o : Ob} (h : (backD env1 envc vs)[i]? = some (some (SV.own o))) : envc[i]? = some (some (SV.own o)) := by
  rw [backD_get] at h
  by_cases q : i ∈ vs
  · rw [if_pos q] at h
    split at h
    · have h := Option.some.inj h
      unfold valAt at h
      split at h <;> cases h
    · cases h
  · rw [if_neg q] at h
    exact h
end
/-- a clause's tests -/
noncomputable def evc (C : Cl) : Oe → En → Option (Bool × En)
  | .no, env => some (true, env)
  | .yes c, env => evt C c env
def tTs (K : PySem.W.Frag) (C : Cl) (t : Oe) : TT := fun σ H Q => ∃ O α env b env', EnvR K O α env σ H ∧ evc C t env = some (b, env') ∧ ∀ H', Po K O α env σ H env' H' → Q b H'
section
variable {X : Cx} {C : Cl}
theorem no_ts : PTs X [] (tTs X.K C .no) := ⟨fun pins s σ H Q I h => pts_nil.run pins s σ H Q I (by
  obtain ⟨O, α, env, b, env', E, e, k⟩ := h
  cases e
  exact k H (.refl E))⟩
theorem yes_ts {c : E} {ec : Expr} (h : PT X ec (tT X.K C c)) : PTs X [ec] (tTs X.K C (.yes c)) := pts_one h
noncomputable def turnC (C : Cl) (elt : E) (tg : Tg) (cs : Oe) (d : Da) (e : En) : Option (Option Da × En) :=
  (bindT [] tg (.val d) e).bind fun e1 => (evc C cs e1).bind fun q => if q.1 = true then (ev C elt q.2).bind fun t => (RV.frz t.1).map fun y => (some y, t.2) else some (none, q.2)
theorem comp_ev {elt : E} {tg : Tg} {it : PL.It} {cs : Oe} {own : List (Str × Nat)} {env : En} : ev C (.comp elt tg it cs own) env = (evi C it env).bind fun p => (gd (∀ j ∈ p.2.1, j ∉ own.map (·.2))).bind fun _ =>
      (compL (own.map (·.2)) p.2.1 (turnC C elt tg cs) p.1 (wipeD p.2.2 (own.map (·.2))) (wipeD p.2.2 (own.map (·.2))) []).map fun q => (.fr (.L q.1), backD p.2.2 q.2 (own.map (·.2))) := by
  rw [ev]
  congr 1
  funext p
  congr 1
  funext u
  congr 2
  funext d e
  unfold turnC
  congr 1
  funext e1
  cases cs with
  | no => rfl
  | yes c => rfl
theorem comp_run {elt : E} {tg : Tg} {it : PL.It} {cs : Oe} {own : List (Str × Nat)} (hs : ∀ i ∈ asgT tg, i ∈ own.map (·.2)) {σ : L2.St} {H : Hp} {Q : VK} (h : tE X.K C (.comp elt tg it cs own) σ H Q) :
    tLc (tI X.K C it) (tG X.K [] tg) (tTs X.K C cs) (tE X.K C elt) (own.map (·.2)) σ H Q := by
  obtain ⟨O, α, env, r, env', E, e, k⟩ := h
  rw [comp_ev] at e
  generalize own.map (·.2) = vs at *
  obtain ⟨⟨ds, bs, env1⟩, h1, e⟩ := Option.bind_eq_some_iff.mp e
  obtain ⟨u0, hbs, e⟩ := Option.bind_eq_some_iff.mp e
  obtain ⟨⟨out, env2⟩, h2, e⟩ := Option.map_eq_some_iff.mp e
  cases e
  have hbs : ∀ j ∈ bs, j ∉ vs := gd_some hbs
  have h2 : compL vs bs (turnC C elt tg cs) ds (wipeD env1 vs) (wipeD env1 vs) [] = some (out, env2) := h2
  refine ⟨O, α, env, ds, bs, env1, E, h1, fun J H1 P1 hown hJ => ?_⟩
  intro D hD
  have x0 : Xt O (D :: O) H1 (upd H1 D (.lst [])) := xt_push P1.E.trk hD
  have E0 : EnvR X.K (D :: O) α env1 σ (upd H1 D (.lst [])) := P1.E.push hD True.intro
  -- slots' objects are not D
  have nD : ∀ {envc : En}, Ow env1 envc → ∀ (i : Nat) (o : Ob), envc[i]? = some (some (SV.own o)) → α i ≠ D := fun ow i o h e => by
    obtain ⟨o', h'⟩ := ow i o h
    have := (P1.E.own i o' h').2.2.there
    rw [e] at this
    exact this hD
  let W : Nat → Nat → Hp → Prop := fun i m H' => m = ds.length - i ∧ i ≤ ds.length ∧ ∃ envc acc accV, EnvR X.K (D :: O) α envc (wipe σ vs) H' ∧ Gr (D :: O) (upd H1 D (.lst [])) H' ∧ Ow env1 envc ∧
    (∀ a ∈ O, (∀ (i : Nat) (o : Ob), env1[i]? = some (some (SV.own o)) → α i ≠ a) → ∀ u, H1 a = some u → H' a = some u) ∧ H' D = some (.lst accV) ∧ DqA X.K (Fz (D :: O) H') accV acc ∧
    (∀ j ∈ bs, envc[j]? = (wipeD env1 vs)[j]?) ∧ compL vs bs (turnC C elt tg cs) (ds.drop i) (wipeD env1 vs) envc acc = some (out, env2)
  refine ⟨W, ⟨ds.length, by simp, Nat.zero_le _, wipeD env1 vs, [], [], E0.wipe, .refl, .wipe, fun a ha hn u hu => ?_, upd_same, .nil, fun _ _ => rfl, h2⟩, ?_⟩
  · rw [upd_ne fun e => P1.E.trk a ha (by rw [e]; exact hD)]
    exact hu
  rintro i m H' ⟨rfl, hi, envc, acc, accV, Ec, gc, ow, fr, hDc, hacc, hbc, hcl⟩
  have xc : Xt O (D :: O) H1 H' := x0.trans gc.xt
  have hj := hJ i (D :: O) α envc (wipe σ vs) H' Ec xc (fun j hj => ⟨by rw [hbc j hj, wipeD_get, if_neg (hbs j hj)], rfl⟩)
  by_cases hlt : i < ds.length
  · -- a turn
    obtain ⟨hgo, hyl⟩ := hj.1 ds[i] (List.getElem?_eq_getElem hlt)
    rw [List.drop_eq_getElem_cons hlt] at hcl
    unfold compL at hcl
    obtain ⟨⟨yo, env3⟩, t1, hcl⟩ := Option.bind_eq_some_iff.mp hcl
    obtain ⟨u1, t2, hcl⟩ := Option.bind_eq_some_iff.mp hcl
    obtain ⟨u2, t3, hcl⟩ := Option.bind_eq_some_iff.mp hcl
    have t2 := gd_some t2
    have t3 := gd_some t3
    unfold turnC at t1
    obtain ⟨e1, b1, t1⟩ := Option.bind_eq_some_iff.mp t1
    obtain ⟨⟨c, e2⟩, b2, t1⟩ := Option.bind_eq_some_iff.mp t1
    refine .inr ⟨hgo, fun H'' => W (i + 1) (ds.length - (i + 1)) H'', fun H'' w => ⟨ds.length - (i + 1), by omega, w⟩, fun x H2 y => ?_⟩
    obtain ⟨sm, hx⟩ := hyl x H2 y
    refine ⟨D :: O, α, envc, ds[i], e1, Ec.same sm, hx, b1, fun σ2 E2 a1 _ a3 => ?_⟩
    have lens : σ2.length = σ.length := by
      have := E2.len
      have h := Ec.len
      rw [wipe_length] at h
      have := bindT_len b1
      omega
    have hw : wipe σ2 vs = wipe σ vs := wipe_eq (fun j hj => by
      rw [(a1 j fun z => hj (hs j z)).1, wipe_get, if_neg hj]) lens
    refine ⟨hw, D :: O, α, e1, c, e2, E2, b2, fun H3 P3 => ?_⟩
    have sub1 : ∀ a ∈ O, a ∈ D :: O := fun a ha => List.mem_cons_of_mem _ ha
    have ow1 : Ow env1 e1 := ow.trans a3
    have ow2 : Ow env1 e2 := ow1.trans P3.ow
    have fr3 : ∀ a ∈ O, (∀ (i : Nat) (o : Ob), env1[i]? = some (some (SV.own o)) → α i ≠ a) → ∀ u, H1 a = some u → H3 a = some u := fun a ha hn u hu =>
      P3.fr a (sub1 a ha) (fun j o q => let ⟨o', q'⟩ := ow1 j o q; hn j o' q') u (sm a u (fr a ha hn u hu))
    have hD3 : H3 D = some (.lst accV) := P3.fr D List.mem_cons_self (nD ow1) _ (sm _ _ hDc)
    have g3 : Gr (D :: O) (upd H1 D (.lst [])) H3 := (gc.trans sm.gr).trans P3.g
    have hacc3 : DqA X.K (Fz (D :: O) H3) accV acc := hacc.mono (sm.gr.trans P3.g).fz
    cases c with
    | false =>
      simp only [Bool.false_eq_true, if_false] at t1 ⊢
      cases t1
      exact ⟨rfl, hlt, wipeD env3 vs, acc, accV, by rw [← hw]; exact P3.E.wipe, g3, ow2.trans .wipe, fr3, hD3, hacc3, t2, hcl⟩
    | true =>
      simp only [if_true] at t1 ⊢
      obtain ⟨⟨rr, e4⟩, b3, t1⟩ := Option.bind_eq_some_iff.mp t1
      obtain ⟨yy, b4, t1⟩ := Option.map_eq_some_iff.mp t1
      cases t1
      refine ⟨D :: O, α, e2, rr, e4, P3.E, b3, fun yv H4 P4 q4 _ => ?_⟩
      have ow4 : Ow env1 e4 := ow2.trans P4.ow
      have hD4 : H4 D = some (.lst accV) := P4.fr D List.mem_cons_self (nD ow2) _ hD3
      have hy : Dq X.K (Fz (D :: O) H4) yv yy := q4.frz P3.E.trk b4
      have hacc4 : DqA X.K (Fz (D :: O) H4) (accV ++ [yv]) (acc ++ [yy]) := (hacc3.mono P4.g.fz).append (.cons hy .nil)
      have fr4 : ∀ a ∈ O, (∀ (i : Nat) (o : Ob), env1[i]? = some (some (SV.own o)) → α i ≠ a) → ∀ u, H1 a = some u → H4 a = some u := fun a ha hn u hu =>
        P4.fr a (sub1 a ha) (fun j o q => let ⟨o', q'⟩ := ow2 j o q; hn j o' q') u (fr3 a ha hn u hu)
      refine ⟨accV, hD4, by rw [hacc3.length]; exact lim_lt t3, rfl, hlt, wipeD e4 vs, acc ++ [yy], accV ++ [yv], ?_, (g3.trans P4.g).trans (Gr.mut List.mem_cons_self True.intro), ow4.trans .wipe, fun a ha hn u hu => ?_, upd_same, ?_, t2, hcl⟩
      · rw [← hw]
        exact (P4.E.poke (u := .lst (accV ++ [yv])) List.mem_cons_self (nD ow4) True.intro).wipe
      · rw [upd_ne fun e => P1.E.trk a ha (by rw [e]; exact hD)]
        exact fr4 a ha hn u hu
      · rw [Fz.upd_in List.mem_cons_self]
        exact hacc4
  · -- the end
    have ei : i = ds.length := by omega
    subst ei
    rw [List.drop_length] at hcl
    unfold compL at hcl
    cases hcl
    refine .inl ⟨hj.2 (Nat.le_refl _), ?_⟩
    have Eg := P1.E.back Ec xc
    have Ef : EnvR X.K O α (backD env1 _ vs) σ H' := Eg.drop fun j o q => let ⟨o', q'⟩ := ow j o (back_own q); (P1.E.own j o' q').2.1
    refine k (.ref D) H' (P1.trans ⟨Ef, xc.back, fun j o q => ow j o (back_own q), fr⟩) ⟨D, rfl, P1.g.none hD, accV, hDc, hacc⟩ (fun a ea => by cases ea; exact Eg)
theorem comp_e {elt : E} {tg : Tg} {it : PL.It} {cs : Oe} {own : List (Str × Nat)} {eelt etg eit : Expr} {ifs : List Expr} {scope : Scope} {pos : Pos} (hc : X.calm = true) (hN : X.N.Nodup) (hs : ∀ i ∈ asgT tg, i ∈ own.map (·.2)) (ok : BlkOk X.N X.env.scope scope own)
    (hi : PI X etg eit (tI X.K C it)) (hg : ∀ (s : Shared) (H : Hp) (Cl : Addr) (cl : List (Str × Addr)) (fp : List Addr), PG (X.blk s H scope (compEnvC scope cl Cl X.env) fp) etg (tG X.K [] tg))
    (ht : ∀ (s : Shared) (H : Hp) (Cl : Addr) (cl : List (Str × Addr)) (fp : List Addr), PTs (X.blk s H scope (compEnvC scope cl Cl X.env) fp) ifs (tTs X.K C cs))
    (he : ∀ (s : Shared) (H : Hp) (Cl : Addr) (cl : List (Str × Addr)) (fp : List Addr), PE (X.blk s H scope (compEnvC scope cl Cl X.env) fp) eelt (tE X.K C elt)) (hf : ∀ x, foldedSetIterable eit X.env x = pure x) :
    EOK X C (.comp elt tg it cs own) (.ListComp eelt [⟨etg, eit, ifs, 0⟩] scope pos) :=
  .plain (PE.weak (pe_lc hc hN hi ok hg ht he hf) fun σ H Q q => comp_run hs q) fun _ => rfl
/-! ### {key: value}, the key a tuple -/
def tDT1 (tk tv : TE) : TE := fun σ H Q => ∀ p, H p = none → tk σ (upd H p (.dT [])) fun x H1 => tv σ H1 fun y H2 => ∃ a ks, x = .ref a ∧ H2 a = some (.tup (ks.map kV)) ∧ H2 p = some (.dT []) ∧ Q (.ref p) (upd H2 p (.dT [(ks, y)]))
theorem pe_dT1 (hu : X.A.units + 68 < cLine) {ek ev : Expr} {tk tv : TE} {pos : Pos} (hk : PE X ek tk) (hv : PE X ev tv) : PE X (.Dict [some ek] [ev] pos) (tDT1 tk tv) := by
  refine ⟨fun pins s σ H Q I q => ?_⟩
  have hn := I.hok.fresh (Nat.le_refl s.heap.objs.size)
  have I1 := I.laid (a := s.heap.objs.size) (o := .dT []) (h' := s.heap.push { cls := .type "dict", data := .dict #[] }) (t' := s.toks) (fun _ _ q => Heap.get?_push_of_some _ q) (Nat.le_refl _) (dt_empty s.heap I.big)
  have q := q _ hn
  have room : (tupleKind (mixKind X.prog X.w)).room X.A := by
    show X.A.units < cLine
    omega
  rw [arm_eval_Dict, PySem.zip_pairTrees [some ek] [ev] X.env pos rfl rfl, PySem.dictDisplay_pairs (PySem.pairTrees [some ek] [ev] X.env pos) (by simp [PySem.pairTrees]) (by simp [PySem.pairTrees])]
  let R1 : List (V × V) → Hp → Prop := fun ps H2 => match ps with
    | [(x, y)] => ∃ a ks, x = .ref a ∧ H2 a = some (.tup (ks.map kV)) ∧ H2 s.heap.objs.size = some (.dT []) ∧ Q (.ref s.heap.objs.size) (upd H2 s.heap.objs.size (.dT [(ks, y)]))
    | _ => False
  refine wpAny_bind (wpAny_standAt (wpAny_bind (wpAny_subDictH (knd := tupleKind (mixKind X.prog X.w)) (Q := fun d s' => wpAny (model X.prog X.w) X.A (pure (Value.ref d)) (EP X pins σ Q) X.xe s') room (by simp [PySem.pairTrees]) ?_)))
  refine thn ((pps_cons hk hv pps_nil).run pins _ σ _ R1 I1 q) fun ws s2 ⟨ps, H2, I2, rel, q2⟩ => ?_
  cases rel with
  | nil => exact q2.elim
  | @cons pp qq _ _ r t =>
    cases t with
    | cons _ _ => exact q2.elim
    | nil =>
      obtain ⟨x, y⟩ := pp
      obtain ⟨u1, u2⟩ := qq
      obtain ⟨a, ks, ex, ha, hp, q3⟩ := q2
      have ex : x = .ref a := ex
      subst ex
      obtain ⟨r1, r2⟩ := r
      have e1 : u1 = Value.ref a := r1
      subst e1
      obtain ⟨z, hd, xs, rk, dd⟩ := dt_of I2.hok hp
      cases rk
      refine ⟨[(ks, a, u2)], ⟨rfl, rfl, key_of I2.hok ha, True.intro⟩, dd, fun h' tk dd' hs => wpAny_pure ⟨.ref s.heap.objs.size, _, d_write (t' := tk) I2 (by rw [hp]; exact True.intro) hs (let ⟨q, _, _, hq, _⟩ := dd'; ⟨q, hq⟩) ?_, rfl, q3⟩⟩
      obtain ⟨o, es, ep, g1, g2, g3, g4, g5, g6⟩ := dd'
      refine ⟨by show 1 ≤ sizeLine; decide, hd, [(ks, a, u2)], .cons ⟨rfl, ?_, r2⟩ .nil, o, es, ep, g1, g2, g3, g4, g6⟩
      have ne : a ≠ s.heap.objs.size := fun e => by rw [e, hp] at ha; cases ha
      show upd H2 s.heap.objs.size _ a = _
      rw [upd_ne ne]
      exact ha
theorem dT1_run {C : Cl} {ke ve : E} {X : Cx} {σ : L2.St} {H : Hp} {Q : VK} (h : tE X.K C (.dT1 ke ve) σ H Q) : tDT1 (tE X.K C ke) (tE X.K C ve) σ H Q := by
  obtain ⟨O, α, env, r, env', E, e, k⟩ := h
  rw [PL.ev] at e
  obtain ⟨⟨r1, env1⟩, h1, e2⟩ := Option.bind_eq_some_iff.mp e
  obtain ⟨⟨r2, env2⟩, h2, e3⟩ := Option.bind_eq_some_iff.mp e2
  clear e e2
  split at e3
  · rename_i ds er
    have er : r1 = .val (.tuple ds) := er
    subst er
    obtain ⟨ks, h3, e⟩ := Option.bind_eq_some_iff.mp e3
    obtain ⟨y, h4, e⟩ := Option.map_eq_some_iff.mp e
    cases e
    intro p hp
    have x0 : Xt O (p :: O) H (upd H p (.dT [])) := xt_push E.trk hp
    have E0 : EnvR X.K (p :: O) α env σ (upd H p (.dT [])) := E.push hp True.intro
    have nD : ∀ {envc : En}, Ow env envc → ∀ (i : Nat) (o : Ob), envc[i]? = some (some (SV.own o)) → α i ≠ p := fun ow i o h e => by
      obtain ⟨o', h'⟩ := ow i o h
      have := (E.own i o' h').2.2.there
      rw [e] at this
      exact this hp
    refine ⟨p :: O, α, env, _, env1, E0, h1, fun v H1 P1 q1 _ => ⟨p :: O, α, env1, r2, env2, P1.E, h2, fun w H2 P2 q2 _ => ?_⟩⟩
    have hp1 := P1.fr p List.mem_cons_self (nD .refl) _ upd_same
    have hp2 := P2.fr p List.mem_cons_self (nD P1.ow) _ hp1
    have P := P1.trans P2
    cases (show Dq _ _ v _ from Dq.mono P2.g.fz q1) with
    | tup g t =>
      have ev := t.keys h3
      subst ev
      have hy := q2.frz P1.E.trk h4
      refine ⟨_, ks, rfl, Fz.sub _ _ g, hp2, ?_⟩
      have ow : Ow env env2 := P.ow
      have x1 : Xt O (p :: O) H (upd H2 p (.dT [(ks, w)])) := (x0.trans P.g.xt).trans (Gr.mut (u := .dT [(ks, w)]) List.mem_cons_self True.intro).xt
      have E3 := P.E.poke (u := .dT [(ks, w)]) List.mem_cons_self (nD ow) True.intro
      have E2 := E3.drop (fun i o h => let ⟨o', h'⟩ := ow i o h; (E.own i o' h').2.1)
      refine k _ _ ⟨E2, x1.back, ow, fun a ha hn u hu => ?_⟩ ⟨p, rfl, hp, [(ks, w)], upd_same, .cons ⟨rfl, ?_⟩ .nil⟩ (fun a ea => by cases ea; exact E3)
      · have ne : a ≠ p := fun e => E.trk a ha (by rw [e]; exact hp)
        rw [upd_ne ne]
        refine P.fr a (List.mem_cons_of_mem _ ha) hn u ?_
        rw [upd_ne ne]
        exact hu
      · rw [Fz.upd_in List.mem_cons_self]
        exact hy
  · cases e3
theorem dT1_e {C : Cl} {X : Cx} (hu : X.A.units + 68 < cLine) {ke ve : E} {ek ev : Expr} {pos : Pos} (hk : PE X ek (tE X.K C ke)) (hv : PE X ev (tE X.K C ve)) : EOK X C (.dT1 ke ve) (.Dict [some ek] [ev] pos) :=
  .plain (PE.weak (pe_dT1 hu hk hv) fun σ H Q q => dT1_run q) fun _ => rfl
end
end PL
set_option maxRecDepth 100000
set_option maxHeartbeats 4000000
/-! PL4i: terms set against the program's expressions; soundness of the reading. -/
namespace PL
open PySem PySem.Spec PyProof.Rows L2
/-- the names of a def (of a block within it) -/
structure Sx where
  N : List Str
  sc : Scope
  raw : Scope
  fns : List Str
  cs : List (Str × Da)
def isVis (sc : Scope) (x : Str) : Bool := match sc.names.lookup x with
  | some .local => true
  | some .cell => true
  | some .free => true
  | _ => false
def okN (x : Str) : Bool := !(x == ("__debug__" : Str)) && !(x == ("__classdict__" : Str))
def isGl (sc : Scope) (x : Str) : Bool := match sc.names.lookup x with
  | some .globalImplicit => true
  | _ => false
def isSt (raw : Scope) (x : Str) : Bool := match raw.names.lookup x with
  | some .local => true
  | some .cell => true
  | _ => false
def eqC : Da → Da → Bool
  | .int i, .int j => decide (i = j)
  | .str x, .str y => decide (x = y)
  | _, _ => false
theorem eqC_eq {a b : Da} (h : eqC a b = true) : a = b := by
  unfold eqC at h
  split at h
  · rw [of_decide_eq_true h]
  · rw [of_decide_eq_true h]
  · cases h
def noSet : Expr → Bool
  | .Set _ _ _ => false
  | _ => true
theorem noSet_marks {op : CmpOp} {e : Expr} (h : noSet e = true) : behindInMarks op e = false := by
  cases e <;> first | rfl | cases h
theorem noSet_last {op op' : CmpOp} {e e' : Expr} (h : noSet e' = true) : lastMarks [op, op'] [e, e'] = false := noSet_marks h
theorem noSet_fold {e : Expr} {env : Env} (h : noSet e = true) : ∀ x, foldedSetIterable e env x = pure x := by
  intro x
  cases e <;> first | rfl | cases h
def notSlice : Expr → Bool
  | .Slice _ _ _ _ => false
  | _ => true
theorem notSlice_ix {e : Expr} (h : notSlice e = true) : PlainIx e := by
  intro o i
  cases e <;> first | rfl | cases h
mutual
def chkT (g : Sx) : Tg → Expr → Bool
  | .nm i, e => match e with
    | .Name x _ => decide (g.N[i]? = some x) && isSt g.raw x
    | _ => false
  | .tp ts, e => match e with
    | .Tuple es _ _ => noStars es && decide (es.length = lenTs ts) && chkTs g ts es
    | _ => false
def chkTs (g : Sx) : Tgs → List Expr → Bool
  | .nil, es => match es with
    | [] => true
    | _ => false
  | .cons t ts, es => match es with
    | e :: es => notStar e && chkT g t e && chkTs g ts es
    | _ => false
end
mutual
def chkE (g : Sx) : E → Expr → Bool
  | .var i, e => match e with
    | .Name x _ => decide (g.N[i]? = some x) && isVis g.sc x && okN x
    | _ => false
  | .cst d, e => match e with
    | .Constant k _ _ => cstOk k d
    | _ => false
  | .glb y d, e => match e with
    | .Name x _ => decide (x = y) && isGl g.sc x && okN x && (match g.cs.lookup x with | some d' => eqC d d' | none => false)
    | _ => false
  | .tup es, e => match e with
    | .Tuple xs _ _ => chkA g es xs
    | _ => false
  | .lst es, e => match e with
    | .List xs _ => chkA g es xs
    | _ => false
  | .bin op a b, e => match e with
    | .BinOp x op' y _ => decide (op' = op) && chkE g a x && chkE g b y
    | _ => false
  | .neg a, e => match e with
    | .UnaryOp .USub x _ => chkE g a x
    | _ => false
  | .inv a, e => match e with
    | .UnaryOp .Not x _ => chkE g a x
    | _ => false
  | .cmp op a b, e => match e with
    | .Compare x [op'] [y] _ => decide (op' = op) && chkE g a x && chkE g b y && noSet y
    | _ => false
  | .chn o1 o2 a b c, e => match e with
    | .Compare x [p1, p2] [y, z] _ => decide (p1 = o1) && decide (p2 = o2) && chkE g a x && chkE g b y && chkE g c z && noSet z
    | _ => false
  | .and a b, e => match e with
    | .BoolOp .And (x :: y :: rest) pos => chkE g a x && (match rest with
      | [] => chkE g b y
      | z :: r => chkE g b (.BoolOp .And (y :: z :: r) pos))
    | _ => false
  | .or a b, e => match e with
    | .BoolOp .Or (x :: y :: rest) pos => chkE g a x && (match rest with
      | [] => chkE g b y
      | z :: r => chkE g b (.BoolOp .Or (y :: z :: r) pos))
    | _ => false
  | .ite c a b, e => match e with
    | .IfExp x y z _ => chkE g c x && chkE g a y && chkE g b z
    | _ => false
  | .idx a b, e => match e with
    | .Subscript x y _ => chkE g a x && chkE g b y && notSlice y
    | _ => false
  | .slc a lo hi, e => match e with
    | .Subscript x (.Slice l u none _) _ => chkE g a x && chkO g lo l && chkO g hi u
    | _ => false
  | .rev a, e => match e with
    | .Subscript x (.Slice none none (some (.UnaryOp .USub (.Constant (.int i) _ _) _)) _) _ => decide (i = 1) && chkE g a x
    | _ => false
  | .call f es io, e => match e with
    | .Call (.Name x _) xs [] _ => decide (g.fns[f]? = some x) && isGl g.sc x && okN x && (match xs with
      | [] => chkA g es []
      | y :: ys => notStar y && noStars ys && chkA g es (y :: ys))
    | _ => false
  | .bc b es, e => match e with
    | .Call (.Name x _) (y :: ys) [] _ => decide (x = bN b) && isGl g.sc x && notStar y && noStars ys && chkA g es (y :: ys)
    | _ => false
  | .isi T a, e => match e with
    | .Call (.Name x _) [y, .Name t _] [] _ => decide (x = "isinstance") && isGl g.sc x && decide (t = tyS T) && isGl g.sc t && notStar y && chkE g a y
    | _ => false
  | .lrg a, e => match e with
    | .Call (.Name x _) [.Call (.Name r _) [y] [] _] [] _ => decide (x = "list") && isGl g.sc x && decide (r = "range") && isGl g.sc r && notStar y && chkE g a y
    | _ => false
  | .mth m a es, e => match e with
    | .Call (.Attribute o nm apos) (y :: ys) [] cpos => decide (nm = mA m) && recv o && chkE g a o && notStar y && noStars ys && decide (ys.length < 29) && (apos.endLine == cpos.line) && chkA g es (y :: ys)
    | _ => false
  | .pop i a, e => match e with
    | .Call (.Attribute (.Name x _) nm apos) [y] [] cpos => decide (g.N[i]? = some x) && isVis g.sc x && okN x && decide (nm = "pop") && notStar y && (apos.endLine == cpos.line) && chkE g a y
    | _ => false
  | .comp elt tg it cs own, e => match e with
    | .ListComp x [⟨t, i, ifs, k⟩] scope _ => decide (k = 0) && chkI g it t i && blkC g.N g.sc scope own && ((asgT tg).all fun j => decide (j ∈ own.map (·.2))) && noSet i &&
        chkT { g with sc := relS scope g.sc, raw := scope } tg t && chkC { g with sc := relS scope g.sc, raw := scope } cs ifs && chkE { g with sc := relS scope g.sc, raw := scope } elt x
    | _ => false
  | .dK, e => match e with
    | .Dict [] [] _ => true
    | _ => false
  | .dT1 k v, e => match e with
    | .Dict [some x] [y] _ => chkE g k x && chkE g v y
    | _ => false
def chkA (g : Sx) : Es → List Expr → Bool
  | .nil, xs => match xs with
    | [] => true
    | _ => false
  | .cons e es, xs => match xs with
    | x :: xs => notStar x && chkE g e x && chkA g es xs
    | _ => false
  | .star e es, xs => match xs with
    | .Starred x _ :: xs => chkE g e x && chkA g es xs
    | _ => false
def chkO (g : Sx) : Oe → Option Expr → Bool
  | .no, x => match x with
    | none => true
    | _ => false
  | .yes e, x => match x with
    | some x => chkE g e x
    | _ => false
def chkC (g : Sx) : Oe → List Expr → Bool
  | .no, x => match x with
    | [] => true
    | _ => false
  | .yes e, x => match x with
    | [x] => chkE g e x
    | _ => false
def chkI (g : Sx) : PL.It → Expr → Expr → Bool
  | .rng1 a, _, e => match e with
    | .Call (.Name x _) [y] [] _ => decide (x = "range") && isGl g.sc x && notStar y && chkE g a y
    | _ => false
  | .rng2 a b, _, e => match e with
    | .Call (.Name x _) [y, z] [] _ => decide (x = "range") && isGl g.sc x && notStar y && notStar z && chkE g a y && chkE g b z
    | _ => false
  | .vals a, _, e => chkE g a e
  | .zip a b, t, e => match t, e with
    | .Tuple _ _ _, .Call (.Name x _) [y, z] [] _ => decide (x = "zip") && isGl g.sc x && notStar y && notStar z && chkE g a y && chkE g b z
    | _, _ => false
  | .enu a, t, e => match t, e with
    | .Tuple _ _ _, .Call (.Name x _) [y] [] _ => decide (x = "enumerate") && isGl g.sc x && notStar y && chkE g a y
    | _, _ => false
end
def bltNames : List Str := ["len", "all", "any", "sum", "max", "min", "sorted", "tuple", "list", "dict", "int", "abs", "repr", "isinstance", "bool", "str", "range", "zip", "enumerate"]
theorem bN_mem (b : B) : bN b ∈ bltNames := by cases b <;> decide
theorem tyS_mem (b : Ty) : tyS b ∈ bltNames := by cases b <;> decide
/-- what holds around a def's body -/
structure XC (g : Sx) (C : Cl) (X : Cx) : Prop where
  N : X.N = g.N
  nd : X.N.Nodup
  sc : X.env.scope = g.sc
  calm : X.calm = true
  un : X.A.units + 68 < cLine
  gs : X.A.guards = some []
  blt : ∀ x ∈ bltNames, X.mg x = none
  fn : ∀ f x, g.fns[f]? = some x → FnP X C f x
  cs : ∀ x d, g.cs.lookup x = some d → ∃ u v, X.mg x = some u ∧ RelV v u ∧ ∀ G, Dq X.K G v d
  st1 : ∀ x, g.raw.names.lookup x = some .local → X.env.scope.names.lookup x = some .local
  st2 : ∀ x, g.raw.names.lookup x = some .cell → X.env.scope.names.lookup x = some .cell ∧ X.fn x = true
section
variable {g : Sx} {C : Cl} {X : Cx}
theorem XC.vis (c : XC g C X) {x : Str} (h : isVis g.sc x = true) : Vis X.env.scope x := by
  unfold isVis at h
  unfold Vis
  rw [c.sc]
  split at h
  · exact .inl (by assumption)
  · exact .inr (.inl (by assumption))
  · exact .inr (.inr (by assumption))
  · cases h
theorem XC.gl (c : XC g C X) {x : Str} (h : isGl g.sc x = true) : Gl X x := by
  unfold isGl at h
  split at h
  · rename_i e
    show X.env.scope.names.lookup x = _
    rw [c.sc]
    exact e
  · cases h
theorem XC.st (c : XC g C X) {x : Str} (h : isSt g.raw x = true) : Loc X.env.scope x ∧ (X.fn x = true ∨ X.env.scope.names.lookup x = some .local) := by
  unfold isSt at h
  split at h
  · rename_i e
    exact ⟨.inl (c.st1 x e), .inr (c.st1 x e)⟩
  · rename_i e
    exact ⟨.inr (c.st2 x e).1, .inl (c.st2 x e).2⟩
  · cases h
theorem okN_1 {x : Str} (h : okN x = true) : (x == ("__debug__" : Str)) = false ∧ (x == ("__classdict__" : Str)) = false := by
  unfold okN at h
  rw [Bool.and_eq_true, Bool.not_eq_true', Bool.not_eq_true'] at h
  exact h
theorem XC.blk (c : XC g C X) (s : Shared) (H : Hp) (scope : Scope) (Cl : Addr) (cl : List (Str × Addr)) (fp : List Addr) : XC { g with sc := relS scope g.sc, raw := scope } C (X.blk s H scope (compEnvC scope cl Cl X.env) fp) where
  N := c.N
  nd := c.nd
  sc := by
    show relS scope X.env.scope = _
    rw [c.sc]
  calm := c.calm
  un := c.un
  gs := c.gs
  blt := c.blt
  fn := fun f x h => ⟨(c.fn f x h).ok⟩
  cs := c.cs
  st1 := fun x h => by
    show (relS scope X.env.scope).names.lookup x = _
    exact lookup_relS_keep (by simp) h
  st2 := fun x h => by
    refine ⟨?_, ?_⟩
    · show (relS scope X.env.scope).names.lookup x = _
      exact lookup_relS_keep (by simp) h
    · show (scope.names.lookup x == some .cell) = true
      rw [h]
      rfl
end
mutual
theorem T_ok {C : Cl} {io : List Nat} : ∀ (t : Tg) (g : Sx) (X : Cx) (e : Expr), XC g C X → chkT g t e = true → PG X e (tG X.K io t)
  | .nm i, g, X, e, c, h => by
    unfold chkT at h
    split at h
    · simp only [Bool.and_eq_true, decide_eq_true_eq] at h
      obtain ⟨h1, h2⟩ := h
      obtain ⟨s1, s2⟩ := c.st h2
      exact nm_g c.nd (by rw [c.N]; exact h1) s1 s2
    · cases h
  | .tp ts, g, X, e, c, h => by
    unfold chkT at h
    split at h
    · simp only [Bool.and_eq_true, decide_eq_true_eq] at h
      obtain ⟨⟨h1, h2⟩, h3⟩ := h
      exact tp_g c.calm (Ts_ok ts g X _ c h3) h1 h2
    · cases h
theorem Ts_ok {C : Cl} {io : List Nat} : ∀ (t : Tgs) (g : Sx) (X : Cx) (es : List Expr), XC g C X → chkTs g t es = true → PGs X es (tGs X.K io t)
  | .nil, g, X, es, c, h => by
    unfold chkTs at h
    split at h
    · exact nil_gs
    · cases h
  | .cons t ts, g, X, es, c, h => by
    unfold chkTs at h
    split at h
    · simp only [Bool.and_eq_true] at h
      obtain ⟨⟨h1, h2⟩, h3⟩ := h
      exact cons_gs (T_ok t g X _ c h2) (Ts_ok ts g X _ c h3) h1
    · cases h
end
mutual
theorem E_ok {C : Cl} : ∀ (t : E) (g : Sx) (X : Cx) (e : Expr), XC g C X → chkE g t e = true → EOK X C t e
  | .var i, g, X, e, c, h => by
    unfold chkE at h
    split at h
    · simp only [Bool.and_eq_true, decide_eq_true_eq] at h
      obtain ⟨⟨h1, h2⟩, h3⟩ := h
      exact var_e (by rw [c.N]; exact h1) (c.vis h2) (okN_1 h3).1 (okN_1 h3).2
    · cases h
  | .cst d, g, X, e, c, h => by
    unfold chkE at h
    split at h
    · exact cst_e h
    · cases h
  | .glb y d, g, X, e, c, h => by
    unfold chkE at h
    split at h
    · simp only [Bool.and_eq_true, decide_eq_true_eq] at h
      obtain ⟨⟨⟨h1, h2⟩, h3⟩, h4⟩ := h
      subst h1
      split at h4
      · rename_i d' hd
        have e := eqC_eq h4
        subst e
        obtain ⟨u, v, m, r, q⟩ := c.cs _ _ hd
        exact glb_e (c.gl h2) m r q (okN_1 h3).1
      · cases h4
    · cases h
  | .tup es, g, X, e, c, h => by
    unfold chkE at h
    split at h
    · exact tup_e (A_ok es g X _ c h)
    · cases h
  | .lst es, g, X, e, c, h => by
    unfold chkE at h
    split at h
    · exact lst_e (A_ok es g X _ c h)
    · cases h
  | .bin op a b, g, X, e, c, h => by
    unfold chkE at h
    split at h
    · simp only [Bool.and_eq_true, decide_eq_true_eq] at h
      obtain ⟨⟨h1, h2⟩, h3⟩ := h
      subst h1
      exact bin_e (E_ok a g X _ c h2) (E_ok b g X _ c h3)
    · cases h
  | .neg a, g, X, e, c, h => by
    unfold chkE at h
    split at h
    · exact neg_e (E_ok a g X _ c h)
    · cases h
  | .inv a, g, X, e, c, h => by
    unfold chkE at h
    split at h
    · exact inv_e (E_ok a g X _ c h)
    · cases h
  | .cmp op a b, g, X, e, c, h => by
    unfold chkE at h
    split at h
    · simp only [Bool.and_eq_true, decide_eq_true_eq] at h
      obtain ⟨⟨⟨h1, h2⟩, h3⟩, h4⟩ := h
      subst h1
      exact cmp_e c.un (E_ok a g X _ c h2) (E_ok b g X _ c h3) (noSet_marks h4)
    · cases h
  | .chn o1 o2 a b c', g, X, e, c, h => by
    unfold chkE at h
    split at h
    · simp only [Bool.and_eq_true, decide_eq_true_eq] at h
      obtain ⟨⟨⟨⟨⟨h1, h2⟩, h3⟩, h4⟩, h5⟩, h6⟩ := h
      subst h1 h2
      exact chn_e c.un (E_ok a g X _ c h3) (E_ok b g X _ c h4) (E_ok c' g X _ c h5) (noSet_last h6)
    · cases h
  | .and a b, g, X, e, c, h => by
    unfold chkE at h
    split at h
    · rw [Bool.and_eq_true] at h
      obtain ⟨h1, h2⟩ := h
      have ha := E_ok a g X _ c h1
      split at h2
      · have hb := E_ok b g X _ c h2
        exact and_e ha (pe_one hb.pe) (pw_and1 hb.pt)
      · have hb := E_ok b g X _ c h2
        exact and_e ha hb.pe (pw_bool hb.pt)
    · cases h
  | .or a b, g, X, e, c, h => by
    unfold chkE at h
    split at h
    · rw [Bool.and_eq_true] at h
      obtain ⟨h1, h2⟩ := h
      have ha := E_ok a g X _ c h1
      split at h2
      · have hb := E_ok b g X _ c h2
        exact or_e ha (pe_one hb.pe) (pw_or1 hb.pt)
      · have hb := E_ok b g X _ c h2
        exact or_e ha hb.pe (pw_bool hb.pt)
    · cases h
  | .ite c' a b, g, X, e, c, h => by
    unfold chkE at h
    split at h
    · simp only [Bool.and_eq_true] at h
      obtain ⟨⟨h1, h2⟩, h3⟩ := h
      exact ite_e (E_ok c' g X _ c h1) (E_ok a g X _ c h2) (E_ok b g X _ c h3)
    · cases h
  | .idx a b, g, X, e, c, h => by
    unfold chkE at h
    split at h
    · simp only [Bool.and_eq_true] at h
      obtain ⟨⟨h1, h2⟩, h3⟩ := h
      exact idx_e c.un (E_ok a g X _ c h1) (E_ok b g X _ c h2) (notSlice_ix h3)
    · cases h
  | .slc a lo hi, g, X, e, c, h => by
    unfold chkE at h
    split at h
    · simp only [Bool.and_eq_true] at h
      obtain ⟨⟨h1, h2⟩, h3⟩ := h
      exact slc_e (E_ok a g X _ c h1) (O_ok lo g X _ c h2) (O_ok hi g X _ c h3)
    · cases h
  | .rev a, g, X, e, c, h => by
    unfold chkE at h
    split at h
    · simp only [Bool.and_eq_true, decide_eq_true_eq] at h
      obtain ⟨h1, h2⟩ := h
      subst h1
      exact rev_e (E_ok a g X _ c h2)
    · cases h
  | .call f es io, g, X, e, c, h => by
    unfold chkE at h
    split at h
    · simp only [Bool.and_eq_true, decide_eq_true_eq] at h
      obtain ⟨⟨⟨h1, h2⟩, h3⟩, h4⟩ := h
      split at h4
      · cases es with
        | nil => exact call_e0 c.gs (c.fn _ _ h1) (c.gl h2) (okN_1 h3).1
        | cons _ _ => simp [chkA] at h4
        | star _ _ => simp [chkA] at h4
      · simp only [Bool.and_eq_true] at h4
        obtain ⟨⟨h5, h6⟩, h7⟩ := h4
        exact call_e c.gs (c.fn _ _ h1) (c.gl h2) (A_ok es g X _ c h7) h5 h6 (okN_1 h3).1
    · cases h
  | .bc b es, g, X, e, c, h => by
    unfold chkE at h
    split at h
    · simp only [Bool.and_eq_true, decide_eq_true_eq] at h
      obtain ⟨⟨⟨⟨h1, h2⟩, h3⟩, h4⟩, h5⟩ := h
      subst h1
      exact bc_e c.calm c.un c.gs (c.gl h2) (c.blt _ (bN_mem b)) (A_ok es g X _ c h5) h3 h4
    · cases h
  | .isi T a, g, X, e, c, h => by
    unfold chkE at h
    split at h
    · simp only [Bool.and_eq_true, decide_eq_true_eq] at h
      obtain ⟨⟨⟨⟨⟨h1, h2⟩, h3⟩, h4⟩, h5⟩, h6⟩ := h
      subst h1 h3
      exact isi_e (c.gl h2) (c.blt _ (by decide)) (c.gl h4) (c.blt _ (tyS_mem T)) (E_ok a g X _ c h6).pe h5
    · cases h
  | .lrg a, g, X, e, c, h => by
    unfold chkE at h
    split at h
    · simp only [Bool.and_eq_true, decide_eq_true_eq] at h
      obtain ⟨⟨⟨⟨⟨h1, h2⟩, h3⟩, h4⟩, h5⟩, h6⟩ := h
      subst h1 h3
      exact lrg_e c.calm (c.gl h2) (c.blt _ (by decide)) (c.gl h4) (c.blt _ (by decide)) (E_ok a g X _ c h6).pe h5
    · cases h
  | .mth m a es, g, X, e, c, h => by
    unfold chkE at h
    split at h
    · simp only [Bool.and_eq_true, decide_eq_true_eq] at h
      obtain ⟨⟨⟨⟨⟨⟨⟨h1, h2⟩, h3⟩, h4⟩, h5⟩, h6⟩, h7⟩, h8⟩ := h
      subst h1
      exact mth_e c.un (E_ok a g X _ c h3).pe (A_ok es g X _ c h8) h2 h4 h5 h6 h7
    · cases h
  | .pop i a, g, X, e, c, h => by
    unfold chkE at h
    split at h
    · simp only [Bool.and_eq_true, decide_eq_true_eq] at h
      obtain ⟨⟨⟨⟨⟨⟨h1, h2⟩, h3⟩, h4⟩, h5⟩, h6⟩, h7⟩ := h
      subst h4
      exact pop_e (by rw [c.N]; exact h1) (c.vis h2) (okN_1 h3).1 (okN_1 h3).2 (E_ok a g X _ c h7).pe h5 h6
    · cases h
  | .comp elt tg it cs own, g, X, e, c, h => by
    unfold chkE at h
    split at h
    · simp only [Bool.and_eq_true, decide_eq_true_eq] at h
      obtain ⟨⟨⟨⟨⟨⟨⟨h1, h2⟩, h3⟩, h4⟩, h5⟩, h6⟩, h7⟩, h8⟩ := h
      subst h1
      refine comp_e c.calm c.nd (fun i hi => ?_) (by rw [c.N, c.sc]; exact blkOk_by h3) (I_ok it g X _ _ c h2) (fun s H Cl cl fp => T_ok tg _ _ _ (c.blk s H _ Cl cl fp) h6) (fun s H Cl cl fp => C_ok cs _ _ _ (c.blk s H _ Cl cl fp) h7)
        (fun s H Cl cl fp => (E_ok elt _ _ _ (c.blk s H _ Cl cl fp) h8).pe) (noSet_fold h5)
      have := List.all_eq_true.mp h4 i hi
      exact of_decide_eq_true this
    · cases h
  | .dK, g, X, e, c, h => by
    unfold chkE at h
    split at h
    · exact dK_e
    · cases h
  | .dT1 k v, g, X, e, c, h => by
    unfold chkE at h
    split at h
    · simp only [Bool.and_eq_true] at h
      exact dT1_e c.un (E_ok k g X _ c h.1).pe (E_ok v g X _ c h.2).pe
    · cases h
theorem A_ok {C : Cl} : ∀ (t : Es) (g : Sx) (X : Cx) (e : List Expr), XC g C X → chkA g t e = true → PA X e (tA X.K C t)
  | .nil, g, X, e, c, h => by
    unfold chkA at h
    split at h
    · exact nil_a
    · cases h
  | .cons e es, g, X, xs, c, h => by
    unfold chkA at h
    split at h
    · simp only [Bool.and_eq_true] at h
      exact cons_a (E_ok e g X _ c h.1.2).pe (A_ok es g X _ c h.2) (star_cons h.1.1)
    · cases h
  | .star e es, g, X, xs, c, h => by
    unfold chkA at h
    split at h
    · simp only [Bool.and_eq_true] at h
      exact star_a (E_ok e g X _ c h.1).pe (A_ok es g X _ c h.2)
    · cases h
theorem O_ok {C : Cl} : ∀ (t : Oe) (g : Sx) (X : Cx) (e : Option Expr), XC g C X → chkO g t e = true → PO X e (tO X.K C t)
  | .no, g, X, e, c, h => by
    unfold chkO at h
    split at h
    · exact no_o
    · cases h
  | .yes e, g, X, xs, c, h => by
    unfold chkO at h
    split at h
    · exact yes_o (E_ok e g X _ c h).pe
    · cases h
theorem C_ok {C : Cl} : ∀ (t : Oe) (g : Sx) (X : Cx) (e : List Expr), XC g C X → chkC g t e = true → PTs X e (tTs X.K C t)
  | .no, g, X, e, c, h => by
    unfold chkC at h
    split at h
    · exact no_ts
    · cases h
  | .yes e, g, X, xs, c, h => by
    unfold chkC at h
    split at h
    · exact yes_ts (E_ok e g X _ c h).pt
    · cases h
theorem I_ok {C : Cl} : ∀ (t : PL.It) (g : Sx) (X : Cx) (tg e : Expr), XC g C X → chkI g t tg e = true → PI X tg e (tI X.K C t)
  | .rng1 a, g, X, tg, e, c, h => by
    unfold chkI at h
    split at h
    · simp only [Bool.and_eq_true, decide_eq_true_eq] at h
      obtain ⟨⟨⟨h1, h2⟩, h3⟩, h4⟩ := h
      subst h1
      exact rng1_i (c.gl h2) (c.blt _ (by decide)) (E_ok a g X _ c h4).pe h3
    · cases h
  | .rng2 a b, g, X, tg, e, c, h => by
    unfold chkI at h
    split at h
    · simp only [Bool.and_eq_true, decide_eq_true_eq] at h
      obtain ⟨⟨⟨⟨⟨h1, h2⟩, h3⟩, h4⟩, h5⟩, h6⟩ := h
      subst h1
      exact rng2_i (c.gl h2) (c.blt _ (by decide)) (E_ok a g X _ c h5).pe (E_ok b g X _ c h6).pe h3 h4
    · cases h
  | .vals a, g, X, tg, e, c, h => by
    unfold chkI at h
    exact vals_i (E_ok a g X _ c h).pe
  | .zip a b, g, X, tg, e, c, h => by
    unfold chkI at h
    split at h
    · simp only [Bool.and_eq_true, decide_eq_true_eq] at h
      obtain ⟨⟨⟨⟨⟨h1, h2⟩, h3⟩, h4⟩, h5⟩, h6⟩ := h
      subst h1
      exact zip_i (c.gl h2) (c.blt _ (by decide)) (E_ok a g X _ c h5).pe (E_ok b g X _ c h6).pe h3 h4
    · cases h
  | .enu a, g, X, tg, e, c, h => by
    unfold chkI at h
    split at h
    · simp only [Bool.and_eq_true, decide_eq_true_eq] at h
      obtain ⟨⟨⟨h1, h2⟩, h3⟩, h4⟩ := h
      subst h1
      exact enu_i (c.gl h2) (c.blt _ (by decide)) (E_ok a g X _ c h4).pe h3
    · cases h
end
end PL
set_option maxRecDepth 100000
set_option maxHeartbeats 4000000
/-! PL5a: targets that take anything; how a statement ends. -/
namespace PL
open PySem PySem.Spec PyProof.Rows L2
section
variable {K : PySem.W.Frag} {O O' O2 : List Addr} {α α' α2 : Nat → Addr} {env env' env2 : En} {σ σ' σ2 : L2.St} {H H' H2 : Hp}
theorem Gr.grow (g : Gr O H H') (sub : ∀ b ∈ O, b ∈ O') (new : ∀ b ∈ O', b ∉ O → H b = .none) : Xt O O' H H' where
  fz := fun b u q => by
    obtain ⟨h1, h2⟩ := Fz.of q
    have n : b ∉ O' := fun w => by
      have := new b w h1
      rw [this] at h2
      cases h2
    rw [Fz.at n]
    exact (Fz.of (g.fz b u q)).2
  dom := g.dom
  mu := g.mu
  sub := sub
/-- a statement's end: as, the slots that it may have set -/
structure Ps (K : PySem.W.Frag) (O : List Addr) (α : Nat → Addr) (H : Hp) (as : List Nat) (O' : List Addr) (α' : Nat → Addr) (env' : En) (σ' : L2.St) (H' : Hp) : Prop where
  E : EnvR K O' α' env' σ' H'
  x : Xt O O' H H'
  new : ∀ a ∈ O', a ∉ O → H a = none
  al : ∀ i, i ∉ as → α' i = α i
theorem Ps.refl (E : EnvR K O α env σ H) : Ps K O α H [] O α env σ H := ⟨E, .refl, fun _ h h' => absurd h h', fun _ _ => rfl⟩
theorem Xt.none (x : Xt O O' H H') {a : Addr} (h : H' a = none) : H a = none := x.back.none h
theorem Ps.trans {as bs : List Nat} (p : Ps K O α H as O' α' env' σ' H') (q : Ps K O' α' H' bs O2 α2 env2 σ2 H2) : Ps K O α H (as ++ bs) O2 α2 env2 σ2 H2 where
  E := q.E
  x := p.x.trans q.x
  new := fun a h h' => by
    by_cases z : a ∈ O'
    · exact p.new a z h'
    · exact p.x.none (q.new a h z)
  al := fun i h => by
    simp only [List.mem_append, not_or] at h
    exact (q.al i h.2).trans (p.al i h.1)
theorem Ps.wide {as bs : List Nat} (p : Ps K O α H as O' α' env' σ' H') (h : ∀ i ∈ as, i ∈ bs) : Ps K O α H bs O' α' env' σ' H' := ⟨p.E, p.x, p.new, fun i hi => p.al i fun z => hi (h i z)⟩
theorem Po.ps (P : Po K O α env σ H env' H') : Ps K O α H [] O α env' σ H' := ⟨P.E, P.g.xt, fun _ h h' => absurd h h', fun _ _ => rfl⟩
theorem Ps.nil_trans {as : List Nat} (p : Ps K O α H [] O' α' env' σ' H') (q : Ps K O' α' H' as O2 α2 env2 σ2 H2) : Ps K O α H as O2 α2 env2 σ2 H2 := (p.trans q).wide fun i h => by simpa using h
theorem RvR.up2 {H0 : Hp} {r : RV} {v : V} (x : Xt O O' H0 H) (q : RvR K O2 α env H H2 r v) : RvR K O2 α env H0 H2 r v := by
  cases r with
  | val d => exact q
  | fr o =>
    obtain ⟨p, e1, e2, e3⟩ := q
    exact ⟨p, e1, x.none e2, e3⟩
  | bo i o => exact q
/-- what is to follow an end -/
def EndR (K : PySem.W.Frag) (O : List Addr) (α : Nat → Addr) (H : Hp) (as : List Nat) (D : Ends) : Fl → Prop
  | .nx e => ∀ O' α' σ' H', Ps K O α H as O' α' e σ' H' → D.nx σ' H'
  | .bk e => ∀ O' α' σ' H', Ps K O α H as O' α' e σ' H' → D.bk σ' H'
  | .ct e => ∀ O' α' σ' H', Ps K O α H as O' α' e σ' H' → D.ct σ' H'
  | .rt r e => ∀ O' α' σ' H' v, Ps K O α H as O' α' e σ' H' → RvR K O' α' e H H' r v → D.rt v H'
theorem EndR.after {as bs cs : List Nat} {D : Ends} {f : Fl} (h : EndR K O α H cs D f) (p : Ps K O α H as O' α' env' σ' H') (h1 : ∀ i ∈ as, i ∈ cs) (h2 : ∀ i ∈ bs, i ∈ cs) : EndR K O' α' H' bs D f := by
  have w : ∀ i ∈ as ++ bs, i ∈ cs := fun i hi => (List.mem_append.mp hi).elim (h1 i) (h2 i)
  cases f with
  | nx e => exact fun O2 α2 σ2 H2 q => h O2 α2 σ2 H2 ((p.trans q).wide w)
  | bk e => exact fun O2 α2 σ2 H2 q => h O2 α2 σ2 H2 ((p.trans q).wide w)
  | ct e => exact fun O2 α2 σ2 H2 q => h O2 α2 σ2 H2 ((p.trans q).wide w)
  | rt r e => exact fun O2 α2 σ2 H2 v q rv => h O2 α2 σ2 H2 v ((p.trans q).wide w) (rv.up2 p.x)
def tS (K : PySem.W.Frag) (C : Cl) (N : Nat) (io : List Nat) (s : S) : TS := fun D σ H => ∃ O α env f, EnvR K O α env σ H ∧ ex C N io s env = some f ∧ EndR K O α H (asgS s) D f
def tSs (K : PySem.W.Frag) (C : Cl) (N : Nat) (io : List Nat) (s : Ss) : TS := fun D σ H => ∃ O α env f, EnvR K O α env σ H ∧ exs C N io s env = some f ∧ EndR K O α H (asgSs s) D f
theorem PS.weak {X : Cx} {s : Stmt} {t t' : TS} (h : PS X s t) (i : ∀ D σ H, t' D σ H → t D σ H) : PS X s t' := ⟨fun pins s σ H D I q => h.run pins s σ H D I (i D σ H q)⟩
theorem PSs.weak {X : Cx} {s : List Stmt} {t t' : TS} (h : PSs X s t) (i : ∀ D σ H, t' D σ H → t D σ H) : PSs X s t' := ⟨fun pins s σ H D I q => h.run pins s σ H D I (i D σ H q)⟩
/-- a target that takes anything -/
def tGa (K : PySem.W.Frag) (io : List Nat) (t : Tg) : TG := fun v σ H Q => ∃ O α env r env' H0, EnvR K O α env σ H ∧ Gr O H0 H ∧ (∀ a ∈ O, H0 a ≠ none) ∧ RvR K O α env H0 H r v ∧ Nw K O α env σ H r v ∧ bindT io t r env = some env' ∧
  ∀ O' α' σ', Ps K O α H0 (asgT t) O' α' env' σ' H → Q σ' H
def updα (α : Nat → Addr) (i : Nat) (a : Addr) : Nat → Addr := fun j => if j = i then a else α j
theorem EnvR.setOwn {i : Nat} {o : Ob} {a : Addr} (E : EnvR K O α env σ H) (ha : a ∈ O) (hi : i < env.length) (ho : ObR K (Fz O H) H a o) (hO : ∀ (j : Nat) (o : Ob), env[j]? = some (some (SV.own o)) → α j ≠ a) : EnvR K O (updα α i a) (env.set i (some (.own o))) (σ.set i (some (.ref a))) H := by
  have hi2 : i < σ.length := by rw [← E.len]; exact hi
  refine ⟨by rw [List.length_set, List.length_set]; exact E.len, fun j e h => ?_, fun j w h => ?_, fun j j' w w' h h' e => ?_, E.trm⟩
  · by_cases q : j = i
    · subst q
      rw [List.getElem?_set_self hi] at h
      cases h
    · rw [List.getElem?_set_ne (Ne.symm q)] at h ⊢
      exact E.val j e h
  · by_cases q : j = i
    · subst q
      rw [List.getElem?_set_self hi] at h
      cases h
      refine ⟨?_, ?_, ?_⟩
      · rw [List.getElem?_set_self hi2]
        unfold updα
        rw [if_pos rfl]
      · unfold updα
        rw [if_pos rfl]
        exact ha
      · unfold updα
        rw [if_pos rfl]
        exact ho
    · rw [List.getElem?_set_ne (Ne.symm q)] at h ⊢
      unfold updα
      rw [if_neg q]
      exact E.own j w h
  · have g : ∀ {j : Nat} {w : Ob}, (env.set i (some (SV.own o)))[j]? = some (some (SV.own w)) → j ≠ i → env[j]? = some (some (SV.own w)) := fun {j w} h q => by
      rw [List.getElem?_set_ne (Ne.symm q)] at h
      exact h
    unfold updα at e
    by_cases q : j = i
    · by_cases q' : j' = i
      · rw [q, q']
      · rw [if_pos q, if_neg q'] at e
        exact absurd e.symm (hO j' w' (g h' q'))
    · by_cases q' : j' = i
      · rw [if_neg q, if_pos q'] at e
        exact absurd e (hO j w (g h q))
      · rw [if_neg q, if_neg q'] at e
        exact E.inj j j' _ _ (g h q) (g h' q') e
end
section
variable {X : Cx} {io : List Nat}
theorem nm_ga {i : Nat} {x : Str} {pos : Pos} (hN : X.N.Nodup) (hi : X.N[i]? = some x) (hx : Loc X.env.scope x) (hf : X.fn x = true ∨ X.env.scope.names.lookup x = some .local) : PG X (.Name x pos) (tGa X.K io (.nm i)) :=
  PG.weak (pg_name hN hi hx hf) (by
    rintro v σ H Q ⟨O, α, env, r, env', H0, E, g, hE, hv, nw, e, k⟩
    cases r with
    | val d =>
      rw [bindT] at e
      split at e
      · rename_i hc
        cases e
        exact k O α _ ⟨E.setVal hc.1 hv, g.xt, fun _ h h' => absurd h h', fun _ _ => rfl⟩
      · cases e
    | fr o =>
      rw [bindT] at e
      split at e
      · rename_i hc
        cases e
        obtain ⟨a, rfl, h0, ho⟩ := hv
        have E2 := nw a rfl
        have nw1 : ∀ b ∈ a :: O, b ∉ O → H0 b = none := fun b hb hn => by
          rcases List.mem_cons.mp hb with e | hb
          · rw [e]; exact h0
          · exact absurd hb hn
        refine k (a :: O) (updα α i a) _ ⟨E2.setOwn List.mem_cons_self hc.1 ho (fun j o h e => ?_), g.grow (fun _ h => List.mem_cons_of_mem _ h) nw1, nw1, fun j hj => ?_⟩
        · have := (E.own j o h).2.1
          rw [e] at this
          exact hE a this h0
        · unfold updα
          rw [if_neg]
          intro e
          exact hj (by rw [e]; exact List.mem_cons_self)
      · cases e
    | bo j o =>
      rw [bindT] at e
      split at e
      · rename_i hc
        cases e
        obtain ⟨rfl, hv⟩ := hv
        obtain ⟨h1, h2⟩ := hc
        subst h1
        have hs : σ.set i (some (.ref (α i))) = σ := by
          apply List.ext_getElem?
          intro j
          by_cases q : j = i
          · subst q
            rw [(E.own j _ hv).1, List.getElem?_set_self]
            rcases Nat.lt_or_ge j σ.length with z | z
            · exact z
            · have := (E.own j _ hv).1
              rw [List.getElem?_eq_none z] at this
              cases this
          · rw [List.getElem?_set_ne (Ne.symm q)]
        show Q (σ.set i (some (.ref (α i)))) H
        rw [hs]
        exact k O α σ ⟨E, g.xt, fun _ h h' => absurd h h', fun _ _ => rfl⟩
      · cases e)
theorem tp_ga {ts : Tgs} {e : Expr} (h : PG X e (tG X.K io (.tp ts))) : PG X e (tGa X.K io (.tp ts)) :=
  PG.weak h (by
    rintro v σ H Q ⟨O, α, env, r, env', H0, E, g, hE, hv, nw, e, k⟩
    cases r with
    | val d => exact ⟨O, α, env, d, env', E, hv, e, fun σ' E' h1 h2 h3 => k O α σ' ⟨E', g.xt, fun _ h h' => absurd h h', fun _ _ => rfl⟩⟩
    | fr o => simp [bindT] at e
    | bo _ _ => simp [bindT] at e)
theorem Ga_ok {C : Cl} (t : Tg) (g : Sx) (e : Expr) (c : XC g C X) (h : chkT g t e = true) : PG X e (tGa X.K io t) := by
  cases t with
  | nm i =>
    unfold chkT at h
    split at h
    · simp only [Bool.and_eq_true, decide_eq_true_eq] at h
      obtain ⟨h1, h2⟩ := h
      obtain ⟨s1, s2⟩ := c.st h2
      exact nm_ga c.nd (by rw [c.N]; exact h1) s1 s2
    · cases h
  | tp ts => exact tp_ga (T_ok (.tp ts) g X e c h)
end
end PL
set_option maxRecDepth 100000
set_option maxHeartbeats 4000000
/-! PL5b: which stores are swapped. -/
namespace PL
open PySem PySem.Spec PyProof.Rows L2
def swNames (sc : Scope) (ts : List Expr) : List Str := ts.filterMap fun
  | .Name id pos => if sc.names.lookup id == some .local && pos.line == (ts.head?.map (·.pos.line)).getD 0 then some id else none
  | _ => none
theorem swap_none {env : Env} {ts vs : List Expr} {k k2 : Nat} {p p2 : Pos} (h : ((swNames env.scope ts).length != ts.length) = true) : swappedStores [.Tuple ts k p] (.Tuple vs k2 p2) env = pure none := by
  unfold swappedStores
  dsimp only
  split
  · rfl
  · split
    · rfl
    · rw [if_pos]
      rw [Bool.or_eq_true]
      exact .inl h
theorem swap_2 {env : Env} {a b : Expr} {x y : Str} {k k2 : Nat} {p p2 px py : Pos} (hk : env.scope.kind = .function) (hx : env.scope.names.lookup x = some .local) (hy : env.scope.names.lookup y = some .local) (hl : py.line = px.line) (hxy : x ≠ y)
    (h1 : notStar a = true) (h2 : notStar b = true) (hf : [a, b].all (foldedForSure 8) = false) (hc : [a, b].all (constantsAlone 8) = false) : swappedStores [.Tuple [.Name x px, .Name y py] k p] (.Tuple [a, b] k2 p2) env = pure (some [x, y]) := by
  have hb : env.blockKind = .function := by unfold Env.blockKind; rw [hk]; rfl
  have kx : env.kindOf x = some .local := hx
  have ky : env.kindOf y = some .local := hy
  have ex : (Expr.Name x px).pos = px := rfl
  have e1 : (y == x) = false := by simpa using Ne.symm hxy
  unfold swappedStores
  simp only [hb, hf, hc, List.filterMap_cons, List.filterMap_nil, List.head?_cons, Option.map_some, Option.getD_some, ex, kx, ky, hl, List.any_cons, List.any_nil]
  simp [List.eraseDups, List.eraseDupsBy, List.eraseDupsBy.loop, e1]
  intro h
  rcases h with h | h
  · cases a <;> first | (cases h1; done) | (cases h; done)
  · cases b <;> first | (cases h2; done) | (cases h; done)
theorem swap_3 {env : Env} {a b c : Expr} {x y z : Str} {k k2 : Nat} {p p2 px py pz : Pos} (hk : env.scope.kind = .function) (hx : env.scope.names.lookup x = some .local) (hy : env.scope.names.lookup y = some .local) (hz : env.scope.names.lookup z = some .local) (hl : py.line = px.line) (hl2 : pz.line = px.line) (hxy : x ≠ y) (hxz : x ≠ z) (hyz : y ≠ z)
    (h1 : notStar a = true) (h2 : notStar b = true) (h3 : notStar c = true) (hf : [a, b, c].all (foldedForSure 8) = false) (hc : [a, b, c].all (constantsAlone 8) = false) : swappedStores [.Tuple [.Name x px, .Name y py, .Name z pz] k p] (.Tuple [a, b, c] k2 p2) env = pure (some [x, y, z]) := by
  have hb : env.blockKind = .function := by unfold Env.blockKind; rw [hk]; rfl
  have kx : env.kindOf x = some .local := hx
  have ky : env.kindOf y = some .local := hy
  have kz : env.kindOf z = some .local := hz
  have ex : (Expr.Name x px).pos = px := rfl
  have e1 : (y == x) = false := by simpa using Ne.symm hxy
  have e2 : (z == x) = false := by simpa using Ne.symm hxz
  have e3 : (z == y) = false := by simpa using Ne.symm hyz
  unfold swappedStores
  simp only [hb, hf, hc, List.filterMap_cons, List.filterMap_nil, List.head?_cons, Option.map_some, Option.getD_some, ex, kx, ky, kz, hl, hl2, List.any_cons, List.any_nil]
  simp [List.eraseDups, List.eraseDupsBy, List.eraseDupsBy.loop, e1, e2, e3]
  intro h
  rcases h with h | h | h
  · cases a <;> first | (cases h1; done) | (cases h; done)
  · cases b <;> first | (cases h2; done) | (cases h; done)
  · cases c <;> first | (cases h3; done) | (cases h; done)
def notComp : Expr → Bool
  | .ListComp _ _ _ _ => false
  | .SetComp _ _ _ _ => false
  | .DictComp _ _ _ _ _ => false
  | _ => true
theorem sw_no {e : Expr} {t : Option Expr} {l : Nat} {env : Env} (h : notComp e = true) : swapsWith e t l env = pure false := by
  cases e <;> first | rfl | cases h
theorem sw_tup {e : Expr} {es : List Expr} {k : Nat} {p : Pos} {l : Nat} {env : Env} : swapsWith e (some (.Tuple es k p)) l env = pure false := by
  cases e <;> rfl
theorem sw_sub {e o i : Expr} {p : Pos} {l : Nat} {env : Env} : swapsWith e (some (.Subscript o i p)) l env = pure false := by
  cases e <;> rfl
theorem sw_cell {elt : Expr} {gs : List Comprehension} {scope : Scope} {pos py : Pos} {y : Str} {l : Nat} {env : Env} (hy : env.scope.names.lookup y = some .cell) : swapsWith (.ListComp elt gs scope pos) (some (.Name y py)) l env = pure false := by
  have ky : env.kindOf y = some .cell := hy
  unfold swapsWith
  simp only [ky]
  cases hb : (env.blockKind == ScopeKind.function) <;> simp [hb] <;> rfl
def notTup : Expr → Bool
  | .Tuple _ _ _ => false
  | _ => true
theorem st_no {e : Expr} {ts : List Expr} {k : Nat} {p : Pos} {env : Env} (h : notTup e = true) : swappedStores [.Tuple ts k p] e env = pure none := by
  cases e <;> first | rfl | cases h
theorem st_name {e : Expr} {y : Str} {p : Pos} {env : Env} : swappedStores [.Name y p] e env = pure none := by
  cases e <;> rfl
theorem st_sub {e o i : Expr} {p : Pos} {env : Env} : swappedStores [.Subscript o i p] e env = pure none := by
  cases e <;> rfl
end PL
set_option maxRecDepth 100000
set_option maxHeartbeats 4000000
/-! PL5c: statements. -/
namespace PL
open PySem PySem.Spec PyProof.Rows L2
section
variable {X : Cx} {C : Cl} {N : Nat} {io : List Nat} {pos : Pos}
theorem asg_run {t : Tg} {e : E} {D : Ends} {σ : L2.St} {H : Hp} (q : tS X.K C N io (.asg t e) D σ H) : tE X.K C e σ H fun v H1 => tGa X.K io t v σ H1 D.nx := by
  obtain ⟨O, α, env, f, E, h, k⟩ := q
  rw [ex] at h
  obtain ⟨⟨r, env1⟩, h1, h⟩ := Option.bind_eq_some_iff.mp h
  obtain ⟨env2, h2, h⟩ := Option.map_eq_some_iff.mp h
  subst h
  exact ⟨O, α, env, r, env1, E, h1, fun v H1 P1 q1 n1 => ⟨O, α, env1, r, env2, H, P1.E, P1.g, E.trk, q1, n1, h2, fun O' α' σ' p => k O' α' σ' H1 p⟩⟩
theorem tE_mono {e : E} {σ : L2.St} {H : Hp} {Q Q' : VK} (h : tE X.K C e σ H Q) (i : ∀ v H, Q v H → Q' v H) : tE X.K C e σ H Q' := by
  obtain ⟨O, α, env, r, env', E, e, k⟩ := h
  exact ⟨O, α, env, r, env', E, e, fun v H' P q n => i _ _ (k v H' P q n)⟩
theorem asg_s {t : Tg} {e : E} {tg ex : Expr} (he : PE X ex (tE X.K C e)) (hg : PG X tg (tGa X.K io t)) (hn : notStar tg = true) (hs : swapsWithSole [tg] ex pos.line X.env = pure false) (hw : swappedStores [tg] ex X.env = pure none) : PS X (.Assign [tg] ex pos) (tS X.K C N io (.asg t e)) :=
  PS.weak (ps_asg he hg hs hw (by rw [assign_cons hn]; rfl)) fun D σ H q => asg_run q
theorem ga_name {i : Nat} {v : V} {σ : L2.St} {H : Hp} {Q : L2.St → Hp → Prop} (h : tGa X.K io (.nm i) v σ H Q) : gName i v σ H Q := by
  obtain ⟨O, α, env, r, env', H0, E, g, hE, hv, nw, e, k⟩ := h
  cases r with
  | val d =>
    rw [bindT] at e
    split at e
    · rename_i hc
      cases e
      exact k O α _ ⟨E.setVal hc.1 hv, g.xt, fun _ h h' => absurd h h', fun _ _ => rfl⟩
    · cases e
  | fr o =>
    rw [bindT] at e
    split at e
    · rename_i hc
      cases e
      obtain ⟨a, rfl, h0, ho⟩ := hv
      have E2 := nw a rfl
      have nw1 : ∀ b ∈ a :: O, b ∉ O → H0 b = none := fun b hb hn => by
        rcases List.mem_cons.mp hb with e | hb
        · rw [e]; exact h0
        · exact absurd hb hn
      refine k (a :: O) (updα α i a) _ ⟨E2.setOwn List.mem_cons_self hc.1 ho (fun j o h e => ?_), g.grow (fun _ h => List.mem_cons_of_mem _ h) nw1, nw1, fun j hj => ?_⟩
      · have := (E.own j o h).2.1
        rw [e] at this
        exact hE a this h0
      · unfold updα
        rw [if_neg]
        intro e
        exact hj (by rw [e]; exact List.mem_cons_self)
    · cases e
  | bo j o =>
    rw [bindT] at e
    split at e
    · rename_i hc
      cases e
      obtain ⟨rfl, hv⟩ := hv
      obtain ⟨h1, h2⟩ := hc
      subst h1
      have hs : σ.set i (some (.ref (α i))) = σ := by
        apply List.ext_getElem?
        intro j
        by_cases q : j = i
        · subst q
          rw [(E.own j _ hv).1, List.getElem?_set_self]
          rcases Nat.lt_or_ge j σ.length with z | z
          · exact z
          · have := (E.own j _ hv).1
            rw [List.getElem?_eq_none z] at this
            cases this
        · rw [List.getElem?_set_ne (Ne.symm q)]
      show Q (σ.set i (some (.ref (α i)))) H
      rw [hs]
      exact k O α σ ⟨E, g.xt, fun _ h h' => absurd h h', fun _ _ => rfl⟩
    · cases e
/-- name = [..], stored within the block -/
theorem lc_s {i : Nat} {y : Str} {py : Pos} {elt : E} {tg : Tg} {it : PL.It} {cs : Oe} {own : List (Str × Nat)} {eelt etg eit : Expr} {ifs : List Expr} {scope : Scope} {lpos : Pos} (hc : X.calm = true) (hN : X.N.Nodup) (hy : X.N[i]? = some y) (hyl : X.env.scope.names.lookup y = some .local)
    (hsw : swapsWith (.ListComp eelt [⟨etg, eit, ifs, 0⟩] scope lpos) (some (.Name y py)) pos.line X.env = pure true)
    (hs : ∀ i ∈ asgT tg, i ∈ own.map (·.2)) (ok : BlkOk X.N X.env.scope scope own)
    (hi : PI X etg eit (tI X.K C it)) (hg : ∀ (s : Shared) (H : Hp) (Cl : Addr) (cl : List (Str × Addr)) (fp : List Addr), PG (X.blk s H scope (compEnvC scope cl Cl X.env) fp) etg (tG X.K [] tg))
    (ht : ∀ (s : Shared) (H : Hp) (Cl : Addr) (cl : List (Str × Addr)) (fp : List Addr), PTs (X.blk s H scope (compEnvC scope cl Cl X.env) fp) ifs (tTs X.K C cs))
    (he : ∀ (s : Shared) (H : Hp) (Cl : Addr) (cl : List (Str × Addr)) (fp : List Addr), PE (X.blk s H scope (compEnvC scope cl Cl X.env) fp) eelt (tE X.K C elt)) (hf : ∀ x, foldedSetIterable eit X.env x = pure x) :
    PS X (.Assign [.Name y py] (.ListComp eelt [⟨etg, eit, ifs, 0⟩] scope lpos) pos) (tS X.K C N io (.asg (.nm i) (.comp elt tg it cs own))) :=
  PS.weak (ps_setLc hc hN hy hyl hsw hi ok hg ht he hf) fun D σ H q => comp_run hs (tE_mono (asg_run q) fun v H1 z => ga_name z)
/-! ### small statements -/
theorem exp_s {e : E} {ex : Expr} (he : PE X ex (tE X.K C e)) (hs : swapsWith ex none pos.line X.env = pure false) : PS X (.Expr ex pos) (tS X.K C N io (.exp e)) :=
  PS.weak (ps_expr he hs) (by
    rintro D σ H ⟨O, α, env, f, E, h, k⟩
    rw [PL.ex] at h
    obtain ⟨⟨r, env1⟩, h1, h⟩ := Option.map_eq_some_iff.mp h
    subst h
    exact ⟨O, α, env, r, env1, E, h1, fun v H1 P1 q1 n1 => k O α σ H1 P1.ps⟩)
theorem app_s {i : Nat} {x : Str} {e : E} {ea : Expr} {p1 apos cpos : Pos} (hN : X.N[i]? = some x) (hv : Vis X.env.scope x) (hd : (x == ("__debug__" : Str)) = false) (hc : (x == ("__classdict__" : Str)) = false) (ha : PE X ea (tE X.K C e)) (h1 : notStar ea = true) (hl : (apos.endLine == cpos.line) = true) :
    PS X (.Expr (.Call (.Attribute (.Name x p1) "append" apos) [ea] [] cpos) pos) (tS X.K C N io (.app i e)) := by
  have s1 := star_cons (es := []) (env := X.env) h1
  have pa : PA X [ea] (tCons (tE X.K C e) tNil) := pa_cons ha pa_nil s1
  refine PS.weak (ps_expr (pe_bm PySem.F.plainAttrs_list PySem.F.slot_list_append PySem.F.type_list_append mt_append (pe_var hN hv hd hc) pa rfl (few_ok h1 rfl (by decide)) hl s1 rfl) rfl) ?_
  rintro D σ H ⟨O, α, env, f, E, h, k⟩
  rw [ex] at h
  split at h
  · rename_i ds0 hi
    obtain ⟨b1, b2, vs0, b3, b4⟩ := E.own i _ hi
    obtain ⟨⟨ra, env1⟩, h1, h⟩ := Option.bind_eq_some_iff.mp h
    obtain ⟨d, h2, h⟩ := Option.bind_eq_some_iff.mp h
    refine ⟨_, b1, .inl ⟨rfl, vs0, .of b3⟩, O, α, env, ra, env1, E, h1, fun v H1 P1 q1 n1 => ?_⟩
    split at h
    · rename_i ds hi1
      obtain ⟨u, h3, h⟩ := Option.map_eq_some_iff.mp h
      subst h
      have hi1 : env1[i]? = some (some (.own (.L ds))) := hi1
      obtain ⟨c1, c2, vs, c3, c4⟩ := P1.E.own i _ hi1
      have hy := q1.frz E.trk h2
      refine ⟨α i, vs, v, rfl, rfl, c3, by rw [c4.length]; exact lim_lt (gd_some h3), ?_⟩
      have E2 := P1.E.mut (o' := .L (ds ++ [d])) (u := .lst (vs ++ [v])) hi1 True.intro ⟨vs ++ [v], upd_same, c4.append (.cons hy .nil)⟩
      exact k O α σ _ (P1.ps.nil_trans ⟨E2, (Gr.mut (u := .lst (vs ++ [v])) c2 True.intro).xt, fun _ h h' => absurd h h', fun _ _ => rfl⟩)
    · cases h
  · cases h
theorem ret_s {e : E} {ex : Expr} (he : PE X ex (tE X.K C e)) : PS X (.Return (some ex) pos) (tS X.K C N io (.ret e)) :=
  PS.weak (ps_ret he) (by
    rintro D σ H ⟨O, α, env, f, E, h, k⟩
    rw [PL.ex] at h
    obtain ⟨⟨r, env1⟩, h1, h⟩ := Option.map_eq_some_iff.mp h
    subst h
    exact ⟨O, α, env, r, env1, E, h1, fun v H1 P1 q1 n1 => k O α σ H1 v P1.ps q1⟩)
theorem retN_s : PS X (.Return none pos) (tS X.K C N io .retN) :=
  PS.weak ps_retN (by
    rintro D σ H ⟨O, α, env, f, E, h, k⟩
    rw [PL.ex] at h
    cases h
    exact k O α σ H .non (.refl E) .non)
theorem brk_s : PS X (.Break pos) (tS X.K C N io .brk) :=
  PS.weak ps_break (by
    rintro D σ H ⟨O, α, env, f, E, h, k⟩
    rw [PL.ex] at h
    cases h
    exact k O α σ H (.refl E))
theorem cnt_s : PS X (.Continue pos) (tS X.K C N io .cnt) :=
  PS.weak ps_continue (by
    rintro D σ H ⟨O, α, env, f, E, h, k⟩
    rw [PL.ex] at h
    cases h
    exact k O α σ H (.refl E))
theorem pas_s : PS X (.Pass pos) (tS X.K C N io .pas) :=
  PS.weak ps_pass (by
    rintro D σ H ⟨O, α, env, f, E, h, k⟩
    rw [PL.ex] at h
    cases h
    exact k O α σ H (.refl E))
theorem nev_s {st : Stmt} : PS X st (tS X.K C N io .nev) :=
  PS.weak ps_never (by
    rintro D σ H ⟨O, α, env, f, E, h, k⟩
    rw [PL.ex] at h
    cases h)
/-! ### blocks -/
theorem nil_ss : PSs X [] (tSs X.K C N io .nil) :=
  PSs.weak pss_nil (by
    rintro D σ H ⟨O, α, env, f, E, h, k⟩
    rw [exs] at h
    cases h
    exact k O α σ H (.refl E))
theorem cons_ss {s : S} {ss : Ss} {st : Stmt} {sts : List Stmt} (h1 : PS X st (tS X.K C N io s)) (h2 : PSs X sts (tSs X.K C N io ss)) : PSs X (st :: sts) (tSs X.K C N io (.cons s ss)) :=
  PSs.weak (pss_cons h1 h2) (by
    rintro D σ H ⟨O, α, env, f, E, h, k⟩
    rw [exs] at h
    obtain ⟨f1, g1, h⟩ := Option.bind_eq_some_iff.mp h
    refine ⟨O, α, env, f1, E, g1, ?_⟩
    have w1 : ∀ i ∈ asgS s, i ∈ asgSs (.cons s ss) := fun i hi => List.mem_append_left _ hi
    have w2 : ∀ i ∈ asgSs ss, i ∈ asgSs (.cons s ss) := fun i hi => List.mem_append_right _ hi
    cases f1 with
    | nx e => exact fun O' α' σ' H' p => ⟨O', α', e, f, p.E, h, k.after p w1 w2⟩
    | bk e => cases h; exact fun O' α' σ' H' p => k O' α' σ' H' (p.wide w1)
    | ct e => cases h; exact fun O' α' σ' H' p => k O' α' σ' H' (p.wide w1)
    | rt r e => cases h; exact fun O' α' σ' H' v p q => k O' α' σ' H' v (p.wide w1) q)
theorem ite_s {c : E} {a b : Ss} {ec : Expr} {sa sb : List Stmt} (hc : PT X ec (tT X.K C c)) (ha : PSs X sa (tSs X.K C N io a)) (hb : PSs X sb (tSs X.K C N io b)) : PS X (.If ec sa sb pos) (tS X.K C N io (.ite c a b)) :=
  PS.weak (ps_if hc ha hb) (by
    rintro D σ H ⟨O, α, env, f, E, h, k⟩
    rw [ex] at h
    obtain ⟨⟨d, env1⟩, h1, h⟩ := Option.bind_eq_some_iff.mp h
    refine ⟨O, α, env, d, env1, E, h1, fun H1 P1 => ?_⟩
    cases d with
    | true =>
      simp only [if_true] at h ⊢
      exact ⟨O, α, env1, f, P1.E, h, k.after P1.ps (fun i hi => nomatch hi) fun i hi => List.mem_append_left _ hi⟩
    | false =>
      simp only [Bool.false_eq_true, if_false] at h ⊢
      exact ⟨O, α, env1, f, P1.E, h, k.after P1.ps (fun i hi => nomatch hi) fun i hi => List.mem_append_right _ hi⟩)
/-! ### loops -/
theorem whl_s {c : E} {b : Ss} {ec : Expr} {sb : List Stmt} (hp : PassesOwn (model X.prog X.w) X.A X.env X.xe) (hc : PT X ec (tT X.K C c)) (hb : PSs X sb (tSs X.K C N io b)) : PS X (.While ec sb [] pos) (tS X.K C N io (.whl c b)) :=
  PS.weak (ps_while hp hc hb) (by
    rintro D σ H ⟨O, α, env, f, E, h, k⟩
    rw [ex] at h
    refine ⟨fun m σ' H' => ∃ O' α' env', Ps X.K O α H (asgSs b) O' α' env' σ' H' ∧ whileL (evt C c) (exs C N io b) m env' = some f, ⟨N, O, α, env, (Ps.refl E).wide (fun i hi => nomatch hi), h⟩, ?_⟩
    rintro m σ1 H1 ⟨O1, α1, env1, p1, h⟩
    cases m with
    | zero => cases h
    | succ n =>
      rw [whileL] at h
      obtain ⟨⟨d, env2⟩, h1, h⟩ := Option.bind_eq_some_iff.mp h
      refine ⟨O1, α1, env1, d, env2, p1.E, h1, fun H2 P2 => ?_⟩
      have p2 : Ps X.K O α H (asgSs b) O1 α1 env2 σ1 H2 := (p1.trans P2.ps).wide fun i hi => by simpa using hi
      cases d with
      | true =>
        simp only [if_true] at h ⊢
        obtain ⟨f1, h3, h⟩ := Option.bind_eq_some_iff.mp h
        refine ⟨fun σ' H' => ∃ O' α' env', Ps X.K O α H (asgSs b) O' α' env' σ' H' ∧ whileL (evt C c) (exs C N io b) n env' = some f, fun σ' H' w => ⟨n, Nat.lt_succ_self n, w⟩, O1, α1, env2, f1, P2.E, h3, ?_⟩
        have w : ∀ i ∈ asgSs b ++ asgSs b, i ∈ asgSs b := fun i hi => (List.mem_append.mp hi).elim id id
        cases f1 with
        | nx e => exact fun O' α' σ' H' p => ⟨O', α', e, (p2.trans p).wide w, h⟩
        | ct e => exact fun O' α' σ' H' p => ⟨O', α', e, (p2.trans p).wide w, h⟩
        | bk e => cases h; exact fun O' α' σ' H' p => k O' α' σ' H' ((p2.trans p).wide w)
        | rt r e => cases h; exact fun O' α' σ' H' v p q => k O' α' σ' H' v ((p2.trans p).wide w) (q.up2 p2.x)
      | false =>
        simp only [Bool.false_eq_true, if_false] at h ⊢
        cases h
        exact k O1 α1 σ1 H2 p2)
theorem for_s {t : Tg} {it : PL.It} {b : Ss} {etg eit : Expr} {sb : List Stmt} (hp : PassesOwn (model X.prog X.w) X.A X.env X.xe) (hc : X.calm = true) (hi : PI X etg eit (tI X.K C it)) (hg : PG X etg (tG X.K io t)) (hb : PSs X sb (tSs X.K C N io b)) (hf : ∀ x, foldedSetIterable eit X.env x = pure x) :
    PS X (.For etg eit sb [] pos) (tS X.K C N io (.for t it b)) :=
  PS.weak (ps_for hp hc hi hg hb hf) (by
    rintro D σ H ⟨O, α, env, f, E, h, k⟩
    rw [ex] at h
    obtain ⟨⟨ds, bs, env1⟩, h1, h⟩ := Option.bind_eq_some_iff.mp h
    obtain ⟨u0, hbs, h⟩ := Option.bind_eq_some_iff.mp h
    have hbs : ∀ j ∈ bs, j ∉ asgT t ++ asgSs b := gd_some hbs
    have h : forL bs (fun d e => (bindT io t (.val d) e).bind fun e1 => exs C N io b e1) ds env1 env1 = some f := h
    refine ⟨O, α, env, ds, bs, env1, E, h1, fun J H1 P1 hown hJ => ?_⟩
    refine ⟨fun i m σ' H' => m = ds.length - i ∧ i ≤ ds.length ∧ ∃ O' α' env', Ps X.K O α H1 (asgT t ++ asgSs b) O' α' env' σ' H' ∧ (∀ j ∈ bs, env'[j]? = env1[j]?) ∧ forL bs (fun d e => (bindT io t (.val d) e).bind fun e1 => exs C N io b e1) (ds.drop i) env1 env' = some f,
      ⟨ds.length, by simp, Nat.zero_le _, O, α, env1, (Ps.refl P1.E).wide (fun i hi => nomatch hi), fun _ _ => rfl, h⟩, ?_⟩
    rintro i m σ2 H2 ⟨rfl, hi, O2, α2, env2, p2, hb2, h⟩
    have k : EndR X.K O α H1 (asgT t ++ asgSs b) D f := k.after P1.ps (fun i hi => nomatch hi) fun i hi => hi
    have hj := hJ i O2 α2 env2 σ2 H2 p2.E p2.x fun j hj => ⟨hb2 j hj, p2.al j (hbs j hj)⟩
    by_cases hlt : i < ds.length
    · obtain ⟨hgo, hyl⟩ := hj.1 ds[i] (List.getElem?_eq_getElem hlt)
      rw [List.drop_eq_getElem_cons hlt, forL] at h
      obtain ⟨f1, t1, h⟩ := Option.bind_eq_some_iff.mp h
      obtain ⟨e1, b1, t1⟩ := Option.bind_eq_some_iff.mp t1
      refine .inr ⟨hgo, fun σ' H' => ∃ O' α' env', Ps X.K O α H1 (asgT t ++ asgSs b) O' α' env' σ' H' ∧ (∀ j ∈ bs, env'[j]? = env1[j]?) ∧ forL bs (fun d e => (bindT io t (.val d) e).bind fun e1 => exs C N io b e1) (ds.drop (i + 1)) env1 env' = some f,
        fun σ' H' w => ⟨ds.length - (i + 1), by omega, rfl, hlt, w⟩, fun x H3 y => ?_⟩
      obtain ⟨sm, hx⟩ := hyl x H3 y
      refine ⟨O2, α2, env2, ds[i], e1, p2.E.same sm, hx, b1, fun σ3 E3 a1 a2 a3 => ?_⟩
      have p3 : Ps X.K O α H1 (asgT t ++ asgSs b) O2 α2 e1 σ3 H3 := (p2.trans ⟨E3, sm.gr.xt, fun _ h h' => absurd h h', fun _ _ => rfl⟩ : Ps X.K O α H1 ((asgT t ++ asgSs b) ++ []) O2 α2 e1 σ3 H3).wide fun i hi => by simpa using hi
      have w : ∀ i ∈ (asgT t ++ asgSs b) ++ asgSs b, i ∈ asgT t ++ asgSs b := fun i hi => (List.mem_append.mp hi).elim id fun z => List.mem_append_right _ z
      refine ⟨O2, α2, e1, f1, E3, t1, ?_⟩
      cases f1 with
      | nx e =>
        obtain ⟨u1, c1, h⟩ := Option.bind_eq_some_iff.mp h
        exact fun O' α' σ' H' p => ⟨O', α', e, (p3.trans p).wide w, gd_some c1, h⟩
      | ct e =>
        obtain ⟨u1, c1, h⟩ := Option.bind_eq_some_iff.mp h
        exact fun O' α' σ' H' p => ⟨O', α', e, (p3.trans p).wide w, gd_some c1, h⟩
      | bk e => cases h; exact fun O' α' σ' H' p => k O' α' σ' H' ((p3.trans p).wide w)
      | rt r e => cases h; exact fun O' α' σ' H' v p q => k O' α' σ' H' v ((p3.trans p).wide w) (q.up2 p3.x)
    · have ei : i = ds.length := by omega
      subst ei
      rw [List.drop_length, forL] at h
      cases h
      exact .inl ⟨hj.2 (Nat.le_refl _), k O2 α2 σ2 H2 p2⟩)
end
end PL
set_option maxRecDepth 100000
set_option maxHeartbeats 4000000
/-! PL5d: x[k] = v; a, b = x, y. -/
namespace PL
open PySem PySem.Spec PyProof.Rows L2
def WSt (X : Cx) (o i v : V) (H : Hp) (Q : Hp → Prop) : Prop := ∀ (pins : List (Addr × Obj)) (s : Shared) (σ : L2.St) (ov iv u : Value), Inv X pins σ H s → RelV o ov → RelV i iv → RelV v u →
  wpAny (model X.prog X.w) X.A (setItem ov iv u) (fun _ s' => ∃ H', Inv X pins σ H' s' ∧ Q H') X.xe s
section
variable {X : Cx} {C : Cl} {N : Nat} {io : List Nat} {pos : Pos}
theorem set_w : PSet X (WSt X) := fun pins s σ H o i v ov iv u Q I ro ri rv h => h pins s σ ov iv u I ro ri rv
theorem set_dict (hu : X.A.units + 1 < cLine) {a : Addr} {y v : V} {H H' : Hp} {Q : Hp → Prop} (g : DPut H a y v H') (q : Q H') : WSt X (.ref a) y v H Q := fun pins s σ ov iv u I ro ri rv => by
  obtain rfl : ov = Value.ref a := ro
  exact d_setItem hu I g ri rv fun s' I' => ⟨H', I', q⟩
theorem notSlice_asg {o i : Expr} {env : Env} {p : Pos} (h : notSlice i = true) (v : Value) : assign (.Subscript o i p) env v = (do
      let ov ← holding [v] (eval o env)
      let iv ← holding [v, ov] (eval i env)
      standAt p
      holding [v, ov, iv] (setItem ov iv v)
      release [v, ov, iv] []) := by
  cases i <;> first | rfl | cases h
theorem set_s {i : Nat} {x : Str} {k e : E} {ek ev : Expr} {p1 sp : Pos} (hu : X.A.units + 68 < cLine) (hN : X.N[i]? = some x) (hv : Vis X.env.scope x) (hd : (x == ("__debug__" : Str)) = false) (hc : (x == ("__classdict__" : Str)) = false)
    (hk : PE X ek (tE X.K C k)) (he : PE X ev (tE X.K C e)) (hs : notSlice ek = true) : PS X (.Assign [.Subscript (.Name x p1) ek sp] ev pos) (tS X.K C N io (.set i k e)) := by
  have h1 : swapsWith ev (some (.Subscript (.Name x p1) ek sp)) pos.line X.env = pure false := sw_sub
  refine PS.weak (ps_asg he (pg_sub (pe_var hN hv hd hc) hk set_w (notSlice_asg hs)) h1 st_sub) ?_
  clear h1
  rintro D σ H ⟨O, α, env, f, E, h, kk⟩
  rw [ex] at h
  obtain ⟨⟨r, env1⟩, h1, h⟩ := Option.bind_eq_some_iff.mp h
  obtain ⟨d, h2, h⟩ := Option.bind_eq_some_iff.mp h
  refine ⟨O, α, env, r, env1, E, h1, fun y H1 P1 q1 n1 => ?_⟩
  have hy0 := q1.frz E.trk h2
  split at h
  · rename_i o1 hi1
    have hi1 : env1[i]? = some (some (.own o1)) := hi1
    obtain ⟨⟨rk, env2⟩, h3, h⟩ := Option.bind_eq_some_iff.mp h
    refine ⟨_, (P1.E.own i _ hi1).1, O, α, env1, rk, env2, P1.E, h3, fun z H2 P2 q2 n2 => ?_⟩
    have P := P1.trans P2
    have hy : Dq X.K (Fz O H2) y d := hy0.mono P2.g.fz
    have fin : ∀ {o' : Ob} {u : HO} {o2 : Ob}, env2[i]? = some (some (.own o2)) → IsM (some u) → ObR X.K (Fz O H2) (upd H2 (α i) u) (α i) o' → EndR X.K O α H [] D (.nx (env2.set i (some (.own o')))) → D.nx σ (upd H2 (α i) u) := fun {o' u o2} hi2 m ho kk =>
      kk O α σ _ (P.ps.nil_trans ⟨P2.E.mut hi2 m ho, (Gr.mut (P2.E.own i _ hi2).2.1 m).xt, fun _ h h' => absurd h h', fun _ _ => rfl⟩)
    split at h
    · rename_i j ds hr hi2
      have hr : rk = .val (.int j) := hr
      have hi2 : env2[i]? = some (some (.own (.L ds))) := hi2
      subst hr
      obtain ⟨n, h4, h⟩ := Option.map_eq_some_iff.mp h
      subst h
      cases (show Dq _ _ z _ from q2)
      obtain ⟨c1, c2, vs, c3, c4⟩ := P2.E.own i _ hi2
      refine fun pins s σ' ov iv u I ro ri rv => set_list pins s σ' H2 (.ref (α i)) (.int j) y ov iv u _ I ro ri rv ⟨α i, vs, j, n, rfl, rfl, c3, by rw [c4.length]; exact h4, ?_⟩
      exact fin (o' := .L (ds.set n d)) hi2 True.intro ⟨vs.set n y, upd_same, c4.set n hy⟩ kk
    · rename_i x' kvs hr hi2
      have hr : rk = .val _ := hr
      have hi2 : env2[i]? = some (some (.own (.K kvs))) := hi2
      subst hr
      obtain ⟨kx, h4, h⟩ := Option.bind_eq_some_iff.mp h
      obtain ⟨u, h5, h⟩ := Option.map_eq_some_iff.mp h
      subst h
      obtain ⟨c1, c2, ws, c3, c4⟩ := P2.E.own i _ hi2
      have ez := Dq.key (show Dq _ _ z _ from q2) h4
      subst ez
      refine set_dict (by omega) (.inl ⟨ws, kx, c3, rfl, by rw [c4.length]; exact lim_lt (gd_some h5), rfl⟩) ?_
      exact fin (o' := .K (put kvs kx d)) hi2 True.intro ⟨putK ws kx y, upd_same, c4.put kx hy⟩ kk
    · rename_i xs kvs hr hi2
      have hr : rk = .val (.tuple xs) := hr
      have hi2 : env2[i]? = some (some (.own (.T kvs))) := hi2
      subst hr
      obtain ⟨kx, h4, h⟩ := Option.bind_eq_some_iff.mp h
      obtain ⟨u, h5, h⟩ := Option.map_eq_some_iff.mp h
      subst h
      obtain ⟨c1, c2, ws, c3, c4⟩ := P2.E.own i _ hi2
      cases (show Dq _ _ z _ from q2) with
      | tup g t =>
        have ez := t.keys h4
        subst ez
        refine set_dict (by omega) (.inr ⟨ws, kx, _, c3, rfl, Fz.sub _ _ g, by rw [c4.length]; exact lim_lt (gd_some h5), rfl⟩) ?_
        exact fin (o' := .T (put kvs kx d)) hi2 True.intro ⟨putK ws kx y, upd_same, c4.put kx hy⟩ kk
    · cases h
  · cases h
/-! ### a, b = x, y -/
/-- what has been reckoned and is still to be stored -/
def Pd (K : PySem.W.Frag) (O : List Addr) (H : Hp) : RV → V → Prop
  | .val d, v => Dq K (Fz O H) v d
  | .fr o, v => ∃ a, v = .ref a ∧ a ∈ O ∧ ObR K (Fz O H) H a o
  | .bo _ _, _ => False
def pdA : RV → V → List Addr
  | .fr _, .ref a => [a]
  | _, _ => []
theorem Pd.mono {K : PySem.W.Frag} {O O' : List Addr} {H H' : Hp} {r : RV} {v : V} (h : Pd K O H r v) (x : Same (Fz O H) (Fz O' H')) (s : ∀ a ∈ O, a ∈ O') (k : ∀ a ∈ pdA r v, ∀ u, H a = some u → H' a = some u) : Pd K O' H' r v := by
  cases r with
  | val d => exact Dq.mono x h
  | fr o =>
    obtain ⟨a, rfl, h1, h2⟩ := h
    exact ⟨a, rfl, s a h1, h2.mono x fun u hu => k a List.mem_cons_self u hu⟩
  | bo _ _ => exact h
/-- one more expression -/
theorem Pd.next {K : PySem.W.Frag} {O : List Addr} {α : Nat → Addr} {env env' : En} {σ : L2.St} {H H' : Hp} {r : RV} {v : V} (E : EnvR K O α env σ H) (P : Po K O α env σ H env' H') (q : RvR K O α env' H H' r v) (n : Nw K O α env' σ H' r v) (hb : ∀ (i : Nat) (o : Ob), r ≠ .bo i o) :
    ∃ O', EnvR K O' α env' σ H' ∧ Pd K O' H' r v ∧ (∀ a ∈ O, a ∈ O') ∧ (∀ a ∈ O', a ∉ O → H a = none) ∧ (∀ a ∈ pdA r v, H a = none) ∧ Xt O O' H H' := by
  cases r with
  | val d => exact ⟨O, P.E, q, fun _ h => h, fun _ h h' => absurd h h', fun a h => by cases v <;> simp [pdA] at h, P.g.xt⟩
  | fr o =>
    obtain ⟨a, rfl, h1, h2⟩ := q
    have nw1 : ∀ b ∈ a :: O, b ∉ O → H b = none := fun b hb hn => by
      rcases List.mem_cons.mp hb with e | hb
      · rw [e]; exact h1
      · exact absurd hb hn
    exact ⟨a :: O, n a rfl, ⟨a, rfl, List.mem_cons_self, h2⟩, fun _ h => List.mem_cons_of_mem _ h, nw1, fun b hb => by
      have : b = a := by simpa [pdA] using hb
      rw [this]; exact h1, P.g.grow (fun _ h => List.mem_cons_of_mem _ h) nw1⟩
  | bo i o => exact absurd rfl (hb i o)
/-- one of them stored -/
theorem Pd.store {K : PySem.W.Frag} {O : List Addr} {α : Nat → Addr} {env env' : En} {σ : L2.St} {H : Hp} {r : RV} {v : V} {i : Nat} (E : EnvR K O α env σ H) (h : Pd K O H r v) (hn : ∀ (j : Nat) (o : Ob), env[j]? = some (some (SV.own o)) → ∀ a ∈ pdA r v, α j ≠ a) (e : bindT io (.nm i) r env = some env') :
    ∃ α', EnvR K O α' env' (σ.set i (some v)) H ∧ (∀ j, j ≠ i → α' j = α j) ∧ ∀ (j : Nat) (o : Ob), env'[j]? = some (some (SV.own o)) → (∃ o', env[j]? = some (some (SV.own o')) ∧ α' j = α j) ∨ α' j ∈ pdA r v := by
  cases r with
  | val d =>
    rw [bindT] at e
    split at e
    · rename_i hc
      cases e
      refine ⟨α, E.setVal hc.1 h, fun _ _ => rfl, fun j o hj => ?_⟩
      by_cases q : j = i
      · subst q
        rw [List.getElem?_set_self hc.1] at hj
        cases hj
      · rw [List.getElem?_set_ne (Ne.symm q)] at hj
        exact .inl ⟨o, hj, rfl⟩
    · cases e
  | fr o =>
    rw [bindT] at e
    split at e
    · rename_i hc
      cases e
      obtain ⟨a, rfl, h1, h2⟩ := h
      refine ⟨updα α i a, E.setOwn h1 hc.1 h2 fun j o hj => hn j o hj a List.mem_cons_self, fun j hj => if_neg hj, fun j o' hj => ?_⟩
      by_cases q : j = i
      · subst q
        right
        unfold updα
        rw [if_pos rfl]
        exact List.mem_cons_self
      · rw [List.getElem?_set_ne (Ne.symm q)] at hj
        exact .inl ⟨o', hj, if_neg q⟩
    · cases e
  | bo _ _ => exact h.elim
theorem evs_cons {e : E} {es : Es} {env : En} {rs : List RV} {env' : En} (h : evs C (.cons e es) env = some (rs, env')) : ∃ r env1 rs', ev C e env = some (r, env1) ∧ evs C es env1 = some (rs', env') ∧ ∃ r', refr r env' = some r' ∧ rs = r' :: rs' := by
  rw [evs] at h
  obtain ⟨⟨r, env1⟩, h1, h⟩ := Option.bind_eq_some_iff.mp h
  obtain ⟨⟨rs', env2⟩, h2, h⟩ := Option.bind_eq_some_iff.mp h
  obtain ⟨r', h3, h⟩ := Option.map_eq_some_iff.mp h
  cases h
  exact ⟨r, env1, rs', h1, h2, r', h3, rfl⟩
theorem evs_nil {env : En} {rs : List RV} {env' : En} (h : evs C .nil env = some (rs, env')) : rs = [] ∧ env' = env := by
  rw [evs] at h
  cases h
  exact ⟨rfl, rfl⟩
theorem refr_nb {r r' : RV} {env : En} (h : refr r env = some r') (hb : ∀ (i : Nat) (o : Ob), r' ≠ .bo i o) : r = r' := by
  cases r with
  | val d => cases h; rfl
  | fr d => cases h; rfl
  | bo i o =>
    unfold refr at h
    simp only at h
    split at h
    · cases h; exact absurd rfl (hb _ _)
    · cases h
theorem pdA_keep {K : PySem.W.Frag} {O : List Addr} {α : Nat → Addr} {env env' : En} {σ : L2.St} {H H' : Hp} {r : RV} {v : V} (P : Po K O α env σ H env' H') (h : Pd K O H r v) (hn : ∀ (j : Nat) (o : Ob), env[j]? = some (some (SV.own o)) → ∀ a ∈ pdA r v, α j ≠ a) : ∀ a ∈ pdA r v, ∀ u, H a = some u → H' a = some u := by
  intro a ha u hu
  cases r with
  | val d => cases v <;> simp [pdA] at ha
  | fr o =>
    obtain ⟨b, rfl, h1, h2⟩ := h
    have : a = b := by simpa [pdA] using ha
    subst this
    exact P.fr a h1 (fun j o hj => hn j o hj a ha) u hu
  | bo _ _ => exact h.elim
theorem par2_run {i j : Nat} {a b : E} (hij : i ≠ j) {D : Ends} {σ : L2.St} {H : Hp} (q : tS X.K C N io (.par [i, j] (.cons a (.cons b .nil))) D σ H) : tPar i j (tCons (tE X.K C a) (tCons (tE X.K C b) tNil)) D σ H := by
  obtain ⟨O, α, env, f, E, h, k⟩ := q
  rw [ex] at h
  obtain ⟨⟨rs, env3⟩, h1, h⟩ := Option.bind_eq_some_iff.mp h
  obtain ⟨u0, hnb, h⟩ := Option.bind_eq_some_iff.mp h
  obtain ⟨env4, h2, h⟩ := Option.map_eq_some_iff.mp h
  subst h
  have hnb := gd_some hnb
  obtain ⟨ra, env1, rs1, ea, h11, ra', fa, rfl⟩ := evs_cons h1
  obtain ⟨rb, env2, rs2, eb, h12, rb', fb, rfl⟩ := evs_cons h11
  obtain ⟨rfl, rfl⟩ := evs_nil h12
  have na : ∀ (i : Nat) (o : Ob), ra' ≠ .bo i o := hnb ra' List.mem_cons_self
  have nb : ∀ (i : Nat) (o : Ob), rb' ≠ .bo i o := hnb rb' (List.mem_cons_of_mem _ List.mem_cons_self)
  have e1 := refr_nb fa na
  have e2 := refr_nb fb nb
  subst e1 e2
  simp only [bindP] at h2
  obtain ⟨env4', b1, h2⟩ := Option.bind_eq_some_iff.mp h2
  obtain ⟨env5, b2, h2⟩ := Option.bind_eq_some_iff.mp h2
  cases h2
  refine ⟨O, α, env, ra, env1, E, ea, fun v H1 P1 q1 n1 => ?_⟩
  obtain ⟨O1, E1, d1, s1, w1, f1, x1⟩ := Pd.next E P1 q1 n1 na
  refine ⟨O1, α, env1, rb, _, E1, eb, fun w H2 P2 q2 n2 => ⟨v, w, rfl, ?_⟩⟩
  obtain ⟨O2, E2, d2, s2, w2, f2, x2⟩ := Pd.next E1 P2 q2 n2 nb
  have own0 : ∀ {envc : En}, Ow env envc → ∀ (j : Nat) (o : Ob), envc[j]? = some (some (SV.own o)) → α j ∈ O := fun ow j o hj => let ⟨o', h'⟩ := ow j o hj; (E.own j o' h').2.1
  have ow2 : Ow env _ := P1.ow.trans P2.ow
  have nf1 : ∀ {envc : En}, Ow env envc → ∀ (j : Nat) (o : Ob), envc[j]? = some (some (SV.own o)) → ∀ a ∈ pdA ra v, α j ≠ a := fun ow j o hj a ha e => E.trk _ (own0 ow j o hj) (by rw [e]; exact f1 a ha)
  have nf2 : ∀ {envc : En}, Ow env envc → ∀ (j : Nat) (o : Ob), envc[j]? = some (some (SV.own o)) → ∀ a ∈ pdA rb w, α j ≠ a := fun ow j o hj a ha e => E.trk _ (own0 ow j o hj) (x1.none (by rw [e]; exact f2 a ha))
  have d1' : Pd X.K O2 H2 ra v := d1.mono x2.fz s2 (pdA_keep P2 d1 (nf1 P1.ow))
  obtain ⟨α1, g1, l1, m1⟩ := Pd.store E2 d1' (nf1 ow2) b1
  obtain ⟨α2, g2, l2, m2⟩ := Pd.store g1 d2 (fun j o hj a ha => by
    rcases m1 j o hj with ⟨o', z1, z2⟩ | z
    · rw [z2]; exact nf2 ow2 j o' z1 a ha
    · intro e
      rw [e] at z
      -- a is both: b's object is newer
      have y1 := f2 a ha
      cases ra with
      | val d => cases v <;> simp [pdA] at z
      | fr o =>
        obtain ⟨p, rfl, p1, p2⟩ := d1
        have : a = p := by simpa [pdA] using z
        subst this
        exact p2.there y1
      | bo _ _ => exact d1.elim) b2
  refine k O2 α2 _ H2 ⟨g2, x1.trans x2, fun c hc hn => ?_, fun l hl => ?_⟩
  · by_cases z : c ∈ O1
    · exact w1 c z hn
    · exact x1.none (w2 c hc z)
  · have hl : l ∉ [i, j] := hl
    simp only [List.mem_cons, List.not_mem_nil, or_false, not_or] at hl
    rw [l2 l hl.2, l1 l hl.1]
theorem pd_apart {O : List Addr} {H H' : Hp} {K : PySem.W.Frag} {r : RV} {v : V} (d : Pd K O H r v) (h : ∀ a ∈ O, H a ≠ none) : ∀ a ∈ pdA r v, H a ≠ none := by
  intro a ha
  cases r with
  | val d => cases v <;> simp [pdA] at ha
  | fr o =>
    obtain ⟨p, rfl, p1, p2⟩ := d
    have : a = p := by simpa [pdA] using ha
    subst this
    exact p2.there
  | bo _ _ => exact d.elim
theorem par3_run {i j l : Nat} {a b c : E} (hij : i ≠ j) {D : Ends} {σ : L2.St} {H : Hp} (q : tS X.K C N io (.par [i, j, l] (.cons a (.cons b (.cons c .nil)))) D σ H) : tPar3 i j l (tCons (tE X.K C a) (tCons (tE X.K C b) (tCons (tE X.K C c) tNil))) D σ H := by
  obtain ⟨O, α, env, f, E, h, k⟩ := q
  rw [ex] at h
  obtain ⟨⟨rs, env3⟩, h1, h⟩ := Option.bind_eq_some_iff.mp h
  obtain ⟨u0, hnb, h⟩ := Option.bind_eq_some_iff.mp h
  obtain ⟨env4, h2, h⟩ := Option.map_eq_some_iff.mp h
  subst h
  have hnb := gd_some hnb
  obtain ⟨ra, env1, rs1, ea, h11, ra', fa, rfl⟩ := evs_cons h1
  obtain ⟨rb, env2, rs2, eb, h12, rb', fb, rfl⟩ := evs_cons h11
  obtain ⟨rc, env3', rs3, ec, h13, rc', fc, rfl⟩ := evs_cons h12
  obtain ⟨rfl, rfl⟩ := evs_nil h13
  have na : ∀ (i : Nat) (o : Ob), ra' ≠ .bo i o := hnb ra' List.mem_cons_self
  have nb : ∀ (i : Nat) (o : Ob), rb' ≠ .bo i o := hnb rb' (List.mem_cons_of_mem _ List.mem_cons_self)
  have nc : ∀ (i : Nat) (o : Ob), rc' ≠ .bo i o := hnb rc' (List.mem_cons_of_mem _ (List.mem_cons_of_mem _ List.mem_cons_self))
  have e1 := refr_nb fa na
  have e2 := refr_nb fb nb
  have e3 := refr_nb fc nc
  subst e1 e2 e3
  simp only [bindP] at h2
  obtain ⟨env5, b1, h2⟩ := Option.bind_eq_some_iff.mp h2
  obtain ⟨env6, b2, h2⟩ := Option.bind_eq_some_iff.mp h2
  obtain ⟨env7, b3, h2⟩ := Option.bind_eq_some_iff.mp h2
  cases h2
  refine ⟨O, α, env, ra, env1, E, ea, fun v H1 P1 q1 n1 => ?_⟩
  obtain ⟨O1, E1, d1, s1, w1, f1, x1⟩ := Pd.next E P1 q1 n1 na
  refine ⟨O1, α, env1, rb, env2, E1, eb, fun w H2 P2 q2 n2 => ?_⟩
  obtain ⟨O2, E2, d2, s2, w2, f2, x2⟩ := Pd.next E1 P2 q2 n2 nb
  refine ⟨O2, α, env2, rc, _, E2, ec, fun z H3 P3 q3 n3 => ⟨v, w, z, rfl, ?_⟩⟩
  obtain ⟨O3, E3, d3, s3, w3, f3, x3⟩ := Pd.next E2 P3 q3 n3 nc
  have own0 : ∀ {envc : En}, Ow env envc → ∀ (j : Nat) (o : Ob), envc[j]? = some (some (SV.own o)) → H (α j) ≠ none := fun ow j o hj => let ⟨o', h'⟩ := ow j o hj; E.trk _ (E.own j o' h').2.1
  have ow2 : Ow env env2 := P1.ow.trans P2.ow
  have ow3 : Ow env _ := ow2.trans P3.ow
  have x12 := x1.trans x2
  have nf1 : ∀ {envc : En}, Ow env envc → ∀ (j : Nat) (o : Ob), envc[j]? = some (some (SV.own o)) → ∀ a ∈ pdA ra v, α j ≠ a := fun ow j o hj a ha e => own0 ow j o hj (by rw [e]; exact f1 a ha)
  have nf2 : ∀ {envc : En}, Ow env envc → ∀ (j : Nat) (o : Ob), envc[j]? = some (some (SV.own o)) → ∀ a ∈ pdA rb w, α j ≠ a := fun ow j o hj a ha e => own0 ow j o hj (x1.none (by rw [e]; exact f2 a ha))
  have nf3 : ∀ {envc : En}, Ow env envc → ∀ (j : Nat) (o : Ob), envc[j]? = some (some (SV.own o)) → ∀ a ∈ pdA rc z, α j ≠ a := fun ow j o hj a ha e => own0 ow j o hj (x12.none (by rw [e]; exact f3 a ha))
  have d1' : Pd X.K O2 H2 ra v := d1.mono x2.fz s2 (pdA_keep P2 d1 (nf1 P1.ow))
  have d1'' : Pd X.K O3 H3 ra v := d1'.mono x3.fz s3 (pdA_keep P3 d1' (nf1 ow2))
  have d2' : Pd X.K O3 H3 rb w := d2.mono x3.fz s3 (pdA_keep P3 d2 (nf2 ow2))
  have t1 := pd_apart (H' := H1) d1 E1.trk
  have t1' := pd_apart (H' := H1) d1' E2.trk
  have t2 := pd_apart (H' := H1) d2 E2.trk
  obtain ⟨α1, g1, l1, m1⟩ := Pd.store E3 d1'' (nf1 ow3) b1
  obtain ⟨α2, g2, l2, m2⟩ := Pd.store g1 d2' (fun j o hj a ha => by
    rcases m1 j o hj with ⟨o', z1, z2⟩ | z
    · rw [z2]; exact nf2 ow3 j o' z1 a ha
    · intro e
      rw [e] at z
      exact t1 a z (f2 a ha)) b2
  obtain ⟨α3, g3, l3, m3⟩ := Pd.store g2 d3 (fun j o hj a ha => by
    rcases m2 j o hj with ⟨o', z1, z2⟩ | z
    · rw [z2]
      rcases m1 j o' z1 with ⟨o'', y1, y2⟩ | y
      · rw [y2]; exact nf3 ow3 j o'' y1 a ha
      · intro e
        rw [e] at y
        exact t1' a y (f3 a ha)
    · intro e
      rw [e] at z
      exact t2 a z (f3 a ha)) b3
  refine k O3 α3 _ H3 ⟨g3, x12.trans x3, fun c hc hn => ?_, fun l' hl => ?_⟩
  · by_cases z : c ∈ O2
    · by_cases z' : c ∈ O1
      · exact w1 c z' hn
      · exact x1.none (w2 c z z')
    · exact x12.none (w3 c hc z)
  · have hl : l' ∉ [i, j, l] := hl
    simp only [List.mem_cons, List.not_mem_nil, or_false, not_or] at hl
    rw [l3 l' hl.2.2, l2 l' hl.2.1, l1 l' hl.1]
end
end PL
set_option maxRecDepth 100000
set_option maxHeartbeats 4000000
/-! PL5e: statements set against the program's. -/
namespace PL
open PySem PySem.Spec PyProof.Rows L2
def isLoc (sc : Scope) (x : Str) : Bool := match sc.names.lookup x with
  | some .local => true
  | _ => false
def isCell (sc : Scope) (x : Str) : Bool := match sc.names.lookup x with
  | some .cell => true
  | _ => false
/-- how a store is made: 0 plainly, 1 within the comprehension's block -/
def asgKind (sc : Scope) (tg ex : Expr) : Option Bool := match tg with
  | .Name y py => match ex with
    | .ListComp _ _ scope p => if isLoc sc y && py.line == p.line && !(scope.names.any fun (n, k) => n == y && (k == .local || k == .cell)) then some true else if isCell sc y then some false else none
    | ex => if notComp ex then some false else none
  | .Tuple ts _ _ => match ex with
    | .Tuple vs _ _ => if (swNames sc ts).length != ts.length then some false else none
    | ex => if notTup ex then some false else none
  | _ => none
mutual
def chkS (g : Sx) : S → Stmt → Bool
  | .asg t e, st => match st with
    | .Assign [tg] ex _ => chkT g t tg && chkE g e ex && notStar tg && (asgKind g.sc tg ex).isSome
    | _ => false
  | .par is es, st => match st with
    | .Assign [.Tuple [.Name x px, .Name y py] _ _] (.Tuple [a, b] _ _) _ => match is, es with
      | [i, j], .cons ea (.cons eb .nil) => decide (g.N[i]? = some x) && decide (g.N[j]? = some y) && decide (i ≠ j) && decide (x ≠ y) && isLoc g.sc x && isLoc g.sc y && decide (py.line = px.line) && notStar a && notStar b && chkE g ea a && chkE g eb b &&
          !([a, b].all (foldedForSure 8)) && !([a, b].all (constantsAlone 8))
      | _, _ => false
    | .Assign [.Tuple [.Name x px, .Name y py, .Name z pz] _ _] (.Tuple [a, b, c] _ _) _ => match is, es with
      | [i, j, l], .cons ea (.cons eb (.cons ec .nil)) => decide (g.N[i]? = some x) && decide (g.N[j]? = some y) && decide (g.N[l]? = some z) && decide (i ≠ j) && decide (i ≠ l) && decide (j ≠ l) && decide (x ≠ y) && decide (x ≠ z) && decide (y ≠ z) && isLoc g.sc x && isLoc g.sc y && isLoc g.sc z && decide (py.line = px.line) && decide (pz.line = px.line) &&
          notStar a && notStar b && notStar c && chkE g ea a && chkE g eb b && chkE g ec c && !([a, b, c].all (foldedForSure 8)) && !([a, b, c].all (constantsAlone 8))
      | _, _ => false
    | _ => false
  | .set i k e, st => match st with
    | .Assign [.Subscript (.Name x _) ek _] ex _ => decide (g.N[i]? = some x) && isVis g.sc x && okN x && chkE g k ek && chkE g e ex && notSlice ek
    | _ => false
  | .exp e, st => match st with
    | .Expr ex _ => chkE g e ex && notComp ex
    | _ => false
  | .app i e, st => match st with
    | .Expr (.Call (.Attribute (.Name x _) nm apos) [y] [] cpos) _ => decide (g.N[i]? = some x) && isVis g.sc x && okN x && decide (nm = "append") && notStar y && (apos.endLine == cpos.line) && chkE g e y
    | _ => false
  | .ite c a b, st => match st with
    | .If ec sa sb _ => chkE g c ec && chkSs g a sa && chkSs g b sb
    | _ => false
  | .for t it b, st => match st with
    | .For tg i sb [] _ => chkT g t tg && chkI g it tg i && chkSs g b sb && noSet i
    | _ => false
  | .whl c b, st => match st with
    | .While ec sb [] _ => chkE g c ec && chkSs g b sb
    | _ => false
  | .ret e, st => match st with
    | .Return (some ex) _ => chkE g e ex
    | _ => false
  | .retN, st => match st with
    | .Return none _ => true
    | _ => false
  | .brk, st => match st with
    | .Break _ => true
    | _ => false
  | .cnt, st => match st with
    | .Continue _ => true
    | _ => false
  | .pas, st => match st with
    | .Pass _ => true
    | _ => false
  | .nev, _ => true
def chkSs (g : Sx) : Ss → List Stmt → Bool
  | .nil, sts => match sts with
    | [] => true
    | _ => false
  | .cons s ss, sts => match sts with
    | st :: sts => chkS g s st && chkSs g ss sts
    | _ => false
end
structure XS (g : Sx) (C : Cl) (X : Cx) : Prop where
  c : XC g C X
  kind : g.sc.kind = .function
  own : PassesOwn (model X.prog X.w) X.A X.env X.xe
section
variable {g : Sx} {C : Cl} {X : Cx}
theorem XC.loc (c : XC g C X) {x : Str} (h : isLoc g.sc x = true) : X.env.scope.names.lookup x = some .local := by
  rw [c.sc]
  unfold isLoc at h
  split at h
  · assumption
  · cases h
theorem XC.cell (c : XC g C X) {x : Str} (h : isCell g.sc x = true) : X.env.scope.names.lookup x = some .cell := by
  rw [c.sc]
  unfold isCell at h
  split at h
  · assumption
  · cases h
theorem XS.k (c : XS g C X) : X.env.scope.kind = .function := by rw [c.c.sc]; exact c.kind
theorem asg_ok {N : Nat} {io : List Nat} {t : Tg} {e : E} {tg ex : Expr} {pos : Pos} (c : XS g C X) (h1 : chkT g t tg = true) (h2 : chkE g e ex = true) (h3 : notStar tg = true) (h4 : (asgKind g.sc tg ex).isSome = true) : PS X (.Assign [tg] ex pos) (tS X.K C N io (.asg t e)) := by
  have he := (E_ok e g X ex c.c h2).pe
  have hg : PG X tg (tGa X.K io t) := Ga_ok t g tg c.c h1
  have sw0 : ∀ {q : Sem Bool}, swapsWith ex (some tg) pos.line X.env = q → swapsWithSole [tg] ex pos.line X.env = q := fun h => h
  unfold asgKind at h4
  split at h4
  · rename_i y py
    split at h4
    · rename_i eelt gs scope lpos
      split at h4
      · rename_i hk
        simp only [Bool.and_eq_true, Bool.not_eq_true'] at hk
        obtain ⟨⟨k1, k2⟩, k3⟩ := hk
        cases t with
        | tp ts => simp [chkT] at h1
        | nm i =>
          unfold chkT at h1
          simp only [Bool.and_eq_true, decide_eq_true_eq] at h1
          cases e with
          | comp elt tg it cs own =>
            unfold chkE at h2
            split at h2
            · rename_i heq
              cases heq
              simp only [Bool.and_eq_true, decide_eq_true_eq] at h2
              obtain ⟨⟨⟨⟨⟨⟨⟨z1, z2⟩, z3⟩, z4⟩, z5⟩, z6⟩, z7⟩, z8⟩ := h2
              subst z1
              refine lc_s c.c.calm c.c.nd (by rw [c.c.N]; exact h1.1) (c.c.loc k1) (sw_true c.k (c.c.loc k1) k2 k3) (fun i hi => ?_) (by rw [c.c.N, c.c.sc]; exact blkOk_by z3) (I_ok it g X _ _ c.c z2) (fun s H Cl cl fp => T_ok tg _ _ _ (c.c.blk s H _ Cl cl fp) z6) (fun s H Cl cl fp => C_ok cs _ _ _ (c.c.blk s H _ Cl cl fp) z7)
                (fun s H Cl cl fp => (E_ok elt _ _ _ (c.c.blk s H _ Cl cl fp) z8).pe) (noSet_fold z5)
              have := List.all_eq_true.mp z4 i hi
              exact of_decide_eq_true this
            · cases h2
          | _ => simp [chkE] at h2
      · split at h4
        · rename_i hk
          exact asg_s he hg h3 (sw0 (sw_cell (c.c.cell hk))) st_name
        · cases h4
    · split at h4
      · rename_i hk
        exact asg_s he hg h3 (sw0 (sw_no hk)) st_name
      · cases h4
  · split at h4
    · split at h4
      · rename_i hk
        exact asg_s he hg h3 (sw0 sw_tup) (swap_none (by rw [c.c.sc]; exact hk))
      · cases h4
    · split at h4
      · rename_i hk
        exact asg_s he hg h3 (sw0 sw_tup) (st_no hk)
      · cases h4
  · cases h4
end
mutual
theorem S_ok {C : Cl} {N : Nat} {io : List Nat} : ∀ (t : S) (g : Sx) (X : Cx) (st : Stmt), XS g C X → chkS g t st = true → PS X st (tS X.K C N io t)
  | .asg t e, g, X, st, c, h => by
    unfold chkS at h
    split at h
    · simp only [Bool.and_eq_true] at h
      obtain ⟨⟨⟨h1, h2⟩, h3⟩, h4⟩ := h
      exact asg_ok c h1 h2 h3 h4
    · cases h
  | .par is es, g, X, st, c, h => by
    unfold chkS at h
    split at h
    · split at h
      · simp only [Bool.and_eq_true, decide_eq_true_eq, Bool.not_eq_true'] at h
        obtain ⟨⟨⟨⟨⟨⟨⟨⟨⟨⟨⟨⟨h1, h2⟩, h3⟩, h4⟩, h5⟩, h6⟩, h7⟩, h8⟩, h9⟩, h10⟩, h11⟩, h12⟩, h13⟩ := h
        have hx := c.c.loc h5
        have hy := c.c.loc h6
        exact PS.weak (ps_par c.c.calm c.c.nd (by rw [c.c.N]; exact h1) (by rw [c.c.N]; exact h2) h3 hx hy (pa_cons (E_ok _ g X _ c.c h10).pe (pa_cons (E_ok _ g X _ c.c h11).pe pa_nil (star_cons h9)) (star_cons h8))
          (swap_2 c.k hx hy h7 h4 h8 h9 h12 h13)) fun D σ H q => par2_run h3 q
      · cases h
    · split at h
      · simp only [Bool.and_eq_true, decide_eq_true_eq, Bool.not_eq_true'] at h
        obtain ⟨⟨⟨⟨⟨⟨⟨⟨⟨⟨⟨⟨⟨⟨⟨⟨⟨⟨⟨⟨⟨h1, h2⟩, h3⟩, h4⟩, h5⟩, h6⟩, h7⟩, h8⟩, h9⟩, h10⟩, h11⟩, h12⟩, h13⟩, h14⟩, h15⟩, h16⟩, h17⟩, h18⟩, h19⟩, h20⟩, h21⟩, h22⟩ := h
        have hx := c.c.loc h10
        have hy := c.c.loc h11
        have hz := c.c.loc h12
        exact PS.weak (ps_par3 c.c.calm c.c.nd (by rw [c.c.N]; exact h1) (by rw [c.c.N]; exact h2) (by rw [c.c.N]; exact h3) h4 h5 h6 hx hy hz (pa_cons (E_ok _ g X _ c.c h18).pe (pa_cons (E_ok _ g X _ c.c h19).pe (pa_cons (E_ok _ g X _ c.c h20).pe pa_nil (star_cons h17)) (star_cons h16)) (star_cons h15))
          (swap_3 c.k hx hy hz h13 h14 h7 h8 h9 h15 h16 h17 h21 h22)) fun D σ H q => par3_run h4 q
      · cases h
    · cases h
  | .set i k e, g, X, st, c, h => by
    unfold chkS at h
    split at h
    · simp only [Bool.and_eq_true, decide_eq_true_eq] at h
      obtain ⟨⟨⟨⟨⟨h1, h2⟩, h3⟩, h4⟩, h5⟩, h6⟩ := h
      exact set_s c.c.un (by rw [c.c.N]; exact h1) (c.c.vis h2) (okN_1 h3).1 (okN_1 h3).2 (E_ok k g X _ c.c h4).pe (E_ok e g X _ c.c h5).pe h6
    · cases h
  | .exp e, g, X, st, c, h => by
    unfold chkS at h
    split at h
    · simp only [Bool.and_eq_true] at h
      exact exp_s (E_ok e g X _ c.c h.1).pe (sw_no h.2)
    · cases h
  | .app i e, g, X, st, c, h => by
    unfold chkS at h
    split at h
    · simp only [Bool.and_eq_true, decide_eq_true_eq] at h
      obtain ⟨⟨⟨⟨⟨⟨h1, h2⟩, h3⟩, h4⟩, h5⟩, h6⟩, h7⟩ := h
      subst h4
      exact app_s (by rw [c.c.N]; exact h1) (c.c.vis h2) (okN_1 h3).1 (okN_1 h3).2 (E_ok e g X _ c.c h7).pe h5 h6
    · cases h
  | .ite c' a b, g, X, st, c, h => by
    unfold chkS at h
    split at h
    · simp only [Bool.and_eq_true] at h
      exact ite_s (E_ok c' g X _ c.c h.1.1).pt (Ss_ok a g X _ c h.1.2) (Ss_ok b g X _ c h.2)
    · cases h
  | .for t it b, g, X, st, c, h => by
    unfold chkS at h
    split at h
    · simp only [Bool.and_eq_true] at h
      obtain ⟨⟨⟨h1, h2⟩, h3⟩, h4⟩ := h
      exact for_s c.own c.c.calm (I_ok it g X _ _ c.c h2) (T_ok t g X _ c.c h1) (Ss_ok b g X _ c h3) (noSet_fold h4)
    · cases h
  | .whl c' b, g, X, st, c, h => by
    unfold chkS at h
    split at h
    · simp only [Bool.and_eq_true] at h
      exact whl_s c.own (E_ok c' g X _ c.c h.1).pt (Ss_ok b g X _ c h.2)
    · cases h
  | .ret e, g, X, st, c, h => by
    unfold chkS at h
    split at h
    · exact ret_s (E_ok e g X _ c.c h).pe
    · cases h
  | .retN, g, X, st, c, h => by
    unfold chkS at h
    split at h
    · exact retN_s
    · cases h
  | .brk, g, X, st, c, h => by
    unfold chkS at h
    split at h
    · exact brk_s
    · cases h
  | .cnt, g, X, st, c, h => by
    unfold chkS at h
    split at h
    · exact cnt_s
    · cases h
  | .pas, g, X, st, c, h => by
    unfold chkS at h
    split at h
    · exact pas_s
    · cases h
  | .nev, g, X, st, c, h => nev_s
theorem Ss_ok {C : Cl} {N : Nat} {io : List Nat} : ∀ (t : Ss) (g : Sx) (X : Cx) (st : List Stmt), XS g C X → chkSs g t st = true → PSs X st (tSs X.K C N io t)
  | .nil, g, X, st, c, h => by
    unfold chkSs at h
    split at h
    · exact nil_ss
    · cases h
  | .cons s ss, g, X, st, c, h => by
    unfold chkSs at h
    split at h
    · simp only [Bool.and_eq_true] at h
      exact cons_ss (S_ok s g X _ c h.1) (Ss_ok ss g X _ c h.2)
    · cases h
end
end PL
set_option maxRecDepth 100000
set_option maxHeartbeats 4000000
/-! PL6: every def of a table keeps its promise. -/
namespace PL
open PySem PySem.Spec PyProof.Rows L2
structure Rec where
  name : Str
  st : Stmt
  fn : Fn
  N : List Str
def Rec.ps (r : Rec) : List Str := r.N.take r.fn.pars
def sxOf (names : List Str) (cs : List (Str × Da)) (r : Rec) : Sx := ⟨r.N, defScope r.st, defScope r.st, names, cs⟩
def scopeC (N P : List Str) (sc : Scope) : Bool := (match sc.kind with | .function => true | _ => false) && !sc.isCoroutine && !sc.isGenerator && decide N.Nodup && decide (N.take P.length = P) &&
  (P.all fun x => match sc.names.lookup x with | some .local => true | some .cell => true | _ => false) && (sc.names.all fun y => match y.2 with | .free => false | _ => true)
theorem scope_of {N P : List Str} {sc : Scope} (h : scopeC N P sc = true) : FnScope N P sc := by
  unfold scopeC at h
  simp only [Bool.and_eq_true, Bool.not_eq_true', decide_eq_true_eq, List.all_eq_true] at h
  obtain ⟨⟨⟨⟨⟨⟨h1, h2⟩, h3⟩, h4⟩, h5⟩, h6⟩, h7⟩ := h
  refine ⟨?_, h2, h3, h4, h5, fun x hx => ?_, fun y hy e => ?_⟩
  · split at h1
    · assumption
    · cases h1
  · have := h6 x hx
    split at this
    · exact .inl (by assumption)
    · exact .inr (by assumption)
    · cases this
  · have := h7 y hy
    rw [e] at this
    cases this
def chkR (names : List Str) (cs : List (Str × Da)) (r : Rec) : Bool := chkSs (sxOf names cs r) r.fn.body (defBody r.st) && scopeC r.N r.ps (defScope r.st) && decide (r.N.length = r.fn.slots) && decide (r.fn.pars ≤ r.fn.slots) && (r.fn.io.all fun i => decide (i ∉ asgSs r.fn.body))
/-- the parameters are bound as they stand -/
def BindR (r : Rec) : Prop := ∀ (kV doc pm : Value) (an : Option Addr) (cdv ct : Value) (us : List Value), us.length = r.ps.length → bindArgs (PySem.W.fnOf r.name r.name (defArgs r.st) (defBody r.st) (defScope r.st) .none kV doc pm an cdv ct) ⟨us, []⟩ = pure (r.ps.zip us)
theorem EnvR.app {K : PySem.W.Frag} {O : List Addr} {α : Nat → Addr} {svs : List SV} {vs : List V} {H : Hp} (n : Nat) (E : EnvR K O α (svs.map some) (vs.map some) H) : EnvR K O α (svs.map some ++ List.replicate n none) (vs.map some ++ List.replicate n none) H := by
  have hl := E.len
  have g : ∀ {i : Nat} {w : SV}, (svs.map some ++ List.replicate n (none : Option SV))[i]? = some (some w) → (svs.map some)[i]? = some (some w) := fun {i w} h => by
    rcases Nat.lt_or_ge i (svs.map some).length with z | z
    · rw [List.getElem?_append_left z] at h
      exact h
    · rw [List.getElem?_append_right z, List.getElem?_replicate] at h
      split at h <;> cases h
  have g2 : ∀ {i : Nat} {w : V}, (vs.map some)[i]? = some (some w) → (vs.map some ++ List.replicate n (none : Option V))[i]? = some (some w) := fun {i w} h => by
    rcases Nat.lt_or_ge i (vs.map some).length with z | z
    · rw [List.getElem?_append_left z]
      exact h
    · rw [List.getElem?_eq_none z] at h
      cases h
  refine ⟨by rw [List.length_append, List.length_append, hl, List.length_replicate, List.length_replicate], fun i d h => ?_, fun i o h => ?_, fun i j o o' h h' => E.inj i j o o' (g h) (g h'), E.trm⟩
  · obtain ⟨v, h1, h2⟩ := E.val i d (g h)
    exact ⟨v, g2 h1, h2⟩
  · obtain ⟨h1, h2, h3⟩ := E.own i o (g h)
    exact ⟨g2 h1, h2, h3⟩
theorem fz_sub {O O' : List Addr} {H : Hp} (h : ∀ a ∈ O, a ∈ O') : Same (Fz O' H) (Fz O H) := fun a o q => by
  obtain ⟨h1, h2⟩ := Fz.of q
  rw [Fz.at fun z => h1 (h a z)]
  exact h2
section
variable {K : PySem.W.Frag}
/-- a body's end is the def's -/
theorem fn_end {F : List Fn} {N k f : Nat} {fn : Fn} (hf : F[f]? = some fn) (hio : ∀ i ∈ fn.io, i ∉ asgSs fn.body) {vs : List V} {H : Hp} {Q : VK} {E : XK} (h : spF K (run F N (k + 1)) f vs H Q E) :
    vs.length = fn.pars ∧ fn.pars ≤ fn.slots ∧ ∀ n, n = fn.slots → tSs K (run F N k) N fn.io fn.body { nx := fun _ H' => Q .non H', rt := Q } (vs.map some ++ List.replicate (n - vs.length) none) H := by
  obtain ⟨O, α, svs, r, outs, E0, hO, hr, hret, kk⟩ := h
  rw [run, hf] at hr
  simp only at hr
  obtain ⟨u, hg, hr⟩ := Option.bind_eq_some_iff.mp hr
  obtain ⟨g1, g2, g3⟩ := gd_some hg
  obtain ⟨f1, hx, hfin⟩ := Option.bind_eq_some_iff.mp hr
  have hl : vs.length = fn.pars := by
    have := E0.len
    rw [List.length_map, List.length_map] at this
    omega
  refine ⟨hl, g2, fun n hn => ?_⟩
  subst hn
  have e1 : fn.slots - vs.length = fn.slots - fn.pars := by rw [hl]
  rw [e1]
  refine ⟨O, α, _, f1, E0.app (fn.slots - fn.pars), hx, ?_⟩
  have fin : ∀ {e : En} {O' : List Addr} {α' : Nat → Addr} {σ' : L2.St} {H' : Hp}, Ps K O α H (asgSs fn.body) O' α' e σ' H' → ∀ (j : Nat) (o : Ob), (e.take fn.pars)[j]? = some (some (SV.own o)) → ownAt svs j = true → ObR K (Fz O H') H' (α j) o := fun {e O' α' σ' H'} p j o hj ho => by
    have hj' : e[j]? = some (some (SV.own o)) := by
      rw [List.getElem?_take] at hj
      split at hj
      · exact hj
      · cases hj
    obtain ⟨h1, h2, h3⟩ := p.E.own j o hj'
    rw [p.al j (hio j ((g3 j).mp ho))] at h3
    exact h3.mono (fz_sub p.x.sub) fun _ z => z
  cases f1 with
  | nx e =>
    unfold finish at hfin
    cases hfin
    exact fun O' α' σ' H' p => kk .non H' p.x.back (fin p) .non
  | bk e => cases hfin
  | ct e => cases hfin
  | rt r0 e =>
    unfold finish at hfin
    obtain ⟨u2, hown, hfin⟩ := Option.bind_eq_some_iff.mp hfin
    have hown := gd_some hown
    obtain ⟨r1, hv, hfin⟩ := Option.map_eq_some_iff.mp hfin
    cases hfin
    intro O' α' σ' H' v p q
    refine kk v H' p.x.back (fin p) ?_
    cases r0 with
    | val d =>
      cases hv
      exact Dq.mono (fz_sub p.x.sub) q
    | fr o =>
      cases hv
      obtain ⟨a, a1, a2, a3⟩ := q
      refine ⟨a, a1, a2, a3.mono (fz_sub fun b hb => ?_) fun _ z => z⟩
      rcases List.mem_cons.mp hb with z | z
      · rw [z]; exact List.mem_cons_self
      · exact List.mem_cons_of_mem _ (p.x.sub b z)
    | bo i o =>
      unfold retV at hv
      simp only at hv
      split at hv
      · cases hv
      · rename_i hi
        cases hv
        obtain ⟨q1, q2⟩ := q
        obtain ⟨w1, w2, w3⟩ := p.E.own i o q2
        have nO : α' i ∉ O := fun z => by
          obtain ⟨j, j1, j2⟩ := hO _ z
          have jio := (g3 j).mp j1
          obtain ⟨o', ho'⟩ := hown j jio
          have ea : α' j = α' i := by rw [p.al j (hio j jio)]; exact j2
          have := p.E.inj j i _ _ ho' q2 ea
          exact hi (this ▸ jio)
        refine ⟨α' i, q1, p.new _ w2 nO, w3.mono (fz_sub fun b hb => ?_) fun _ z => z⟩
        rcases List.mem_cons.mp hb with z | z
        · rw [z]; exact w2
        · exact p.x.sub b z
end
theorem all_ok {P : Program} {w : World} {K : PySem.W.Frag} {mg : Str → Option Value} {base : Heap} {tab : List Rec} {cs : List (Str × Da)} {N : Nat}
    (hc : ∀ r ∈ tab, chkR (tab.map (·.name)) cs r = true) (hb : ∀ r ∈ tab, BindR r)
    (FD : ∀ r ∈ tab, ∃ a fd, FunD K r.name r.name (defArgs r.st) (defBody r.st) (defScope r.st) [] [] a fd ∧ mg r.name = some (.ref a))
    (blt : ∀ x ∈ bltNames, mg x = none) (hcs : ∀ x d, cs.lookup x = some d → ∃ u v, mg x = some u ∧ RelV v u ∧ ∀ G, Dq K G v d) :
    ∀ (k f : Nat) (r : Rec), tab[f]? = some r → ∀ (a : Addr) (fd : FuncData), FunD K r.name r.name (defArgs r.st) (defBody r.st) (defScope r.st) [] [] a fd → FnG P w K mg base CX0 k a fd r.ps (spF K (run (tab.map (·.fn)) N k) f)
  | 0, f, r, hr, a, fd, F => by
    have no : ∀ (vs : List V) (H : Hp) (Q : VK) (E : XK), ¬ spF K (run (tab.map (·.fn)) N 0) f vs H Q E := fun vs H Q E h => by
      obtain ⟨O, α, svs, r', outs, E0, hO, h, _⟩ := h
      exact nomatch h
    exact ⟨fun vs H Q E h => (no vs H Q E h).elim, fun A _ _ outer s H args us vs Q E _ _ _ h => (no vs H Q E h).elim⟩
  | k + 1, f, r, hr, a, fd, F => by
    have hm := List.mem_of_getElem? hr
    have h := hc r hm
    unfold chkR at h
    simp only [Bool.and_eq_true, decide_eq_true_eq, List.all_eq_true] at h
    obtain ⟨⟨⟨⟨h1, h2⟩, h3⟩, h4⟩, h5⟩ := h
    have S := scope_of h2
    have hf : (tab.map (·.fn))[f]? = some r.fn := by rw [List.getElem?_map, hr] <;> rfl
    have hps : r.ps.length = r.fn.pars := by
      unfold Rec.ps
      rw [List.length_take]
      omega
    refine okG F S (fun vs H Q E h => by rw [hps]; exact (fn_end hf h5 h).1) (fun cdv A hroom gs outer s H vs Q E h => ?_)
    obtain ⟨e1, e2, e3⟩ := fn_end hf h5 h
    refine ⟨tSs K (run (tab.map (·.fn)) N k) N r.fn.io r.fn.body, PSs.nox ?_, ?_⟩
    · refine Ss_ok r.fn.body (sxOf (tab.map (·.name)) cs r) _ _ ⟨⟨rfl, S.nd, rfl, rfl, ?_, gs, blt, fun f' x hx => ?_, hcs, fun x h => h, fun x h => ⟨h, rfl⟩⟩, S.kind, PassesOwn.never⟩ h1
      · have := (hroom (envOfC r.name (defScope r.st) s.heap.objs.size a cdv)).un
        show (A.deeper _).units + 68 < cLine
        omega
      · have hx : (tab.map (·.name))[f']? = some x := hx
        rw [List.getElem?_map] at hx
        obtain ⟨r', hr', ex⟩ := Option.map_eq_some_iff.mp hx
        subst ex
        obtain ⟨a', fd', F', m'⟩ := FD r' (List.mem_of_getElem? hr')
        exact ⟨CX0, k, a', fd', r'.ps, E0, all_ok hc hb FD blt hcs k f' r' hr' a' fd' F', hroom _, m', F'.kp, F'.bindsN (hb r' (List.mem_of_getElem? hr')), fun _ _ _ _ _ _ z => z⟩
    · exact e3 r.N.length h3
end PL
set_option maxRecDepth 100000
set_option maxHeartbeats 4000000
/-! PQ1: how the meaning of terms is reckoned (no program's model in sight). -/
namespace PL
open PySem
def isOwn : SV → Bool
  | .own _ => true
  | _ => false
def ownOk (io : List Nat) : Nat → List SV → Bool
  | _, [] => true
  | i, sv :: svs => (isOwn sv == decide (i ∈ io)) && ownOk io (i + 1) svs
theorem ownOk_at {io : List Nat} : ∀ {svs : List SV} {n : Nat}, ownOk io n svs = true → ∀ i, i < svs.length → (ownAt svs i = true ↔ n + i ∈ io)
  | [], _, _, i, h => absurd h (Nat.not_lt_zero _)
  | sv :: svs, n, h, i, hi => by
    unfold ownOk at h
    rw [Bool.and_eq_true] at h
    obtain ⟨h1, h2⟩ := h
    cases i with
    | zero =>
      have h1 := eq_of_beq h1
      unfold ownAt
      cases sv with
      | val d =>
        simp only [isOwn] at h1
        simp
        exact of_decide_eq_false h1.symm
      | own o =>
        simp only [isOwn] at h1
        simp
        exact of_decide_eq_true h1.symm
    | succ i =>
      have := ownOk_at h2 i (by simpa using hi)
      have e : ownAt (sv :: svs) (i + 1) = ownAt svs i := by unfold ownAt; simp
      rw [e, this, Nat.add_assoc, Nat.add_comm 1 i]
theorem run_of {F : List Fn} {N k f : Nat} {svs : List SV} {fn : Fn} (hf : F[f]? = some fn) (h1 : svs.length = fn.pars) (h2 : fn.pars ≤ fn.slots) (h3 : ownOk fn.io 0 svs = true) (h4 : (fn.io.all fun i => decide (i < svs.length)) = true) :
    run F N (k + 1) f svs = (exs (run F N k) N fn.io fn.body (svs.map some ++ List.replicate (fn.slots - fn.pars) none)).bind (finish fn) := by
  rw [run, hf]
  simp only
  have own : ∀ i, ownAt svs i = true ↔ i ∈ fn.io := fun i => by
    rcases Nat.lt_or_ge i svs.length with z | z
    · have := ownOk_at h3 i z
      rw [Nat.zero_add] at this
      exact this
    · refine ⟨fun h => ?_, fun h => absurd (of_decide_eq_true (List.all_eq_true.mp h4 i h)) (Nat.not_lt.mpr z)⟩
      unfold ownAt at h
      rw [List.getElem?_eq_none z] at h
      cases h
  rw [gd_pos ⟨h1, h2, own⟩]
  rfl
/-! comprehensions -/
theorem compL_map {vs bs : List Nat} {turn : Da → En → Option (Option Da × En)} {env : En} {g : Da → Option Da} : ∀ {ds : List Da} {acc : List Da}, (∀ d ∈ ds, ∃ e, turn d env = some (g d, e) ∧ wipeD e vs = env) → acc.length + ds.length ≤ LIM → compL vs bs turn ds env env acc = some (acc ++ ds.filterMap g, env)
  | [], acc, _, _ => by rw [compL]; simp
  | d :: ds, acc, h, hl => by
    obtain ⟨e, h1, h2⟩ := h d List.mem_cons_self
    rw [List.length_cons] at hl
    rw [compL, h1]
    simp only [Option.bind_some, h2]
    rw [gd_pos (fun _ _ => trivial), gd_pos (show acc.length < LIM by omega)]
    simp only [Option.bind_some]
    cases hg : g d with
    | none =>
      have hz : acc.length + ds.length ≤ LIM := by omega
      simp only
      rw [compL_map (fun d hd => h d (List.mem_cons_of_mem _ hd)) hz, List.filterMap_cons, hg]
    | some y =>
      have hz : (acc ++ [y]).length + ds.length ≤ LIM := by rw [List.length_append, List.length_singleton]; omega
      simp only
      rw [compL_map (fun d hd => h d (List.mem_cons_of_mem _ hd)) hz, List.filterMap_cons, hg]
      simp
/-- each turn keeps the word Inv, and puts what Q says -/
theorem compL_inv {vs bs : List Nat} {turn : Da → En → Option (Option Da × En)} {env0 : En} (Inv : Nat → En → Prop) (Q : Da → Prop) : ∀ {ds : List Da} {i : Nat} {env : En} {acc : List Da}, Inv i env → acc.length + ds.length ≤ LIM →
    (∀ j e d, d ∈ ds → Inv j e → ∃ y e', turn d e = some (y, e') ∧ Inv (j + 1) (wipeD e' vs) ∧ (∀ l ∈ bs, (wipeD e' vs)[l]? = env0[l]?) ∧ ∀ z, y = some z → Q z) →
    ∃ out env', compL vs bs turn ds env0 env acc = some (acc ++ out, env') ∧ Inv (i + ds.length) env' ∧ (∀ y ∈ out, Q y) ∧ out.length ≤ ds.length
  | [], i, env, acc, hi, _, _ => ⟨[], env, by rw [compL, List.append_nil], hi, fun _ h => absurd h (by simp), Nat.le_refl _⟩
  | d :: ds, i, env, acc, hi, hl, h => by
    obtain ⟨y, e', h1, h2, h3, h4⟩ := h i env d List.mem_cons_self hi
    rw [List.length_cons] at hl
    have hlt : acc.length < LIM := by omega
    cases y with
    | none =>
      obtain ⟨out, env', g1, g2, g3, g4⟩ := compL_inv Inv Q (ds := ds) (acc := acc) h2 (by omega) fun j e d hd => h j e d (List.mem_cons_of_mem _ hd)
      refine ⟨out, env', ?_, ?_, g3, by rw [List.length_cons]; omega⟩
      · rw [compL, h1]
        simp only [Option.bind_some]
        rw [gd_pos h3, gd_pos hlt]
        exact g1
      · rw [List.length_cons, Nat.add_comm ds.length 1, ← Nat.add_assoc]
        exact g2
    | some y =>
      obtain ⟨out, env', g1, g2, g3, g4⟩ := compL_inv Inv Q (ds := ds) (acc := acc ++ [y]) h2 (by rw [List.length_append, List.length_singleton]; omega) fun j e d hd => h j e d (List.mem_cons_of_mem _ hd)
      refine ⟨y :: out, env', ?_, ?_, fun z hz => ?_, by rw [List.length_cons, List.length_cons]; omega⟩
      · rw [compL, h1]
        simp only [Option.bind_some]
        rw [gd_pos h3, gd_pos hlt]
        simp only [Option.bind_some]
        rw [g1, List.append_assoc]
        rfl
      · rw [List.length_cons, Nat.add_comm ds.length 1, ← Nat.add_assoc]
        exact g2
      · rcases List.mem_cons.mp hz with e | hz
        · rw [e]; exact h4 y rfl
        · exact g3 z hz

/-! the meaning, form by form -/
section
variable {C : Cl} {env : En}
theorem e_var {i : Nat} : ev C (.var i) env = match env[i]? with
    | some (some (.val d)) => some (.val d, env)
    | some (some (.own o)) => some (.bo i o, env)
    | _ => none := by rw [ev] <;> rfl
theorem e_cst {d : Da} : ev C (.cst d) env = some (.val d, env) := by rw [ev]
theorem e_glb {x : Str} {d : Da} : ev C (.glb x d) env = some (.val d, env) := by rw [ev]
theorem e_tup {es : Es} : ev C (.tup es) env = (evs C es env).bind fun p => (p.1.mapM RV.frz).bind fun ds => (gd (ds.length ≤ LIM)).map fun _ => (.val (.tuple ds), p.2) := by rw [ev]
theorem e_lst {es : Es} : ev C (.lst es) env = (evs C es env).bind fun p => (p.1.mapM RV.frz).bind fun ds => (gd (ds.length ≤ LIM)).map fun _ => (.fr (.L ds), p.2) := by rw [ev]
theorem e_bin {op : Operator} {a b : E} : ev C (.bin op a b) env = (ev C a env).bind fun p => (ev C b p.2).bind fun q => (refr p.1 q.2).bind fun x => (opBin op x q.1).map fun r => (r, q.2) := by rw [ev]
theorem e_neg {a : E} : ev C (.neg a) env = (ev C a env).bind fun p => match p.1 with
    | .val (.int i) => some (.val (.int (-i)), p.2)
    | _ => none := by rw [ev] <;> rfl
theorem e_cmp {op : CmpOp} {a b : E} : ev C (.cmp op a b) env = (ev C a env).bind fun p => (ev C b p.2).bind fun q => (refr p.1 q.2).bind fun x => (opCmp op x q.1).map fun r => (.val (.bool r), q.2) := by rw [ev]
theorem e_chn {op op' : CmpOp} {a b c : E} : ev C (.chn op op' a b c) env = (ev C a env).bind fun p => (ev C b p.2).bind fun q => (refr p.1 q.2).bind fun x => (opCmp op x q.1).bind fun r =>
      if r = true then (ev C c q.2).bind fun t => (refr q.1 t.2).bind fun y => (opCmp op' y t.1).map fun r' => (.val (.bool r'), t.2) else some (.val (.bool false), q.2) := by rw [ev]
theorem e_idx {a b : E} : ev C (.idx a b) env = (ev C a env).bind fun p => (ev C b p.2).bind fun q => (refr p.1 q.2).bind fun x => (opIdx x q.1).map fun d => (.val d, q.2) := by rw [ev]
theorem e_slc {a : E} {lo hi : Oe} : ev C (.slc a lo hi) env = (ev C a env).bind fun p => (evo C lo p.2).bind fun q => (evo C hi q.2).bind fun t => (refr p.1 t.2).bind fun x => (opSlc x q.1 t.1).map fun r => (r, t.2) := by rw [ev]
theorem e_rev {a : E} : ev C (.rev a) env = (ev C a env).bind fun p => (opRev p.1).map fun r => (r, p.2) := by rw [ev]
theorem e_call {f : Nat} {es : Es} {io : List (Option Nat)} : ev C (.call f es io) env = (evs C es env).bind fun p => (passA io p.1).bind fun svs => (gd ((io.filterMap id).Nodup ∧ ∀ j ∈ valSl io p.1, j ∉ io.filterMap id)).bind fun _ => (C f svs).bind fun q =>
      (gd (retOk q.1 = true)).bind fun _ => (backA io q.2 p.2).map fun env' => (q.1, env') := by rw [ev]
theorem e_bc {b : B} {es : Es} : ev C (.bc b es) env = (evs C es env).bind fun p => (bcall b p.1).map fun r => (r, p.2) := by rw [ev]
theorem e_isi {T : Ty} {a : E} : ev C (.isi T a) env = (ev C a env).bind fun p => (opIsi T p.1).map fun b => (.val (.bool b), p.2) := by rw [ev]
theorem e_lrg {a : E} : ev C (.lrg a) env = (ev C a env).bind fun p => match p.1 with
    | .val (.int n) => (gd (-(2 ^ 62) ≤ n ∧ n ≤ LIM)).map fun _ => (.fr (.L (intR 0 n.toNat)), p.2)
    | _ => none := by rw [ev] <;> rfl
theorem e_mth {m : Mt} {a : E} {es : Es} : ev C (.mth m a es) env = (ev C a env).bind fun p => (gd (mtOk m p.1)).bind fun _ => (evs C es p.2).bind fun q => (refr p.1 q.2).bind fun x => (mcall m x q.1).map fun r => (r, q.2) := by rw [ev]
theorem e_pop {i : Nat} {a : E} : ev C (.pop i a) env = match env[i]? with
    | some (some (.own (.L _))) => (ev C a env).bind fun p => match p.1, p.2[i]? with
      | .val (.int k), some (some (.own (.L ds))) => (gd (-(2 ^ 62) ≤ k ∧ k < 2 ^ 62)).bind fun _ => (L2.ixN ds.length k).bind fun j => (ds[j]?).map fun d => (.val d, p.2.set i (some (.own (.L (ds.eraseIdx j)))))
      | _, _ => none
    | _ => none := by rw [ev] <;> rfl
theorem e_dK : ev C .dK env = some (.fr (.K []), env) := by rw [ev]
theorem e_dT1 {k v : E} : ev C (.dT1 k v) env = (ev C k env).bind fun p => (ev C v p.2).bind fun q => match p.1 with
    | .val (.tuple ds) => (keysD ds).bind fun ks => (RV.frz q.1).map fun y => (.fr (.T [(ks, y)]), q.2)
    | _ => none := by rw [ev] <;> rfl
theorem e_and {a b : E} : ev C (.and a b) env = (evt C a env).bind fun p => if p.1 = true then (evt C b p.2).map fun q => (.val (.bool q.1), q.2) else some (.val (.bool false), p.2) := by
  rw [ev, evt]
  cases ev C a env with
  | none => rfl
  | some p =>
    obtain ⟨p1, p2⟩ := p
    simp only [Option.bind_some]
    split <;> simp_all
    rw [evt]
    cases ev C b p2 with
    | none => rfl
    | some q =>
      obtain ⟨q1, q2⟩ := q
      simp only [Option.bind_some]
      split <;> simp_all
theorem e_or {a b : E} : ev C (.or a b) env = (evt C a env).bind fun p => if p.1 = true then some (.val (.bool true), p.2) else (evt C b p.2).map fun q => (.val (.bool q.1), q.2) := by
  rw [ev, evt]
  cases ev C a env with
  | none => rfl
  | some p =>
    obtain ⟨p1, p2⟩ := p
    simp only [Option.bind_some]
    split <;> simp_all
    rw [evt]
    cases ev C b p2 with
    | none => rfl
    | some q =>
      obtain ⟨q1, q2⟩ := q
      simp only [Option.bind_some]
      split <;> simp_all
theorem e_ite {c a b : E} : ev C (.ite c a b) env = (evt C c env).bind fun p => if p.1 = true then ev C a p.2 else ev C b p.2 := by
  rw [ev, evt]
  cases ev C c env with
  | none => rfl
  | some p =>
    obtain ⟨p1, p2⟩ := p
    simp only [Option.bind_some]
    split <;> simp_all
theorem e_inv {a : E} : ev C (.inv a) env = (evt C a env).map fun p => (.val (.bool (!p.1)), p.2) := by
  rw [ev, evt]
  cases ev C a env with
  | none => rfl
  | some p =>
    obtain ⟨p1, p2⟩ := p
    simp only [Option.bind_some]
    split <;> simp_all
/-- a test of what is a bool -/
theorem t_of {a : E} {b : Bool} {e : En} (h : ev C a env = some (.val (.bool b), e)) : evt C a env = some (b, e) := by
  unfold evt
  rw [h]
  rfl
theorem t_map {p : Option (Bool × En)} {g : Bool → Bool} : ((p.map fun q => ((RV.val (.bool (g q.1)), q.2) : RV × En)).bind fun p => match p.1 with
  | .val (.bool b) => some (b, p.2)
  | _ => none) = p.map fun q => (g q.1, q.2) := by
  cases p <;> rfl
theorem evt_inv {a : E} : evt C (.inv a) env = (evt C a env).map fun p => (!p.1, p.2) := by
  rw [evt, e_inv]
  cases evt C a env <;> rfl
theorem evt_cmp {op : CmpOp} {a b : E} : evt C (.cmp op a b) env = (ev C a env).bind fun p => (ev C b p.2).bind fun q => (refr p.1 q.2).bind fun x => (opCmp op x q.1).map fun r => (r, q.2) := by
  rw [evt, e_cmp]
  cases ev C a env with
  | none => rfl
  | some p =>
    simp only [Option.bind_some]
    cases ev C b p.2 with
    | none => rfl
    | some q =>
      simp only [Option.bind_some]
      cases refr p.1 q.2 with
      | none => rfl
      | some x =>
        simp only [Option.bind_some]
        cases opCmp op x q.1 <;> rfl
theorem evt_isi {T : Ty} {a : E} : evt C (.isi T a) env = (ev C a env).bind fun p => (opIsi T p.1).map fun b => (b, p.2) := by
  rw [evt, e_isi]
  cases ev C a env with
  | none => rfl
  | some p =>
    simp only [Option.bind_some]
    cases opIsi T p.1 <;> rfl
theorem evt_and {a b : E} : evt C (.and a b) env = (evt C a env).bind fun p => if p.1 = true then evt C b p.2 else some (false, p.2) := by
  rw [evt, e_and]
  cases evt C a env with
  | none => rfl
  | some p =>
    simp only [Option.bind_some]
    cases p.1 with
    | true => simp only [if_true]; cases evt C b p.2 <;> rfl
    | false => rfl
theorem evt_or {a b : E} : evt C (.or a b) env = (evt C a env).bind fun p => if p.1 = true then some (true, p.2) else evt C b p.2 := by
  rw [evt, e_or]
  cases evt C a env with
  | none => rfl
  | some p =>
    simp only [Option.bind_some]
    cases p.1 with
    | true => rfl
    | false => simp only [Bool.false_eq_true, if_false]; cases evt C b p.2 <;> rfl
theorem evt_call {f : Nat} {es : Es} {io : List (Option Nat)} : evt C (.call f es io) env = (ev C (.call f es io) env).bind fun p => match p.1 with
  | .val (.bool b) => some (b, p.2)
  | _ => none := rfl
theorem evt_bc {b : B} {es : Es} : evt C (.bc b es) env = (ev C (.bc b es) env).bind fun p => match p.1 with
  | .val (.bool b) => some (b, p.2)
  | _ => none := rfl
theorem evt_chn {op op' : CmpOp} {a b c : E} : evt C (.chn op op' a b c) env = (ev C (.chn op op' a b c) env).bind fun p => match p.1 with
  | .val (.bool b) => some (b, p.2)
  | _ => none := rfl
noncomputable def evq (C : Cl) : Oe → En → Option (Bool × En)
  | .no, env => some (true, env)
  | .yes c, env => evt C c env
noncomputable def turnQ (C : Cl) (elt : E) (tg : Tg) (cs : Oe) (d : Da) (e : En) : Option (Option Da × En) :=
  (bindT [] tg (.val d) e).bind fun e1 => (evq C cs e1).bind fun q => if q.1 = true then (ev C elt q.2).bind fun t => (RV.frz t.1).map fun y => (some y, t.2) else some (none, q.2)
theorem e_comp {elt : E} {tg : Tg} {it : It} {cs : Oe} {own : List (Str × Nat)} : ev C (.comp elt tg it cs own) env = (evi C it env).bind fun p => (gd (∀ j ∈ p.2.1, j ∉ own.map (·.2))).bind fun _ =>
      (compL (own.map (·.2)) p.2.1 (turnQ C elt tg cs) p.1 (wipeD p.2.2 (own.map (·.2))) (wipeD p.2.2 (own.map (·.2))) []).map fun q => (.fr (.L q.1), backD p.2.2 q.2 (own.map (·.2))) := by
  rw [ev]
  congr 1
  funext p
  congr 1
  funext u
  congr 2
  funext d e
  unfold turnQ
  congr 1
  funext e1
  cases cs with
  | no => rfl
  | yes c => rfl
/-- a comprehension whose turns keep the slots -/
theorem comp_map {elt : E} {tg : Tg} {it : It} {cs : Oe} {own : List (Str × Nat)} {ds : List Da} {bs : List Nat} {env1 : En} (g : Da → Option Da) (hi : evi C it env = some (ds, bs, env1)) (hb : ∀ j ∈ bs, j ∉ own.map (·.2)) (hl : ds.length ≤ LIM)
    (ht : ∀ d ∈ ds, ∃ e, turnQ C elt tg cs d (wipeD env1 (own.map (·.2))) = some (g d, e) ∧ wipeD e (own.map (·.2)) = wipeD env1 (own.map (·.2))) :
    ev C (.comp elt tg it cs own) env = some (.fr (.L (ds.filterMap g)), backD env1 (wipeD env1 (own.map (·.2))) (own.map (·.2))) := by
  rw [e_comp, hi]
  simp only [Option.bind_some]
  rw [gd_pos hb]
  simp only [Option.bind_some]
  rw [compL_map ht (by simpa using hl)]
  simp
end

theorem boolsD_map {α : Type} (f : α → Bool) : ∀ l : List α, boolsD (l.map fun x => .bool (f x)) = some (l.map f)
  | [] => rfl
  | x :: l => by rw [List.map_cons, boolsD, boolsD_map f l]; rfl
theorem intsD_map {α : Type} (f : α → Int) : ∀ l : List α, intsD (l.map fun x => .int (f x)) = some (l.map f)
  | [] => rfl
  | x :: l => by rw [List.map_cons, intsD, intsD_map f l]; rfl
theorem strsD_map {α : Type} (f : α → Str) : ∀ l : List α, strsD (l.map fun x => .str (f x)) = some (l.map f)
  | [] => rfl
  | x :: l => by rw [List.map_cons, strsD, strsD_map f l]; rfl
theorem fmap_some {α : Type} {f : α → Da} {g : Da → Option Da} {h : α → Da} : ∀ {l : List α}, (∀ x ∈ l, g (f x) = some (h x)) → (l.map f).filterMap g = l.map h
  | [], _ => rfl
  | x :: l, e => by
    rw [List.map_cons, List.filterMap_cons, e x List.mem_cons_self, List.map_cons, fmap_some fun y hy => e y (List.mem_cons_of_mem _ hy)]
/-- a comprehension over items that are all of one kind -/
theorem comp_all {C : Cl} {env : En} {α : Type} (f : α → Da) (h : α → Da) {elt : E} {tg : Tg} {it : It} {own : List (Str × Nat)} {l : List α} {bs : List Nat} {env1 : En} (hi : evi C it env = some (l.map f, bs, env1)) (hb : ∀ j ∈ bs, j ∉ own.map (·.2)) (hl : l.length ≤ LIM)
    (ht : ∀ x ∈ l, ∃ e, turnQ C elt tg .no (f x) (wipeD env1 (own.map (·.2))) = some (some (h x), e) ∧ wipeD e (own.map (·.2)) = wipeD env1 (own.map (·.2))) :
    ev C (.comp elt tg it .no own) env = some (.fr (.L (l.map h)), backD env1 (wipeD env1 (own.map (·.2))) (own.map (·.2))) := by
  classical
  rw [e_comp, hi]
  simp only [Option.bind_some]
  rw [gd_pos hb]
  simp only [Option.bind_some]
  have go : ∀ {l : List α} {acc : List Da}, (∀ x ∈ l, ∃ e, turnQ C elt tg .no (f x) (wipeD env1 (own.map (·.2))) = some (some (h x), e) ∧ wipeD e (own.map (·.2)) = wipeD env1 (own.map (·.2))) → acc.length + l.length ≤ LIM →
      compL (own.map (·.2)) bs (turnQ C elt tg .no) (l.map f) (wipeD env1 (own.map (·.2))) (wipeD env1 (own.map (·.2))) acc = some (acc ++ l.map h, wipeD env1 (own.map (·.2))) := by
    intro l
    induction l with
    | nil => intro acc _ _; rw [List.map_nil, compL]; simp
    | cons x l ih =>
      intro acc hx hl
      rw [List.length_cons] at hl
      obtain ⟨e, h1, h2⟩ := hx x List.mem_cons_self
      rw [List.map_cons, compL, h1]
      simp only [Option.bind_some, h2]
      rw [gd_pos (fun _ _ => trivial), gd_pos (show acc.length < LIM by omega)]
      simp only [Option.bind_some]
      rw [ih (fun y hy => hx y (List.mem_cons_of_mem _ hy)) (by rw [List.length_append, List.length_singleton]; omega)]
      simp
  rw [go ht (by simpa using hl)]
  simp
theorem b_val {io : List Nat} {i : Nat} {d : Da} {env : En} : bindT io (.nm i) (.val d) env = if i < env.length ∧ i ∉ io then some (env.set i (some (.val d))) else none := by rw [bindT]
theorem b_fr {io : List Nat} {i : Nat} {o : Ob} {env : En} : bindT io (.nm i) (.fr o) env = if i < env.length ∧ i ∉ io then some (env.set i (some (.own o))) else none := by rw [bindT]
theorem b_bo {io : List Nat} {i j : Nat} {o : Ob} {env : En} : bindT io (.nm i) (.bo j o) env = if i = j ∧ i ∉ io then some env else none := by rw [bindT]
theorem b_tp {io : List Nat} {ts : Tgs} {ds : List Da} {env : En} : bindT io (.tp ts) (.val (.tuple ds)) env = bindTs io ts ds env := by rw [bindT]
theorem cmp_eq {a b : RV} : opCmp .Eq a b = a.dat.bind fun x => b.dat.bind fun y => opEq x y := by simp only [opCmp]
theorem cmp_ne {a b : RV} : opCmp .NotEq a b = a.dat.bind fun x => b.dat.bind fun y => (opEq x y).map (!·) := by simp only [opCmp]
end PL
set_option maxRecDepth 100000
set_option maxHeartbeats 4000000
namespace PT
open PySem PL
/-- is_integer(value); slots 0 value -/
def b_is_integer : Ss :=
(.cons (.ret (.and (.isi .int (.var 0)) (.inv (.isi .bool (.var 0))))) .nil)
def f_is_integer : Fn := ⟨1, 1, [], b_is_integer⟩
/-- is_between(value, low, high); slots 0 value, 1 low, 2 high -/
def b_is_between : Ss :=
(.cons (.ret (.and (.call 0 (.cons (.var 0) .nil) [none]) (.chn .LtE .LtE (.var 1) (.var 0) (.var 2)))) .nil)
def f_is_between : Fn := ⟨3, 3, [], b_is_between⟩
/-- are_between(value, low, high); slots 0 value, 1 low, 2 high, 3 one -/
def b_are_between : Ss :=
(.cons (.ret (.and (.isi .tuple (.var 0)) (.bc .all (.cons (.comp (.call 1 (.cons (.var 3) (.cons (.var 1) (.cons (.var 2) .nil))) [none, none, none]) (.nm 3) (.vals (.var 0)) .no [("one", 3)]) .nil)))) .nil)
def f_are_between : Fn := ⟨4, 3, [], b_are_between⟩
/-- is_tuple_of(value, many); slots 0 value, 1 many -/
def b_is_tuple_of : Ss :=
(.cons (.ret (.and (.isi .tuple (.var 0)) (.cmp .Eq (.bc .len (.cons (.var 0) .nil)) (.var 1)))) .nil)
def f_is_tuple_of : Fn := ⟨2, 2, [], b_is_tuple_of⟩
/-- is_ascending(value); slots 0 value, 1 one, 2 other -/
def b_is_ascending : Ss :=
(.cons (.ret (.bc .all (.cons (.comp (.cmp .Lt (.var 1) (.var 2)) (.tp (.cons (.nm 1) (.cons (.nm 2) .nil))) (.zip (.var 0) (.slc (.var 0) (.yes (.cst (PyData.int 1))) .no)) .no [("one", 1), ("other", 2)]) .nil))) .nil)
def f_is_ascending : Fn := ⟨3, 1, [], b_is_ascending⟩
/-- are_signs(value); slots 0 value, 1 sign -/
def b_are_signs : Ss :=
(.cons (.ret (.and (.isi .str (.var 0)) (.bc .all (.cons (.comp (.cmp .In (.var 1) (.glb "SIGNS" (PyData.str "abcdefghijklmnopqrstuvwxyz"))) (.nm 1) (.vals (.var 0)) .no [("sign", 1)]) .nil)))) .nil)
def f_are_signs : Fn := ⟨2, 1, [], b_are_signs⟩
/-- is_signs(value, low, high); slots 0 value, 1 low, 2 high -/
def b_is_signs : Ss :=
(.cons (.ret (.and (.isi .str (.var 0)) (.and (.chn .LtE .LtE (.var 1) (.bc .len (.cons (.var 0) .nil)) (.var 2)) (.call 5 (.cons (.var 0) .nil) [none])))) .nil)
def f_is_signs : Fn := ⟨3, 3, [], b_is_signs⟩
/-- is_entry_of(value); slots 0 value -/
def b_is_entry_of : Ss :=
(.cons (.ret (.and (.call 3 (.cons (.var 0) (.cons (.cst (PyData.int 2)) .nil)) [none, none]) (.and (.call 6 (.cons (.idx (.var 0) (.cst (PyData.int 0))) (.cons (.cst (PyData.int 1)) (.cons (.glb "MOST_OUTLINE" (PyData.int 8)) .nil))) [none, none, none]) (.call 6 (.cons (.idx (.var 0) (.cst (PyData.int 1))) (.cons (.cst (PyData.int 0)) (.cons (.glb "MOST_OUTLINE" (PyData.int 8)) .nil))) [none, none, none])))) .nil)
def f_is_entry_of : Fn := ⟨1, 1, [], b_is_entry_of⟩
/-- is_dictionary_of(value); slots 0 value, 1 entry -/
def b_is_dictionary_of : Ss :=
(.cons (.ite (.or (.inv (.isi .tuple (.var 0))) (.inv (.chn .LtE .LtE (.cst (PyData.int 1)) (.bc .len (.cons (.var 0) .nil)) (.glb "MOST_ENTRIES" (PyData.int 16)))))
(.cons (.ret (.cst (PyData.bool false))) .nil)
.nil) (.cons (.ret (.and (.bc .all (.cons (.comp (.call 7 (.cons (.var 1) .nil) [none]) (.nm 1) (.vals (.var 0)) .no [("entry", 1)]) .nil)) (.call 4 (.cons (.var 0) .nil) [none]))) .nil))
def f_is_dictionary_of : Fn := ⟨2, 1, [], b_is_dictionary_of⟩
/-- check_dictionary(value); slots 0 value -/
def b_check_dictionary : Ss :=
(.cons (.ite (.inv (.call 8 (.cons (.var 0) .nil) [none]))
(.cons .nev .nil)
.nil) (.cons (.ret (.var 0)) .nil))
def f_check_dictionary : Fn := ⟨1, 1, [], b_check_dictionary⟩
/-- check_entry(value); slots 0 value -/
def b_check_entry : Ss :=
(.cons (.ite (.inv (.call 7 (.cons (.var 0) .nil) [none]))
(.cons .nev .nil)
.nil) .nil)
def f_check_entry : Fn := ⟨1, 1, [], b_check_entry⟩
/-- check_many(entries); slots 0 entries -/
def b_check_many : Ss :=
(.cons (.ite (.cmp .Gt (.bc .len (.cons (.var 0) .nil)) (.glb "MOST_ENTRIES" (PyData.int 16)))
(.cons .nev .nil)
.nil) (.cons (.ret (.call 9 (.cons (.bc .tuple (.cons (.bc .sorted (.cons (.var 0) .nil)) .nil)) .nil) [none])) .nil))
def f_check_many : Fn := ⟨1, 1, [], b_check_many⟩
/-- with_entry(dictionary, entry); slots 0 dictionary, 1 entry -/
def b_with_entry : Ss :=
(.cons (.exp (.call 9 (.cons (.var 0) .nil) [none])) (.cons (.exp (.call 10 (.cons (.var 1) .nil) [none])) (.cons (.ite (.cmp .In (.var 1) (.var 0))
(.cons .nev .nil)
.nil) (.cons (.ret (.call 11 (.cons (.lst (.star (.var 0) (.cons (.var 1) .nil))) .nil) [none])) .nil))))
def f_with_entry : Fn := ⟨2, 2, [], b_with_entry⟩
/-- without_entry(dictionary, entry); slots 0 dictionary, 1 entry, 2 one -/
def b_without_entry : Ss :=
(.cons (.exp (.call 9 (.cons (.var 0) .nil) [none])) (.cons (.exp (.call 10 (.cons (.var 1) .nil) [none])) (.cons (.ite (.cmp .NotIn (.var 1) (.var 0))
(.cons .nev .nil)
.nil) (.cons (.ret (.call 11 (.cons (.comp (.var 2) (.nm 2) (.vals (.var 0)) (.yes (.cmp .NotEq (.var 2) (.var 1))) [("one", 2)]) .nil) [none])) .nil))))
def f_without_entry : Fn := ⟨3, 2, [], b_without_entry⟩
/-- is_reading_of(dictionary, value); slots 0 dictionary, 1 value -/
def b_is_reading_of : Ss :=
(.cons (.ret (.and (.call 2 (.cons (.var 1) (.cons (.cst (PyData.int 0)) (.cons (.bin .Sub (.bc .len (.cons (.var 0) .nil)) (.cst (PyData.int 1))) .nil))) [none, none, none]) (.cmp .LtE (.bc .len (.cons (.var 1) .nil)) (.glb "MOST_ROW" (PyData.int 2000))))) .nil)
def f_is_reading_of : Fn := ⟨2, 2, [], b_is_reading_of⟩
/-- row_by(dictionary, reading); slots 0 dictionary, 1 reading, 2 place -/
def b_row_by : Ss :=
(.cons (.ret (.mth .join (.cst (PyData.str "")) (.cons (.comp (.idx (.idx (.var 0) (.var 2)) (.cst (PyData.int 0))) (.nm 2) (.vals (.var 1)) .no [("place", 2)]) .nil))) .nil)
def f_row_by : Fn := ⟨3, 2, [], b_row_by⟩
/-- text_by(dictionary, reading); slots 0 dictionary, 1 reading, 2 place -/
def b_text_by : Ss :=
(.cons (.ret (.mth .join (.cst (PyData.str "")) (.cons (.comp (.idx (.idx (.var 0) (.var 2)) (.cst (PyData.int 1))) (.nm 2) (.vals (.var 1)) .no [("place", 2)]) .nil))) .nil)
def f_text_by : Fn := ⟨3, 2, [], b_text_by⟩
/-- reading_for(dictionary, outline, text); slots 0 dictionary, 1 outline, 2 text, 3 found, 4 waiting, 5 at, 6 to, 7 place, 8 there, 9 its, 10 letters -/
def b_reading_for : Ss :=
(.cons (.par [3, 4] (.cons (.dT1 (.tup (.cons (.cst (PyData.int 0)) (.cons (.cst (PyData.int 0)) .nil))) (.tup .nil)) (.cons (.lst (.cons (.tup (.cons (.cst (PyData.int 0)) (.cons (.cst (PyData.int 0)) .nil))) .nil)) .nil))) (.cons (.whl (.cmp .NotEq (.var 4) (.lst .nil))
(.cons (.asg (.tp (.cons (.nm 5) (.cons (.nm 6) .nil))) (.pop 4 (.cst (PyData.int 0)))) (.cons (.ite (.cmp .Eq (.tup (.cons (.var 5) (.cons (.var 6) .nil))) (.tup (.cons (.bc .len (.cons (.var 1) .nil)) (.cons (.bc .len (.cons (.var 2) .nil)) .nil))))
(.cons (.ret (.idx (.var 3) (.tup (.cons (.var 5) (.cons (.var 6) .nil))))) .nil)
.nil) (.cons (.for (.tp (.cons (.nm 7) (.cons (.tp (.cons (.nm 9) (.cons (.nm 10) .nil))) .nil))) (.enu (.var 0))
(.cons (.asg (.nm 8) (.tup (.cons (.bin .Add (.var 5) (.bc .len (.cons (.var 9) .nil))) (.cons (.bin .Add (.var 6) (.bc .len (.cons (.var 10) .nil))) .nil)))) (.cons (.ite (.and (.mth .starts2 (.var 1) (.cons (.var 9) (.cons (.var 5) .nil))) (.and (.mth .starts2 (.var 2) (.cons (.var 10) (.cons (.var 6) .nil))) (.cmp .NotIn (.var 8) (.var 3))))
(.cons (.set 3 (.var 8) (.tup (.star (.idx (.var 3) (.tup (.cons (.var 5) (.cons (.var 6) .nil)))) (.cons (.var 7) .nil)))) (.cons (.app 4 (.var 8)) .nil))
.nil) .nil))) .nil)))) (.cons (.ret (.cst PyData.none)) .nil)))
def f_reading_for : Fn := ⟨11, 3, [], b_reading_for⟩
/-- within_by(one, other); slots 0 one, 1 other, 2 found, 3 outline, 4 text -/
def b_within_by : Ss :=
(.cons (.asg (.nm 2) (.comp (.call 17 (.cons (.var 1) (.cons (.var 3) (.cons (.var 4) .nil))) [none, none, none]) (.tp (.cons (.nm 3) (.cons (.nm 4) .nil))) (.vals (.var 0)) .no [("outline", 3), ("text", 4)])) (.cons (.ite (.cmp .In (.cst PyData.none) (.var 2))
(.cons (.ret (.tup (.cons (.glb "ENTRY" (PyData.str "entry")) (.cons (.mth .index (.var 2) (.cons (.cst PyData.none) .nil)) .nil)))) .nil)
.nil) (.cons (.ret (.tup (.cons (.glb "WITHIN" (PyData.str "within")) (.cons (.bc .tuple (.cons (.var 2) .nil)) .nil)))) .nil)))
def f_within_by : Fn := ⟨5, 2, [], b_within_by⟩
/-- check_both(one, other); slots 0 one, 1 other -/
def b_check_both : Ss :=
(.cons (.exp (.call 9 (.cons (.var 0) .nil) [none])) (.cons (.exp (.call 9 (.cons (.var 1) .nil) [none])) .nil))
def f_check_both : Fn := ⟨2, 2, [], b_check_both⟩
/-- within_told(one, other); slots 0 one, 1 other -/
def b_within_told : Ss :=
(.cons (.exp (.call 19 (.cons (.var 0) (.cons (.var 1) .nil)) [none, none])) (.cons (.ret (.call 18 (.cons (.var 0) (.cons (.var 1) .nil)) [none, none])) .nil))
def f_within_told : Fn := ⟨2, 2, [], b_within_told⟩
/-- shows_within(one, other, value); slots 0 one, 1 other, 2 value, 3 reading -/
def b_shows_within : Ss :=
(.cons (.exp (.call 19 (.cons (.var 0) (.cons (.var 1) .nil)) [none, none])) (.cons (.ite (.or (.inv (.call 3 (.cons (.var 2) (.cons (.cst (PyData.int 2)) .nil)) [none, none])) (.inv (.isi .str (.idx (.var 2) (.cst (PyData.int 0))))))
(.cons (.ret (.cst (PyData.bool false))) .nil)
.nil) (.cons (.ite (.cmp .Eq (.idx (.var 2) (.cst (PyData.int 0))) (.glb "ENTRY" (PyData.str "entry")))
(.cons (.ret (.and (.call 1 (.cons (.idx (.var 2) (.cst (PyData.int 1))) (.cons (.cst (PyData.int 0)) (.cons (.bin .Sub (.bc .len (.cons (.var 0) .nil)) (.cst (PyData.int 1))) .nil))) [none, none, none]) (.cmp .Eq (.call 18 (.cons (.var 0) (.cons (.var 1) .nil)) [none, none]) (.var 2)))) .nil)
.nil) (.cons (.ite (.or (.cmp .NotEq (.idx (.var 2) (.cst (PyData.int 0))) (.glb "WITHIN" (PyData.str "within"))) (.inv (.call 3 (.cons (.idx (.var 2) (.cst (PyData.int 1))) (.cons (.bc .len (.cons (.var 0) .nil)) .nil)) [none, none])))
(.cons (.ret (.cst (PyData.bool false))) .nil)
.nil) (.cons (.ite (.inv (.bc .all (.cons (.comp (.call 14 (.cons (.var 1) (.cons (.var 3) .nil)) [none, none]) (.nm 3) (.vals (.idx (.var 2) (.cst (PyData.int 1)))) .no [("reading", 3)]) .nil)))
(.cons (.ret (.cst (PyData.bool false))) .nil)
.nil) (.cons (.ret (.cmp .Eq (.comp (.tup (.cons (.call 15 (.cons (.var 1) (.cons (.var 3) .nil)) [none, none]) (.cons (.call 16 (.cons (.var 1) (.cons (.var 3) .nil)) [none, none]) .nil))) (.nm 3) (.vals (.idx (.var 2) (.cst (PyData.int 1)))) .no [("reading", 3)]) (.bc .list (.cons (.var 0) .nil)))) .nil))))))
def f_shows_within : Fn := ⟨4, 3, [], b_shows_within⟩
/-- is_same(one, other); slots 0 one, 1 other -/
def b_is_same : Ss :=
(.cons (.exp (.call 19 (.cons (.var 0) (.cons (.var 1) .nil)) [none, none])) (.cons (.ret (.and (.cmp .Eq (.idx (.call 18 (.cons (.var 0) (.cons (.var 1) .nil)) [none, none]) (.cst (PyData.int 0))) (.glb "WITHIN" (PyData.str "within"))) (.cmp .Eq (.idx (.call 18 (.cons (.var 1) (.cons (.var 0) .nil)) [none, none]) (.cst (PyData.int 0))) (.glb "WITHIN" (PyData.str "within"))))) .nil))
def f_is_same : Fn := ⟨2, 2, [], b_is_same⟩
/-- _law_pot(script, place); slots 0 script, 1 place, 2 cell, 3 own, 4 small -/
def b__law_pot : Ss :=
(.cons (.asg (.nm 2) (.ite (.cmp .Lt (.var 1) (.bc .len (.cons (.var 0) .nil))) (.idx (.var 0) (.var 1)) (.bin .Add (.bin .Add (.bin .Mod (.bc .int (.cons (.bc .sum (.cons (.slc (.var 0) .no (.yes (.cst (PyData.int 1)))) .nil)) .nil)) (.cst (PyData.int 1000003))) (.bin .Mult (.cst (PyData.int 6011)) (.var 1))) (.cst (PyData.int 17011))))) (.cons (.asg (.nm 3) (.bin .Mult (.bin .Mod (.bc .int (.cons (.bc .abs (.cons (.var 2) .nil)) .nil)) (.bin .Pow (.bin .Pow (.cst (PyData.int 10)) (.cst (PyData.int 60))) (.cst (PyData.int 5)))) (.bc .int (.cons (.cmp .GtE (.bc .abs (.cons (.var 2) .nil)) (.bin .Pow (.cst (PyData.int 10)) (.cst (PyData.int 18)))) .nil)))) (.cons (.asg (.nm 4) (.bin .Mod (.bc .int (.cons (.var 2) .nil)) (.cst (PyData.int 2305843009213693951)))) (.cons (.ret (.lst (.cons (.var 3) (.cons (.bin .Mod (.bc .int (.cons (.bin .Add (.bin .Add (.bin .Mult (.var 4) (.cst (PyData.int 141067))) (.bin .Mult (.bin .Mult (.cst (PyData.int 20107)) (.var 1)) (.var 1))) (.cst (PyData.int 5501))) .nil)) (.cst (PyData.int 2305843009213693921))) (.cons (.cst (PyData.int 0)) .nil))))) .nil))))
def f__law_pot : Fn := ⟨5, 2, [], b__law_pot⟩
/-- _law_take(pot, upto); slots 0 pot, 1 upto, 2 prime, 3 blend, 4 digit -/
def b__law_take : Ss :=
(.cons (.ite (.cmp .Gt (.idx (.var 0) (.cst (PyData.int 0))) (.cst (PyData.int 0)))
(.cons (.asg (.nm 4) (.bin .Mod (.bc .int (.cons (.idx (.var 0) (.cst (PyData.int 0))) .nil)) (.var 1))) (.cons (.set 0 (.cst (PyData.int 0)) (.bin .FloorDiv (.idx (.var 0) (.cst (PyData.int 0))) (.var 1))) (.cons (.ret (.var 4)) .nil)))
.nil) (.cons (.set 0 (.cst (PyData.int 2)) (.bin .Add (.idx (.var 0) (.cst (PyData.int 2))) (.cst (PyData.int 1)))) (.cons (.asg (.nm 2) (.idx (.lst (.cons (.cst (PyData.int 2147483647)) (.cons (.cst (PyData.int 2147483629)) (.cons (.cst (PyData.int 2147483587)) (.cons (.cst (PyData.int 2147483579)) .nil))))) (.bin .Mod (.bc .int (.cons (.idx (.var 0) (.cst (PyData.int 2))) .nil)) (.cst (PyData.int 4))))) (.cons (.asg (.nm 3) (.bin .Mod (.bc .int (.cons (.bin .Pow (.bc .int (.cons (.bin .Add (.bin .Add (.idx (.var 0) (.cst (PyData.int 1))) (.bin .Mult (.bin .Mult (.cst (PyData.int 191071)) (.idx (.var 0) (.cst (PyData.int 2)))) (.idx (.var 0) (.cst (PyData.int 2))))) (.cst (PyData.int 6143))) .nil)) (.cst (PyData.int 3))) .nil)) (.var 2))) (.cons (.ret (.bin .Mod (.bc .int (.cons (.bin .FloorDiv (.bin .Mult (.var 3) (.bin .Add (.bin .Mod (.bc .int (.cons (.var 3) .nil)) (.cst (PyData.int 10007))) (.bin .Mult (.cst (PyData.int 5407)) (.idx (.var 0) (.cst (PyData.int 2)))))) (.cst (PyData.int 307))) .nil)) (.var 1))) .nil)))))
def f__law_take : Fn := ⟨5, 2, [0], b__law_take⟩
/-- _law_of(pot, some); slots 0 pot, 1 some -/
def b__law_of : Ss :=
(.cons (.ret (.idx (.var 1) (.call 24 (.cons (.var 0) (.cons (.bc .len (.cons (.var 1) .nil)) .nil)) [some 0, none]))) .nil)
def f__law_of : Fn := ⟨2, 2, [0], b__law_of⟩
/-- _law_cells(script, limit); slots 0 script, 1 limit -/
def b__law_cells : Ss :=
(.cons (.ret (.lrg (.bc .max (.cons (.cst (PyData.int 1)) (.cons (.bc .min (.cons (.var 1) (.cons (.bc .len (.cons (.var 0) .nil)) .nil))) .nil))))) .nil)
def f__law_cells : Fn := ⟨2, 2, [], b__law_cells⟩
/-- _law_unlike(some); slots 0 some, 1 one -/
def b__law_unlike : Ss :=
(.cons (.ret (.bc .sorted (.cons (.bc .dict (.cons (.comp (.tup (.cons (.var 1) (.cons (.cst (PyData.bool true)) .nil))) (.nm 1) (.vals (.var 0)) .no [("one", 1)]) .nil)) .nil))) .nil)
def f__law_unlike : Fn := ⟨2, 1, [], b__law_unlike⟩
/-- _law_signs(pot, many); slots 0 pot, 1 many, 2 lap, 3 left, 4 found -/
def b__law_signs : Ss :=
(.cons (.par [3, 4] (.cons (.bc .list (.cons (.cst (PyData.str "abcdefghijklmnopqrstuvwxyz")) .nil)) (.cons (.lst .nil) .nil))) (.cons (.for (.nm 2) (.rng1 (.var 1))
(.cons (.app 4 (.pop 3 (.call 24 (.cons (.var 0) (.cons (.bc .len (.cons (.var 3) .nil)) .nil)) [some 0, none]))) .nil)) (.cons (.ret (.var 4)) .nil)))
def f__law_signs : Fn := ⟨5, 2, [0], b__law_signs⟩
/-- _law_some(pot, some, many); slots 0 pot, 1 some, 2 many, 3 lap, 4 left, 5 found -/
def b__law_some : Ss :=
(.cons (.par [4, 5] (.cons (.bc .list (.cons (.var 1) .nil)) (.cons (.lst .nil) .nil))) (.cons (.for (.nm 3) (.rng1 (.var 2))
(.cons (.app 5 (.pop 4 (.call 24 (.cons (.var 0) (.cons (.bc .len (.cons (.var 4) .nil)) .nil)) [some 0, none]))) .nil)) (.cons (.ret (.var 5)) .nil)))
def f__law_some : Fn := ⟨6, 3, [0], b__law_some⟩
/-- _law_row(pot, signs, most); slots 0 pot, 1 signs, 2 most, 3 lap -/
def b__law_row : Ss :=
(.cons (.ret (.mth .join (.cst (PyData.str "")) (.cons (.comp (.call 25 (.cons (.var 0) (.cons (.var 1) .nil)) [some 0, none]) (.nm 3) (.rng1 (.call 24 (.cons (.var 0) (.cons (.bin .Add (.var 2) (.cst (PyData.int 1))) .nil)) [some 0, none])) .no [("lap", 3)]) .nil))) .nil)
def f__law_row : Fn := ⟨4, 3, [0], b__law_row⟩
/-- _law_leaves(pot, signs, laps, long, many); slots 0 pot, 1 signs, 2 laps, 3 long, 4 many, 5 leaves, 6 lap, 7 at, 8 sign -/
def b__law_leaves : Ss :=
(.cons (.asg (.nm 5) (.bc .list (.cons (.var 1) .nil))) (.cons (.for (.nm 6) (.rng1 (.var 2))
(.cons (.asg (.nm 7) (.call 24 (.cons (.var 0) (.cons (.bc .len (.cons (.var 5) .nil)) .nil)) [some 0, none])) (.cons (.ite (.and (.cmp .Lt (.bc .len (.cons (.idx (.var 5) (.var 7)) .nil)) (.var 3)) (.cmp .LtE (.bin .Sub (.bin .Add (.bc .len (.cons (.var 5) .nil)) (.bc .len (.cons (.var 1) .nil))) (.cst (PyData.int 1))) (.var 4)))
(.cons (.asg (.nm 5) (.bin .Add (.bin .Add (.slc (.var 5) .no (.yes (.var 7))) (.comp (.bin .Add (.idx (.var 5) (.var 7)) (.var 8)) (.nm 8) (.vals (.var 1)) .no [("sign", 8)])) (.slc (.var 5) (.yes (.bin .Add (.var 7) (.cst (PyData.int 1)))) .no))) .nil)
.nil) .nil))) (.cons (.ret (.var 5)) .nil)))
def f__law_leaves : Fn := ⟨9, 5, [0], b__law_leaves⟩
/-- _law_outlines(pot, signs, long, many); slots 0 pot, 1 signs, 2 long, 3 many, 4 rows, 5 way, 6 here, 7 there, 8 lap, 9 row, 10 one, 11 other, 12 known, 13 size -/
def b__law_outlines : Ss :=
(.cons (.asg (.tp (.cons (.nm 5) (.cons (.nm 6) (.cons (.nm 7) .nil)))) (.tup (.cons (.call 24 (.cons (.var 0) (.cons (.cst (PyData.int 7)) .nil)) [some 0, none]) (.cons (.idx (.var 1) (.cst (PyData.int 0))) (.cons (.idx (.var 1) (.cst (PyData.int 1))) .nil))))) (.cons (.ite (.cmp .Lt (.var 5) (.cst (PyData.int 2)))
(.cons (.asg (.nm 4) (.comp (.bin .Add (.call 25 (.cons (.var 0) (.cons (.var 1) .nil)) [some 0, none]) (.call 30 (.cons (.var 0) (.cons (.var 1) (.cons (.bin .Sub (.var 2) (.cst (PyData.int 1))) .nil))) [some 0, none, none])) (.nm 8) (.rng1 (.bin .Add (.cst (PyData.int 1)) (.call 24 (.cons (.var 0) (.cons (.var 3) .nil)) [some 0, none]))) .no [("lap", 8)])) .nil)
(.cons (.ite (.cmp .Lt (.var 5) (.cst (PyData.int 4)))
(.cons (.asg (.nm 4) (.call 31 (.cons (.var 0) (.cons (.var 1) (.cons (.bin .Add (.cst (PyData.int 1)) (.call 24 (.cons (.var 0) (.cons (.cst (PyData.int 4)) .nil)) [some 0, none])) (.cons (.var 2) (.cons (.bin .Add (.var 3) (.cst (PyData.int 1))) .nil))))) [some 0, none, none, none, none])) (.cons (.asg (.nm 4) (.call 29 (.cons (.var 0) (.cons (.var 4) (.cons (.bc .max (.cons (.cst (PyData.int 1)) (.cons (.bc .min (.cons (.var 3) (.cons (.bin .Sub (.bc .len (.cons (.var 4) .nil)) (.call 24 (.cons (.var 0) (.cons (.cst (PyData.int 2)) .nil)) [some 0, none])) .nil))) .nil))) .nil))) [some 0, none, none])) (.cons (.asg (.nm 4) (.ite (.cmp .Eq (.var 5) (.cst (PyData.int 3))) (.comp (.rev (.var 9)) (.nm 9) (.vals (.var 4)) .no [("row", 9)]) (.var 4))) .nil)))
(.cons (.ite (.cmp .Eq (.var 5) (.cst (PyData.int 4)))
(.cons (.asg (.tp (.cons (.nm 10) (.cons (.nm 11) .nil))) (.call 25 (.cons (.var 0) (.cons (.lst (.cons (.tup (.cons (.var 6) (.cons (.bin .Add (.var 7) (.var 6)) .nil))) (.cons (.tup (.cons (.bin .Add (.var 6) (.var 7)) (.cons (.var 7) .nil))) (.cons (.tup (.cons (.bin .Add (.var 6) (.var 6)) (.cons (.bin .Add (.var 6) (.var 7)) .nil))) (.cons (.tup (.cons (.var 6) (.cons (.bin .Add (.var 7) (.var 7)) .nil))) .nil))))) .nil)) [some 0, none])) (.cons (.asg (.nm 4) (.slc (.lst (.cons (.var 10) (.cons (.var 11) (.cons (.bin .Add (.var 10) (.var 11)) (.cons (.bin .Add (.var 11) (.var 10)) (.cons (.bin .Add (.var 11) (.var 11)) .nil)))))) .no (.yes (.bin .Add (.cst (PyData.int 1)) (.call 24 (.cons (.var 0) (.cons (.cst (PyData.int 5)) .nil)) [some 0, none]))))) .nil))
(.cons (.ite (.cmp .Eq (.var 5) (.cst (PyData.int 5)))
(.cons (.asg (.nm 4) (.comp (.bin .Mult (.var 6) (.var 13)) (.nm 13) (.vals (.call 29 (.cons (.var 0) (.cons (.lst (.cons (.cst (PyData.int 1)) (.cons (.cst (PyData.int 2)) (.cons (.cst (PyData.int 3)) (.cons (.cst (PyData.int 4)) (.cons (.cst (PyData.int 5)) .nil)))))) (.cons (.bin .Add (.cst (PyData.int 1)) (.call 24 (.cons (.var 0) (.cons (.cst (PyData.int 3)) .nil)) [some 0, none])) .nil))) [some 0, none, none])) .no [("size", 13)])) .nil)
(.cons (.asg (.nm 12) (.lst (.cons (.tup (.cons (.var 6) (.cons (.bin .Add (.var 6) (.var 7)) (.cons (.bin .Add (.var 7) (.var 6)) .nil)))) (.cons (.tup (.cons (.var 6) (.cons (.bin .Add (.var 6) (.var 7)) (.cons (.bin .Add (.var 7) (.var 7)) .nil)))) (.cons (.tup (.cons (.var 6) (.cons (.bin .Add (.var 6) (.var 6)) .nil))) .nil))))) (.cons (.asg (.nm 12) (.bin .Add (.var 12) (.lst (.cons (.tup (.cons (.bin .Add (.var 6) (.var 7)) (.cons (.bin .Add (.bin .Add (.var 6) (.var 7)) (.var 7)) (.cons (.bin .Add (.bin .Add (.var 7) (.var 6)) (.var 7)) .nil)))) (.cons (.tup (.cons (.bin .Add (.var 6) (.var 7)) (.cons (.bin .Add (.bin .Add (.var 6) (.var 7)) (.var 6)) (.cons (.bin .Add (.var 7) (.var 6)) .nil)))) .nil))))) (.cons (.asg (.nm 4) (.call 25 (.cons (.var 0) (.cons (.var 12) .nil)) [some 0, none])) .nil)))) .nil)) .nil)) .nil)) (.cons (.asg (.nm 4) (.call 27 (.cons (.comp (.var 9) (.nm 9) (.vals (.var 4)) (.yes (.cmp .LtE (.bc .len (.cons (.var 9) .nil)) (.var 2))) [("row", 9)]) .nil) [none])) (.cons (.ret (.ite (.cmp .NotEq (.var 4) (.lst .nil)) (.slc (.var 4) .no (.yes (.var 3))) (.lst (.cons (.var 6) .nil)))) .nil))))
def f__law_outlines : Fn := ⟨14, 4, [0], b__law_outlines⟩
/-- _law_dictionary(pot, signs, letters, long, many); slots 0 pot, 1 signs, 2 letters, 3 long, 4 many, 5 rows, 6 way, 7 entries, 8 at, 9 own, 10 put, 11 row, 12 place, 13 sign -/
def b__law_dictionary : Ss :=
(.cons (.par [5, 6] (.cons (.call 32 (.cons (.var 0) (.cons (.var 1) (.cons (.var 3) (.cons (.var 4) .nil)))) [some 0, none, none, none]) (.cons (.call 24 (.cons (.var 0) (.cons (.cst (PyData.int 5)) .nil)) [some 0, none]) .nil))) (.cons (.ite (.cmp .Eq (.var 6) (.cst (PyData.int 0)))
(.cons (.asg (.nm 7) (.comp (.tup (.cons (.var 11) (.cons (.call 30 (.cons (.var 0) (.cons (.var 2) (.cons (.cst (PyData.int 2)) .nil))) [some 0, none, none]) .nil))) (.nm 11) (.vals (.var 5)) .no [("row", 11)])) .nil)
(.cons (.ite (.cmp .Eq (.var 6) (.cst (PyData.int 1)))
(.cons (.asg (.nm 9) (.call 28 (.cons (.var 0) (.cons (.bc .len (.cons (.var 5) .nil)) .nil)) [some 0, none])) (.cons (.asg (.nm 7) (.comp (.tup (.cons (.var 11) (.cons (.idx (.var 9) (.var 12)) .nil))) (.tp (.cons (.nm 12) (.cons (.nm 11) .nil))) (.enu (.var 5)) .no [("place", 12), ("row", 11)])) .nil))
(.cons (.asg (.nm 10) (.bc .dict (.cons (.comp (.tup (.cons (.var 13) (.cons (.call 30 (.cons (.var 0) (.cons (.var 2) (.cons (.cst (PyData.int 2)) .nil))) [some 0, none, none]) .nil))) (.nm 13) (.vals (.var 1)) .no [("sign", 13)]) .nil))) (.cons (.asg (.nm 7) (.comp (.tup (.cons (.var 11) (.cons (.slc (.mth .join (.cst (PyData.str "")) (.cons (.comp (.idx (.var 10) (.var 13)) (.nm 13) (.vals (.var 11)) .no [("sign", 13)]) .nil)) .no (.yes (.cst (PyData.int 8)))) .nil))) (.nm 11) (.vals (.var 5)) .no [("row", 11)])) .nil))) .nil)) (.cons (.ite (.cmp .Eq (.var 6) (.cst (PyData.int 4)))
(.cons (.asg (.nm 8) (.call 24 (.cons (.var 0) (.cons (.bc .len (.cons (.var 7) .nil)) .nil)) [some 0, none])) (.cons (.set 7 (.var 8) (.tup (.cons (.idx (.idx (.var 7) (.var 8)) (.cst (PyData.int 0))) (.cons (.call 30 (.cons (.var 0) (.cons (.var 2) (.cons (.cst (PyData.int 3)) .nil))) [some 0, none, none]) .nil)))) .nil))
.nil) (.cons (.ite (.cmp .Eq (.call 24 (.cons (.var 0) (.cons (.cst (PyData.int 6)) .nil)) [some 0, none]) (.cst (PyData.int 0)))
(.cons (.app 7 (.tup (.cons (.call 25 (.cons (.var 0) (.cons (.var 5) .nil)) [some 0, none]) (.cons (.call 30 (.cons (.var 0) (.cons (.var 2) (.cons (.cst (PyData.int 2)) .nil))) [some 0, none, none]) .nil)))) .nil)
.nil) (.cons (.ret (.bc .tuple (.cons (.call 27 (.cons (.var 7) .nil) [none]) .nil))) .nil)))))
def f__law_dictionary : Fn := ⟨14, 5, [0], b__law_dictionary⟩
/-- _law_is_int(value); slots 0 value -/
def b__law_is_int : Ss :=
(.cons (.ret (.and (.isi .int (.var 0)) (.inv (.isi .bool (.var 0))))) .nil)
def f__law_is_int : Fn := ⟨1, 1, [], b__law_is_int⟩
/-- _law_more(pot, dictionary, laps); slots 0 pot, 1 dictionary, 2 laps, 3 found, 4 lap, 5 parts, 6 entry, 7 part, 8 row, 9 text -/
def b__law_more : Ss :=
(.cons (.asg (.nm 3) (.bc .list (.cons (.var 1) .nil))) (.cons (.for (.nm 4) (.rng1 (.var 2))
(.cons (.asg (.nm 5) (.comp (.call 25 (.cons (.var 0) (.cons (.bc .list (.cons (.var 1) .nil)) .nil)) [some 0, none]) (.nm 7) (.rng1 (.bin .Add (.cst (PyData.int 2)) (.call 24 (.cons (.var 0) (.cons (.cst (PyData.int 2)) .nil)) [some 0, none]))) .no [("part", 7)])) (.cons (.asg (.nm 6) (.tup (.cons (.mth .join (.cst (PyData.str "")) (.cons (.comp (.var 8) (.tp (.cons (.nm 8) (.cons (.nm 9) .nil))) (.vals (.var 5)) .no [("row", 8), ("text", 9)]) .nil)) (.cons (.mth .join (.cst (PyData.str "")) (.cons (.comp (.var 9) (.tp (.cons (.nm 8) (.cons (.nm 9) .nil))) (.vals (.var 5)) .no [("row", 8), ("text", 9)]) .nil)) .nil)))) (.cons (.ite (.and (.cmp .LtE (.bc .len (.cons (.idx (.var 6) (.cst (PyData.int 0))) .nil)) (.cst (PyData.int 8))) (.and (.cmp .LtE (.bc .len (.cons (.idx (.var 6) (.cst (PyData.int 1))) .nil)) (.cst (PyData.int 8))) (.and (.cmp .NotIn (.var 6) (.var 3)) (.cmp .Lt (.bc .len (.cons (.var 3) .nil)) (.cst (PyData.int 16))))))
(.cons (.app 3 (.var 6)) .nil)
.nil) .nil)))) (.cons (.ret (.bc .tuple (.cons (.bc .sorted (.cons (.var 3) .nil)) .nil))) .nil)))
def f__law_more : Fn := ⟨10, 3, [0], b__law_more⟩
/-- _law_is_made(entry, others); slots 0 entry, 1 others, 2 known, 3 at, 4 to, 5 row, 6 text, 7 here, 8 its -/
def b__law_is_made : Ss :=
(.cons (.asg (.nm 2) (.dT1 (.tup (.cons (.cst (PyData.int 0)) (.cons (.cst (PyData.int 0)) .nil))) (.cst (PyData.bool true)))) (.cons (.for (.nm 3) (.rng1 (.bc .len (.cons (.idx (.var 0) (.cst (PyData.int 0))) .nil)))
(.cons (.for (.nm 4) (.vals (.comp (.var 8) (.tp (.cons (.nm 7) (.cons (.nm 8) .nil))) (.vals (.bc .list (.cons (.var 2) .nil))) (.yes (.cmp .Eq (.var 7) (.var 3))) [("here", 7), ("its", 8)]))
(.cons (.for (.tp (.cons (.nm 5) (.cons (.nm 6) .nil))) (.vals (.var 1))
(.cons (.ite (.and (.cmp .Eq (.slc (.idx (.var 0) (.cst (PyData.int 0))) (.yes (.var 3)) (.yes (.bin .Add (.var 3) (.bc .len (.cons (.var 5) .nil))))) (.var 5)) (.cmp .Eq (.slc (.idx (.var 0) (.cst (PyData.int 1))) (.yes (.var 4)) (.yes (.bin .Add (.var 4) (.bc .len (.cons (.var 6) .nil))))) (.var 6)))
(.cons (.set 2 (.tup (.cons (.bin .Add (.var 3) (.bc .len (.cons (.var 5) .nil))) (.cons (.bin .Add (.var 4) (.bc .len (.cons (.var 6) .nil))) .nil))) (.cst (PyData.bool true))) .nil)
.nil) .nil)) .nil)) .nil)) (.cons (.ret (.cmp .In (.tup (.cons (.bc .len (.cons (.idx (.var 0) (.cst (PyData.int 0))) .nil)) (.cons (.bc .len (.cons (.idx (.var 0) (.cst (PyData.int 1))) .nil)) .nil))) (.var 2))) .nil)))
def f__law_is_made : Fn := ⟨9, 2, [], b__law_is_made⟩
/-- _law_due(dictionary); slots 0 dictionary, 1 entry, 2 one -/
def b__law_due : Ss :=
(.cons (.ret (.bc .tuple (.cons (.comp (.var 1) (.nm 1) (.vals (.var 0)) (.yes (.inv (.call 36 (.cons (.var 1) (.cons (.comp (.var 2) (.nm 2) (.vals (.var 0)) (.yes (.cmp .NotEq (.var 2) (.var 1))) [("one", 2)]) .nil)) [none, none]))) [("entry", 1)]) .nil))) .nil)
def f__law_due : Fn := ⟨3, 1, [], b__law_due⟩
/-- _law_left(pot, dictionary); slots 0 pot, 1 dictionary, 2 left, 3 entry, 4 less -/
def b__law_left : Ss :=
(.cons (.asg (.nm 2) (.var 1)) (.cons (.for (.nm 3) (.vals (.call 29 (.cons (.var 0) (.cons (.var 1) (.cons (.bc .len (.cons (.var 1) .nil)) .nil))) [some 0, none, none]))
(.cons (.asg (.nm 4) (.ite (.cmp .Gt (.bc .len (.cons (.var 2) .nil)) (.cst (PyData.int 1))) (.call 13 (.cons (.var 2) (.cons (.var 3) .nil)) [none, none]) (.var 2))) (.cons (.ite (.and (.cmp .Gt (.bc .len (.cons (.var 2) .nil)) (.cst (PyData.int 1))) (.cmp .Eq (.idx (.call 20 (.cons (.tup (.cons (.var 3) .nil)) (.cons (.var 4) .nil)) [none, none]) (.cst (PyData.int 0))) (.cst (PyData.str "within"))))
(.cons (.asg (.nm 2) (.var 4)) .nil)
.nil) .nil))) (.cons (.ret (.var 2)) .nil)))
def f__law_left : Fn := ⟨5, 2, [0], b__law_left⟩
/-- _law_is_within(one, other, value); slots 0 one, 1 other, 2 value, 3 entry, 4 reading, 5 place -/
def b__law_is_within : Ss :=
(.cons (.ite (.or (.inv (.isi .tuple (.var 2))) (.or (.cmp .NotEq (.bc .len (.cons (.var 2) .nil)) (.cst (PyData.int 2))) (.or (.cmp .NotEq (.idx (.var 2) (.cst (PyData.int 0))) (.cst (PyData.str "within"))) (.or (.inv (.isi .tuple (.idx (.var 2) (.cst (PyData.int 1))))) (.cmp .NotEq (.bc .len (.cons (.idx (.var 2) (.cst (PyData.int 1))) .nil)) (.bc .len (.cons (.var 0) .nil)))))))
(.cons (.ret (.cst (PyData.bool false))) .nil)
.nil) (.cons (.for (.tp (.cons (.nm 3) (.cons (.nm 4) .nil))) (.zip (.var 0) (.idx (.var 2) (.cst (PyData.int 1))))
(.cons (.ite (.or (.inv (.isi .tuple (.var 4))) (.inv (.bc .all (.cons (.comp (.and (.call 34 (.cons (.var 5) .nil) [none]) (.chn .LtE .Lt (.cst (PyData.int 0)) (.var 5) (.bc .len (.cons (.var 1) .nil)))) (.nm 5) (.vals (.var 4)) .no [("place", 5)]) .nil))))
(.cons (.ret (.cst (PyData.bool false))) .nil)
.nil) (.cons (.ite (.cmp .NotEq (.tup (.cons (.mth .join (.cst (PyData.str "")) (.cons (.comp (.idx (.idx (.var 1) (.var 5)) (.cst (PyData.int 0))) (.nm 5) (.vals (.var 4)) .no [("place", 5)]) .nil)) (.cons (.mth .join (.cst (PyData.str "")) (.cons (.comp (.idx (.idx (.var 1) (.var 5)) (.cst (PyData.int 1))) (.nm 5) (.vals (.var 4)) .no [("place", 5)]) .nil)) .nil))) (.var 3))
(.cons (.ret (.cst (PyData.bool false))) .nil)
.nil) .nil))) (.cons (.ret (.cst (PyData.bool true))) .nil)))
def f__law_is_within : Fn := ⟨6, 3, [], b__law_is_within⟩
/-- _law_otherwise(pot, dictionary); slots 0 pot, 1 dictionary, 2 way, 3 at, 4 other, 5 row, 6 text -/
def b__law_otherwise : Ss :=
(.cons (.asg (.nm 2) (.call 24 (.cons (.var 0) (.cons (.cst (PyData.int 4)) .nil)) [some 0, none])) (.cons (.ite (.cmp .Lt (.var 2) (.cst (PyData.int 2)))
(.cons (.ret (.call 35 (.cons (.var 0) (.cons (.var 1) (.cons (.cst (PyData.int 2)) .nil))) [some 0, none, none])) .nil)
.nil) (.cons (.asg (.nm 3) (.call 24 (.cons (.var 0) (.cons (.bc .len (.cons (.var 1) .nil)) .nil)) [some 0, none])) (.cons (.ite (.and (.cmp .Eq (.var 2) (.cst (PyData.int 2))) (.cmp .Gt (.bc .len (.cons (.var 1) .nil)) (.cst (PyData.int 1))))
(.cons (.ret (.call 35 (.cons (.var 0) (.cons (.bin .Add (.slc (.var 1) .no (.yes (.var 3))) (.slc (.var 1) (.yes (.bin .Add (.var 3) (.cst (PyData.int 1)))) .no)) (.cons (.cst (PyData.int 2)) .nil))) [some 0, none, none])) .nil)
.nil) (.cons (.asg (.tp (.cons (.nm 5) (.cons (.nm 6) .nil))) (.idx (.var 1) (.var 3))) (.cons (.asg (.nm 4) (.bc .tuple (.cons (.call 27 (.cons (.bin .Add (.bin .Add (.slc (.var 1) .no (.yes (.var 3))) (.tup (.cons (.tup (.cons (.var 5) (.cons (.ite (.cmp .NotEq (.var 6) (.cst (PyData.str ""))) (.bin .Add (.slc (.var 6) (.yes (.cst (PyData.int 1))) .no) (.cst (PyData.str "q"))) (.cst (PyData.str "q"))) .nil))) .nil))) (.slc (.var 1) (.yes (.bin .Add (.var 3) (.cst (PyData.int 1)))) .no)) .nil) [none]) .nil))) (.cons (.ret (.call 35 (.cons (.var 0) (.cons (.var 4) (.cons (.cst (PyData.int 1)) .nil))) [some 0, none, none])) .nil)))))))
def f__law_otherwise : Fn := ⟨7, 2, [0], b__law_otherwise⟩
/-- _law_right(pot); slots 0 pot, 1 first, 2 whole, 3 due, 4 told, 5 bent, 6 entry, 7 other, 8 at, 9 to, 10 less, 11 lap -/
def b__law_right : Ss :=
(.cons (.asg (.nm 1) (.call 33 (.cons (.var 0) (.cons (.call 28 (.cons (.var 0) (.cons (.cst (PyData.int 2)) .nil)) [some 0, none]) (.cons (.call 28 (.cons (.var 0) (.cons (.cst (PyData.int 2)) .nil)) [some 0, none]) (.cons (.cst (PyData.int 4)) (.cons (.cst (PyData.int 4)) .nil))))) [some 0, none, none, none, none])) (.cons (.asg (.nm 2) (.call 35 (.cons (.var 0) (.cons (.var 1) (.cons (.cst (PyData.int 3)) .nil))) [some 0, none, none])) (.cons (.asg (.nm 3) (.call 37 (.cons (.var 2) .nil) [none])) (.cons (.ite (.or (.inv (.bc .all (.cons (.comp (.cmp .Eq (.bc .repr (.cons (.call 38 (.cons (.var 0) (.cons (.var 2) .nil)) [some 0, none]) .nil)) (.bc .repr (.cons (.var 3) .nil))) (.nm 11) (.rng1 (.cst (PyData.int 2))) .no [("lap", 11)]) .nil))) (.or (.cmp .IsNot (.call 22 (.cons (.var 2) (.cons (.var 3) .nil)) [none, none]) (.cst (PyData.bool true))) (.cmp .IsNot (.call 22 (.cons (.var 3) (.cons (.var 1) .nil)) [none, none]) (.cst (PyData.bool true)))))
(.cons (.ret (.cst (PyData.bool false))) .nil)
.nil) (.cons (.asg (.nm 4) (.call 20 (.cons (.var 2) (.cons (.var 3) .nil)) [none, none])) (.cons (.ite (.or (.inv (.call 39 (.cons (.var 2) (.cons (.var 3) (.cons (.var 4) .nil))) [none, none, none])) (.cmp .IsNot (.call 21 (.cons (.var 2) (.cons (.var 3) (.cons (.var 4) .nil))) [none, none, none]) (.cst (PyData.bool true))))
(.cons (.ret (.cst (PyData.bool false))) .nil)
.nil) (.cons (.par [8, 9] (.cons (.call 24 (.cons (.var 0) (.cons (.bc .len (.cons (.var 2) .nil)) .nil)) [some 0, none]) (.cons (.call 24 (.cons (.var 0) (.cons (.bc .len (.cons (.var 2) .nil)) .nil)) [some 0, none]) .nil))) (.cons (.asg (.nm 5) (.tup (.cons (.cst (PyData.str "within")) (.cons (.bin .Add (.bin .Add (.slc (.idx (.var 4) (.cst (PyData.int 1))) .no (.yes (.var 8))) (.slc (.idx (.var 4) (.cst (PyData.int 1))) (.yes (.var 9)) (.yes (.bin .Add (.var 9) (.cst (PyData.int 1)))))) (.slc (.idx (.var 4) (.cst (PyData.int 1))) (.yes (.bin .Add (.var 8) (.cst (PyData.int 1)))) .no)) .nil)))) (.cons (.ite (.cmp .NotEq (.bc .repr (.cons (.call 21 (.cons (.var 2) (.cons (.var 3) (.cons (.var 5) .nil))) [none, none, none]) .nil)) (.bc .repr (.cons (.call 39 (.cons (.var 2) (.cons (.var 3) (.cons (.var 5) .nil))) [none, none, none]) .nil)))
(.cons (.ret (.cst (PyData.bool false))) .nil)
.nil) (.cons (.for (.nm 6) (.vals (.ite (.cmp .Gt (.bc .len (.cons (.var 3) .nil)) (.cst (PyData.int 1))) (.var 3) (.tup .nil)))
(.cons (.asg (.nm 10) (.call 13 (.cons (.var 3) (.cons (.var 6) .nil)) [none, none])) (.cons (.ite (.or (.cmp .NotEq (.call 20 (.cons (.tup (.cons (.var 6) .nil)) (.cons (.var 10) .nil)) [none, none]) (.tup (.cons (.cst (PyData.str "entry")) (.cons (.cst (PyData.int 0)) .nil)))) (.or (.cmp .IsNot (.call 22 (.cons (.var 10) (.cons (.var 2) .nil)) [none, none]) (.cst (PyData.bool false))) (.cmp .NotEq (.call 12 (.cons (.var 10) (.cons (.var 6) .nil)) [none, none]) (.var 3))))
(.cons (.ret (.cst (PyData.bool false))) .nil)
.nil) .nil))) (.cons (.asg (.nm 7) (.call 40 (.cons (.var 0) (.cons (.var 1) .nil)) [some 0, none])) (.cons (.ret (.and (.cmp .Eq (.bc .repr (.cons (.call 22 (.cons (.var 2) (.cons (.var 7) .nil)) [none, none]) .nil)) (.bc .repr (.cons (.cmp .Eq (.var 3) (.call 37 (.cons (.var 7) .nil) [none])) .nil))) (.cmp .Eq (.bc .repr (.cons (.call 22 (.cons (.var 7) (.cons (.var 2) .nil)) [none, none]) .nil)) (.bc .repr (.cons (.call 22 (.cons (.var 2) (.cons (.var 7) .nil)) [none, none]) .nil))))) .nil))))))))))))
def f__law_right : Fn := ⟨12, 1, [0], b__law_right⟩
/-- law(script); slots 0 script, 1 place, 2 pot, 3 lap -/
def b_law : Ss :=
(.cons (.for (.nm 1) (.vals (.call 26 (.cons (.var 0) (.cons (.cst (PyData.int 2)) .nil)) [none, none]))
(.cons (.asg (.nm 2) (.call 23 (.cons (.var 0) (.cons (.var 1) .nil)) [none, none])) (.cons (.ite (.inv (.bc .all (.cons (.comp (.call 41 (.cons (.var 2) .nil) [some 2]) (.nm 3) (.rng1 (.cst (PyData.int 2))) .no [("lap", 3)]) .nil)))
(.cons (.ret (.cst (PyData.bool false))) .nil)
.nil) .nil))) (.cons (.ret (.cst (PyData.bool true))) .nil))
def f_law : Fn := ⟨4, 1, [], b_law⟩
def F : List Fn := [f_is_integer, f_is_between, f_are_between, f_is_tuple_of, f_is_ascending, f_are_signs, f_is_signs, f_is_entry_of, f_is_dictionary_of, f_check_dictionary, f_check_entry, f_check_many, f_with_entry, f_without_entry, f_is_reading_of, f_row_by, f_text_by, f_reading_for, f_within_by, f_check_both, f_within_told, f_shows_within, f_is_same, f__law_pot, f__law_take, f__law_of, f__law_cells, f__law_unlike, f__law_signs, f__law_some, f__law_row, f__law_leaves, f__law_outlines, f__law_dictionary, f__law_is_int, f__law_more, f__law_is_made, f__law_due, f__law_left, f__law_is_within, f__law_otherwise, f__law_right, f_law]
end PT
set_option maxRecDepth 100000
set_option maxHeartbeats 4000000
/-! S1: what the small defs come to. -/
namespace PT
open PySem PL
theorem F_13 : F[13]? = some f_without_entry := rfl
theorem F_34 : F[34]? = some f__law_is_int := rfl
theorem F_35 : F[35]? = some f__law_more := rfl
theorem F_36 : F[36]? = some f__law_is_made := rfl
theorem F_37 : F[37]? = some f__law_due := rfl
theorem F_38 : F[38]? = some f__law_left := rfl
theorem F_39 : F[39]? = some f__law_is_within := rfl
theorem F_40 : F[40]? = some f__law_otherwise := rfl
theorem F_0 : F[0]? = some f_is_integer := rfl
theorem F_1 : F[1]? = some f_is_between := rfl
theorem F_2 : F[2]? = some f_are_between := rfl
theorem F_3 : F[3]? = some f_is_tuple_of := rfl
theorem F_4 : F[4]? = some f_is_ascending := rfl
theorem F_5 : F[5]? = some f_are_signs := rfl
theorem F_6 : F[6]? = some f_is_signs := rfl
theorem F_7 : F[7]? = some f_is_entry_of := rfl
theorem F_8 : F[8]? = some f_is_dictionary_of := rfl
theorem F_9 : F[9]? = some f_check_dictionary := rfl
theorem F_10 : F[10]? = some f_check_entry := rfl
theorem F_11 : F[11]? = some f_check_many := rfl
theorem F_12 : F[12]? = some f_with_entry := rfl
theorem F_14 : F[14]? = some f_is_reading_of := rfl
theorem F_15 : F[15]? = some f_row_by := rfl
theorem F_16 : F[16]? = some f_text_by := rfl
theorem F_17 : F[17]? = some f_reading_for := rfl
theorem F_18 : F[18]? = some f_within_by := rfl
theorem F_19 : F[19]? = some f_check_both := rfl
theorem F_20 : F[20]? = some f_within_told := rfl
theorem F_21 : F[21]? = some f_shows_within := rfl
theorem F_22 : F[22]? = some f_is_same := rfl
theorem F_23 : F[23]? = some f__law_pot := rfl
theorem F_24 : F[24]? = some f__law_take := rfl
theorem F_25 : F[25]? = some f__law_of := rfl
theorem F_26 : F[26]? = some f__law_cells := rfl
theorem F_27 : F[27]? = some f__law_unlike := rfl
theorem F_28 : F[28]? = some f__law_signs := rfl
theorem F_29 : F[29]? = some f__law_some := rfl
theorem F_30 : F[30]? = some f__law_row := rfl
theorem F_31 : F[31]? = some f__law_leaves := rfl
theorem F_32 : F[32]? = some f__law_outlines := rfl
theorem F_33 : F[33]? = some f__law_dictionary := rfl
theorem F_41 : F[41]? = some f__law_right := rfl
theorem F_42 : F[42]? = some f_law := rfl
variable {N k : Nat}
theorem s_is_integer (i : Int) : run F N (k + 1) 0 [.val (.int i)] = some (.val (.bool true), [some (.val (.int i))]) := by
  rw [run_of F_0 rfl (by decide) rfl rfl]
  simp [f_is_integer, b_is_integer, e_var, e_cst, e_glb, e_tup, e_lst, e_bin, e_neg, e_cmp, e_chn, e_idx, e_slc, e_rev, e_call, e_bc, e_isi, e_lrg, e_mth, e_pop, e_dK, e_dT1, e_and, e_or, e_ite, e_inv, evt_inv, evt_cmp, evt_isi, evt_and, evt_or, evt_call, evt_bc, evt_chn, evs, evo, exs, ex, refr, passA, backA, valSl, b_val, b_fr, b_bo, b_tp, bindTs, bindP, PL.finish, retV, opBin, opCmp, opCmp.opIn, opEq, opIdx, opSlc, opRev, bcall, mcall, mtOk, opIsi, RV.dat, RV.frz, retOk, noList, noLists, obNl, gd_pos, keyD, keysD, wipeD, backD, valAt, evi, turnQ, evq]
theorem s_is_between (i lo hi : Int) : run F N (k + 2) 1 [.val (.int i), .val (.int lo), .val (.int hi)] = some (.val (.bool (decide (lo ≤ i ∧ i ≤ hi))), [some (.val (.int i)), some (.val (.int lo)), some (.val (.int hi))]) := by
  rw [run_of F_1 rfl (by decide) rfl rfl]
  by_cases h : lo ≤ i
  · simp [f_is_between, b_is_between, e_var, e_cst, e_glb, e_tup, e_lst, e_bin, e_neg, e_cmp, e_chn, e_idx, e_slc, e_rev, e_call, e_bc, e_isi, e_lrg, e_mth, e_pop, e_dK, e_dT1, e_and, e_or, e_ite, e_inv, evt_inv, evt_cmp, evt_isi, evt_and, evt_or, evt_call, evt_bc, evt_chn, evs, evo, exs, ex, refr, passA, backA, valSl, b_val, b_fr, b_bo, b_tp, bindTs, bindP, PL.finish, retV, opBin, opCmp, opCmp.opIn, opEq, opIdx, opSlc, opRev, bcall, mcall, mtOk, opIsi, RV.dat, RV.frz, retOk, noList, noLists, obNl, gd_pos, keyD, keysD, wipeD, backD, valAt, evi, turnQ, evq, s_is_integer, h]
  · simp [f_is_between, b_is_between, e_var, e_cst, e_glb, e_tup, e_lst, e_bin, e_neg, e_cmp, e_chn, e_idx, e_slc, e_rev, e_call, e_bc, e_isi, e_lrg, e_mth, e_pop, e_dK, e_dT1, e_and, e_or, e_ite, e_inv, evt_inv, evt_cmp, evt_isi, evt_and, evt_or, evt_call, evt_bc, evt_chn, evs, evo, exs, ex, refr, passA, backA, valSl, b_val, b_fr, b_bo, b_tp, bindTs, bindP, PL.finish, retV, opBin, opCmp, opCmp.opIn, opEq, opIdx, opSlc, opRev, bcall, mcall, mtOk, opIsi, RV.dat, RV.frz, retOk, noList, noLists, obNl, gd_pos, keyD, keysD, wipeD, backD, valAt, evi, turnQ, evq, s_is_integer, h]
theorem s_is_tuple_of (xs : List Da) (n : Int) : run F N (k + 1) 3 [.val (.tuple xs), .val (.int n)] = some (.val (.bool (decide ((xs.length : Int) = n))), [some (.val (.tuple xs)), some (.val (.int n))]) := by
  rw [run_of F_3 rfl (by decide) rfl rfl]
  simp [f_is_tuple_of, b_is_tuple_of, e_var, e_cst, e_glb, e_tup, e_lst, e_bin, e_neg, e_cmp, e_chn, e_idx, e_slc, e_rev, e_call, e_bc, e_isi, e_lrg, e_mth, e_pop, e_dK, e_dT1, e_and, e_or, e_ite, e_inv, evt_inv, evt_cmp, evt_isi, evt_and, evt_or, evt_call, evt_bc, evt_chn, evs, evo, exs, ex, refr, passA, backA, valSl, b_val, b_fr, b_bo, b_tp, bindTs, bindP, PL.finish, retV, opBin, opCmp, opCmp.opIn, opEq, opIdx, opSlc, opRev, bcall, mcall, mtOk, opIsi, RV.dat, RV.frz, retOk, noList, noLists, obNl, gd_pos, keyD, keysD, wipeD, backD, valAt, evi, turnQ, evq]
theorem s_are_between (r : List Int) (lo hi : Int) (hl : r.length ≤ LIM) : run F N (k + 3) 2 [.val (.tuple (r.map .int)), .val (.int lo), .val (.int hi)] =
    some (.val (.bool (r.all fun i => decide (lo ≤ i ∧ i ≤ hi))), [some (.val (.tuple (r.map .int))), some (.val (.int lo)), some (.val (.int hi))]) := by
  rw [run_of F_2 rfl (by decide) rfl rfl]
  simp only [f_are_between, b_are_between, e_var, e_cst, e_glb, e_tup, e_lst, e_bin, e_neg, e_cmp, e_chn, e_idx, e_slc, e_rev, e_call, e_bc, e_isi, e_lrg, e_mth, e_pop, e_dK, e_dT1, e_and, e_or, e_ite, e_inv, evt_inv, evt_cmp, evt_isi, evt_and, evt_or, evt_call, evt_bc, evt_chn, evs, evo, exs, ex, refr, passA, backA, valSl, b_val, b_fr, b_bo, b_tp, bindTs, bindP, PL.finish, retV, opBin, opCmp, opCmp.opIn, opEq, opIdx, opSlc, opRev, bcall, mcall, mtOk, opIsi, RV.dat, RV.frz, retOk, noList, noLists, obNl, gd_pos, keyD, keysD, wipeD, backD, valAt, evi, turnQ, evq]
  simp only [List.map_cons, List.map_nil, List.replicate, List.cons_append, List.nil_append, List.getElem?_cons_zero, Option.bind_some, Option.map_some, if_true, Nat.reduceSub]
  rw [comp_all PyData.int (fun i => .bool (decide (lo ≤ i ∧ i ≤ hi))) rfl (by simp) hl (fun x _ => ⟨[some (.val (.tuple (r.map .int))), some (.val (.int lo)), some (.val (.int hi)), some (.val (.int x))], by simp [e_var, e_cst, e_glb, e_tup, e_lst, e_bin, e_neg, e_cmp, e_chn, e_idx, e_slc, e_rev, e_call, e_bc, e_isi, e_lrg, e_mth, e_pop, e_dK, e_dT1, e_and, e_or, e_ite, e_inv, evt_inv, evt_cmp, evt_isi, evt_and, evt_or, evt_call, evt_bc, evt_chn, evs, evo, exs, ex, refr, passA, backA, valSl, b_val, b_fr, b_bo, b_tp, bindTs, bindP, PL.finish, retV, opBin, opCmp, opCmp.opIn, opEq, opIdx, opSlc, opRev, bcall, mcall, mtOk, opIsi, RV.dat, RV.frz, retOk, noList, noLists, obNl, gd_pos, keyD, keysD, wipeD, backD, valAt, evi, turnQ, evq, s_is_between], by simp [wipeD]⟩)]
  simp [e_var, e_cst, e_glb, e_tup, e_lst, e_bin, e_neg, e_cmp, e_chn, e_idx, e_slc, e_rev, e_call, e_bc, e_isi, e_lrg, e_mth, e_pop, e_dK, e_dT1, e_and, e_or, e_ite, e_inv, evt_inv, evt_cmp, evt_isi, evt_and, evt_or, evt_call, evt_bc, evt_chn, evs, evo, exs, ex, refr, passA, backA, valSl, b_val, b_fr, b_bo, b_tp, bindTs, bindP, PL.finish, retV, opBin, opCmp, opCmp.opIn, opEq, opIdx, opSlc, opRev, bcall, mcall, mtOk, opIsi, RV.dat, RV.frz, retOk, noList, noLists, obNl, gd_pos, keyD, keysD, wipeD, backD, valAt, evi, turnQ, evq, boolsD_map]
end PT
set_option maxRecDepth 100000
set_option maxHeartbeats 4000000
/-! S2: entries and dictionaries. -/
namespace PT
open PySem PL
abbrev Ent := Str × Str
def eD (e : Ent) : Da := .tuple [.str e.1, .str e.2]
def dD (d : List Ent) : Da := .tuple (d.map eD)
def Sg (lo hi : Nat) (s : Str) : Prop := lo ≤ s.length ∧ s.length ≤ hi ∧ ∀ c ∈ s.cps.toList, 97 ≤ c ∧ c ≤ 122
def Le (e : Ent) : Prop := Sg 1 8 e.1 ∧ Sg 0 8 e.2
def asc (d : List Ent) : Prop := ∀ p ∈ d.zip (d.drop 1), PySem.W.dataLt (eD p.1) (eD p.2) = true
def Dk (d : List Ent) : Prop := 1 ≤ d.length ∧ d.length ≤ 16 ∧ (∀ e ∈ d, Le e) ∧ asc d ∧ d.Nodup
theorem signs_list : (Str.ofString "abcdefghijklmnopqrstuvwxyz").cps.toList = List.range' 97 26 := by decide +kernel
theorem signs_mem {c : Nat} : c ∈ (Str.ofString "abcdefghijklmnopqrstuvwxyz").cps.toList ↔ 97 ≤ c ∧ c ≤ 122 := by
  rw [signs_list, List.mem_range'_1]
  omega
variable {N k : Nat}
theorem lim8 {n : Nat} (h : n ≤ 1000) : n ≤ LIM := by unfold LIM; omega
theorem s_are_signs {s : Str} (h : ∀ c ∈ s.cps.toList, 97 ≤ c ∧ c ≤ 122) (hl : s.length ≤ LIM) : run F N (k + 1) 5 [.val (.str s)] = some (.val (.bool true), [some (.val (.str s))]) := by
  rw [run_of F_5 rfl (by decide) rfl rfl]
  simp only [f_are_signs, b_are_signs, e_var, e_cst, e_glb, e_tup, e_lst, e_bin, e_neg, e_cmp, e_chn, e_idx, e_slc, e_rev, e_call, e_bc, e_isi, e_lrg, e_mth, e_pop, e_dK, e_dT1, e_and, e_or, e_ite, e_inv, evt_inv, evt_cmp, evt_isi, evt_and, evt_or, evt_call, evt_bc, evt_chn, evs, evo, exs, ex, refr, passA, backA, valSl, b_val, b_fr, b_bo, b_tp, bindTs, bindP, PL.finish, retV, opBin, opCmp, opCmp.opIn, opEq, opIdx, opSlc, opRev, bcall, mcall, mtOk, opIsi, RV.dat, RV.frz, retOk, noList, noLists, obNl, gd_pos, keyD, keysD, wipeD, backD, valAt, evi, turnQ, evq]
  simp only [List.map_cons, List.map_nil, List.replicate, List.cons_append, List.nil_append, List.getElem?_cons_zero, Option.bind_some, Option.map_some, if_true, Nat.reduceSub]
  rw [comp_all (fun c => PyData.str ⟨#[c]⟩) (fun c => .bool true) (l := s.cps.toList) rfl (by simp) hl (fun x hx => ⟨[some (.val (.str s)), some (.val (.str ⟨#[x]⟩))], by
    have := signs_mem.mpr (h x hx)
    have t2 : x ∈ (Str.ofString "abcdefghijklmnopqrstuvwxyz").cps := by simpa using this
    simp [e_var, e_cst, e_glb, e_tup, e_lst, e_bin, e_neg, e_cmp, e_chn, e_idx, e_slc, e_rev, e_call, e_bc, e_isi, e_lrg, e_mth, e_pop, e_dK, e_dT1, e_and, e_or, e_ite, e_inv, evt_inv, evt_cmp, evt_isi, evt_and, evt_or, evt_call, evt_bc, evt_chn, evs, evo, exs, ex, refr, passA, backA, valSl, b_val, b_fr, b_bo, b_tp, bindTs, bindP, PL.finish, retV, opBin, opCmp, opCmp.opIn, opEq, opIdx, opSlc, opRev, bcall, mcall, mtOk, opIsi, RV.dat, RV.frz, retOk, noList, noLists, obNl, gd_pos, keyD, keysD, wipeD, backD, valAt, evi, turnQ, evq, t2], by simp [wipeD]⟩)]
  simp [e_var, e_cst, e_glb, e_tup, e_lst, e_bin, e_neg, e_cmp, e_chn, e_idx, e_slc, e_rev, e_call, e_bc, e_isi, e_lrg, e_mth, e_pop, e_dK, e_dT1, e_and, e_or, e_ite, e_inv, evt_inv, evt_cmp, evt_isi, evt_and, evt_or, evt_call, evt_bc, evt_chn, evs, evo, exs, ex, refr, passA, backA, valSl, b_val, b_fr, b_bo, b_tp, bindTs, bindP, PL.finish, retV, opBin, opCmp, opCmp.opIn, opEq, opIdx, opSlc, opRev, bcall, mcall, mtOk, opIsi, RV.dat, RV.frz, retOk, noList, noLists, obNl, gd_pos, keyD, keysD, wipeD, backD, valAt, evi, turnQ, evq, boolsD_map]
theorem s_is_signs {s : Str} {lo hi : Nat} (h : Sg lo hi s) (hl : hi ≤ 1000) : run F N (k + 2) 6 [.val (.str s), .val (.int lo), .val (.int hi)] = some (.val (.bool true), [some (.val (.str s)), some (.val (.int lo)), some (.val (.int hi))]) := by
  obtain ⟨h1, h2, h3⟩ := h
  have hs : s.length ≤ LIM := lim8 (by omega)
  rw [run_of F_6 rfl (by decide) rfl rfl]
  simp [f_is_signs, b_is_signs, e_var, e_cst, e_glb, e_tup, e_lst, e_bin, e_neg, e_cmp, e_chn, e_idx, e_slc, e_rev, e_call, e_bc, e_isi, e_lrg, e_mth, e_pop, e_dK, e_dT1, e_and, e_or, e_ite, e_inv, evt_inv, evt_cmp, evt_isi, evt_and, evt_or, evt_call, evt_bc, evt_chn, evs, evo, exs, ex, refr, passA, backA, valSl, b_val, b_fr, b_bo, b_tp, bindTs, bindP, PL.finish, retV, opBin, opCmp, opCmp.opIn, opEq, opIdx, opSlc, opRev, bcall, mcall, mtOk, opIsi, RV.dat, RV.frz, retOk, noList, noLists, obNl, gd_pos, keyD, keysD, wipeD, backD, valAt, evi, turnQ, evq, s_are_signs h3 hs, hs, h1, h2]
theorem s_is_entry_of {e : Ent} (h : Le e) : run F N (k + 3) 7 [.val (eD e)] = some (.val (.bool true), [some (.val (eD e))]) := by
  obtain ⟨h1, h2⟩ := h
  have a1 : run F N (k + 2) 6 [.val (.str e.1), .val (.int 1), .val (.int 8)] = some (.val (.bool true), [some (.val (.str e.1)), some (.val (.int 1)), some (.val (.int 8))]) := s_is_signs h1 (by decide)
  have a2 : run F N (k + 2) 6 [.val (.str e.2), .val (.int 0), .val (.int 8)] = some (.val (.bool true), [some (.val (.str e.2)), some (.val (.int 0)), some (.val (.int 8))]) := s_is_signs h2 (by decide)
  rw [run_of F_7 rfl (by decide) rfl rfl]
  simp [f_is_entry_of, b_is_entry_of, e_var, e_cst, e_glb, e_tup, e_lst, e_bin, e_neg, e_cmp, e_chn, e_idx, e_slc, e_rev, e_call, e_bc, e_isi, e_lrg, e_mth, e_pop, e_dK, e_dT1, e_and, e_or, e_ite, e_inv, evt_inv, evt_cmp, evt_isi, evt_and, evt_or, evt_call, evt_bc, evt_chn, evs, evo, exs, ex, refr, passA, backA, valSl, b_val, b_fr, b_bo, b_tp, bindTs, bindP, PL.finish, retV, opBin, opCmp, opCmp.opIn, opEq, opIdx, opSlc, opRev, bcall, mcall, mtOk, opIsi, RV.dat, RV.frz, retOk, noList, noLists, obNl, gd_pos, keyD, keysD, wipeD, backD, valAt, evi, turnQ, evq, eD, s_is_tuple_of, a1, a2, L2.atI, L2.ixN]
theorem cut1 {α : Type} (l : List α) : cutD l (some 1) none = l.drop 1 := by
  unfold cutD
  have e : HT.sIx l.length 0 (some 1) = min 1 l.length := HT.sIx_nat l.length 0 1
  rw [e, HT.sIx_none]
  by_cases h : l.length = 0
  · have : l = [] := List.eq_nil_of_length_eq_zero h
    subst this
    rfl
  · have : min 1 l.length = 1 := by omega
    rw [this]
    exact List.take_of_length_le (by rw [List.length_drop]; omega)
theorem zipD_map {α β : Type} (f : α → Da) (g : β → Da) : ∀ (l : List α) (m : List β), zipD (l.map f) (m.map g) = (l.zip m).map fun p => .tuple [f p.1, g p.2]
  | [], _ => by simp [zipD]
  | _ :: _, [] => by simp [zipD]
  | x :: l, y :: m => by
    have := zipD_map f g l m
    unfold zipD at this ⊢
    simp only [List.map_cons, List.zipWith_cons_cons, List.zip_cons_cons, this]
theorem alike_e (a b : Ent) : PySem.W.alike (eD a) (eD b) = true := by simp [eD, PySem.W.alike, PySem.W.alikeAll]
theorem depth_e (a : Ent) : (eD a).depth ≤ 64 := by simp [eD, PyData.depth, PyData.depthAll]
theorem s_is_ascending {d : List Ent} (h : asc d) (hl : d.length ≤ LIM) : run F N (k + 1) 4 [.val (dD d)] = some (.val (.bool true), [some (.val (dD d))]) := by
  rw [run_of F_4 rfl (by decide) rfl rfl]
  simp only [f_is_ascending, b_is_ascending, e_var, e_cst, e_glb, e_tup, e_lst, e_bin, e_neg, e_cmp, e_chn, e_idx, e_slc, e_rev, e_call, e_bc, e_isi, e_lrg, e_mth, e_pop, e_dK, e_dT1, e_and, e_or, e_ite, e_inv, evt_inv, evt_cmp, evt_isi, evt_and, evt_or, evt_call, evt_bc, evt_chn, evs, evo, exs, ex, refr, passA, backA, valSl, b_val, b_fr, b_bo, b_tp, bindTs, bindP, PL.finish, retV, opBin, opCmp, opCmp.opIn, opEq, opIdx, opSlc, opRev, bcall, mcall, mtOk, opIsi, RV.dat, RV.frz, retOk, noList, noLists, obNl, gd_pos, keyD, keysD, wipeD, backD, valAt, evi, turnQ, evq, dD]
  simp only [List.map_cons, List.map_nil, List.replicate, List.cons_append, List.nil_append, List.getElem?_cons_zero, Option.bind_some, Option.map_some, if_true, Nat.reduceSub]
  have hi : evi (run F N k) (.zip (.var 0) (.slc (.var 0) (.yes (.cst (PyData.int 1))) .no)) [some (.val (.tuple (d.map eD))), none, none] = some ((d.zip (d.drop 1)).map (fun p => PyData.tuple [eD p.1, eD p.2]), [], [some (.val (.tuple (d.map eD))), none, none]) := by
    have z : zipD (d.map eD) (d.map eD).tail = (d.zip d.tail).map (fun p => PyData.tuple [eD p.1, eD p.2]) := by
      have e : (d.map eD).tail = d.tail.map eD := by cases d <;> rfl
      rw [e, zipD_map]
    simp [e_var, e_cst, e_glb, e_tup, e_lst, e_bin, e_neg, e_cmp, e_chn, e_idx, e_slc, e_rev, e_call, e_bc, e_isi, e_lrg, e_mth, e_pop, e_dK, e_dT1, e_and, e_or, e_ite, e_inv, evt_inv, evt_cmp, evt_isi, evt_and, evt_or, evt_call, evt_bc, evt_chn, evs, evo, exs, ex, refr, passA, backA, valSl, b_val, b_fr, b_bo, b_tp, bindTs, bindP, PL.finish, retV, opBin, opCmp, opCmp.opIn, opEq, opIdx, opSlc, opRev, bcall, mcall, mtOk, opIsi, RV.dat, RV.frz, retOk, noList, noLists, obNl, gd_pos, keyD, keysD, wipeD, backD, valAt, evi, turnQ, evq, cut1, z]
  rw [comp_all (fun p : Ent × Ent => PyData.tuple [eD p.1, eD p.2]) (fun _ => .bool true) hi (by simp) (by rw [List.length_zip]; omega) (fun x hx => ⟨[some (.val (.tuple (d.map eD))), some (.val (eD x.1)), some (.val (eD x.2))], by
    have h1 := h x hx
    have h2 := alike_e x.1 x.2
    have h3 := depth_e x.1
    unfold eD at h1 h2 h3
    simp [e_var, e_cst, e_glb, e_tup, e_lst, e_bin, e_neg, e_cmp, e_chn, e_idx, e_slc, e_rev, e_call, e_bc, e_isi, e_lrg, e_mth, e_pop, e_dK, e_dT1, e_and, e_or, e_ite, e_inv, evt_inv, evt_cmp, evt_isi, evt_and, evt_or, evt_call, evt_bc, evt_chn, evs, evo, exs, ex, refr, passA, backA, valSl, b_val, b_fr, b_bo, b_tp, bindTs, bindP, PL.finish, retV, opBin, opCmp, opCmp.opIn, opEq, opIdx, opSlc, opRev, bcall, mcall, mtOk, opIsi, RV.dat, RV.frz, retOk, noList, noLists, obNl, gd_pos, keyD, keysD, wipeD, backD, valAt, evi, turnQ, evq, eD, h1, h2, h3], by simp [wipeD]⟩)]
  simp [e_var, e_cst, e_glb, e_tup, e_lst, e_bin, e_neg, e_cmp, e_chn, e_idx, e_slc, e_rev, e_call, e_bc, e_isi, e_lrg, e_mth, e_pop, e_dK, e_dT1, e_and, e_or, e_ite, e_inv, evt_inv, evt_cmp, evt_isi, evt_and, evt_or, evt_call, evt_bc, evt_chn, evs, evo, exs, ex, refr, passA, backA, valSl, b_val, b_fr, b_bo, b_tp, bindTs, bindP, PL.finish, retV, opBin, opCmp, opCmp.opIn, opEq, opIdx, opSlc, opRev, bcall, mcall, mtOk, opIsi, RV.dat, RV.frz, retOk, noList, noLists, obNl, gd_pos, keyD, keysD, wipeD, backD, valAt, evi, turnQ, evq, boolsD_map]
theorem s_is_dictionary_of {d : List Ent} (h : Dk d) : run F N (k + 4) 8 [.val (dD d)] = some (.val (.bool true), [some (.val (dD d))]) := by
  obtain ⟨h1, h2, h3, h4, _⟩ := h
  have hl : d.length ≤ LIM := lim8 (by omega)
  have e1 : (1 : Int) ≤ d.length := by omega
  have e2 : (d.length : Int) ≤ 16 := by omega
  have a1 := s_is_ascending (N := N) (k := k + 2) h4 hl
  rw [run_of F_8 rfl (by decide) rfl rfl]
  simp only [f_is_dictionary_of, b_is_dictionary_of, e_var, e_cst, e_glb, e_tup, e_lst, e_bin, e_neg, e_cmp, e_chn, e_idx, e_slc, e_rev, e_call, e_bc, e_isi, e_lrg, e_mth, e_pop, e_dK, e_dT1, e_and, e_or, e_ite, e_inv, evt_inv, evt_cmp, evt_isi, evt_and, evt_or, evt_call, evt_bc, evt_chn, evs, evo, exs, ex, refr, passA, backA, valSl, b_val, b_fr, b_bo, b_tp, bindTs, bindP, PL.finish, retV, opBin, opCmp, opCmp.opIn, opEq, opIdx, opSlc, opRev, bcall, mcall, mtOk, opIsi, RV.dat, RV.frz, retOk, noList, noLists, obNl, gd_pos, keyD, keysD, wipeD, backD, valAt, evi, turnQ, evq, dD]
  simp only [List.map_cons, List.map_nil, List.replicate, List.cons_append, List.nil_append, List.getElem?_cons_zero, Option.bind_some, Option.map_some, if_true, Nat.reduceSub, List.length_map, e1, e2, decide_true, Bool.not_true, Bool.false_eq_true, if_false]
  rw [comp_all eD (fun _ => .bool true) (l := d) rfl (by simp) hl (fun x hx => ⟨[some (.val (.tuple (d.map eD))), some (.val (eD x))], by
    have := s_is_entry_of (N := N) (k := k) (h3 x hx)
    simp [e_var, e_cst, e_glb, e_tup, e_lst, e_bin, e_neg, e_cmp, e_chn, e_idx, e_slc, e_rev, e_call, e_bc, e_isi, e_lrg, e_mth, e_pop, e_dK, e_dT1, e_and, e_or, e_ite, e_inv, evt_inv, evt_cmp, evt_isi, evt_and, evt_or, evt_call, evt_bc, evt_chn, evs, evo, exs, ex, refr, passA, backA, valSl, b_val, b_fr, b_bo, b_tp, bindTs, bindP, PL.finish, retV, opBin, opCmp, opCmp.opIn, opEq, opIdx, opSlc, opRev, bcall, mcall, mtOk, opIsi, RV.dat, RV.frz, retOk, noList, noLists, obNl, gd_pos, keyD, keysD, wipeD, backD, valAt, evi, turnQ, evq, this], by simp [wipeD]⟩)]
  unfold dD at a1
  simp [e_var, e_cst, e_glb, e_tup, e_lst, e_bin, e_neg, e_cmp, e_chn, e_idx, e_slc, e_rev, e_call, e_bc, e_isi, e_lrg, e_mth, e_pop, e_dK, e_dT1, e_and, e_or, e_ite, e_inv, evt_inv, evt_cmp, evt_isi, evt_and, evt_or, evt_call, evt_bc, evt_chn, evs, evo, exs, ex, refr, passA, backA, valSl, b_val, b_fr, b_bo, b_tp, bindTs, bindP, PL.finish, retV, opBin, opCmp, opCmp.opIn, opEq, opIdx, opSlc, opRev, bcall, mcall, mtOk, opIsi, RV.dat, RV.frz, retOk, noList, noLists, obNl, gd_pos, keyD, keysD, wipeD, backD, valAt, evi, turnQ, evq, boolsD_map, a1]
theorem s_check_dictionary {d : List Ent} (h : Dk d) : run F N (k + 5) 9 [.val (dD d)] = some (.val (dD d), [some (.val (dD d))]) := by
  have a1 := s_is_dictionary_of (N := N) (k := k) h
  rw [run_of F_9 rfl (by decide) rfl rfl]
  simp [f_check_dictionary, b_check_dictionary, e_var, e_cst, e_glb, e_tup, e_lst, e_bin, e_neg, e_cmp, e_chn, e_idx, e_slc, e_rev, e_call, e_bc, e_isi, e_lrg, e_mth, e_pop, e_dK, e_dT1, e_and, e_or, e_ite, e_inv, evt_inv, evt_cmp, evt_isi, evt_and, evt_or, evt_call, evt_bc, evt_chn, evs, evo, exs, ex, refr, passA, backA, valSl, b_val, b_fr, b_bo, b_tp, bindTs, bindP, PL.finish, retV, opBin, opCmp, opCmp.opIn, opEq, opIdx, opSlc, opRev, bcall, mcall, mtOk, opIsi, RV.dat, RV.frz, retOk, noList, noLists, obNl, gd_pos, keyD, keysD, wipeD, backD, valAt, evi, turnQ, evq, a1]
theorem s_check_entry {e : Ent} (h : Le e) : run F N (k + 4) 10 [.val (eD e)] = some (.val .none, [some (.val (eD e))]) := by
  have a1 := s_is_entry_of (N := N) (k := k) h
  rw [run_of F_10 rfl (by decide) rfl rfl]
  simp [f_check_entry, b_check_entry, e_var, e_cst, e_glb, e_tup, e_lst, e_bin, e_neg, e_cmp, e_chn, e_idx, e_slc, e_rev, e_call, e_bc, e_isi, e_lrg, e_mth, e_pop, e_dK, e_dT1, e_and, e_or, e_ite, e_inv, evt_inv, evt_cmp, evt_isi, evt_and, evt_or, evt_call, evt_bc, evt_chn, evs, evo, exs, ex, refr, passA, backA, valSl, b_val, b_fr, b_bo, b_tp, bindTs, bindP, PL.finish, retV, opBin, opCmp, opCmp.opIn, opEq, opIdx, opSlc, opRev, bcall, mcall, mtOk, opIsi, RV.dat, RV.frz, retOk, noList, noLists, obNl, gd_pos, keyD, keysD, wipeD, backD, valAt, evi, turnQ, evq, a1]
theorem s_check_both {d e : List Ent} (h : Dk d) (h' : Dk e) : run F N (k + 6) 19 [.val (dD d), .val (dD e)] = some (.val .none, [some (.val (dD d)), some (.val (dD e))]) := by
  have a1 := s_check_dictionary (N := N) (k := k) h
  have a2 := s_check_dictionary (N := N) (k := k) h'
  have n1 : ∀ d : List Ent, noList (dD d) = true := fun d => by
    have : ∀ l : List Ent, noLists (l.map eD) = true := fun l => by
      induction l with
      | nil => rfl
      | cons x l ih => rw [List.map_cons, noLists, ih]; rfl
    exact this d
  rw [run_of F_19 rfl (by decide) rfl rfl]
  simp [f_check_both, b_check_both, e_var, e_cst, e_glb, e_tup, e_lst, e_bin, e_neg, e_cmp, e_chn, e_idx, e_slc, e_rev, e_call, e_bc, e_isi, e_lrg, e_mth, e_pop, e_dK, e_dT1, e_and, e_or, e_ite, e_inv, evt_inv, evt_cmp, evt_isi, evt_and, evt_or, evt_call, evt_bc, evt_chn, evs, evo, exs, ex, refr, passA, backA, valSl, b_val, b_fr, b_bo, b_tp, bindTs, bindP, PL.finish, retV, opBin, opCmp, opCmp.opIn, opEq, opIdx, opSlc, opRev, bcall, mcall, mtOk, opIsi, RV.dat, RV.frz, retOk, noList, noLists, obNl, gd_pos, keyD, keysD, wipeD, backD, valAt, evi, turnQ, evq, a1, a2, n1]
end PT
set_option maxRecDepth 100000
set_option maxHeartbeats 4000000
/-! BF: a breadth-first search for a reading (no program in sight). -/
namespace PT
abbrev Pt := Nat × Nat
abbrev LE := List Nat × List Nat
def hit (x y : List Nat) (i : Nat) : Bool := decide (i + y.length ≤ x.length ∧ (x.drop i).take y.length = y)
def lookP (f : List (Pt × List Nat)) (p : Pt) : Option (List Nat) := (f.find? fun e => decide (e.1 = p)).map (·.2)
def nxt (p : Pt) (e : LE) : Pt := (p.1 + e.1.length, p.2 + e.2.length)
abbrev BS := List (Pt × List Nat) × List Pt
def okStep (o t : List Nat) (p : Pt) (f : List (Pt × List Nat)) (e : LE) : Bool := hit o e.1 p.1 && (hit t e.2 p.2 && (lookP f (nxt p e)).isNone)
def stepE (o t : List Nat) (p : Pt) (st : BS) (i : Nat) (e : LE) : BS :=
  if okStep o t p st.1 e = true then (st.1 ++ [(nxt p e, (lookP st.1 p).getD [] ++ [i])], st.2 ++ [nxt p e]) else st
def foldE (o t : List Nat) (p : Pt) : Nat → List LE → BS → BS
  | _, [], st => st
  | i, e :: d, st => foldE o t p (i + 1) d (stepE o t p st i e)
def bfs (d : List LE) (o t : List Nat) : Nat → BS → Option (List Nat)
  | 0, _ => none
  | _ + 1, (_, []) => none
  | n + 1, (f, p :: w) => if p = (o.length, t.length) then lookP f p else bfs d o t n (foldE o t p 0 d (f, w))
def rowL (d : List LE) (r : List Nat) : List Nat := r.flatMap fun i => ((d[i]?).map (·.1)).getD []
def textL (d : List LE) (r : List Nat) : List Nat := r.flatMap fun i => ((d[i]?).map (·.2)).getD []
/-- r is a reading of (o, t) -/
def Rd (d : List LE) (o t : List Nat) (r : List Nat) : Prop := (∀ i ∈ r, i < d.length) ∧ rowL d r = o ∧ textL d r = t
def keysP (f : List (Pt × List Nat)) : List Pt := f.map (·.1)
theorem look_none {f : List (Pt × List Nat)} {p : Pt} : (lookP f p).isNone = true ↔ p ∉ keysP f := by
  unfold lookP keysP
  rw [Option.isNone_iff_eq_none, Option.map_eq_none_iff, List.find?_eq_none]
  simp only [decide_eq_true_eq, List.mem_map, not_exists, not_and]
theorem look_some {f : List (Pt × List Nat)} {p : Pt} (h : p ∈ keysP f) : ∃ r, lookP f p = some r ∧ (p, r) ∈ f := by
  cases e : lookP f p with
  | none =>
    have := look_none.mp (show (lookP f p).isNone = true by rw [e]; rfl)
    exact absurd h this
  | some r =>
    unfold lookP at e
    obtain ⟨⟨q, r'⟩, h1, h2⟩ := Option.map_eq_some_iff.mp e
    have h3 := List.mem_of_find?_eq_some h1
    have h4 : q = p := by simpa using List.find?_some h1
    cases h2
    subst h4
    exact ⟨r', rfl, h3⟩
structure BI (d : List LE) (o t : List Nat) (st : BS) : Prop where
  nd : (keysP st.1).Nodup
  rd : ∀ q r, (q, r) ∈ st.1 → q.1 ≤ o.length ∧ q.2 ≤ t.length ∧ Rd d (o.take q.1) (t.take q.2) r
  wk : ∀ p ∈ st.2, p ∈ keysP st.1
  zero : (0, 0) ∈ keysP st.1
/-- q has been served -/
def Clo (d : List LE) (o t : List Nat) (f : List (Pt × List Nat)) (q : Pt) : Prop := q ≠ (o.length, t.length) ∧ ∀ e ∈ d, hit o e.1 q.1 = true → hit t e.2 q.2 = true → nxt q e ∈ keysP f
theorem Clo.mono {d : List LE} {o t : List Nat} {f f' : List (Pt × List Nat)} {q : Pt} (h : Clo d o t f q) (s : ∀ x ∈ keysP f, x ∈ keysP f') : Clo d o t f' q := ⟨h.1, fun e he a b => s _ (h.2 e he a b)⟩
theorem hit_take {x y : List Nat} {i : Nat} (h : hit x y i = true) : i + y.length ≤ x.length ∧ x.take (i + y.length) = x.take i ++ y := by
  obtain ⟨h1, h2⟩ := of_decide_eq_true h
  refine ⟨h1, ?_⟩
  rw [List.take_add, h2]
theorem stepE_ok {d : List LE} {o t : List Nat} {p : Pt} {st : BS} {i : Nat} {e : LE} (h : BI d o t st) (hp : p ∈ keysP st.1) (he : d[i]? = some e) :
    BI d o t (stepE o t p st i e) ∧ (∀ x ∈ keysP st.1, x ∈ keysP (stepE o t p st i e).1) ∧ (∀ x ∈ st.2, x ∈ (stepE o t p st i e).2) ∧ (∀ x ∈ keysP (stepE o t p st i e).1, x ∈ keysP st.1 ∨ x ∈ (stepE o t p st i e).2) ∧
    (hit o e.1 p.1 = true → hit t e.2 p.2 = true → nxt p e ∈ keysP (stepE o t p st i e).1) ∧ (stepE o t p st i e).1.length + st.2.length = st.1.length + (stepE o t p st i e).2.length := by
  unfold stepE
  by_cases hc : okStep o t p st.1 e = true
  · rw [if_pos hc]
    have hc' := hc
    unfold okStep at hc'
    rw [Bool.and_eq_true, Bool.and_eq_true] at hc'
    obtain ⟨c1, c2, c3⟩ := hc'
    have c3 := look_none.mp c3
    obtain ⟨r, l1, l2⟩ := look_some hp
    obtain ⟨b1, b2, b3, b4, b5⟩ := h.rd p r l2
    obtain ⟨t1, t2⟩ := hit_take c1
    obtain ⟨t3, t4⟩ := hit_take c2
    have hi : i < d.length := by
      rcases Nat.lt_or_ge i d.length with z | z
      · exact z
      · rw [List.getElem?_eq_none z] at he; cases he
    have ek : keysP (st.1 ++ [(nxt p e, (lookP st.1 p).getD [] ++ [i])]) = keysP st.1 ++ [nxt p e] := by unfold keysP; simp
    refine ⟨⟨?_, fun q r' hq => ?_, fun x hx => ?_, ?_⟩, fun x hx => ?_, fun x hx => List.mem_append_left _ hx, fun x hx => ?_, fun _ _ => ?_, ?_⟩
    · rw [ek]
      refine List.nodup_append.mpr ⟨h.nd, by simp, fun a ha b hb => ?_⟩
      have : b = nxt p e := by simpa using hb
      rw [this]
      intro z
      exact c3 (z ▸ ha)
    · rcases List.mem_append.mp hq with hq | hq
      · exact h.rd q r' hq
      · have hq := List.mem_singleton.mp hq
        cases hq
        rw [l1]
        refine ⟨t1, t3, fun j hj => ?_, ?_, ?_⟩
        · rcases List.mem_append.mp hj with hj | hj
          · exact b3 j hj
          · rw [List.mem_singleton.mp hj]; exact hi
        · show rowL d (r ++ [i]) = o.take (p.1 + e.1.length)
          rw [t2, ← b4]
          unfold rowL
          rw [List.flatMap_append]
          simp [he]
        · show textL d (r ++ [i]) = t.take (p.2 + e.2.length)
          rw [t4, ← b5]
          unfold textL
          rw [List.flatMap_append]
          simp [he]
    · rw [ek]
      rcases List.mem_append.mp hx with hx | hx
      · exact List.mem_append_left _ (h.wk x hx)
      · exact List.mem_append_right _ hx
    · rw [ek]; exact List.mem_append_left _ h.zero
    · rw [ek]; exact List.mem_append_left _ hx
    · rw [ek] at hx
      rcases List.mem_append.mp hx with hx | hx
      · exact .inl hx
      · exact .inr (List.mem_append_right _ hx)
    · rw [ek]; exact List.mem_append_right _ (List.mem_singleton.mpr rfl)
    · simp only [List.length_append, List.length_singleton]
      omega
  · rw [if_neg hc]
    refine ⟨h, fun _ x => x, fun _ x => x, fun _ x => .inl x, fun a b => ?_, rfl⟩
    have : ¬ nxt p e ∉ keysP st.1 := fun z => hc (by
      unfold okStep
      rw [a, b, look_none.mpr z]
      rfl)
    exact Classical.not_not.mp this
theorem foldE_ok {d : List LE} {o t : List Nat} {p : Pt} : ∀ {ds : List LE} {i : Nat} {st : BS}, (∀ j e, ds[j]? = some e → d[i + j]? = some e) → BI d o t st → p ∈ keysP st.1 →
    BI d o t (foldE o t p i ds st) ∧ (∀ x ∈ keysP st.1, x ∈ keysP (foldE o t p i ds st).1) ∧ (∀ x ∈ st.2, x ∈ (foldE o t p i ds st).2) ∧ (∀ x ∈ keysP (foldE o t p i ds st).1, x ∈ keysP st.1 ∨ x ∈ (foldE o t p i ds st).2) ∧
    (∀ e ∈ ds, hit o e.1 p.1 = true → hit t e.2 p.2 = true → nxt p e ∈ keysP (foldE o t p i ds st).1) ∧ (foldE o t p i ds st).1.length + st.2.length = st.1.length + (foldE o t p i ds st).2.length
  | [], i, st, _, h, hp => ⟨h, fun _ x => x, fun _ x => x, fun _ x => .inl x, fun e he => absurd he (by simp), rfl⟩
  | e :: ds, i, st, hd, h, hp => by
    obtain ⟨a1, a2, a3, a4, a5, a6⟩ := stepE_ok (i := i) (e := e) h hp (hd 0 e rfl)
    obtain ⟨b1, b2, b3, b4, b5, b6⟩ := foldE_ok (ds := ds) (i := i + 1) (fun j e' hj => by
      have := hd (j + 1) e' (by simpa using hj)
      rw [← Nat.add_assoc, Nat.add_right_comm] at this
      exact this) a1 (a2 p hp)
    refine ⟨b1, fun x hx => b2 x (a2 x hx), fun x hx => b3 x (a3 x hx), fun x hx => ?_, fun e' he' u v => ?_, ?_⟩
    · rcases b4 x hx with z | z
      · rcases a4 x z with y | y
        · exact .inl y
        · exact .inr (b3 x y)
      · exact .inr z
    · rcases List.mem_cons.mp he' with z | z
      · subst z
        exact b2 _ (a5 u v)
      · exact b5 e' z u v
    · show (foldE o t p (i + 1) ds (stepE o t p st i e)).1.length + st.2.length = st.1.length + (foldE o t p (i + 1) ds (stepE o t p st i e)).2.length
      omega
/-! pigeonhole -/
theorem nodup_lt : ∀ (n : Nat) (l : List Nat), l.Nodup → (∀ x ∈ l, x < n) → l.length ≤ n
  | 0, l, _, h => by
    cases l with
    | nil => exact Nat.le_refl _
    | cons x l => exact absurd (h x List.mem_cons_self) (Nat.not_lt_zero _)
  | n + 1, l, hn, h => by
    have h1 := nodup_lt n (l.erase n) (hn.erase n) fun x hx => by
      obtain ⟨a, b⟩ := (List.Nodup.mem_erase_iff hn).mp hx
      have := h x b
      omega
    have h2 := List.length_erase (a := n) (l := l)
    split at h2
    · omega
    · omega
theorem keys_le {d : List LE} {o t : List Nat} {st : BS} (h : BI d o t st) : st.1.length ≤ (o.length + 1) * (t.length + 1) := by
  have e : (keysP st.1).length = st.1.length := by unfold keysP; rw [List.length_map]
  rw [← e]
  have hb : ∀ q ∈ keysP st.1, q.1 ≤ o.length ∧ q.2 ≤ t.length := fun q hq => by
    obtain ⟨r, _, hr⟩ := look_some hq
    obtain ⟨a, b, _⟩ := h.rd q r hr
    exact ⟨a, b⟩
  have hn : ((keysP st.1).map fun q => q.1 * (t.length + 1) + q.2).Nodup := by
    have := h.nd
    unfold List.Nodup at this ⊢
    rw [List.pairwise_map]
    refine this.imp_of_mem fun {a b} ha hb' ne e => ne ?_
    obtain ⟨a1, a2⟩ := hb a ha
    obtain ⟨b1, b2⟩ := hb b hb'
    have m1 : (a.1 * (t.length + 1) + a.2) / (t.length + 1) = a.1 := by
      rw [Nat.mul_comm, Nat.mul_add_div (by omega), Nat.div_eq_of_lt (by omega), Nat.add_zero]
    have m2 : (b.1 * (t.length + 1) + b.2) / (t.length + 1) = b.1 := by
      rw [Nat.mul_comm, Nat.mul_add_div (by omega), Nat.div_eq_of_lt (by omega), Nat.add_zero]
    have z : a.1 = b.1 := by rw [← m1, ← m2, e]
    have z2 : a.2 = b.2 := by rw [z] at e; omega
    exact Prod.ext z z2
  have := nodup_lt ((o.length + 1) * (t.length + 1)) _ hn fun x hx => by
    obtain ⟨q, hq, rfl⟩ := List.mem_map.mp hx
    obtain ⟨a1, a2⟩ := hb q hq
    have : q.1 * (t.length + 1) ≤ o.length * (t.length + 1) := Nat.mul_le_mul_right _ a1
    rw [Nat.add_mul]
    omega
  rw [List.length_map] at this
  exact this
def start0 : BS := ([((0, 0), [])], [(0, 0)])
theorem start_ok {d : List LE} {o t : List Nat} : BI d o t start0 where
  nd := by simp [keysP, start0]
  rd := fun q r h => by
    have h := List.mem_singleton.mp h
    cases h
    exact ⟨Nat.zero_le _, Nat.zero_le _, fun i hi => absurd hi (by simp), rfl, rfl⟩
  wk := fun p hp => by simpa [keysP, start0] using hp
  zero := by simp [keysP, start0]
def Srv (d : List LE) (o t : List Nat) (st : BS) : Prop := ∀ q ∈ keysP st.1, q ∈ st.2 ∨ Clo d o t st.1 q
/-- how many turns are left at most -/
def left (o t : List Nat) (st : BS) : Nat := (o.length + 1) * (t.length + 1) - st.1.length + st.2.length
theorem next_ok {d : List LE} {o t : List Nat} {f : List (Pt × List Nat)} {p : Pt} {w : List Pt} (h : BI d o t (f, p :: w)) (s : Srv d o t (f, p :: w)) (hp : p ≠ (o.length, t.length)) :
    BI d o t (foldE o t p 0 d (f, w)) ∧ Srv d o t (foldE o t p 0 d (f, w)) ∧ left o t (foldE o t p 0 d (f, w)) + 1 = left o t (f, p :: w) := by
  have hk := h.wk p List.mem_cons_self
  have h0 : BI d o t (f, w) := ⟨h.nd, h.rd, fun x hx => h.wk x (List.mem_cons_of_mem _ hx), h.zero⟩
  obtain ⟨b1, b2, b3, b4, b5, b6⟩ := foldE_ok (ds := d) (i := 0) (fun j e hj => by rw [Nat.zero_add]; exact hj) h0 hk
  refine ⟨b1, fun q hq => ?_, ?_⟩
  · rcases b4 q hq with z | z
    · rcases s q z with y | y
      · rcases List.mem_cons.mp y with y | y
        · right
          rw [y]
          exact ⟨hp, b5⟩
        · exact .inl (b3 q y)
      · exact .inr (y.mono b2)
    · exact .inl z
  · have k1 := keys_le b1
    have k2 := keys_le h0
    unfold left
    have b6' : (foldE o t p 0 d (f, w)).1.length + w.length = f.length + (foldE o t p 0 d (f, w)).2.length := b6
    have k2' : f.length ≤ (o.length + 1) * (t.length + 1) := k2
    show (o.length + 1) * (t.length + 1) - (foldE o t p 0 d (f, w)).1.length + (foldE o t p 0 d (f, w)).2.length + 1 = (o.length + 1) * (t.length + 1) - f.length + (w.length + 1)
    omega
theorem bfs_sound {d : List LE} {o t : List Nat} : ∀ (n : Nat) (st : BS), BI d o t st → Srv d o t st → ∀ r, bfs d o t n st = some r → Rd d o t r
  | 0, _, _, _, r, h => by cases h
  | n + 1, (f, []), _, _, r, h => by cases h
  | n + 1, (f, p :: w), hb, hs, r, h => by
    unfold bfs at h
    split at h
    · rename_i hp
      obtain ⟨r', l1, l2⟩ := look_some (hb.wk p List.mem_cons_self)
      rw [l1] at h
      cases h
      obtain ⟨_, _, q⟩ := hb.rd p r l2
      rw [hp] at q
      simpa using q
    · rename_i hp
      obtain ⟨a, b, _⟩ := next_ok hb hs hp
      exact bfs_sound n _ a b r h
/-- a reading leads to found keys -/
theorem reach {d : List LE} {o t : List Nat} {f : List (Pt × List Nat)} (h0 : (0, 0) ∈ keysP f) (hc : ∀ q ∈ keysP f, Clo d o t f q) : ∀ (r r' : List Nat), Rd d o t (r ++ r') → ((rowL d r).length, (textL d r).length) ∈ keysP f := by
  intro r
  have key : ∀ (n : Nat) (r r' : List Nat), r.length = n → Rd d o t (r ++ r') → ((rowL d r).length, (textL d r).length) ∈ keysP f := by
    intro n
    induction n with
    | zero =>
      intro r r' hr _
      have : r = [] := List.eq_nil_of_length_eq_zero hr
      subst this
      exact h0
    | succ n ih =>
      intro r r' hr h
      have hne : r ≠ [] := fun z => by rw [z] at hr; cases hr
      have er : r = r.dropLast ++ [r.getLast hne] := (List.dropLast_concat_getLast hne).symm
      generalize hi : r.getLast hne = i at er
      generalize r.dropLast = s at er
      subst er
      have hs : s.length = n := by simpa using hr
      have hd2 : Rd d o t (s ++ (i :: r')) := by simpa using h
      have ihs := ih s (i :: r') hs hd2
      obtain ⟨g1, g2, g3⟩ := hd2
      have hlt : i < d.length := g1 i (List.mem_append_right _ List.mem_cons_self)
      have e1 : o = rowL d s ++ (d[i].1 ++ rowL d r') := by
        rw [← g2]
        unfold rowL
        rw [List.flatMap_append, List.flatMap_cons]
        simp [List.getElem?_eq_getElem hlt]
      have e2 : t = textL d s ++ (d[i].2 ++ textL d r') := by
        rw [← g3]
        unfold textL
        rw [List.flatMap_append, List.flatMap_cons]
        simp [List.getElem?_eq_getElem hlt]
      have hh : ∀ (a b c : List Nat), hit (a ++ (b ++ c)) b a.length = true := fun a b c => by
        unfold hit
        rw [decide_eq_true_eq]
        refine ⟨by simp only [List.length_append]; omega, ?_⟩
        rw [List.drop_left, List.take_left]
      have c := (hc _ ihs).2 d[i] (List.getElem_mem hlt) (by rw [e1]; exact hh _ _ _) (by rw [e2]; exact hh _ _ _)
      have e3 : rowL d (s ++ [i]) = rowL d s ++ d[i].1 := by
        unfold rowL
        rw [List.flatMap_append]
        simp [List.getElem?_eq_getElem hlt]
      have e4 : textL d (s ++ [i]) = textL d s ++ d[i].2 := by
        unfold textL
        rw [List.flatMap_append]
        simp [List.getElem?_eq_getElem hlt]
      rw [e3, e4, List.length_append, List.length_append]
      exact c
  exact fun r' h => key r.length r r' rfl h
theorem bfs_full {d : List LE} {o t : List Nat} : ∀ (n : Nat) (st : BS), BI d o t st → Srv d o t st → left o t st < n → bfs d o t n st = none → ∀ r, ¬ Rd d o t r
  | 0, _, _, _, hl, _, r => absurd hl (Nat.not_lt_zero _)
  | n + 1, (f, []), hb, hs, hl, h, r => fun hr => by
    have hc : ∀ q ∈ keysP f, Clo d o t f q := fun q hq => (hs q hq).resolve_left (by simp)
    have := reach hb.zero hc r [] (by simpa using hr)
    rw [hr.2.1, hr.2.2] at this
    exact (hc _ this).1 rfl
  | n + 1, (f, p :: w), hb, hs, hl, h, r => by
    unfold bfs at h
    split at h
    · obtain ⟨r', l1, l2⟩ := look_some (hb.wk p List.mem_cons_self)
      rw [l1] at h
      cases h
    · rename_i hp
      obtain ⟨a, b, c⟩ := next_ok hb hs hp
      exact bfs_full n _ a b (by omega) h r
theorem start_srv {d : List LE} {o t : List Nat} : Srv d o t start0 := fun q hq => .inl (by simpa [keysP, start0] using hq)
end PT
set_option maxRecDepth 100000
set_option maxHeartbeats 4000000
/-! S3: reading_for is the search. -/
namespace PT
open PySem PL
open L2 (Key)
def lE (e : Ent) : LE := (e.1.cps.toList, e.2.cps.toList)
def pD (p : Pt) : Da := .tuple [.int p.1, .int p.2]
def rD (r : List Nat) : Da := .tuple (r.map fun (i : Nat) => .int i)
def tf (f : List (Pt × List Nat)) : List (List Key × Da) := f.map fun e => (([Sum.inl (e.1.1 : Int), Sum.inl (e.1.2 : Int)] : List Key), rD e.2)
theorem look_tf : ∀ (f : List (Pt × List Nat)) (a b : Nat), look (tf f) ([Sum.inl (a : Int), Sum.inl (b : Int)] : List Key) = (lookP f (a, b)).map rD
  | [], a, b => rfl
  | ((c, e), r) :: f, a, b => by
    have ih := look_tf f a b
    unfold look lookP tf at ih ⊢
    rw [List.map_cons, List.find?_cons, List.find?_cons]
    by_cases h : c = a ∧ e = b
    · obtain ⟨h1, h2⟩ := h
      subst h1 h2
      simp
    · have h1 : ¬ ((c : Int) = a ∧ (e : Int) = b) := fun z => h ⟨by omega, by omega⟩
      have e1 : decide (([Sum.inl (c : Int), Sum.inl (e : Int)] : List Key) = [.inl (a : Int), .inl (b : Int)]) = false := by
        rw [decide_eq_false_iff_not]
        intro z
        simp only [List.cons.injEq, Sum.inl.injEq, and_true] at z
        exact h1 z
      have e2 : decide (((c, e) : Pt) = (a, b)) = false := by
        rw [decide_eq_false_iff_not]
        intro z
        exact h (Prod.mk.inj z)
      simp only [e1, e2]
      exact ih
theorem has_tf (f : List (Pt × List Nat)) (a b : Nat) : has (tf f) ([Sum.inl (a : Int), Sum.inl (b : Int)] : List Key) = (lookP f (a, b)).isSome := by
  unfold has
  rw [look_tf]
  cases lookP f (a, b) <;> rfl
def enF : Nat → List Ent → List Da
  | _, [] => []
  | i, e :: d => .tuple [.int i, eD e] :: enF (i + 1) d
theorem enF_len : ∀ (i : Nat) (d : List Ent), (enF i d).length = d.length
  | _, [] => rfl
  | i, e :: d => by rw [enF, List.length_cons, enF_len, List.length_cons]
theorem enF_get : ∀ (i j : Nat) (d : List Ent), (enF i d)[j]? = (d[j]?).map fun e => .tuple [.int ((i + j : Nat) : Int), eD e]
  | i, j, [] => by simp [enF]
  | i, 0, e :: d => by simp [enF]
  | i, j + 1, e :: d => by
    rw [enF, List.getElem?_cons_succ, List.getElem?_cons_succ, enF_get (i + 1) j d]
    congr 1
    funext e
    congr 4
    omega
theorem enumD_enF (d : List Ent) : enumD (d.map eD) = enF 0 d := by
  apply List.ext_getElem?
  intro j
  rw [enF_get]
  unfold enumD
  rw [List.getElem?_zipWith, List.getElem?_map, List.length_map]
  rcases Nat.lt_or_ge j d.length with h | h
  · simp [List.getElem?_eq_getElem h, h]
  · simp [List.getElem?_eq_none h]
theorem lay_p (p : Pt) : (pD p).canLay0 = true := by simp [pD, PyData.canLay0, PyData.canLayAll0]
theorem lay_ps : ∀ w : List Pt, PyData.canLayAll0 (w.map pD) = true
  | [] => rfl
  | p :: w => by rw [List.map_cons, PyData.canLayAll0, lay_p, lay_ps w]; rfl
theorem dep_ps : ∀ w : List Pt, PyData.depthAll (w.map pD) ≤ 10
  | [] => by simp [PyData.depthAll]
  | p :: w => by
    have := dep_ps w
    simp only [List.map_cons, PyData.depthAll, pD, PyData.depth] at this ⊢
    omega
theorem eq_nil (w : List Pt) : opEq (.list (w.map pD)) (.list []) = some (decide (w = [])) := by
  have ok : eqOk (.list (w.map pD)) (.list []) := by
    refine ⟨by simp only [PyData.canLay0]; exact lay_ps w, rfl, ?_, by decide⟩
    have := dep_ps w
    simp only [PyData.depth]
    omega
  rw [show opEq (.list (w.map pD)) (.list []) = (gd (eqOk (.list (w.map pD)) (.list []))).map fun _ => PyData.eqv (.list (w.map pD)) (.list []) from rfl, gd_pos ok]
  cases w <;> rfl
theorem eq_pair (a b c d : Int) : opEq (.tuple [.int a, .int b]) (.tuple [.int c, .int d]) = some (decide (a = c ∧ b = d)) := by
  have ok : eqOk (.tuple [.int a, .int b]) (.tuple [.int c, .int d]) := ⟨rfl, rfl, by simp [PyData.depth, PyData.depthAll], by simp [PyData.depth, PyData.depthAll]⟩
  rw [show opEq (.tuple [.int a, .int b]) (.tuple [.int c, .int d]) = (gd (eqOk (.tuple [.int a, .int b]) (.tuple [.int c, .int d]))).map fun _ => PyData.eqv (.tuple [.int a, .int b]) (.tuple [.int c, .int d]) from rfl, gd_pos ok]
  simp only [PyData.eqv, PyData.eqvAll, Option.map_some, Bool.and_true, Bool.decide_and]
  simp [Bool.beq_eq_decide_eq]
section
variable {d : List Ent} {o t : Str}
/-- the slots of reading_for while it searches -/
def rE (d : List Ent) (o t : Str) (st : BS) (x5 x6 x7 x8 x9 x10 : Option SV) : En :=
  [some (.val (dD d)), some (.val (.str o)), some (.val (.str t)), some (.own (.T (tf st.1))), some (.own (.L (st.2.map pD))), x5, x6, x7, x8, x9, x10]
def bI : Ss := (.cons (.asg (.nm 8) (.tup (.cons (.bin .Add (.var 5) (.bc .len (.cons (.var 9) .nil))) (.cons (.bin .Add (.var 6) (.bc .len (.cons (.var 10) .nil))) .nil)))) (.cons (.ite (.and (.mth .starts2 (.var 1) (.cons (.var 9) (.cons (.var 5) .nil))) (.and (.mth .starts2 (.var 2) (.cons (.var 10) (.cons (.var 6) .nil))) (.cmp .NotIn (.var 8) (.var 3))))
  (.cons (.set 3 (.var 8) (.tup (.star (.idx (.var 3) (.tup (.cons (.var 5) (.cons (.var 6) .nil)))) (.cons (.var 7) .nil)))) (.cons (.app 4 (.var 8)) .nil)) .nil) .nil))
theorem evt_mth {C : Cl} {env : En} {m : Mt} {a : E} {es : Es} : evt C (.mth m a es) env = (ev C (.mth m a es) env).bind fun p => match p.1 with
  | .val (.bool b) => some (b, p.2)
  | _ => none := rfl
theorem hit_dec (x y : Str) (a : Nat) : decide ((a : Int) + (y.length : Int) ≤ (x.length : Int) ∧ (x.cps.toList.drop ((a : Int)).toNat).take y.length = y.cps.toList) = hit x.cps.toList y.cps.toList a := by
  unfold hit
  rw [decide_eq_decide, Int.toNat_natCast]
  have e1 : y.cps.toList.length = y.length := by simp [Str.length]
  have e2 : x.cps.toList.length = x.length := by simp [Str.length]
  rw [e1, e2]
  constructor
  · rintro ⟨h1, h2⟩; exact ⟨by omega, h2⟩
  · rintro ⟨h1, h2⟩; exact ⟨by omega, h2⟩
theorem mapM_frz : ∀ (r : List Nat) (i : Nat), (((r.map fun (i : Nat) => PyData.int i).map RV.val) ++ [RV.val (.int i)]).mapM RV.frz = some ((r ++ [i]).map fun (i : Nat) => PyData.int i)
  | [], i => rfl
  | x :: r, i => by
    have := mapM_frz r i
    simp only [List.map_cons, List.cons_append, List.mapM_cons, this, RV.frz]
    rfl
theorem inner_turn {C : Cl} {N : Nat} {st : BS} {p : Pt} {i : Nat} {e : Ent} {x7 x8 x9 x10 : Option SV} (h1 : e.1.length ≤ 8) (h2 : e.2.length ≤ 8) (hf : st.1.length < 1000) (hw : st.2.length < 1000) {r : List Nat} (hr : lookP st.1 p = some r) (hrl : r.length ≤ 8) :
    ∃ y7 y8 y9 y10, ((bindT [] (.tp (.cons (.nm 7) (.cons (.tp (.cons (.nm 9) (.cons (.nm 10) .nil))) .nil))) (.val (.tuple [.int i, eD e])) (rE d o t st (some (.val (.int p.1))) (some (.val (.int p.2))) x7 x8 x9 x10)).bind fun e1 => exs C N [] bI e1) =
      some (.nx (rE d o t (stepE o.cps.toList t.cps.toList p st i (lE e)) (some (.val (.int p.1))) (some (.val (.int p.2))) y7 y8 y9 y10)) := by
  obtain ⟨a, b⟩ := p
  have l1 : e.1.length ≤ LIM := lim8 (by omega)
  have l2 : e.2.length ≤ LIM := lim8 (by omega)
  have lf : (tf st.1).length < LIM := by unfold tf LIM; rw [List.length_map]; omega
  have lw : (st.2.map pD).length < LIM := by unfold LIM; rw [List.length_map]; omega
  have lr : r.length + 1 ≤ LIM := lim8 (by omega)
  have lr' : ((r ++ [i]).map fun (i : Nat) => PyData.int i).length ≤ LIM := by simpa using lr
  have l2' : 2 ≤ LIM := lim8 (by omega)
  have hk : look (tf st.1) ([Sum.inl (a : Int), Sum.inl (b : Int)] : List Key) = some (rD r) := by rw [look_tf, hr]; rfl
  have c1 : (a : Int) + (e.1.length : Int) = ((a + e.1.length : Nat) : Int) := by omega
  have c2 : (b : Int) + (e.2.length : Int) = ((b + e.2.length : Nat) : Int) := by omega
  have a0 : (0 : Int) ≤ a := by omega
  have b0 : (0 : Int) ≤ b := by omega
  have en1 : (lE e).1.length = e.1.length := by simp [lE, Str.length]
  have en2 : (lE e).2.length = e.2.length := by simp [lE, Str.length]
  refine ⟨some (.val (.int i)), some (.val (pD (a + e.1.length, b + e.2.length))), some (.val (.str e.1)), some (.val (.str e.2)), ?_⟩
  have ht : bindT [] (.tp (.cons (.nm 7) (.cons (.tp (.cons (.nm 9) (.cons (.nm 10) .nil))) .nil))) (.val (.tuple [.int i, eD e])) (rE d o t st (some (.val (.int a))) (some (.val (.int b))) x7 x8 x9 x10) =
      some (rE d o t st (some (.val (.int a))) (some (.val (.int b))) (some (.val (.int i))) x8 (some (.val (.str e.1))) (some (.val (.str e.2)))) := by
    simp [b_val, b_tp, bindTs, rE, eD]
  rw [ht]
  simp only [Option.bind_some]
  have h8 : ex C N [] (.asg (.nm 8) (.tup (.cons (.bin .Add (.var 5) (.bc .len (.cons (.var 9) .nil))) (.cons (.bin .Add (.var 6) (.bc .len (.cons (.var 10) .nil))) .nil)))) (rE d o t st (some (.val (.int a))) (some (.val (.int b))) (some (.val (.int i))) x8 (some (.val (.str e.1))) (some (.val (.str e.2)))) =
      some (.nx (rE d o t st (some (.val (.int a))) (some (.val (.int b))) (some (.val (.int i))) (some (.val (pD (a + e.1.length, b + e.2.length)))) (some (.val (.str e.1))) (some (.val (.str e.2))))) := by
    simp [e_var, e_cst, e_glb, e_tup, e_lst, e_bin, e_neg, e_cmp, e_chn, e_idx, e_slc, e_rev, e_call, e_bc, e_isi, e_lrg, e_mth, e_pop, e_dK, e_dT1, e_and, e_or, e_ite, e_inv, evt_inv, evt_cmp, evt_isi, evt_and, evt_or, evt_call, evt_bc, evt_chn, evs, evo, exs, ex, refr, passA, backA, valSl, b_val, b_fr, b_bo, b_tp, bindTs, bindP, PL.finish, retV, opBin, opCmp, opCmp.opIn, opEq, opIdx, opSlc, opRev, bcall, mcall, mtOk, opIsi, RV.dat, RV.frz, retOk, noList, noLists, obNl, gd_pos, keyD, keysD, wipeD, backD, valAt, evi, turnQ, evq, rE, pD, l1, l2, l2']
  have hc : evt C (.and (.mth .starts2 (.var 1) (.cons (.var 9) (.cons (.var 5) .nil))) (.and (.mth .starts2 (.var 2) (.cons (.var 10) (.cons (.var 6) .nil))) (.cmp .NotIn (.var 8) (.var 3)))) (rE d o t st (some (.val (.int a))) (some (.val (.int b))) (some (.val (.int i))) (some (.val (pD (a + e.1.length, b + e.2.length)))) (some (.val (.str e.1))) (some (.val (.str e.2)))) =
      some (okStep o.cps.toList t.cps.toList (a, b) st.1 (lE e), rE d o t st (some (.val (.int a))) (some (.val (.int b))) (some (.val (.int i))) (some (.val (pD (a + e.1.length, b + e.2.length)))) (some (.val (.str e.1))) (some (.val (.str e.2)))) := by
    have g1 : ev C (.mth .starts2 (.var 1) (.cons (.var 9) (.cons (.var 5) .nil))) (rE d o t st (some (.val (.int a))) (some (.val (.int b))) (some (.val (.int i))) (some (.val (pD (a + e.1.length, b + e.2.length)))) (some (.val (.str e.1))) (some (.val (.str e.2)))) = some (.val (.bool (hit o.cps.toList e.1.cps.toList a)), rE d o t st (some (.val (.int a))) (some (.val (.int b))) (some (.val (.int i))) (some (.val (pD (a + e.1.length, b + e.2.length)))) (some (.val (.str e.1))) (some (.val (.str e.2)))) := by
      rw [← hit_dec]
      simp [e_var, e_cst, e_glb, e_tup, e_lst, e_bin, e_neg, e_cmp, e_chn, e_idx, e_slc, e_rev, e_call, e_bc, e_isi, e_lrg, e_mth, e_pop, e_dK, e_dT1, e_and, e_or, e_ite, e_inv, evt_inv, evt_cmp, evt_isi, evt_and, evt_or, evt_call, evt_bc, evt_chn, evs, evo, exs, ex, refr, passA, backA, valSl, b_val, b_fr, b_bo, b_tp, bindTs, bindP, PL.finish, retV, opBin, opCmp, opCmp.opIn, opEq, opIdx, opSlc, opRev, bcall, mcall, mtOk, opIsi, RV.dat, RV.frz, retOk, noList, noLists, obNl, gd_pos, keyD, keysD, wipeD, backD, valAt, evi, turnQ, evq, rE, a0, -Bool.decide_and]
    have g2 : ev C (.mth .starts2 (.var 2) (.cons (.var 10) (.cons (.var 6) .nil))) (rE d o t st (some (.val (.int a))) (some (.val (.int b))) (some (.val (.int i))) (some (.val (pD (a + e.1.length, b + e.2.length)))) (some (.val (.str e.1))) (some (.val (.str e.2)))) = some (.val (.bool (hit t.cps.toList e.2.cps.toList b)), rE d o t st (some (.val (.int a))) (some (.val (.int b))) (some (.val (.int i))) (some (.val (pD (a + e.1.length, b + e.2.length)))) (some (.val (.str e.1))) (some (.val (.str e.2)))) := by
      rw [← hit_dec]
      simp [e_var, e_cst, e_glb, e_tup, e_lst, e_bin, e_neg, e_cmp, e_chn, e_idx, e_slc, e_rev, e_call, e_bc, e_isi, e_lrg, e_mth, e_pop, e_dK, e_dT1, e_and, e_or, e_ite, e_inv, evt_inv, evt_cmp, evt_isi, evt_and, evt_or, evt_call, evt_bc, evt_chn, evs, evo, exs, ex, refr, passA, backA, valSl, b_val, b_fr, b_bo, b_tp, bindTs, bindP, PL.finish, retV, opBin, opCmp, opCmp.opIn, opEq, opIdx, opSlc, opRev, bcall, mcall, mtOk, opIsi, RV.dat, RV.frz, retOk, noList, noLists, obNl, gd_pos, keyD, keysD, wipeD, backD, valAt, evi, turnQ, evq, rE, b0, -Bool.decide_and]
    have g3 : evt C (.cmp .NotIn (.var 8) (.var 3)) (rE d o t st (some (.val (.int a))) (some (.val (.int b))) (some (.val (.int i))) (some (.val (pD (a + e.1.length, b + e.2.length)))) (some (.val (.str e.1))) (some (.val (.str e.2)))) = some ((lookP st.1 (a + e.1.length, b + e.2.length)).isNone, rE d o t st (some (.val (.int a))) (some (.val (.int b))) (some (.val (.int i))) (some (.val (pD (a + e.1.length, b + e.2.length)))) (some (.val (.str e.1))) (some (.val (.str e.2)))) := by
      have := has_tf st.1 (a + e.1.length) (b + e.2.length)
      simp only [Int.natCast_add] at this
      simp [e_var, e_cst, e_glb, e_tup, e_lst, e_bin, e_neg, e_cmp, e_chn, e_idx, e_slc, e_rev, e_call, e_bc, e_isi, e_lrg, e_mth, e_pop, e_dK, e_dT1, e_and, e_or, e_ite, e_inv, evt_inv, evt_cmp, evt_isi, evt_and, evt_or, evt_call, evt_bc, evt_chn, evs, evo, exs, ex, refr, passA, backA, valSl, b_val, b_fr, b_bo, b_tp, bindTs, bindP, PL.finish, retV, opBin, opCmp, opCmp.opIn, opEq, opIdx, opSlc, opRev, bcall, mcall, mtOk, opIsi, RV.dat, RV.frz, retOk, noList, noLists, obNl, gd_pos, keyD, keysD, wipeD, backD, valAt, evi, turnQ, evq, rE, pD, this]
    rw [evt_and, t_of g1]
    simp only [Option.bind_some]
    unfold okStep nxt
    rw [en1, en2]
    by_cases q1 : hit o.cps.toList e.1.cps.toList a = true
    · rw [if_pos q1, evt_and, t_of g2]
      simp only [Option.bind_some]
      by_cases q2 : hit t.cps.toList e.2.cps.toList b = true
      · rw [if_pos q2, g3]
        simp [lE, q1, q2]
      · rw [if_neg q2]
        simp [lE, q1, q2]
    · rw [if_neg q1]
      simp [lE, q1]
  unfold bI
  rw [exs, h8]
  simp only [Option.bind_some]
  rw [exs, ex, hc]
  simp only [Option.bind_some]
  unfold stepE
  by_cases q : okStep o.cps.toList t.cps.toList (a, b) st.1 (lE e) = true
  · have q3 : has (tf st.1) ([Sum.inl ((a + e.1.length : Nat) : Int), Sum.inl ((b + e.2.length : Nat) : Int)] : List Key) = false := by
      rw [has_tf]
      unfold okStep nxt at q
      rw [Bool.and_eq_true, Bool.and_eq_true, en1, en2] at q
      rw [Option.isNone_iff_eq_none.mp q.2.2]
      rfl
    simp only [q, if_true]
    unfold nxt
    rw [en1, en2, hr]
    simp only [Int.natCast_add] at q3
    have hi : ev C (.idx (.var 3) (.tup (.cons (.var 5) (.cons (.var 6) .nil)))) (rE d o t st (some (.val (.int a))) (some (.val (.int b))) (some (.val (.int i))) (some (.val (pD (a + e.1.length, b + e.2.length)))) (some (.val (.str e.1))) (some (.val (.str e.2)))) =
        some (.val (rD r), rE d o t st (some (.val (.int a))) (some (.val (.int b))) (some (.val (.int i))) (some (.val (pD (a + e.1.length, b + e.2.length)))) (some (.val (.str e.1))) (some (.val (.str e.2)))) := by
      simp [e_var, e_cst, e_glb, e_tup, e_lst, e_bin, e_neg, e_cmp, e_chn, e_idx, e_slc, e_rev, e_call, e_bc, e_isi, e_lrg, e_mth, e_pop, e_dK, e_dT1, e_and, e_or, e_ite, e_inv, evt_inv, evt_cmp, evt_isi, evt_and, evt_or, evt_call, evt_bc, evt_chn, evs, evo, exs, ex, refr, passA, backA, valSl, b_val, b_fr, b_bo, b_tp, bindTs, bindP, PL.finish, retV, opBin, opCmp, opCmp.opIn, opEq, opIdx, opSlc, opRev, bcall, mcall, mtOk, opIsi, RV.dat, RV.frz, retOk, noList, noLists, obNl, gd_pos, keyD, keysD, wipeD, backD, valAt, evi, turnQ, evq, rE, hk, l2']
    have hv : ev C (.tup (.star (.idx (.var 3) (.tup (.cons (.var 5) (.cons (.var 6) .nil)))) (.cons (.var 7) .nil))) (rE d o t st (some (.val (.int a))) (some (.val (.int b))) (some (.val (.int i))) (some (.val (pD (a + e.1.length, b + e.2.length)))) (some (.val (.str e.1))) (some (.val (.str e.2)))) =
        some (.val (rD (r ++ [i])), rE d o t st (some (.val (.int a))) (some (.val (.int b))) (some (.val (.int i))) (some (.val (pD (a + e.1.length, b + e.2.length)))) (some (.val (.str e.1))) (some (.val (.str e.2)))) := by
      have hs : evs C (.star (.idx (.var 3) (.tup (.cons (.var 5) (.cons (.var 6) .nil)))) (.cons (.var 7) .nil)) (rE d o t st (some (.val (.int a))) (some (.val (.int b))) (some (.val (.int i))) (some (.val (pD (a + e.1.length, b + e.2.length)))) (some (.val (.str e.1))) (some (.val (.str e.2)))) =
          some (((r.map fun (i : Nat) => PyData.int i).map RV.val) ++ [RV.val (.int i)], rE d o t st (some (.val (.int a))) (some (.val (.int b))) (some (.val (.int i))) (some (.val (pD (a + e.1.length, b + e.2.length)))) (some (.val (.str e.1))) (some (.val (.str e.2)))) := by
        rw [evs, hi]
        simp [e_var, e_cst, e_glb, e_tup, e_lst, e_bin, e_neg, e_cmp, e_chn, e_idx, e_slc, e_rev, e_call, e_bc, e_isi, e_lrg, e_mth, e_pop, e_dK, e_dT1, e_and, e_or, e_ite, e_inv, evt_inv, evt_cmp, evt_isi, evt_and, evt_or, evt_call, evt_bc, evt_chn, evs, evo, exs, ex, refr, passA, backA, valSl, b_val, b_fr, b_bo, b_tp, bindTs, bindP, PL.finish, retV, opBin, opCmp, opCmp.opIn, opEq, opIdx, opSlc, opRev, bcall, mcall, mtOk, opIsi, RV.dat, RV.frz, retOk, noList, noLists, obNl, gd_pos, keyD, keysD, wipeD, backD, valAt, evi, turnQ, evq, rD, rE]
      rw [e_tup, hs]
      simp only [Option.bind_some, mapM_frz]
      rw [gd_pos lr']
      rfl
    have hset : ex C N [] (.set 3 (.var 8) (.tup (.star (.idx (.var 3) (.tup (.cons (.var 5) (.cons (.var 6) .nil)))) (.cons (.var 7) .nil)))) (rE d o t st (some (.val (.int a))) (some (.val (.int b))) (some (.val (.int i))) (some (.val (pD (a + e.1.length, b + e.2.length)))) (some (.val (.str e.1))) (some (.val (.str e.2)))) =
        some (.nx (rE d o t (st.1 ++ [((a + e.1.length, b + e.2.length), r ++ [i])], st.2) (some (.val (.int a))) (some (.val (.int b))) (some (.val (.int i))) (some (.val (pD (a + e.1.length, b + e.2.length)))) (some (.val (.str e.1))) (some (.val (.str e.2))))) := by
      have hp : put (tf st.1) ([Sum.inl ((a : Int) + (e.1.length : Int)), Sum.inl ((b : Int) + (e.2.length : Int))] : List Key) (rD (r ++ [i])) = tf (st.1 ++ [((a + e.1.length, b + e.2.length), r ++ [i])]) := by
        unfold put
        rw [q3]
        simp [tf]
      rw [ex, hv]
      simp [e_var, RV.frz, rE, pD, keysD, keyD, lf, gd_pos, hp]
    have happ : ex C N [] (.app 4 (.var 8)) (rE d o t (st.1 ++ [((a + e.1.length, b + e.2.length), r ++ [i])], st.2) (some (.val (.int a))) (some (.val (.int b))) (some (.val (.int i))) (some (.val (pD (a + e.1.length, b + e.2.length)))) (some (.val (.str e.1))) (some (.val (.str e.2)))) =
        some (.nx (rE d o t (st.1 ++ [((a + e.1.length, b + e.2.length), r ++ [i])], st.2 ++ [(a + e.1.length, b + e.2.length)]) (some (.val (.int a))) (some (.val (.int b))) (some (.val (.int i))) (some (.val (pD (a + e.1.length, b + e.2.length)))) (some (.val (.str e.1))) (some (.val (.str e.2))))) := by
      rw [ex]
      have lw' : st.2.length < LIM := by simpa using lw
      simp [e_var, RV.frz, rE, gd_pos lw']
    rw [exs, hset]
    simp only [Option.bind_some]
    rw [exs, happ]
    simp [exs]
  · simp only [q, if_false]
    rw [exs]
    simp [exs]
theorem inner_loop {C : Cl} {N : Nat} {dl : List LE} {p : Pt} {env0 : En} : ∀ (ds : List Ent) (i : Nat) (st : BS) (x7 x8 x9 x10 : Option SV), (∀ j e, (ds.map lE)[j]? = some e → dl[i + j]? = some e) → (∀ e ∈ ds, Le e) → (∀ e ∈ dl, 1 ≤ e.1.length) → BI dl o.cps.toList t.cps.toList st → p ∈ keysP st.1 →
    (o.cps.toList.length + 1) * (t.cps.toList.length + 1) ≤ 81 → o.cps.toList.length ≤ 8 → left o.cps.toList t.cps.toList st ≤ 100 →
    ∃ y7 y8 y9 y10, forL [] (fun d e => (bindT [] (.tp (.cons (.nm 7) (.cons (.tp (.cons (.nm 9) (.cons (.nm 10) .nil))) .nil))) (.val d) e).bind fun e1 => exs C N [] bI e1) (enF i ds) env0 (rE d o t st (some (.val (.int p.1))) (some (.val (.int p.2))) x7 x8 x9 x10) =
      some (.nx (rE d o t (foldE o.cps.toList t.cps.toList p i (ds.map lE) st) (some (.val (.int p.1))) (some (.val (.int p.2))) y7 y8 y9 y10))
  | [], i, st, x7, x8, x9, x10, _, _, _, _, _, _, _, _ => ⟨x7, x8, x9, x10, by rw [enF, forL]; rfl⟩
  | e :: ds, i, st, x7, x8, x9, x10, hd, hle, hpos, hb, hp, hB, ho, hlf => by
    obtain ⟨r, l1, l2⟩ := look_some hp
    obtain ⟨k1, k2, k3, k4, k5⟩ := hb.rd p r l2
    have hk := keys_le hb
    have hrl : r.length ≤ 8 := by
      have : r.length ≤ (rowL dl r).length := by
        unfold rowL
        clear k4 k5 l1 l2
        induction r with
        | nil => exact Nat.zero_le _
        | cons j r ih =>
          have hj := k3 j List.mem_cons_self
          rw [List.flatMap_cons, List.length_append, List.length_cons, List.getElem?_eq_getElem hj]
          have h1 := hpos dl[j] (List.getElem_mem hj)
          have h2 := ih fun z hz => k3 z (List.mem_cons_of_mem _ hz)
          show r.length + 1 ≤ dl[j].1.length + _
          omega
      have h2 : (rowL dl r).length ≤ o.cps.toList.length := by rw [k4, List.length_take]; omega
      omega
    have hle0 := hle e List.mem_cons_self
    have hw : st.2.length < 1000 := by unfold left at hlf; omega
    obtain ⟨y7, y8, y9, y10, h1⟩ := inner_turn (d := d) (o := o) (t := t) (C := C) (N := N) (st := st) (p := p) (i := i) (e := e) (x7 := x7) (x8 := x8) (x9 := x9) (x10 := x10) hle0.1.2.1 hle0.2.2.1 (by omega) hw l1 hrl
    obtain ⟨a1, a2, a3, a4, a5, a6⟩ := stepE_ok (i := i) (e := lE e) hb hp (hd 0 (lE e) rfl)
    have a7 := keys_le a1
    obtain ⟨z7, z8, z9, z10, h2⟩ := inner_loop (C := C) (N := N) (dl := dl) (p := p) (env0 := env0) ds (i + 1) (stepE o.cps.toList t.cps.toList p st i (lE e)) y7 y8 y9 y10 (fun j e' hj => by
      have := hd (j + 1) e' (by simpa using hj)
      rw [← Nat.add_assoc, Nat.add_right_comm] at this
      exact this) (fun e' he' => hle e' (List.mem_cons_of_mem _ he')) hpos a1 (a2 p hp) hB ho (by unfold left at hlf ⊢; omega)
    refine ⟨z7, z8, z9, z10, ?_⟩
    rw [enF, forL, h1]
    simp only [Option.bind_some]
    rw [gd_pos (fun j hj => absurd hj (by simp))]
    simp only [Option.bind_some]
    rw [h2]
    rfl
def bW : Ss := (.cons (.asg (.tp (.cons (.nm 5) (.cons (.nm 6) .nil))) (.pop 4 (.cst (PyData.int 0)))) (.cons (.ite (.cmp .Eq (.tup (.cons (.var 5) (.cons (.var 6) .nil))) (.tup (.cons (.bc .len (.cons (.var 1) .nil)) (.cons (.bc .len (.cons (.var 2) .nil)) .nil))))
  (.cons (.ret (.idx (.var 3) (.tup (.cons (.var 5) (.cons (.var 6) .nil))))) .nil) .nil) (.cons (.for (.tp (.cons (.nm 7) (.cons (.tp (.cons (.nm 9) (.cons (.nm 10) .nil))) .nil))) (.enu (.var 0)) bI) .nil)))
theorem while_bfs {C : Cl} {N : Nat} {dl : List LE} (hdl : dl = d.map lE) (hle : ∀ e ∈ d, Le e) (hB : (o.cps.toList.length + 1) * (t.cps.toList.length + 1) ≤ 81) (ho : o.cps.toList.length ≤ 8) (ht : t.cps.toList.length ≤ 8) : ∀ (n : Nat) (st : BS) (x5 x6 x7 x8 x9 x10 : Option SV), BI dl o.cps.toList t.cps.toList st → Srv dl o.cps.toList t.cps.toList st →
    left o.cps.toList t.cps.toList st ≤ 100 → left o.cps.toList t.cps.toList st < n →
    ∃ e, e.take 3 = [some (.val (dD d)), some (.val (.str o)), some (.val (.str t))] ∧ whileL (evt C (.cmp .NotEq (.var 4) (.lst .nil))) (exs C N [] bW) n (rE d o t st x5 x6 x7 x8 x9 x10) =
      some (match bfs dl o.cps.toList t.cps.toList n st with
        | some r => .rt (.val (rD r)) e
        | none => .nx e)
  | 0, st, _, _, _, _, _, _, _, _, _, h => absurd h (Nat.not_lt_zero _)
  | n + 1, (f, []), x5, x6, x7, x8, x9, x10, hb, hs, hl, hn => by
    refine ⟨rE d o t (f, []) x5 x6 x7 x8 x9 x10, rfl, ?_⟩
    have hc : evt C (.cmp .NotEq (.var 4) (.lst .nil)) (rE d o t (f, []) x5 x6 x7 x8 x9 x10) = some (false, rE d o t (f, []) x5 x6 x7 x8 x9 x10) := by
      have h0 : opCmp .NotEq (.bo 4 (.L [])) (.fr (.L [])) = some false := by
        have := eq_nil []
        rw [cmp_ne]
        simp only [RV.dat, Option.bind_some]
        rw [show opEq (.list []) (.list []) = some true from this]
        rfl
      rw [evt_cmp]
      simp [e_var, e_lst, evs, rE, refr, h0, gd_pos]
    rw [whileL, hc]
    rfl
  | n + 1, (f, p :: w), x5, x6, x7, x8, x9, x10, hb, hs, hl, hn => by
    obtain ⟨a, b⟩ := p
    have hc : evt C (.cmp .NotEq (.var 4) (.lst .nil)) (rE d o t (f, (a, b) :: w) x5 x6 x7 x8 x9 x10) = some (true, rE d o t (f, (a, b) :: w) x5 x6 x7 x8 x9 x10) := by
      have h0 : opCmp .NotEq (.bo 4 (.L (((a, b) :: w).map pD))) (.fr (.L [])) = some true := by
        have := eq_nil ((a, b) :: w)
        rw [cmp_ne]
        simp only [RV.dat, Option.bind_some]
        rw [this]
        rfl
      have h0 : opCmp .NotEq (.bo 4 (.L (pD (a, b) :: w.map pD))) (.fr (.L [])) = some true := h0
      rw [evt_cmp]
      simp [e_var, e_lst, evs, rE, refr, h0, gd_pos]
    have hpop : ex C N [] (.asg (.tp (.cons (.nm 5) (.cons (.nm 6) .nil))) (.pop 4 (.cst (PyData.int 0)))) (rE d o t (f, (a, b) :: w) x5 x6 x7 x8 x9 x10) = some (.nx (rE d o t (f, w) (some (.val (.int a))) (some (.val (.int b))) x7 x8 x9 x10)) := by
      have i0 : L2.ixN (w.length + 1) 0 = some 0 := by unfold L2.ixN; simp
      rw [ex, e_pop]
      simp [e_cst, rE, pD, i0, gd_pos, b_tp, bindTs, b_val]
    have l2' : 2 ≤ LIM := lim8 (by omega)
    have lo : o.cps.toList.length = o.length := by simp [Str.length]
    have lt : t.cps.toList.length = t.length := by simp [Str.length]
    have hlo : o.length ≤ LIM := lim8 (by omega)
    have hlt : t.length ≤ LIM := lim8 (by omega)
    have heq : evt C (.cmp .Eq (.tup (.cons (.var 5) (.cons (.var 6) .nil))) (.tup (.cons (.bc .len (.cons (.var 1) .nil)) (.cons (.bc .len (.cons (.var 2) .nil)) .nil)))) (rE d o t (f, w) (some (.val (.int a))) (some (.val (.int b))) x7 x8 x9 x10) =
        some (decide (((a, b) : Pt) = (o.cps.toList.length, t.cps.toList.length)), rE d o t (f, w) (some (.val (.int a))) (some (.val (.int b))) x7 x8 x9 x10) := by
      have h0 := eq_pair a b o.length t.length
      have h1 : opCmp .Eq (.val (.tuple [.int a, .int b])) (.val (.tuple [.int o.length, .int t.length])) = some (decide (((a, b) : Pt) = (o.cps.toList.length, t.cps.toList.length))) := by
        rw [cmp_eq]
        simp only [RV.dat, Option.bind_some]
        rw [h0, lo, lt]
        congr 1
        rw [decide_eq_decide]
        constructor
        · rintro ⟨z1, z2⟩; exact Prod.ext (by omega) (by omega)
        · intro z; cases z; exact ⟨rfl, rfl⟩
      rw [evt_cmp]
      simp [e_var, e_tup, e_bc, evs, rE, refr, bcall, RV.frz, hlo, hlt, l2', gd_pos, h1]
    rw [whileL, hc]
    simp only [Option.bind_some, if_true]
    unfold bW
    rw [exs, hpop]
    simp only [Option.bind_some]
    rw [exs, ex, heq]
    simp only [Option.bind_some]
    by_cases q : ((a, b) : Pt) = (o.cps.toList.length, t.cps.toList.length)
    · obtain ⟨r, l1, l2⟩ := look_some (hb.wk (a, b) List.mem_cons_self)
      have hk : look (tf f) ([Sum.inl (a : Int), Sum.inl (b : Int)] : List Key) = some (rD r) := by rw [look_tf]; show (lookP f (a, b)).map rD = _; rw [l1]; rfl
      refine ⟨rE d o t (f, w) (some (.val (.int a))) (some (.val (.int b))) x7 x8 x9 x10, rfl, ?_⟩
      have hi : ev C (.idx (.var 3) (.tup (.cons (.var 5) (.cons (.var 6) .nil)))) (rE d o t (f, w) (some (.val (.int a))) (some (.val (.int b))) x7 x8 x9 x10) = some (.val (rD r), rE d o t (f, w) (some (.val (.int a))) (some (.val (.int b))) x7 x8 x9 x10) := by
        simp [e_var, e_cst, e_glb, e_tup, e_lst, e_bin, e_neg, e_cmp, e_chn, e_idx, e_slc, e_rev, e_call, e_bc, e_isi, e_lrg, e_mth, e_pop, e_dK, e_dT1, e_and, e_or, e_ite, e_inv, evt_inv, evt_cmp, evt_isi, evt_and, evt_or, evt_call, evt_bc, evt_chn, evs, evo, exs, ex, refr, passA, backA, valSl, b_val, b_fr, b_bo, b_tp, bindTs, bindP, PL.finish, retV, opBin, opCmp, opCmp.opIn, opEq, opIdx, opSlc, opRev, bcall, mcall, mtOk, opIsi, RV.dat, RV.frz, retOk, noList, noLists, obNl, gd_pos, keyD, keysD, wipeD, backD, valAt, evi, turnQ, evq, rE, hk, l2']
      rw [decide_eq_true q]
      simp only [if_true]
      rw [exs, ex, hi]
      simp only [Option.map_some, Option.bind_some]
      have l1' : lookP f (a, b) = some r := l1
      unfold bfs
      rw [if_pos q, l1']
    · rw [decide_eq_false q]
      simp only [Bool.false_eq_true, if_false]
      have hb0 : BI dl o.cps.toList t.cps.toList (f, w) := ⟨hb.nd, hb.rd, fun x hx => hb.wk x (List.mem_cons_of_mem _ hx), hb.zero⟩
      have hlw : left o.cps.toList t.cps.toList (f, w) ≤ 100 := by
        unfold left at hl ⊢
        have : ((f, (a, b) :: w) : BS).2.length = w.length + 1 := rfl
        show _ - f.length + w.length ≤ 100
        have hl' : (o.cps.toList.length + 1) * (t.cps.toList.length + 1) - f.length + (w.length + 1) ≤ 100 := hl
        omega
      have hpos : ∀ e ∈ dl, 1 ≤ e.1.length := fun e he => by
        rw [hdl] at he
        obtain ⟨e', h1, h2⟩ := List.mem_map.mp he
        subst h2
        have := (hle e' h1).1.1
        simpa [lE, Str.length] using this
      obtain ⟨y7, y8, y9, y10, hin⟩ := inner_loop (d := d) (o := o) (t := t) (C := C) (N := N) (dl := dl) (p := (a, b)) (env0 := rE d o t (f, w) (some (.val (.int a))) (some (.val (.int b))) x7 x8 x9 x10) d 0 (f, w) x7 x8 x9 x10 (fun j e hj => by rw [Nat.zero_add, hdl]; exact hj) hle hpos hb0 (hb.wk (a, b) List.mem_cons_self) hB ho hlw
      have hfor : ex C N [] (.for (.tp (.cons (.nm 7) (.cons (.tp (.cons (.nm 9) (.cons (.nm 10) .nil))) .nil))) (.enu (.var 0)) bI) (rE d o t (f, w) (some (.val (.int a))) (some (.val (.int b))) x7 x8 x9 x10) =
          some (.nx (rE d o t (foldE o.cps.toList t.cps.toList (a, b) 0 (d.map lE) (f, w)) (some (.val (.int a))) (some (.val (.int b))) y7 y8 y9 y10)) := by
        rw [ex]
        have hen : evi C (.enu (.var 0)) (rE d o t (f, w) (some (.val (.int a))) (some (.val (.int b))) x7 x8 x9 x10) = some (enF 0 d, [], rE d o t (f, w) (some (.val (.int a))) (some (.val (.int b))) x7 x8 x9 x10) := by
          rw [evi, e_var]
          simp [rE, dD, RV.dat, enumD_enF]
        rw [hen]
        simp only [Option.bind_some]
        rw [gd_pos (fun j hj => absurd hj (by simp))]
        exact hin
      obtain ⟨n1, n2, n3⟩ := next_ok hb hs q
      obtain ⟨e, he, hw⟩ := while_bfs hdl hle hB ho ht n (foldE o.cps.toList t.cps.toList (a, b) 0 dl (f, w)) (some (.val (.int a))) (some (.val (.int b))) y7 y8 y9 y10 n1 n2 (by omega) (by omega)
      refine ⟨e, he, ?_⟩
      rw [exs]
      simp only [Option.bind_some]
      rw [exs, hfor]
      simp only [Option.bind_some]
      rw [exs]
      rw [← hdl]
      unfold bfs
      rw [if_neg q]
      exact hw
/-- the search, whatever the depth of calls -/
noncomputable def rf (N : Nat) (d : List Ent) (e : Ent) : Option (List Nat) := bfs (d.map lE) e.1.cps.toList e.2.cps.toList N start0
def rO : Option (List Nat) → Da
  | some r => rD r
  | none => .none
end
theorem s_reading_for {N k : Nat} {d : List Ent} {e : Ent} (hd : ∀ x ∈ d, Le x) (he : Le e) (hN : 200 ≤ N) : run F N (k + 1) 17 [.val (dD d), .val (.str e.1), .val (.str e.2)] = some (.val (rO (rf N d e)), [some (.val (dD d)), some (.val (.str e.1)), some (.val (.str e.2))]) := by
  obtain ⟨⟨h1, h2, h3⟩, ⟨h4, h5, h6⟩⟩ := he
  have lo : e.1.cps.toList.length = e.1.length := by simp [Str.length]
  have lt : e.2.cps.toList.length = e.2.length := by simp [Str.length]
  have hB : (e.1.cps.toList.length + 1) * (e.2.cps.toList.length + 1) ≤ 81 := Nat.le_trans (Nat.mul_le_mul (show e.1.cps.toList.length + 1 ≤ 9 by omega) (show e.2.cps.toList.length + 1 ≤ 9 by omega)) (by decide)
  have hl : left e.1.cps.toList e.2.cps.toList start0 ≤ 100 := by
    unfold left start0
    show (e.1.cps.toList.length + 1) * (e.2.cps.toList.length + 1) - 1 + 1 ≤ 100
    omega
  have l2' : 2 ≤ LIM := lim8 (by omega)
  have l1' : 1 ≤ LIM := lim8 (by omega)
  rw [run_of F_17 rfl (by decide) rfl rfl]
  simp only [f_reading_for, b_reading_for]
  have hpar : ex (run F N k) N [] (.par [3, 4] (.cons (.dT1 (.tup (.cons (.cst (PyData.int 0)) (.cons (.cst (PyData.int 0)) .nil))) (.tup .nil)) (.cons (.lst (.cons (.tup (.cons (.cst (PyData.int 0)) (.cons (.cst (PyData.int 0)) .nil))) .nil)) .nil)))
      [some (.val (dD d)), some (.val (.str e.1)), some (.val (.str e.2)), none, none, none, none, none, none, none, none] = some (.nx (rE d e.1 e.2 start0 none none none none none none)) := by
    rw [ex]
    simp [e_var, e_cst, e_glb, e_tup, e_lst, e_bin, e_neg, e_cmp, e_chn, e_idx, e_slc, e_rev, e_call, e_bc, e_isi, e_lrg, e_mth, e_pop, e_dK, e_dT1, e_and, e_or, e_ite, e_inv, evt_inv, evt_cmp, evt_isi, evt_and, evt_or, evt_call, evt_bc, evt_chn, evs, evo, exs, ex, refr, passA, backA, valSl, b_val, b_fr, b_bo, b_tp, bindTs, bindP, PL.finish, retV, opBin, opCmp, opCmp.opIn, opEq, opIdx, opSlc, opRev, bcall, mcall, mtOk, opIsi, RV.dat, RV.frz, retOk, noList, noLists, obNl, gd_pos, keyD, keysD, wipeD, backD, valAt, evi, turnQ, evq, rE, start0, tf, rD, pD, l1', l2']
  obtain ⟨en, ht, hw⟩ := while_bfs (d := d) (o := e.1) (t := e.2) (C := run F N k) (N := N) rfl hd hB (by omega) (by omega) N start0 none none none none none none start_ok start_srv hl (by omega)
  simp only [List.map_cons, List.map_nil, List.replicate, List.cons_append, List.nil_append, Nat.reduceSub]
  rw [exs, hpar]
  simp only [Option.bind_some]
  rw [exs, ex]
  unfold bW bI at hw
  rw [hw]
  unfold rf
  cases hbf : bfs (d.map lE) e.1.cps.toList e.2.cps.toList N start0 with
  | none =>
    simp only [Option.bind_some]
    rw [exs, ex, e_cst]
    simp only [Option.map_some, Option.bind_some, PL.finish]
    rw [gd_pos (fun j hj => absurd hj (by simp))]
    simp [retV, rO, ht]
  | some r =>
    simp only [Option.bind_some, PL.finish]
    rw [gd_pos (fun j hj => absurd hj (by simp))]
    simp [retV, rO, ht]
end PT
set_option maxRecDepth 100000
set_option maxHeartbeats 4000000
/-! S4: sorted entries, membership, dictionaries made. -/
namespace PT
open PySem PL
open L2 (Key)
theorem str_ext {x y : Str} (h : x.cps.toList = y.cps.toList) : x = y := by
  cases x with
  | mk a => cases y with
    | mk b =>
      have : a = b := Array.toList_inj.mp h
      rw [this]
theorem eqv_e (a b : Ent) : PyData.eqv (eD a) (eD b) = decide (a = b) := by
  unfold eD
  simp only [PyData.eqv, PyData.eqvAll, Bool.and_true]
  rw [Bool.beq_eq_decide_eq, Bool.beq_eq_decide_eq, ← Bool.decide_and, decide_eq_decide]
  constructor
  · rintro ⟨h1, h2⟩; exact Prod.ext h1 h2
  · rintro rfl; exact ⟨rfl, rfl⟩
theorem any_e (e : Ent) : ∀ d : List Ent, ((d.map eD).any fun z => PyData.eqv z (eD e)) = decide (e ∈ d)
  | [] => rfl
  | x :: d => by
    rw [List.map_cons, List.any_cons, any_e e d, eqv_e]
    by_cases h : x = e
    · subst h; simp
    · have : ¬ e = x := fun z => h z.symm
      simp [h, this]
theorem toks_e (a : Ent) : PySem.W.keyToks (eD a) = [.inl 1, .inr a.1.cps.toList, .inl 1, .inr a.2.cps.toList, .inl 0] := by
  simp [eD, PySem.W.keyToks, PySem.W.keyToksAll]
def leE (a b : Ent) : Bool := PySem.W.dataLe false id (eD a) (eD b)
theorem leE_eq (a b : Ent) : leE a b = !PySem.W.dataLt (eD b) (eD a) := rfl
theorem lt_of_le {a b : Ent} (h : leE a b = true) (hn : a ≠ b) : PySem.W.dataLt (eD a) (eD b) = true := by
  rw [leE_eq, Bool.not_eq_true'] at h
  cases e : PySem.W.dataLt (eD a) (eD b) with
  | true => rfl
  | false =>
    exfalso
    have := (PyProof.Rows.listOrd PyProof.Rows.itemOrd).total (PySem.W.keyToks (eD a)) (PySem.W.keyToks (eD b)) e h
    rw [toks_e, toks_e] at this
    simp only [List.cons.injEq, Sum.inr.injEq, true_and, and_true] at this
    exact hn (Prod.ext (str_ext this.1) (str_ext this.2))
def sE (l : List Ent) : List Ent := l.mergeSort leE
theorem sE_perm (l : List Ent) : (sE l).Perm l := List.mergeSort_perm l leE
theorem sE_mem {l : List Ent} {e : Ent} : e ∈ sE l ↔ e ∈ l := (sE_perm l).mem_iff
theorem sE_len (l : List Ent) : (sE l).length = l.length := (sE_perm l).length_eq
theorem sE_nodup {l : List Ent} (h : l.Nodup) : (sE l).Nodup := (sE_perm l).nodup_iff.mpr h
theorem sE_asc {l : List Ent} (h : l.Nodup) : asc (sE l) := by
  have tot := PySem.W.sortLe_total (PyProof.Rows.listOrd PyProof.Rows.itemOrd) false (fun e : Ent => PySem.W.keyToks (eD e))
  have hs : (sE l).Pairwise fun a b => leE a b = true := List.pairwise_mergeSort (fun a b c => tot.trans a b c) (fun a b => (Bool.or_eq_true _ _).mpr (tot.total a b)) l
  have hn : (sE l).Pairwise (· ≠ ·) := sE_nodup h
  generalize sE l = m at hs hn
  intro p hp
  obtain ⟨i, hi, e⟩ := List.mem_iff_getElem.mp hp
  rw [List.length_zip, List.length_drop] at hi
  have h2 : i + 1 < m.length := by omega
  have h1 : i < m.length := by omega
  rw [List.getElem_zip] at e
  subst e
  have z1 := List.pairwise_iff_getElem.mp hs i (i + 1) h1 h2 (Nat.lt_succ_self i)
  have z2 := List.pairwise_iff_getElem.mp hn i (i + 1) h1 h2 (Nat.lt_succ_self i)
  have e3 : (m.drop 1)[i]'(by rw [List.length_drop]; omega) = m[i + 1] := by rw [List.getElem_drop]; congr 1; omega
  rw [e3]
  exact lt_of_le z1 z2
theorem sD_e (l : List Ent) : sortD (l.map eD) = (sE l).map eD := by
  unfold sortD sE
  rw [List.map_mergeSort]
  intro a _ b _
  rfl
theorem sok_e {l : List Ent} (h : l.length ≤ LIM) : sortOk (l.map eD) := by
  refine ⟨fun x hx y hy => ?_, .inl fun x hx => ?_, by rw [List.length_map]; exact h, fun x hx => ?_⟩
  · obtain ⟨a, _, rfl⟩ := List.mem_map.mp hx
    obtain ⟨b, _, rfl⟩ := List.mem_map.mp hy
    exact alike_e a b
  · obtain ⟨a, _, rfl⟩ := List.mem_map.mp hx
    exact ⟨_, _, rfl⟩
  · obtain ⟨a, _, rfl⟩ := List.mem_map.mp hx
    exact depth_e a
def Ok8 (s : Str) : Prop := ∀ c ∈ s.cps.toList, c < 0x110000
theorem sok_s {s : Str} (h : ∀ c ∈ s.cps.toList, c ≤ 122) : PyData.strOk s = true := by
  unfold PyData.strOk
  rw [Array.all_eq_true']
  intro c hc
  have := h c (by simpa using hc)
  rw [decide_eq_true_eq]
  omega
theorem lay_e {e : Ent} (h : Le e) : (eD e).canLay0 = true := by
  have h1 := sok_s fun c hc => (h.1.2.2 c hc).2
  have h2 := sok_s fun c hc => (h.2.2.2 c hc).2
  simp [eD, PyData.canLay0, PyData.canLayAll0, h1, h2]
theorem lay_d : ∀ {d : List Ent}, (∀ e ∈ d, Le e) → PyData.canLayAll0 (d.map eD) = true
  | [], _ => rfl
  | e :: d, h => by rw [List.map_cons, PyData.canLayAll0, lay_e (h e List.mem_cons_self), lay_d fun x hx => h x (List.mem_cons_of_mem _ hx)]; rfl
theorem dep_d : ∀ d : List Ent, PyData.depthAll (d.map eD) ≤ 10
  | [] => by simp [PyData.depthAll]
  | e :: d => by
    have := dep_d d
    simp only [List.map_cons, PyData.depthAll, eD, PyData.depth] at this ⊢
    omega
theorem eqok_in {e : Ent} {d : List Ent} (h : Le e) (hd : ∀ x ∈ d, Le x) : eqOk (eD e) (.tuple (d.map eD)) := by
  refine ⟨lay_e h, by simp only [PyData.canLay0]; exact lay_d hd, depth_e e, ?_⟩
  have := dep_d d
  simp only [PyData.depth]
  omega
theorem in_e {e : Ent} {d : List Ent} (h : Le e) (hd : ∀ x ∈ d, Le x) : opCmp.opIn (.val (eD e)) (.val (dD d)) = some (decide (e ∈ d)) := by
  rw [show opCmp.opIn (.val (eD e)) (.val (dD d)) = (gd (eqOk (eD e) (.tuple (d.map eD)))).map fun _ => (d.map eD).any fun z => PyData.eqv z (eD e) from rfl, gd_pos (eqok_in h hd), any_e]
  rfl
theorem nl_es : ∀ l : List Ent, noLists (l.map eD) = true
  | [] => rfl
  | x :: l => by rw [List.map_cons, noLists, nl_es l]; rfl
theorem frz_es (l : List Ent) : (l.map fun e => RV.val (eD e)).mapM RV.frz = some (l.map eD) := by
  induction l with
  | nil => rfl
  | cons x l ih => rw [List.map_cons, List.mapM_cons, ih]; rfl
variable {N k : Nat}
theorem s_check_many {l : List Ent} (h1 : 1 ≤ l.length) (h2 : l.length ≤ 16) (h3 : ∀ e ∈ l, Le e) (h4 : l.Nodup) : run F N (k + 6) 11 [.val (.list (l.map eD))] = some (.val (dD (sE l)), [some (.val (.list (l.map eD)))]) ∧ Dk (sE l) := by
  have hk : Dk (sE l) := ⟨by rw [sE_len]; exact h1, by rw [sE_len]; exact h2, fun e he => h3 e (sE_mem.mp he), sE_asc h4, sE_nodup h4⟩
  refine ⟨?_, hk⟩
  have a1 := s_check_dictionary (N := N) (k := k) hk
  have hl : ¬ (16 : Int) < l.length := by omega
  have so := sok_e (l := l) (lim8 (by omega))
  rw [run_of F_11 rfl (by decide) rfl rfl]
  unfold dD at a1 ⊢
  simp [f_check_many, b_check_many, e_var, e_cst, e_glb, e_tup, e_lst, e_bin, e_neg, e_cmp, e_chn, e_idx, e_slc, e_rev, e_call, e_bc, e_isi, e_lrg, e_mth, e_pop, e_dK, e_dT1, e_and, e_or, e_ite, e_inv, evt_inv, evt_cmp, evt_isi, evt_and, evt_or, evt_call, evt_bc, evt_chn, evs, evo, exs, ex, refr, passA, backA, valSl, b_val, b_fr, b_bo, b_tp, bindTs, bindP, PL.finish, retV, opBin, opCmp, opCmp.opIn, opEq, opIdx, opSlc, opRev, bcall, mcall, mtOk, opIsi, RV.dat, RV.frz, retOk, noList, noLists, obNl, gd_pos, keyD, keysD, wipeD, backD, valAt, evi, turnQ, evq, hl, so, sD_e, a1, nl_es]
end PT
set_option maxRecDepth 100000
set_option maxHeartbeats 4000000
/-! S5: unions, rows and texts of readings. -/
namespace PT
open PySem PL
open L2 (Key)
theorem nl_d (d : List Ent) : noList (dD d) = true := nl_es d
theorem nl_e (e : Ent) : noList (eD e) = true := rfl
theorem nl_r (r : List Nat) : noList (rD r) = true := by
  have : ∀ l : List Nat, noLists (l.map fun (i : Nat) => PyData.int i) = true := fun l => by
    induction l with
    | nil => rfl
    | cons x l ih => rw [List.map_cons, noLists, ih]; rfl
  exact this r
theorem frz_all : ∀ l : List Da, (l.map RV.val).mapM RV.frz = some l
  | [] => rfl
  | x :: l => by rw [List.map_cons, List.mapM_cons, frz_all l]; rfl
theorem lst_of {C : Cl} {es : Es} {env e' : En} {ds : List Da} (h : evs C es env = some (ds.map RV.val, e')) (hl : ds.length ≤ LIM) : ev C (.lst es) env = some (.fr (.L ds), e') := by
  rw [e_lst, h]
  simp only [Option.bind_some, frz_all]
  rw [gd_pos hl]
  rfl
theorem tup_of {C : Cl} {es : Es} {env e' : En} {ds : List Da} (h : evs C es env = some (ds.map RV.val, e')) (hl : ds.length ≤ LIM) : ev C (.tup es) env = some (.val (.tuple ds), e') := by
  rw [e_tup, h]
  simp only [Option.bind_some, frz_all]
  rw [gd_pos hl]
  rfl
theorem star_t {C : Cl} {e : E} {es : Es} {env e1 e2 : En} {r : RV} {ds ds' : List Da} (h : ev C e env = some (r, e1)) (hr : r.dat = some (.tuple ds)) (h2 : evs C es e1 = some (ds'.map RV.val, e2)) : evs C (.star e es) env = some ((ds ++ ds').map RV.val, e2) := by
  rw [evs, h]
  simp only [Option.bind_some, hr, h2, Option.map_some, List.map_append]
theorem star_l {C : Cl} {e : E} {es : Es} {env e1 e2 : En} {r : RV} {ds ds' : List Da} (h : ev C e env = some (r, e1)) (hr : r.dat = some (.list ds)) (h2 : evs C es e1 = some (ds'.map RV.val, e2)) : evs C (.star e es) env = some ((ds ++ ds').map RV.val, e2) := by
  rw [evs, h]
  simp only [Option.bind_some, hr, h2, Option.map_some, List.map_append]
variable {N k : Nat}
theorem s_with_entry {d : List Ent} {e : Ent} (h : Dk d) (he : Le e) (hn : e ∉ d) (hl : d.length < 16) : run F N (k + 7) 12 [.val (dD d), .val (eD e)] = some (.val (dD (sE (d ++ [e]))), [some (.val (dD d)), some (.val (eD e))]) ∧ Dk (sE (d ++ [e])) := by
  have a1 := s_check_dictionary (N := N) (k := k + 1) h
  have a2 := s_check_entry (N := N) (k := k + 2) he
  have a3 := in_e he h.2.2.1
  rw [decide_eq_false hn] at a3
  obtain ⟨a4, a5⟩ := s_check_many (N := N) (k := k) (l := d ++ [e]) (by simp) (by rw [List.length_append, List.length_singleton]; omega) (fun x hx => by
    rcases List.mem_append.mp hx with z | z
    · exact h.2.2.1 x z
    · rw [List.mem_singleton.mp z]; exact he) (List.nodup_append.mpr ⟨h.2.2.2.2, by simp, fun x hx y hy => by
      rw [List.mem_singleton.mp hy]
      intro z; subst z; exact hn hx⟩)
  refine ⟨?_, a5⟩
  have lm : (d.map eD ++ [eD e]).length ≤ LIM := by simpa using lim8 (n := d.length + 1) (by omega)
  have m1 : (d ++ [e]).map eD = d.map eD ++ [eD e] := by simp
  rw [run_of F_12 rfl (by decide) rfl rfl]
  have hL : ev (run F N (k + 6)) (.lst (.star (.var 0) (.cons (.var 1) .nil))) [some (.val (dD d)), some (.val (eD e))] = some (.fr (.L (d.map eD ++ [eD e])), [some (.val (dD d)), some (.val (eD e))]) :=
    lst_of (star_t (ds' := [eD e]) (r := .val (dD d)) (e1 := [some (.val (dD d)), some (.val (eD e))]) (by rw [e_var]; rfl) rfl (by simp [e_var, e_cst, e_glb, e_tup, e_lst, e_bin, e_neg, e_cmp, e_chn, e_idx, e_slc, e_rev, e_call, e_bc, e_isi, e_lrg, e_mth, e_pop, e_dK, e_dT1, e_and, e_or, e_ite, e_inv, evt_inv, evt_cmp, evt_isi, evt_and, evt_or, evt_call, evt_bc, evt_chn, evs, evo, exs, ex, refr, passA, backA, valSl, b_val, b_fr, b_bo, b_tp, bindTs, bindP, PL.finish, retV, opBin, opCmp, opCmp.opIn, opEq, opIdx, opSlc, opRev, bcall, mcall, mtOk, opIsi, RV.dat, RV.frz, retOk, noList, noLists, obNl, gd_pos, keyD, keysD, wipeD, backD, valAt, evi, turnQ, evq])) lm
  rw [m1] at a4
  simp only [f_with_entry, b_with_entry]
  simp only [List.map_cons, List.map_nil, List.replicate, List.append_nil, Nat.sub_self]
  have c1 : ev (run F N (k + 6)) (.call 9 (.cons (.var 0) .nil) [none]) [some (.val (dD d)), some (.val (eD e))] = some (.val (dD d), [some (.val (dD d)), some (.val (eD e))]) := by
    simp [e_var, e_cst, e_glb, e_tup, e_lst, e_bin, e_neg, e_cmp, e_chn, e_idx, e_slc, e_rev, e_call, e_bc, e_isi, e_lrg, e_mth, e_pop, e_dK, e_dT1, e_and, e_or, e_ite, e_inv, evt_inv, evt_cmp, evt_isi, evt_and, evt_or, evt_call, evt_bc, evt_chn, evs, evo, exs, ex, refr, passA, backA, valSl, b_val, b_fr, b_bo, b_tp, bindTs, bindP, PL.finish, retV, opBin, opCmp, opCmp.opIn, opEq, opIdx, opSlc, opRev, bcall, mcall, mtOk, opIsi, RV.dat, RV.frz, retOk, noList, noLists, obNl, gd_pos, keyD, keysD, wipeD, backD, valAt, evi, turnQ, evq, a1, nl_d]
  have c2 : ev (run F N (k + 6)) (.call 10 (.cons (.var 1) .nil) [none]) [some (.val (dD d)), some (.val (eD e))] = some (.val .none, [some (.val (dD d)), some (.val (eD e))]) := by
    simp [e_var, e_cst, e_glb, e_tup, e_lst, e_bin, e_neg, e_cmp, e_chn, e_idx, e_slc, e_rev, e_call, e_bc, e_isi, e_lrg, e_mth, e_pop, e_dK, e_dT1, e_and, e_or, e_ite, e_inv, evt_inv, evt_cmp, evt_isi, evt_and, evt_or, evt_call, evt_bc, evt_chn, evs, evo, exs, ex, refr, passA, backA, valSl, b_val, b_fr, b_bo, b_tp, bindTs, bindP, PL.finish, retV, opBin, opCmp, opCmp.opIn, opEq, opIdx, opSlc, opRev, bcall, mcall, mtOk, opIsi, RV.dat, RV.frz, retOk, noList, noLists, obNl, gd_pos, keyD, keysD, wipeD, backD, valAt, evi, turnQ, evq, a2, nl_d, nl_e]
  have c3 : evt (run F N (k + 6)) (.cmp .In (.var 1) (.var 0)) [some (.val (dD d)), some (.val (eD e))] = some (false, [some (.val (dD d)), some (.val (eD e))]) := by
    simp [evt_cmp, e_var, refr, opCmp, a3]
  have c4 : ev (run F N (k + 6)) (.call 11 (.cons (.lst (.star (.var 0) (.cons (.var 1) .nil))) .nil) [none]) [some (.val (dD d)), some (.val (eD e))] = some (.val (dD (sE (d ++ [e]))), [some (.val (dD d)), some (.val (eD e))]) := by
    rw [e_call, evs, hL]
    simp [evs, refr, passA, backA, valSl, RV.frz, RV.dat, a4, gd_pos, retOk, nl_d]
  simp [exs, ex, c1, c2, c3, c4, PL.finish, retV, gd_pos]
/-- the union of two dictionaries, sorted -/
def un (d o : List Ent) : List Ent := sE (d ++ o.filter fun e => decide (e ∉ d))
theorem un_mem {d o : List Ent} {e : Ent} : e ∈ un d o ↔ e ∈ d ∨ e ∈ o := by
  unfold un
  rw [sE_mem, List.mem_append, List.mem_filter, decide_eq_true_eq]
  constructor
  · rintro (h | h)
    · exact .inl h
    · exact .inr h.1
  · rintro (h | h)
    · exact .inl h
    · by_cases z : e ∈ d
      · exact .inl z
      · exact .inr ⟨h, z⟩
theorem fm_filter {p : Ent → Bool} {g : Da → Option Da} (hg : ∀ e, g (eD e) = if p e = true then some (eD e) else none) : ∀ o : List Ent, (o.map eD).filterMap g = (o.filter p).map eD
  | [] => rfl
  | e :: o => by
    rw [List.map_cons, List.filterMap_cons, hg, List.filter_cons, fm_filter hg o]
    cases p e <;> rfl
/-- a filtering comprehension -/
theorem comp_if {C : Cl} {env env1 : En} {p : Ent → Bool} {elt : E} {tg : Tg} {it : It} {c : Oe} {own : List (Str × Nat)} {o : List Ent} {bs : List Nat} (hi : evi C it env = some (o.map eD, bs, env1)) (hb : ∀ j ∈ bs, j ∉ own.map (·.2)) (hl : o.length ≤ LIM)
    (ht : ∀ x ∈ o, ∃ e, turnQ C elt tg c (eD x) (wipeD env1 (own.map (·.2))) = some (if p x = true then some (eD x) else none, e) ∧ wipeD e (own.map (·.2)) = wipeD env1 (own.map (·.2))) :
    ev C (.comp elt tg it c own) env = some (.fr (.L ((o.filter p).map eD)), backD env1 (wipeD env1 (own.map (·.2))) (own.map (·.2))) := by
  have inj : ∀ x y : Ent, eD x = eD y → x = y := fun x y z => by
    unfold eD at z
    simp only [PyData.tuple.injEq, List.cons.injEq, PyData.str.injEq, and_true] at z
    exact Prod.ext z.1 z.2
  classical
  let g : Da → Option Da := fun z => if h : ∃ e, z = eD e then (if p h.choose = true then some z else none) else none
  have hg : ∀ e, g (eD e) = if p e = true then some (eD e) else none := fun e => by
    have hx : ∃ e', eD e = eD e' := ⟨e, rfl⟩
    have : hx.choose = e := (inj _ _ hx.choose_spec).symm
    show (if h : ∃ e', eD e = eD e' then _ else _) = _
    rw [dif_pos hx, this]
  rw [comp_map g hi hb (by simpa using hl) fun z hz => by
    obtain ⟨x, hx, e⟩ := List.mem_map.mp hz
    subst e
    obtain ⟨e', h1, h2⟩ := ht x hx
    exact ⟨e', by rw [h1, hg], h2⟩]
  rw [fm_filter hg]
end PT
set_option maxRecDepth 100000
set_option maxHeartbeats 4000000
/-! S6: readings. -/
namespace PT
open PySem PL
open L2 (Key)
def Rok (d : List Ent) (r : List Nat) : Prop := (∀ i ∈ r, i < d.length) ∧ r.length ≤ 2000
def outl (d : List Ent) (i : Nat) : Str := ((d[i]?).map (·.1)).getD ⟨#[]⟩
def text (d : List Ent) (i : Nat) : Str := ((d[i]?).map (·.2)).getD ⟨#[]⟩
def rowS (d : List Ent) (r : List Nat) : Str := strOf (rowL (d.map lE) r)
def textS (d : List Ent) (r : List Nat) : Str := strOf (textL (d.map lE) r)
variable {N k : Nat}
theorem s_is_reading_of {d : List Ent} {r : List Nat} (h : Rok d r) : run F N (k + 4) 14 [.val (dD d), .val (rD r)] = some (.val (.bool true), [some (.val (dD d)), some (.val (rD r))]) := by
  have e : rD r = .tuple ((r.map fun (i : Nat) => (i : Int)).map .int) := by unfold rD; simp
  have lr : r.length ≤ LIM := by have := h.2; unfold LIM; omega
  have a := s_are_between (N := N) (k := k) (r.map fun (i : Nat) => (i : Int)) 0 ((d.length : Int) - 1) (by simpa using lr)
  have hb : ((r.map fun (i : Nat) => (i : Int)).all fun i => decide (0 ≤ i ∧ i ≤ (d.length : Int) - 1)) = true := by
    rw [List.all_eq_true]
    intro x hx
    obtain ⟨i, hi, q⟩ := List.mem_map.mp hx
    subst q
    rw [decide_eq_true_eq]
    have := h.1 i hi
    omega
  rw [hb, ← e] at a
  have n1 : (r.length : Int) ≤ 2000 := by have := h.2; omega
  rw [run_of F_14 rfl (by decide) rfl rfl]
  unfold rD at a
  simp [f_is_reading_of, b_is_reading_of, e_var, e_cst, e_glb, e_tup, e_lst, e_bin, e_neg, e_cmp, e_chn, e_idx, e_slc, e_rev, e_call, e_bc, e_isi, e_lrg, e_mth, e_pop, e_dK, e_dT1, e_and, e_or, e_ite, e_inv, evt_inv, evt_cmp, evt_isi, evt_and, evt_or, evt_call, evt_bc, evt_chn, evs, evo, exs, ex, refr, passA, backA, valSl, b_val, b_fr, b_bo, b_tp, bindTs, bindP, PL.finish, retV, opBin, opCmp, opCmp.opIn, opEq, opIdx, opSlc, opRev, bcall, mcall, mtOk, opIsi, RV.dat, RV.frz, retOk, noList, noLists, obNl, gd_pos, keyD, keysD, wipeD, backD, valAt, evi, turnQ, evq, dD, rD, a, n1]
theorem at_d {d : List Ent} {i : Nat} (h : i < d.length) : L2.atI (d.map eD) (i : Int) = some (.tuple [.str (outl d i), .str (text d i)]) := by
  rw [L2.atI_nat (v := .tuple [.str (outl d i), .str (text d i)])]
  rw [List.getElem?_map]
  unfold outl text
  rw [List.getElem?_eq_getElem h]
  rfl
theorem at_dD {d : List Ent} {i : Nat} (h : i < d.length) : opIdx (.val (dD d)) (.val (.int (i : Int))) = some (.tuple [.str (outl d i), .str (text d i)]) := by
  have := at_d h
  unfold dD opIdx
  simp only [RV.dat]
  exact this
theorem rowL_e (d : List Ent) (r : List Nat) : rowL (d.map lE) r = (r.map (outl d)).flatMap fun s => s.cps.toList := by
  unfold rowL
  rw [List.flatMap_map]
  congr 1
  funext i
  unfold outl
  rw [List.getElem?_map]
  cases d[i]? <;> rfl
theorem textL_e (d : List Ent) (r : List Nat) : textL (d.map lE) r = (r.map (text d)).flatMap fun s => s.cps.toList := by
  unfold textL
  rw [List.flatMap_map]
  congr 1
  funext i
  unfold text
  rw [List.getElem?_map]
  cases d[i]? <;> rfl
theorem outl_le {d : List Ent} (h : ∀ e ∈ d, Le e) (i : Nat) : (outl d i).length ≤ 8 := by
  unfold outl
  cases e : d[i]? with
  | none => exact Nat.zero_le _
  | some x => exact (h x (List.mem_of_getElem? e)).1.2.1
theorem text_le {d : List Ent} (h : ∀ e ∈ d, Le e) (i : Nat) : (text d i).length ≤ 8 := by
  unfold text
  cases e : d[i]? with
  | none => exact Nat.zero_le _
  | some x => exact (h x (List.mem_of_getElem? e)).2.2.1
theorem sum_le {f : Nat → Str} (h : ∀ i, (f i).length ≤ 8) : ∀ r : List Nat, ((r.map f).map (·.length)).sum ≤ 8 * r.length
  | [] => by simp
  | x :: r => by
    have := sum_le h r
    have := h x
    simp only [List.map_cons, List.sum_cons, List.length_cons]
    omega
theorem join_of {α : Type} {g : α → Str} {r : List α} (h : ((r.map g).map (·.length)).sum ≤ LIM) : mcall .join (.val (.str (Str.ofString ""))) [.fr (.L (r.map fun x => .str (g x)))] = some (.val (.str (strOf ((r.map g).flatMap fun s => s.cps.toList)))) := by
  simp only [mcall, RV.dat, strsD_map, Option.bind_some]
  rw [gd_pos ⟨rfl, h⟩]
  rfl
theorem s_row_by {d : List Ent} {r : List Nat} (hd : ∀ e ∈ d, Le e) (h : Rok d r) : run F N (k + 1) 15 [.val (dD d), .val (rD r)] = some (.val (.str (rowS d r)), [some (.val (dD d)), some (.val (rD r))]) := by
  have lr : r.length ≤ LIM := by have := h.2; unfold LIM; omega
  have lz := sum_le (outl_le hd) r
  have ls : ((r.map (outl d)).map (·.length)).sum ≤ LIM := by
    have := h.2
    have z : 16000 ≤ LIM := by unfold LIM; omega
    omega
  rw [run_of F_15 rfl (by decide) rfl rfl]
  have hc : ev (run F N k) (.comp (.idx (.idx (.var 0) (.var 2)) (.cst (PyData.int 0))) (.nm 2) (.vals (.var 1)) .no [("place", 2)]) [some (.val (dD d)), some (.val (rD r)), none] = some (.fr (.L (r.map fun x => .str (outl d x))), [some (.val (dD d)), some (.val (rD r)), none]) := by
    rw [comp_all (fun (i : Nat) => PyData.int i) (fun i => .str (outl d i)) (l := r) (bs := []) (env1 := [some (.val (dD d)), some (.val (rD r)), none]) (by rw [evi, e_var]; rfl) (by simp) lr (fun x hx => ⟨[some (.val (dD d)), some (.val (rD r)), some (.val (.int x))], by
      have := at_dD (h.1 x hx)
      simp [turnQ, evq, b_val, e_idx, e_var, e_cst, refr, RV.frz, wipeD, this]
      simp [opIdx, RV.dat, RV.frz, L2.atI, L2.ixN], by simp [wipeD]⟩)]
    simp [backD, wipeD, valAt]
  have e1 := join_of (g := outl d) (r := r) ls
  simp [f_row_by, b_row_by, exs, ex, e_mth, e_cst, evs, hc, mtOk, refr, e1, retV, PL.finish, gd_pos, rowS, rowL_e]
theorem s_text_by {d : List Ent} {r : List Nat} (hd : ∀ e ∈ d, Le e) (h : Rok d r) : run F N (k + 1) 16 [.val (dD d), .val (rD r)] = some (.val (.str (textS d r)), [some (.val (dD d)), some (.val (rD r))]) := by
  have lr : r.length ≤ LIM := by have := h.2; unfold LIM; omega
  have lz := sum_le (text_le hd) r
  have ls : ((r.map (text d)).map (·.length)).sum ≤ LIM := by
    have := h.2
    have z : 16000 ≤ LIM := by unfold LIM; omega
    omega
  rw [run_of F_16 rfl (by decide) rfl rfl]
  have hc : ev (run F N k) (.comp (.idx (.idx (.var 0) (.var 2)) (.cst (PyData.int 1))) (.nm 2) (.vals (.var 1)) .no [("place", 2)]) [some (.val (dD d)), some (.val (rD r)), none] = some (.fr (.L (r.map fun x => .str (text d x))), [some (.val (dD d)), some (.val (rD r)), none]) := by
    rw [comp_all (fun (i : Nat) => PyData.int i) (fun i => .str (text d i)) (l := r) (bs := []) (env1 := [some (.val (dD d)), some (.val (rD r)), none]) (by rw [evi, e_var]; rfl) (by simp) lr (fun x hx => ⟨[some (.val (dD d)), some (.val (rD r)), some (.val (.int x))], by
      have := at_dD (h.1 x hx)
      simp [turnQ, evq, b_val, e_idx, e_var, e_cst, refr, RV.frz, wipeD, this]
      simp [opIdx, RV.dat, RV.frz, L2.atI, L2.ixN], by simp [wipeD]⟩)]
    simp [backD, wipeD, valAt]
  have e1 := join_of (g := text d) (r := r) ls
  simp [f_text_by, b_text_by, exs, ex, e_mth, e_cst, evs, hc, mtOk, refr, e1, retV, PL.finish, gd_pos, textS, textL_e]
end PT
set_option maxRecDepth 100000
set_option maxHeartbeats 4000000
/-! S7: what within_by tells. -/
namespace PT
open PySem PL
open L2 (Key)
def entryD (j : Nat) : Da := .tuple [.str "entry", .int j]
def withinD (rs : List Da) : Da := .tuple [.str "within", .tuple rs]
noncomputable def fo (N : Nat) (d o : List Ent) : List Da := d.map fun e => rO (rf N o e)
noncomputable def miss (N : Nat) (d o : List Ent) : Option Nat := d.findIdx? fun e => (rf N o e).isNone
noncomputable def wv (N : Nat) (d o : List Ent) : Da := match miss N d o with
  | some j => entryD j
  | none => withinD (fo N d o)
theorem eqv_rO (r : Option (List Nat)) : PyData.eqv (rO r) .none = r.isNone := by
  cases r <;> simp [rO, rD, PyData.eqv]
theorem lay_ints : ∀ r : List Nat, PyData.canLayAll0 (r.map fun (i : Nat) => PyData.int i) = true
  | [] => rfl
  | x :: r => by rw [List.map_cons, PyData.canLayAll0, lay_ints r]; rfl
theorem dep_ints : ∀ r : List Nat, PyData.depthAll (r.map fun (i : Nat) => PyData.int i) ≤ 5
  | [] => by simp [PyData.depthAll]
  | x :: r => by
    have := dep_ints r
    simp only [List.map_cons, PyData.depthAll, PyData.depth] at this ⊢
    omega
theorem lay_rO (r : Option (List Nat)) : (rO r).canLay0 = true := by
  cases r with
  | none => rfl
  | some r => simp only [rO, rD, PyData.canLay0]; exact lay_ints r
theorem dep_rO (r : Option (List Nat)) : (rO r).depth ≤ 10 := by
  cases r with
  | none => simp [rO, PyData.depth]
  | some r =>
    have := dep_ints r
    simp only [rO, rD, PyData.depth]
    omega
variable {N k : Nat}
theorem lay_fo (o : List Ent) : ∀ d : List Ent, PyData.canLayAll0 (fo N d o) = true
  | [] => rfl
  | x :: r => by
    have := lay_fo o r
    unfold fo at this ⊢
    rw [List.map_cons, PyData.canLayAll0, this, lay_rO]; rfl
theorem dep_fo (o : List Ent) : ∀ d : List Ent, PyData.depthAll (fo N d o) ≤ 20
  | [] => by simp [fo, PyData.depthAll]
  | x :: r => by
    have := dep_fo o r
    have h := dep_rO (rf N o x)
    unfold fo at this ⊢
    simp only [List.map_cons, PyData.depthAll] at this ⊢
    omega
theorem any_fo (o : List Ent) : ∀ d : List Ent, ((fo N d o).any fun z => PyData.eqv z .none) = (miss N d o).isSome
  | [] => rfl
  | x :: d => by
    have := any_fo o d
    unfold fo miss at this ⊢
    rw [List.map_cons, List.any_cons, this, eqv_rO, List.findIdx?_cons]
    cases (rf N o x).isNone <;> simp
theorem idx_fo (o : List Ent) : ∀ d : List Ent, ((fo N d o).findIdx? fun z => PyData.eqv z .none) = miss N d o
  | [] => rfl
  | x :: d => by
    have := idx_fo o d
    unfold fo miss at this ⊢
    rw [List.map_cons, List.findIdx?_cons, this, eqv_rO, List.findIdx?_cons]
theorem fo_len (d o : List Ent) : (fo N d o).length = d.length := by unfold fo; rw [List.length_map]
theorem eqok_fo (d o : List Ent) : eqOk .none (.list (fo N d o)) := by
  refine ⟨rfl, by simp only [PyData.canLay0]; exact lay_fo o d, by simp [PyData.depth], ?_⟩
  have := dep_fo (N := N) o d
  simp only [PyData.depth]
  omega
theorem nl_rO (r : Option (List Nat)) : noList (rO r) = true := by
  cases r with
  | none => rfl
  | some r => exact nl_r r
theorem nl_fo (o : List Ent) : ∀ d : List Ent, noLists (fo N d o) = true
  | [] => rfl
  | x :: d => by
    have := nl_fo o d
    unfold fo at this ⊢
    rw [List.map_cons, noLists, nl_rO, this]; rfl
theorem s_within_by {d o : List Ent} (h : Dk d) (ho : Dk o) (hN : 200 ≤ N) : run F N (k + 2) 18 [.val (dD d), .val (dD o)] = some (.val (wv N d o), [some (.val (dD d)), some (.val (dD o))]) := by
  rw [run_of F_18 rfl (by decide) rfl rfl]
  have ld : d.length ≤ LIM := lim8 (by have := h.2.1; omega)
  have hc : ev (run F N (k + 1)) (.comp (.call 17 (.cons (.var 1) (.cons (.var 3) (.cons (.var 4) .nil))) [none, none, none]) (.tp (.cons (.nm 3) (.cons (.nm 4) .nil))) (.vals (.var 0)) .no [("outline", 3), ("text", 4)]) [some (.val (dD d)), some (.val (dD o)), none, none, none] =
      some (.fr (.L (fo N d o)), [some (.val (dD d)), some (.val (dD o)), none, none, none]) := by
    rw [comp_all eD (fun e => rO (rf N o e)) (l := d) (bs := []) (env1 := [some (.val (dD d)), some (.val (dD o)), none, none, none]) (by rw [evi, e_var]; rfl) (by simp) ld (fun x hx => ⟨[some (.val (dD d)), some (.val (dD o)), none, some (.val (.str x.1)), some (.val (.str x.2))], by
      have a := s_reading_for (N := N) (k := k) ho.2.2.1 (h.2.2.1 x hx) hN
      simp [turnQ, evq, eD, b_tp, bindTs, b_val, wipeD, e_call, evs, e_var, refr, passA, valSl, backA, RV.dat, RV.frz, a, retOk, gd_pos, nl_rO], by simp [wipeD]⟩)]
    simp [backD, wipeD, valAt, fo]
  have lf : (fo N d o).length ≤ LIM := by rw [fo_len]; exact ld
  have hi : opCmp .In (.val .none) (.bo 2 (.L (fo N d o))) = some (miss N d o).isSome := by
    simp only [opCmp, opCmp.opIn]
    rw [gd_pos (eqok_fo d o), any_fo]
    rfl
  have hx : mcall .index (.bo 2 (.L (fo N d o))) [.val .none] = (miss N d o).map fun (j : Nat) => .val (.int j) := by
    simp only [mcall, RV.dat]
    rw [gd_pos (eqok_fo d o)]
    simp only [Option.bind_some]
    rw [idx_fo]
  have l2 : 2 ≤ LIM := lim8 (by omega)
  have hm : mtOk .index (.bo 2 (.L (fo N d o))) := ⟨_, rfl⟩
  simp only [f_within_by, b_within_by, List.map_cons, List.map_nil, List.replicate, List.cons_append, List.nil_append, Nat.reduceSub]
  rw [exs, ex, hc]
  simp only [Option.bind_some, b_fr]
  unfold wv
  cases hz : miss N d o with
  | none =>
    rw [hz] at hi
    simp [exs, ex, evt_cmp, e_cst, e_var, refr, hi, e_tup, e_glb, e_bc, evs, bcall, RV.dat, RV.frz, gd_pos, l2, lf, retV, PL.finish, withinD]
  | some j =>
    rw [hz] at hi hx
    simp [exs, ex, evt_cmp, e_cst, e_var, refr, hi, e_tup, e_glb, e_mth, evs, hm, hx, RV.frz, gd_pos, l2, lf, retV, PL.finish, entryD]
end PT
set_option maxRecDepth 100000
set_option maxHeartbeats 4000000
/-! S8: within_told, shows_within, is_same. -/
namespace PT
open PySem PL
open L2 (Key)
variable {N k : Nat}
theorem nl_wv (d o : List Ent) : noList (wv N d o) = true := by
  unfold wv
  cases miss N d o with
  | none => exact (show noLists [.str "within", .tuple (fo N d o)] = true by rw [noLists, noLists, noLists, noList, noList, nl_fo]; rfl)
  | some j => rfl
theorem s_within_told {d o : List Ent} (h : Dk d) (ho : Dk o) (hN : 200 ≤ N) : run F N (k + 7) 20 [.val (dD d), .val (dD o)] = some (.val (wv N d o), [some (.val (dD d)), some (.val (dD o))]) := by
  have a1 := s_check_both (N := N) (k := k) h ho
  have a2 := s_within_by (N := N) (k := k + 4) h ho hN
  rw [run_of F_20 rfl (by decide) rfl rfl]
  simp [f_within_told, b_within_told, e_var, e_cst, e_glb, e_tup, e_lst, e_bin, e_neg, e_cmp, e_chn, e_idx, e_slc, e_rev, e_call, e_bc, e_isi, e_lrg, e_mth, e_pop, e_dK, e_dT1, e_and, e_or, e_ite, e_inv, evt_inv, evt_cmp, evt_isi, evt_and, evt_or, evt_call, evt_bc, evt_chn, evs, evo, exs, ex, refr, passA, backA, valSl, b_val, b_fr, b_bo, b_tp, bindTs, bindP, PL.finish, retV, opBin, opCmp, opCmp.opIn, opEq, opIdx, opSlc, opRev, bcall, mcall, mtOk, opIsi, RV.dat, RV.frz, retOk, noList, noLists, obNl, gd_pos, keyD, keysD, wipeD, backD, valAt, evi, turnQ, evq, a1, a2, nl_d, nl_wv]
theorem en_wi : decide (Str.ofString "entry" = Str.ofString "within") = false := by decide
theorem wi_en : decide (Str.ofString "within" = Str.ofString "entry") = false := by decide
theorem lay_entry (j : Nat) : (entryD j).canLay0 = true := by
  simp only [entryD, PyData.canLay0, PyData.canLayAll0, Bool.and_true]
  decide +kernel
theorem eqv_entry (i j : Nat) : PyData.eqv (entryD i) (entryD j) = decide (i = j) := by
  simp [entryD, PyData.eqv, PyData.eqvAll]
  rw [Bool.beq_eq_decide_eq, decide_eq_decide]
  omega
theorem eqv_we (rs : List Da) (j : Nat) : PyData.eqv (withinD rs) (entryD j) = false := by
  simp [withinD, entryD, PyData.eqv, PyData.eqvAll]
theorem lay_wv (d o : List Ent) : (wv N d o).canLay0 = true := by
  unfold wv
  cases miss N d o with
  | none =>
    have := lay_fo (N := N) o d
    simp only [withinD, PyData.canLay0, PyData.canLayAll0, this, Bool.and_true]
    decide +kernel
  | some j => exact lay_entry j
theorem dep_wv (d o : List Ent) : (wv N d o).depth ≤ 64 := by
  unfold wv
  cases miss N d o with
  | none =>
    have := dep_fo (N := N) o d
    simp only [withinD, PyData.depth, PyData.depthAll]
    omega
  | some j => simp [entryD, PyData.depth, PyData.depthAll]
theorem eq_we (d o : List Ent) (j : Nat) : opCmp .Eq (.val (wv N d o)) (.val (entryD j)) = some (decide (miss N d o = some j)) := by
  have e : eqOk (wv N d o) (entryD j) := ⟨lay_wv d o, lay_entry j, dep_wv d o, by simp [entryD, PyData.depth, PyData.depthAll]⟩
  have e2 : opEq (wv N d o) (entryD j) = (gd (eqOk (wv N d o) (entryD j))).map fun _ => PyData.eqv (wv N d o) (entryD j) := by
    unfold opEq
    unfold wv
    cases miss N d o <;> rfl
  simp only [opCmp, RV.dat, Option.bind_some]
  rw [e2, gd_pos e]
  unfold wv
  cases miss N d o with
  | none => simp [eqv_we]
  | some i => simp [eqv_entry]
theorem s_shows_entry {d o : List Ent} {j : Nat} (h : Dk d) (ho : Dk o) (hN : 200 ≤ N) (hj : j < d.length) : run F N (k + 7) 21 [.val (dD d), .val (dD o), .val (entryD j)] = some (.val (.bool (decide (miss N d o = some j))), [some (.val (dD d)), some (.val (dD o)), some (.val (entryD j))]) := by
  have a1 := s_check_both (N := N) (k := k) h ho
  have a2 := s_within_by (N := N) (k := k + 4) h ho hN
  have a3 := s_is_tuple_of (N := N) (k := k + 5) [.str "entry", .int j] 2
  have a4 := s_is_between (N := N) (k := k + 4) j 0 (d.length - 1)
  have z : decide ((0 : Int) ≤ j ∧ (j : Int) ≤ d.length - 1) = true := by rw [decide_eq_true_eq]; omega
  rw [z] at a4
  have a5 := eq_we (N := N) d o j
  have ee : RV.val (PyData.tuple [.str "entry", .int j]) = .val (entryD j) := rfl
  rw [run_of F_21 rfl (by decide) rfl rfl]
  have c1 : ev (run F N (k + 6)) (.call 19 (.cons (.var 0) (.cons (.var 1) .nil)) [none, none]) [some (.val (dD d)), some (.val (dD o)), some (.val (entryD j)), none] = some (.val .none, [some (.val (dD d)), some (.val (dD o)), some (.val (entryD j)), none]) := by
    simp [e_var, e_cst, e_glb, e_tup, e_lst, e_bin, e_neg, e_cmp, e_chn, e_idx, e_slc, e_rev, e_call, e_bc, e_isi, e_lrg, e_mth, e_pop, e_dK, e_dT1, e_and, e_or, e_ite, e_inv, evt_inv, evt_cmp, evt_isi, evt_and, evt_or, evt_call, evt_bc, evt_chn, evs, evo, exs, ex, refr, passA, backA, valSl, b_val, b_fr, b_bo, b_tp, bindTs, bindP, PL.finish, retV, opBin, opCmp, opCmp.opIn, opEq, opIdx, opSlc, opRev, bcall, mcall, mtOk, opIsi, RV.dat, RV.frz, retOk, noList, noLists, obNl, gd_pos, keyD, keysD, wipeD, backD, valAt, evi, turnQ, evq, a1, nl_d]
  have c2 : evt (run F N (k + 6)) (.or (.inv (.call 3 (.cons (.var 2) (.cons (.cst (PyData.int 2)) .nil)) [none, none])) (.inv (.isi .str (.idx (.var 2) (.cst (PyData.int 0)))))) [some (.val (dD d)), some (.val (dD o)), some (.val (entryD j)), none] = some (false, [some (.val (dD d)), some (.val (dD o)), some (.val (entryD j)), none]) := by
    unfold entryD
    simp [e_var, e_cst, e_glb, e_tup, e_lst, e_bin, e_neg, e_cmp, e_chn, e_idx, e_slc, e_rev, e_call, e_bc, e_isi, e_lrg, e_mth, e_pop, e_dK, e_dT1, e_and, e_or, e_ite, e_inv, evt_inv, evt_cmp, evt_isi, evt_and, evt_or, evt_call, evt_bc, evt_chn, evs, evo, exs, ex, refr, passA, backA, valSl, b_val, b_fr, b_bo, b_tp, bindTs, bindP, PL.finish, retV, opBin, opCmp, opCmp.opIn, opEq, opIdx, opSlc, opRev, bcall, mcall, mtOk, opIsi, RV.dat, RV.frz, retOk, noList, noLists, obNl, gd_pos, keyD, keysD, wipeD, backD, valAt, evi, turnQ, evq, a3, L2.atI, L2.ixN]
  have c3 : evt (run F N (k + 6)) (.cmp .Eq (.idx (.var 2) (.cst (PyData.int 0))) (.glb "ENTRY" (PyData.str "entry"))) [some (.val (dD d)), some (.val (dD o)), some (.val (entryD j)), none] = some (true, [some (.val (dD d)), some (.val (dD o)), some (.val (entryD j)), none]) := by
    unfold entryD
    simp [e_var, e_cst, e_glb, e_tup, e_lst, e_bin, e_neg, e_cmp, e_chn, e_idx, e_slc, e_rev, e_call, e_bc, e_isi, e_lrg, e_mth, e_pop, e_dK, e_dT1, e_and, e_or, e_ite, e_inv, evt_inv, evt_cmp, evt_isi, evt_and, evt_or, evt_call, evt_bc, evt_chn, evs, evo, exs, ex, refr, passA, backA, valSl, b_val, b_fr, b_bo, b_tp, bindTs, bindP, PL.finish, retV, opBin, opCmp, opCmp.opIn, opEq, opIdx, opSlc, opRev, bcall, mcall, mtOk, opIsi, RV.dat, RV.frz, retOk, noList, noLists, obNl, gd_pos, keyD, keysD, wipeD, backD, valAt, evi, turnQ, evq, L2.atI, L2.ixN]
  have c4 : evt (run F N (k + 6)) (.call 1 (.cons (.idx (.var 2) (.cst (PyData.int 1))) (.cons (.cst (PyData.int 0)) (.cons (.bin .Sub (.bc .len (.cons (.var 0) .nil)) (.cst (PyData.int 1))) .nil))) [none, none, none]) [some (.val (dD d)), some (.val (dD o)), some (.val (entryD j)), none] = some (true, [some (.val (dD d)), some (.val (dD o)), some (.val (entryD j)), none]) := by
    have e1 : opIdx (.val (entryD j)) (.val (.int 1)) = some (.int j) := rfl
    have e2 : bcall .len [RV.val (dD d)] = some (.val (.int d.length)) := by simp [bcall, RV.dat, dD]
    simp [evt_call, e_call, evs, e_idx, e_var, e_cst, e_bin, e_bc, refr, e1, e2, opBin, passA, valSl, backA, RV.dat, RV.frz, gd_pos, a4, retOk, noList]
  have c5 : ev (run F N (k + 6)) (.call 18 (.cons (.var 0) (.cons (.var 1) .nil)) [none, none]) [some (.val (dD d)), some (.val (dD o)), some (.val (entryD j)), none] = some (.val (wv N d o), [some (.val (dD d)), some (.val (dD o)), some (.val (entryD j)), none]) := by
    simp [e_call, evs, e_var, refr, passA, valSl, backA, RV.dat, RV.frz, gd_pos, a2, retOk, nl_wv]
  have c6 : evt (run F N (k + 6)) (.cmp .Eq (.call 18 (.cons (.var 0) (.cons (.var 1) .nil)) [none, none]) (.var 2)) [some (.val (dD d)), some (.val (dD o)), some (.val (entryD j)), none] = some (decide (miss N d o = some j), [some (.val (dD d)), some (.val (dD o)), some (.val (entryD j)), none]) := by
    simp [evt_cmp, c5, e_var, refr, a5]
  simp only [f_shows_within, b_shows_within, List.map_cons, List.map_nil, List.replicate, List.cons_append, List.nil_append, Nat.reduceSub]
  simp [exs, ex, c1, c2, c3, e_and, c4, c6, retV, PL.finish, gd_pos]
theorem eqvAll_e : ∀ l m : List Ent, PyData.eqvAll (l.map eD) (m.map eD) = decide (l = m)
  | [], [] => rfl
  | [], y :: m => by simp [PyData.eqvAll]
  | x :: l, [] => by simp [PyData.eqvAll]
  | x :: l, y :: m => by
    rw [List.map_cons, List.map_cons, PyData.eqvAll, eqv_e, eqvAll_e l m, ← Bool.decide_and, decide_eq_decide, List.cons.injEq]
theorem cps_row {o : List Ent} (h : ∀ e ∈ o, Le e) (r : List Nat) : ∀ c ∈ (rowS o r).cps.toList, c ≤ 122 := by
  intro c hc
  unfold rowS strOf at hc
  rw [rowL_e] at hc
  simp only [List.mem_flatMap, List.mem_map] at hc
  obtain ⟨s, ⟨i, _, e⟩, h2⟩ := hc
  subst e
  unfold outl at h2
  cases q : o[i]? with
  | none => rw [q] at h2; simp at h2
  | some x => rw [q] at h2; exact ((h x (List.mem_of_getElem? q)).1.2.2 c h2).2
theorem cps_text {o : List Ent} (h : ∀ e ∈ o, Le e) (r : List Nat) : ∀ c ∈ (textS o r).cps.toList, c ≤ 122 := by
  intro c hc
  unfold textS strOf at hc
  rw [textL_e] at hc
  simp only [List.mem_flatMap, List.mem_map] at hc
  obtain ⟨s, ⟨i, _, e⟩, h2⟩ := hc
  subst e
  unfold text at h2
  cases q : o[i]? with
  | none => rw [q] at h2; simp at h2
  | some x => rw [q] at h2; exact ((h x (List.mem_of_getElem? q)).2.2.2 c h2).2
/-- what a reading says: the entry it makes -/
def said (o : List Ent) (r : List Nat) : Ent := (rowS o r, textS o r)
theorem lay_said {o : List Ent} (h : ∀ e ∈ o, Le e) : ∀ rs : List (List Nat), PyData.canLayAll0 ((rs.map (said o)).map eD) = true
  | [] => rfl
  | r :: rs => by
    have h1 := sok_s (cps_row h r)
    have h2 := sok_s (cps_text h r)
    rw [List.map_cons, List.map_cons, PyData.canLayAll0, lay_said h rs]
    simp [eD, said, PyData.canLay0, PyData.canLayAll0, h1, h2]
theorem eq_said {d o : List Ent} (h : ∀ e ∈ d, Le e) (ho : ∀ e ∈ o, Le e) (rs : List (List Nat)) : opEq (.list ((rs.map (said o)).map eD)) (.list (d.map eD)) = some (decide (rs.map (said o) = d)) := by
  have e : eqOk (.list ((rs.map (said o)).map eD)) (.list (d.map eD)) := by
    refine ⟨by simp only [PyData.canLay0]; exact lay_said ho rs, by simp only [PyData.canLay0]; exact lay_d h, ?_, ?_⟩
    · have := dep_d (rs.map (said o)); simp only [PyData.depth]; omega
    · have := dep_d d; simp only [PyData.depth]; omega
  simp only [opEq]
  rw [gd_pos e]
  simp only [Option.map_some, PyData.eqv, eqvAll_e]
theorem s_shows_within {d o : List Ent} {rs : List (List Nat)} (h : Dk d) (ho : Dk o) (hr : ∀ r ∈ rs, Rok o r) (hl : rs.length ≤ LIM) : run F N (k + 7) 21 [.val (dD d), .val (dD o), .val (withinD (rs.map rD))] = some (.val (.bool (decide (rs.map (said o) = d))), [some (.val (dD d)), some (.val (dD o)), some (.val (withinD (rs.map rD)))]) := by
  have a1 := s_check_both (N := N) (k := k) h ho
  have a3 := s_is_tuple_of (N := N) (k := k + 5) [.str "within", .tuple (rs.map rD)] 2
  have a4 := s_is_tuple_of (N := N) (k := k + 5) (rs.map rD) d.length
  rw [run_of F_21 rfl (by decide) rfl rfl]
  have c1 : ev (run F N (k + 6)) (.call 19 (.cons (.var 0) (.cons (.var 1) .nil)) [none, none]) [some (.val (dD d)), some (.val (dD o)), some (.val (withinD (rs.map rD))), none] = some (.val .none, [some (.val (dD d)), some (.val (dD o)), some (.val (withinD (rs.map rD))), none]) := by
    simp [e_var, e_cst, e_glb, e_tup, e_lst, e_bin, e_neg, e_cmp, e_chn, e_idx, e_slc, e_rev, e_call, e_bc, e_isi, e_lrg, e_mth, e_pop, e_dK, e_dT1, e_and, e_or, e_ite, e_inv, evt_inv, evt_cmp, evt_isi, evt_and, evt_or, evt_call, evt_bc, evt_chn, evs, evo, exs, ex, refr, passA, backA, valSl, b_val, b_fr, b_bo, b_tp, bindTs, bindP, PL.finish, retV, opBin, opCmp, opCmp.opIn, opEq, opIdx, opSlc, opRev, bcall, mcall, mtOk, opIsi, RV.dat, RV.frz, retOk, noList, noLists, obNl, gd_pos, keyD, keysD, wipeD, backD, valAt, evi, turnQ, evq, a1, nl_d]
  have c2 : evt (run F N (k + 6)) (.or (.inv (.call 3 (.cons (.var 2) (.cons (.cst (PyData.int 2)) .nil)) [none, none])) (.inv (.isi .str (.idx (.var 2) (.cst (PyData.int 0)))))) [some (.val (dD d)), some (.val (dD o)), some (.val (withinD (rs.map rD))), none] = some (false, [some (.val (dD d)), some (.val (dD o)), some (.val (withinD (rs.map rD))), none]) := by
    unfold withinD
    simp [e_var, e_cst, e_glb, e_tup, e_lst, e_bin, e_neg, e_cmp, e_chn, e_idx, e_slc, e_rev, e_call, e_bc, e_isi, e_lrg, e_mth, e_pop, e_dK, e_dT1, e_and, e_or, e_ite, e_inv, evt_inv, evt_cmp, evt_isi, evt_and, evt_or, evt_call, evt_bc, evt_chn, evs, evo, exs, ex, refr, passA, backA, valSl, b_val, b_fr, b_bo, b_tp, bindTs, bindP, PL.finish, retV, opBin, opCmp, opCmp.opIn, opEq, opIdx, opSlc, opRev, bcall, mcall, mtOk, opIsi, RV.dat, RV.frz, retOk, noList, noLists, obNl, gd_pos, keyD, keysD, wipeD, backD, valAt, evi, turnQ, evq, a3, L2.atI, L2.ixN]
  have c3 : evt (run F N (k + 6)) (.cmp .Eq (.idx (.var 2) (.cst (PyData.int 0))) (.glb "ENTRY" (PyData.str "entry"))) [some (.val (dD d)), some (.val (dD o)), some (.val (withinD (rs.map rD))), none] = some (false, [some (.val (dD d)), some (.val (dD o)), some (.val (withinD (rs.map rD))), none]) := by
    have := wi_en
    unfold withinD
    simp [e_var, e_cst, e_glb, e_tup, e_lst, e_bin, e_neg, e_cmp, e_chn, e_idx, e_slc, e_rev, e_call, e_bc, e_isi, e_lrg, e_mth, e_pop, e_dK, e_dT1, e_and, e_or, e_ite, e_inv, evt_inv, evt_cmp, evt_isi, evt_and, evt_or, evt_call, evt_bc, evt_chn, evs, evo, exs, ex, refr, passA, backA, valSl, b_val, b_fr, b_bo, b_tp, bindTs, bindP, PL.finish, retV, opBin, opCmp, opCmp.opIn, opEq, opIdx, opSlc, opRev, bcall, mcall, mtOk, opIsi, RV.dat, RV.frz, retOk, noList, noLists, obNl, gd_pos, keyD, keysD, wipeD, backD, valAt, evi, turnQ, evq, L2.atI, L2.ixN, this]
  have i1 : opIdx (.val (withinD (rs.map rD))) (.val (.int 1)) = some (.tuple (rs.map rD)) := rfl
  have i2 : bcall .len [RV.val (dD d)] = some (.val (.int d.length)) := by simp [bcall, RV.dat, dD]
  rw [List.length_map] at a4
  have c4 : evt (run F N (k + 6)) (.or (.cmp .NotEq (.idx (.var 2) (.cst (PyData.int 0))) (.glb "WITHIN" (PyData.str "within"))) (.inv (.call 3 (.cons (.idx (.var 2) (.cst (PyData.int 1))) (.cons (.bc .len (.cons (.var 0) .nil)) .nil)) [none, none]))) [some (.val (dD d)), some (.val (dD o)), some (.val (withinD (rs.map rD))), none] = some (!decide (rs.length = d.length), [some (.val (dD d)), some (.val (dD o)), some (.val (withinD (rs.map rD))), none]) := by
    have i0 : opIdx (.val (withinD (rs.map rD))) (.val (.int 0)) = some (.str "within") := rfl
    have zz : decide ((rs.length : Int) = d.length) = decide (rs.length = d.length) := by rw [decide_eq_decide]; omega
    rw [zz] at a4
    have n0 : opCmp .NotEq (.val (.str "within")) (.val (.str "within")) = some false := by simp [opCmp, RV.dat, opEq]
    simp [evt_or, evt_cmp, evt_inv, evt_call, e_call, evs, e_idx, e_var, e_cst, e_glb, e_bc, refr, i0, i1, i2, n0, passA, valSl, backA, RV.dat, RV.frz, gd_pos, a4, retOk, noList]
  simp only [f_shows_within, b_shows_within, List.map_cons, List.map_nil, List.replicate, List.cons_append, List.nil_append, Nat.reduceSub]
  by_cases hz : rs.length = d.length
  case neg =>
    have hf : ¬ rs.map (said o) = d := fun z => hz (by rw [← z, List.length_map])
    rw [decide_eq_false hz] at c4
    rw [decide_eq_false hf]
    simp [exs, ex, c1, c2, c3, c4, e_cst, retV, PL.finish, gd_pos]
  rw [decide_eq_true hz] at c4
  have c5 : evt (run F N (k + 6)) (.inv (.bc .all (.cons (.comp (.call 14 (.cons (.var 1) (.cons (.var 3) .nil)) [none, none]) (.nm 3) (.vals (.idx (.var 2) (.cst (PyData.int 1)))) .no [("reading", 3)]) .nil))) [some (.val (dD d)), some (.val (dD o)), some (.val (withinD (rs.map rD))), none] = some (false, [some (.val (dD d)), some (.val (dD o)), some (.val (withinD (rs.map rD))), none]) := by
    have hc : ev (run F N (k + 6)) (.comp (.call 14 (.cons (.var 1) (.cons (.var 3) .nil)) [none, none]) (.nm 3) (.vals (.idx (.var 2) (.cst (PyData.int 1)))) .no [("reading", 3)]) [some (.val (dD d)), some (.val (dD o)), some (.val (withinD (rs.map rD))), none] = some (.fr (.L (rs.map fun _ => .bool true)), [some (.val (dD d)), some (.val (dD o)), some (.val (withinD (rs.map rD))), none]) := by
      rw [comp_all rD (fun _ => .bool true) (l := rs) (bs := []) (env1 := [some (.val (dD d)), some (.val (dD o)), some (.val (withinD (rs.map rD))), none]) (by simp [evi, e_idx, e_var, e_cst, refr, i1, RV.dat]) (by simp) hl (fun x hx => ⟨[some (.val (dD d)), some (.val (dD o)), some (.val (withinD (rs.map rD))), some (.val (rD x))], by
        have a := s_is_reading_of (N := N) (k := k + 2) (hr x hx)
        simp [turnQ, evq, b_val, wipeD, e_call, evs, e_var, refr, passA, valSl, backA, RV.dat, RV.frz, a, retOk, gd_pos, noList], by simp [wipeD]⟩)]
      simp [backD, wipeD, valAt]
    have := boolsD_map (fun _ : List Nat => true) rs
    simp [evt_inv, evt_bc, e_bc, evs, hc, refr, bcall, RV.dat, this]
  have c6 : ev (run F N (k + 6)) (.comp (.tup (.cons (.call 15 (.cons (.var 1) (.cons (.var 3) .nil)) [none, none]) (.cons (.call 16 (.cons (.var 1) (.cons (.var 3) .nil)) [none, none]) .nil))) (.nm 3) (.vals (.idx (.var 2) (.cst (PyData.int 1)))) .no [("reading", 3)]) [some (.val (dD d)), some (.val (dD o)), some (.val (withinD (rs.map rD))), none] = some (.fr (.L (rs.map fun r => eD (said o r))), [some (.val (dD d)), some (.val (dD o)), some (.val (withinD (rs.map rD))), none]) := by
    rw [comp_all rD (fun r => eD (said o r)) (l := rs) (bs := []) (env1 := [some (.val (dD d)), some (.val (dD o)), some (.val (withinD (rs.map rD))), none]) (by simp [evi, e_idx, e_var, e_cst, refr, i1, RV.dat]) (by simp) hl (fun x hx => ⟨[some (.val (dD d)), some (.val (dD o)), some (.val (withinD (rs.map rD))), some (.val (rD x))], by
      have a := s_row_by (N := N) (k := k + 5) ho.2.2.1 (hr x hx)
      have b := s_text_by (N := N) (k := k + 5) ho.2.2.1 (hr x hx)
      have l2 : 2 ≤ LIM := lim8 (by omega)
      simp [turnQ, evq, b_val, wipeD, e_tup, e_call, evs, e_var, refr, passA, valSl, backA, RV.dat, RV.frz, a, b, retOk, gd_pos, noList, l2, eD, said], by simp [wipeD]⟩)]
    simp [backD, wipeD, valAt]
  have c7 : ev (run F N (k + 6)) (.cmp .Eq (.comp (.tup (.cons (.call 15 (.cons (.var 1) (.cons (.var 3) .nil)) [none, none]) (.cons (.call 16 (.cons (.var 1) (.cons (.var 3) .nil)) [none, none]) .nil))) (.nm 3) (.vals (.idx (.var 2) (.cst (PyData.int 1)))) .no [("reading", 3)]) (.bc .list (.cons (.var 0) .nil))) [some (.val (dD d)), some (.val (dD o)), some (.val (withinD (rs.map rD))), none] = some (.val (.bool (decide (rs.map (said o) = d))), [some (.val (dD d)), some (.val (dD o)), some (.val (withinD (rs.map rD))), none]) := by
    have q := eq_said h.2.2.1 ho.2.2.1 rs
    rw [List.map_map] at q
    have lb : bcall .list [RV.val (dD d)] = some (.fr (.L (d.map eD))) := by simp [bcall, RV.dat, dD, gd_pos, lim8 (show d.length ≤ 1000 by have := h.2.1; omega)]
    rw [e_cmp, c6]
    simp only [Option.bind_some, e_bc, evs, e_var, List.getElem?_cons_zero, Option.map_some, refr, lb, opCmp, RV.dat]
    have q' : opEq (.list (rs.map fun r => eD (said o r))) (.list (d.map eD)) = some (decide (rs.map (said o) = d)) := q
    rw [q']
    rfl
  simp [exs, ex, c1, c2, c3, c4, c5, c7, e_cst, retV, PL.finish, gd_pos]
end PT
set_option maxRecDepth 100000
set_option maxHeartbeats 4000000
/-! S9: is_same; the word of a telling. -/
namespace PT
open PySem PL
open L2 (Key)
variable {N k : Nat}
/-- one lies within the other -/
noncomputable def wi (N : Nat) (d o : List Ent) : Bool := (miss N d o).isNone
noncomputable def wd (N : Nat) (d o : List Ent) : Da := .str (if wi N d o = true then "within" else "entry")
theorem at0 (d o : List Ent) : opIdx (.val (wv N d o)) (.val (.int 0)) = some (wd N d o) := by
  unfold wv wd wi
  cases miss N d o <;> rfl
theorem wd_eq (d o : List Ent) : opCmp .Eq (.val (wd N d o)) (.val (.str "within")) = some (wi N d o) := by
  have h := en_wi
  unfold wd
  cases wi N d o <;> simp [opCmp, RV.dat, opEq, h]
theorem wd_ne (d o : List Ent) : opCmp .NotEq (.val (wd N d o)) (.val (.str "within")) = some (!wi N d o) := by
  have h := en_wi
  unfold wd
  cases wi N d o <;> simp [opCmp, RV.dat, opEq, h]
theorem wd_en (d o : List Ent) : opCmp .Eq (.val (wd N d o)) (.val (.str "entry")) = some (!wi N d o) := by
  have h := wi_en
  unfold wd
  cases wi N d o <;> simp [opCmp, RV.dat, opEq, h]
theorem s_is_same {d o : List Ent} (h : Dk d) (ho : Dk o) (hN : 200 ≤ N) : run F N (k + 7) 22 [.val (dD d), .val (dD o)] = some (.val (.bool (wi N d o && wi N o d)), [some (.val (dD d)), some (.val (dD o))]) := by
  have a1 := s_check_both (N := N) (k := k) h ho
  have a2 := s_within_by (N := N) (k := k + 4) h ho hN
  have a3 := s_within_by (N := N) (k := k + 4) ho h hN
  have c2 : ev (run F N (k + 6)) (.call 18 (.cons (.var 0) (.cons (.var 1) .nil)) [none, none]) [some (.val (dD d)), some (.val (dD o))] = some (.val (wv N d o), [some (.val (dD d)), some (.val (dD o))]) := by
    simp [e_call, evs, e_var, refr, passA, valSl, backA, RV.dat, RV.frz, gd_pos, a2, retOk, nl_wv]
  have c3 : ev (run F N (k + 6)) (.call 18 (.cons (.var 1) (.cons (.var 0) .nil)) [none, none]) [some (.val (dD d)), some (.val (dD o))] = some (.val (wv N o d), [some (.val (dD d)), some (.val (dD o))]) := by
    simp [e_call, evs, e_var, refr, passA, valSl, backA, RV.dat, RV.frz, gd_pos, a3, retOk, nl_wv]
  have c1 : ev (run F N (k + 6)) (.call 19 (.cons (.var 0) (.cons (.var 1) .nil)) [none, none]) [some (.val (dD d)), some (.val (dD o))] = some (.val .none, [some (.val (dD d)), some (.val (dD o))]) := by
    simp [e_var, e_cst, e_glb, e_tup, e_lst, e_bin, e_neg, e_cmp, e_chn, e_idx, e_slc, e_rev, e_call, e_bc, e_isi, e_lrg, e_mth, e_pop, e_dK, e_dT1, e_and, e_or, e_ite, e_inv, evt_inv, evt_cmp, evt_isi, evt_and, evt_or, evt_call, evt_bc, evt_chn, evs, evo, exs, ex, refr, passA, backA, valSl, b_val, b_fr, b_bo, b_tp, bindTs, bindP, PL.finish, retV, opBin, opCmp, opCmp.opIn, opEq, opIdx, opSlc, opRev, bcall, mcall, mtOk, opIsi, RV.dat, RV.frz, retOk, noList, noLists, obNl, gd_pos, keyD, keysD, wipeD, backD, valAt, evi, turnQ, evq, a1, nl_d]
  rw [run_of F_22 rfl (by decide) rfl rfl]
  simp only [f_is_same, b_is_same, List.map_cons, List.map_nil, List.replicate, List.cons_append, List.nil_append, Nat.reduceSub]
  cases hw : wi N d o <;> simp [exs, ex, c1, c2, c3, e_and, evt_cmp, e_idx, e_glb, e_cst, refr, at0, wd_eq, hw, retV, PL.finish, gd_pos]
end PT
set_option maxRecDepth 100000
set_option maxHeartbeats 4000000
/-! M1: what is said in a dictionary. -/
namespace PT
open PySem PL
open L2 (Key)
variable {N k : Nat}
/-- e is a row of entries of o, one after the other -/
def Sp (o : List Ent) (e : Ent) : Prop := ∃ es : List Ent, (∀ x ∈ es, x ∈ o) ∧ e.1.cps.toList = (es.flatMap fun x => x.1.cps.toList) ∧ e.2.cps.toList = (es.flatMap fun x => x.2.cps.toList)
theorem strOf_toList (s : Str) : strOf s.cps.toList = s := by
  cases s; rfl
theorem Rd_Sp {o : List Ent} {e : Ent} {r : List Nat} (h : Rd (o.map lE) e.1.cps.toList e.2.cps.toList r) : Sp o e := by
  obtain ⟨h1, h2, h3⟩ := h
  refine ⟨r.map fun i => (outl o i, text o i), fun x hx => ?_, ?_, ?_⟩
  · obtain ⟨i, hi, q⟩ := List.mem_map.mp hx
    subst q
    have hl : i < o.length := by simpa using h1 i hi
    have : (outl o i, text o i) = o[i] := by
      unfold outl text
      rw [List.getElem?_eq_getElem hl]
      rfl
    rw [this]
    exact List.getElem_mem hl
  · rw [← h2, rowL_e, List.flatMap_map, List.flatMap_map]
  · rw [← h3, textL_e, List.flatMap_map, List.flatMap_map]
theorem Sp_Rd {o : List Ent} {e : Ent} (h : Sp o e) : ∃ r, Rd (o.map lE) e.1.cps.toList e.2.cps.toList r := by
  obtain ⟨es, h1, h2, h3⟩ := h
  have : ∃ r : List Nat, (∀ i ∈ r, i < o.length) ∧ (rowL (o.map lE) r = es.flatMap fun x => x.1.cps.toList) ∧ (textL (o.map lE) r = es.flatMap fun x => x.2.cps.toList) := by
    clear h2 h3
    induction es with
    | nil => exact ⟨[], by simp, rfl, rfl⟩
    | cons x es ih =>
      obtain ⟨r, g1, g2, g3⟩ := ih fun y hy => h1 y (List.mem_cons_of_mem _ hy)
      obtain ⟨i, hi, q⟩ := List.mem_iff_getElem.mp (h1 x List.mem_cons_self)
      refine ⟨i :: r, fun j hj => ?_, ?_, ?_⟩
      · rcases List.mem_cons.mp hj with z | z
        · rw [z]; exact hi
        · exact g1 j z
      · unfold rowL at g2 ⊢
        rw [List.flatMap_cons, List.flatMap_cons, g2, List.getElem?_map, List.getElem?_eq_getElem hi, q]
        rfl
      · unfold textL at g3 ⊢
        rw [List.flatMap_cons, List.flatMap_cons, g3, List.getElem?_map, List.getElem?_eq_getElem hi, q]
        rfl
  obtain ⟨r, g1, g2, g3⟩ := this
  exact ⟨r, fun i hi => by rw [List.length_map]; exact g1 i hi, g2.trans h2.symm, g3.trans h3.symm⟩
theorem row_long {o : List Ent} (ho : ∀ e ∈ o, Le e) : ∀ r : List Nat, (∀ i ∈ r, i < o.length) → r.length ≤ (rowL (o.map lE) r).length
  | [], _ => Nat.zero_le _
  | i :: r, h => by
    have ih := row_long ho r fun j hj => h j (List.mem_cons_of_mem _ hj)
    have hi := h i List.mem_cons_self
    unfold rowL at ih ⊢
    rw [List.flatMap_cons, List.length_append, List.getElem?_map, List.getElem?_eq_getElem hi, List.length_cons]
    have := (ho _ (List.getElem_mem hi)).1.1
    have e : ((Option.map (fun x : LE => x.1) (Option.map lE (some o[i]))).getD []).length = (o[i]).1.length := by simp [lE, Str.length]
    rw [e]
    omega
theorem bound {e : Ent} (he : Le e) (hN : 200 ≤ N) : left e.1.cps.toList e.2.cps.toList start0 < N := by
  obtain ⟨⟨h1, h2, h3⟩, ⟨h4, h5, h6⟩⟩ := he
  have lo : e.1.cps.toList.length = e.1.length := by simp [Str.length]
  have lt : e.2.cps.toList.length = e.2.length := by simp [Str.length]
  have hB : (e.1.cps.toList.length + 1) * (e.2.cps.toList.length + 1) ≤ 81 := Nat.le_trans (Nat.mul_le_mul (show e.1.cps.toList.length + 1 ≤ 9 by omega) (show e.2.cps.toList.length + 1 ≤ 9 by omega)) (by decide)
  unfold left start0
  show (e.1.cps.toList.length + 1) * (e.2.cps.toList.length + 1) - 1 + 1 < N
  omega
theorem rf_some {o : List Ent} {e : Ent} {r : List Nat} (ho : ∀ x ∈ o, Le x) (he : Le e) (h : rf N o e = some r) : (∀ i ∈ r, i < o.length) ∧ r.length ≤ 8 ∧ said o r = e ∧ Sp o e := by
  have s := bfs_sound N start0 start_ok start_srv r h
  have s1 : ∀ i ∈ r, i < o.length := fun i hi => by simpa using s.1 i hi
  have l := row_long ho r s1
  rw [s.2.1] at l
  have := he.1.2.1
  refine ⟨s1, by simp only [Str.length] at this; simpa using Nat.le_trans l (by simpa using this), ?_, Rd_Sp s⟩
  unfold said rowS textS
  rw [s.2.1, s.2.2, strOf_toList, strOf_toList]
theorem rf_iff {o : List Ent} {e : Ent} (ho : ∀ x ∈ o, Le x) (he : Le e) (hN : 200 ≤ N) : (rf N o e).isSome = true ↔ Sp o e := by
  cases h : rf N o e with
  | some r => exact ⟨fun _ => (rf_some ho he h).2.2.2, fun _ => rfl⟩
  | none =>
    refine ⟨fun z => by simp at z, fun z => ?_⟩
    obtain ⟨r, hr⟩ := Sp_Rd z
    exact absurd hr (bfs_full N start0 start_ok start_srv (bound he hN) h r)
theorem Sp_mem {o : List Ent} {e : Ent} (h : e ∈ o) : Sp o e := ⟨[e], by simpa using h, by simp, by simp⟩
theorem Sp_trans {o o' : List Ent} {e : Ent} (h : Sp o e) (h2 : ∀ x ∈ o, Sp o' x) : Sp o' e := by
  obtain ⟨es, g1, g2, g3⟩ := h
  have : ∃ fs : List Ent, (∀ x ∈ fs, x ∈ o') ∧ (es.flatMap fun x => x.1.cps.toList) = (fs.flatMap fun x => x.1.cps.toList) ∧ (es.flatMap fun x => x.2.cps.toList) = (fs.flatMap fun x => x.2.cps.toList) := by
    clear g2 g3
    induction es with
    | nil => exact ⟨[], by simp, rfl, rfl⟩
    | cons x es ih =>
      obtain ⟨fs, q1, q2, q3⟩ := ih fun y hy => g1 y (List.mem_cons_of_mem _ hy)
      obtain ⟨gs, p1, p2, p3⟩ := h2 x (g1 x List.mem_cons_self)
      refine ⟨gs ++ fs, fun y hy => (List.mem_append.mp hy).elim (p1 y) (q1 y), ?_, ?_⟩
      · rw [List.flatMap_cons, List.flatMap_append, q2, p2]
      · rw [List.flatMap_cons, List.flatMap_append, q3, p3]
  obtain ⟨fs, q1, q2, q3⟩ := this
  exact ⟨fs, q1, g2.trans q2, g3.trans q3⟩
theorem wi_iff {d o : List Ent} (h : Dk d) (ho : Dk o) (hN : 200 ≤ N) : wi N d o = true ↔ ∀ e ∈ d, Sp o e := by
  unfold wi miss
  rw [Option.isNone_iff_eq_none, List.findIdx?_eq_none_iff]
  constructor
  · intro q e he
    have := q e he
    rw [Option.isNone_eq_false_iff] at this
    exact (rf_iff ho.2.2.1 (h.2.2.1 e he) hN).mp this
  · intro q e he
    rw [Option.isNone_eq_false_iff]
    exact (rf_iff ho.2.2.1 (h.2.2.1 e he) hN).mpr (q e he)
theorem wi_eq {d o : List Ent} {p : Prop} [Decidable p] (h : Dk d) (ho : Dk o) (hN : 200 ≤ N) (q : (∀ e ∈ d, Sp o e) ↔ p) : wi N d o = decide p := by
  by_cases z : p
  · rw [decide_eq_true z]; exact (wi_iff h ho hN).mpr (q.mpr z)
  · rw [decide_eq_false z]
    rw [← Bool.not_eq_true]
    exact fun t => z (q.mp ((wi_iff h ho hN).mp t))
theorem Dk_one {e : Ent} (h : Le e) : Dk [e] := ⟨by simp, by simp, by simpa using h, fun p hp => by simp at hp, by simp⟩
theorem wi_un {a b t : List Ent} (ha : Dk a) (hb : Dk b) (ht : Dk t) (hu : Dk (un a b)) (hN : 200 ≤ N) : wi N (un a b) t = (wi N a t && wi N b t) := by
  rw [Bool.eq_iff_iff, Bool.and_eq_true, wi_iff hu ht hN, wi_iff ha ht hN, wi_iff hb ht hN]
  constructor
  · exact fun h => ⟨fun e he => h e (un_mem.mpr (.inl he)), fun e he => h e (un_mem.mpr (.inr he))⟩
  · exact fun h e he => (un_mem.mp he).elim (h.1 e) (h.2 e)
theorem wi_self {d o : List Ent} (h : Dk d) (ho : Dk o) (hN : 200 ≤ N) (q : ∀ e ∈ d, e ∈ o) : wi N d o = true := (wi_iff h ho hN).mpr fun e he => Sp_mem (q e he)
theorem wi_add {d : List Ent} {e : Ent} (h : Dk d) (he : Le e) (hw : Dk (sE (d ++ [e]))) (hN : 200 ≤ N) : wi N (sE (d ++ [e])) d = wi N [e] d := by
  rw [Bool.eq_iff_iff, wi_iff hw h hN, wi_iff (Dk_one he) h hN]
  constructor
  · intro q x hx
    exact q x (sE_mem.mpr (List.mem_append.mpr (.inr hx)))
  · intro q x hx
    rcases List.mem_append.mp (sE_mem.mp hx) with z | z
    · exact Sp_mem z
    · exact q x z
end PT
set_option maxRecDepth 100000
set_option maxHeartbeats 4000000
/-! T1: the pot, a draw from it. -/
namespace PT
open PySem PL
open L2 (Key)
variable {N k : Nat}
/-- a pot of which at most m draws were made -/
def Pot (m : Nat) (o : Ob) : Prop := ∃ own mix cnt : Int, o = .L [.int own, .int mix, .int cnt] ∧ 0 ≤ mix ∧ mix < 2 ^ 61 ∧ 0 ≤ cnt ∧ cnt ≤ m
theorem Pot.mono {m m' : Nat} {o : Ob} (h : Pot m o) (hm : m ≤ m') : Pot m' o := by
  obtain ⟨a, b, c, h1, h2, h3, h4, h5⟩ := h
  exact ⟨a, b, c, h1, h2, h3, h4, by omega⟩
theorem m_mod {a b : Int} (h : 0 < b) : opBin .Mod (.val (.int a)) (.val (.int b)) = some (.val (.int (a % b))) := by
  simp only [opBin]; rw [gd_pos h]; rfl
theorem m_div {a b : Int} (h : 0 < b ∧ b < 1073741824) : opBin .FloorDiv (.val (.int a)) (.val (.int b)) = some (.val (.int (a / b))) := by
  simp only [opBin]; rw [gd_pos h]; rfl
theorem m_mul {a b : Int} (h : (-(2 ^ 64) < a ∧ a < 2 ^ 64) ∨ (-(2 ^ 64) < b ∧ b < 2 ^ 64)) : opBin .Mult (.val (.int a)) (.val (.int b)) = some (.val (.int (a * b))) := by
  simp only [opBin]; rw [gd_pos h]; rfl
theorem m_add {a b : Int} : opBin .Add (.val (.int a)) (.val (.int b)) = some (.val (.int (a + b))) := rfl
theorem m_sub {a b : Int} : opBin .Sub (.val (.int a)) (.val (.int b)) = some (.val (.int (a - b))) := rfl
theorem m_pow {a : Int} {n : Nat} (h : (Builtin.Int.intBits a : Int) * n ≤ 2 ^ 27) : opBin .Pow (.val (.int a)) (.val (.int n)) = some (.val (.int (a ^ n))) := by
  simp only [opBin]; rw [gd_pos ⟨Int.natCast_nonneg n, h⟩]; simp
theorem m_int {a : Int} : bcall .int [.val (.int a)] = some (.val (.int a)) := rfl
theorem s_take0 {m : Nat} {u : Int} {o : Ob} (h : Pot m o) (hm : m ≤ 10 ^ 9) (hu : 0 < u) (hu2 : u < 1073741824) : ∃ (j : Int) (o' : Ob), run F N (k + 1) 24 [.own o, .val (.int u)] = some (.val (.int j), [some (.own o'), some (.val (.int u))]) ∧ 0 ≤ j ∧ j < u ∧ Pot (m + 1) o' := by
  obtain ⟨own, mix, cnt, h1, h2, h3, h4, h5⟩ := h
  subst h1
  have i0 : ∀ a b c : Int, opIdx (.bo 0 (.L [.int a, .int b, .int c])) (.val (.int 0)) = some (.int a) := fun _ _ _ => rfl
  have i1 : ∀ a b c : Int, opIdx (.bo 0 (.L [.int a, .int b, .int c])) (.val (.int 1)) = some (.int b) := fun _ _ _ => rfl
  have i2 : ∀ a b c : Int, opIdx (.bo 0 (.L [.int a, .int b, .int c])) (.val (.int 2)) = some (.int c) := fun _ _ _ => rfl
  rw [run_of F_24 rfl (by decide) rfl rfl]
  simp only [f__law_take, b__law_take, List.map_cons, List.map_nil, List.replicate, List.cons_append, List.nil_append, Nat.reduceSub]
  have c0 : evt (run F N k) (.cmp .Gt (.idx (.var 0) (.cst (PyData.int 0))) (.cst (PyData.int 0))) [some (.own (.L [.int own, .int mix, .int cnt])), some (.val (.int u)), none, none, none] = some (decide (0 < own), [some (.own (.L [.int own, .int mix, .int cnt])), some (.val (.int u)), none, none, none]) := by
    simp [evt_cmp, e_idx, e_var, e_cst, refr, i0, opCmp]
  have l3 : L2.ixN 3 0 = some 0 := rfl
  have l32 : L2.ixN 3 2 = some 2 := rfl
  by_cases hz : 0 < own
  · refine ⟨own % u, .L [.int (own / u), .int mix, .int cnt], ?_, Int.emod_nonneg _ (by omega), Int.emod_lt_of_pos own hu, ⟨_, _, _, rfl, h2, h3, h4, by omega⟩⟩
    rw [decide_eq_true hz] at c0
    rw [exs, ex, c0]
    simp only [Option.bind_some, if_true]
    have q1 := m_mod (a := own) hu
    have q2 := m_div (a := own) ⟨hu, hu2⟩
    have c1 : ex (run F N k) N [0] (.asg (.nm 4) (.bin .Mod (.bc .int (.cons (.idx (.var 0) (.cst (PyData.int 0))) .nil)) (.var 1))) [some (.own (.L [.int own, .int mix, .int cnt])), some (.val (.int u)), none, none, none] = some (.nx [some (.own (.L [.int own, .int mix, .int cnt])), some (.val (.int u)), none, none, some (.val (.int (own % u)))]) := by
      simp [ex, e_bin, e_bc, evs, e_idx, e_var, e_cst, refr, i0, m_int, q1, b_val]
    have c2 : ex (run F N k) N [0] (.set 0 (.cst (PyData.int 0)) (.bin .FloorDiv (.idx (.var 0) (.cst (PyData.int 0))) (.var 1))) [some (.own (.L [.int own, .int mix, .int cnt])), some (.val (.int u)), none, none, some (.val (.int (own % u)))] = some (.nx [some (.own (.L [.int (own / u), .int mix, .int cnt])), some (.val (.int u)), none, none, some (.val (.int (own % u)))]) := by
      simp [ex, e_bin, e_bc, evs, e_idx, e_var, e_cst, refr, i0, q2, RV.frz, RV.dat, l3]
    rw [exs, c1]
    simp only [Option.bind_some]
    rw [exs, c2]
    simp only [Option.bind_some]
    simp [exs, ex, e_var, PL.finish, retV, gd_pos]
  · rw [decide_eq_false hz] at c0
    have hc1 : 0 ≤ cnt + 1 := by omega
    have hc2 : cnt + 1 ≤ 1000000001 := by omega
    generalize hc : cnt + 1 = c at hc1 hc2
    let pr : Int := ([2147483647, 2147483629, 2147483587, 2147483579] : List Int).getD (c % 4).toNat 0
    have hp : opIdx (.fr (.L [.int 2147483647, .int 2147483629, .int 2147483587, .int 2147483579])) (.val (.int (c % 4))) = some (.int pr) ∧ 2147483579 ≤ pr ∧ pr ≤ 2147483647 := by
      have e1 := Int.emod_nonneg c (show (4 : Int) ≠ 0 by decide)
      have e2 := Int.emod_lt_of_pos c (show (0 : Int) < 4 by decide)
      show _ ∧ 2147483579 ≤ ([2147483647, 2147483629, 2147483587, 2147483579] : List Int).getD (c % 4).toNat 0 ∧ ([2147483647, 2147483629, 2147483587, 2147483579] : List Int).getD (c % 4).toNat 0 ≤ 2147483647
      have : c % 4 = 0 ∨ c % 4 = 1 ∨ c % 4 = 2 ∨ c % 4 = 3 := by omega
      simp only [pr]
      rcases this with z | z | z | z <;> rw [z] <;> exact ⟨rfl, by decide, by decide⟩
    obtain ⟨hp1, hp2, hp3⟩ := hp
    generalize pr = P at hp1 hp2 hp3
    have hb0 : 0 < P := by omega
    let base : Int := mix + 191071 * c * c + 6143
    have q1 := m_mul (a := 191071) (b := c) (.inl ⟨by decide, by decide⟩)
    have q2 := m_mul (a := 191071 * c) (b := c) (.inr ⟨by omega, by omega⟩)
    have hbits : (Builtin.Int.intBits (mix + 191071 * c * c + 6143) : Int) * (3 : Nat) ≤ 2 ^ 27 := by
      have b1 : 191071 * c * c ≤ 191071 * 1000000001 * 1000000001 := Int.mul_le_mul (by omega) hc2 hc1 (by decide)
      have b2 : 0 ≤ 191071 * c * c := Int.mul_nonneg (by omega) hc1
      have : Builtin.Int.intBits (mix + 191071 * c * c + 6143) ≤ 100 := intBits_le_iff.mpr (by
        have z : mix + 191071 * c * c + 6143 < 2 ^ 100 := Int.lt_of_lt_of_le (show _ < 2 ^ 61 + 191071 * 1000000001 * 1000000001 + 6144 by omega) (by decide)
        omega)
      omega
    have q3 := m_pow (n := 3) hbits
    obtain ⟨B, hB⟩ : ∃ B : Int, mix + 191071 * c * c + 6143 = B := ⟨_, rfl⟩
    rw [hB] at q3
    have q4 := m_mod (a := B ^ 3) hb0
    have e1 := Int.emod_nonneg (B ^ 3) (show P ≠ 0 by omega)
    have e2 := Int.emod_lt_of_pos (B ^ 3) hb0
    obtain ⟨D, hD⟩ : ∃ D : Int, B ^ 3 % P = D := ⟨_, rfl⟩
    rw [hD] at q4 e1 e2
    have q5 := m_mod (a := D) (b := 10007) (by decide)
    have q6 := m_mul (a := 5407) (b := c) (.inl ⟨by decide, by decide⟩)
    have q7 := m_mul (a := D) (b := D % 10007 + 5407 * c) (.inl ⟨by omega, by omega⟩)
    have q8 := m_div (a := D * (D % 10007 + 5407 * c)) (b := 307) ⟨by decide, by decide⟩
    have q9 := m_mod (a := D * (D % 10007 + 5407 * c) / 307) hu
    have q0 := m_mod (a := c) (b := 4) (by decide)
    have l4 : 4 ≤ LIM := lim8 (by omega)
    have q3' : opBin .Pow (.val (.int B)) (.val (.int 3)) = some (.val (.int (B ^ 3))) := q3
    refine ⟨D * (D % 10007 + 5407 * c) / 307 % u, .L [.int own, .int mix, .int c], ?_, Int.emod_nonneg _ (by omega), Int.emod_lt_of_pos _ hu, ⟨_, _, _, rfl, h2, h3, hc1, by omega⟩⟩
    have c1 : ex (run F N k) N [0] (.set 0 (.cst (PyData.int 2)) (.bin .Add (.idx (.var 0) (.cst (PyData.int 2))) (.cst (PyData.int 1)))) [some (.own (.L [.int own, .int mix, .int cnt])), some (.val (.int u)), none, none, none] = some (.nx [some (.own (.L [.int own, .int mix, .int c])), some (.val (.int u)), none, none, none]) := by
      simp [ex, e_bin, e_idx, e_var, e_cst, refr, i2, m_add, hc, RV.frz, RV.dat, l32]
    have c2 : ex (run F N k) N [0] (.asg (.nm 2) (.idx (.lst (.cons (.cst (PyData.int 2147483647)) (.cons (.cst (PyData.int 2147483629)) (.cons (.cst (PyData.int 2147483587)) (.cons (.cst (PyData.int 2147483579)) .nil))))) (.bin .Mod (.bc .int (.cons (.idx (.var 0) (.cst (PyData.int 2))) .nil)) (.cst (PyData.int 4))))) [some (.own (.L [.int own, .int mix, .int c])), some (.val (.int u)), none, none, none] = some (.nx [some (.own (.L [.int own, .int mix, .int c])), some (.val (.int u)), some (.val (.int P)), none, none]) := by
      simp [ex, e_bin, e_bc, evs, e_idx, e_lst, e_var, e_cst, refr, i2, m_int, q0, hp1, RV.frz, RV.dat, gd_pos, l4, b_val]
    have c3 : ex (run F N k) N [0] (.asg (.nm 3) (.bin .Mod (.bc .int (.cons (.bin .Pow (.bc .int (.cons (.bin .Add (.bin .Add (.idx (.var 0) (.cst (PyData.int 1))) (.bin .Mult (.bin .Mult (.cst (PyData.int 191071)) (.idx (.var 0) (.cst (PyData.int 2)))) (.idx (.var 0) (.cst (PyData.int 2))))) (.cst (PyData.int 6143))) .nil)) (.cst (PyData.int 3))) .nil)) (.var 2))) [some (.own (.L [.int own, .int mix, .int c])), some (.val (.int u)), some (.val (.int P)), none, none] = some (.nx [some (.own (.L [.int own, .int mix, .int c])), some (.val (.int u)), some (.val (.int P)), some (.val (.int D)), none]) := by
      simp [ex, e_bin, e_bc, evs, e_idx, e_var, e_cst, refr, i1, i2, m_int, m_add, q1, q2, hB, q3', q4, b_val]
    have c4 : ev (run F N k) (.bin .Mod (.bc .int (.cons (.bin .FloorDiv (.bin .Mult (.var 3) (.bin .Add (.bin .Mod (.bc .int (.cons (.var 3) .nil)) (.cst (PyData.int 10007))) (.bin .Mult (.cst (PyData.int 5407)) (.idx (.var 0) (.cst (PyData.int 2)))))) (.cst (PyData.int 307))) .nil)) (.var 1)) [some (.own (.L [.int own, .int mix, .int c])), some (.val (.int u)), some (.val (.int P)), some (.val (.int D)), none] = some (.val (.int (D * (D % 10007 + 5407 * c) / 307 % u)), [some (.own (.L [.int own, .int mix, .int c])), some (.val (.int u)), some (.val (.int P)), some (.val (.int D)), none]) := by
      simp [e_bin, e_bc, evs, e_idx, e_var, e_cst, refr, i2, m_int, m_add, q5, q6, q7, q8, q9]
    rw [exs, ex, c0]
    simp only [Option.bind_some, Bool.false_eq_true, if_false]
    rw [exs]
    simp only [Option.bind_some]
    rw [exs, c1]
    simp only [Option.bind_some]
    rw [exs, c2]
    simp only [Option.bind_some]
    rw [exs, c3]
    simp only [Option.bind_some]
    rw [exs, ex, c4]
    simp [PL.finish, retV, gd_pos]
theorem s_take {m u : Nat} {o : Ob} (h : Pot m o) (hm : m ≤ 10 ^ 9) (hu : 0 < u) (hu2 : u < 1073741824) : ∃ (j : Nat) (o' : Ob), run F N (k + 1) 24 [.own o, .val (.int u)] = some (.val (.int j), [some (.own o'), some (.val (.int u))]) ∧ j < u ∧ Pot (m + 1) o' := by
  obtain ⟨j, o', h1, h2, h3, h4⟩ := s_take0 (N := N) (k := k) (u := (u : Int)) h hm (by omega) (by omega)
  have e : j = ((j.toNat : Nat) : Int) := (Int.toNat_of_nonneg h2).symm
  rw [e] at h1
  exact ⟨j.toNat, o', h1, by omega, h4⟩
end PT
set_option maxRecDepth 100000
set_option maxHeartbeats 4000000
/-! T2: pots, choices. -/
namespace PT
open PySem PL
open L2 (Key)
variable {N k : Nat}
theorem cut_map {α β : Type} (f : α → β) (l : List α) (lo hi : Option Int) : cutD (l.map f) lo hi = (cutD l lo hi).map f := by
  unfold cutD
  simp [List.map_take, List.map_drop]
theorem cut_mem {α : Type} {l : List α} {lo hi : Option Int} {x : α} (h : x ∈ cutD l lo hi) : x ∈ l := by
  unfold cutD at h
  exact List.mem_of_mem_drop (List.mem_of_mem_take h)
theorem cut_len {α : Type} (l : List α) (lo hi : Option Int) : (cutD l lo hi).length ≤ l.length := by
  unfold cutD
  rw [List.length_take, List.length_drop]
  omega
def ofs (v : Da) : Option (List Da) := match v with
  | .list xs => some xs
  | .tuple xs => some xs
  | _ => none
theorem s_of {m : Nat} {o : Ob} {v : Da} {xs : List Da} (h : Pot m o) (hm : m ≤ 10 ^ 9) (hv : ofs v = some xs) (h1 : 1 ≤ xs.length) (h2 : xs.length < 1000000) : ∃ (x : Da) (o' : Ob), run F N (k + 2) 25 [.own o, .val v] = some (.val x, [some (.own o'), some (.val v)]) ∧ x ∈ xs ∧ Pot (m + 1) o' := by
  obtain ⟨j, o', a, hj, ho⟩ := s_take (N := N) (k := k) (u := xs.length) h hm (by omega) (by omega)
  have hl : bcall .len [RV.val v] = some (.val (.int xs.length)) := by
    unfold ofs at hv
    split at hv
    · cases hv; simp [bcall, RV.dat]
    · cases hv; simp [bcall, RV.dat]
    · cases hv
  have hx : opIdx (.val v) (.val (.int j)) = some xs[j] := by
    have : L2.atI xs (j : Int) = some xs[j] := L2.atI_nat (List.getElem?_eq_getElem hj)
    unfold ofs at hv
    split at hv
    · cases hv; exact this
    · cases hv; exact this
    · cases hv
  refine ⟨xs[j], o', ?_, List.getElem_mem hj, ho⟩
  have hnl : obNl o' = true := by
    obtain ⟨a, b, c, z, _⟩ := ho
    rw [z]; rfl
  rw [run_of F_25 rfl (by decide) rfl rfl]
  simp [f__law_of, b__law_of, exs, ex, e_idx, e_call, e_bc, evs, e_var, refr, hl, passA, valSl, gd_pos, a, retOk, noList, backA, hnl, hx, PL.finish, retV, RV.dat]
theorem s_pot {ns : List Int} {p : Nat} (hp : p ≤ 10) : ∃ o : Ob, run F N (k + 1) 23 [.val (.list (ns.map PyData.int)), .val (.int p)] = some (.fr o, [some (.val (.list (ns.map PyData.int))), some (.val (.int p))]) ∧ Pot 0 o := by
  have l3 : 3 ≤ LIM := lim8 (by omega)
  rw [run_of F_23 rfl (by decide) rfl rfl]
  simp only [f__law_pot, b__law_pot, List.map_cons, List.map_nil, List.replicate, List.cons_append, List.nil_append, Nat.reduceSub]
  have hc : ∃ c : Int, ev (run F N k) (.ite (.cmp .Lt (.var 1) (.bc .len (.cons (.var 0) .nil))) (.idx (.var 0) (.var 1)) (.bin .Add (.bin .Add (.bin .Mod (.bc .int (.cons (.bc .sum (.cons (.slc (.var 0) .no (.yes (.cst (PyData.int 1)))) .nil)) .nil)) (.cst (PyData.int 1000003))) (.bin .Mult (.cst (PyData.int 6011)) (.var 1))) (.cst (PyData.int 17011)))) [some (.val (.list (ns.map PyData.int))), some (.val (.int p)), none, none, none] = some (.val (.int c), [some (.val (.list (ns.map PyData.int))), some (.val (.int p)), none, none, none]) := by
    have hl : bcall .len [RV.val (.list (ns.map PyData.int))] = some (.val (.int ns.length)) := by simp [bcall, RV.dat]
    have c0 : evt (run F N k) (.cmp .Lt (.var 1) (.bc .len (.cons (.var 0) .nil))) [some (.val (.list (ns.map PyData.int))), some (.val (.int p)), none, none, none] = some (decide ((p : Int) < ns.length), [some (.val (.list (ns.map PyData.int))), some (.val (.int p)), none, none, none]) := by
      simp [evt_cmp, e_bc, evs, e_var, refr, hl, opCmp]
    by_cases z : p < ns.length
    · have hx : opIdx (.val (.list (ns.map PyData.int))) (.val (.int p)) = some (.int ns[p]) := L2.atI_nat (by rw [List.getElem?_map, List.getElem?_eq_getElem z]; rfl)
      refine ⟨ns[p], ?_⟩
      rw [decide_eq_true (show (p : Int) < ns.length by omega)] at c0
      rw [e_ite, c0]
      simp [e_idx, e_var, refr, hx]
    · have hs : ∃ s : List Int, cutD (ns.map PyData.int) none (some 1) = s.map PyData.int := by
        exact ⟨cutD ns none (some 1), cut_map _ _ _ _⟩
      obtain ⟨s, hs⟩ := hs
      have q1 : bcall .sum [.fr (.L (s.map PyData.int))] = some (.val (.int s.sum)) := by
        have := intsD_map (fun i : Int => i) s
        simp only [List.map_id'] at this
        simp only [bcall, RV.dat]
        rw [this]; rfl
      have q2 := m_mod (a := s.sum) (b := 1000003) (by decide)
      have q3 := m_mul (a := 6011) (b := p) (.inl ⟨by decide, by decide⟩)
      have q4 : opSlc (.val (.list (ns.map PyData.int))) none (some 1) = some (.fr (.L (s.map PyData.int))) := by
        simp only [opSlc, RV.dat, hs]
      refine ⟨s.sum % 1000003 + 6011 * p + 17011, ?_⟩
      rw [decide_eq_false (show ¬ (p : Int) < ns.length by omega)] at c0
      rw [e_ite, c0]
      simp [e_bin, e_bc, evs, e_slc, evo, e_var, e_cst, refr, q1, q2, q3, q4, m_int, m_add]
  obtain ⟨c, hc⟩ := hc
  have ha : bcall .abs [.val (.int c)] = some (.val (.int (if c < 0 then -c else c))) := rfl
  have p1 : opBin .Pow (.val (.int 10)) (.val (.int 60)) = some (.val (.int (10 ^ 60))) := m_pow (n := 60) (by decide +kernel)
  have p2 : opBin .Pow (.val (.int (10 ^ 60))) (.val (.int 5)) = some (.val (.int ((10 ^ 60) ^ 5))) := m_pow (n := 5) (by decide +kernel)
  have p3 : opBin .Pow (.val (.int 10)) (.val (.int 18)) = some (.val (.int (10 ^ 18))) := m_pow (n := 18) (by decide +kernel)
  have p4 := m_mod (a := if c < 0 then -c else c) (b := (10 ^ 60) ^ 5) (by decide +kernel)
  generalize (10 : Int) ^ 60 = T1 at p1 p2 p4
  generalize T1 ^ 5 = T2 at p2 p4
  generalize (10 : Int) ^ 18 = T3 at p3
  generalize (if c < 0 then -c else c) = A at ha p4
  have hg : ∃ g : Int, bcall .int [.val (.bool (decide (T3 ≤ A)))] = some (.val (.int g)) ∧ (g = 0 ∨ g = 1) := by
    cases decide (T3 ≤ A)
    · exact ⟨0, rfl, .inl rfl⟩
    · exact ⟨1, rfl, .inr rfl⟩
  obtain ⟨g, hg1, hg2⟩ := hg
  have p5 := m_mul (a := A % T2) (b := g) (.inr ⟨by omega, by omega⟩)
  have p6 := m_mod (a := c) (b := 2305843009213693951) (by decide)
  have e1 := Int.emod_nonneg c (show (2305843009213693951 : Int) ≠ 0 by decide)
  have e2 := Int.emod_lt_of_pos c (show (0 : Int) < 2305843009213693951 by decide)
  generalize c % 2305843009213693951 = S at p6 e1 e2
  have p7 := m_mul (a := S) (b := 141067) (.inr ⟨by decide, by decide⟩)
  have p8 := m_mul (a := 20107) (b := (p : Int)) (.inl ⟨by decide, by decide⟩)
  have p9 := m_mul (a := 20107 * (p : Int)) (b := (p : Int)) (.inr ⟨by omega, by omega⟩)
  have p0 := m_mod (a := S * 141067 + 20107 * (p : Int) * (p : Int) + 5501) (b := 2305843009213693921) (by decide)
  have e3 := Int.emod_nonneg (S * 141067 + 20107 * (p : Int) * (p : Int) + 5501) (show (2305843009213693921 : Int) ≠ 0 by decide)
  have e4 := Int.emod_lt_of_pos (S * 141067 + 20107 * (p : Int) * (p : Int) + 5501) (show (0 : Int) < 2305843009213693921 by decide)
  refine ⟨.L [.int (A % T2 * g), .int ((S * 141067 + 20107 * (p : Int) * (p : Int) + 5501) % 2305843009213693921), .int 0], ?_, ⟨_, _, _, rfl, e3, by omega, by omega, by omega⟩⟩
  have c1 : ex (run F N k) N [] (.asg (.nm 3) (.bin .Mult (.bin .Mod (.bc .int (.cons (.bc .abs (.cons (.var 2) .nil)) .nil)) (.bin .Pow (.bin .Pow (.cst (PyData.int 10)) (.cst (PyData.int 60))) (.cst (PyData.int 5)))) (.bc .int (.cons (.cmp .GtE (.bc .abs (.cons (.var 2) .nil)) (.bin .Pow (.cst (PyData.int 10)) (.cst (PyData.int 18)))) .nil)))) [some (.val (.list (ns.map PyData.int))), some (.val (.int p)), some (.val (.int c)), none, none] = some (.nx [some (.val (.list (ns.map PyData.int))), some (.val (.int p)), some (.val (.int c)), some (.val (.int (A % T2 * g))), none]) := by
    simp [ex, e_bin, e_bc, evs, e_cmp, e_var, e_cst, refr, ha, m_int, p1, p2, p3, p4, opCmp, hg1, p5, b_val]
  have c2 : ex (run F N k) N [] (.asg (.nm 4) (.bin .Mod (.bc .int (.cons (.var 2) .nil)) (.cst (PyData.int 2305843009213693951)))) [some (.val (.list (ns.map PyData.int))), some (.val (.int p)), some (.val (.int c)), some (.val (.int (A % T2 * g))), none] = some (.nx [some (.val (.list (ns.map PyData.int))), some (.val (.int p)), some (.val (.int c)), some (.val (.int (A % T2 * g))), some (.val (.int S))]) := by
    simp [ex, e_bin, e_bc, evs, e_var, e_cst, refr, m_int, p6, b_val]
  rw [exs, ex, hc]
  simp only [Option.bind_some, b_val]
  simp only [List.length_cons, List.length_nil, Nat.reduceAdd, Nat.reduceLT, List.not_mem_nil, not_false_eq_true, and_self, if_true, Option.map_some, Option.bind_some, List.set_cons_succ, List.set_cons_zero]
  rw [exs, c1]
  simp only [Option.bind_some]
  rw [exs, c2]
  simp only [Option.bind_some]
  simp [exs, ex, e_lst, e_bin, e_bc, evs, e_var, e_cst, refr, m_int, m_add, p7, p8, p9, p0, RV.frz, RV.dat, gd_pos, l3, PL.finish, retV]
theorem s_cells {ns : List Int} (hn : ns.length ≤ 1000) : ∃ n : Nat, run F N (k + 1) 26 [.val (.list (ns.map PyData.int)), .val (.int 2)] = some (.fr (.L (intR 0 n)), [some (.val (.list (ns.map PyData.int))), some (.val (.int 2))]) ∧ n ≤ 2 := by
  have hl : bcall .len [RV.val (.list (ns.map PyData.int))] = some (.val (.int ns.length)) := by simp [bcall, RV.dat]
  have h1 : bcall .min [.val (.int 2), .val (.int ns.length)] = some (.val (.int (if (ns.length : Int) < 2 then (ns.length : Int) else 2))) := rfl
  have h2 : ∀ i : Int, bcall .max [.val (.int 1), .val (.int i)] = some (.val (.int (if i > 1 then i else 1))) := fun _ => rfl
  have b1 : (if (ns.length : Int) < 2 then (ns.length : Int) else 2) ≤ 2 := by split <;> omega
  generalize (if (ns.length : Int) < 2 then (ns.length : Int) else 2) = i at h1 b1
  have h3 := h2 i
  have b2 : 0 ≤ (if i > 1 then i else 1) ∧ (if i > 1 then i else 1) ≤ 2 := by split <;> omega
  generalize (if i > 1 then i else 1) = j at h3 b2
  refine ⟨j.toNat, ?_, by omega⟩
  have lm : 2 ≤ LIM := lim8 (by omega)
  have g : (-(2 : Int) ^ 62 ≤ j ∧ j ≤ LIM) := ⟨by omega, by omega⟩
  rw [run_of F_26 rfl (by decide) rfl rfl]
  simp only [f__law_cells, b__law_cells, List.map_cons, List.map_nil, List.replicate, List.cons_append, List.nil_append, Nat.reduceSub]
  have c1 : ev (run F N k) (.bc .max (.cons (.cst (PyData.int 1)) (.cons (.bc .min (.cons (.var 1) (.cons (.bc .len (.cons (.var 0) .nil)) .nil))) .nil))) [some (.val (.list (ns.map PyData.int))), some (.val (.int 2))] = some (.val (.int j), [some (.val (.list (ns.map PyData.int))), some (.val (.int 2))]) := by
    simp [e_bc, evs, e_var, e_cst, refr, hl, h1, h3]
  rw [exs, ex, e_lrg, c1]
  simp only [Option.bind_some]
  rw [gd_pos g]
  simp [PL.finish, retV, gd_pos]
end PT
set_option maxRecDepth 100000
set_option maxHeartbeats 4000000
/-! T3: lists made unlike. -/
namespace PT
open PySem PL
open L2 (Key)
variable {N k : Nat}
section
variable {κ : Type} [DecidableEq κ]
theorem keys_put (kvs : List (κ × Da)) (x : κ) (v : Da) : (put kvs x v).map (·.1) = if x ∈ kvs.map (·.1) then kvs.map (·.1) else kvs.map (·.1) ++ [x] := by
  have hm : has kvs x = decide (x ∈ kvs.map (·.1)) := by
    unfold has look
    rw [Option.isSome_map, Bool.eq_iff_iff, List.find?_isSome, decide_eq_true_eq, List.mem_map]
    simp
  unfold put
  rw [hm]
  by_cases h : x ∈ kvs.map (·.1)
  · rw [decide_eq_true h, if_pos rfl, if_pos h, List.map_map]
    refine List.map_congr_left fun kv _ => ?_
    simp only [Function.comp]
    split <;> rfl
  · rw [decide_eq_false h, if_neg (by simp), if_neg h, List.map_append]
    rfl
theorem keys_puts {α : Type} {f : α → κ} (hf : ∀ x y, f x = f y → x = y) (v : Da) : ∀ (l M0 : List α) (kvs : List (κ × Da)), kvs.map (·.1) = M0.map f → M0.Nodup → ∃ M : List α, (puts kvs (l.map fun x => (f x, v))).map (·.1) = M.map f ∧ M.Nodup ∧ (∀ x, x ∈ M ↔ x ∈ M0 ∨ x ∈ l) ∧ M.length ≤ M0.length + l.length
  | [], M0, kvs, h, hn => ⟨M0, h, hn, fun x => by simp, by simp⟩
  | x :: l, M0, kvs, h, hn => by
    have hx : f x ∈ kvs.map (·.1) ↔ x ∈ M0 := by
      rw [h, List.mem_map]
      exact ⟨fun ⟨y, hy, e⟩ => by rw [← hf y x e]; exact hy, fun hy => ⟨x, hy, rfl⟩⟩
    by_cases z : x ∈ M0
    · obtain ⟨M, h1, h2, h3, h4⟩ := keys_puts hf v l M0 (put kvs (f x) v) (by rw [keys_put, if_pos (hx.mpr z), h]) hn
      refine ⟨M, by rw [List.map_cons]; exact h1, h2, fun y => ?_, by rw [List.length_cons]; omega⟩
      rw [h3, List.mem_cons]
      constructor
      · rintro (q | q)
        · exact .inl q
        · exact .inr (.inr q)
      · rintro (q | q | q)
        · exact .inl q
        · exact .inl (q ▸ z)
        · exact .inr q
    · obtain ⟨M, h1, h2, h3, h4⟩ := keys_puts hf v l (M0 ++ [x]) (put kvs (f x) v) (by rw [keys_put, if_neg (fun q => z (hx.mp q)), h, List.map_append]; rfl) (List.nodup_append.mpr ⟨hn, by simp, fun a ha b hb => by
        rw [List.mem_singleton.mp hb]; intro q; exact z (q ▸ ha)⟩)
      refine ⟨M, by rw [List.map_cons]; exact h1, h2, fun y => ?_, by rw [List.length_append, List.length_singleton] at h4; rw [List.length_cons]; omega⟩
      rw [h3, List.mem_cons, List.mem_append, List.mem_singleton]
      constructor
      · rintro ((q | q) | q)
        · exact .inl q
        · exact .inr (.inl q)
        · exact .inr (.inr q)
      · rintro (q | q | q)
        · exact .inl (.inl q)
        · exact .inl (.inr q)
        · exact .inr q
end
def kE (e : Ent) : List Key := [.inr e.1, .inr e.2]
theorem kE_inj (x y : Ent) (h : kE x = kE y) : x = y := by
  unfold kE at h
  simp only [List.cons.injEq, Sum.inr.injEq, and_true] at h
  exact Prod.ext h.1 h.2
theorem pairs_e : ∀ l : List Ent, pairsT (l.map fun e => .tuple [eD e, .bool true]) = some (l.map fun e => (kE e, .bool true))
  | [] => rfl
  | x :: l => by
    have := pairs_e l
    rw [List.map_cons]
    show (keysD [.str x.1, .str x.2]).bind (fun k => (pairsT (l.map fun e => .tuple [eD e, .bool true])).map ((k, PyData.bool true) :: ·)) = _
    rw [this]
    rfl
theorem pairs_s : ∀ l : List Str, pairsK (l.map fun e => .tuple [.str e, .bool true]) = some (l.map fun e => ((.inr e : Key), .bool true))
  | [] => rfl
  | x :: l => by
    have := pairs_s l
    rw [List.map_cons, pairsK, this]
    rfl
/-- sorted and made unlike: entries -/
theorem s_unlike_e {l : List Ent} (h1 : 1 ≤ l.length) (h2 : l.length ≤ 1000) : ∃ M : List Ent, run F N (k + 1) 27 [.val (.list (l.map eD))] = some (.fr (.L (M.map eD)), [some (.val (.list (l.map eD)))]) ∧ M.Nodup ∧ asc M ∧ (∀ x, x ∈ M ↔ x ∈ l) ∧ M.length ≤ l.length := by
  obtain ⟨M, m1, m2, m3, m4⟩ := keys_puts kE_inj (.bool true) l [] [] rfl List.nodup_nil
  simp only [List.not_mem_nil, false_or, List.length_nil, Nat.zero_add] at m3 m4
  refine ⟨sE M, ?_, sE_nodup m2, sE_asc m2, fun x => by rw [sE_mem, m3], by rw [sE_len]; exact m4⟩
  have hl : l.length ≤ LIM := lim8 h2
  have l2 : 2 ≤ LIM := lim8 (by omega)
  rw [run_of F_27 rfl (by decide) rfl rfl]
  simp only [f__law_unlike, b__law_unlike, List.map_cons, List.map_nil, List.replicate, List.cons_append, List.nil_append, Nat.reduceSub]
  have hc : ev (run F N k) (.comp (.tup (.cons (.var 1) (.cons (.cst (PyData.bool true)) .nil))) (.nm 1) (.vals (.var 0)) .no [("one", 1)]) [some (.val (.list (l.map eD))), none] = some (.fr (.L (l.map fun e => .tuple [eD e, .bool true])), [some (.val (.list (l.map eD))), none]) := by
    rw [comp_all eD (fun e => .tuple [eD e, .bool true]) (l := l) (bs := []) (env1 := [some (.val (.list (l.map eD))), none]) (by simp [evi, e_var, RV.dat, boSl]) (by simp) hl (fun x hx => ⟨[some (.val (.list (l.map eD))), some (.val (eD x))], by
      simp [turnQ, evq, b_val, wipeD, e_tup, evs, e_var, e_cst, refr, RV.frz, RV.dat, gd_pos, l2], by simp [wipeD]⟩)]
    simp [backD, wipeD, valAt]
  have hd : bcall .dict [.fr (.L (l.map fun e => .tuple [eD e, .bool true]))] = some (.fr (.T (puts [] (l.map fun e => (kE e, .bool true))))) := by
    have pe := pairs_e l
    obtain ⟨x, l', e⟩ := List.exists_cons_of_length_pos (show 0 < l.length by omega)
    simp only [bcall, RV.dat]
    have : (l.map fun e => PyData.tuple [eD e, .bool true]) = .tuple [.tuple [.str x.1, .str x.2], .bool true] :: l'.map fun e => .tuple [eD e, .bool true] := by rw [e]; rfl
    rw [this] at pe ⊢
    simp only [pe, Option.bind_some]
    rw [gd_pos (by rw [List.length_map]; exact hl)]
    rfl
  have hk : (puts [] (l.map fun e => (kE e, PyData.bool true))).map (fun kv => PyData.tuple (kv.1.map dOfKey)) = M.map eD := by
    have := congrArg (List.map fun ks : List Key => PyData.tuple (ks.map dOfKey)) m1
    rw [List.map_map, List.map_map] at this
    exact this
  have hs : bcall .sorted [.fr (.T (puts [] (l.map fun e => (kE e, .bool true))))] = some (.fr (.L ((sE M).map eD))) := by
    simp only [bcall, hk, sD_e]
    rw [gd_pos (sok_e (Nat.le_trans m4 hl))]
    rfl
  simp [exs, ex, e_bc, evs, hc, refr, hd, hs, PL.finish, retV, gd_pos]
end PT
set_option maxRecDepth 100000
set_option maxHeartbeats 4000000
/-! T4: strings made unlike; draws of many. -/
namespace PT
open PySem PL
open L2 (Key)
variable {N k : Nat}
noncomputable def sS (l : List Str) : List Str := l.mergeSort fun a b => PySem.W.dataLe false id (.str a) (.str b)
theorem sD_s (l : List Str) : sortD (l.map .str) = (sS l).map .str := by
  unfold sortD sS
  rw [List.map_mergeSort]
  intro a _ b _
  rfl
theorem sok_str {l : List Str} (h : l.length ≤ LIM) : sortOk (l.map .str) := by
  refine ⟨fun x hx y hy => ?_, .inr fun x hx => ?_, by rw [List.length_map]; exact h, fun x hx => ?_⟩
  · obtain ⟨a, _, rfl⟩ := List.mem_map.mp hx
    obtain ⟨b, _, rfl⟩ := List.mem_map.mp hy
    rfl
  · obtain ⟨a, _, rfl⟩ := List.mem_map.mp hx
    exact ⟨by simp, by simp⟩
  · obtain ⟨a, _, rfl⟩ := List.mem_map.mp hx
    simp [PyData.depth]
theorem s_unlike_s {l : List Str} (h2 : l.length ≤ 1000) : ∃ M : List Str, run F N (k + 1) 27 [.val (.list (l.map PyData.str))] = some (.fr (.L (M.map PyData.str)), [some (.val (.list (l.map PyData.str)))]) ∧ M.Nodup ∧ (∀ x, x ∈ M ↔ x ∈ l) ∧ M.length ≤ l.length := by
  obtain ⟨M, m1, m2, m3, m4⟩ := keys_puts (f := fun s : Str => (.inr s : Key)) (fun x y e => by simpa using e) (.bool true) l [] [] rfl List.nodup_nil
  simp only [List.not_mem_nil, false_or, List.length_nil, Nat.zero_add] at m3 m4
  have pm : (sS M).Perm M := List.mergeSort_perm _ _
  refine ⟨sS M, ?_, pm.nodup_iff.mpr m2, fun x => by rw [pm.mem_iff, m3], by rw [pm.length_eq]; exact m4⟩
  have hl : l.length ≤ LIM := lim8 h2
  have l2 : 2 ≤ LIM := lim8 (by omega)
  rw [run_of F_27 rfl (by decide) rfl rfl]
  simp only [f__law_unlike, b__law_unlike, List.map_cons, List.map_nil, List.replicate, List.cons_append, List.nil_append, Nat.reduceSub]
  have hc : ev (run F N k) (.comp (.tup (.cons (.var 1) (.cons (.cst (PyData.bool true)) .nil))) (.nm 1) (.vals (.var 0)) .no [("one", 1)]) [some (.val (.list (l.map PyData.str))), none] = some (.fr (.L (l.map fun e => .tuple [.str e, .bool true])), [some (.val (.list (l.map PyData.str))), none]) := by
    rw [comp_all PyData.str (fun e => .tuple [.str e, .bool true]) (l := l) (bs := []) (env1 := [some (.val (.list (l.map PyData.str))), none]) (by simp [evi, e_var, RV.dat, boSl]) (by simp) hl (fun x hx => ⟨[some (.val (.list (l.map PyData.str))), some (.val (.str x))], by
      simp [turnQ, evq, b_val, wipeD, e_tup, evs, e_var, e_cst, refr, RV.frz, RV.dat, gd_pos, l2], by simp [wipeD]⟩)]
    simp [backD, wipeD, valAt]
  have hd : bcall .dict [.fr (.L (l.map fun e => .tuple [.str e, .bool true]))] = some (.fr (.K (puts [] (l.map fun e => ((.inr e : Key), .bool true))))) := by
    have pe := pairs_s l
    simp only [bcall, RV.dat]
    cases hq : l with
    | nil => simp [pairsK, gd_pos]
    | cons x l' =>
      rw [hq] at pe hl
      have : ((x :: l').map fun e => PyData.tuple [.str e, .bool true]) = .tuple [.str x, .bool true] :: l'.map fun e => .tuple [.str e, .bool true] := rfl
      rw [this] at pe ⊢
      simp only [pe, Option.bind_some]
      rw [gd_pos (by rw [List.length_map]; exact hl)]
      rfl
  have hk : (puts [] (l.map fun e => ((.inr e : Key), PyData.bool true))).map (fun kv => dOfKey kv.1) = M.map PyData.str := by
    have := congrArg (List.map dOfKey) m1
    rw [List.map_map, List.map_map] at this
    exact this
  have hs : bcall .sorted [.fr (.K (puts [] (l.map fun e => ((.inr e : Key), .bool true))))] = some (.fr (.L ((sS M).map PyData.str))) := by
    simp only [bcall, hk, sD_s]
    rw [gd_pos (sok_str (Nat.le_trans m4 hl))]
    rfl
  simp [exs, ex, e_bc, evs, hc, refr, hd, hs, PL.finish, retV, gd_pos]
/-- a pop from a list, at a drawn place -/
theorem nl_pot {m : Nat} {o : Ob} (h : Pot m o) : obNl o = true := by
  obtain ⟨a, b, c, z, _⟩ := h
  rw [z]; rfl
theorem some_loop {P : Da → Prop} : ∀ (n : Nat) (ds : List Da) (m : Nat) (o : Ob) (left found : List Da) (x3 : Option SV) (v q : Da) (env0 : En), Pot m o → m + n ≤ 10 ^ 9 → n ≤ left.length → left.length ≤ 1000 → ds.length = n → found.length + n ≤ 1000 → (∀ x ∈ left, P x) → (∀ x ∈ found, P x) →
    ∃ (o' : Ob) (left' found' : List Da) (y3 : Option SV), forL [] (fun d e => (bindT [0] (.nm 3) (.val d) e).bind fun e1 => exs (run F N (k + 1)) N [0] (.cons (.app 5 (.pop 4 (.call 24 (.cons (.var 0) (.cons (.bc .len (.cons (.var 4) .nil)) .nil)) [some 0, none]))) .nil) e1) ds env0 [some (.own o), some (.val v), some (.val q), x3, some (.own (.L left)), some (.own (.L found))] =
      some (.nx [some (.own o'), some (.val v), some (.val q), y3, some (.own (.L left')), some (.own (.L found'))]) ∧ Pot (m + n) o' ∧ (∀ x ∈ found', P x) ∧ found'.length = found.length + n
  | 0, ds, m, o, left, found, x3, v, q, env0, hp, _, _, _, hd, _, _, hf => by
    have : ds = [] := List.eq_nil_of_length_eq_zero hd
    subst this
    exact ⟨o, left, found, x3, by rw [forL], hp, hf, rfl⟩
  | n + 1, ds, m, o, left, found, x3, v, q, env0, hp, hm, hl, hl2, hd, hg, hP, hf => by
    obtain ⟨d, ds', e⟩ := List.exists_cons_of_length_pos (show 0 < ds.length by omega)
    subst e
    obtain ⟨j, o1, a, hj, hp1⟩ := s_take (N := N) (k := k) (u := left.length) hp (by omega) (by omega) (by omega)
    have hx : (left[j] :: []) = [left[j]] := rfl
    have hlen : (left.eraseIdx j).length = left.length - 1 := List.length_eraseIdx_of_lt hj
    have hP' : ∀ x ∈ left.eraseIdx j, P x := fun x hx => hP x (List.mem_of_mem_eraseIdx hx)
    obtain ⟨o', left', found', y3, g1, g2, g3, g4⟩ := some_loop n ds' (m + 1) o1 (left.eraseIdx j) (found ++ [left[j]]) (some (.val d)) v q env0 hp1 (by omega) (by omega) (by omega) (by simpa using hd) (by rw [List.length_append, List.length_singleton]; omega) hP' (fun x hx => by
      rcases List.mem_append.mp hx with z | z
      · exact hf x z
      · rw [List.mem_singleton.mp z]; exact hP _ (List.getElem_mem hj))
    refine ⟨o', left', found', y3, ?_, by rw [show m + (n + 1) = m + 1 + n by omega]; exact g2, g3, by rw [g4, List.length_append, List.length_singleton]; omega⟩
    rw [forL]
    have hnl := nl_pot hp1
    have st : ((bindT [0] (.nm 3) (.val d) [some (.own o), some (.val v), some (.val q), x3, some (.own (.L left)), some (.own (.L found))]).bind fun e1 => exs (run F N (k + 1)) N [0] (.cons (.app 5 (.pop 4 (.call 24 (.cons (.var 0) (.cons (.bc .len (.cons (.var 4) .nil)) .nil)) [some 0, none]))) .nil) e1) = some (.nx [some (.own o1), some (.val v), some (.val q), some (.val d), some (.own (.L (left.eraseIdx j))), some (.own (.L (found ++ [left[j]])))]) := by
      have ix : L2.ixN left.length (j : Int) = some j := by
        unfold L2.ixN; simp; omega
      have ge : left[j]? = some left[j] := List.getElem?_eq_getElem hj
      have r1 : -(2 ^ 62) ≤ (j : Int) ∧ (j : Int) < 2 ^ 62 := by omega
      have fl : found.length < LIM := Nat.lt_of_lt_of_le (show found.length < 1000 by omega) (lim8 (Nat.le_refl _))
      have cc : ev (run F N (k + 1)) (.call 24 (.cons (.var 0) (.cons (.bc .len (.cons (.var 4) .nil)) .nil)) [some 0, none]) [some (.own o), some (.val v), some (.val q), some (.val d), some (.own (.L left)), some (.own (.L found))] = some (.val (.int j), [some (.own o1), some (.val v), some (.val q), some (.val d), some (.own (.L left)), some (.own (.L found))]) := by
        have hln : bcall .len [RV.bo 4 (.L left)] = some (.val (.int left.length)) := by simp [bcall, RV.dat]
        simp [e_call, e_bc, evs, e_var, refr, hln, passA, valSl, gd_pos, a, retOk, noList, backA, hnl, RV.dat]
      have pp : ev (run F N (k + 1)) (.pop 4 (.call 24 (.cons (.var 0) (.cons (.bc .len (.cons (.var 4) .nil)) .nil)) [some 0, none])) [some (.own o), some (.val v), some (.val q), some (.val d), some (.own (.L left)), some (.own (.L found))] = some (.val left[j], [some (.own o1), some (.val v), some (.val q), some (.val d), some (.own (.L (left.eraseIdx j))), some (.own (.L found))]) := by
        rw [e_pop]
        simp only [List.getElem?_cons_succ, List.getElem?_cons_zero, cc, Option.bind_some]
        rw [gd_pos r1]
        simp only [Option.bind_some, ix, ge, Option.map_some]
        rfl
      simp [b_val, exs, ex, pp, RV.frz, RV.dat, gd_pos, fl]
    rw [st]
    simp only [Option.bind_some]
    rw [gd_pos (by simp)]
    exact g1
theorem sign_loop {P : Da → Prop} : ∀ (n : Nat) (ds : List Da) (m : Nat) (o : Ob) (left found : List Da) (x3 : Option SV) (q : Da) (env0 : En), Pot m o → m + n ≤ 10 ^ 9 → n ≤ left.length → left.length ≤ 1000 → ds.length = n → found.length + n ≤ 1000 → (∀ x ∈ left, P x) → (∀ x ∈ found, P x) →
    ∃ (o' : Ob) (left' found' : List Da) (y3 : Option SV), forL [] (fun d e => (bindT [0] (.nm 2) (.val d) e).bind fun e1 => exs (run F N (k + 1)) N [0] (.cons (.app 4 (.pop 3 (.call 24 (.cons (.var 0) (.cons (.bc .len (.cons (.var 3) .nil)) .nil)) [some 0, none]))) .nil) e1) ds env0 [some (.own o), some (.val q), x3, some (.own (.L left)), some (.own (.L found))] =
      some (.nx [some (.own o'), some (.val q), y3, some (.own (.L left')), some (.own (.L found'))]) ∧ Pot (m + n) o' ∧ (∀ x ∈ found', P x) ∧ found'.length = found.length + n
  | 0, ds, m, o, left, found, x3, q, env0, hp, _, _, _, hd, _, _, hf => by
    have : ds = [] := List.eq_nil_of_length_eq_zero hd
    subst this
    exact ⟨o, left, found, x3, by rw [forL], hp, hf, rfl⟩
  | n + 1, ds, m, o, left, found, x3, q, env0, hp, hm, hl, hl2, hd, hg, hP, hf => by
    obtain ⟨d, ds', e⟩ := List.exists_cons_of_length_pos (show 0 < ds.length by omega)
    subst e
    obtain ⟨j, o1, a, hj, hp1⟩ := s_take (N := N) (k := k) (u := left.length) hp (by omega) (by omega) (by omega)
    have hx : (left[j] :: []) = [left[j]] := rfl
    have hlen : (left.eraseIdx j).length = left.length - 1 := List.length_eraseIdx_of_lt hj
    have hP' : ∀ x ∈ left.eraseIdx j, P x := fun x hx => hP x (List.mem_of_mem_eraseIdx hx)
    obtain ⟨o', left', found', y3, g1, g2, g3, g4⟩ := sign_loop n ds' (m + 1) o1 (left.eraseIdx j) (found ++ [left[j]]) (some (.val d)) q env0 hp1 (by omega) (by omega) (by omega) (by simpa using hd) (by rw [List.length_append, List.length_singleton]; omega) hP' (fun x hx => by
      rcases List.mem_append.mp hx with z | z
      · exact hf x z
      · rw [List.mem_singleton.mp z]; exact hP _ (List.getElem_mem hj))
    refine ⟨o', left', found', y3, ?_, by rw [show m + (n + 1) = m + 1 + n by omega]; exact g2, g3, by rw [g4, List.length_append, List.length_singleton]; omega⟩
    rw [forL]
    have hnl := nl_pot hp1
    have st : ((bindT [0] (.nm 2) (.val d) [some (.own o), some (.val q), x3, some (.own (.L left)), some (.own (.L found))]).bind fun e1 => exs (run F N (k + 1)) N [0] (.cons (.app 4 (.pop 3 (.call 24 (.cons (.var 0) (.cons (.bc .len (.cons (.var 3) .nil)) .nil)) [some 0, none]))) .nil) e1) = some (.nx [some (.own o1), some (.val q), some (.val d), some (.own (.L (left.eraseIdx j))), some (.own (.L (found ++ [left[j]])))]) := by
      have ix : L2.ixN left.length (j : Int) = some j := by
        unfold L2.ixN; simp; omega
      have ge : left[j]? = some left[j] := List.getElem?_eq_getElem hj
      have r1 : -(2 ^ 62) ≤ (j : Int) ∧ (j : Int) < 2 ^ 62 := by omega
      have fl : found.length < LIM := Nat.lt_of_lt_of_le (show found.length < 1000 by omega) (lim8 (Nat.le_refl _))
      have cc : ev (run F N (k + 1)) (.call 24 (.cons (.var 0) (.cons (.bc .len (.cons (.var 3) .nil)) .nil)) [some 0, none]) [some (.own o), some (.val q), some (.val d), some (.own (.L left)), some (.own (.L found))] = some (.val (.int j), [some (.own o1), some (.val q), some (.val d), some (.own (.L left)), some (.own (.L found))]) := by
        have hln : bcall .len [RV.bo 3 (.L left)] = some (.val (.int left.length)) := by simp [bcall, RV.dat]
        simp [e_call, e_bc, evs, e_var, refr, hln, passA, valSl, gd_pos, a, retOk, noList, backA, hnl, RV.dat]
      have pp : ev (run F N (k + 1)) (.pop 3 (.call 24 (.cons (.var 0) (.cons (.bc .len (.cons (.var 3) .nil)) .nil)) [some 0, none])) [some (.own o), some (.val q), some (.val d), some (.own (.L left)), some (.own (.L found))] = some (.val left[j], [some (.own o1), some (.val q), some (.val d), some (.own (.L (left.eraseIdx j))), some (.own (.L found))]) := by
        rw [e_pop]
        simp only [List.getElem?_cons_succ, List.getElem?_cons_zero, cc, Option.bind_some]
        rw [gd_pos r1]
        simp only [Option.bind_some, ix, ge, Option.map_some]
        rfl
      simp [b_val, exs, ex, pp, RV.frz, RV.dat, gd_pos, fl]
    rw [st]
    simp only [Option.bind_some]
    rw [gd_pos (by simp)]
    exact g1
/-- many drawn from a list or tuple, each at most once -/
theorem s_some {P : Da → Prop} {m n : Nat} {o : Ob} {v : Da} {xs : List Da} (h : Pot m o) (hm : m + n ≤ 10 ^ 9) (hv : ofs v = some xs) (h1 : n ≤ xs.length) (h2 : xs.length ≤ 500) (hP : ∀ x ∈ xs, P x) : ∃ (ys : List Da) (o' : Ob), run F N (k + 2) 29 [.own o, .val v, .val (.int n)] = some (.fr (.L ys), [some (.own o'), some (.val v), some (.val (.int n))]) ∧ ys.length = n ∧ (∀ x ∈ ys, P x) ∧ Pot (m + n) o' := by
  have hl : bcall .list [RV.val v] = some (.fr (.L xs)) := by
    unfold ofs at hv
    split at hv
    · cases hv; simp [bcall, RV.dat]
    · cases hv; simp [bcall, RV.dat]
    · cases hv
  obtain ⟨o', l', f', y3, g1, g2, g3, g4⟩ := some_loop (N := N) (k := k) (P := P) n (intR 0 n) m o xs [] none v (.int n) [some (.own o), some (.val v), some (.val (.int n)), none, some (.own (.L xs)), some (.own (.L []))] h hm h1 (by omega) (by unfold intR; simp) (by simp; omega) hP (by simp)
  refine ⟨f', o', ?_, by simpa using g4, g3, g2⟩
  rw [run_of F_29 rfl (by decide) rfl rfl]
  simp only [f__law_some, b__law_some, List.map_cons, List.map_nil, List.replicate, List.cons_append, List.nil_append, Nat.reduceSub]
  have c1 : ex (run F N (k + 1)) N [0] (.par [4, 5] (.cons (.bc .list (.cons (.var 1) .nil)) (.cons (.lst .nil) .nil))) [some (.own o), some (.val v), some (.val (.int n)), none, none, none] = some (.nx [some (.own o), some (.val v), some (.val (.int n)), none, some (.own (.L xs)), some (.own (.L []))]) := by
    simp [ex, e_bc, e_lst, evs, e_var, refr, hl, gd_pos, bindP, b_fr]
  have r1 : (-(2 : Int) ^ 62 ≤ n ∧ (n : Int) < 2 ^ 62) := by omega
  have c2 : evi (run F N (k + 1)) (.rng1 (.var 2)) [some (.own o), some (.val v), some (.val (.int n)), none, some (.own (.L xs)), some (.own (.L []))] = some (intR 0 n, [], [some (.own o), some (.val v), some (.val (.int n)), none, some (.own (.L xs)), some (.own (.L []))]) := by
    simp only [evi, e_var, List.getElem?_cons_succ, List.getElem?_cons_zero, Option.bind_some]
    rw [gd_pos r1]
    simp
  rw [exs, c1]
  simp only [Option.bind_some]
  rw [exs, ex, c2]
  simp only [Option.bind_some]
  rw [gd_pos (by simp)]
  simp only [Option.bind_some]
  rw [g1]
  obtain ⟨pa, pb, pc, pz, _⟩ := g2
  subst pz
  simp [exs, ex, e_var, PL.finish, retV, gd_pos]
theorem s_signs {m n : Nat} {o : Ob} (h : Pot m o) (hm : m + n ≤ 10 ^ 9) (h1 : n ≤ 26) : ∃ (ys : List Da) (o' : Ob), run F N (k + 2) 28 [.own o, .val (.int n)] = some (.fr (.L ys), [some (.own o'), some (.val (.int n))]) ∧ ys.length = n ∧ (∀ x ∈ ys, ∃ c : Nat, (97 ≤ c ∧ c ≤ 122) ∧ x = .str ⟨#[c]⟩) ∧ Pot (m + n) o' := by
  have hlen : (chars (Str.ofString "abcdefghijklmnopqrstuvwxyz")).length = 26 := by
    unfold chars
    rw [List.length_map, signs_list]
    rfl
  have hl : bcall .list [RV.val (.str (Str.ofString "abcdefghijklmnopqrstuvwxyz"))] = some (.fr (.L (chars (Str.ofString "abcdefghijklmnopqrstuvwxyz")))) := by
    simp only [bcall, RV.dat]
    rw [gd_pos (show (Str.ofString "abcdefghijklmnopqrstuvwxyz").length ≤ LIM from lim8 (by decide))]
    rfl
  have hP : ∀ x ∈ chars (Str.ofString "abcdefghijklmnopqrstuvwxyz"), ∃ c : Nat, (97 ≤ c ∧ c ≤ 122) ∧ x = .str ⟨#[c]⟩ := by
    intro x hx
    unfold chars at hx
    obtain ⟨c, hc, e⟩ := List.mem_map.mp hx
    exact ⟨c, signs_mem.mp hc, e.symm⟩
  obtain ⟨o', l', f', y3, g1, g2, g3, g4⟩ := sign_loop (N := N) (k := k) (P := fun x => ∃ c : Nat, (97 ≤ c ∧ c ≤ 122) ∧ x = .str ⟨#[c]⟩) n (intR 0 n) m o (chars (Str.ofString "abcdefghijklmnopqrstuvwxyz")) [] none (.int n) [some (.own o), some (.val (.int n)), none, some (.own (.L (chars (Str.ofString "abcdefghijklmnopqrstuvwxyz")))), some (.own (.L []))] h hm (by omega) (by omega) (by unfold intR; simp) (by simp; omega) hP (by simp)
  refine ⟨f', o', ?_, by simpa using g4, g3, g2⟩
  generalize chars (Str.ofString "abcdefghijklmnopqrstuvwxyz") = xs at *
  rw [run_of F_28 rfl (by decide) rfl rfl]
  simp only [f__law_signs, b__law_signs, List.map_cons, List.map_nil, List.replicate, List.cons_append, List.nil_append, Nat.reduceSub]
  have c1 : ex (run F N (k + 1)) N [0] (.par [3, 4] (.cons (.bc .list (.cons (.cst (PyData.str "abcdefghijklmnopqrstuvwxyz")) .nil)) (.cons (.lst .nil) .nil))) [some (.own o), some (.val (.int n)), none, none, none] = some (.nx [some (.own o), some (.val (.int n)), none, some (.own (.L xs)), some (.own (.L []))]) := by
    simp [ex, e_bc, e_lst, evs, e_var, e_cst, refr, hl, gd_pos, bindP, b_fr]
  have r1 : (-(2 : Int) ^ 62 ≤ n ∧ (n : Int) < 2 ^ 62) := by omega
  have c2 : evi (run F N (k + 1)) (.rng1 (.var 1)) [some (.own o), some (.val (.int n)), none, some (.own (.L xs)), some (.own (.L []))] = some (intR 0 n, [], [some (.own o), some (.val (.int n)), none, some (.own (.L xs)), some (.own (.L []))]) := by
    simp only [evi, e_var, List.getElem?_cons_succ, List.getElem?_cons_zero, Option.bind_some]
    rw [gd_pos r1]
    simp
  rw [exs, c1]
  simp only [Option.bind_some]
  rw [exs, ex, c2]
  simp only [Option.bind_some]
  rw [gd_pos (by simp)]
  simp only [Option.bind_some]
  rw [g1]
  obtain ⟨pa, pb, pc, pz, _⟩ := g2
  subst pz
  simp [exs, ex, e_var, PL.finish, retV, gd_pos]
end PT
set_option maxRecDepth 100000
set_option maxHeartbeats 4000000
/-! T5: comprehensions that draw; rows. -/
namespace PT
open PySem PL
open L2 (Key)
variable {N k : Nat}
theorem compL_inv2 {vs bs : List Nat} {turn : Da → En → Option (Option Da × En)} {env0 : En} (Inv : Nat → En → Prop) (Q : Da → Da → Prop) : ∀ {ds : List Da} {i : Nat} {env : En} {acc : List Da}, Inv i env → acc.length + ds.length ≤ LIM →
    (∀ j e d, d ∈ ds → i ≤ j → j < i + ds.length → Inv j e → ∃ z e', turn d e = some (some z, e') ∧ Inv (j + 1) (wipeD e' vs) ∧ (∀ l ∈ bs, (wipeD e' vs)[l]? = env0[l]?) ∧ Q d z) →
    ∃ out env', compL vs bs turn ds env0 env acc = some (acc ++ out, env') ∧ Inv (i + ds.length) env' ∧ (∀ y ∈ out, ∃ d ∈ ds, Q d y) ∧ out.length = ds.length
  | [], i, env, acc, hi, _, _ => ⟨[], env, by rw [compL, List.append_nil], hi, fun _ h => absurd h (by simp), rfl⟩
  | d :: ds, i, env, acc, hi, hl, h => by
    obtain ⟨y, e', h1, h2, h3, h4⟩ := h i env d List.mem_cons_self (Nat.le_refl _) (by rw [List.length_cons]; omega) hi
    rw [List.length_cons] at hl
    have hlt : acc.length < LIM := by omega
    obtain ⟨out, env', g1, g2, g3, g4⟩ := compL_inv2 Inv Q (ds := ds) (acc := acc ++ [y]) h2 (by rw [List.length_append, List.length_singleton]; omega) fun j e d hd h1 h2 => h j e d (List.mem_cons_of_mem _ hd) (by omega) (by rw [List.length_cons]; omega)
    refine ⟨y :: out, env', ?_, ?_, fun z hz => ?_, by rw [List.length_cons, List.length_cons]; omega⟩
    · rw [compL, h1]
      simp only [Option.bind_some]
      rw [gd_pos h3, gd_pos hlt]
      simp only [Option.bind_some]
      rw [g1, List.append_assoc]
      rfl
    · rw [List.length_cons, Nat.add_comm ds.length 1, ← Nat.add_assoc]
      exact g2
    · rcases List.mem_cons.mp hz with e | hz
      · rw [e]; exact ⟨d, List.mem_cons_self, h4⟩
      · obtain ⟨d', hd', q⟩ := g3 z hz
        exact ⟨d', List.mem_cons_of_mem _ hd', q⟩
theorem comp_inv2 {C : Cl} {elt : E} {tg : Tg} {it : It} {cs : Oe} {own : List (Str × Nat)} {env env1 : En} {ds : List Da} {bs : List Nat} (Inv : Nat → En → Prop) (Q : Da → Da → Prop) (hi : evi C it env = some (ds, bs, env1)) (hb : ∀ j ∈ bs, j ∉ own.map (·.2)) (hl : ds.length ≤ LIM) (h0 : Inv 0 (wipeD env1 (own.map (·.2))))
    (h : ∀ j e d, d ∈ ds → j < ds.length → Inv j e → ∃ z e', turnQ C elt tg cs d e = some (some z, e') ∧ Inv (j + 1) (wipeD e' (own.map (·.2))) ∧ (∀ l ∈ bs, (wipeD e' (own.map (·.2)))[l]? = (wipeD env1 (own.map (·.2)))[l]?) ∧ Q d z) :
    ∃ out env', ev C (.comp elt tg it cs own) env = some (.fr (.L out), backD env1 env' (own.map (·.2))) ∧ Inv ds.length env' ∧ (∀ y ∈ out, ∃ d ∈ ds, Q d y) ∧ out.length = ds.length := by
  obtain ⟨out, env', g1, g2, g3, g4⟩ := compL_inv2 (vs := own.map (·.2)) (bs := bs) (turn := turnQ C elt tg cs) (env0 := wipeD env1 (own.map (·.2))) Inv Q (ds := ds) (i := 0) (acc := []) h0 (by simpa using hl) fun j e d hd _ hj hI => h j e d hd (by omega) hI
  refine ⟨out, env', ?_, by simpa using g2, g3, g4⟩
  rw [e_comp, hi]
  simp only [Option.bind_some]
  rw [gd_pos hb]
  simp only [Option.bind_some]
  rw [g1]
  simp
/-- one sign -/
def S1 (Q : Nat → Prop) (d : Da) : Prop := ∃ c : Nat, Q c ∧ d = .str ⟨#[c]⟩
theorem s1_list {Q : Nat → Prop} : ∀ {l : List Da}, (∀ x ∈ l, S1 Q x) → ∃ cs : List Nat, (∀ c ∈ cs, Q c) ∧ cs.length = l.length ∧ l = cs.map fun c => .str ⟨#[c]⟩
  | [], _ => ⟨[], by simp, rfl, rfl⟩
  | x :: l, h => by
    obtain ⟨c, hc, e⟩ := h x List.mem_cons_self
    obtain ⟨cs, h1, h2, h3⟩ := s1_list fun y hy => h y (List.mem_cons_of_mem _ hy)
    refine ⟨c :: cs, fun z hz => ?_, by simp [h2], by rw [e, h3]; rfl⟩
    rcases List.mem_cons.mp hz with q | q
    · rw [q]; exact hc
    · exact h1 z q
theorem join1 {cs : List Nat} (h : cs.length ≤ 1000) : mcall .join (.val (.str (Str.ofString ""))) [.fr (.L (cs.map fun c => .str ⟨#[c]⟩))] = some (.val (.str (strOf cs))) := by
  have hs : ∀ cs : List Nat, ((cs.map fun c => (⟨#[c]⟩ : Str)).map (·.length)).sum = cs.length := fun cs => by
    induction cs with
    | nil => rfl
    | cons c cs ih => rw [List.map_cons, List.map_cons, List.sum_cons, ih, List.length_cons]; simp [Str.length]; omega
  rw [join_of (g := fun c : Nat => (⟨#[c]⟩ : Str)) (by rw [hs]; exact lim8 h)]
  congr 3
  have : ((cs.map fun c => (⟨#[c]⟩ : Str)).flatMap fun s => s.cps.toList) = cs := by
    rw [List.flatMap_map]
    simp
  rw [this]
theorem rng_len (n : Nat) : (intR 0 n).length = n := by unfold intR; simp
theorem s_row {Q : Nat → Prop} {m u : Nat} {o : Ob} {v : Da} {xs : List Da} (h : Pot m o) (hm : m + u + 1 ≤ 10 ^ 9) (hv : ofs v = some xs) (h1 : 1 ≤ xs.length) (h2 : xs.length < 1000000) (hu : u ≤ 100) (hQ : ∀ x ∈ xs, S1 Q x) : ∃ (cs : List Nat) (o' : Ob), run F N (k + 3) 30 [.own o, .val v, .val (.int u)] = some (.val (.str (strOf cs)), [some (.own o'), some (.val v), some (.val (.int u))]) ∧ cs.length ≤ u ∧ (∀ c ∈ cs, Q c) ∧ Pot (m + u + 1) o' := by
  obtain ⟨n, o1, a, hn, hp1⟩ := s_take (N := N) (k := k + 1) (u := u + 1) h (by omega) (by omega) (by omega)
  have hu1 : ((u + 1 : Nat) : Int) = (u : Int) + 1 := by omega
  rw [hu1] at a
  have hit : evi (run F N (k + 2)) (.rng1 (.call 24 (.cons (.var 0) (.cons (.bin .Add (.var 2) (.cst (PyData.int 1))) .nil)) [some 0, none])) [some (.own o), some (.val v), some (.val (.int u)), none] = some (intR 0 n, [], [some (.own o1), some (.val v), some (.val (.int u)), none]) := by
    have cc : ev (run F N (k + 2)) (.call 24 (.cons (.var 0) (.cons (.bin .Add (.var 2) (.cst (PyData.int 1))) .nil)) [some 0, none]) [some (.own o), some (.val v), some (.val (.int u)), none] = some (.val (.int n), [some (.own o1), some (.val v), some (.val (.int u)), none]) := by
      simp [e_call, e_bin, evs, e_var, e_cst, refr, m_add, passA, valSl, gd_pos, a, retOk, noList, backA, nl_pot hp1, RV.dat]
    simp only [evi, cc, Option.bind_some]
    rw [gd_pos (by omega)]
    simp
  obtain ⟨out, env', g1, ⟨o2, g2, g3⟩, g4, g5⟩ := comp_inv2 (C := run F N (k + 2)) (elt := .call 25 (.cons (.var 0) (.cons (.var 1) .nil)) [some 0, none]) (tg := .nm 3) (cs := .no) (own := [("lap", 3)]) (fun j e => ∃ o2, Pot (m + 1 + j) o2 ∧ e = [some (.own o2), some (.val v), some (.val (.int u)), none]) (fun _ z => S1 Q z) hit (by simp) (by rw [rng_len]; exact lim8 (by omega)) ⟨o1, hp1, by simp [wipeD]⟩ (fun j e d hd hj hI => by
    rw [rng_len] at hj
    obtain ⟨o2, q1, q2⟩ := hI
    subst q2
    obtain ⟨x, o3, w1, w2, w3⟩ := s_of (N := N) (k := k) q1 (by omega) hv h1 h2
    have sx := hQ x w2
    refine ⟨x, [some (.own o3), some (.val v), some (.val (.int u)), some (.val d)], ?_, ⟨o3, w3, by simp [wipeD]⟩, by simp, sx⟩
    obtain ⟨c, _, hc⟩ := sx
    subst hc
    simp [turnQ, evq, b_val, e_call, evs, e_var, refr, passA, valSl, gd_pos, w1, retOk, noList, backA, nl_pot w3, RV.dat, RV.frz])
  subst g3
  rw [rng_len] at g2 g5
  obtain ⟨cs, s1, s2, s3⟩ := s1_list (Q := Q) (l := out) fun y hy => (g4 y hy).elim fun _ h => h.2
  rw [g5] at s2
  refine ⟨cs, o2, ?_, by omega, s1, g2.mono (by omega)⟩
  rw [run_of F_30 rfl (by decide) rfl rfl]
  simp only [f__law_row, b__law_row, List.map_cons, List.map_nil, List.replicate, List.cons_append, List.nil_append, Nat.reduceSub]
  have bk : backD [some (.own o1), some (.val v), some (.val (.int u)), none] [some (.own o2), some (.val v), some (.val (.int u)), none] [3] = [some (.own o2), some (.val v), some (.val (.int u)), none] := by
    simp [backD, valAt]
  simp only [List.map_cons, List.map_nil, bk] at g1
  have j1 := join1 (cs := cs) (by omega)
  rw [s3] at g1
  have pz : ∃ ob : Ob, o2 = ob := ⟨_, rfl⟩
  simp [exs, ex, e_mth, e_cst, evs, g1, mtOk, refr, j1, PL.finish, retV, gd_pos]
end PT
set_option maxRecDepth 100000
set_option maxHeartbeats 4000000
/-! T6: leaves. -/
namespace PT
open PySem PL
open L2 (Key)
variable {N k : Nat}
/-- a string of lo to hi signs, each so -/
def St (Q : Nat → Prop) (lo hi : Nat) (d : Da) : Prop := ∃ cs : List Nat, lo ≤ cs.length ∧ cs.length ≤ hi ∧ (∀ c ∈ cs, Q c) ∧ d = .str (strOf cs)
theorem S1_St {Q : Nat → Prop} {d : Da} (h : S1 Q d) : St Q 1 1 d := by
  obtain ⟨c, h1, h2⟩ := h
  exact ⟨[c], by simp, by simp, by simpa using h1, h2⟩
theorem St.mono {Q : Nat → Prop} {lo hi lo' hi' : Nat} {d : Da} (h : St Q lo hi d) (h1 : lo' ≤ lo) (h2 : hi ≤ hi') : St Q lo' hi' d := by
  obtain ⟨cs, a, b, c, e⟩ := h
  exact ⟨cs, by omega, by omega, c, e⟩
theorem app_str (a b : List Nat) (h : a.length + b.length ≤ LIM) : opBin .Add (.val (.str (strOf a))) (.val (.str (strOf b))) = some (.val (.str (strOf (a ++ b)))) := by
  simp only [opBin]
  rw [gd_pos (by simpa [strOf, Str.length] using h)]
  simp only [Option.map_some]
  congr 3
  apply str_ext
  have e : (strOf a ++ strOf b).cps = (strOf a).cps ++ (strOf b).cps := rfl
  rw [e]
  simp [strOf]
theorem St_add {Q : Nat → Prop} {l1 h1 l2 h2 : Nat} {a b : Da} (ha : St Q l1 h1 a) (hb : St Q l2 h2 b) (hh : h1 + h2 ≤ 1000) : ∃ c : Da, opBin .Add (.val a) (.val b) = some (.val c) ∧ St Q (l1 + l2) (h1 + h2) c := by
  obtain ⟨x, a1, a2, a3, a4⟩ := ha
  obtain ⟨y, b1, b2, b3, b4⟩ := hb
  subst a4 b4
  exact ⟨_, app_str x y (lim8 (by omega)), x ++ y, by rw [List.length_append]; omega, by rw [List.length_append]; omega, fun c hc => (List.mem_append.mp hc).elim (a3 c) (b3 c), rfl⟩
theorem St_len {Q : Nat → Prop} {lo hi : Nat} {d : Da} (h : St Q lo hi d) (hh : hi ≤ 1000) : ∃ n : Nat, bcall .len [.val d] = some (.val (.int n)) ∧ lo ≤ n ∧ n ≤ hi ∧ ∀ h', n ≤ h' → St Q lo h' d := by
  obtain ⟨x, a1, a2, a3, a4⟩ := h
  subst a4
  refine ⟨x.length, ?_, a1, a2, fun h' hn => ⟨x, a1, hn, a3, rfl⟩⟩
  have e : (strOf x).length = x.length := by simp [strOf, Str.length]
  simp only [bcall]
  rw [e, gd_pos (lim8 (by omega))]
  rfl
theorem cut_to {α : Type} (l : List α) (j : Nat) : (cutD l none (some (j : Int))).length ≤ j := by
  unfold cutD
  have e : HT.sIx l.length l.length (some (j : Int)) = min j l.length := HT.sIx_nat l.length l.length j
  rw [e, List.length_take]
  omega
theorem cut_fr {α : Type} (l : List α) (j : Nat) : (cutD l (some (j : Int)) none).length ≤ l.length - j := by
  unfold cutD
  have e : HT.sIx l.length 0 (some (j : Int)) = min j l.length := HT.sIx_nat l.length 0 j
  rw [e, List.length_take, List.length_drop]
  omega
theorem at_of {xs : List Da} {j : Nat} (h : j < xs.length) : L2.atI xs (j : Int) = some xs[j] := L2.atI_nat (List.getElem?_eq_getElem h)
theorem leaf_loop {Q : Nat → Prop} {sg : List Da} {L M : Nat} (hs : ∀ x ∈ sg, S1 Q x) (hs1 : 1 ≤ sg.length) (hs2 : sg.length ≤ 26) (hL : L ≤ 8) (hM : M ≤ 100) : ∀ (n : Nat) (ds : List Da) (m : Nat) (o : Ob) (ls : List Da) (x6 x7 : Option SV) (q : Da) (env0 : En), Pot m o → m + n ≤ 10 ^ 9 → ds.length = n → 1 ≤ ls.length → ls.length ≤ 100 → (∀ x ∈ ls, St Q 1 8 x) →
    ∃ (o' : Ob) (ls' : List Da) (y6 y7 : Option SV), forL [] (fun d e => (bindT [0] (.nm 6) (.val d) e).bind fun e1 => exs (run F N (k + 1)) N [0] (.cons (.asg (.nm 7) (.call 24 (.cons (.var 0) (.cons (.bc .len (.cons (.var 5) .nil)) .nil)) [some 0, none])) (.cons (.ite (.and (.cmp .Lt (.bc .len (.cons (.idx (.var 5) (.var 7)) .nil)) (.var 3)) (.cmp .LtE (.bin .Sub (.bin .Add (.bc .len (.cons (.var 5) .nil)) (.bc .len (.cons (.var 1) .nil))) (.cst (PyData.int 1))) (.var 4)))
(.cons (.asg (.nm 5) (.bin .Add (.bin .Add (.slc (.var 5) .no (.yes (.var 7))) (.comp (.bin .Add (.idx (.var 5) (.var 7)) (.var 8)) (.nm 8) (.vals (.var 1)) .no [("sign", 8)])) (.slc (.var 5) (.yes (.bin .Add (.var 7) (.cst (PyData.int 1)))) .no))) .nil)
.nil) .nil)) e1) ds env0 [some (.own o), some (.val (.list sg)), some (.val q), some (.val (.int L)), some (.val (.int M)), some (.own (.L ls)), x6, x7, none] =
      some (.nx [some (.own o'), some (.val (.list sg)), some (.val q), some (.val (.int L)), some (.val (.int M)), some (.own (.L ls')), y6, y7, none]) ∧ Pot (m + n) o' ∧ 1 ≤ ls'.length ∧ ls'.length ≤ 100 ∧ (∀ x ∈ ls', St Q 1 8 x)
  | 0, ds, m, o, ls, x6, x7, q, env0, hp, hm, hd, h1, h2, h3 => by
    have : ds = [] := List.eq_nil_of_length_eq_zero hd
    subst this
    exact ⟨o, ls, x6, x7, by rw [forL], hp, h1, h2, h3⟩
  | n + 1, ds, m, o, ls, x6, x7, q, env0, hp, hm, hd, h1, h2, h3 => by
    obtain ⟨d, ds', e⟩ := List.exists_cons_of_length_pos (show 0 < ds.length by omega)
    subst e
    obtain ⟨j, o1, a, hj, hp1⟩ := s_take (N := N) (k := k) (u := ls.length) hp (by omega) (by omega) (by omega)
    have hnl := nl_pot hp1
    have ge : L2.atI ls (j : Int) = some ls[j] := at_of hj
    have hst := h3 _ (List.getElem_mem hj)
    obtain ⟨w, w1, w2, w3, w4⟩ := St_len hst (by omega)
    have hln : bcall .len [RV.bo 5 (.L ls)] = some (.val (.int ls.length)) := by simp [bcall, RV.dat]
    have hsn : bcall .len [RV.val (.list sg)] = some (.val (.int sg.length)) := by simp [bcall, RV.dat]
    have ix : opIdx (.bo 5 (.L ls)) (.val (.int j)) = some ls[j] := by
      simp only [opIdx, RV.dat]; exact ge
    have cc : ex (run F N (k + 1)) N [0] (.asg (.nm 7) (.call 24 (.cons (.var 0) (.cons (.bc .len (.cons (.var 5) .nil)) .nil)) [some 0, none])) [some (.own o), some (.val (.list sg)), some (.val q), some (.val (.int L)), some (.val (.int M)), some (.own (.L ls)), some (.val d), x7, none] = some (.nx [some (.own o1), some (.val (.list sg)), some (.val q), some (.val (.int L)), some (.val (.int M)), some (.own (.L ls)), some (.val d), some (.val (.int j)), none]) := by
      simp [ex, e_call, e_bc, evs, e_var, refr, hln, passA, valSl, gd_pos, a, retOk, noList, backA, hnl, RV.dat, b_val]
    have ct : evt (run F N (k + 1)) (.and (.cmp .Lt (.bc .len (.cons (.idx (.var 5) (.var 7)) .nil)) (.var 3)) (.cmp .LtE (.bin .Sub (.bin .Add (.bc .len (.cons (.var 5) .nil)) (.bc .len (.cons (.var 1) .nil))) (.cst (PyData.int 1))) (.var 4))) [some (.own o1), some (.val (.list sg)), some (.val q), some (.val (.int L)), some (.val (.int M)), some (.own (.L ls)), some (.val d), some (.val (.int j)), none] = some (decide ((w : Int) < L) && decide ((ls.length : Int) + sg.length - 1 ≤ M), [some (.own o1), some (.val (.list sg)), some (.val q), some (.val (.int L)), some (.val (.int M)), some (.own (.L ls)), some (.val d), some (.val (.int j)), none]) := by
      have k1 : ∀ x y : Int, opCmp .Lt (.val (.int x)) (.val (.int y)) = some (decide (x < y)) := fun _ _ => rfl
      have k2 : ∀ x y : Int, opCmp .LtE (.val (.int x)) (.val (.int y)) = some (decide (x ≤ y)) := fun _ _ => rfl
      rw [evt_and]
      have z1 : evt (run F N (k + 1)) (.cmp .Lt (.bc .len (.cons (.idx (.var 5) (.var 7)) .nil)) (.var 3)) [some (.own o1), some (.val (.list sg)), some (.val q), some (.val (.int L)), some (.val (.int M)), some (.own (.L ls)), some (.val d), some (.val (.int j)), none] = some (decide ((w : Int) < L), [some (.own o1), some (.val (.list sg)), some (.val q), some (.val (.int L)), some (.val (.int M)), some (.own (.L ls)), some (.val d), some (.val (.int j)), none]) := by
        simp [evt_cmp, e_bc, evs, e_idx, e_var, refr, ix, w1, k1]
      have z2 : evt (run F N (k + 1)) (.cmp .LtE (.bin .Sub (.bin .Add (.bc .len (.cons (.var 5) .nil)) (.bc .len (.cons (.var 1) .nil))) (.cst (PyData.int 1))) (.var 4)) [some (.own o1), some (.val (.list sg)), some (.val q), some (.val (.int L)), some (.val (.int M)), some (.own (.L ls)), some (.val d), some (.val (.int j)), none] = some (decide ((ls.length : Int) + sg.length - 1 ≤ M), [some (.own o1), some (.val (.list sg)), some (.val q), some (.val (.int L)), some (.val (.int M)), some (.own (.L ls)), some (.val d), some (.val (.int j)), none]) := by
        simp [evt_cmp, e_bc, evs, e_bin, e_var, e_cst, refr, hln, hsn, m_add, m_sub, k2]
      rw [z1]
      cases decide ((w : Int) < L) <;> simp [z2]
    have hbd : bindT [0] (.nm 6) (.val d) [some (.own o), some (.val (.list sg)), some (.val q), some (.val (.int L)), some (.val (.int M)), some (.own (.L ls)), x6, x7, none] = some [some (.own o), some (.val (.list sg)), some (.val q), some (.val (.int L)), some (.val (.int M)), some (.own (.L ls)), some (.val d), x7, none] := by
      simp [b_val]
    rw [forL, hbd]
    simp only [Option.bind_some]
    rw [exs, cc]
    simp only [Option.bind_some]
    rw [exs, ex, ct]
    simp only [Option.bind_some]
    by_cases hy : ((w : Int) < L) ∧ ((ls.length : Int) + sg.length - 1 ≤ M)
    case neg =>
      have hf : (decide ((w : Int) < L) && decide ((ls.length : Int) + sg.length - 1 ≤ M)) = false := by
        rw [← Bool.decide_and]; exact decide_eq_false hy
      rw [hf]
      obtain ⟨o', ls', y6, y7, g1, g2, g3, g4, g5⟩ := leaf_loop hs hs1 hs2 hL hM n ds' (m + 1) o1 ls (some (.val d)) (some (.val (.int j))) q env0 hp1 (by omega) (by simpa using hd) h1 h2 h3
      refine ⟨o', ls', y6, y7, ?_, by rw [show m + (n + 1) = m + 1 + n by omega]; exact g2, g3, g4, g5⟩
      simp only [Bool.false_eq_true, if_false]
      rw [exs]
      simp only [Option.bind_some]
      rw [exs]
      simp only [Option.bind_some]
      rw [gd_pos (by simp)]
      exact g1
    have hf : (decide ((w : Int) < L) && decide ((ls.length : Int) + sg.length - 1 ≤ M)) = true := by
      rw [← Bool.decide_and]; exact decide_eq_true hy
    rw [hf]
    obtain ⟨out, env', r1, r2, r3, r4⟩ := comp_inv2 (C := run F N (k + 1)) (elt := .bin .Add (.idx (.var 5) (.var 7)) (.var 8)) (tg := .nm 8) (cs := .no) (own := [("sign", 8)]) (it := .vals (.var 1)) (ds := sg) (bs := []) (env1 := [some (.own o1), some (.val (.list sg)), some (.val q), some (.val (.int L)), some (.val (.int M)), some (.own (.L ls)), some (.val d), some (.val (.int j)), none]) (env := [some (.own o1), some (.val (.list sg)), some (.val q), some (.val (.int L)), some (.val (.int M)), some (.own (.L ls)), some (.val d), some (.val (.int j)), none]) (fun _ e => e = [some (.own o1), some (.val (.list sg)), some (.val q), some (.val (.int L)), some (.val (.int M)), some (.own (.L ls)), some (.val d), some (.val (.int j)), none]) (fun _ z => St Q 1 8 z) (by simp [evi, e_var, RV.dat, boSl]) (by simp) (lim8 (by omega)) (by simp [wipeD]) (fun i e x hx hi hI => by
      subst hI
      obtain ⟨c, c1, c2⟩ := St_add (w4 w (Nat.le_refl _)) (S1_St (hs x hx)) (by omega)
      refine ⟨c, [some (.own o1), some (.val (.list sg)), some (.val q), some (.val (.int L)), some (.val (.int M)), some (.own (.L ls)), some (.val d), some (.val (.int j)), some (.val x)], ?_, by simp [wipeD], by simp, c2.mono (by omega) (by omega)⟩
      simp [turnQ, evq, b_val, e_bin, e_idx, e_var, refr, ix, c1, RV.frz, RV.dat])
    subst r2
    have bk : backD [some (.own o1), some (.val (.list sg)), some (.val q), some (.val (.int L)), some (.val (.int M)), some (.own (.L ls)), some (.val d), some (.val (.int j)), none] [some (.own o1), some (.val (.list sg)), some (.val q), some (.val (.int L)), some (.val (.int M)), some (.own (.L ls)), some (.val d), some (.val (.int j)), none] [8] = [some (.own o1), some (.val (.list sg)), some (.val q), some (.val (.int L)), some (.val (.int M)), some (.own (.L ls)), some (.val d), some (.val (.int j)), none] := by
      simp [backD, valAt]
    simp only [List.map_cons, List.map_nil, bk] at r1
    have n1 := cut_to ls j
    have n2 := cut_fr ls (j + 1)
    have e1 : ((j + 1 : Nat) : Int) = (j : Int) + 1 := by omega
    rw [e1] at n2
    have hnew : ∀ x ∈ cutD ls none (some (j : Int)) ++ out ++ cutD ls (some ((j : Int) + 1)) none, St Q 1 8 x := fun x hx => by
      rcases List.mem_append.mp hx with z | z
      · rcases List.mem_append.mp z with z | z
        · exact h3 x (cut_mem z)
        · exact (r3 x z).elim fun _ h => h.2
      · exact h3 x (cut_mem z)
    have hlen : (cutD ls none (some (j : Int)) ++ out ++ cutD ls (some ((j : Int) + 1)) none).length = (cutD ls none (some (j : Int))).length + out.length + (cutD ls (some ((j : Int) + 1)) none).length := by rw [List.length_append, List.length_append]
    obtain ⟨o', ls', y6, y7, g1, g2, g3, g4, g5⟩ := leaf_loop hs hs1 hs2 hL hM n ds' (m + 1) o1 (cutD ls none (some (j : Int)) ++ out ++ cutD ls (some ((j : Int) + 1)) none) (some (.val d)) (some (.val (.int j))) q env0 hp1 (by omega) (by simpa using hd) (by omega) (by omega) hnew
    refine ⟨o', ls', y6, y7, ?_, by rw [show m + (n + 1) = m + 1 + n by omega]; exact g2, g3, g4, g5⟩
    have s1 : opSlc (.bo 5 (.L ls)) none (some (j : Int)) = some (.fr (.L (cutD ls none (some (j : Int))))) := rfl
    have s2 : opSlc (.bo 5 (.L ls)) (some ((j : Int) + 1)) none = some (.fr (.L (cutD ls (some ((j : Int) + 1)) none))) := rfl
    have a1 : opBin .Add (.fr (.L (cutD ls none (some (j : Int))))) (.fr (.L out)) = some (.fr (.L (cutD ls none (some (j : Int)) ++ out))) := by
      simp only [opBin]; rw [gd_pos (lim8 (by omega))]; rfl
    have a2 : opBin .Add (.fr (.L (cutD ls none (some (j : Int)) ++ out))) (.fr (.L (cutD ls (some ((j : Int) + 1)) none))) = some (.fr (.L (cutD ls none (some (j : Int)) ++ out ++ cutD ls (some ((j : Int) + 1)) none))) := by
      simp only [opBin]; rw [gd_pos (lim8 (by rw [List.length_append]; omega))]; rfl
    have fin : ex (run F N (k + 1)) N [0] (.asg (.nm 5) (.bin .Add (.bin .Add (.slc (.var 5) .no (.yes (.var 7))) (.comp (.bin .Add (.idx (.var 5) (.var 7)) (.var 8)) (.nm 8) (.vals (.var 1)) .no [("sign", 8)])) (.slc (.var 5) (.yes (.bin .Add (.var 7) (.cst (PyData.int 1)))) .no))) [some (.own o1), some (.val (.list sg)), some (.val q), some (.val (.int L)), some (.val (.int M)), some (.own (.L ls)), some (.val d), some (.val (.int j)), none] = some (.nx [some (.own o1), some (.val (.list sg)), some (.val q), some (.val (.int L)), some (.val (.int M)), some (.own (.L (cutD ls none (some (j : Int)) ++ out ++ cutD ls (some ((j : Int) + 1)) none))), some (.val d), some (.val (.int j)), none]) := by
      generalize cutD ls none (some (j : Int)) ++ out ++ cutD ls (some ((j : Int) + 1)) none = R at a2
      simp [ex, e_bin, e_slc, evo, e_var, e_cst, refr, s1, s2, r1, a1, a2, m_add, b_fr]
    simp only [if_true]
    rw [exs, fin]
    simp only [Option.bind_some]
    rw [exs]
    simp only [Option.bind_some]
    rw [exs]
    simp only [Option.bind_some]
    rw [gd_pos (by simp)]
    exact g1
end PT
set_option maxRecDepth 100000
set_option maxHeartbeats 4000000
/-! T7: leaves, whole. -/
namespace PT
open PySem PL
open L2 (Key)
variable {N k : Nat}
theorem s_leaves {Q : Nat → Prop} {sg : List Da} {L M m n : Nat} {o : Ob} (h : Pot m o) (hm : m + n ≤ 10 ^ 9) (hn : n ≤ 100) (hs : ∀ x ∈ sg, S1 Q x) (hs1 : 1 ≤ sg.length) (hs2 : sg.length ≤ 26) (hL : L ≤ 8) (hM : M ≤ 100) : ∃ (ls : List Da) (o' : Ob), run F N (k + 2) 31 [.own o, .val (.list sg), .val (.int n), .val (.int L), .val (.int M)] = some (.fr (.L ls), [some (.own o'), some (.val (.list sg)), some (.val (.int n)), some (.val (.int L)), some (.val (.int M))]) ∧ 1 ≤ ls.length ∧ ls.length ≤ 100 ∧ (∀ x ∈ ls, St Q 1 8 x) ∧ Pot (m + n) o' := by
  obtain ⟨o', ls, y6, y7, g1, g2, g3, g4, g5⟩ := leaf_loop (N := N) (k := k) hs hs1 hs2 hL hM n (intR 0 n) m o sg none none (.int n) [some (.own o), some (.val (.list sg)), some (.val (.int n)), some (.val (.int L)), some (.val (.int M)), some (.own (.L sg)), none, none, none] h hm (rng_len n) hs1 (by omega) (fun x hx => (S1_St (hs x hx)).mono (by omega) (by omega))
  refine ⟨ls, o', ?_, g3, g4, g5, g2⟩
  have hl : bcall .list [RV.val (.list sg)] = some (.fr (.L sg)) := by simp [bcall, RV.dat]
  rw [run_of F_31 rfl (by decide) rfl rfl]
  simp only [f__law_leaves, b__law_leaves, List.map_cons, List.map_nil, List.replicate, List.cons_append, List.nil_append, Nat.reduceSub]
  have c1 : ex (run F N (k + 1)) N [0] (.asg (.nm 5) (.bc .list (.cons (.var 1) .nil))) [some (.own o), some (.val (.list sg)), some (.val (.int n)), some (.val (.int L)), some (.val (.int M)), none, none, none, none] = some (.nx [some (.own o), some (.val (.list sg)), some (.val (.int n)), some (.val (.int L)), some (.val (.int M)), some (.own (.L sg)), none, none, none]) := by
    simp [ex, e_bc, evs, e_var, refr, hl, b_fr]
  have r1 : (-(2 : Int) ^ 62 ≤ n ∧ (n : Int) < 2 ^ 62) := by omega
  have c2 : evi (run F N (k + 1)) (.rng1 (.var 2)) [some (.own o), some (.val (.list sg)), some (.val (.int n)), some (.val (.int L)), some (.val (.int M)), some (.own (.L sg)), none, none, none] = some (intR 0 n, [], [some (.own o), some (.val (.list sg)), some (.val (.int n)), some (.val (.int L)), some (.val (.int M)), some (.own (.L sg)), none, none, none]) := by
    simp only [evi, e_var, List.getElem?_cons_succ, List.getElem?_cons_zero, Option.bind_some]
    rw [gd_pos r1]
    simp
  rw [exs, c1]
  simp only [Option.bind_some]
  rw [exs, ex, c2]
  simp only [Option.bind_some]
  rw [gd_pos (by simp)]
  simp only [Option.bind_some]
  rw [g1]
  obtain ⟨pa, pb, pc, pz, _⟩ := g2
  subst pz
  simp [exs, ex, e_var, PL.finish, retV, gd_pos]
end PT
set_option maxRecDepth 100000
set_option maxHeartbeats 4000000
/-! T8: outlines: the last steps. -/
namespace PT
open PySem PL
open L2 (Key)
variable {N k : Nat}
theorem st_list {Q : Nat → Prop} {lo hi : Nat} : ∀ {l : List Da}, (∀ x ∈ l, St Q lo hi x) → ∃ ss : List Str, l = ss.map PyData.str
  | [], _ => ⟨[], rfl⟩
  | x :: l, h => by
    obtain ⟨cs, _, _, _, e⟩ := h x List.mem_cons_self
    obtain ⟨ss, h2⟩ := st_list fun y hy => h y (List.mem_cons_of_mem _ hy)
    exact ⟨strOf cs :: ss, by rw [e, h2]; rfl⟩
/-- the rows as they lie in slot 4 -/
def R4 (rs : List Da) (x : Option SV) : Prop := x = some (.own (.L rs)) ∨ x = some (.val (.tuple rs))
def enO (o : Ob) (sg : List Da) (L M : Nat) (x4 x5 : Option SV) (here there : Da) (x8 x9 x10 x11 x12 x13 : Option SV) : En := [some (.own o), some (.val (.list sg)), some (.val (.int L)), some (.val (.int M)), x4, x5, some (.val here), some (.val there), x8, x9, x10, x11, x12, x13]
theorem longs {Q : Nat → Prop} {o : Ob} {sg : List Da} {L M : Nat} {x4 x5 : Option SV} {here there : Da} {x8 x10 x11 x12 x13 : Option SV} {rs : List Da} (hr : R4 rs x4) (hst : ∀ x ∈ rs, St Q 1 50 x) (hlen : rs.length ≤ 200) :
    ∃ out : List Da, ev (run F N k) (.comp (.var 9) (.nm 9) (.vals (.var 4)) (.yes (.cmp .LtE (.bc .len (.cons (.var 9) .nil)) (.var 2))) [("row", 9)]) (enO o sg L M x4 x5 here there x8 none x10 x11 x12 x13) = some (.fr (.L out), enO o sg L M x4 x5 here there x8 none x10 x11 x12 x13) ∧ out.length ≤ 200 ∧ ∀ x ∈ out, St Q 1 L x := by
  have hi : ∃ bs : List Nat, (∀ j ∈ bs, j = 4) ∧ evi (run F N k) (.vals (.var 4)) (enO o sg L M x4 x5 here there x8 none x10 x11 x12 x13) = some (rs, bs, enO o sg L M x4 x5 here there x8 none x10 x11 x12 x13) := by
    rcases hr with e | e
    · subst e; exact ⟨[4], by simp, by simp [evi, e_var, enO, RV.dat, boSl]⟩
    · subst e; exact ⟨[], by simp, by simp [evi, e_var, enO, RV.dat, boSl]⟩
  obtain ⟨bs, hb, hi⟩ := hi
  obtain ⟨out, env', g1, g2, g3, g4⟩ := compL_inv (vs := [9]) (bs := bs) (turn := turnQ (run F N k) (.var 9) (.nm 9) (.yes (.cmp .LtE (.bc .len (.cons (.var 9) .nil)) (.var 2)))) (env0 := wipeD (enO o sg L M x4 x5 here there x8 none x10 x11 x12 x13) [9]) (fun _ e => e = wipeD (enO o sg L M x4 x5 here there x8 none x10 x11 x12 x13) [9]) (fun z => St Q 1 L z) (ds := rs) (i := 0) (acc := []) rfl (by simpa using lim8 (show rs.length ≤ 1000 by omega)) (fun j e d hd hI => by
    subst hI
    obtain ⟨w, w1, w2, w3, w4⟩ := St_len (hst d hd) (by omega)
    have k2 : opCmp .LtE (.val (.int w)) (.val (.int L)) = some (decide ((w : Int) ≤ L)) := rfl
    refine ⟨if w ≤ L then some d else none, enO o sg L M x4 x5 here there x8 (some (.val d)) x10 x11 x12 x13, ?_, by simp [wipeD, enO], fun l hl => rfl, fun z hz => ?_⟩
    · by_cases q : w ≤ L
      · simp [turnQ, evq, b_val, wipeD, enO, evt_cmp, e_bc, evs, e_var, refr, w1, k2, RV.frz, RV.dat, q]
      · simp [turnQ, evq, b_val, wipeD, enO, evt_cmp, e_bc, evs, e_var, refr, w1, k2, RV.frz, RV.dat, q]
    · by_cases q : w ≤ L
      · rw [if_pos q] at hz
        cases hz
        exact w4 L q
      · rw [if_neg q] at hz
        cases hz)
  subst g2
  refine ⟨out, ?_, by omega, g3⟩
  rw [e_comp, hi]
  simp only [Option.bind_some]
  rw [gd_pos (show ∀ j ∈ bs, j ∉ [((("row" : Str), 9) : Str × Nat)].map (·.2) by intro j hj; rw [hb j hj]; simp)]
  simp only [Option.bind_some, List.map_cons, List.map_nil]
  rw [g1]
  simp [backD, wipeD, valAt, enO]
/-- the last two steps: filter, unlike, cut -/
theorem cut_to_eq {α : Type} (l : List α) (j : Nat) : (cutD l none (some (j : Int))).length = min j l.length := by
  unfold cutD
  have e : HT.sIx l.length l.length (some (j : Int)) = min j l.length := HT.sIx_nat l.length l.length j
  rw [e, HT.sIx_none, List.length_take, List.length_drop]
  omega
theorem lay_st {Q : Nat → Prop} (hQ : ∀ c, Q c → c ≤ 122) {lo hi : Nat} : ∀ {l : List Da}, (∀ x ∈ l, St Q lo hi x) → PyData.canLayAll0 l = true ∧ PyData.depthAll l ≤ 5
  | [], _ => ⟨rfl, by simp [PyData.depthAll]⟩
  | x :: l, h => by
    obtain ⟨cs, _, _, h3, e⟩ := h x List.mem_cons_self
    obtain ⟨a1, a2⟩ := lay_st hQ fun y hy => h y (List.mem_cons_of_mem _ hy)
    subst e
    have z := sok_s (s := strOf cs) (fun c hc => hQ c (h3 c (by simpa [strOf] using hc)))
    refine ⟨by rw [PyData.canLayAll0, a1]; simp [PyData.canLay0, z], ?_⟩
    simp only [PyData.depthAll, PyData.depth] at a2 ⊢
    omega
theorem ne_nil {Q : Nat → Prop} (hQ : ∀ c, Q c → c ≤ 122) {lo hi i : Nat} {l : List Da} (h : ∀ x ∈ l, St Q lo hi x) : opCmp .NotEq (.bo i (.L l)) (.fr (.L [])) = some (!l.isEmpty) := by
  obtain ⟨a1, a2⟩ := lay_st hQ h
  have e : eqOk (.list l) (.list []) := ⟨by simp only [PyData.canLay0]; exact a1, rfl, by simp only [PyData.depth]; omega, by simp [PyData.depth, PyData.depthAll]⟩
  simp only [opCmp, RV.dat, Option.bind_some]
  have : opEq (.list l) (.list []) = (gd (eqOk (.list l) (.list []))).map fun _ => PyData.eqv (.list l) (.list []) := rfl
  rw [this, gd_pos e]
  cases l <;> simp [PyData.eqv, PyData.eqvAll]
theorem out_end {Q : Nat → Prop} {m : Nat} {o : Ob} {sg : List Da} {L M : Nat} {x4 x5 : Option SV} {here there : Da} {x8 x10 x11 x12 x13 : Option SV} {rs : List Da} (hp : Pot m o) (hr : R4 rs x4) (hst : ∀ x ∈ rs, St Q 1 50 x) (hlen : rs.length ≤ 200) (hL : 1 ≤ L) (hM : 1 ≤ M) (hh : St Q 1 1 here) (hQ : ∀ c, Q c → c ≤ 122) :
    ∃ (out : List Da) (e : En), exs (run F N (k + 1)) N [0] (.cons (.asg (.nm 4) (.call 27 (.cons (.comp (.var 9) (.nm 9) (.vals (.var 4)) (.yes (.cmp .LtE (.bc .len (.cons (.var 9) .nil)) (.var 2))) [("row", 9)]) .nil) [none])) (.cons (.ret (.ite (.cmp .NotEq (.var 4) (.lst .nil)) (.slc (.var 4) .no (.yes (.var 3))) (.lst (.cons (.var 6) .nil)))) .nil)) (enO o sg L M x4 x5 here there x8 none x10 x11 x12 x13) = some (.rt (.fr (.L out)) e) ∧ e.take 4 = [some (.own o), some (.val (.list sg)), some (.val (.int L)), some (.val (.int M))] ∧ (∀ x ∈ out, St Q 1 L x) ∧ 1 ≤ out.length ∧ out.length ≤ M := by
  obtain ⟨l1, g1, g2, g3⟩ := longs (N := N) (k := k + 1) (o := o) (sg := sg) (L := L) (M := M) (x5 := x5) (here := here) (there := there) (x8 := x8) (x10 := x10) (x11 := x11) (x12 := x12) (x13 := x13) hr hst hlen
  obtain ⟨ss, hs⟩ := st_list g3
  subst hs
  rw [List.length_map] at g2
  obtain ⟨U, u1, u2, u3, u4⟩ := s_unlike_s (N := N) (k := k) (l := ss) (by omega)
  have ust : ∀ x ∈ U.map PyData.str, St Q 1 L x := fun x hx => by
    obtain ⟨y, hy, e⟩ := List.mem_map.mp hx
    exact g3 x (List.mem_map.mpr ⟨y, (u3 y).mp hy, e⟩)
  have nlU : ∀ U : List Str, noLists (U.map PyData.str) = true := fun U => by
    induction U with
    | nil => rfl
    | cons x U ih => rw [List.map_cons, noLists, ih]; rfl
  have cc : ex (run F N (k + 1)) N [0] (.asg (.nm 4) (.call 27 (.cons (.comp (.var 9) (.nm 9) (.vals (.var 4)) (.yes (.cmp .LtE (.bc .len (.cons (.var 9) .nil)) (.var 2))) [("row", 9)]) .nil) [none])) (enO o sg L M x4 x5 here there x8 none x10 x11 x12 x13) = some (.nx (enO o sg L M (some (.own (.L (U.map PyData.str)))) x5 here there x8 none x10 x11 x12 x13)) := by
    have nu := nlU U
    unfold enO at g1 ⊢
    simp [ex, e_call, evs, g1, refr, passA, valSl, gd_pos, RV.dat, u1, retOk, obNl, nu, backA, b_fr]
  generalize U.map PyData.str = us at cc ust
  have nn := ne_nil (i := 4) hQ ust
  have l1 : 1 ≤ LIM := lim8 (by omega)
  have cn : evt (run F N (k + 1)) (.cmp .NotEq (.var 4) (.lst .nil)) (enO o sg L M (some (.own (.L us))) x5 here there x8 none x10 x11 x12 x13) = some (!us.isEmpty, enO o sg L M (some (.own (.L us))) x5 here there x8 none x10 x11 x12 x13) := by
    simp [enO, evt_cmp, e_var, e_lst, evs, refr, gd_pos, nn]
  obtain ⟨pa, pb, pc, pz, _⟩ := hp
  subst pz
  rw [exs, cc]
  simp only [Option.bind_some]
  cases us with
  | nil =>
    refine ⟨[here], enO (.L [.int pa, .int pb, .int pc]) sg L M (some (.own (.L []))) x5 here there x8 none x10 x11 x12 x13, ?_, rfl, fun x hx => ?_, by simp, by simpa using hM⟩
    · have c2 : ev (run F N (k + 1)) (.lst (.cons (.var 6) .nil)) (enO (.L [.int pa, .int pb, .int pc]) sg L M (some (.own (.L []))) x5 here there x8 none x10 x11 x12 x13) = some (.fr (.L [here]), enO (.L [.int pa, .int pb, .int pc]) sg L M (some (.own (.L []))) x5 here there x8 none x10 x11 x12 x13) := by
        simp [enO, e_lst, evs, e_var, refr, RV.frz, RV.dat, gd_pos, l1]
      rw [exs, ex, e_ite, cn]
      simp [c2]
    · rw [List.mem_singleton.mp hx]
      exact hh.mono (Nat.le_refl _) hL
  | cons x us =>
    refine ⟨cutD (x :: us) none (some (M : Int)), enO (.L [.int pa, .int pb, .int pc]) sg L M (some (.own (.L (x :: us)))) x5 here there x8 none x10 x11 x12 x13, ?_, rfl, fun y hy => ust y (cut_mem hy), ?_, cut_to _ _⟩
    · have c2 : ev (run F N (k + 1)) (.slc (.var 4) .no (.yes (.var 3))) (enO (.L [.int pa, .int pb, .int pc]) sg L M (some (.own (.L (x :: us)))) x5 here there x8 none x10 x11 x12 x13) = some (.fr (.L (cutD (x :: us) none (some (M : Int)))), enO (.L [.int pa, .int pb, .int pc]) sg L M (some (.own (.L (x :: us)))) x5 here there x8 none x10 x11 x12 x13) := by
        have s1 : opSlc (.bo 4 (.L (x :: us))) none (some (M : Int)) = some (.fr (.L (cutD (x :: us) none (some (M : Int))))) := rfl
        simp [enO, e_slc, evo, e_var, refr, s1]
      rw [exs, ex, e_ite, cn]
      simp [c2]
    · rw [cut_to_eq, List.length_cons]
      omega
end PT
set_option maxRecDepth 100000
set_option maxHeartbeats 4000000
/-! T9: outlines: the branches. -/
namespace PT
open PySem PL
open L2 (Key)
variable {N k : Nat}
theorem join_str (a b : Da) {Q : Nat → Prop} {l h : Nat} (hb : ∃ cs : List Nat, cs.length ≤ h ∧ (∀ c ∈ cs, Q c) ∧ b = .str (strOf cs)) (ha : St Q 1 l a) (hh : l + h ≤ 50) : ∃ c : Da, opBin .Add (.val a) (.val b) = some (.val c) ∧ St Q 1 50 c := by
  obtain ⟨cs, h1, h2, h3⟩ := hb
  obtain ⟨c, c1, c2⟩ := St_add (Q := Q) ha (show St Q 0 h b from ⟨cs, Nat.zero_le _, h1, h2, h3⟩) (by omega)
  exact ⟨c, c1, c2.mono (by omega) (by omega)⟩
/-- way 0, 1: rows of drawn signs -/
theorem br0 {Q : Nat → Prop} {m : Nat} {o : Ob} {sg : List Da} {L M : Nat} {x5 : Option SV} {here there : Da} (hp : Pot m o) (hm : m + 2000 ≤ 10 ^ 9) (hs : ∀ x ∈ sg, S1 Q x) (hs1 : 1 ≤ sg.length) (hs2 : sg.length ≤ 26) (hL : 1 ≤ L) (hL2 : L ≤ 8) (hM : 1 ≤ M) (hM2 : M ≤ 10) :
    ∃ (o' : Ob) (rs : List Da), ex (run F N (k + 4)) N [0] (.asg (.nm 4) (.comp (.bin .Add (.call 25 (.cons (.var 0) (.cons (.var 1) .nil)) [some 0, none]) (.call 30 (.cons (.var 0) (.cons (.var 1) (.cons (.bin .Sub (.var 2) (.cst (PyData.int 1))) .nil))) [some 0, none, none])) (.nm 8) (.rng1 (.bin .Add (.cst (PyData.int 1)) (.call 24 (.cons (.var 0) (.cons (.var 3) .nil)) [some 0, none]))) .no [("lap", 8)])) (enO o sg L M none x5 here there none none none none none none) = some (.nx (enO o' sg L M (some (.own (.L rs))) x5 here there none none none none none none)) ∧ Pot (m + 2000) o' ∧ (∀ x ∈ rs, St Q 1 50 x) ∧ rs.length ≤ 200 := by
  obtain ⟨n, o1, a, hn, hp1⟩ := s_take (N := N) (k := k + 3) (u := M) hp (by omega) (by omega) (by omega)
  have hit : evi (run F N (k + 4)) (.rng1 (.bin .Add (.cst (PyData.int 1)) (.call 24 (.cons (.var 0) (.cons (.var 3) .nil)) [some 0, none]))) (enO o sg L M none x5 here there none none none none none none) = some (intR 0 (1 + n), [], enO o1 sg L M none x5 here there none none none none none none) := by
    have cc : ev (run F N (k + 4)) (.bin .Add (.cst (PyData.int 1)) (.call 24 (.cons (.var 0) (.cons (.var 3) .nil)) [some 0, none])) (enO o sg L M none x5 here there none none none none none none) = some (.val (.int (1 + (n : Int))), enO o1 sg L M none x5 here there none none none none none none) := by
      simp [enO, e_call, e_bin, evs, e_var, e_cst, refr, m_add, passA, valSl, gd_pos, a, retOk, noList, backA, nl_pot hp1, RV.dat]
    simp only [evi, cc, Option.bind_some]
    rw [gd_pos (by omega)]
    have : ((1 : Int) + n).toNat = 1 + n := by omega
    rw [this]
    rfl
  obtain ⟨out, env', g1, ⟨o2, g2, g3⟩, g4, g5⟩ := comp_inv2 (C := run F N (k + 4)) (elt := .bin .Add (.call 25 (.cons (.var 0) (.cons (.var 1) .nil)) [some 0, none]) (.call 30 (.cons (.var 0) (.cons (.var 1) (.cons (.bin .Sub (.var 2) (.cst (PyData.int 1))) .nil))) [some 0, none, none])) (tg := .nm 8) (cs := .no) (own := [("lap", 8)]) (fun j e => ∃ o2, Pot (m + 1 + 20 * j) o2 ∧ e = enO o2 sg L M none x5 here there none none none none none none) (fun _ z => St Q 1 50 z) hit (by simp) (by rw [rng_len]; exact lim8 (by omega)) ⟨o1, hp1, by simp [wipeD, enO]⟩ (fun j e d hd hj hI => by
    rw [rng_len] at hj
    obtain ⟨o2, q1, q2⟩ := hI
    subst q2
    obtain ⟨x, o3, w1, w2, w3⟩ := s_of (N := N) (k := k + 2) (v := .list sg) (xs := sg) q1 (by omega) rfl hs1 (by omega)
    have sx := hs x w2
    obtain ⟨cs, o4, v1, v2, v3, v4⟩ := s_row (N := N) (k := k + 1) (Q := Q) (u := L - 1) (v := .list sg) (xs := sg) w3 (by omega) rfl hs1 (by omega) (by omega) hs
    obtain ⟨c, c1, c2⟩ := join_str (Q := Q) x (.str (strOf cs)) ⟨cs, v2, v3, rfl⟩ (S1_St sx) (by omega)
    have eL : (L : Int) - 1 = ((L - 1 : Nat) : Int) := by omega
    refine ⟨c, enO o4 sg L M none x5 here there (some (.val d)) none none none none none, ?_, ⟨o4, v4.mono (by omega), by simp [wipeD, enO]⟩, by simp, c2⟩
    obtain ⟨c', _, hc'⟩ := sx
    subst hc'
    rw [← eL] at v1
    simp [turnQ, evq, b_val, enO, e_bin, e_call, evs, e_var, e_cst, refr, m_sub, passA, valSl, gd_pos, w1, v1, c1, retOk, noList, backA, nl_pot w3, nl_pot v4, RV.dat, RV.frz])
  subst g3
  rw [rng_len] at g2 g5
  refine ⟨o2, out, ?_, g2.mono (by omega), fun x hx => (g4 x hx).elim fun _ h => h.2, by omega⟩
  have bk : backD (enO o1 sg L M none x5 here there none none none none none none) (enO o2 sg L M none x5 here there none none none none none none) [8] = enO o2 sg L M none x5 here there none none none none none none := by
    simp [backD, valAt, enO]
  simp only [List.map_cons, List.map_nil, bk] at g1
  rw [ex, g1]
  simp [b_fr, enO]
end PT
set_option maxRecDepth 100000
set_option maxHeartbeats 4000000
/-! T10: outlines: ways 2 and 3. -/
namespace PT
open PySem PL
open L2 (Key)
variable {N k : Nat}
theorem St_rev {Q : Nat → Prop} {lo hi : Nat} {d : Da} (h : St Q lo hi d) (hh : hi ≤ 1000) : ∃ c : Da, opRev (.val d) = some (.val c) ∧ St Q lo hi c := by
  obtain ⟨cs, a1, a2, a3, e⟩ := h
  subst e
  refine ⟨.str (strOf cs.reverse), ?_, cs.reverse, by simpa using a1, by simpa using a2, fun c hc => a3 c (by simpa using hc), rfl⟩
  have e : (strOf cs).length = cs.length := by simp [strOf, Str.length]
  simp only [opRev, RV.dat]
  rw [e, gd_pos (lim8 (by omega))]
  simp [strOf]
theorem st_nl {Q : Nat → Prop} {lo hi : Nat} : ∀ {l : List Da}, (∀ x ∈ l, St Q lo hi x) → noLists l = true
  | [], _ => rfl
  | x :: l, h => by
    obtain ⟨cs, _, _, _, e⟩ := h x List.mem_cons_self
    rw [noLists, st_nl fun y hy => h y (List.mem_cons_of_mem _ hy), e]; rfl
/-- the leaves, and some of them -/
theorem br2 {Q : Nat → Prop} {m : Nat} {o : Ob} {sg : List Da} {L M : Nat} {x5 : Option SV} {here there : Da} (hp : Pot m o) (hm : m + 2000 ≤ 10 ^ 9) (hs : ∀ x ∈ sg, S1 Q x) (hs1 : 1 ≤ sg.length) (hs2 : sg.length ≤ 26) (hL : 1 ≤ L) (hL2 : L ≤ 8) (hM : 1 ≤ M) (hM2 : M ≤ 10) :
    ∃ (o' : Ob) (rs : List Da), ex (run F N (k + 4)) N [0] (.asg (.nm 4) (.call 31 (.cons (.var 0) (.cons (.var 1) (.cons (.bin .Add (.cst (PyData.int 1)) (.call 24 (.cons (.var 0) (.cons (.cst (PyData.int 4)) .nil)) [some 0, none])) (.cons (.var 2) (.cons (.bin .Add (.var 3) (.cst (PyData.int 1))) .nil))))) [some 0, none, none, none, none])) (enO o sg L M none x5 here there none none none none none none) = some (.nx (enO o' sg L M (some (.own (.L rs))) x5 here there none none none none none none)) ∧ Pot (m + 50) o' ∧ (∀ x ∈ rs, St Q 1 8 x) ∧ 1 ≤ rs.length ∧ rs.length ≤ 100 := by
  obtain ⟨n, o1, a, hn, hp1⟩ := s_take (N := N) (k := k + 3) (u := 4) hp (by omega) (by omega) (by omega)
  obtain ⟨ls, o2, b, b1, b2, b3, b4⟩ := s_leaves (N := N) (k := k + 2) (Q := Q) (sg := sg) (L := L) (M := M + 1) (n := 1 + n) hp1 (by omega) (by omega) hs hs1 hs2 hL2 (by omega)
  have e1 : ((1 + n : Nat) : Int) = 1 + (n : Int) := by omega
  have e2 : ((M + 1 : Nat) : Int) = (M : Int) + 1 := by omega
  rw [e1, e2] at b
  have a' : run F N (k + 4) 24 [.own o, .val (.int 4)] = some (.val (.int n), [some (.own o1), some (.val (.int 4))]) := a
  refine ⟨o2, ls, ?_, b4.mono (by omega), b3, b1, b2⟩
  have nl : obNl (.L ls) = true := st_nl b3
  simp [ex, enO, e_call, e_bin, evs, e_var, e_cst, refr, m_add, passA, valSl, gd_pos, a', b, retOk, noList, nl, backA, nl_pot hp1, nl_pot b4, RV.dat, b_fr]
theorem br2b {Q : Nat → Prop} {m : Nat} {o : Ob} {sg ls : List Da} {L M : Nat} {x5 : Option SV} {here there : Da} (hp : Pot m o) (hm : m + 2000 ≤ 10 ^ 9) (hls : ∀ x ∈ ls, St Q 1 8 x) (h1 : 1 ≤ ls.length) (h2 : ls.length ≤ 100) (hM : 1 ≤ M) (hM2 : M ≤ 10) :
    ∃ (o' : Ob) (rs : List Da), ex (run F N (k + 4)) N [0] (.asg (.nm 4) (.call 29 (.cons (.var 0) (.cons (.var 4) (.cons (.bc .max (.cons (.cst (PyData.int 1)) (.cons (.bc .min (.cons (.var 3) (.cons (.bin .Sub (.bc .len (.cons (.var 4) .nil)) (.call 24 (.cons (.var 0) (.cons (.cst (PyData.int 2)) .nil)) [some 0, none])) .nil))) .nil))) .nil))) [some 0, none, none])) (enO o sg L M (some (.own (.L ls))) x5 here there none none none none none none) = some (.nx (enO o' sg L M (some (.own (.L rs))) x5 here there none none none none none none)) ∧ Pot (m + 20) o' ∧ (∀ x ∈ rs, St Q 1 8 x) ∧ rs.length ≤ 100 := by
  obtain ⟨n, o1, a, hn, hp1⟩ := s_take (N := N) (k := k + 3) (u := 2) hp (by omega) (by omega) (by omega)
  have a' : run F N (k + 4) 24 [.own o, .val (.int 2)] = some (.val (.int n), [some (.own o1), some (.val (.int 2))]) := a
  have hln : bcall .len [RV.bo 4 (.L ls)] = some (.val (.int ls.length)) := by simp [bcall, RV.dat]
  have hmin : bcall .min [.val (.int M), .val (.int ((ls.length : Int) - n))] = some (.val (.int (if (ls.length : Int) - n < M then (ls.length : Int) - n else M))) := rfl
  have b1 : (if (ls.length : Int) - n < M then (ls.length : Int) - n else M) ≤ ls.length ∧ (if (ls.length : Int) - n < M then (ls.length : Int) - n else M) ≤ M := by split <;> omega
  generalize (if (ls.length : Int) - n < M then (ls.length : Int) - n else M) = i at hmin b1
  have hmax : bcall .max [.val (.int 1), .val (.int i)] = some (.val (.int (if i > 1 then i else 1))) := rfl
  have b2 : 1 ≤ (if i > 1 then i else 1) ∧ (if i > 1 then i else 1) ≤ ls.length ∧ (if i > 1 then i else 1) ≤ 10 := by split <;> omega
  generalize (if i > 1 then i else 1) = j at hmax b2
  obtain ⟨J, hJ⟩ : ∃ J : Nat, j = (J : Int) := ⟨j.toNat, by omega⟩
  subst hJ
  obtain ⟨ys, o2, c, c1, c2, c3⟩ := s_some (N := N) (k := k + 2) (P := St Q 1 8) (n := J) (v := .list ls) (xs := ls) hp1 (by omega) rfl (by omega) (by omega) hls
  refine ⟨o2, ys, ?_, c3.mono (by omega), c2, by omega⟩
  have nl : obNl (.L ys) = true := st_nl c2
  simp [ex, enO, e_call, e_bin, e_bc, evs, e_var, e_cst, refr, m_sub, hln, hmin, hmax, passA, valSl, gd_pos, a', c, retOk, noList, nl, backA, nl_pot hp1, nl_pot c3, RV.dat, b_fr]
end PT
set_option maxRecDepth 100000
set_option maxHeartbeats 4000000
/-! T11: outlines: rows turned. -/
namespace PT
open PySem PL
open L2 (Key)
variable {N k : Nat}
theorem br2c {Q : Nat → Prop} {o : Ob} {sg ls : List Da} {L M w : Nat} {here there : Da} (hls : ∀ x ∈ ls, St Q 1 8 x) (h2 : ls.length ≤ 100) :
    ∃ (rs : List Da), ex (run F N k) N [0] (.asg (.nm 4) (.ite (.cmp .Eq (.var 5) (.cst (PyData.int 3))) (.comp (.rev (.var 9)) (.nm 9) (.vals (.var 4)) .no [("row", 9)]) (.var 4))) (enO o sg L M (some (.own (.L ls))) (some (.val (.int w))) here there none none none none none none) = some (.nx (enO o sg L M (some (.own (.L rs))) (some (.val (.int w))) here there none none none none none none)) ∧ (∀ x ∈ rs, St Q 1 8 x) ∧ rs.length ≤ 100 := by
  have ct : evt (run F N k) (.cmp .Eq (.var 5) (.cst (PyData.int 3))) (enO o sg L M (some (.own (.L ls))) (some (.val (.int w))) here there none none none none none none) = some (decide ((w : Int) = 3), enO o sg L M (some (.own (.L ls))) (some (.val (.int w))) here there none none none none none none) := by
    simp [enO, evt_cmp, e_var, e_cst, refr, opCmp, RV.dat, opEq]
  by_cases hw : (w : Int) = 3
  · obtain ⟨out, env', r1, r2, r3, r4⟩ := comp_inv2 (C := run F N k) (elt := .rev (.var 9)) (tg := .nm 9) (cs := .no) (own := [("row", 9)]) (it := .vals (.var 4)) (ds := ls) (bs := [4]) (env1 := enO o sg L M (some (.own (.L ls))) (some (.val (.int w))) here there none none none none none none) (env := enO o sg L M (some (.own (.L ls))) (some (.val (.int w))) here there none none none none none none) (fun _ e => e = enO o sg L M (some (.own (.L ls))) (some (.val (.int w))) here there none none none none none none) (fun _ z => St Q 1 8 z) (by simp [evi, e_var, enO, RV.dat, boSl]) (by simp) (lim8 (by omega)) (by simp [wipeD, enO]) (fun i e x hx hi hI => by
      subst hI
      obtain ⟨c, c1, c2⟩ := St_rev (hls x hx) (by omega)
      refine ⟨c, enO o sg L M (some (.own (.L ls))) (some (.val (.int w))) here there none (some (.val x)) none none none none, ?_, by simp [wipeD, enO], by simp [wipeD, enO], c2⟩
      simp [turnQ, evq, b_val, enO, e_rev, e_var, c1, RV.frz, RV.dat])
    subst r2
    refine ⟨out, ?_, fun x hx => (r3 x hx).elim fun _ h => h.2, by omega⟩
    have bk : backD (enO o sg L M (some (.own (.L ls))) (some (.val (.int w))) here there none none none none none none) (enO o sg L M (some (.own (.L ls))) (some (.val (.int w))) here there none none none none none none) [9] = enO o sg L M (some (.own (.L ls))) (some (.val (.int w))) here there none none none none none none := by
      simp [backD, valAt, enO]
    simp only [List.map_cons, List.map_nil, bk] at r1
    rw [decide_eq_true hw] at ct
    rw [ex, e_ite, ct]
    simp only [Option.bind_some, if_true]
    rw [r1]
    simp [b_fr, enO]
  · refine ⟨ls, ?_, hls, h2⟩
    rw [decide_eq_false hw] at ct
    rw [ex, e_ite, ct]
    simp [e_var, b_bo, enO]
end PT
set_option maxRecDepth 100000
set_option maxHeartbeats 4000000
/-! T12: outlines: way 4. -/
namespace PT
open PySem PL
open L2 (Key)
variable {N k : Nat}
theorem st_noList {Q : Nat → Prop} {lo hi : Nat} {d : Da} (h : St Q lo hi d) : noList d = true := by
  obtain ⟨cs, _, _, _, e⟩ := h
  rw [e]; rfl
/-- a pair of rows -/
def Pr (Q : Nat → Prop) (d : Da) : Prop := ∃ x y : Da, d = .tuple [x, y] ∧ St Q 1 2 x ∧ St Q 1 2 y
theorem br4 {Q : Nat → Prop} {m : Nat} {o : Ob} {sg : List Da} {L M : Nat} {x5 : Option SV} {here there : Da} (hp : Pot m o) (hm : m + 2000 ≤ 10 ^ 9) (hh : St Q 1 1 here) (ht : St Q 1 1 there) :
    ∃ (o' : Ob) (rs : List Da) (x10 x11 : Option SV), exs (run F N (k + 4)) N [0] (.cons (.asg (.tp (.cons (.nm 10) (.cons (.nm 11) .nil))) (.call 25 (.cons (.var 0) (.cons (.lst (.cons (.tup (.cons (.var 6) (.cons (.bin .Add (.var 7) (.var 6)) .nil))) (.cons (.tup (.cons (.bin .Add (.var 6) (.var 7)) (.cons (.var 7) .nil))) (.cons (.tup (.cons (.bin .Add (.var 6) (.var 6)) (.cons (.bin .Add (.var 6) (.var 7)) .nil))) (.cons (.tup (.cons (.var 6) (.cons (.bin .Add (.var 7) (.var 7)) .nil))) .nil))))) .nil)) [some 0, none])) (.cons (.asg (.nm 4) (.slc (.lst (.cons (.var 10) (.cons (.var 11) (.cons (.bin .Add (.var 10) (.var 11)) (.cons (.bin .Add (.var 11) (.var 10)) (.cons (.bin .Add (.var 11) (.var 11)) .nil)))))) .no (.yes (.bin .Add (.cst (PyData.int 1)) (.call 24 (.cons (.var 0) (.cons (.cst (PyData.int 5)) .nil)) [some 0, none]))))) .nil)) (enO o sg L M none x5 here there none none none none none none) = some (.nx (enO o' sg L M (some (.own (.L rs))) x5 here there none none x10 x11 none none)) ∧ Pot (m + 10) o' ∧ (∀ x ∈ rs, St Q 1 50 x) ∧ rs.length ≤ 200 := by
  obtain ⟨th, th1, th2⟩ := St_add ht hh (by omega)
  obtain ⟨h_t, ht1, ht2⟩ := St_add hh ht (by omega)
  obtain ⟨h_h, hh1, hh2⟩ := St_add hh hh (by omega)
  obtain ⟨tt, tt1, tt2⟩ := St_add ht ht (by omega)
  have l2 : 2 ≤ LIM := lim8 (by omega)
  have l4 : 4 ≤ LIM := lim8 (by omega)
  have l5 : 5 ≤ LIM := lim8 (by omega)
  obtain ⟨p, o1, a, pa, hp1⟩ := s_of (N := N) (k := k + 2) (v := .list [.tuple [here, th], .tuple [h_t, there], .tuple [h_h, h_t], .tuple [here, tt]]) (xs := [.tuple [here, th], .tuple [h_t, there], .tuple [h_h, h_t], .tuple [here, tt]]) hp (by omega) rfl (by simp) (by simp)
  have pp : Pr Q p := by
    simp only [List.mem_cons, List.not_mem_nil, or_false] at pa
    rcases pa with e | e | e | e
    · exact ⟨_, _, e, hh.mono (by omega) (by omega), th2.mono (by omega) (by omega)⟩
    · exact ⟨_, _, e, ht2.mono (by omega) (by omega), ht.mono (by omega) (by omega)⟩
    · exact ⟨_, _, e, hh2.mono (by omega) (by omega), ht2.mono (by omega) (by omega)⟩
    · exact ⟨_, _, e, hh.mono (by omega) (by omega), tt2.mono (by omega) (by omega)⟩
  obtain ⟨x, y, e, px, py⟩ := pp
  subst e
  obtain ⟨xy, xy1, xy2⟩ := St_add px py (by omega)
  obtain ⟨yx, yx1, yx2⟩ := St_add py px (by omega)
  obtain ⟨yy, yy1, yy2⟩ := St_add py py (by omega)
  obtain ⟨n, o2, b, hn, hp2⟩ := s_take (N := N) (k := k + 3) (u := 5) hp1 (by omega) (by omega) (by omega)
  have b' : run F N (k + 4) 24 [.own o1, .val (.int 5)] = some (.val (.int n), [some (.own o2), some (.val (.int 5))]) := b
  have nx := st_noList px
  have ny := st_noList py
  refine ⟨o2, cutD [x, y, xy, yx, yy] none (some (1 + (n : Int))), some (.val x), some (.val y), ?_, hp2.mono (by omega), fun z hz => ?_, Nat.le_trans (cut_len _ _ _) (by simp)⟩
  · have c1 : ex (run F N (k + 4)) N [0] (.asg (.tp (.cons (.nm 10) (.cons (.nm 11) .nil))) (.call 25 (.cons (.var 0) (.cons (.lst (.cons (.tup (.cons (.var 6) (.cons (.bin .Add (.var 7) (.var 6)) .nil))) (.cons (.tup (.cons (.bin .Add (.var 6) (.var 7)) (.cons (.var 7) .nil))) (.cons (.tup (.cons (.bin .Add (.var 6) (.var 6)) (.cons (.bin .Add (.var 6) (.var 7)) .nil))) (.cons (.tup (.cons (.var 6) (.cons (.bin .Add (.var 7) (.var 7)) .nil))) .nil))))) .nil)) [some 0, none])) (enO o sg L M none x5 here there none none none none none none) = some (.nx (enO o1 sg L M none x5 here there none none (some (.val x)) (some (.val y)) none none)) := by
      simp [ex, enO, e_call, e_lst, e_tup, e_bin, evs, e_var, refr, th1, ht1, hh1, tt1, passA, valSl, gd_pos, l2, l4, a, retOk, noList, noLists, nx, ny, backA, nl_pot hp1, RV.dat, RV.frz, b_tp, bindTs, b_val]
    have s1 : opSlc (.fr (.L [x, y, xy, yx, yy])) none (some (1 + (n : Int))) = some (.fr (.L (cutD [x, y, xy, yx, yy] none (some (1 + (n : Int)))))) := rfl
    rw [exs, c1]
    simp only [Option.bind_some]
    generalize cutD [x, y, xy, yx, yy] none (some (1 + (n : Int))) = R at s1
    simp [exs, ex, enO, e_slc, evo, e_call, e_lst, e_bin, evs, e_var, e_cst, refr, xy1, yx1, yy1, m_add, passA, valSl, gd_pos, l5, b', retOk, noList, backA, nl_pot hp2, RV.dat, RV.frz, s1, b_fr]
  · have := cut_mem hz
    simp only [List.mem_cons, List.not_mem_nil, or_false] at this
    rcases this with e | e | e | e | e <;> subst e
    · exact px.mono (by omega) (by omega)
    · exact py.mono (by omega) (by omega)
    · exact xy2.mono (by omega) (by omega)
    · exact yx2.mono (by omega) (by omega)
    · exact yy2.mono (by omega) (by omega)
end PT
set_option maxRecDepth 100000
set_option maxHeartbeats 4000000
/-! T13: outlines: way 5. -/
namespace PT
open PySem PL
open L2 (Key)
variable {N k : Nat}
theorem rep_len (cs : List Nat) : ∀ n : Nat, (List.replicate n cs).flatten.length = n * cs.length
  | 0 => by simp
  | n + 1 => by rw [List.replicate_succ, List.flatten_cons, List.length_append, rep_len cs n, Nat.succ_mul, Nat.add_comm]
theorem St_mul {Q : Nat → Prop} {d : Da} (h : St Q 1 1 d) {n : Nat} (h1 : 1 ≤ n) (h2 : n ≤ 5) : ∃ c : Da, opBin .Mult (.val d) (.val (.int n)) = some (.val c) ∧ St Q 1 50 c := by
  obtain ⟨cs, a1, a2, a3, e⟩ := h
  subst e
  have el : (strOf cs).length = cs.length := by simp [strOf, Str.length]
  refine ⟨.str (strOf (List.replicate n cs).flatten), ?_, (List.replicate n cs).flatten, ?_, ?_, fun c hc => ?_, rfl⟩
  · have h3 : (0 : Int) ≤ (n : Int) ∧ (strOf cs).length * (n : Int).toNat ≤ LIM ∧ (n : Int) ≤ LIM := by
      rw [el]
      have : cs.length * n ≤ 1 * 5 := Nat.mul_le_mul a2 h2
      refine ⟨by omega, lim8 (by simp; omega), ?_⟩
      have := lim8 (show n ≤ 1000 by omega)
      omega
    simp only [opBin]
    rw [gd_pos h3]
    simp [strOf]
  · rw [rep_len]
    have := Nat.mul_le_mul h1 a1
    omega
  · rw [rep_len]
    have := Nat.mul_le_mul h2 a2
    omega
  · obtain ⟨l, hl, hc⟩ := List.mem_flatten.mp hc
    rw [List.eq_of_mem_replicate hl] at hc
    exact a3 c hc
def Sm (d : Da) : Prop := ∃ n : Nat, 1 ≤ n ∧ n ≤ 5 ∧ d = .int n
theorem sm_nl : ∀ {l : List Da}, (∀ x ∈ l, Sm x) → noLists l = true
  | [], _ => rfl
  | x :: l, h => by
    obtain ⟨n, _, _, e⟩ := h x List.mem_cons_self
    rw [noLists, sm_nl fun y hy => h y (List.mem_cons_of_mem _ hy), e]; rfl
theorem br5 {Q : Nat → Prop} {m : Nat} {o : Ob} {sg : List Da} {L M : Nat} {x5 : Option SV} {here there : Da} (hp : Pot m o) (hm : m + 2000 ≤ 10 ^ 9) (hh : St Q 1 1 here) :
    ∃ (o' : Ob) (rs : List Da), exs (run F N (k + 4)) N [0] (.cons (.asg (.nm 4) (.comp (.bin .Mult (.var 6) (.var 13)) (.nm 13) (.vals (.call 29 (.cons (.var 0) (.cons (.lst (.cons (.cst (PyData.int 1)) (.cons (.cst (PyData.int 2)) (.cons (.cst (PyData.int 3)) (.cons (.cst (PyData.int 4)) (.cons (.cst (PyData.int 5)) .nil)))))) (.cons (.bin .Add (.cst (PyData.int 1)) (.call 24 (.cons (.var 0) (.cons (.cst (PyData.int 3)) .nil)) [some 0, none])) .nil))) [some 0, none, none])) .no [("size", 13)])) .nil) (enO o sg L M none x5 here there none none none none none none) = some (.nx (enO o' sg L M (some (.own (.L rs))) x5 here there none none none none none none)) ∧ Pot (m + 10) o' ∧ (∀ x ∈ rs, St Q 1 50 x) ∧ rs.length ≤ 200 := by
  have l5 : 5 ≤ LIM := lim8 (by omega)
  obtain ⟨n, o1, a, hn, hp1⟩ := s_take (N := N) (k := k + 3) (u := 3) hp (by omega) (by omega) (by omega)
  have a' : run F N (k + 4) 24 [.own o, .val (.int 3)] = some (.val (.int n), [some (.own o1), some (.val (.int 3))]) := a
  obtain ⟨ys, o2, b, b1, b2, hp2⟩ := s_some (N := N) (k := k + 2) (P := Sm) (n := 1 + n) (v := .list [.int 1, .int 2, .int 3, .int 4, .int 5]) (xs := [.int 1, .int 2, .int 3, .int 4, .int 5]) hp1 (by omega) rfl (by simp; omega) (by simp) (by
    intro x hx
    simp only [List.mem_cons, List.not_mem_nil, or_false] at hx
    rcases hx with e | e | e | e | e
    · exact ⟨1, by omega, by omega, e⟩
    · exact ⟨2, by omega, by omega, e⟩
    · exact ⟨3, by omega, by omega, e⟩
    · exact ⟨4, by omega, by omega, e⟩
    · exact ⟨5, by omega, by omega, e⟩)
  have e1 : ((1 + n : Nat) : Int) = 1 + (n : Int) := by omega
  rw [e1] at b
  have nl : obNl (.L ys) = true := sm_nl b2
  have hit : evi (run F N (k + 4)) (.vals (.call 29 (.cons (.var 0) (.cons (.lst (.cons (.cst (PyData.int 1)) (.cons (.cst (PyData.int 2)) (.cons (.cst (PyData.int 3)) (.cons (.cst (PyData.int 4)) (.cons (.cst (PyData.int 5)) .nil)))))) (.cons (.bin .Add (.cst (PyData.int 1)) (.call 24 (.cons (.var 0) (.cons (.cst (PyData.int 3)) .nil)) [some 0, none])) .nil))) [some 0, none, none])) (enO o sg L M none x5 here there none none none none none none) = some (ys, [], enO o2 sg L M none x5 here there none none none none none none) := by
    simp [evi, enO, e_call, e_lst, e_bin, evs, e_var, e_cst, refr, m_add, passA, valSl, gd_pos, l5, a', b, retOk, noList, nl, backA, nl_pot hp1, nl_pot hp2, RV.dat, RV.frz, boSl]
  obtain ⟨out, env', r1, r2, r3, r4⟩ := comp_inv2 (C := run F N (k + 4)) (elt := .bin .Mult (.var 6) (.var 13)) (tg := .nm 13) (cs := .no) (own := [("size", 13)]) (fun _ e => e = enO o2 sg L M none x5 here there none none none none none none) (fun _ z => St Q 1 50 z) hit (by simp) (lim8 (by omega)) (by simp [wipeD, enO]) (fun i e x hx hi hI => by
    subst hI
    obtain ⟨v, v1, v2, e⟩ := b2 x hx
    subst e
    obtain ⟨c, c1, c2⟩ := St_mul hh v1 v2
    refine ⟨c, enO o2 sg L M none x5 here there none none none none none (some (.val (.int v))), ?_, by simp [wipeD, enO], by simp, c2⟩
    simp [turnQ, evq, b_val, enO, e_bin, e_var, refr, c1, RV.frz, RV.dat])
  subst r2
  refine ⟨o2, out, ?_, hp2.mono (by omega), fun x hx => (r3 x hx).elim fun _ h => h.2, by omega⟩
  have bk : backD (enO o2 sg L M none x5 here there none none none none none none) (enO o2 sg L M none x5 here there none none none none none none) [13] = enO o2 sg L M none x5 here there none none none none none none := by
    simp [backD, valAt, enO]
  simp only [List.map_cons, List.map_nil, bk] at r1
  rw [exs, ex, r1]
  simp [b_fr, enO, exs]
end PT
set_option maxRecDepth 100000
set_option maxHeartbeats 4000000
/-! T14: outlines: the last way. -/
namespace PT
open PySem PL
open L2 (Key)
variable {N k : Nat}
/-- two or three rows -/
def Pk (Q : Nat → Prop) (d : Da) : Prop := ∃ xs : List Da, d = .tuple xs ∧ (∀ x ∈ xs, St Q 1 50 x) ∧ xs.length ≤ 200
theorem m_addL {i : Nat} {xs ys : List Da} (h : xs.length + ys.length ≤ LIM) : opBin .Add (.bo i (.L xs)) (.fr (.L ys)) = some (.fr (.L (xs ++ ys))) := by
  simp only [opBin]
  rw [gd_pos h]; rfl
theorem br6 {Q : Nat → Prop} {m : Nat} {o : Ob} {sg : List Da} {L M : Nat} {x5 : Option SV} {here there : Da} (hp : Pot m o) (hm : m + 2000 ≤ 10 ^ 9) (hh : St Q 1 1 here) (ht : St Q 1 1 there) :
    ∃ (o' : Ob) (rs : List Da) (x12 : Option SV), exs (run F N (k + 4)) N [0] (.cons (.asg (.nm 12) (.lst (.cons (.tup (.cons (.var 6) (.cons (.bin .Add (.var 6) (.var 7)) (.cons (.bin .Add (.var 7) (.var 6)) .nil)))) (.cons (.tup (.cons (.var 6) (.cons (.bin .Add (.var 6) (.var 7)) (.cons (.bin .Add (.var 7) (.var 7)) .nil)))) (.cons (.tup (.cons (.var 6) (.cons (.bin .Add (.var 6) (.var 6)) .nil))) .nil))))) (.cons (.asg (.nm 12) (.bin .Add (.var 12) (.lst (.cons (.tup (.cons (.bin .Add (.var 6) (.var 7)) (.cons (.bin .Add (.bin .Add (.var 6) (.var 7)) (.var 7)) (.cons (.bin .Add (.bin .Add (.var 7) (.var 6)) (.var 7)) .nil)))) (.cons (.tup (.cons (.bin .Add (.var 6) (.var 7)) (.cons (.bin .Add (.bin .Add (.var 6) (.var 7)) (.var 6)) (.cons (.bin .Add (.var 7) (.var 6)) .nil)))) .nil))))) (.cons (.asg (.nm 4) (.call 25 (.cons (.var 0) (.cons (.var 12) .nil)) [some 0, none])) .nil))) (enO o sg L M none x5 here there none none none none none none) = some (.nx (enO o' sg L M (some (.val (.tuple rs))) x5 here there none none none none x12 none)) ∧ Pot (m + 10) o' ∧ (∀ x ∈ rs, St Q 1 50 x) ∧ rs.length ≤ 200 := by
  obtain ⟨th, th1, th2⟩ := St_add ht hh (by omega)
  obtain ⟨h_t, ht1, ht2⟩ := St_add hh ht (by omega)
  obtain ⟨hhh, hh1, hh2⟩ := St_add hh hh (by omega)
  obtain ⟨tt, tt1, tt2⟩ := St_add ht ht (by omega)
  obtain ⟨htt, u1, u2⟩ := St_add ht2 ht (by omega)
  obtain ⟨tht, v1, v2⟩ := St_add th2 ht (by omega)
  obtain ⟨hth, w1, w2⟩ := St_add ht2 hh (by omega)
  have l2 : 2 ≤ LIM := lim8 (by omega)
  have l3 : 3 ≤ LIM := lim8 (by omega)
  have l5 : 5 ≤ LIM := lim8 (by omega)
  have mh := hh.mono (lo' := 1) (hi' := 50) (by omega) (by omega)
  have m1 := th2.mono (lo' := 1) (hi' := 50) (by omega) (by omega)
  have m2 := ht2.mono (lo' := 1) (hi' := 50) (by omega) (by omega)
  have m3 := hh2.mono (lo' := 1) (hi' := 50) (by omega) (by omega)
  have m4 := tt2.mono (lo' := 1) (hi' := 50) (by omega) (by omega)
  have m5 := u2.mono (lo' := 1) (hi' := 50) (by omega) (by omega)
  have m6 := v2.mono (lo' := 1) (hi' := 50) (by omega) (by omega)
  have m7 := w2.mono (lo' := 1) (hi' := 50) (by omega) (by omega)
  obtain ⟨p, o1, a, pa, hp1⟩ := s_of (N := N) (k := k + 2) (v := .list [.tuple [here, h_t, th], .tuple [here, h_t, tt], .tuple [here, hhh], .tuple [h_t, htt, tht], .tuple [h_t, hth, th]]) (xs := [.tuple [here, h_t, th], .tuple [here, h_t, tt], .tuple [here, hhh], .tuple [h_t, htt, tht], .tuple [h_t, hth, th]]) hp (by omega) rfl (by simp) (by simp)
  have pp : Pk Q p := by
    simp only [List.mem_cons, List.not_mem_nil, or_false] at pa
    rcases pa with e | e | e | e | e
    · exact ⟨_, e, by simp [mh, m2, m1], by simp⟩
    · exact ⟨_, e, by simp [mh, m2, m4], by simp⟩
    · exact ⟨_, e, by simp [mh, m3], by simp⟩
    · exact ⟨_, e, by simp [m2, m5, m6], by simp⟩
    · exact ⟨_, e, by simp [m2, m7, m1], by simp⟩
  obtain ⟨rs, e, r1, r2⟩ := pp
  subst e
  have nr : noLists rs = true := st_nl r1
  have jn : opBin .Add (.bo 12 (.L [.tuple [here, h_t, th], .tuple [here, h_t, tt], .tuple [here, hhh]])) (.fr (.L [.tuple [h_t, htt, tht], .tuple [h_t, hth, th]])) = some (.fr (.L [.tuple [here, h_t, th], .tuple [here, h_t, tt], .tuple [here, hhh], .tuple [h_t, htt, tht], .tuple [h_t, hth, th]])) := m_addL (by simpa using l5)
  refine ⟨o1, rs, some (.own (.L [.tuple [here, h_t, th], .tuple [here, h_t, tt], .tuple [here, hhh], .tuple [h_t, htt, tht], .tuple [h_t, hth, th]])), ?_, hp1.mono (by omega), r1, r2⟩
  have c1 : ex (run F N (k + 4)) N [0] (.asg (.nm 12) (.lst (.cons (.tup (.cons (.var 6) (.cons (.bin .Add (.var 6) (.var 7)) (.cons (.bin .Add (.var 7) (.var 6)) .nil)))) (.cons (.tup (.cons (.var 6) (.cons (.bin .Add (.var 6) (.var 7)) (.cons (.bin .Add (.var 7) (.var 7)) .nil)))) (.cons (.tup (.cons (.var 6) (.cons (.bin .Add (.var 6) (.var 6)) .nil))) .nil))))) (enO o sg L M none x5 here there none none none none none none) = some (.nx (enO o sg L M none x5 here there none none none none (some (.own (.L [.tuple [here, h_t, th], .tuple [here, h_t, tt], .tuple [here, hhh]]))) none)) := by
    simp [ex, enO, e_lst, e_tup, e_bin, evs, e_var, refr, th1, ht1, hh1, tt1, gd_pos, l2, l3, RV.dat, RV.frz, b_fr]
  have c2 : ex (run F N (k + 4)) N [0] (.asg (.nm 12) (.bin .Add (.var 12) (.lst (.cons (.tup (.cons (.bin .Add (.var 6) (.var 7)) (.cons (.bin .Add (.bin .Add (.var 6) (.var 7)) (.var 7)) (.cons (.bin .Add (.bin .Add (.var 7) (.var 6)) (.var 7)) .nil)))) (.cons (.tup (.cons (.bin .Add (.var 6) (.var 7)) (.cons (.bin .Add (.bin .Add (.var 6) (.var 7)) (.var 6)) (.cons (.bin .Add (.var 7) (.var 6)) .nil)))) .nil))))) (enO o sg L M none x5 here there none none none none (some (.own (.L [.tuple [here, h_t, th], .tuple [here, h_t, tt], .tuple [here, hhh]]))) none) = some (.nx (enO o sg L M none x5 here there none none none none (some (.own (.L [.tuple [here, h_t, th], .tuple [here, h_t, tt], .tuple [here, hhh], .tuple [h_t, htt, tht], .tuple [h_t, hth, th]]))) none)) := by
    simp [ex, enO, e_lst, e_tup, e_bin, evs, e_var, refr, th1, ht1, hh1, tt1, u1, v1, w1, jn, gd_pos, l2, l3, RV.dat, RV.frz, b_fr]
  have c3 : ex (run F N (k + 4)) N [0] (.asg (.nm 4) (.call 25 (.cons (.var 0) (.cons (.var 12) .nil)) [some 0, none])) (enO o sg L M none x5 here there none none none none (some (.own (.L [.tuple [here, h_t, th], .tuple [here, h_t, tt], .tuple [here, hhh], .tuple [h_t, htt, tht], .tuple [h_t, hth, th]]))) none) = some (.nx (enO o1 sg L M (some (.val (.tuple rs))) x5 here there none none none none (some (.own (.L [.tuple [here, h_t, th], .tuple [here, h_t, tt], .tuple [here, hhh], .tuple [h_t, htt, tht], .tuple [h_t, hth, th]]))) none)) := by
    simp [ex, enO, e_call, evs, e_var, refr, passA, valSl, gd_pos, a, retOk, noList, nr, backA, nl_pot hp1, RV.dat, b_val]
  rw [exs, c1]; simp only [Option.bind_some]
  rw [exs, c2]; simp only [Option.bind_some]
  rw [exs, c3]; simp only [Option.bind_some]
  rfl
end PT
set_option maxRecDepth 100000
set_option maxHeartbeats 4000000
/-! T15: outlines, joined. -/
namespace PT
open PySem PL
open L2 (Key)
variable {N k : Nat}
def oA : S :=
(.asg (.tp (.cons (.nm 5) (.cons (.nm 6) (.cons (.nm 7) .nil)))) (.tup (.cons (.call 24 (.cons (.var 0) (.cons (.cst (PyData.int 7)) .nil)) [some 0, none]) (.cons (.idx (.var 1) (.cst (PyData.int 0))) (.cons (.idx (.var 1) (.cst (PyData.int 1))) .nil)))))
def oB : S :=
(.asg (.nm 4) (.comp (.bin .Add (.call 25 (.cons (.var 0) (.cons (.var 1) .nil)) [some 0, none]) (.call 30 (.cons (.var 0) (.cons (.var 1) (.cons (.bin .Sub (.var 2) (.cst (PyData.int 1))) .nil))) [some 0, none, none])) (.nm 8) (.rng1 (.bin .Add (.cst (PyData.int 1)) (.call 24 (.cons (.var 0) (.cons (.var 3) .nil)) [some 0, none]))) .no [("lap", 8)]))
def oC : S :=
(.asg (.nm 4) (.call 31 (.cons (.var 0) (.cons (.var 1) (.cons (.bin .Add (.cst (PyData.int 1)) (.call 24 (.cons (.var 0) (.cons (.cst (PyData.int 4)) .nil)) [some 0, none])) (.cons (.var 2) (.cons (.bin .Add (.var 3) (.cst (PyData.int 1))) .nil))))) [some 0, none, none, none, none]))
def oD : S :=
(.asg (.nm 4) (.call 29 (.cons (.var 0) (.cons (.var 4) (.cons (.bc .max (.cons (.cst (PyData.int 1)) (.cons (.bc .min (.cons (.var 3) (.cons (.bin .Sub (.bc .len (.cons (.var 4) .nil)) (.call 24 (.cons (.var 0) (.cons (.cst (PyData.int 2)) .nil)) [some 0, none])) .nil))) .nil))) .nil))) [some 0, none, none]))
def oE : S :=
(.asg (.nm 4) (.ite (.cmp .Eq (.var 5) (.cst (PyData.int 3))) (.comp (.rev (.var 9)) (.nm 9) (.vals (.var 4)) .no [("row", 9)]) (.var 4)))
def oF : Ss :=
(.cons (.asg (.tp (.cons (.nm 10) (.cons (.nm 11) .nil))) (.call 25 (.cons (.var 0) (.cons (.lst (.cons (.tup (.cons (.var 6) (.cons (.bin .Add (.var 7) (.var 6)) .nil))) (.cons (.tup (.cons (.bin .Add (.var 6) (.var 7)) (.cons (.var 7) .nil))) (.cons (.tup (.cons (.bin .Add (.var 6) (.var 6)) (.cons (.bin .Add (.var 6) (.var 7)) .nil))) (.cons (.tup (.cons (.var 6) (.cons (.bin .Add (.var 7) (.var 7)) .nil))) .nil))))) .nil)) [some 0, none])) (.cons (.asg (.nm 4) (.slc (.lst (.cons (.var 10) (.cons (.var 11) (.cons (.bin .Add (.var 10) (.var 11)) (.cons (.bin .Add (.var 11) (.var 10)) (.cons (.bin .Add (.var 11) (.var 11)) .nil)))))) .no (.yes (.bin .Add (.cst (PyData.int 1)) (.call 24 (.cons (.var 0) (.cons (.cst (PyData.int 5)) .nil)) [some 0, none]))))) .nil))
def oG : Ss :=
(.cons (.asg (.nm 4) (.comp (.bin .Mult (.var 6) (.var 13)) (.nm 13) (.vals (.call 29 (.cons (.var 0) (.cons (.lst (.cons (.cst (PyData.int 1)) (.cons (.cst (PyData.int 2)) (.cons (.cst (PyData.int 3)) (.cons (.cst (PyData.int 4)) (.cons (.cst (PyData.int 5)) .nil)))))) (.cons (.bin .Add (.cst (PyData.int 1)) (.call 24 (.cons (.var 0) (.cons (.cst (PyData.int 3)) .nil)) [some 0, none])) .nil))) [some 0, none, none])) .no [("size", 13)])) .nil)
def oH : Ss :=
(.cons (.asg (.nm 12) (.lst (.cons (.tup (.cons (.var 6) (.cons (.bin .Add (.var 6) (.var 7)) (.cons (.bin .Add (.var 7) (.var 6)) .nil)))) (.cons (.tup (.cons (.var 6) (.cons (.bin .Add (.var 6) (.var 7)) (.cons (.bin .Add (.var 7) (.var 7)) .nil)))) (.cons (.tup (.cons (.var 6) (.cons (.bin .Add (.var 6) (.var 6)) .nil))) .nil))))) (.cons (.asg (.nm 12) (.bin .Add (.var 12) (.lst (.cons (.tup (.cons (.bin .Add (.var 6) (.var 7)) (.cons (.bin .Add (.bin .Add (.var 6) (.var 7)) (.var 7)) (.cons (.bin .Add (.bin .Add (.var 7) (.var 6)) (.var 7)) .nil)))) (.cons (.tup (.cons (.bin .Add (.var 6) (.var 7)) (.cons (.bin .Add (.bin .Add (.var 6) (.var 7)) (.var 6)) (.cons (.bin .Add (.var 7) (.var 6)) .nil)))) .nil))))) (.cons (.asg (.nm 4) (.call 25 (.cons (.var 0) (.cons (.var 12) .nil)) [some 0, none])) .nil)))
def oR : Ss :=
(.cons (.asg (.nm 4) (.call 27 (.cons (.comp (.var 9) (.nm 9) (.vals (.var 4)) (.yes (.cmp .LtE (.bc .len (.cons (.var 9) .nil)) (.var 2))) [("row", 9)]) .nil) [none])) (.cons (.ret (.ite (.cmp .NotEq (.var 4) (.lst .nil)) (.slc (.var 4) .no (.yes (.var 3))) (.lst (.cons (.var 6) .nil)))) .nil))
def oI : S := .ite (.cmp .Lt (.var 5) (.cst (PyData.int 2))) (.cons oB .nil) (.cons (.ite (.cmp .Lt (.var 5) (.cst (PyData.int 4))) (.cons oC (.cons oD (.cons oE .nil))) (.cons (.ite (.cmp .Eq (.var 5) (.cst (PyData.int 4))) oF (.cons (.ite (.cmp .Eq (.var 5) (.cst (PyData.int 5))) oG oH) .nil)) .nil)) .nil)
theorem b_35 : b__law_outlines = .cons oA (.cons oI oR) := rfl

theorem ex_ite {C : Cl} {io : List Nat} {c : E} {a b : Ss} {env env' : En} {v : Bool} (h : evt C c env = some (v, env')) : ex C N io (.ite c a b) env = if v = true then exs C N io a env' else exs C N io b env' := by
  rw [ex, h]; rfl
theorem exs1 {C : Cl} {io : List Nat} {s : S} {env e : En} (h : ex C N io s env = some (.nx e)) : exs C N io (.cons s .nil) env = some (.nx e) := by
  rw [exs, h]; rfl
theorem exsN {C : Cl} {io : List Nat} {s : S} {ss : Ss} {env e : En} (h : ex C N io s env = some (.nx e)) : exs C N io (.cons s ss) env = exs C N io ss e := by
  rw [exs, h]; rfl
theorem br_all {Q : Nat → Prop} {m : Nat} {o : Ob} {sg : List Da} {L M w : Nat} {here there : Da} (hp : Pot m o) (hm : m + 2100 ≤ 10 ^ 9) (hs : ∀ x ∈ sg, S1 Q x) (hs1 : 1 ≤ sg.length) (hs2 : sg.length ≤ 26) (hL : 1 ≤ L) (hL2 : L ≤ 8) (hM : 1 ≤ M) (hM2 : M ≤ 10) (hh : St Q 1 1 here) (ht : St Q 1 1 there) :
    ∃ (o' : Ob) (rs : List Da) (x4 x10 x11 x12 : Option SV), ex (run F N (k + 4)) N [0] oI (enO o sg L M none (some (.val (.int w))) here there none none none none none none) = some (.nx (enO o' sg L M x4 (some (.val (.int w))) here there none none x10 x11 x12 none)) ∧ R4 rs x4 ∧ Pot (m + 2000) o' ∧ (∀ x ∈ rs, St Q 1 50 x) ∧ rs.length ≤ 200 := by
  have t2 : ∀ e4, evt (run F N (k + 4)) (.cmp .Lt (.var 5) (.cst (PyData.int 2))) (enO o sg L M e4 (some (.val (.int w))) here there none none none none none none) = some (decide ((w : Int) < 2), enO o sg L M e4 (some (.val (.int w))) here there none none none none none none) := fun e4 => by
    simp [enO, evt_cmp, e_var, e_cst, refr, opCmp, RV.dat]
  have t4 : ∀ e4, evt (run F N (k + 4)) (.cmp .Lt (.var 5) (.cst (PyData.int 4))) (enO o sg L M e4 (some (.val (.int w))) here there none none none none none none) = some (decide ((w : Int) < 4), enO o sg L M e4 (some (.val (.int w))) here there none none none none none none) := fun e4 => by
    simp [enO, evt_cmp, e_var, e_cst, refr, opCmp, RV.dat]
  have t44 : ∀ e4, evt (run F N (k + 4)) (.cmp .Eq (.var 5) (.cst (PyData.int 4))) (enO o sg L M e4 (some (.val (.int w))) here there none none none none none none) = some (decide ((w : Int) = 4), enO o sg L M e4 (some (.val (.int w))) here there none none none none none none) := fun e4 => by
    simp [enO, evt_cmp, e_var, e_cst, refr, opCmp, RV.dat, opEq]
  have t5 : ∀ e4, evt (run F N (k + 4)) (.cmp .Eq (.var 5) (.cst (PyData.int 5))) (enO o sg L M e4 (some (.val (.int w))) here there none none none none none none) = some (decide ((w : Int) = 5), enO o sg L M e4 (some (.val (.int w))) here there none none none none none none) := fun e4 => by
    simp [enO, evt_cmp, e_var, e_cst, refr, opCmp, RV.dat, opEq]
  unfold oI; rw [ex_ite (t2 none)]
  by_cases h2 : (w : Int) < 2
  · rw [if_pos (decide_eq_true h2)]
    obtain ⟨o', rs, a, b, c, d⟩ := br0 (N := N) (k := k) (x5 := some (.val (.int w))) (here := here) (there := there) hp (by omega) hs hs1 hs2 hL hL2 hM hM2
    exact ⟨o', rs, _, none, none, none, exs1 a, Or.inl rfl, b, c, d⟩
  rw [if_neg (by simpa using h2)]
  by_cases h4 : (w : Int) < 4
  · obtain ⟨o1, r1, a, b, c, d, e⟩ := br2 (N := N) (k := k) (x5 := some (.val (.int w))) (here := here) (there := there) hp (by omega) hs hs1 hs2 hL hL2 hM hM2
    obtain ⟨o2, r2, a', b', c', d'⟩ := br2b (N := N) (k := k) (sg := sg) (L := L) (M := M) (x5 := some (.val (.int w))) (here := here) (there := there) b (by omega) c d e hM hM2
    obtain ⟨r3, a2, c2, d2⟩ := br2c (N := N) (k := k + 4) (o := o2) (sg := sg) (L := L) (M := M) (w := w) (here := here) (there := there) c' d'
    refine ⟨o2, r3, _, none, none, none, ?_, Or.inl rfl, b'.mono (by omega), fun x hx => (c2 x hx).mono (by omega) (by omega), by omega⟩
    refine exs1 ?_
    rw [ex_ite (t4 none), if_pos (decide_eq_true h4)]
    have a_ : ex (run F N (k + 4)) N [0] oC _ = _ := a
    have a'_ : ex (run F N (k + 4)) N [0] oD _ = _ := a'
    have a2_ : ex (run F N (k + 4)) N [0] oE _ = _ := a2
    rw [exsN a_, exsN a'_, exs1 a2_]
  by_cases h44 : (w : Int) = 4
  · obtain ⟨o', rs, x10, x11, a, b, c, d⟩ := br4 (N := N) (k := k) (sg := sg) (L := L) (M := M) (x5 := some (.val (.int w))) (here := here) (there := there) hp (by omega) hh ht
    refine ⟨o', rs, _, x10, x11, none, ?_, Or.inl rfl, b.mono (by omega), c, d⟩
    refine exs1 ?_
    rw [ex_ite (t4 none), if_neg (by simpa using h4)]
    refine exs1 ?_
    rw [ex_ite (t44 none), if_pos (decide_eq_true h44)]
    exact a
  by_cases h5 : (w : Int) = 5
  · obtain ⟨o', rs, a, b, c, d⟩ := br5 (N := N) (k := k) (sg := sg) (L := L) (M := M) (x5 := some (.val (.int w))) (here := here) (there := there) hp (by omega) hh
    refine ⟨o', rs, _, none, none, none, ?_, Or.inl rfl, b.mono (by omega), c, d⟩
    refine exs1 ?_
    rw [ex_ite (t4 none), if_neg (by simpa using h4)]
    refine exs1 ?_
    rw [ex_ite (t44 none), if_neg (by simpa using h44)]
    refine exs1 ?_
    rw [ex_ite (t5 none), if_pos (decide_eq_true h5)]
    exact a
  · obtain ⟨o', rs, x12, a, b, c, d⟩ := br6 (N := N) (k := k) (sg := sg) (L := L) (M := M) (x5 := some (.val (.int w))) (here := here) (there := there) hp (by omega) hh ht
    refine ⟨o', rs, _, none, none, x12, ?_, Or.inr rfl, b.mono (by omega), c, d⟩
    refine exs1 ?_
    rw [ex_ite (t4 none), if_neg (by simpa using h4)]
    refine exs1 ?_
    rw [ex_ite (t44 none), if_neg (by simpa using h44)]
    refine exs1 ?_
    rw [ex_ite (t5 none), if_neg (by simpa using h5)]
    exact a
theorem s_outlines {Q : Nat → Prop} {m : Nat} {o : Ob} {sg : List Da} {L M : Nat} (hp : Pot m o) (hm : m + 2200 ≤ 10 ^ 9) (hs : ∀ x ∈ sg, S1 Q x) (hs1 : 2 ≤ sg.length) (hs2 : sg.length ≤ 26) (hL : 1 ≤ L) (hL2 : L ≤ 8) (hM : 1 ≤ M) (hM2 : M ≤ 10) (hQ : ∀ c, Q c → c ≤ 122) :
    ∃ (o' : Ob) (out : List Da), run F N (k + 5) 32 [.own o, .val (.list sg), .val (.int L), .val (.int M)] = some (.fr (.L out), [some (.own o'), some (.val (.list sg)), some (.val (.int L)), some (.val (.int M))]) ∧ Pot (m + 2100) o' ∧ (∀ x ∈ out, St Q 1 L x) ∧ 1 ≤ out.length ∧ out.length ≤ M := by
  obtain ⟨w, o1, a, hn, hp1⟩ := s_take (N := N) (k := k + 3) (u := 7) hp (by omega) (by omega) (by omega)
  have a' : run F N (k + 4) 24 [.own o, .val (.int 7)] = some (.val (.int w), [some (.own o1), some (.val (.int 7))]) := a
  have h0 := at_of (xs := sg) (j := 0) (by omega)
  have h1 := at_of (xs := sg) (j := 1) (by omega)
  have hh := S1_St (hs sg[0] (List.getElem_mem _))
  have ht := S1_St (hs sg[1] (List.getElem_mem _))
  have nh := st_noList hh
  have nt := st_noList ht
  generalize sg[0] = here at h0 hh nh
  generalize sg[1] = there at h1 ht nt
  have i0 : opIdx (.val (.list sg)) (.val (.int 0)) = some here := h0
  have i1 : opIdx (.val (.list sg)) (.val (.int 1)) = some there := h1
  have l3 : 3 ≤ LIM := lim8 (by omega)
  have c1 : ex (run F N (k + 4)) N [0] oA [some (.own o), some (.val (.list sg)), some (.val (.int L)), some (.val (.int M)), none, none, none, none, none, none, none, none, none, none] = some (.nx (enO o1 sg L M none (some (.val (.int w))) here there none none none none none none)) := by
    unfold oA enO
    simp [ex, e_tup, e_call, e_idx, evs, e_var, e_cst, refr, i0, i1, a', passA, valSl, gd_pos, l3, retOk, noList, nh, nt, backA, nl_pot hp1, RV.dat, RV.frz, b_tp, bindTs, b_val]
  obtain ⟨o2, rs, x4, x10, x11, x12, b1, b2, b3, b4, b5⟩ := br_all (N := N) (k := k) (w := w) hp1 (by omega) hs (by omega) hs2 hL hL2 hM hM2 hh ht
  obtain ⟨out, e, d1, d2, d3, d4, d5⟩ := out_end (N := N) (k := k + 3) (sg := sg) (L := L) (M := M) (x5 := some (.val (.int w))) (there := there) (x8 := none) (x10 := x10) (x11 := x11) (x12 := x12) (x13 := none) b3 b2 b4 b5 hL hM hh hQ
  refine ⟨o2, out, ?_, b3.mono (by omega), d3, d4, d5⟩
  rw [run_of F_32 rfl (by decide) rfl rfl]
  simp only [f__law_outlines, b_35, List.map_cons, List.map_nil, List.replicate, List.cons_append, List.nil_append, Nat.reduceSub]
  have d1' : exs (run F N (k + 4)) N [0] oR _ = _ := d1
  rw [exsN c1, exsN b1, d1']
  obtain ⟨pa, pb, pc, pz, _⟩ := b3
  have e0 : e[0]? = some (some (.own o2)) := by
    have : (e.take 4)[0]? = some (some (.own o2)) := by rw [d2]; rfl
    simpa using this
  simp [PL.finish, retV, gd_pos, e0, d2]
end PT
set_option maxRecDepth 100000
set_option maxHeartbeats 4000000
/-! T16: what dictionaries of drawn rows need. -/
namespace PT
open PySem PL
open L2 (Key)
variable {N k : Nat}
def Ql (c : Nat) : Prop := 97 ≤ c ∧ c ≤ 122
def Ey (d : Da) : Prop := ∃ e : Ent, d = eD e ∧ Le e
theorem St_Sg {Q : Nat → Prop} (hQ : ∀ c, Q c → 97 ≤ c ∧ c ≤ 122) {lo hi : Nat} {d : Da} (h : St Q lo hi d) : ∃ s : Str, d = .str s ∧ Sg lo hi s := by
  obtain ⟨cs, a, b, c, e⟩ := h
  have el : (strOf cs).length = cs.length := by simp [strOf, Str.length]
  exact ⟨strOf cs, e, by rw [el]; exact a, by rw [el]; exact b, fun x hx => hQ x (c x (by simpa [strOf] using hx))⟩
theorem Ey_of {Q Q' : Nat → Prop} (hQ : ∀ c, Q c → 97 ≤ c ∧ c ≤ 122) (hQ' : ∀ c, Q' c → 97 ≤ c ∧ c ≤ 122) {x y : Da} (h : St Q 1 8 x) (h' : St Q' 0 8 y) : Ey (.tuple [x, y]) := by
  obtain ⟨s, e, a⟩ := St_Sg hQ h
  obtain ⟨t, e', b⟩ := St_Sg hQ' h'
  subst e e'
  exact ⟨(s, t), rfl, a, b⟩
theorem Ey_list : ∀ {l : List Da}, (∀ x ∈ l, Ey x) → ∃ es : List Ent, l = es.map eD ∧ (∀ e ∈ es, Le e) ∧ es.length = l.length
  | [], _ => ⟨[], rfl, by simp, rfl⟩
  | x :: l, h => by
    obtain ⟨e, h1, h2⟩ := h x List.mem_cons_self
    obtain ⟨es, g1, g2, g3⟩ := Ey_list fun y hy => h y (List.mem_cons_of_mem _ hy)
    refine ⟨e :: es, by rw [h1, g1]; rfl, fun z hz => ?_, by simp [g3]⟩
    rcases List.mem_cons.mp hz with q | q
    · rw [q]; exact h2
    · exact g2 z q
theorem Ey_nl : ∀ {l : List Da}, (∀ x ∈ l, Ey x) → noLists l = true
  | [], _ => rfl
  | x :: l, h => by
    obtain ⟨e, h1, h2⟩ := h x List.mem_cons_self
    rw [noLists, Ey_nl fun y hy => h y (List.mem_cons_of_mem _ hy), h1]; rfl
theorem St_list2 {Q : Nat → Prop} {lo hi : Nat} : ∀ {l : List Da}, (∀ x ∈ l, St Q lo hi x) → ∃ ls : List (List Nat), l = ls.map (fun cs => .str (strOf cs)) ∧ (∀ cs ∈ ls, cs.length ≤ hi ∧ ∀ c ∈ cs, Q c) ∧ ls.length = l.length
  | [], _ => ⟨[], rfl, by simp, rfl⟩
  | x :: l, h => by
    obtain ⟨cs, _, h2, h3, e⟩ := h x List.mem_cons_self
    obtain ⟨ls, g1, g2, g3⟩ := St_list2 fun y hy => h y (List.mem_cons_of_mem _ hy)
    refine ⟨cs :: ls, by rw [e, g1]; rfl, fun z hz => ?_, by simp [g3]⟩
    rcases List.mem_cons.mp hz with q | q
    · rw [q]; exact ⟨h2, h3⟩
    · exact g2 z q
theorem sum_st {h : Nat} : ∀ ls : List (List Nat), (∀ cs ∈ ls, cs.length ≤ h) → ((ls.map strOf).map (·.length)).sum ≤ ls.length * h
  | [], _ => by simp
  | x :: ls, hh => by
    have h1 := sum_st ls fun y hy => hh y (List.mem_cons_of_mem _ hy)
    have h2 := hh x List.mem_cons_self
    have el : (strOf x).length = x.length := by simp [strOf, Str.length]
    simp only [List.map_cons, List.sum_cons, List.length_cons, el, Nat.succ_mul]
    omega
theorem flat_st : ∀ ls : List (List Nat), ((ls.map strOf).flatMap fun s => s.cps.toList) = ls.flatten
  | [] => rfl
  | x :: ls => by
    have h1 := flat_st ls
    rw [List.map_cons, List.flatMap_cons, h1]
    simp [strOf]
theorem join_st {Q : Nat → Prop} {lo h n : Nat} {l : List Da} (hl : ∀ x ∈ l, St Q lo h x) (hn : l.length ≤ n) (hh : n * h ≤ 1000) : ∃ z : Da, mcall .join (.val (.str (Str.ofString ""))) [.fr (.L l)] = some (.val z) ∧ St Q 0 (n * h) z := by
  obtain ⟨ls, e, h1, h2⟩ := St_list2 hl
  subst e
  have hs := sum_st ls fun cs hc => (h1 cs hc).1
  rw [List.length_map] at hn
  have hm : ls.length * h ≤ n * h := Nat.mul_le_mul_right _ hn
  refine ⟨.str (strOf ((ls.map strOf).flatMap fun s => s.cps.toList)), join_of (g := strOf) (lim8 (by omega)), ls.flatten, Nat.zero_le _, ?_, fun c hc => ?_, by rw [flat_st]⟩
  · have : ls.flatten.length = ((ls.map strOf).map (·.length)).sum := by
      rw [List.length_flatten, List.map_map]
      congr 1
    omega
  · obtain ⟨l, hl, hc⟩ := List.mem_flatten.mp hc
    exact (h1 l hl).2 c hc
theorem slc_st {Q : Nat → Prop} {lo h : Nat} {z : Da} (hz : St Q lo h z) (hh : h ≤ 1000) : ∃ w : Da, opSlc (.val z) none (some 8) = some (.val w) ∧ St Q 0 8 w := by
  obtain ⟨cs, _, b, c, e⟩ := hz
  subst e
  have el : (strOf cs).length = cs.length := by simp [strOf, Str.length]
  refine ⟨.str (strOf (cutD cs none (some 8))), ?_, cutD cs none (some 8), Nat.zero_le _, cut_to cs 8, fun x hx => c x (cut_mem hx), rfl⟩
  simp only [opSlc, RV.dat]
  rw [el, gd_pos (lim8 (by omega))]
  simp [strOf]
theorem enu_mem {ds : List Da} {d : Da} (h : d ∈ enumD ds) : ∃ (i : Nat) (hi : i < ds.length), d = .tuple [.int i, ds[i]] := by
  unfold enumD at h
  obtain ⟨i, hi, e⟩ := List.mem_iff_getElem.mp h
  rw [List.length_zipWith, List.length_range, Nat.min_self] at hi
  refine ⟨i, hi, ?_⟩
  rw [← e, List.getElem_zipWith, List.getElem_range]
theorem enu_len (ds : List Da) : (enumD ds).length = ds.length := by
  unfold enumD
  rw [List.length_zipWith, List.length_range, Nat.min_self]
/-! ### the dict of the signs -/
section
variable {κ : Type} [DecidableEq κ]
theorem put_vals {kvs : List (κ × Da)} {x : κ} {v : Da} {kv : κ × Da} (h : kv ∈ put kvs x v) : kv ∈ kvs ∨ kv.2 = v := by
  unfold put at h
  split at h
  · obtain ⟨y, hy, e⟩ := List.mem_map.mp h
    by_cases q : y.1 = x
    · rw [if_pos q] at e; exact Or.inr (by rw [← e])
    · rw [if_neg q] at e; exact Or.inl (by rw [← e]; exact hy)
  · rcases List.mem_append.mp h with h | h
    · exact Or.inl h
    · exact Or.inr (by rw [List.mem_singleton.mp h])
theorem puts_ok {P : Da → Prop} : ∀ (ps kvs : List (κ × Da)), (∀ kv ∈ kvs, P kv.2) → (∀ kv ∈ ps, P kv.2) → (∀ kv ∈ puts kvs ps, P kv.2) ∧ ∀ x, (x ∈ kvs.map (·.1) ∨ x ∈ ps.map (·.1)) → x ∈ (puts kvs ps).map (·.1)
  | [], kvs, h1, h2 => ⟨h1, fun x h => h.elim id fun h => by simp at h⟩
  | p :: ps, kvs, h1, h2 => by
    obtain ⟨g1, g2⟩ := puts_ok ps (put kvs p.1 p.2) (fun kv h => (put_vals h).elim (h1 kv) fun e => by rw [e]; exact h2 p List.mem_cons_self) fun kv h => h2 kv (List.mem_cons_of_mem _ h)
    refine ⟨g1, fun x hx => g2 x ?_⟩
    rw [keys_put]
    rcases hx with hx | hx
    · left; split
      · exact hx
      · exact List.mem_append_left _ hx
    · rcases List.mem_cons.mp (by simpa using hx : x ∈ p.1 :: ps.map (·.1)) with e | hx
      · left; subst e; split
        · assumption
        · exact List.mem_append_right _ (List.mem_singleton.mpr rfl)
      · exact Or.inr hx
theorem look_mem {kvs : List (κ × Da)} {x : κ} (h : x ∈ kvs.map (·.1)) : ∃ kv ∈ kvs, look kvs x = some kv.2 := by
  obtain ⟨y, hy, e⟩ := List.mem_map.mp h
  unfold look
  cases hf : kvs.find? fun kv => decide (kv.1 = x) with
  | none => exact absurd (List.find?_eq_none.mp hf y hy) (by simpa using e)
  | some kv => exact ⟨kv, List.mem_of_find?_eq_some hf, rfl⟩
end
def All2 (Q : Da → Da → Prop) : List Da → List Da → Prop
  | [], [] => True
  | d :: ds, z :: zs => Q d z ∧ All2 Q ds zs
  | _, _ => False
theorem compL_inv3 {vs bs : List Nat} {turn : Da → En → Option (Option Da × En)} {env0 : En} (Inv : Nat → En → Prop) (Q : Da → Da → Prop) : ∀ {ds : List Da} {i : Nat} {env : En} {acc : List Da}, Inv i env → acc.length + ds.length ≤ LIM →
    (∀ j e d, d ∈ ds → i ≤ j → j < i + ds.length → Inv j e → ∃ z e', turn d e = some (some z, e') ∧ Inv (j + 1) (wipeD e' vs) ∧ (∀ l ∈ bs, (wipeD e' vs)[l]? = env0[l]?) ∧ Q d z) →
    ∃ out env', compL vs bs turn ds env0 env acc = some (acc ++ out, env') ∧ Inv (i + ds.length) env' ∧ All2 Q ds out
  | [], i, env, acc, hi, _, _ => ⟨[], env, by rw [compL, List.append_nil], hi, trivial⟩
  | d :: ds, i, env, acc, hi, hl, h => by
    obtain ⟨y, e', h1, h2, h3, h4⟩ := h i env d List.mem_cons_self (Nat.le_refl _) (by rw [List.length_cons]; omega) hi
    rw [List.length_cons] at hl
    have hlt : acc.length < LIM := by omega
    obtain ⟨out, env', g1, g2, g3⟩ := compL_inv3 Inv Q (ds := ds) (acc := acc ++ [y]) h2 (by rw [List.length_append, List.length_singleton]; omega) fun j e d hd h1 h2 => h j e d (List.mem_cons_of_mem _ hd) (by omega) (by rw [List.length_cons]; omega)
    refine ⟨y :: out, env', ?_, ?_, h4, g3⟩
    · rw [compL, h1]
      simp only [Option.bind_some]
      rw [gd_pos h3, gd_pos hlt]
      simp only [Option.bind_some]
      rw [g1, List.append_assoc]
      rfl
    · rw [List.length_cons, Nat.add_comm ds.length 1, ← Nat.add_assoc]
      exact g2
theorem comp_inv3 {C : Cl} {elt : E} {tg : Tg} {it : It} {cs : Oe} {own : List (Str × Nat)} {env env1 : En} {ds : List Da} {bs : List Nat} (Inv : Nat → En → Prop) (Q : Da → Da → Prop) (hi : evi C it env = some (ds, bs, env1)) (hb : ∀ j ∈ bs, j ∉ own.map (·.2)) (hl : ds.length ≤ LIM) (h0 : Inv 0 (wipeD env1 (own.map (·.2))))
    (h : ∀ j e d, d ∈ ds → j < ds.length → Inv j e → ∃ z e', turnQ C elt tg cs d e = some (some z, e') ∧ Inv (j + 1) (wipeD e' (own.map (·.2))) ∧ (∀ l ∈ bs, (wipeD e' (own.map (·.2)))[l]? = (wipeD env1 (own.map (·.2)))[l]?) ∧ Q d z) :
    ∃ out env', ev C (.comp elt tg it cs own) env = some (.fr (.L out), backD env1 env' (own.map (·.2))) ∧ Inv ds.length env' ∧ All2 Q ds out := by
  obtain ⟨out, env', g1, g2, g3⟩ := compL_inv3 (vs := own.map (·.2)) (bs := bs) (turn := turnQ C elt tg cs) (env0 := wipeD env1 (own.map (·.2))) Inv Q (ds := ds) (i := 0) (acc := []) h0 (by simpa using hl) fun j e d hd _ hj hI => h j e d hd (by omega) hI
  refine ⟨out, env', ?_, by simpa using g2, g3⟩
  rw [e_comp, hi]
  simp only [Option.bind_some]
  rw [gd_pos hb]
  simp only [Option.bind_some]
  rw [g1]
  simp
/-- each sign with its text -/
def Tx (Q : Nat → Prop) (h : Nat) (d z : Da) : Prop := ∃ y : Da, z = .tuple [d, y] ∧ St Q 0 h y
theorem pairs_tx {Q Q' : Nat → Prop} {h : Nat} : ∀ {ds zs : List Da}, (∀ x ∈ ds, S1 Q' x) → All2 (Tx Q h) ds zs → ∃ ps : List (Key × Da), pairsK zs = some ps ∧ (∀ kv ∈ ps, St Q 0 h kv.2) ∧ (∀ c : Nat, PyData.str ⟨#[c]⟩ ∈ ds → (.inr ⟨#[c]⟩ : Key) ∈ ps.map (·.1)) ∧ ps.length = ds.length
  | [], [], _, _ => ⟨[], rfl, by simp, by simp, rfl⟩
  | d :: ds, z :: zs, hs, ha => by
    obtain ⟨c, _, e⟩ := hs d List.mem_cons_self
    obtain ⟨⟨y, e2, hy⟩, ha2⟩ := ha
    obtain ⟨ps, g1, g2, g3, g4⟩ := pairs_tx (fun x hx => hs x (List.mem_cons_of_mem _ hx)) ha2
    subst e e2
    refine ⟨(.inr ⟨#[c]⟩, y) :: ps, ?_, fun kv hk => ?_, fun c' hc => ?_, by simp [g4]⟩
    · rw [pairsK, g1]; rfl
    · rcases List.mem_cons.mp hk with q | q
      · rw [q]; exact hy
      · exact g2 kv q
    · rcases List.mem_cons.mp hc with q | q
      · cases q
        exact List.mem_cons_self
      · exact List.mem_cons_of_mem _ (g3 c' q)
  | [], _ :: _, _, ha => ha.elim
  | _ :: _, [], _, ha => ha.elim
theorem dict_tx {Q Q' : Nat → Prop} {h : Nat} {ds zs : List Da} (hs : ∀ x ∈ ds, S1 Q' x) (hl : ds.length ≤ 1000) (ha : All2 (Tx Q h) ds zs) : ∃ kvs : List (Key × Da), bcall .dict [.fr (.L zs)] = some (.fr (.K kvs)) ∧ ∀ c : Nat, PyData.str ⟨#[c]⟩ ∈ ds → ∃ y : Da, look kvs (.inr ⟨#[c]⟩) = some y ∧ St Q 0 h y := by
  obtain ⟨ps, g1, g2, g3, g4⟩ := pairs_tx hs ha
  obtain ⟨q1, q2⟩ := puts_ok (P := St Q 0 h) ps [] (by simp) g2
  refine ⟨puts [] ps, ?_, fun c hc => ?_⟩
  · have hlp : ps.length ≤ LIM := lim8 (by omega)
    have e : bcall .dict [.fr (.L zs)] = (pairsK zs).bind fun ps => (gd (ps.length ≤ LIM)).bind fun _ => some (.fr (.K (puts [] ps))) := by
      cases ds with
      | nil => cases zs with
        | nil =>
          simp only [bcall, RV.dat]
          congr 1
          funext ps
          cases gd (ps.length ≤ LIM) <;> rfl
        | cons _ _ => exact ha.elim
      | cons d ds => cases zs with
        | nil => exact ha.elim
        | cons z zs =>
          obtain ⟨c, _, e⟩ := hs d List.mem_cons_self
          obtain ⟨⟨y, e2, hy⟩, _⟩ := ha
          subst e e2
          simp only [bcall, RV.dat]
          congr 1
          funext ps
          cases gd (ps.length ≤ LIM) <;> rfl
    rw [e, g1]
    simp only [Option.bind_some]
    rw [gd_pos hlp]
    rfl
  · obtain ⟨kv, hk, e⟩ := look_mem (q2 _ (Or.inr (g3 c hc)))
    exact ⟨kv.2, e, q1 kv hk⟩
end PT
set_option maxRecDepth 100000
set_option maxHeartbeats 4000000
/-! T17: the dictionary: ways 0, 1. -/
namespace PT
open PySem PL
open L2 (Key)
variable {N k : Nat}
def enD (o : Ob) (sg lt : List Da) (L M : Nat) (x5 x6 x7 x8 x9 x10 x11 x12 x13 : Option SV) : En := [some (.own o), some (.val (.list sg)), some (.val (.list lt)), some (.val (.int L)), some (.val (.int M)), x5, x6, x7, x8, x9, x10, x11, x12, x13]
def dB : S :=
(.asg (.nm 7) (.comp (.tup (.cons (.var 11) (.cons (.call 30 (.cons (.var 0) (.cons (.var 2) (.cons (.cst (PyData.int 2)) .nil))) [some 0, none, none]) .nil))) (.nm 11) (.vals (.var 5)) .no [("row", 11)]))
def dC : S :=
(.asg (.nm 9) (.call 28 (.cons (.var 0) (.cons (.bc .len (.cons (.var 5) .nil)) .nil)) [some 0, none]))
def dD1 : S :=
(.asg (.nm 7) (.comp (.tup (.cons (.var 11) (.cons (.idx (.var 9) (.var 12)) .nil))) (.tp (.cons (.nm 12) (.cons (.nm 11) .nil))) (.enu (.var 5)) .no [("place", 12), ("row", 11)]))

theorem dk0 {Q : Nat → Prop} {m : Nat} {o : Ob} {sg lt rs : List Da} {L M : Nat} {x6 : Option SV} (hp : Pot m o) (hm : m + 1000 ≤ 10 ^ 9) (hlt : ∀ x ∈ lt, S1 Ql x) (hl1 : 1 ≤ lt.length) (hl2 : lt.length ≤ 26) (hQ : ∀ c, Q c → 97 ≤ c ∧ c ≤ 122) (hrs : ∀ x ∈ rs, St Q 1 8 x) (hr1 : 1 ≤ rs.length) (hr2 : rs.length ≤ 10) :
    ∃ (o' : Ob) (es : List Da), ex (run F N (k + 3)) N [0] dB (enD o sg lt L M (some (.own (.L rs))) x6 none none none none none none none) = some (.nx (enD o' sg lt L M (some (.own (.L rs))) x6 (some (.own (.L es))) none none none none none none)) ∧ Pot (m + 100) o' ∧ (∀ x ∈ es, Ey x) ∧ es.length = rs.length := by
  have l2 : 2 ≤ LIM := lim8 (by omega)
  obtain ⟨out, env', g1, ⟨o2, g2, g3⟩, g4, g5⟩ := comp_inv2 (C := run F N (k + 3)) (elt := (.tup (.cons (.var 11) (.cons (.call 30 (.cons (.var 0) (.cons (.var 2) (.cons (.cst (PyData.int 2)) .nil))) [some 0, none, none]) .nil)))) (tg := .nm 11) (it := .vals (.var 5)) (cs := .no) (own := [("row", 11)]) (ds := rs) (bs := [5]) (env := enD o sg lt L M (some (.own (.L rs))) x6 none none none none none none none) (env1 := enD o sg lt L M (some (.own (.L rs))) x6 none none none none none none none) (fun j e => ∃ o2, Pot (m + 3 * j) o2 ∧ e = enD o2 sg lt L M (some (.own (.L rs))) x6 none none none none none none none) (fun _ z => Ey z) (by simp [evi, e_var, enD, RV.dat, boSl]) (by simp) (lim8 (by omega)) ⟨o, hp, by simp [wipeD, enD]⟩ (fun j e d hd hj hI => by
    obtain ⟨o2, q1, q2⟩ := hI
    subst q2
    obtain ⟨cs, o4, v1, v2, v3, v4⟩ := s_row (N := N) (k := k) (Q := Ql) (u := 2) (v := .list lt) (xs := lt) q1 (by omega) rfl hl1 (by omega) (by omega) hlt
    have v1' : run F N (k + 3) 30 [.own o2, .val (.list lt), .val (.int 2)] = some (.val (.str (strOf cs)), [some (.own o4), some (.val (.list lt)), some (.val (.int 2))]) := v1
    have ey : Ey (.tuple [d, .str (strOf cs)]) := Ey_of hQ (fun _ h => h) (hrs d hd) ⟨cs, Nat.zero_le _, by omega, v3, rfl⟩
    have nd := st_noList (hrs d hd)
    refine ⟨.tuple [d, .str (strOf cs)], enD o4 sg lt L M (some (.own (.L rs))) x6 none none none none (some (.val d)) none none, ?_, ⟨o4, v4.mono (by omega), by simp [wipeD, enD]⟩, by simp [wipeD, enD], ey⟩
    simp [turnQ, evq, b_val, enD, e_tup, e_call, evs, e_var, e_cst, refr, passA, valSl, gd_pos, l2, v1', retOk, noList, backA, nl_pot v4, RV.dat, RV.frz])
  subst g3
  refine ⟨o2, out, ?_, g2.mono (by omega), fun x hx => (g4 x hx).elim fun _ h => h.2, g5⟩
  have bk : backD (enD o sg lt L M (some (.own (.L rs))) x6 none none none none none none none) (enD o2 sg lt L M (some (.own (.L rs))) x6 none none none none none none none) [11] = enD o2 sg lt L M (some (.own (.L rs))) x6 none none none none none none none := by
    simp [backD, valAt, enD]
  simp only [List.map_cons, List.map_nil, bk] at g1
  unfold dB
  rw [ex, g1]
  simp [b_fr, enD]

theorem dk1 {Q : Nat → Prop} {m : Nat} {o : Ob} {sg lt rs : List Da} {L M : Nat} {x6 : Option SV} (hp : Pot m o) (hm : m + 1000 ≤ 10 ^ 9) (hlt : ∀ x ∈ lt, S1 Ql x) (hl1 : 1 ≤ lt.length) (hl2 : lt.length ≤ 26) (hQ : ∀ c, Q c → 97 ≤ c ∧ c ≤ 122) (hrs : ∀ x ∈ rs, St Q 1 8 x) (hr1 : 1 ≤ rs.length) (hr2 : rs.length ≤ 10) :
    ∃ (o' : Ob) (ys es : List Da), exs (run F N (k + 3)) N [0] (.cons dC (.cons dD1 .nil)) (enD o sg lt L M (some (.own (.L rs))) x6 none none none none none none none) = some (.nx (enD o' sg lt L M (some (.own (.L rs))) x6 (some (.own (.L es))) none (some (.own (.L ys))) none none none none)) ∧ Pot (m + 100) o' ∧ (∀ x ∈ es, Ey x) ∧ es.length = rs.length := by
  have l2 : 2 ≤ LIM := lim8 (by omega)
  obtain ⟨ys, o1, a, a1, a2, a3⟩ := s_signs (N := N) (k := k + 1) (n := rs.length) hp (by omega) (by omega)
  have hln : bcall .len [RV.bo 5 (.L rs)] = some (.val (.int rs.length)) := by simp [bcall, RV.dat]
  have a2' : ∀ x ∈ ys, St Ql 0 8 x := fun x hx => (S1_St (a2 x hx : S1 Ql x)).mono (by omega) (by omega)
  have ny : obNl (.L ys) = true := st_nl a2'
  have c1 : ex (run F N (k + 3)) N [0] dC (enD o sg lt L M (some (.own (.L rs))) x6 none none none none none none none) = some (.nx (enD o1 sg lt L M (some (.own (.L rs))) x6 none none (some (.own (.L ys))) none none none none)) := by
    unfold dC enD
    simp [ex, e_call, e_bc, evs, e_var, refr, hln, passA, valSl, gd_pos, a, retOk, ny, backA, nl_pot a3, RV.dat, b_fr]
  obtain ⟨out, env', g1, g3, g4, g5⟩ := comp_inv2 (C := run F N (k + 3)) (elt := (.tup (.cons (.var 11) (.cons (.idx (.var 9) (.var 12)) .nil)))) (tg := (.tp (.cons (.nm 12) (.cons (.nm 11) .nil)))) (it := .enu (.var 5)) (cs := .no) (own := [("place", 12), ("row", 11)]) (ds := enumD rs) (bs := [5]) (env := enD o1 sg lt L M (some (.own (.L rs))) x6 none none (some (.own (.L ys))) none none none none) (env1 := enD o1 sg lt L M (some (.own (.L rs))) x6 none none (some (.own (.L ys))) none none none none) (fun j e => e = enD o1 sg lt L M (some (.own (.L rs))) x6 none none (some (.own (.L ys))) none none none none) (fun _ z => Ey z) (by simp [evi, e_var, enD, RV.dat, boSl]) (by simp) (by rw [enu_len]; exact lim8 (by omega)) (by simp [wipeD, enD]) (fun j e d hd hj hI => by
    subst hI
    obtain ⟨i, hi, e⟩ := enu_mem hd
    subst e
    have hi2 : i < ys.length := by omega
    have ix : opIdx (.bo 9 (.L ys)) (.val (.int i)) = some ys[i] := by
      simp only [opIdx, RV.dat]; exact at_of hi2
    have hr := hrs _ (List.getElem_mem hi)
    have hy := a2' _ (List.getElem_mem hi2)
    generalize rs[i] = row at hr
    generalize ys[i] = y at hy ix
    refine ⟨.tuple [row, y], enD o1 sg lt L M (some (.own (.L rs))) x6 none none (some (.own (.L ys))) none (some (.val row)) (some (.val (.int i))) none, ?_, by simp [wipeD, enD], by simp [wipeD, enD], Ey_of hQ (fun _ h => h) hr hy⟩
    simp [turnQ, evq, b_tp, bindTs, b_val, enD, e_tup, e_idx, evs, e_var, refr, gd_pos, l2, ix, RV.dat, RV.frz])
  subst g3
  rw [enu_len] at g5
  refine ⟨o1, ys, out, ?_, a3.mono (by omega), fun x hx => (g4 x hx).elim fun _ h => h.2, g5⟩
  have bk : backD (enD o1 sg lt L M (some (.own (.L rs))) x6 none none (some (.own (.L ys))) none none none none) (enD o1 sg lt L M (some (.own (.L rs))) x6 none none (some (.own (.L ys))) none none none none) [12, 11] = enD o1 sg lt L M (some (.own (.L rs))) x6 none none (some (.own (.L ys))) none none none none := by
    simp [backD, valAt, enD]
  simp only [List.map_cons, List.map_nil, bk] at g1
  have c2 : ex (run F N (k + 3)) N [0] dD1 (enD o1 sg lt L M (some (.own (.L rs))) x6 none none (some (.own (.L ys))) none none none none) = some (.nx (enD o1 sg lt L M (some (.own (.L rs))) x6 (some (.own (.L out))) none (some (.own (.L ys))) none none none none)) := by
    unfold dD1
    rw [ex, g1]
    simp [b_fr, enD]
  rw [exsN c1, exs1 c2]
end PT
set_option maxRecDepth 100000
set_option maxHeartbeats 4000000
/-! T18: the dictionary: the other ways. -/
namespace PT
open PySem PL
open L2 (Key)
variable {N k : Nat}
def dE : S :=
(.asg (.nm 10) (.bc .dict (.cons (.comp (.tup (.cons (.var 13) (.cons (.call 30 (.cons (.var 0) (.cons (.var 2) (.cons (.cst (PyData.int 2)) .nil))) [some 0, none, none]) .nil))) (.nm 13) (.vals (.var 1)) .no [("sign", 13)]) .nil)))
def dF : S :=
(.asg (.nm 7) (.comp (.tup (.cons (.var 11) (.cons (.slc (.mth .join (.cst (PyData.str "")) (.cons (.comp (.idx (.var 10) (.var 13)) (.nm 13) (.vals (.var 11)) .no [("sign", 13)]) .nil)) .no (.yes (.cst (PyData.int 8)))) .nil))) (.nm 11) (.vals (.var 5)) .no [("row", 11)]))

theorem chars_str (cs : List Nat) : chars (strOf cs) = cs.map fun c => .str ⟨#[c]⟩ := by
  unfold chars strOf; simp
theorem dk2 {Q : Nat → Prop} {m : Nat} {o : Ob} {sg lt rs : List Da} {L M : Nat} {x6 : Option SV} (hp : Pot m o) (hm : m + 1000 ≤ 10 ^ 9) (hlt : ∀ x ∈ lt, S1 Ql x) (hl1 : 1 ≤ lt.length) (hl2 : lt.length ≤ 26) (hQ : ∀ c, Q c → 97 ≤ c ∧ c ≤ 122) (hrs : ∀ x ∈ rs, St Q 1 8 x) (hr1 : 1 ≤ rs.length) (hr2 : rs.length ≤ 10) (hs : ∀ x ∈ sg, S1 Q x) (hsl : sg.length ≤ 26) (hin : ∀ c, Q c → PyData.str ⟨#[c]⟩ ∈ sg) :
    ∃ (o' : Ob) (kvs : List (Key × Da)) (es : List Da), exs (run F N (k + 3)) N [0] (.cons dE (.cons dF .nil)) (enD o sg lt L M (some (.own (.L rs))) x6 none none none none none none none) = some (.nx (enD o' sg lt L M (some (.own (.L rs))) x6 (some (.own (.L es))) none none (some (.own (.K kvs))) none none none)) ∧ Pot (m + 100) o' ∧ (∀ x ∈ es, Ey x) ∧ es.length = rs.length := by
  have l2 : 2 ≤ LIM := lim8 (by omega)
  obtain ⟨zs, env', g1, ⟨o2, g2, g3⟩, g4⟩ := comp_inv3 (C := run F N (k + 3)) (elt := (.tup (.cons (.var 13) (.cons (.call 30 (.cons (.var 0) (.cons (.var 2) (.cons (.cst (PyData.int 2)) .nil))) [some 0, none, none]) .nil)))) (tg := .nm 13) (it := .vals (.var 1)) (cs := .no) (own := [("sign", 13)]) (ds := sg) (bs := []) (env := enD o sg lt L M (some (.own (.L rs))) x6 none none none none none none none) (env1 := enD o sg lt L M (some (.own (.L rs))) x6 none none none none none none none) (fun j e => ∃ o2, Pot (m + 3 * j) o2 ∧ e = enD o2 sg lt L M (some (.own (.L rs))) x6 none none none none none none none) (Tx Ql 2) (by simp [evi, e_var, enD, RV.dat, boSl]) (by simp) (lim8 (by omega)) ⟨o, hp, by simp [wipeD, enD]⟩ (fun j e d hd hj hI => by
    obtain ⟨o2, q1, q2⟩ := hI
    subst q2
    obtain ⟨cs, o4, v1, v2, v3, v4⟩ := s_row (N := N) (k := k) (Q := Ql) (u := 2) (v := .list lt) (xs := lt) q1 (by omega) rfl hl1 (by omega) (by omega) hlt
    have v1' : run F N (k + 3) 30 [.own o2, .val (.list lt), .val (.int 2)] = some (.val (.str (strOf cs)), [some (.own o4), some (.val (.list lt)), some (.val (.int 2))]) := v1
    refine ⟨.tuple [d, .str (strOf cs)], enD o4 sg lt L M (some (.own (.L rs))) x6 none none none none none none (some (.val d)), ?_, ⟨o4, v4.mono (by omega), by simp [wipeD, enD]⟩, by simp [wipeD, enD], ⟨_, rfl, cs, Nat.zero_le _, v2, v3, rfl⟩⟩
    simp [turnQ, evq, b_val, enD, e_tup, e_call, evs, e_var, e_cst, refr, passA, valSl, gd_pos, l2, v1', retOk, noList, backA, nl_pot v4, RV.dat, RV.frz])
  subst g3
  have bk : backD (enD o sg lt L M (some (.own (.L rs))) x6 none none none none none none none) (enD o2 sg lt L M (some (.own (.L rs))) x6 none none none none none none none) [13] = enD o2 sg lt L M (some (.own (.L rs))) x6 none none none none none none none := by
    simp [backD, valAt, enD]
  simp only [List.map_cons, List.map_nil, bk] at g1
  obtain ⟨kvs, d1, d2⟩ := dict_tx hs (by omega) g4
  have c1 : ex (run F N (k + 3)) N [0] dE (enD o sg lt L M (some (.own (.L rs))) x6 none none none none none none none) = some (.nx (enD o2 sg lt L M (some (.own (.L rs))) x6 none none none (some (.own (.K kvs))) none none none)) := by
    unfold dE
    unfold enD at g1 ⊢
    simp [ex, e_bc, evs, g1, refr, d1, b_fr]
  obtain ⟨out, env', r1, r2, r3, r4⟩ := comp_inv2 (C := run F N (k + 3)) (elt := (.tup (.cons (.var 11) (.cons (.slc (.mth .join (.cst (PyData.str "")) (.cons (.comp (.idx (.var 10) (.var 13)) (.nm 13) (.vals (.var 11)) .no [("sign", 13)]) .nil)) .no (.yes (.cst (PyData.int 8)))) .nil)))) (tg := .nm 11) (it := .vals (.var 5)) (cs := .no) (own := [("row", 11)]) (ds := rs) (bs := [5]) (env := enD o2 sg lt L M (some (.own (.L rs))) x6 none none none (some (.own (.K kvs))) none none none) (env1 := enD o2 sg lt L M (some (.own (.L rs))) x6 none none none (some (.own (.K kvs))) none none none) (fun j e => e = enD o2 sg lt L M (some (.own (.L rs))) x6 none none none (some (.own (.K kvs))) none none none) (fun _ z => Ey z) (by simp [evi, e_var, enD, RV.dat, boSl]) (by simp) (lim8 (by omega)) (by simp [wipeD, enD]) (fun j e d hd hj hI => by
    subst hI
    have hd8 := hrs d hd
    obtain ⟨cs, b1, b2, b3, b4⟩ := hrs d hd
    subst b4
    obtain ⟨ts, env2, t1, t2, t3, t4⟩ := comp_inv2 (C := run F N (k + 3)) (elt := .idx (.var 10) (.var 13)) (tg := .nm 13) (it := .vals (.var 11)) (cs := .no) (own := [("sign", 13)]) (ds := cs.map fun c => .str ⟨#[c]⟩) (bs := []) (env := enD o2 sg lt L M (some (.own (.L rs))) x6 none none none (some (.own (.K kvs))) (some (.val (.str (strOf cs)))) none none) (env1 := enD o2 sg lt L M (some (.own (.L rs))) x6 none none none (some (.own (.K kvs))) (some (.val (.str (strOf cs)))) none none) (fun j e => e = enD o2 sg lt L M (some (.own (.L rs))) x6 none none none (some (.own (.K kvs))) (some (.val (.str (strOf cs)))) none none) (fun _ z => St Ql 0 2 z) (by rw [← chars_str]; simp [evi, e_var, enD, RV.dat]) (by simp) (by rw [List.length_map]; exact lim8 (by omega)) (by simp [wipeD, enD]) (fun j e d hd hj hI => by
      subst hI
      obtain ⟨c, hc, e⟩ := List.mem_map.mp hd
      subst e
      obtain ⟨y, y1, y2⟩ := d2 c (hin c (b3 c hc))
      have ix : opIdx (.bo 10 (.K kvs)) (.val (.str ⟨#[c]⟩)) = some y := y1
      refine ⟨y, enD o2 sg lt L M (some (.own (.L rs))) x6 none none none (some (.own (.K kvs))) (some (.val (.str (strOf cs)))) none (some (.val (.str ⟨#[c]⟩))), ?_, by simp [wipeD, enD], by simp, y2⟩
      simp [turnQ, evq, b_val, enD, e_idx, e_var, refr, ix, RV.frz])
    subst t2
    rw [List.length_map] at t4
    have bk : backD (enD o2 sg lt L M (some (.own (.L rs))) x6 none none none (some (.own (.K kvs))) (some (.val (.str (strOf cs)))) none none) (enD o2 sg lt L M (some (.own (.L rs))) x6 none none none (some (.own (.K kvs))) (some (.val (.str (strOf cs)))) none none) [13] = enD o2 sg lt L M (some (.own (.L rs))) x6 none none none (some (.own (.K kvs))) (some (.val (.str (strOf cs)))) none none := by
      simp [backD, valAt, enD]
    simp only [List.map_cons, List.map_nil, bk] at t1
    obtain ⟨z, z1, z2⟩ := join_st (n := 8) (fun x hx => (t3 x hx).elim fun _ h => h.2) (by omega) (by omega)
    obtain ⟨w, w1, w2⟩ := slc_st z2 (by omega)
    refine ⟨.tuple [.str (strOf cs), w], enD o2 sg lt L M (some (.own (.L rs))) x6 none none none (some (.own (.K kvs))) (some (.val (.str (strOf cs)))) none none, ?_, by simp [wipeD, enD], by simp [wipeD, enD], Ey_of hQ (fun _ h => h) hd8 w2⟩
    have sl : ev (run F N (k + 3)) (.slc (.mth .join (.cst (PyData.str "")) (.cons (.comp (.idx (.var 10) (.var 13)) (.nm 13) (.vals (.var 11)) .no [("sign", 13)]) .nil)) .no (.yes (.cst (PyData.int 8)))) (enD o2 sg lt L M (some (.own (.L rs))) x6 none none none (some (.own (.K kvs))) (some (.val (.str (strOf cs)))) none none) = some (.val w, enD o2 sg lt L M (some (.own (.L rs))) x6 none none none (some (.own (.K kvs))) (some (.val (.str (strOf cs)))) none none) := by
      simp [e_slc, evo, e_mth, e_cst, evs, t1, mtOk, refr, gd_pos, z1, w1]
    unfold enD at sl ⊢
    simp [turnQ, evq, b_val, e_tup, evs, e_var, refr, gd_pos, l2, sl, RV.frz])
  subst r2
  refine ⟨o2, kvs, out, ?_, g2.mono (by omega), fun x hx => (r3 x hx).elim fun _ h => h.2, r4⟩
  have bk2 : backD (enD o2 sg lt L M (some (.own (.L rs))) x6 none none none (some (.own (.K kvs))) none none none) (enD o2 sg lt L M (some (.own (.L rs))) x6 none none none (some (.own (.K kvs))) none none none) [11] = enD o2 sg lt L M (some (.own (.L rs))) x6 none none none (some (.own (.K kvs))) none none none := by
    simp [backD, valAt, enD]
  simp only [List.map_cons, List.map_nil, bk2] at r1
  have c2 : ex (run F N (k + 3)) N [0] dF (enD o2 sg lt L M (some (.own (.L rs))) x6 none none none (some (.own (.K kvs))) none none none) = some (.nx (enD o2 sg lt L M (some (.own (.L rs))) x6 (some (.own (.L out))) none none (some (.own (.K kvs))) none none none)) := by
    unfold dF
    rw [ex, r1]
    simp [b_fr, enD]
  rw [exsN c1, exs1 c2]
end PT
set_option maxRecDepth 100000
set_option maxHeartbeats 4000000
/-! T19: the dictionary: the last steps. -/
namespace PT
open PySem PL
open L2 (Key)
variable {N k : Nat}
def dG : S :=
(.asg (.nm 8) (.call 24 (.cons (.var 0) (.cons (.bc .len (.cons (.var 7) .nil)) .nil)) [some 0, none]))
def dH : S :=
(.set 7 (.var 8) (.tup (.cons (.idx (.idx (.var 7) (.var 8)) (.cst (PyData.int 0))) (.cons (.call 30 (.cons (.var 0) (.cons (.var 2) (.cons (.cst (PyData.int 3)) .nil))) [some 0, none, none]) .nil))))
def dI : S :=
(.app 7 (.tup (.cons (.call 25 (.cons (.var 0) (.cons (.var 5) .nil)) [some 0, none]) (.cons (.call 30 (.cons (.var 0) (.cons (.var 2) (.cons (.cst (PyData.int 2)) .nil))) [some 0, none, none]) .nil))))
def dP : S :=
(.par [5, 6] (.cons (.call 32 (.cons (.var 0) (.cons (.var 1) (.cons (.var 3) (.cons (.var 4) .nil)))) [some 0, none, none, none]) (.cons (.call 24 (.cons (.var 0) (.cons (.cst (PyData.int 5)) .nil)) [some 0, none]) .nil)))
def dR : S :=
(.ret (.bc .tuple (.cons (.call 27 (.cons (.var 7) .nil) [none]) .nil)))
def dW : S := .ite (.cmp .Eq (.var 6) (.cst (PyData.int 0))) (.cons dB .nil) (.cons (.ite (.cmp .Eq (.var 6) (.cst (PyData.int 1))) (.cons dC (.cons dD1 .nil)) (.cons dE (.cons dF .nil))) .nil)
def dX : S := .ite (.cmp .Eq (.var 6) (.cst (PyData.int 4))) (.cons dG (.cons dH .nil)) .nil
def dY : S := .ite (.cmp .Eq (.call 24 (.cons (.var 0) (.cons (.cst (PyData.int 6)) .nil)) [some 0, none]) (.cst (PyData.int 0))) (.cons dI .nil) .nil
theorem b_36 : b__law_dictionary = .cons dP (.cons dW (.cons dX (.cons dY (.cons dR .nil)))) := rfl

theorem dk_all {Q : Nat → Prop} {m w : Nat} {o : Ob} {sg lt rs : List Da} {L M : Nat} (hp : Pot m o) (hm : m + 1000 ≤ 10 ^ 9) (hlt : ∀ x ∈ lt, S1 Ql x) (hl1 : 1 ≤ lt.length) (hl2 : lt.length ≤ 26) (hQ : ∀ c, Q c → 97 ≤ c ∧ c ≤ 122) (hrs : ∀ x ∈ rs, St Q 1 8 x) (hr1 : 1 ≤ rs.length) (hr2 : rs.length ≤ 10) (hs : ∀ x ∈ sg, S1 Q x) (hsl : sg.length ≤ 26) (hin : ∀ c, Q c → PyData.str ⟨#[c]⟩ ∈ sg) :
    ∃ (o' : Ob) (es : List Da) (x9 x10 : Option SV), ex (run F N (k + 3)) N [0] dW (enD o sg lt L M (some (.own (.L rs))) (some (.val (.int w))) none none none none none none none) = some (.nx (enD o' sg lt L M (some (.own (.L rs))) (some (.val (.int w))) (some (.own (.L es))) none x9 x10 none none none)) ∧ Pot (m + 100) o' ∧ (∀ x ∈ es, Ey x) ∧ es.length = rs.length := by
  have t0 : evt (run F N (k + 3)) (.cmp .Eq (.var 6) (.cst (PyData.int 0))) (enD o sg lt L M (some (.own (.L rs))) (some (.val (.int w))) none none none none none none none) = some (decide ((w : Int) = 0), enD o sg lt L M (some (.own (.L rs))) (some (.val (.int w))) none none none none none none none) := by
    simp [enD, evt_cmp, e_var, e_cst, refr, opCmp, RV.dat, opEq]
  have t1 : evt (run F N (k + 3)) (.cmp .Eq (.var 6) (.cst (PyData.int 1))) (enD o sg lt L M (some (.own (.L rs))) (some (.val (.int w))) none none none none none none none) = some (decide ((w : Int) = 1), enD o sg lt L M (some (.own (.L rs))) (some (.val (.int w))) none none none none none none none) := by
    simp [enD, evt_cmp, e_var, e_cst, refr, opCmp, RV.dat, opEq]
  unfold dW; rw [ex_ite t0]
  by_cases h0 : (w : Int) = 0
  · rw [if_pos (decide_eq_true h0)]
    obtain ⟨o', es, a, b, c, d⟩ := dk0 (N := N) (k := k) (sg := sg) (L := L) (M := M) (x6 := (some (.val (.int w)))) hp hm hlt hl1 hl2 hQ hrs hr1 hr2
    exact ⟨o', es, none, none, exs1 a, b, c, d⟩
  rw [if_neg (by simpa using h0)]
  by_cases h1 : (w : Int) = 1
  · obtain ⟨o', ys, es, a, b, c, d⟩ := dk1 (N := N) (k := k) (sg := sg) (L := L) (M := M) (x6 := (some (.val (.int w)))) hp hm hlt hl1 hl2 hQ hrs hr1 hr2
    refine ⟨o', es, some (.own (.L ys)), none, exs1 ?_, b, c, d⟩
    rw [ex_ite t1, if_pos (decide_eq_true h1)]
    exact a
  · obtain ⟨o', kvs, es, a, b, c, d⟩ := dk2 (N := N) (k := k) (sg := sg) (L := L) (M := M) (x6 := (some (.val (.int w)))) hp hm hlt hl1 hl2 hQ hrs hr1 hr2 hs hsl hin
    refine ⟨o', es, none, some (.own (.K kvs)), exs1 ?_, b, c, d⟩
    rw [ex_ite t1, if_neg (by simpa using h1)]
    exact a
theorem ixN_nat {n j : Nat} (h : j < n) : L2.ixN n (j : Int) = some j := by
  unfold L2.ixN
  simp [h]
theorem eD_0 (e : Ent) : opIdx (.val (eD e)) (.val (.int 0)) = some (.str e.1) := rfl
theorem dk_x {m w : Nat} {o : Ob} {sg lt rs es : List Da} {L M : Nat} {x9 x10 : Option SV} (hp : Pot m o) (hm : m + 1000 ≤ 10 ^ 9) (hlt : ∀ x ∈ lt, S1 Ql x) (hl1 : 1 ≤ lt.length) (hl2 : lt.length ≤ 26) (he : ∀ x ∈ es, Ey x) (h1 : 1 ≤ es.length) (h2 : es.length ≤ 10) :
    ∃ (o' : Ob) (es' : List Da) (x8 : Option SV), ex (run F N (k + 3)) N [0] dX (enD o sg lt L M (some (.own (.L rs))) (some (.val (.int w))) (some (.own (.L es))) none x9 x10 none none none) = some (.nx (enD o' sg lt L M (some (.own (.L rs))) (some (.val (.int w))) (some (.own (.L es'))) x8 x9 x10 none none none)) ∧ Pot (m + 100) o' ∧ (∀ x ∈ es', Ey x) ∧ es'.length = es.length := by
  have t4 : evt (run F N (k + 3)) (.cmp .Eq (.var 6) (.cst (PyData.int 4))) (enD o sg lt L M (some (.own (.L rs))) (some (.val (.int w))) (some (.own (.L es))) none x9 x10 none none none) = some (decide ((w : Int) = 4), enD o sg lt L M (some (.own (.L rs))) (some (.val (.int w))) (some (.own (.L es))) none x9 x10 none none none) := by
    simp [enD, evt_cmp, e_var, e_cst, refr, opCmp, RV.dat, opEq]
  unfold dX; rw [ex_ite t4]
  by_cases h4 : (w : Int) = 4
  · rw [if_pos (decide_eq_true h4)]
    obtain ⟨j, o1, a, hj, hp1⟩ := s_take (N := N) (k := k + 2) (u := es.length) hp (by omega) (by omega) (by omega)
    have hln : bcall .len [RV.bo 7 (.L es)] = some (.val (.int es.length)) := by simp [bcall, RV.dat]
    have c1 : ex (run F N (k + 3)) N [0] dG (enD o sg lt L M (some (.own (.L rs))) (some (.val (.int w))) (some (.own (.L es))) none x9 x10 none none none) = some (.nx (enD o1 sg lt L M (some (.own (.L rs))) (some (.val (.int w))) (some (.own (.L es))) (some (.val (.int j))) x9 x10 none none none)) := by
      unfold dG enD
      simp [ex, e_call, e_bc, evs, e_var, refr, hln, passA, valSl, gd_pos, a, retOk, noList, backA, nl_pot hp1, RV.dat, b_val]
    obtain ⟨cs, o2, v1, v2, v3, v4⟩ := s_row (N := N) (k := k) (Q := Ql) (u := 3) (v := .list lt) (xs := lt) hp1 (by omega) rfl hl1 (by omega) (by omega) hlt
    have v1' : run F N (k + 3) 30 [.own o1, .val (.list lt), .val (.int 3)] = some (.val (.str (strOf cs)), [some (.own o2), some (.val (.list lt)), some (.val (.int 3))]) := v1
    have ix : opIdx (.bo 7 (.L es)) (.val (.int j)) = some es[j] := by
      simp only [opIdx, RV.dat]; exact at_of hj
    obtain ⟨e, e1, e2⟩ := he _ (List.getElem_mem hj)
    rw [e1] at ix
    have l2 : 2 ≤ LIM := lim8 (by omega)
    have ey : Ey (.tuple [.str e.1, .str (strOf cs)]) := by
      have el : (strOf cs).length = cs.length := by simp [strOf, Str.length]
      exact ⟨(e.1, strOf cs), rfl, e2.1, Nat.zero_le _, by rw [el]; omega, fun c hc => v3 c (by simpa [strOf] using hc)⟩
    have c2 : ex (run F N (k + 3)) N [0] dH (enD o1 sg lt L M (some (.own (.L rs))) (some (.val (.int w))) (some (.own (.L es))) (some (.val (.int j))) x9 x10 none none none) = some (.nx (enD o2 sg lt L M (some (.own (.L rs))) (some (.val (.int w))) (some (.own (.L (es.set j (.tuple [.str e.1, .str (strOf cs)]))))) (some (.val (.int j))) x9 x10 none none none)) := by
      unfold dH enD
      simp [ex, e_tup, e_idx, e_call, evs, e_var, e_cst, refr, ix, eD_0, v1', passA, valSl, gd_pos, l2, retOk, noList, backA, nl_pot v4, RV.dat, RV.frz, ixN_nat hj]
    refine ⟨o2, es.set j (.tuple [.str e.1, .str (strOf cs)]), some (.val (.int j)), ?_, v4.mono (by omega), fun x hx => ?_, by rw [List.length_set]⟩
    · rw [exsN c1, exs1 c2]
    · rcases List.mem_or_eq_of_mem_set hx with q | q
      · exact he x q
      · rw [q]; exact ey
  · rw [if_neg (by simpa using h4)]
    exact ⟨o, es, none, by rw [exs], hp.mono (by omega), he, rfl⟩
theorem dk_y {Q : Nat → Prop} {m w : Nat} {o : Ob} {sg lt rs es : List Da} {L M : Nat} {x8 x9 x10 : Option SV} (hp : Pot m o) (hm : m + 1000 ≤ 10 ^ 9) (hlt : ∀ x ∈ lt, S1 Ql x) (hl1 : 1 ≤ lt.length) (hl2 : lt.length ≤ 26) (hQ : ∀ c, Q c → 97 ≤ c ∧ c ≤ 122) (hrs : ∀ x ∈ rs, St Q 1 8 x) (hr1 : 1 ≤ rs.length) (hr2 : rs.length ≤ 10) (he : ∀ x ∈ es, Ey x) (h1 : 1 ≤ es.length) (h2 : es.length ≤ 10) :
    ∃ (o' : Ob) (es' : List Da), ex (run F N (k + 3)) N [0] dY (enD o sg lt L M (some (.own (.L rs))) (some (.val (.int w))) (some (.own (.L es))) x8 x9 x10 none none none) = some (.nx (enD o' sg lt L M (some (.own (.L rs))) (some (.val (.int w))) (some (.own (.L es'))) x8 x9 x10 none none none)) ∧ Pot (m + 100) o' ∧ (∀ x ∈ es', Ey x) ∧ 1 ≤ es'.length ∧ es'.length ≤ es.length + 1 := by
  obtain ⟨u, o1, a, hu, hp1⟩ := s_take (N := N) (k := k + 2) (u := 6) hp (by omega) (by omega) (by omega)
  have a' : run F N (k + 3) 24 [.own o, .val (.int 6)] = some (.val (.int u), [some (.own o1), some (.val (.int 6))]) := a
  have t6 : evt (run F N (k + 3)) (.cmp .Eq (.call 24 (.cons (.var 0) (.cons (.cst (PyData.int 6)) .nil)) [some 0, none]) (.cst (PyData.int 0))) (enD o sg lt L M (some (.own (.L rs))) (some (.val (.int w))) (some (.own (.L es))) x8 x9 x10 none none none) = some (decide ((u : Int) = 0), enD o1 sg lt L M (some (.own (.L rs))) (some (.val (.int w))) (some (.own (.L es))) x8 x9 x10 none none none) := by
    simp [enD, evt_cmp, e_call, evs, e_var, e_cst, refr, a', passA, valSl, gd_pos, retOk, noList, backA, nl_pot hp1, RV.dat, opCmp, opEq]
  unfold dY; rw [ex_ite t6]
  by_cases h6 : (u : Int) = 0
  · rw [if_pos (decide_eq_true h6)]
    obtain ⟨x, o2, b, b1, hp2⟩ := s_of (N := N) (k := k + 1) (v := .list rs) (xs := rs) hp1 (by omega) rfl (by omega) (by omega)
    obtain ⟨cs, o3, v1, v2, v3, v4⟩ := s_row (N := N) (k := k) (Q := Ql) (u := 2) (v := .list lt) (xs := lt) hp2 (by omega) rfl hl1 (by omega) (by omega) hlt
    have v1' : run F N (k + 3) 30 [.own o2, .val (.list lt), .val (.int 2)] = some (.val (.str (strOf cs)), [some (.own o3), some (.val (.list lt)), some (.val (.int 2))]) := v1
    have ey : Ey (.tuple [x, .str (strOf cs)]) := Ey_of hQ (fun _ h => h) (hrs x b1) ⟨cs, Nat.zero_le _, by omega, v3, rfl⟩
    have nx := st_noList (hrs x b1)
    have l2 : 2 ≤ LIM := lim8 (by omega)
    have ll : es.length < LIM := Nat.lt_of_lt_of_le (show es.length < 1000 by omega) (lim8 (by omega))
    refine ⟨o3, es ++ [.tuple [x, .str (strOf cs)]], exs1 ?_, v4.mono (by omega), fun z hz => ?_, by simp, by simp⟩
    · unfold dI enD
      simp [ex, e_tup, e_call, evs, e_var, e_cst, refr, b, v1', passA, valSl, gd_pos, l2, ll, retOk, noList, nx, backA, nl_pot hp2, nl_pot v4, RV.dat, RV.frz]
    · rcases List.mem_append.mp hz with q | q
      · exact he z q
      · rw [List.mem_singleton.mp q]; exact ey
  · rw [if_neg (by simpa using h6)]
    exact ⟨o1, es, by rw [exs], hp1.mono (by omega), he, h1, by omega⟩
end PT
set_option maxRecDepth 100000
set_option maxHeartbeats 4000000
/-! T20: the dictionary. -/
namespace PT
open PySem PL
open L2 (Key)
variable {N k : Nat}

theorem s_dictionary {m : Nat} {o : Ob} {sg lt : List Da} {L M : Nat} (hp : Pot m o) (hm : m + 10000 ≤ 10 ^ 9) (hs : ∀ x ∈ sg, S1 Ql x) (hs1 : sg.length = 2) (hlt : ∀ x ∈ lt, S1 Ql x) (hl1 : lt.length = 2) (hL : 1 ≤ L) (hL2 : L ≤ 8) (hM : 1 ≤ M) (hM2 : M ≤ 8) :
    ∃ (o' : Ob) (d : List Ent), run F N (k + 6) 33 [.own o, .val (.list sg), .val (.list lt), .val (.int L), .val (.int M)] = some (.val (dD d), [some (.own o'), some (.val (.list sg)), some (.val (.list lt)), some (.val (.int L)), some (.val (.int M))]) ∧ Pot (m + 5000) o' ∧ Dk d ∧ d.length ≤ M + 1 := by
  have hQ : ∀ c : Nat, PyData.str ⟨#[c]⟩ ∈ sg → 97 ≤ c ∧ c ≤ 122 := fun c h => by
    obtain ⟨c', h1, h2⟩ := hs _ h
    cases h2
    exact h1
  have hs' : ∀ x ∈ sg, S1 (fun c => PyData.str ⟨#[c]⟩ ∈ sg) x := fun x hx => by
    obtain ⟨c', h1, h2⟩ := hs _ hx
    subst h2
    exact ⟨c', hx, rfl⟩
  obtain ⟨o1, rs, a, a1, a2, a3, a4⟩ := s_outlines (N := N) (k := k) (Q := fun c => PyData.str ⟨#[c]⟩ ∈ sg) (sg := sg) (L := L) (M := M) hp (by omega) hs' (by omega) (by omega) hL hL2 hM (by omega) (fun c h => (hQ c h).2)
  have a2' : ∀ x ∈ rs, St (fun c => PyData.str ⟨#[c]⟩ ∈ sg) 1 8 x := fun x hx => (a2 x hx).mono (by omega) (by omega)
  obtain ⟨w, o2, b, b1, hp2⟩ := s_take (N := N) (k := k + 4) (u := 5) a1 (by omega) (by omega) (by omega)
  have b' : run F N (k + 5) 24 [.own o1, .val (.int 5)] = some (.val (.int w), [some (.own o2), some (.val (.int 5))]) := b
  have nr : obNl (.L rs) = true := st_nl a2
  have c1 : ex (run F N (k + 5)) N [0] dP [some (.own o), some (.val (.list sg)), some (.val (.list lt)), some (.val (.int L)), some (.val (.int M)), none, none, none, none, none, none, none, none, none] = some (.nx (enD o2 sg lt L M (some (.own (.L rs))) (some (.val (.int w))) none none none none none none none)) := by
    unfold dP enD
    simp [ex, e_call, evs, e_var, e_cst, refr, a, b', passA, valSl, gd_pos, retOk, noList, nr, backA, nl_pot a1, nl_pot hp2, RV.dat, bindP, b_fr, b_val]
  obtain ⟨o3, es, x9, x10, c2, hp3, e1, e2⟩ := dk_all (N := N) (k := k + 2) (w := w) (L := L) (M := M) hp2 (by omega) hlt (by omega) (by omega) hQ a2' a3 (by omega) hs' (by omega) (fun c h => h)
  obtain ⟨o4, es4, x8, c3, hp4, e3, e4⟩ := dk_x (N := N) (k := k + 2) (w := w) (sg := sg) (rs := rs) (L := L) (M := M) (x9 := x9) (x10 := x10) hp3 (by omega) hlt (by omega) (by omega) e1 (by omega) (by omega)
  obtain ⟨o5, es5, c4, hp5, e5, e6, e7⟩ := dk_y (N := N) (k := k + 2) (w := w) (sg := sg) (rs := rs) (L := L) (M := M) (x8 := x8) (x9 := x9) (x10 := x10) hp4 (by omega) hlt (by omega) (by omega) hQ a2' a3 (by omega) e3 (by omega) (by omega)
  obtain ⟨E5, q1, q2, q3⟩ := Ey_list e5
  subst q1
  rw [List.length_map] at e6 e7 q3
  obtain ⟨U, u1, u2, u3, u4, u5⟩ := s_unlike_e (N := N) (k := k + 4) (l := E5) e6 (by omega)
  have hU : 1 ≤ U.length := by
    obtain ⟨x, hx⟩ := List.exists_mem_of_length_pos (show 0 < E5.length by omega)
    exact List.length_pos_of_mem ((u4 x).mpr hx)
  have dk : Dk U := ⟨hU, by omega, fun e he => q2 e ((u4 e).mp he), u3, u2⟩
  have nu : obNl (.L (U.map eD)) = true := nl_es U
  refine ⟨o5, U, ?_, hp5.mono (by omega), dk, by omega⟩
  have c5 : ex (run F N (k + 5)) N [0] dR (enD o5 sg lt L M (some (.own (.L rs))) (some (.val (.int w))) (some (.own (.L (E5.map eD)))) x8 x9 x10 none none none) = some (.rt (.val (dD U)) (enD o5 sg lt L M (some (.own (.L rs))) (some (.val (.int w))) (some (.own (.L (E5.map eD)))) x8 x9 x10 none none none)) := by
    unfold dR enD
    simp [ex, e_bc, e_call, evs, e_var, refr, u1, passA, valSl, gd_pos, retOk, nu, backA, RV.dat, bcall, dD]
  rw [run_of F_33 rfl (by decide) rfl rfl]
  simp only [f__law_dictionary, b_36, List.map_cons, List.map_nil, List.replicate, List.cons_append, List.nil_append, Nat.reduceSub]
  rw [exsN c1, exsN c2, exsN c3, exsN c4, exs, c5]
  simp only [Option.bind_some]
  unfold enD
  simp [PL.finish, retV, gd_pos]
end PT
set_option maxRecDepth 100000
set_option maxHeartbeats 4000000
/-! M2: kernels. -/
namespace PT
open PySem PL
open L2 (Key)
variable {N k : Nat}
/-! ### one sequence -/
theorem le_tot (a b : Ent) : leE a b = true ∨ leE b a = true := by
  have tot := PySem.W.sortLe_total (PyProof.Rows.listOrd PyProof.Rows.itemOrd) false (fun e : Ent => PySem.W.keyToks (eD e))
  exact tot.total a b
theorem le_tr {a b c : Ent} (h1 : leE a b = true) (h2 : leE b c = true) : leE a c = true := by
  have tot := PySem.W.sortLe_total (PyProof.Rows.listOrd PyProof.Rows.itemOrd) false (fun e : Ent => PySem.W.keyToks (eD e))
  exact tot.trans a b c h1 h2
theorem le_anti {a b : Ent} (h1 : leE a b = true) (h2 : leE b a = true) : a = b := Classical.byContradiction fun n => by
  have := lt_of_le h1 n
  rw [leE_eq, this] at h2
  cases h2
theorem le_lt {a b : Ent} (h : PySem.W.dataLt (eD a) (eD b) = true) : leE a b = true := by
  rcases le_tot a b with q | q
  · exact q
  · rw [leE_eq, h] at q
    cases q
theorem asc_pw : ∀ {l : List Ent}, asc l → l.Pairwise fun a b => leE a b = true
  | [], _ => .nil
  | [x], _ => by simp
  | x :: y :: l, h => by
    have h1 : leE x y = true := le_lt (h (x, y) (by simp))
    have h2 : asc (y :: l) := fun p hp => h p (by
      rw [List.drop_succ_cons, List.drop_zero, List.zip_cons_cons]
      exact List.mem_cons_of_mem _ (by simpa using hp))
    have ih := asc_pw h2
    refine List.pairwise_cons.mpr ⟨fun z hz => ?_, ih⟩
    rcases List.mem_cons.mp hz with e | hz
    · rw [e]; exact h1
    · exact le_tr h1 ((List.pairwise_cons.mp ih).1 z hz)
theorem pw_eq : ∀ {a b : List Ent}, (a.Pairwise fun x y => leE x y = true) → (b.Pairwise fun x y => leE x y = true) → a.Nodup → b.Nodup → (∀ x, x ∈ a ↔ x ∈ b) → a = b
  | [], [], _, _, _, _, _ => rfl
  | [], y :: b, _, _, _, _, h => absurd ((h y).mpr List.mem_cons_self) (by simp)
  | x :: a, [], _, _, _, _, h => absurd ((h x).mp List.mem_cons_self) (by simp)
  | x :: a, y :: b, h1, h2, n1, n2, h => by
    obtain ⟨p1, q1⟩ := List.pairwise_cons.mp h1
    obtain ⟨p2, q2⟩ := List.pairwise_cons.mp h2
    obtain ⟨m1, r1⟩ := List.nodup_cons.mp n1
    obtain ⟨m2, r2⟩ := List.nodup_cons.mp n2
    have e : x = y := by
      rcases List.mem_cons.mp ((h x).mp List.mem_cons_self) with e | u
      · exact e
      · rcases List.mem_cons.mp ((h y).mpr List.mem_cons_self) with e | v
        · exact e.symm
        · exact le_anti (p1 y v) (p2 x u)
    subst e
    rw [pw_eq q1 q2 r1 r2 fun z => ?_]
    constructor
    · intro hz
      rcases List.mem_cons.mp ((h z).mp (List.mem_cons_of_mem _ hz)) with e | u
      · subst e; exact absurd hz m1
      · exact u
    · intro hz
      rcases List.mem_cons.mp ((h z).mpr (List.mem_cons_of_mem _ hz)) with e | u
      · subst e; exact absurd hz m2
      · exact u
theorem asc_eq {a b : List Ent} (h1 : asc a) (h2 : asc b) (n1 : a.Nodup) (n2 : b.Nodup) (h : ∀ x, x ∈ a ↔ x ∈ b) : a = b := pw_eq (asc_pw h1) (asc_pw h2) n1 n2 h
theorem Dk_eq {a b : List Ent} (h1 : Dk a) (h2 : Dk b) (h : ∀ x, x ∈ a ↔ x ∈ b) : a = b := asc_eq h1.2.2.2.1 h2.2.2.2.1 h1.2.2.2.2 h2.2.2.2.2 h
theorem pw_asc : ∀ {l : List Ent}, (l.Pairwise fun a b => leE a b = true) → l.Nodup → asc l
  | [], _, _ => fun p hp => by simp at hp
  | [x], _, _ => fun p hp => by simp at hp
  | x :: y :: l, h, n => by
    obtain ⟨p1, q1⟩ := List.pairwise_cons.mp h
    obtain ⟨m1, r1⟩ := List.nodup_cons.mp n
    have ih := pw_asc q1 r1
    intro p hp
    rw [List.drop_succ_cons, List.drop_zero, List.zip_cons_cons] at hp
    rcases List.mem_cons.mp hp with e | hp
    · rw [e]
      exact lt_of_le (p1 y List.mem_cons_self) fun z => m1 (by have z : x = y := z; rw [z]; exact List.mem_cons_self)
    · exact ih p (by simpa using hp)
theorem asc_filter {l : List Ent} (h : asc l) (n : l.Nodup) (p : Ent → Bool) : asc (l.filter p) := pw_asc ((asc_pw h).filter p) (n.filter p)
theorem sE_fix {l : List Ent} (h : asc l) (n : l.Nodup) : sE l = l := asc_eq (sE_asc n) h (sE_nodup n) n fun _ => sE_mem
/-! ### without -/
def wo (d : List Ent) (e : Ent) : List Ent := d.filter fun x => decide (x ≠ e)
theorem wo_mem {d : List Ent} {e x : Ent} : x ∈ wo d e ↔ x ∈ d ∧ x ≠ e := by
  unfold wo
  rw [List.mem_filter, decide_eq_true_eq]
theorem wo_len {d : List Ent} {e : Ent} (h : e ∈ d) (n : d.Nodup) : (wo d e).length + 1 = d.length := by
  unfold wo
  induction d with
  | nil => cases h
  | cons x d ih =>
    obtain ⟨m, r⟩ := List.nodup_cons.mp n
    by_cases q : x = e
    · subst q
      have : (x :: d).filter (fun z => decide (z ≠ x)) = d := by
        rw [List.filter_cons, if_neg (by simp)]
        exact List.filter_eq_self.mpr fun z hz => decide_eq_true fun w => m (by rw [← w]; exact hz)
      rw [this, List.length_cons]
    · have he : e ∈ d := (List.mem_cons.mp h).resolve_left fun z => q z.symm
      rw [List.filter_cons, if_pos (decide_eq_true q), List.length_cons, List.length_cons, ih he r]
theorem wo_Dk {d : List Ent} {e : Ent} (h : Dk d) (he : e ∈ d) (hl : 1 < d.length) : Dk (wo d e) := by
  have := wo_len he h.2.2.2.2
  exact ⟨by omega, by have := h.2.1; omega, fun x hx => h.2.2.1 x (wo_mem.mp hx).1, asc_filter h.2.2.2.1 h.2.2.2.2 _, h.2.2.2.2.filter _⟩
/-! ### kernels -/
open Classical in
noncomputable def made (o : List Ent) (e : Ent) : Bool := decide (Sp o e)
theorem made_iff {o : List Ent} {e : Ent} : made o e = true ↔ Sp o e := by
  classical
  unfold made
  exact decide_eq_true_iff
theorem Sp_sub {o o' : List Ent} {e : Ent} (h : Sp o e) (q : ∀ x ∈ o, x ∈ o') : Sp o' e := Sp_trans h fun x hx => Sp_mem (q x hx)
noncomputable def ker (d : List Ent) : List Ent := d.filter fun e => !made (wo d e) e
theorem ker_mem {d : List Ent} {e : Ent} : e ∈ ker d ↔ e ∈ d ∧ ¬ Sp (wo d e) e := by
  unfold ker
  rw [List.mem_filter, Bool.not_eq_true', ← Bool.not_eq_true, made_iff]
theorem sum1 : ∀ es : List Ent, (es.flatMap fun x => x.1.cps.toList).length = (es.map fun x => x.1.length).sum
  | [] => rfl
  | x :: es => by
    rw [List.flatMap_cons, List.length_append, sum1 es, List.map_cons, List.sum_cons]
    simp [Str.length]
/-- what a row is made of is shorter than it -/
theorem shorter {es : List Ent} {e : Ent} (hl : ∀ x ∈ es, 1 ≤ x.1.length) (h1 : e.1.cps.toList = es.flatMap fun x => x.1.cps.toList) (h2 : e.2.cps.toList = es.flatMap fun x => x.2.cps.toList) (hn : e ∉ es) : ∀ x ∈ es, x.1.length < e.1.length := by
  intro x hx
  obtain ⟨l1, l2, q⟩ := List.append_of_mem hx
  have el : e.1.length = (es.map fun x => x.1.length).sum := by
    rw [← sum1, ← h1]; simp [Str.length]
  have pos : ∀ l : List Ent, (∀ y ∈ l, 1 ≤ y.1.length) → l.length ≤ (l.map fun x => x.1.length).sum := fun l => by
    induction l with
    | nil => exact fun _ => Nat.le_refl _
    | cons y l ih =>
      intro h
      have a := ih fun z hz => h z (List.mem_cons_of_mem _ hz)
      have b := h y List.mem_cons_self
      simp only [List.map_cons, List.sum_cons, List.length_cons]
      omega
  subst q
  have p1 := pos l1 fun y hy => hl y (List.mem_append_left _ hy)
  have p2 := pos l2 fun y hy => hl y (List.mem_append_right _ (List.mem_cons_of_mem _ hy))
  rw [List.map_append, List.sum_append, List.map_cons, List.sum_cons] at el
  by_cases q : l1 = [] ∧ l2 = []
  · exfalso
    obtain ⟨a, b⟩ := q
    subst a b
    apply hn
    have : e = x := Prod.ext (str_ext (by simpa using h1)) (str_ext (by simpa using h2))
    rw [this]; simp
  · have : 1 ≤ l1.length + l2.length := by
      rcases l1 with _ | ⟨_, _⟩
      · rcases l2 with _ | ⟨_, _⟩
        · exact absurd ⟨rfl, rfl⟩ q
        · simp
      · simp; omega
    omega
theorem no_longer {es : List Ent} {e : Ent} (h1 : e.1.cps.toList = es.flatMap fun x => x.1.cps.toList) : ∀ x ∈ es, x.1.length ≤ e.1.length := by
  intro x hx
  obtain ⟨l1, l2, q⟩ := List.append_of_mem hx
  have el : e.1.length = (es.map fun x => x.1.length).sum := by
    rw [← sum1, ← h1]; simp [Str.length]
  subst q
  rw [List.map_append, List.sum_append, List.map_cons, List.sum_cons] at el
  omega
theorem ker_gen {d : List Ent} (h : ∀ e ∈ d, Le e) : ∀ (n : Nat) (e : Ent), e ∈ d → e.1.length ≤ n → Sp (ker d) e
  | 0, e, he, hn => by have := (h e he).1.1; omega
  | n + 1, e, he, hn => by
    by_cases q : Sp (wo d e) e
    · obtain ⟨es, g1, g2, g3⟩ := q
      have sh := shorter (fun x hx => (h x (wo_mem.mp (g1 x hx)).1).1.1) g2 g3 fun z => (wo_mem.mp (g1 e z)).2 rfl
      exact Sp_trans (o := es) ⟨es, fun _ z => z, g2, g3⟩ fun x hx => ker_gen h n x (wo_mem.mp (g1 x hx)).1 (by have := sh x hx; omega)
    · exact Sp_mem (ker_mem.mpr ⟨he, q⟩)
theorem ker_all {d : List Ent} (h : ∀ e ∈ d, Le e) : ∀ e ∈ d, Sp (ker d) e := fun e he => ker_gen h _ e he (Nat.le_refl _)
/-- an entry of the kernel stands in whatever makes it -/
theorem ker_in {d o es : List Ent} {e : Ent} (hd : ∀ x ∈ d, Le x) (ho : ∀ x ∈ o, Le x) (he : e ∈ ker d) (q : ∀ x ∈ o, Sp d x) (g1 : ∀ x ∈ es, x ∈ o) (g2 : e.1.cps.toList = es.flatMap fun x => x.1.cps.toList) (g3 : e.2.cps.toList = es.flatMap fun x => x.2.cps.toList) : e ∈ es :=
  Classical.byContradiction fun hn => by
    obtain ⟨h1, h2⟩ := ker_mem.mp he
    have sh := shorter (fun x hx => (ho x (g1 x hx)).1.1) g2 g3 hn
    apply h2
    refine Sp_trans (o := es) ⟨es, fun _ z => z, g2, g3⟩ fun x hx => ?_
    obtain ⟨fs, f1, f2, f3⟩ := q x (g1 x hx)
    have nl := no_longer f2
    refine ⟨fs, fun f hf => wo_mem.mpr ⟨f1 f hf, fun z => ?_⟩, f2, f3⟩
    subst z
    have := nl f hf
    have := sh x hx
    omega
theorem ker_sub {d o : List Ent} (hd : ∀ x ∈ d, Le x) (ho : ∀ x ∈ o, Le x) (q1 : ∀ x ∈ d, Sp o x) (q2 : ∀ x ∈ o, Sp d x) : ∀ e ∈ ker d, e ∈ ker o := by
  intro e he
  obtain ⟨h1, h2⟩ := ker_mem.mp he
  obtain ⟨es, g1, g2, g3⟩ := q1 e h1
  refine ker_mem.mpr ⟨g1 e (ker_in hd ho he q2 g1 g2 g3), fun z => ?_⟩
  obtain ⟨gs, f1, f2, f3⟩ := z
  have := ker_in hd ho he q2 (fun x hx => (wo_mem.mp (f1 x hx)).1) f2 f3
  exact (wo_mem.mp (f1 e this)).2 rfl
theorem ker_nil {d : List Ent} (h : Dk d) : 1 ≤ (ker d).length := by
  obtain ⟨x, xs, e⟩ := List.exists_cons_of_length_pos h.1
  have hx : x ∈ d := by rw [e]; exact List.mem_cons_self
  obtain ⟨es, g1, g2, g3⟩ := ker_all h.2.2.1 x hx
  rcases hes : es with _ | ⟨y, ys⟩
  · subst hes
    have := (h.2.2.1 x hx).1.1
    have e0 : x.1.length = x.1.cps.toList.length := by simp [Str.length]
    rw [e0, g2] at this
    simp at this
  · exact List.length_pos_of_mem (g1 y (by rw [hes]; exact List.mem_cons_self))
theorem ker_Dk {d : List Ent} (h : Dk d) : Dk (ker d) :=
  ⟨ker_nil h, Nat.le_trans (List.length_filter_le _ _) h.2.1, fun e he => h.2.2.1 e (ker_mem.mp he).1, asc_filter h.2.2.2.1 h.2.2.2.2 _, h.2.2.2.2.filter _⟩
theorem ker_eq {d o : List Ent} (hd : Dk d) (ho : Dk o) (q1 : ∀ x ∈ d, Sp o x) (q2 : ∀ x ∈ o, Sp d x) : ker d = ker o :=
  Dk_eq (ker_Dk hd) (ker_Dk ho) fun e => ⟨ker_sub hd.2.2.1 ho.2.2.1 q1 q2 e, ker_sub ho.2.2.1 hd.2.2.1 q2 q1 e⟩
theorem ker_within {d o : List Ent} (hd : Dk d) (ho : Dk o) (h : ker d = ker o) : ∀ x ∈ d, Sp o x := fun x hx =>
  Sp_sub (ker_all hd.2.2.1 x hx) fun y hy => (ker_mem.mp (by rw [← h]; exact hy : y ∈ ker o)).1
/-- the same exactly if the kernels are -/
theorem same_ker {d o : List Ent} (hd : Dk d) (ho : Dk o) (hN : 200 ≤ N) : (wi N d o && wi N o d) = decide (ker d = ker o) := by
  rw [Bool.eq_iff_iff, Bool.and_eq_true, wi_iff hd ho hN, wi_iff ho hd hN, decide_eq_true_eq]
  exact ⟨fun h => ker_eq hd ho h.1 h.2, fun h => ⟨ker_within hd ho h, ker_within ho hd h.symm⟩⟩
theorem ker_self {d : List Ent} (h : ∀ e ∈ d, ¬ Sp (wo d e) e) : ker d = d := by
  unfold ker
  refine List.filter_eq_self.mpr fun e he => ?_
  rw [Bool.not_eq_true', ← Bool.not_eq_true, made_iff]
  exact h e he
end PT
set_option maxRecDepth 100000
set_option maxHeartbeats 4000000
/-! U1: points that are come to: plain. -/
namespace PT
open PySem PL
open L2 (Key)
variable {N k : Nat}
def kn (ps : List Pt) : List (List Key × Da) := ps.map fun p => (([Sum.inl (p.1 : Int), Sum.inl (p.2 : Int)] : List Key), PyData.bool true)
def kK (a b : Nat) : List Key := [Sum.inl (a : Int), Sum.inl (b : Int)]
theorem kK_eq {a b c d : Nat} : (kK a b = kK c d) ↔ ((a, b) : Pt) = (c, d) := by
  unfold kK
  simp only [List.cons.injEq, Sum.inl.injEq, and_true, Prod.mk.injEq]
  omega
theorem has_kn (a b : Nat) : ∀ ps : List Pt, has (kn ps) (kK a b) = decide ((a, b) ∈ ps)
  | [] => rfl
  | (c, d) :: ps => by
    have ih := has_kn a b ps
    unfold has look kn at ih ⊢
    rw [List.map_cons, List.find?_cons]
    by_cases q : ((c, d) : Pt) = (a, b)
    · have e : decide (([Sum.inl (c : Int), Sum.inl (d : Int)] : List Key) = kK a b) = true := decide_eq_true (kK_eq.mpr q)
      simp only [e]
      rw [decide_eq_true (by rw [q]; exact List.mem_cons_self)]
      rfl
    · have e : decide (([Sum.inl (c : Int), Sum.inl (d : Int)] : List Key) = kK a b) = false := decide_eq_false fun z => q (kK_eq.mp z)
      simp only [e]
      rw [ih]
      refine decide_eq_decide.mpr ?_
      constructor
      · exact fun h => List.mem_cons_of_mem _ h
      · exact fun h => (List.mem_cons.mp h).resolve_left fun z => q z.symm
def ins (ps : List Pt) (p : Pt) : List Pt := if p ∈ ps then ps else ps ++ [p]
theorem put_kn (ps : List Pt) (a b : Nat) : put (kn ps) (kK a b) (.bool true) = kn (ins ps (a, b)) := by
  unfold put ins
  rw [has_kn]
  by_cases q : (a, b) ∈ ps
  · rw [decide_eq_true q, if_pos rfl, if_pos q]
    conv => rhs; rw [← List.map_id (kn ps)]
    refine List.map_congr_left fun kv hkv => ?_
    obtain ⟨p, _, e⟩ := List.mem_map.mp hkv
    subst e
    split <;> rfl
  · rw [decide_eq_false q, if_neg (by simp), if_neg q]
    unfold kn
    rw [List.map_append]
    rfl
theorem ins_mem {ps : List Pt} {p q : Pt} : q ∈ ins ps p ↔ q ∈ ps ∨ q = p := by
  unfold ins
  split
  · rename_i h
    constructor
    · exact Or.inl
    · rintro (h | h)
      · exact h
      · rw [h]; assumption
  · rw [List.mem_append, List.mem_singleton]
theorem ins_nodup {ps : List Pt} {p : Pt} (h : ps.Nodup) : (ins ps p).Nodup := by
  unfold ins
  split
  · exact h
  · rename_i q
    exact List.nodup_append.mpr ⟨h, by simp, fun x hx y hy => by rw [List.mem_singleton.mp hy]; intro z; exact q (z ▸ hx)⟩
theorem nodup_lt9 : ∀ (n : Nat) (l : List Nat), l.Nodup → (∀ x ∈ l, x < n) → l.length ≤ n
  | 0, l, _, h => by
    cases l with
    | nil => simp
    | cons x l => exact absurd (h x List.mem_cons_self) (by omega)
  | n + 1, l, hn, h => by
    have g := nodup_lt9 n (l.erase n) (hn.erase n) fun x hx => by
      have := (List.Nodup.mem_erase_iff hn).mp hx
      have := h x this.2
      omega
    rw [List.length_erase] at g
    split at g <;> omega
/-- points of a field of nine by nine, unlike -/
def Fd (ps : List Pt) (L T : Nat) : Prop := ps.Nodup ∧ ∀ p ∈ ps, p.1 ≤ L ∧ p.2 ≤ T
theorem Fd_len {ps : List Pt} {L T : Nat} (h : Fd ps L T) (hL : L ≤ 8) (hT : T ≤ 8) : ps.length ≤ 81 := by
  have := nodup_lt9 81 (ps.map fun p => p.1 * 9 + p.2) (by
    rw [List.Nodup, List.pairwise_map]
    refine List.Pairwise.imp_of_mem ?_ h.1
    intro a b ha hb n z
    have h1 := h.2 a ha
    have h2 := h.2 b hb
    exact n (Prod.ext (by omega) (by omega))) fun x hx => by
      obtain ⟨p, hp, e⟩ := List.mem_map.mp hx
      have := h.2 p hp
      omega
  simpa using this
/-- entry x stands at (a, t) of e -/
def mt (e : Ent) (a t : Nat) (x : Ent) : Prop := (e.1.cps.toList.drop a).take x.1.length = x.1.cps.toList ∧ (e.2.cps.toList.drop t).take x.2.length = x.2.cps.toList
instance (e : Ent) (a t : Nat) (x : Ent) : Decidable (mt e a t x) := by unfold mt; infer_instance
def nx (a t : Nat) (x : Ent) : Pt := (a + x.1.length, t + x.2.length)
theorem len_cps (s : Str) : s.cps.toList.length = s.length := by simp [Str.length]
theorem mt_le {e x : Ent} {a t : Nat} (h : mt e a t x) (ha : a ≤ e.1.length) (ht : t ≤ e.2.length) : a + x.1.length ≤ e.1.length ∧ t + x.2.length ≤ e.2.length := by
  have h1 := congrArg List.length h.1
  have h2 := congrArg List.length h.2
  rw [List.length_take, List.length_drop, len_cps, len_cps] at h1 h2
  omega
/-- come to by entries of o -/
def rc (o : List Ent) (e : Ent) (p : Pt) : Prop := p.1 ≤ e.1.length ∧ p.2 ≤ e.2.length ∧ ∃ es : List Ent, (∀ x ∈ es, x ∈ o) ∧ e.1.cps.toList.take p.1 = (es.flatMap fun x => x.1.cps.toList) ∧ e.2.cps.toList.take p.2 = (es.flatMap fun x => x.2.cps.toList)
theorem rc_nx {o : List Ent} {e x : Ent} {a t : Nat} (h : rc o e (a, t)) (hx : x ∈ o) (hm : mt e a t x) : rc o e (nx a t x) := by
  obtain ⟨h1, h2, es, g1, g2, g3⟩ := h
  obtain ⟨l1, l2⟩ := mt_le hm h1 h2
  refine ⟨l1, l2, es ++ [x], fun y hy => ?_, ?_, ?_⟩
  · rcases List.mem_append.mp hy with q | q
    · exact g1 y q
    · rw [List.mem_singleton.mp q]; exact hx
  · show e.1.cps.toList.take (a + x.1.length) = _
    have g2' : e.1.cps.toList.take a = _ := g2
    rw [List.take_add, g2', hm.1, List.flatMap_append]
    simp
  · show e.2.cps.toList.take (t + x.2.length) = _
    have g3' : e.2.cps.toList.take t = _ := g3
    rw [List.take_add, g3', hm.2, List.flatMap_append]
    simp
theorem rc_0 (o : List Ent) (e : Ent) : rc o e (0, 0) := ⟨Nat.zero_le _, Nat.zero_le _, [], by simp, by simp, by simp⟩
theorem rc_Sp {o : List Ent} {e : Ent} (h : rc o e (e.1.length, e.2.length)) : Sp o e := by
  obtain ⟨_, _, es, g1, g2, g3⟩ := h
  have e1 : e.1.cps.toList.take e.1.length = e.1.cps.toList := List.take_of_length_le (by rw [len_cps]; exact Nat.le_refl _)
  have e2 : e.2.cps.toList.take e.2.length = e.2.cps.toList := List.take_of_length_le (by rw [len_cps]; exact Nat.le_refl _)
  exact ⟨es, g1, by rw [← e1]; exact g2, by rw [← e2]; exact g3⟩
/-- a lot that is closed has the end, if e is made -/
theorem closed_end {o : List Ent} {e : Ent} {S : List Pt} (ho : ∀ x ∈ o, 1 ≤ x.1.length) (hc : ∀ a t, (a, t) ∈ S → a < e.1.length → ∀ x ∈ o, mt e a t x → nx a t x ∈ S) :
    ∀ (es : List Ent) (a t : Nat), (∀ x ∈ es, x ∈ o) → a ≤ e.1.length → t ≤ e.2.length → (a, t) ∈ S → e.1.cps.toList.drop a = (es.flatMap fun x => x.1.cps.toList) → e.2.cps.toList.drop t = (es.flatMap fun x => x.2.cps.toList) → (e.1.length, e.2.length) ∈ S
  | [], a, t, _, ha, ht, hs, h1, h2 => by
    have l1 := congrArg List.length h1
    have l2 := congrArg List.length h2
    rw [List.length_drop, len_cps] at l1 l2
    simp only [List.flatMap_nil, List.length_nil] at l1 l2
    have : ((e.1.length, e.2.length) : Pt) = (a, t) := Prod.ext (by show e.1.length = a; omega) (by show e.2.length = t; omega)
    rw [this]
    exact hs
  | x :: es, a, t, hm, ha, ht, hs, h1, h2 => by
    rw [List.flatMap_cons] at h1 h2
    have hx := hm x List.mem_cons_self
    have m : mt e a t x := by
      constructor
      · rw [h1, ← len_cps, List.take_left]
      · rw [h2, ← len_cps, List.take_left]
    obtain ⟨l1, l2⟩ := mt_le m ha ht
    have := ho x hx
    refine closed_end ho hc es (a + x.1.length) (t + x.2.length) (fun y hy => hm y (List.mem_cons_of_mem _ hy)) l1 l2 (hc a t hs (by omega) x hx m) ?_ ?_
    · rw [← List.drop_drop, h1, ← len_cps, List.drop_left]
    · rw [← List.drop_drop, h2, ← len_cps, List.drop_left]
theorem Sp_end {o : List Ent} {e : Ent} {S : List Pt} (ho : ∀ x ∈ o, 1 ≤ x.1.length) (h0 : (0, 0) ∈ S) (hc : ∀ a t, (a, t) ∈ S → a < e.1.length → ∀ x ∈ o, mt e a t x → nx a t x ∈ S) (h : Sp o e) : (e.1.length, e.2.length) ∈ S := by
  obtain ⟨es, g1, g2, g3⟩ := h
  exact closed_end ho hc es 0 0 g1 (Nat.zero_le _) (Nat.zero_le _) h0 (by simpa using g2) (by simpa using g3)
end PT
set_option maxRecDepth 100000
set_option maxHeartbeats 4000000
/-! U2: is_made. -/
namespace PT
open PySem PL
open L2 (Key)
variable {N k : Nat}
def enK (e : Ent) (o : List Ent) (ps : List Pt) (x3 x4 x5 x6 : Option SV) : En := [some (.val (eD e)), some (.val (.list (o.map eD))), some (.own (.T (kn ps))), x3, x4, x5, x6, none, none]
def uC : E :=
(.and (.cmp .Eq (.slc (.idx (.var 0) (.cst (PyData.int 0))) (.yes (.var 3)) (.yes (.bin .Add (.var 3) (.bc .len (.cons (.var 5) .nil))))) (.var 5)) (.cmp .Eq (.slc (.idx (.var 0) (.cst (PyData.int 1))) (.yes (.var 4)) (.yes (.bin .Add (.var 4) (.bc .len (.cons (.var 6) .nil))))) (.var 6)))
def uS : S :=
(.set 2 (.tup (.cons (.bin .Add (.var 3) (.bc .len (.cons (.var 5) .nil))) (.cons (.bin .Add (.var 4) (.bc .len (.cons (.var 6) .nil))) .nil))) (.cst (PyData.bool true)))
def uI : S := .ite uC (.cons uS .nil) .nil
def uJ : S := .for (.tp (.cons (.nm 5) (.cons (.nm 6) .nil))) (.vals (.var 1)) (.cons uI .nil)
def uK : S := .for (.nm 4) (.vals (.comp (.var 8) (.tp (.cons (.nm 7) (.cons (.nm 8) .nil))) (.vals (.bc .list (.cons (.var 2) .nil))) (.yes (.cmp .Eq (.var 7) (.var 3))) [("here", 7), ("its", 8)])) (.cons uJ .nil)
def uL : S := .for (.nm 3) (.rng1 (.bc .len (.cons (.idx (.var 0) (.cst (PyData.int 0))) .nil))) (.cons uK .nil)
def uA : S :=
(.asg (.nm 2) (.dT1 (.tup (.cons (.cst (PyData.int 0)) (.cons (.cst (PyData.int 0)) .nil))) (.cst (PyData.bool true))))
def uR : S :=
(.ret (.cmp .In (.tup (.cons (.bc .len (.cons (.idx (.var 0) (.cst (PyData.int 0))) .nil)) (.cons (.bc .len (.cons (.idx (.var 0) (.cst (PyData.int 1))) .nil)) .nil))) (.var 2)))
theorem b_is_made : b__law_is_made = .cons uA (.cons uL (.cons uR .nil)) := rfl

theorem cut_seg {l : List Nat} {a n : Nat} (h : a ≤ l.length) : cutD l (some (a : Int)) (some ((a : Int) + (n : Int))) = (l.drop a).take n := by
  unfold cutD
  have e1 : HT.sIx l.length 0 (some (a : Int)) = min a l.length := HT.sIx_nat l.length 0 a
  have e2 : HT.sIx l.length l.length (some ((a + n : Nat) : Int)) = min (a + n) l.length := HT.sIx_nat l.length l.length (a + n)
  have e3 : ((a + n : Nat) : Int) = (a : Int) + (n : Int) := by omega
  rw [e3] at e2
  rw [e1, e2, Nat.min_eq_left h]
  by_cases q : a + n ≤ l.length
  · rw [Nat.min_eq_left q]
    congr 1
    omega
  · rw [Nat.min_eq_right (by omega)]
    rw [List.take_of_length_le (by rw [List.length_drop]; omega), List.take_of_length_le (by rw [List.length_drop]; omega)]
theorem strOf_eq {l : List Nat} {s : Str} : strOf l = s ↔ l = s.cps.toList := by
  constructor
  · intro h; rw [← h]; simp [strOf]
  · intro h; rw [h]; exact strOf_toList s
theorem len_str {s : Str} (h : s.length ≤ 1000) : bcall .len [.val (.str s)] = some (.val (.int s.length)) := by
  simp only [bcall]
  rw [gd_pos (lim8 h)]
  rfl
theorem seg_eq {s x : Str} {a : Nat} (h : a ≤ s.length) (hs : s.length ≤ 1000) : (opSlc (.val (.str s)) (some (a : Int)) (some ((a : Int) + (x.length : Int)))).bind (fun r => opCmp .Eq r (.val (.str x))) = some (decide ((s.cps.toList.drop a).take x.length = x.cps.toList)) := by
  simp only [opSlc, RV.dat]
  rw [gd_pos (lim8 hs)]
  simp only [Option.map_some, Option.bind_some, opCmp, RV.dat, opEq]
  rw [cut_seg (by rw [len_cps]; exact h)]
  congr 1
  exact decide_eq_decide.mpr strOf_eq
theorem mk_cond {e x : Ent} {o : List Ent} {ps : List Pt} {a t : Nat} (he : Le e) (hx : Le x) (ha : a ≤ e.1.length) (ht : t ≤ e.2.length) :
    evt (run F N k) uC (enK e o ps (some (.val (.int (a : Int)))) (some (.val (.int (t : Int)))) (some (.val (.str x.1))) (some (.val (.str x.2)))) = some (decide (mt e a t x), (enK e o ps (some (.val (.int (a : Int)))) (some (.val (.int (t : Int)))) (some (.val (.str x.1))) (some (.val (.str x.2))))) := by
  have l1 := len_str (s := x.1) (by have := hx.1.2.1; omega)
  have l2 := len_str (s := x.2) (by have := hx.2.2.1; omega)
  have i0 : opIdx (.val (eD e)) (.val (.int 0)) = some (.str e.1) := rfl
  have i1 : opIdx (.val (eD e)) (.val (.int 1)) = some (.str e.2) := rfl
  have s1 := seg_eq (s := e.1) (x := x.1) ha (by have := he.1.2.1; omega)
  have s2 := seg_eq (s := e.2) (x := x.2) ht (by have := he.2.2.1; omega)
  obtain ⟨r1, p1, p2⟩ := Option.bind_eq_some_iff.mp s1
  obtain ⟨r2, p3, p4⟩ := Option.bind_eq_some_iff.mp s2
  have n1 : refr r1 (enK e o ps (some (.val (.int (a : Int)))) (some (.val (.int (t : Int)))) (some (.val (.str x.1))) (some (.val (.str x.2)))) = some r1 := by
    simp only [opSlc, RV.dat] at p1
    rw [gd_pos (lim8 (by have := he.1.2.1; omega))] at p1
    cases p1; rfl
  have n2 : refr r2 (enK e o ps (some (.val (.int (a : Int)))) (some (.val (.int (t : Int)))) (some (.val (.str x.1))) (some (.val (.str x.2)))) = some r2 := by
    simp only [opSlc, RV.dat] at p3
    rw [gd_pos (lim8 (by have := he.2.2.1; omega))] at p3
    cases p3; rfl
  have z1 : evt (run F N k) (.cmp .Eq (.slc (.idx (.var 0) (.cst (PyData.int 0))) (.yes (.var 3)) (.yes (.bin .Add (.var 3) (.bc .len (.cons (.var 5) .nil))))) (.var 5)) (enK e o ps (some (.val (.int (a : Int)))) (some (.val (.int (t : Int)))) (some (.val (.str x.1))) (some (.val (.str x.2)))) = some (decide ((e.1.cps.toList.drop a).take x.1.length = x.1.cps.toList), (enK e o ps (some (.val (.int (a : Int)))) (some (.val (.int (t : Int)))) (some (.val (.str x.1))) (some (.val (.str x.2))))) := by
    unfold enK at n1 ⊢
    simp [evt_cmp, e_slc, evo, e_idx, e_bin, e_bc, evs, e_var, e_cst, refr, i0, l1, m_add, p1, n1, p2]
    simp only [refr] at n1
    simp [n1, p2]
  have z2 : evt (run F N k) (.cmp .Eq (.slc (.idx (.var 0) (.cst (PyData.int 1))) (.yes (.var 4)) (.yes (.bin .Add (.var 4) (.bc .len (.cons (.var 6) .nil))))) (.var 6)) (enK e o ps (some (.val (.int (a : Int)))) (some (.val (.int (t : Int)))) (some (.val (.str x.1))) (some (.val (.str x.2)))) = some (decide ((e.2.cps.toList.drop t).take x.2.length = x.2.cps.toList), (enK e o ps (some (.val (.int (a : Int)))) (some (.val (.int (t : Int)))) (some (.val (.str x.1))) (some (.val (.str x.2))))) := by
    unfold enK at n2 ⊢
    simp [evt_cmp, e_slc, evo, e_idx, e_bin, e_bc, evs, e_var, e_cst, refr, i1, l2, m_add, p3, n2, p4]
    simp only [refr] at n2
    simp [n2, p4]
  unfold uC
  rw [evt_and, z1]
  simp only [Option.bind_some]
  by_cases q : (e.1.cps.toList.drop a).take x.1.length = x.1.cps.toList
  · rw [if_pos (decide_eq_true q), z2]
    congr 2
    unfold mt
    exact decide_eq_decide.mpr ⟨fun z => ⟨q, z⟩, fun z => z.2⟩
  · rw [if_neg (by simpa using q)]
    congr 2
    exact (decide_eq_false fun z => q z.1).symm
theorem mk_set {e x : Ent} {o : List Ent} {ps : List Pt} {a t : Nat} (hx : Le x) (hl : ps.length ≤ 1000) :
    ex (run F N k) N [] uS (enK e o ps (some (.val (.int (a : Int)))) (some (.val (.int (t : Int)))) (some (.val (.str x.1))) (some (.val (.str x.2)))) = some (.nx (enK e o (ins ps (nx a t x)) (some (.val (.int (a : Int)))) (some (.val (.int (t : Int)))) (some (.val (.str x.1))) (some (.val (.str x.2))))) := by
  have l1 := len_str (s := x.1) (by have := hx.1.2.1; omega)
  have l2 := len_str (s := x.2) (by have := hx.2.2.1; omega)
  have lm2 : 2 ≤ LIM := lim8 (by omega)
  have kl : (kn ps).length < LIM := by
    unfold kn
    rw [List.length_map]
    have : 1001 ≤ LIM := by unfold LIM; omega
    omega
  have ky : keysD [.int ((a : Int) + (x.1.length : Int)), .int ((t : Int) + (x.2.length : Int))] = some (kK (a + x.1.length) (t + x.2.length)) := by
    have e1 : ((a + x.1.length : Nat) : Int) = (a : Int) + (x.1.length : Int) := by omega
    have e2 : ((t + x.2.length : Nat) : Int) = (t : Int) + (x.2.length : Int) := by omega
    unfold kK
    rw [e1, e2]
    rfl
  have pk := put_kn ps (a + x.1.length) (t + x.2.length)
  have cc : ev (run F N k) (.tup (.cons (.bin .Add (.var 3) (.bc .len (.cons (.var 5) .nil))) (.cons (.bin .Add (.var 4) (.bc .len (.cons (.var 6) .nil))) .nil))) (enK e o ps (some (.val (.int (a : Int)))) (some (.val (.int (t : Int)))) (some (.val (.str x.1))) (some (.val (.str x.2)))) = some (.val (.tuple [.int ((a : Int) + (x.1.length : Int)), .int ((t : Int) + (x.2.length : Int))]), (enK e o ps (some (.val (.int (a : Int)))) (some (.val (.int (t : Int)))) (some (.val (.str x.1))) (some (.val (.str x.2))))) := by
    unfold enK
    simp [e_tup, e_bin, e_bc, evs, e_var, refr, l1, l2, m_add, RV.frz, gd_pos, lm2]
  unfold uS nx
  unfold enK at cc ⊢
  simp [ex, e_cst, RV.frz, cc, ky, gd_pos, kl, pk]
/-- over the entries -/
theorem mk_in {e : Ent} {o : List Ent} {a t : Nat} (he : Le e) (ha : a ≤ e.1.length) (ht : t ≤ e.2.length) {env0 : En} : ∀ (xs : List Ent) (ps : List Pt) (x5 x6 : Option SV), (∀ x ∈ xs, Le x) → Fd ps e.1.length e.2.length →
    ∃ (ps' : List Pt) (y5 y6 : Option SV), forL [] (fun q en => (bindT [] (.tp (.cons (.nm 5) (.cons (.nm 6) .nil))) (.val q) en).bind fun e1 => exs (run F N k) N [] (.cons uI .nil) e1) (xs.map eD) env0 (enK e o ps (some (.val (.int (a : Int)))) (some (.val (.int (t : Int)))) x5 x6) = some (.nx (enK e o ps' (some (.val (.int (a : Int)))) (some (.val (.int (t : Int)))) y5 y6)) ∧ Fd ps' e.1.length e.2.length ∧ (∀ p ∈ ps, p ∈ ps') ∧
      (∀ x ∈ xs, mt e a t x → nx a t x ∈ ps') ∧ (∀ p ∈ ps', p ∈ ps ∨ ∃ x ∈ xs, mt e a t x ∧ p = nx a t x)
  | [], ps, x5, x6, _, hf => ⟨ps, x5, x6, by rw [List.map_nil, forL], hf, fun _ h => h, by simp, fun p h => .inl h⟩
  | x :: xs, ps, x5, x6, hx, hf => by
    have hx0 := hx x List.mem_cons_self
    have hb : bindT [] (.tp (.cons (.nm 5) (.cons (.nm 6) .nil))) (.val (eD x)) (enK e o ps (some (.val (.int (a : Int)))) (some (.val (.int (t : Int)))) x5 x6) = some (enK e o ps (some (.val (.int (a : Int)))) (some (.val (.int (t : Int)))) (some (.val (.str x.1))) (some (.val (.str x.2)))) := by
      simp [eD, b_tp, bindTs, b_val, enK]
    have c := mk_cond (N := N) (k := k) (o := o) (ps := ps) he hx0 ha ht
    have lp := Fd_len hf (by have := he.1.2.1; omega) (by have := he.2.2.1; omega)
    by_cases q : mt e a t x
    · rw [decide_eq_true q] at c
      have s := mk_set (N := N) (k := k) (e := e) (o := o) (ps := ps) (a := a) (t := t) hx0 (by omega)
      obtain ⟨l1, l2⟩ := mt_le q ha ht
      have hf' : Fd (ins ps (nx a t x)) e.1.length e.2.length := ⟨ins_nodup hf.1, fun p hp => by
        rcases ins_mem.mp hp with h | h
        · exact hf.2 p h
        · rw [h]; exact ⟨l1, l2⟩⟩
      obtain ⟨ps', y5, y6, g1, g2, g3, g4, g5⟩ := mk_in (o := o) he ha ht (env0 := env0) xs (ins ps (nx a t x)) (some (.val (.str x.1))) (some (.val (.str x.2))) (fun y hy => hx y (List.mem_cons_of_mem _ hy)) hf'
      refine ⟨ps', y5, y6, ?_, g2, fun p hp => g3 p (ins_mem.mpr (.inl hp)), fun y hy hm => ?_, fun p hp => ?_⟩
      · rw [List.map_cons, forL, hb]
        simp only [Option.bind_some]
        have i : ex (run F N k) N [] uI (enK e o ps (some (.val (.int (a : Int)))) (some (.val (.int (t : Int)))) (some (.val (.str x.1))) (some (.val (.str x.2)))) = some (.nx (enK e o (ins ps (nx a t x)) (some (.val (.int (a : Int)))) (some (.val (.int (t : Int)))) (some (.val (.str x.1))) (some (.val (.str x.2))))) := by
          unfold uI
          rw [ex_ite c, if_pos rfl]
          exact exs1 s
        rw [exs1 i]
        simp only [Option.bind_some]
        rw [gd_pos (by simp)]
        exact g1
      · rcases List.mem_cons.mp hy with h | h
        · rw [h]; exact g3 _ (ins_mem.mpr (.inr rfl))
        · exact g4 y h hm
      · rcases g5 p hp with h | ⟨y, hy, h1, h2⟩
        · rcases ins_mem.mp h with h | h
          · exact .inl h
          · exact .inr ⟨x, List.mem_cons_self, q, h⟩
        · exact .inr ⟨y, List.mem_cons_of_mem _ hy, h1, h2⟩
    · rw [decide_eq_false q] at c
      obtain ⟨ps', y5, y6, g1, g2, g3, g4, g5⟩ := mk_in (o := o) he ha ht (env0 := env0) xs ps (some (.val (.str x.1))) (some (.val (.str x.2))) (fun y hy => hx y (List.mem_cons_of_mem _ hy)) hf
      refine ⟨ps', y5, y6, ?_, g2, g3, fun y hy hm => ?_, fun p hp => ?_⟩
      · rw [List.map_cons, forL, hb]
        simp only [Option.bind_some]
        have i : ex (run F N k) N [] uI (enK e o ps (some (.val (.int (a : Int)))) (some (.val (.int (t : Int)))) (some (.val (.str x.1))) (some (.val (.str x.2)))) = some (.nx (enK e o ps (some (.val (.int (a : Int)))) (some (.val (.int (t : Int)))) (some (.val (.str x.1))) (some (.val (.str x.2))))) := by
          unfold uI
          rw [ex_ite c, if_neg (by simp), exs]
        rw [exs1 i]
        simp only [Option.bind_some]
        rw [gd_pos (by simp)]
        exact g1
      · rcases List.mem_cons.mp hy with h | h
        · rw [h] at hm; exact absurd hm q
        · exact g4 y h hm
      · rcases g5 p hp with h | ⟨y, hy, h1, h2⟩
        · exact .inl h
        · exact .inr ⟨y, List.mem_cons_of_mem _ hy, h1, h2⟩
/-- over the places of the text -/
theorem mk_mid {e : Ent} {o : List Ent} {a : Nat} (he : Le e) (ho : ∀ x ∈ o, Le x) (ha : a ≤ e.1.length) {env0 : En} : ∀ (ts : List Nat) (ps : List Pt) (x4 x5 x6 : Option SV), (∀ t ∈ ts, t ≤ e.2.length) → Fd ps e.1.length e.2.length →
    ∃ (ps' : List Pt) (y4 y5 y6 : Option SV), forL [] (fun q en => (bindT [] (.nm 4) (.val q) en).bind fun e1 => exs (run F N k) N [] (.cons uJ .nil) e1) (ts.map fun (t : Nat) => .int t) env0 (enK e o ps (some (.val (.int (a : Int)))) x4 x5 x6) = some (.nx (enK e o ps' (some (.val (.int (a : Int)))) y4 y5 y6)) ∧ Fd ps' e.1.length e.2.length ∧ (∀ p ∈ ps, p ∈ ps') ∧
      (∀ t ∈ ts, ∀ x ∈ o, mt e a t x → nx a t x ∈ ps') ∧ (∀ p ∈ ps', p ∈ ps ∨ ∃ t ∈ ts, ∃ x ∈ o, mt e a t x ∧ p = nx a t x)
  | [], ps, x4, x5, x6, _, hf => ⟨ps, x4, x5, x6, by rw [List.map_nil, forL], hf, fun _ h => h, by simp, fun p h => .inl h⟩
  | t :: ts, ps, x4, x5, x6, ht, hf => by
    obtain ⟨p1, z5, z6, f1, f2, f3, f4, f5⟩ := mk_in (N := N) (k := k) (o := o) he ha (ht t List.mem_cons_self) (env0 := (enK e o ps (some (.val (.int (a : Int)))) (some (.val (.int (t : Int)))) x5 x6)) o ps x5 x6 ho hf
    obtain ⟨ps', y4, y5, y6, g1, g2, g3, g4, g5⟩ := mk_mid he ho ha (env0 := env0) ts p1 (some (.val (.int (t : Int)))) z5 z6 (fun y hy => ht y (List.mem_cons_of_mem _ hy)) f2
    refine ⟨ps', y4, y5, y6, ?_, g2, fun p hp => g3 p (f3 p hp), fun y hy x hx hm => ?_, fun p hp => ?_⟩
    · have hb : bindT [] (.nm 4) (.val (.int (t : Int))) (enK e o ps (some (.val (.int (a : Int)))) x4 x5 x6) = some (enK e o ps (some (.val (.int (a : Int)))) (some (.val (.int (t : Int)))) x5 x6) := by
        simp [b_val, enK]
      have hi : evi (run F N k) (.vals (.var 1)) (enK e o ps (some (.val (.int (a : Int)))) (some (.val (.int (t : Int)))) x5 x6) = some (o.map eD, [], (enK e o ps (some (.val (.int (a : Int)))) (some (.val (.int (t : Int)))) x5 x6)) := by
        simp [evi, e_var, enK, RV.dat, boSl]
      have i : ex (run F N k) N [] uJ (enK e o ps (some (.val (.int (a : Int)))) (some (.val (.int (t : Int)))) x5 x6) = some (.nx (enK e o p1 (some (.val (.int (a : Int)))) (some (.val (.int (t : Int)))) z5 z6)) := by
        unfold uJ
        rw [ex, hi]
        simp only [Option.bind_some]
        rw [gd_pos (by simp)]
        exact f1
      rw [List.map_cons, forL, hb]
      simp only [Option.bind_some]
      rw [exs1 i]
      simp only [Option.bind_some]
      rw [gd_pos (by simp)]
      exact g1
    · rcases List.mem_cons.mp hy with h | h
      · rw [h] at hm ⊢; exact g3 _ (f4 x hx hm)
      · exact g4 y h x hx hm
    · rcases g5 p hp with h | ⟨y, hy, h⟩
      · rcases f5 p h with h | ⟨x, hx, h⟩
        · exact .inl h
        · exact .inr ⟨t, List.mem_cons_self, x, hx, h⟩
      · exact .inr ⟨y, List.mem_cons_of_mem _ hy, h⟩
/-- so far -/
def Mv (e : Ent) (o : List Ent) (a : Nat) (ps : List Pt) : Prop := Fd ps e.1.length e.2.length ∧ ((0, 0) : Pt) ∈ ps ∧ (∀ p ∈ ps, rc o e p) ∧ ∀ a' t, ((a', t) : Pt) ∈ ps → a' < a → ∀ x ∈ o, mt e a' t x → nx a' t x ∈ ps
def tos (a : Nat) (ps : List Pt) : List Nat := (ps.filter fun p => decide (p.1 = a)).map (·.2)
theorem tos_mem {a t : Nat} {ps : List Pt} : t ∈ tos a ps ↔ ((a, t) : Pt) ∈ ps := by
  unfold tos
  rw [List.mem_map]
  constructor
  · rintro ⟨p, hp, e⟩
    obtain ⟨h1, h2⟩ := List.mem_filter.mp hp
    have : p = (a, t) := Prod.ext (of_decide_eq_true h2) e
    rw [← this]; exact h1
  · exact fun h => ⟨(a, t), List.mem_filter.mpr ⟨h, decide_eq_true rfl⟩, rfl⟩
def gT (a : Nat) (z : Da) : Option Da := match z with
  | .tuple [.int i, .int j] => if i = (a : Int) then some (.int j) else none
  | _ => none
theorem gT_map (a : Nat) : ∀ ps : List Pt, ((kn ps).map fun kv => PyData.tuple (kv.1.map dOfKey)).filterMap (gT a) = (tos a ps).map fun (t : Nat) => .int t
  | [] => rfl
  | (c, t) :: ps => by
    have ih := gT_map a ps
    have e1 : gT a (.tuple ([Sum.inl (c : Int), Sum.inl (t : Int)].map dOfKey)) = if (c : Int) = (a : Int) then some (.int t) else none := rfl
    unfold kn at ih ⊢
    rw [List.map_cons, List.map_cons, List.filterMap_cons, e1, ih]
    unfold tos
    rw [List.filter_cons]
    by_cases q : c = a
    · rw [if_pos (by omega), if_pos (decide_eq_true q)]
      rfl
    · rw [if_neg (by omega), if_neg (by simpa using q)]
theorem mk_turn {e : Ent} {o : List Ent} {a : Nat} {ps : List Pt} {x4 x5 x6 : Option SV} (he : Le e) (ho : ∀ x ∈ o, Le x) (ha : a < e.1.length) (hv : Mv e o a ps) :
    ∃ (ps' : List Pt) (y4 y5 y6 : Option SV), ex (run F N k) N [] uK (enK e o ps (some (.val (.int (a : Int)))) x4 x5 x6) = some (.nx (enK e o ps' (some (.val (.int (a : Int)))) y4 y5 y6)) ∧ Mv e o (a + 1) ps' := by
  obtain ⟨v1, v2, v3, v4⟩ := hv
  obtain ⟨ps', y4, y5, y6, g1, g2, g3, g4, g5⟩ := mk_mid (N := N) (k := k) he ho (Nat.le_of_lt ha) (env0 := (enK e o ps (some (.val (.int (a : Int)))) x4 x5 x6)) (tos a ps) ps x4 x5 x6 (fun t ht => (v1.2 _ (tos_mem.mp ht)).2) v1
  refine ⟨ps', y4, y5, y6, ?_, g2, g3 _ v2, fun p hp => ?_, fun a' t h1 h2 x hx hm => ?_⟩
  · have lk : ((kn ps).map fun kv => PyData.tuple (kv.1.map dOfKey)).length ≤ LIM := by
      unfold kn
      rw [List.length_map, List.length_map]
      have := Fd_len v1 (by have := he.1.2.1; omega) (by have := he.2.2.1; omega)
      exact lim8 (by omega)
    have hk : evi (run F N k) (.vals (.bc .list (.cons (.var 2) .nil))) (enK e o ps (some (.val (.int (a : Int)))) x4 x5 x6) = some ((kn ps).map fun kv => PyData.tuple (kv.1.map dOfKey), [], (enK e o ps (some (.val (.int (a : Int)))) x4 x5 x6)) := by
      have b : bcall .list [.bo 2 (.T (kn ps))] = some (.fr (.L ((kn ps).map fun kv => PyData.tuple (kv.1.map dOfKey)))) := rfl
      simp [evi, e_bc, evs, e_var, enK, refr, b, RV.dat, boSl]
    have hc : ev (run F N k) (.comp (.var 8) (.tp (.cons (.nm 7) (.cons (.nm 8) .nil))) (.vals (.bc .list (.cons (.var 2) .nil))) (.yes (.cmp .Eq (.var 7) (.var 3))) [("here", 7), ("its", 8)]) (enK e o ps (some (.val (.int (a : Int)))) x4 x5 x6) = some (.fr (.L ((tos a ps).map fun (t : Nat) => .int t)), (enK e o ps (some (.val (.int (a : Int)))) x4 x5 x6)) := by
      rw [comp_map (gT a) hk (by simp) lk (fun z hz => by
        obtain ⟨kv, hkv, e1⟩ := List.mem_map.mp hz
        obtain ⟨⟨c, t⟩, hp, e2⟩ := List.mem_map.mp hkv
        subst e2 e1
        refine ⟨[some (.val (eD e)), some (.val (.list (o.map eD))), some (.own (.T (kn ps))), (some (.val (.int (a : Int)))), x4, x5, x6, some (.val (.int (c : Int))), some (.val (.int (t : Int)))], ?_, by simp [wipeD, enK]⟩
        have eq : opCmp .Eq (.val (.int (c : Int))) (.val (.int (a : Int))) = some (decide ((c : Int) = (a : Int))) := rfl
        have gg : gT a (.tuple ([Sum.inl (c : Int), Sum.inl (t : Int)].map dOfKey)) = if (c : Int) = (a : Int) then some (.int t) else none := rfl
        rw [gg]
        by_cases q : (c : Int) = (a : Int)
        · rw [if_pos q]
          rw [decide_eq_true q] at eq
          simp [turnQ, evq, dOfKey, b_tp, bindTs, b_val, enK, wipeD, evt_cmp, e_var, refr, eq, RV.frz]
        · rw [if_neg q]
          rw [decide_eq_false q] at eq
          simp [turnQ, evq, dOfKey, b_tp, bindTs, b_val, enK, wipeD, evt_cmp, e_var, refr, eq, RV.frz])]
      rw [gT_map]
      simp [backD, wipeD, valAt, enK]
    have hi : evi (run F N k) (.vals (.comp (.var 8) (.tp (.cons (.nm 7) (.cons (.nm 8) .nil))) (.vals (.bc .list (.cons (.var 2) .nil))) (.yes (.cmp .Eq (.var 7) (.var 3))) [("here", 7), ("its", 8)])) (enK e o ps (some (.val (.int (a : Int)))) x4 x5 x6) = some ((tos a ps).map fun (t : Nat) => .int t, [], (enK e o ps (some (.val (.int (a : Int)))) x4 x5 x6)) := by
      rw [evi, hc]
      simp [RV.dat, boSl]
    unfold uK
    rw [ex, hi]
    simp only [Option.bind_some]
    rw [gd_pos (by simp)]
    exact g1
  · rcases g5 p hp with h | ⟨t, ht, x, hx, hm, e1⟩
    · exact v3 p h
    · rw [e1]; exact rc_nx (v3 _ (tos_mem.mp ht)) hx hm
  · rcases g5 _ h1 with h | ⟨t0, ht0, y, hy, hm0, e1⟩
    · by_cases q : a' = a
      · subst q
        exact g4 t (tos_mem.mpr h) x hx hm
      · exact g3 _ (v4 a' t h (by omega) x hx hm)
    · have e2 : a' = a + y.1.length := congrArg Prod.fst e1
      have := (ho y hy).1.1
      omega
theorem mk_loop {e : Ent} {o : List Ent} (he : Le e) (ho : ∀ x ∈ o, Le x) {env0 : En} : ∀ (n a : Nat) (ps : List Pt) (x3 x4 x5 x6 : Option SV), a + n = e.1.length → Mv e o a ps →
    ∃ (ps' : List Pt) (y3 y4 y5 y6 : Option SV), forL [] (fun q en => (bindT [] (.nm 3) (.val q) en).bind fun e1 => exs (run F N k) N [] (.cons uK .nil) e1) ((List.range' a n).map fun (i : Nat) => .int i) env0 (enK e o ps x3 x4 x5 x6) = some (.nx (enK e o ps' y3 y4 y5 y6)) ∧ Mv e o e.1.length ps'
  | 0, a, ps, x3, x4, x5, x6, ha, hv => ⟨ps, x3, x4, x5, x6, by rw [List.range'_zero, List.map_nil, forL], by rw [← ha]; exact hv⟩
  | n + 1, a, ps, x3, x4, x5, x6, ha, hv => by
    obtain ⟨p1, z4, z5, z6, f1, f2⟩ := mk_turn (N := N) (k := k) (x4 := x4) (x5 := x5) (x6 := x6) he ho (show a < e.1.length by omega) hv
    obtain ⟨ps', y3, y4, y5, y6, g1, g2⟩ := mk_loop he ho (env0 := env0) n (a + 1) p1 (some (.val (.int (a : Int)))) z4 z5 z6 (by omega) f2
    refine ⟨ps', y3, y4, y5, y6, ?_, g2⟩
    have hb : bindT [] (.nm 3) (.val (.int (a : Int))) (enK e o ps x3 x4 x5 x6) = some (enK e o ps (some (.val (.int (a : Int)))) x4 x5 x6) := by
      simp [b_val, enK]
    rw [List.range'_succ, List.map_cons, forL, hb]
    simp only [Option.bind_some]
    rw [exs1 f1]
    simp only [Option.bind_some]
    rw [gd_pos (by simp)]
    exact g1
theorem s_is_made {e : Ent} {o : List Ent} (he : Le e) (ho : ∀ x ∈ o, Le x) : run F N (k + 1) 36 [.val (eD e), .val (.list (o.map eD))] = some (.val (.bool (made o e)), [some (.val (eD e)), some (.val (.list (o.map eD)))]) := by
  have v0 : Mv e o 0 [(0, 0)] := ⟨⟨by simp, fun p hp => by rw [List.mem_singleton.mp hp]; exact ⟨Nat.zero_le _, Nat.zero_le _⟩⟩, by simp, fun p hp => by rw [List.mem_singleton.mp hp]; exact rc_0 o e, fun a' t _ h => by omega⟩
  obtain ⟨ps, y3, y4, y5, y6, g1, g2⟩ := mk_loop (N := N) (k := k) he ho (env0 := (enK e o [(0, 0)] none none none none)) e.1.length 0 [(0, 0)] none none none none (by omega) v0
  have l1 := len_str (s := e.1) (by have := he.1.2.1; omega)
  have l2 := len_str (s := e.2) (by have := he.2.2.1; omega)
  have i0 : opIdx (.val (eD e)) (.val (.int 0)) = some (.str e.1) := rfl
  have i1 : opIdx (.val (eD e)) (.val (.int 1)) = some (.str e.2) := rfl
  have lm2 : 2 ≤ LIM := lim8 (by omega)
  have c1 : ex (run F N k) N [] uA [some (.val (eD e)), some (.val (.list (o.map eD))), none, none, none, none, none, none, none] = some (.nx (enK e o [(0, 0)] none none none none)) := by
    have ky : keysD [.int 0, .int 0] = some (kK 0 0) := rfl
    unfold uA enK
    simp [ex, e_dT1, e_tup, evs, e_cst, RV.frz, gd_pos, lm2, refr, ky, b_fr]
    rfl
  have hi : evi (run F N k) (.rng1 (.bc .len (.cons (.idx (.var 0) (.cst (PyData.int 0))) .nil))) (enK e o [(0, 0)] none none none none) = some ((List.range' 0 e.1.length).map fun (i : Nat) => .int i, [], (enK e o [(0, 0)] none none none none)) := by
    have cc : ev (run F N k) (.bc .len (.cons (.idx (.var 0) (.cst (PyData.int 0))) .nil)) (enK e o [(0, 0)] none none none none) = some (.val (.int e.1.length), (enK e o [(0, 0)] none none none none)) := by
      unfold enK
      simp [e_bc, evs, e_idx, e_var, e_cst, refr, i0, l1]
    simp only [evi, cc, Option.bind_some]
    rw [gd_pos (by have := he.1.2.1; omega)]
    have : intR 0 (e.1.length : Int).toNat = (List.range' 0 e.1.length).map fun (i : Nat) => .int i := by
      unfold intR
      rw [← List.range_eq_range']
      simp
    rw [this]
    rfl
  have c2 : ex (run F N k) N [] uL (enK e o [(0, 0)] none none none none) = some (.nx (enK e o ps y3 y4 y5 y6)) := by
    unfold uL
    rw [ex, hi]
    simp only [Option.bind_some]
    rw [gd_pos (by simp)]
    exact g1
  obtain ⟨w1, w2, w3, w4⟩ := g2
  have fin : decide (((e.1.length, e.2.length) : Pt) ∈ ps) = made o e := by
    rw [Bool.eq_iff_iff, decide_eq_true_eq, made_iff]
    exact ⟨fun h => rc_Sp (w3 _ h), fun h => Sp_end (fun x hx => (ho x hx).1.1) w2 w4 h⟩
  have hin : opCmp .In (.val (.tuple [.int (e.1.length : Int), .int (e.2.length : Int)])) (.bo 2 (.T (kn ps))) = some (made o e) := by
    have : opCmp .In (.val (.tuple [.int (e.1.length : Int), .int (e.2.length : Int)])) (.bo 2 (.T (kn ps))) = some (has (kn ps) (kK e.1.length e.2.length)) := rfl
    rw [this, has_kn, fin]
  have c3 : ex (run F N k) N [] uR (enK e o ps y3 y4 y5 y6) = some (.rt (.val (.bool (made o e))) (enK e o ps y3 y4 y5 y6)) := by
    unfold uR enK
    simp [ex, e_cmp, e_tup, e_bc, evs, e_idx, e_var, e_cst, refr, i0, i1, l1, l2, RV.frz, gd_pos, lm2, hin]
  rw [run_of F_36 rfl (by decide) rfl rfl]
  simp only [f__law_is_made, b_is_made, List.map_cons, List.map_nil, List.replicate, List.cons_append, List.nil_append, Nat.reduceSub]
  rw [exsN c1, exsN c2, exs, c3]
  simp only [Option.bind_some]
  unfold enK
  simp [PL.finish, retV, gd_pos]
end PT
set_option maxRecDepth 100000
set_option maxHeartbeats 4000000
/-! U3: without_entry, is_int, due, unlike of tuples. -/
namespace PT
open PySem PL
open L2 (Key)
variable {N k : Nat}

theorem opEq_e {a b : Ent} (ha : Le a) (hb : Le b) : opEq (eD a) (eD b) = some (decide (a = b)) := by
  have e : eqOk (eD a) (eD b) := ⟨lay_e ha, lay_e hb, depth_e a, depth_e b⟩
  rw [← eqv_e]
  have : opEq (eD a) (eD b) = (gd (eqOk (eD a) (eD b))).map fun _ => PyData.eqv (eD a) (eD b) := rfl
  rw [this, gd_pos e]
  rfl
theorem ne_e {a b : Ent} (ha : Le a) (hb : Le b) : opCmp .NotEq (.val (eD a)) (.val (eD b)) = some (decide (a ≠ b)) := by
  simp only [opCmp, RV.dat, Option.bind_some, opEq_e ha hb, Option.map_some]
  congr 1
  by_cases q : a = b <;> simp [q]
theorem s_without {d : List Ent} {e : Ent} (h : Dk d) (he : e ∈ d) (hl : 1 < d.length) : run F N (k + 7) 13 [.val (dD d), .val (eD e)] = some (.val (dD (wo d e)), [some (.val (dD d)), some (.val (eD e))]) := by
  have le := h.2.2.1 e he
  have a1 := s_check_dictionary (N := N) (k := k + 1) h
  have a2 := s_check_entry (N := N) (k := k + 2) le
  have a3 := in_e le h.2.2.1
  rw [decide_eq_true he] at a3
  have hk := wo_Dk h he hl
  obtain ⟨a4, a5⟩ := s_check_many (N := N) (k := k) (l := wo d e) hk.1 hk.2.1 hk.2.2.1 hk.2.2.2.2
  rw [sE_fix hk.2.2.2.1 hk.2.2.2.2] at a4
  have c1 : ex (run F N (k + 6)) N [] (.exp (.call 9 (.cons (.var 0) .nil) [none])) [some (.val (dD d)), some (.val (eD e)), none] = some (.nx [some (.val (dD d)), some (.val (eD e)), none]) := by
    simp [ex, e_call, evs, e_var, refr, passA, valSl, RV.dat, gd_pos, a1, retOk, nl_d, backA]
  have c2 : ex (run F N (k + 6)) N [] (.exp (.call 10 (.cons (.var 1) .nil) [none])) [some (.val (dD d)), some (.val (eD e)), none] = some (.nx [some (.val (dD d)), some (.val (eD e)), none]) := by
    simp [ex, e_call, evs, e_var, refr, passA, valSl, RV.dat, gd_pos, a2, retOk, noList, backA]
  have c3 : evt (run F N (k + 6)) (.cmp .NotIn (.var 1) (.var 0)) [some (.val (dD d)), some (.val (eD e)), none] = some (false, [some (.val (dD d)), some (.val (eD e)), none]) := by
    simp [evt_cmp, e_var, refr, opCmp, a3]
  have cc : ev (run F N (k + 6)) (.comp (.var 2) (.nm 2) (.vals (.var 0)) (.yes (.cmp .NotEq (.var 2) (.var 1))) [("one", 2)]) [some (.val (dD d)), some (.val (eD e)), none] = some (.fr (.L ((wo d e).map eD)), [some (.val (dD d)), some (.val (eD e)), none]) := by
    rw [comp_if (p := fun x => decide (x ≠ e)) (o := d) (bs := []) (env1 := [some (.val (dD d)), some (.val (eD e)), none]) (by rw [evi, e_var]; rfl) (by simp) (lim8 (by have := h.2.1; omega)) (fun x hx => ⟨[some (.val (dD d)), some (.val (eD e)), some (.val (eD x))], by
      have z := ne_e (h.2.2.1 x hx) le
      by_cases q : x = e
      · subst q
        rw [decide_eq_false (by simp)] at z
        simp [turnQ, evq, b_val, evt_cmp, e_var, refr, RV.frz, wipeD, z]
      · rw [decide_eq_true (by simpa using q)] at z
        simp [turnQ, evq, b_val, evt_cmp, e_var, refr, RV.frz, wipeD, z, q], by simp [wipeD]⟩)]
    simp [backD, wipeD, valAt, wo]
  have c4 : ex (run F N (k + 6)) N [] (.ret (.call 11 (.cons (.comp (.var 2) (.nm 2) (.vals (.var 0)) (.yes (.cmp .NotEq (.var 2) (.var 1))) [("one", 2)]) .nil) [none])) [some (.val (dD d)), some (.val (eD e)), none] = some (.rt (.val (dD (wo d e))) [some (.val (dD d)), some (.val (eD e)), none]) := by
    rw [ex, e_call, evs, cc]
    simp [evs, refr, passA, valSl, RV.dat, gd_pos, a4, retOk, nl_d, backA]
  rw [run_of F_13 rfl (by decide) rfl rfl]
  simp only [f_without_entry, b_without_entry, List.map_cons, List.map_nil, List.replicate, List.cons_append, List.nil_append, Nat.reduceSub]
  rw [exsN c1, exsN c2]
  have c3' : ex (run F N (k + 6)) N [] (.ite (.cmp .NotIn (.var 1) (.var 0))
(.cons .nev .nil)
.nil) [some (.val (dD d)), some (.val (eD e)), none] = some (.nx [some (.val (dD d)), some (.val (eD e)), none]) := by
    rw [ex_ite c3, if_neg (by simp), exs]
  rw [exsN c3', exs, c4]
  simp [PL.finish, retV, gd_pos]
theorem s_is_int {i : Int} : run F N (k + 1) 34 [.val (.int i)] = some (.val (.bool true), [some (.val (.int i))]) := by
  rw [run_of F_34 rfl (by decide) rfl rfl]
  simp [f__law_is_int, b__law_is_int, exs, ex, e_and, evt_isi, evt_inv, e_isi, e_inv, e_var, opIsi, PL.finish, retV, gd_pos]
theorem s_due {d : List Ent} (h : Dk d) : run F N (k + 2) 37 [.val (dD d)] = some (.val (dD (ker d)), [some (.val (dD d))]) := by
  have cc : ev (run F N (k + 1)) (.comp (.var 1) (.nm 1) (.vals (.var 0)) (.yes (.inv (.call 36 (.cons (.var 1) (.cons (.comp (.var 2) (.nm 2) (.vals (.var 0)) (.yes (.cmp .NotEq (.var 2) (.var 1))) [("one", 2)]) .nil)) [none, none]))) [("entry", 1)]) [some (.val (dD d)), none, none] = some (.fr (.L ((ker d).map eD)), [some (.val (dD d)), none, none]) := by
    rw [comp_if (p := fun e => !made (wo d e) e) (o := d) (bs := []) (env1 := [some (.val (dD d)), none, none]) (by rw [evi, e_var]; rfl) (by simp) (lim8 (by have := h.2.1; omega)) (fun e he => ⟨[some (.val (dD d)), some (.val (eD e)), none], by
      have le := h.2.2.1 e he
      have ci : ev (run F N (k + 1)) (.comp (.var 2) (.nm 2) (.vals (.var 0)) (.yes (.cmp .NotEq (.var 2) (.var 1))) [("one", 2)]) [some (.val (dD d)), some (.val (eD e)), none] = some (.fr (.L ((wo d e).map eD)), [some (.val (dD d)), some (.val (eD e)), none]) := by
        rw [comp_if (p := fun x => decide (x ≠ e)) (o := d) (bs := []) (env1 := [some (.val (dD d)), some (.val (eD e)), none]) (by rw [evi, e_var]; rfl) (by simp) (lim8 (by have := h.2.1; omega)) (fun x hx => ⟨[some (.val (dD d)), some (.val (eD e)), some (.val (eD x))], by
          have z := ne_e (h.2.2.1 x hx) le
          by_cases q : x = e
          · subst q
            rw [decide_eq_false (by simp)] at z
            simp [turnQ, evq, b_val, evt_cmp, e_var, refr, RV.frz, wipeD, z]
          · rw [decide_eq_true (by simpa using q)] at z
            simp [turnQ, evq, b_val, evt_cmp, e_var, refr, RV.frz, wipeD, z, q], by simp [wipeD]⟩)]
        simp [backD, wipeD, valAt, wo]
      have mk := s_is_made (N := N) (k := k) (o := wo d e) le fun x hx => h.2.2.1 x (wo_mem.mp hx).1
      have ct : evt (run F N (k + 1)) (.inv (.call 36 (.cons (.var 1) (.cons (.comp (.var 2) (.nm 2) (.vals (.var 0)) (.yes (.cmp .NotEq (.var 2) (.var 1))) [("one", 2)]) .nil)) [none, none])) [some (.val (dD d)), some (.val (eD e)), none] = some (!made (wo d e) e, [some (.val (dD d)), some (.val (eD e)), none]) := by
        rw [evt_inv, evt_call, e_call, evs, e_var]
        simp only [List.getElem?_cons_succ, List.getElem?_cons_zero, Option.bind_some]
        rw [evs, ci]
        simp [evs, refr, passA, valSl, RV.dat, gd_pos, mk, retOk, noList, backA]
      have hb : bindT [] (.nm 1) (.val (eD e)) [some (.val (dD d)), none, none] = some [some (.val (dD d)), some (.val (eD e)), none] := by
        simp [b_val]
      simp only [List.map_cons, List.map_nil, wipeD, List.set_cons_succ, List.set_cons_zero, turnQ, hb, Option.bind_some, evq, ct]
      cases made (wo d e) e <;> simp [e_var, RV.frz], by simp [wipeD]⟩)]
    simp [backD, wipeD, valAt, ker]
  have tb : bcall .tuple [.fr (.L ((ker d).map eD))] = some (.val (dD (ker d))) := rfl
  rw [run_of F_37 rfl (by decide) rfl rfl]
  simp only [f__law_due, b__law_due, List.map_cons, List.map_nil, List.replicate, List.cons_append, List.nil_append, Nat.reduceSub]
  simp [exs, ex, e_bc, evs, cc, refr, tb, PL.finish, retV, gd_pos]
theorem s_unlike_t {l : List Ent} (h1 : 1 ≤ l.length) (h2 : l.length ≤ 1000) : ∃ M : List Ent, run F N (k + 1) 27 [.val (dD l)] = some (.fr (.L (M.map eD)), [some (.val (dD l))]) ∧ M.Nodup ∧ asc M ∧ (∀ x, x ∈ M ↔ x ∈ l) ∧ M.length ≤ l.length := by
  obtain ⟨M, m1, m2, m3, m4⟩ := keys_puts kE_inj (.bool true) l [] [] rfl List.nodup_nil
  simp only [List.not_mem_nil, false_or, List.length_nil, Nat.zero_add] at m3 m4
  refine ⟨sE M, ?_, sE_nodup m2, sE_asc m2, fun x => by rw [sE_mem, m3], by rw [sE_len]; exact m4⟩
  have hl : l.length ≤ LIM := lim8 h2
  have l2 : 2 ≤ LIM := lim8 (by omega)
  rw [run_of F_27 rfl (by decide) rfl rfl]
  simp only [f__law_unlike, b__law_unlike, List.map_cons, List.map_nil, List.replicate, List.cons_append, List.nil_append, Nat.reduceSub]
  have hc : ev (run F N k) (.comp (.tup (.cons (.var 1) (.cons (.cst (PyData.bool true)) .nil))) (.nm 1) (.vals (.var 0)) .no [("one", 1)]) [some (.val (dD l)), none] = some (.fr (.L (l.map fun e => .tuple [eD e, .bool true])), [some (.val (dD l)), none]) := by
    rw [comp_all eD (fun e => .tuple [eD e, .bool true]) (l := l) (bs := []) (env1 := [some (.val (dD l)), none]) (by simp [evi, e_var, dD, RV.dat, boSl]) (by simp) hl (fun x hx => ⟨[some (.val (dD l)), some (.val (eD x))], by
      simp [turnQ, evq, b_val, wipeD, e_tup, evs, e_var, e_cst, refr, RV.frz, RV.dat, gd_pos, l2], by simp [wipeD]⟩)]
    simp [backD, wipeD, valAt]
  have hd : bcall .dict [.fr (.L (l.map fun e => .tuple [eD e, .bool true]))] = some (.fr (.T (puts [] (l.map fun e => (kE e, .bool true))))) := by
    have pe := pairs_e l
    obtain ⟨x, l', e⟩ := List.exists_cons_of_length_pos (show 0 < l.length by omega)
    simp only [bcall, RV.dat]
    have : (l.map fun e => PyData.tuple [eD e, .bool true]) = .tuple [.tuple [.str x.1, .str x.2], .bool true] :: l'.map fun e => .tuple [eD e, .bool true] := by rw [e]; rfl
    rw [this] at pe ⊢
    simp only [pe, Option.bind_some]
    rw [gd_pos (by rw [List.length_map]; exact hl)]
    rfl
  have hk : (puts [] (l.map fun e => (kE e, PyData.bool true))).map (fun kv => PyData.tuple (kv.1.map dOfKey)) = M.map eD := by
    have := congrArg (List.map fun ks : List Key => PyData.tuple (ks.map dOfKey)) m1
    rw [List.map_map, List.map_map] at this
    exact this
  have hs : bcall .sorted [.fr (.T (puts [] (l.map fun e => (kE e, .bool true))))] = some (.fr (.L ((sE M).map eD))) := by
    simp only [bcall, hk, sD_e]
    rw [gd_pos (sok_e (Nat.le_trans m4 hl))]
    rfl
  simp [exs, ex, e_bc, evs, hc, refr, hd, hs, PL.finish, retV, gd_pos]
end PT
set_option maxRecDepth 100000
set_option maxHeartbeats 4000000
/-! U4: a dictionary with more entries that are needless. -/
namespace PT
open PySem PL
open L2 (Key)
variable {N k : Nat}
def enW (o : Ob) (d : List Ent) (U : Nat) (x3 x4 x5 x6 : Option SV) : En := [some (.own o), some (.val (dD d)), some (.val (.int U)), x3, x4, x5, x6, none, none, none]
def wA : S :=
(.asg (.nm 3) (.bc .list (.cons (.var 1) .nil)))
def wP : S :=
(.asg (.nm 5) (.comp (.call 25 (.cons (.var 0) (.cons (.bc .list (.cons (.var 1) .nil)) .nil)) [some 0, none]) (.nm 7) (.rng1 (.bin .Add (.cst (PyData.int 2)) (.call 24 (.cons (.var 0) (.cons (.cst (PyData.int 2)) .nil)) [some 0, none]))) .no [("part", 7)]))
def wQ : S :=
(.asg (.nm 6) (.tup (.cons (.mth .join (.cst (PyData.str "")) (.cons (.comp (.var 8) (.tp (.cons (.nm 8) (.cons (.nm 9) .nil))) (.vals (.var 5)) .no [("row", 8), ("text", 9)]) .nil)) (.cons (.mth .join (.cst (PyData.str "")) (.cons (.comp (.var 9) (.tp (.cons (.nm 8) (.cons (.nm 9) .nil))) (.vals (.var 5)) .no [("row", 8), ("text", 9)]) .nil)) .nil))))
def wI : S :=
(.app 3 (.var 6))
def wR : S :=
(.ret (.bc .tuple (.cons (.bc .sorted (.cons (.var 3) .nil)) .nil)))
def wC : E := (.and (.cmp .LtE (.bc .len (.cons (.idx (.var 6) (.cst (PyData.int 0))) .nil)) (.cst (PyData.int 8))) (.and (.cmp .LtE (.bc .len (.cons (.idx (.var 6) (.cst (PyData.int 1))) .nil)) (.cst (PyData.int 8))) (.and (.cmp .NotIn (.var 6) (.var 3)) (.cmp .Lt (.bc .len (.cons (.var 3) .nil)) (.cst (PyData.int 16))))))
def wX : S := .ite wC (.cons wI .nil) .nil
def wF : S := .for (.nm 4) (.rng1 (.var 2)) (.cons wP (.cons wQ (.cons wX .nil)))
theorem b_more : b__law_more = .cons wA (.cons wF (.cons wR .nil)) := rfl
theorem sum_sg {g : Ent → Str} : ∀ es : List Ent, (∀ e ∈ es, (g e).length ≤ 8) → ((es.map g).map (·.length)).sum ≤ es.length * 8
  | [], _ => by simp
  | x :: es, h => by
    have h1 := sum_sg es fun y hy => h y (List.mem_cons_of_mem _ hy)
    have h2 := h x List.mem_cons_self
    simp only [List.map_cons, List.sum_cons, List.length_cons, Nat.succ_mul]
    omega
theorem flat_mem {g : Ent → Str} {es : List Ent} {c : Nat} (h : c ∈ (strOf ((es.map g).flatMap fun s => s.cps.toList)).cps.toList) : ∃ e ∈ es, c ∈ (g e).cps.toList := by
  have h2 : c ∈ (es.map g).flatMap fun s => s.cps.toList := by simpa [strOf] using h
  obtain ⟨s, hs, hc⟩ := List.mem_flatMap.mp h2
  obtain ⟨e, he, q⟩ := List.mem_map.mp hs
  exact ⟨e, he, by rw [q]; exact hc⟩
theorem made_le {d es : List Ent} {R T : Str} (hd : ∀ e ∈ d, Le e) (hes : ∀ e ∈ es, e ∈ d) (h1 : 1 ≤ es.length) (hR : R = strOf ((es.map (·.1)).flatMap fun s => s.cps.toList)) (hT : T = strOf ((es.map (·.2)).flatMap fun s => s.cps.toList)) (r8 : R.length ≤ 8) (t8 : T.length ≤ 8) : Le (R, T) ∧ Sp d (R, T) := by
  have cr : R.cps.toList = es.flatMap fun x => x.1.cps.toList := by rw [hR]; simp [strOf, List.flatMap_map]
  have ct : T.cps.toList = es.flatMap fun x => x.2.cps.toList := by rw [hT]; simp [strOf, List.flatMap_map]
  refine ⟨⟨⟨?_, r8, fun c hc => ?_⟩, ⟨Nat.zero_le _, t8, fun c hc => ?_⟩⟩, es, hes, cr, ct⟩
  · obtain ⟨x, xs, e⟩ := List.exists_cons_of_length_pos h1
    subst e
    have h2 := (hd x (hes x List.mem_cons_self)).1.1
    show 1 ≤ R.length
    rw [← len_cps, cr, List.flatMap_cons, List.length_append, len_cps]
    omega
  · have : c ∈ R.cps.toList := hc
    rw [hR] at this
    obtain ⟨e, he, q⟩ := flat_mem (g := (·.1)) this
    exact (hd e (hes e he)).1.2.2 c q
  · have : c ∈ T.cps.toList := hc
    rw [hT] at this
    obtain ⟨e, he, q⟩ := flat_mem (g := (·.2)) this
    exact (hd e (hes e he)).2.2.2 c q
theorem ents_of {d : List Ent} : ∀ l : List Da, (∀ z ∈ l, ∃ e : Ent, z = eD e ∧ e ∈ d) → ∃ es : List Ent, l = es.map eD ∧ (∀ e ∈ es, e ∈ d) ∧ es.length = l.length
  | [], _ => ⟨[], rfl, by simp, rfl⟩
  | z :: l, h => by
    obtain ⟨e, h1, h2⟩ := h z List.mem_cons_self
    obtain ⟨es, i1, i2, i3⟩ := ents_of l fun y hy => h y (List.mem_cons_of_mem _ hy)
    refine ⟨e :: es, by rw [h1, i1]; rfl, fun y hy => ?_, by simp [i3]⟩
    rcases List.mem_cons.mp hy with q | q
    · rw [q]; exact h2
    · exact i2 y q
theorem more_parts {m U : Nat} {o : Ob} {d : List Ent} {x3 x4 x5 x6 : Option SV} (hp : Pot m o) (hm : m + 1000 ≤ 10 ^ 9) (hd : Dk d) :
    ∃ (o' : Ob) (es : List Ent), ex (run F N (k + 3)) N [0] wP (enW o d U x3 x4 x5 x6) = some (.nx (enW o' d U x3 x4 (some (.own (.L (es.map eD)))) x6)) ∧ Pot (m + 10) o' ∧ (∀ e ∈ es, e ∈ d) ∧ 1 ≤ es.length ∧ es.length ≤ 3 := by
  obtain ⟨n, o1, a, hn, hp1⟩ := s_take (N := N) (k := k + 2) (u := 2) hp (by omega) (by omega) (by omega)
  have a' : run F N (k + 3) 24 [.own o, .val (.int 2)] = some (.val (.int n), [some (.own o1), some (.val (.int 2))]) := a
  have hit : evi (run F N (k + 3)) (.rng1 (.bin .Add (.cst (PyData.int 2)) (.call 24 (.cons (.var 0) (.cons (.cst (PyData.int 2)) .nil)) [some 0, none]))) (enW o d U x3 x4 x5 x6) = some (intR 0 (2 + n), [], enW o1 d U x3 x4 x5 x6) := by
    have cc : ev (run F N (k + 3)) (.bin .Add (.cst (PyData.int 2)) (.call 24 (.cons (.var 0) (.cons (.cst (PyData.int 2)) .nil)) [some 0, none])) (enW o d U x3 x4 x5 x6) = some (.val (.int (2 + (n : Int))), enW o1 d U x3 x4 x5 x6) := by
      simp [enW, e_call, e_bin, evs, e_var, e_cst, refr, m_add, passA, valSl, gd_pos, a', retOk, noList, backA, nl_pot hp1, RV.dat]
    simp only [evi, cc, Option.bind_some]
    rw [gd_pos (by omega)]
    have : ((2 : Int) + n).toNat = 2 + n := by omega
    rw [this]
    rfl
  have hdl : (d.map eD).length = d.length := List.length_map _
  have bl : bcall .list [.val (dD d)] = some (.fr (.L (d.map eD))) := rfl
  obtain ⟨out, env', g1, ⟨o2, g2, g3⟩, g4, g5⟩ := comp_inv2 (C := (run F N (k + 3))) (elt := (.call 25 (.cons (.var 0) (.cons (.bc .list (.cons (.var 1) .nil)) .nil)) [some 0, none])) (tg := .nm 7) (cs := .no) (own := [("part", 7)]) (fun j e => ∃ o2, Pot (m + 1 + j) o2 ∧ e = enW o2 d U x3 x4 x5 x6) (fun _ z => ∃ e : Ent, z = eD e ∧ e ∈ d) hit (by simp) (by rw [rng_len]; exact lim8 (by omega)) ⟨o1, hp1, by simp [wipeD, enW]⟩ (fun j e q hq hj hI => by
    rw [rng_len] at hj
    obtain ⟨o2, q1, q2⟩ := hI
    subst q2
    obtain ⟨x, o3, w1, w2, w3⟩ := s_of (N := N) (k := k + 1) (v := .list (d.map eD)) (xs := d.map eD) q1 (by omega) rfl (by rw [hdl]; exact hd.1) (by have := hd.2.1; omega)
    obtain ⟨e, he, hx⟩ := List.mem_map.mp w2
    subst hx
    have ne := nl_e e
    refine ⟨eD e, [some (.own o3), some (.val (dD d)), some (.val (.int U)), x3, x4, x5, x6, some (.val q), none, none], ?_, ⟨o3, w3, by simp [wipeD, enW]⟩, by simp, ⟨e, rfl, he⟩⟩
    simp [turnQ, evq, b_val, enW, e_call, e_bc, evs, e_var, refr, bl, passA, valSl, gd_pos, w1, retOk, ne, backA, nl_pot w3, RV.dat, RV.frz])
  subst g3
  rw [rng_len] at g2 g5
  obtain ⟨es, i1, i2, i3⟩ := ents_of out fun z hz => (g4 z hz).elim fun _ h => h.2
  subst i1
  refine ⟨o2, es, ?_, g2.mono (by omega), i2, by omega, by omega⟩
  have bk : backD (enW o1 d U x3 x4 x5 x6) (enW o2 d U x3 x4 x5 x6) [7] = enW o2 d U x3 x4 x5 x6 := by
    simp [backD, valAt, enW]
  simp only [List.map_cons, List.map_nil, bk] at g1
  unfold wP
  rw [ex, g1]
  simp [b_fr, enW]
theorem more_strs {U : Nat} {o : Ob} {d es : List Ent} {x3 x4 x6 : Option SV} (hl : ∀ e ∈ es, Le e) (h3 : es.length ≤ 3) :
    ∃ (R T : Str), ex (run F N k) N [0] wQ (enW o d U x3 x4 (some (.own (.L (es.map eD)))) x6) = some (.nx (enW o d U x3 x4 (some (.own (.L (es.map eD)))) (some (.val (eD (R, T)))))) ∧ R = strOf ((es.map (·.1)).flatMap fun s => s.cps.toList) ∧ T = strOf ((es.map (·.2)).flatMap fun s => s.cps.toList) := by
  have s1 := sum_sg (g := fun e : Ent => e.1) es fun e he => (hl e he).1.2.1
  have s2 := sum_sg (g := fun e : Ent => e.2) es fun e he => (hl e he).2.2.1
  have jo1 := join_of (g := fun e : Ent => e.1) (r := es) (lim8 (by omega))
  have jo2 := join_of (g := fun e : Ent => e.2) (r := es) (lim8 (by omega))
  have l2 : 2 ≤ LIM := lim8 (by omega)
  have hi : evi (run F N k) (.vals (.var 5)) (enW o d U x3 x4 (some (.own (.L (es.map eD)))) x6) = some (es.map eD, [5], enW o d U x3 x4 (some (.own (.L (es.map eD)))) x6) := by
    simp [evi, e_var, enW, RV.dat, boSl]
  have q1 : ev (run F N k) (.comp (.var 8) (.tp (.cons (.nm 8) (.cons (.nm 9) .nil))) (.vals (.var 5)) .no [("row", 8), ("text", 9)]) (enW o d U x3 x4 (some (.own (.L (es.map eD)))) x6) = some (.fr (.L (es.map fun e => .str e.1)), enW o d U x3 x4 (some (.own (.L (es.map eD)))) x6) := by
    rw [comp_all eD (fun e => .str e.1) hi (by simp) (lim8 (by omega)) (fun x hx => ⟨[some (.own o), some (.val (dD d)), some (.val (.int U)), x3, x4, (some (.own (.L (es.map eD)))), x6, none, some (.val (.str x.1)), some (.val (.str x.2))], by
      simp [turnQ, evq, eD, b_tp, bindTs, b_val, enW, wipeD, e_var, RV.frz, RV.dat], by simp [wipeD, enW]⟩)]
    simp [backD, wipeD, valAt, enW]
  have q2 : ev (run F N k) (.comp (.var 9) (.tp (.cons (.nm 8) (.cons (.nm 9) .nil))) (.vals (.var 5)) .no [("row", 8), ("text", 9)]) (enW o d U x3 x4 (some (.own (.L (es.map eD)))) x6) = some (.fr (.L (es.map fun e => .str e.2)), enW o d U x3 x4 (some (.own (.L (es.map eD)))) x6) := by
    rw [comp_all eD (fun e => .str e.2) hi (by simp) (lim8 (by omega)) (fun x hx => ⟨[some (.own o), some (.val (dD d)), some (.val (.int U)), x3, x4, (some (.own (.L (es.map eD)))), x6, none, some (.val (.str x.1)), some (.val (.str x.2))], by
      simp [turnQ, evq, eD, b_tp, bindTs, b_val, enW, wipeD, e_var, RV.frz, RV.dat], by simp [wipeD, enW]⟩)]
    simp [backD, wipeD, valAt, enW]
  refine ⟨_, _, ?_, rfl, rfl⟩
  generalize strOf ((es.map fun e : Ent => e.1).flatMap fun s => s.cps.toList) = R at jo1 ⊢
  generalize strOf ((es.map fun e : Ent => e.2).flatMap fun s => s.cps.toList) = T at jo2 ⊢
  unfold wQ
  unfold enW at q1 q2 ⊢
  simp [ex, e_tup, evs, e_mth, e_cst, q1, q2, mtOk, refr, gd_pos, jo1, jo2, l2, RV.frz, b_val, eD]
theorem eqok_l {e : Ent} {d : List Ent} (h : Le e) (hd : ∀ x ∈ d, Le x) : eqOk (eD e) (.list (d.map eD)) := by
  refine ⟨lay_e h, by simp only [PyData.canLay0]; exact lay_d hd, depth_e e, ?_⟩
  have := dep_d d
  simp only [PyData.depth]
  omega
theorem in_l {e : Ent} {d : List Ent} {i : Nat} (h : Le e) (hd : ∀ x ∈ d, Le x) : opCmp .NotIn (.val (eD e)) (.bo i (.L (d.map eD))) = some (decide (e ∉ d)) := by
  have : opCmp .NotIn (.val (eD e)) (.bo i (.L (d.map eD))) = ((gd (eqOk (eD e) (.list (d.map eD)))).map fun _ => (d.map eD).any fun z => PyData.eqv z (eD e)).map (!·) := rfl
  rw [this, gd_pos (eqok_l h hd), any_e]
  simp
/-- what stands in found -/
def Fw (d fs : List Ent) : Prop := (∀ e ∈ fs, Le e ∧ Sp d e) ∧ (∀ e ∈ d, e ∈ fs) ∧ fs.Nodup ∧ fs.length ≤ 16
theorem more_turn {m U : Nat} {o : Ob} {d fs : List Ent} {x4 x5 x6 : Option SV} (hp : Pot m o) (hm : m + 1000 ≤ 10 ^ 9) (hd : Dk d) (hf : Fw d fs) :
    ∃ (o' : Ob) (fs' : List Ent) (y5 y6 : Option SV), exs (run F N (k + 3)) N [0] (.cons wP (.cons wQ (.cons wX .nil))) (enW o d U (some (.own (.L (fs.map eD)))) x4 x5 x6) = some (.nx (enW o' d U (some (.own (.L (fs'.map eD)))) x4 y5 y6)) ∧ Pot (m + 10) o' ∧ Fw d fs' := by
  obtain ⟨o1, es, a, hp1, b1, b2, b3⟩ := more_parts (N := N) (k := k) (U := U) (d := d) (x3 := (some (.own (.L (fs.map eD))))) (x4 := x4) (x5 := x5) (x6 := x6) hp hm hd
  obtain ⟨R, T, c, hR, hT⟩ := more_strs (N := N) (k := k + 3) (U := U) (o := o1) (d := d) (es := es) (x3 := (some (.own (.L (fs.map eD))))) (x4 := x4) (x6 := x6) (fun e he => hd.2.2.1 e (b1 e he)) b3
  have s1 := sum_sg (g := fun e : Ent => e.1) es fun e he => (hd.2.2.1 e (b1 e he)).1.2.1
  have s2 := sum_sg (g := fun e : Ent => e.2) es fun e he => (hd.2.2.1 e (b1 e he)).2.2.1
  have ln : ∀ (g : Ent → Str), (strOf ((es.map g).flatMap fun s => s.cps.toList)).length = ((es.map g).map (·.length)).sum := fun g => by
    have : ∀ l : List Str, (l.flatMap fun s => s.cps.toList).length = (l.map (·.length)).sum := fun l => by
      induction l with
      | nil => rfl
      | cons x l ih => rw [List.flatMap_cons, List.length_append, ih, List.map_cons, List.sum_cons]; simp [Str.length]
    rw [← this]
    simp [strOf, Str.length]
  have kR := len_str (s := R) (by rw [hR, ln]; omega)
  have kT := len_str (s := T) (by rw [hT, ln]; omega)
  have i0 : opIdx (.val (eD (R, T))) (.val (.int 0)) = some (.str R) := rfl
  have i1 : opIdx (.val (eD (R, T))) (.val (.int 1)) = some (.str T) := rfl
  have k3 : ∀ x : Nat, opCmp .LtE (.val (.int x)) (.val (.int 8)) = some (decide (x ≤ 8)) := fun x => by
    show some (decide ((x : Int) ≤ 8)) = _
    congr 1
    exact decide_eq_decide.mpr (by omega)
  have hln : bcall .len [RV.bo 3 (.L (fs.map eD))] = some (.val (.int fs.length)) := by simp [bcall, RV.dat]
  have k4 : opCmp .Lt (.val (.int fs.length)) (.val (.int 16)) = some (decide (fs.length < 16)) := by
    show some (decide ((fs.length : Int) < 16)) = _
    congr 1
    exact decide_eq_decide.mpr (by omega)
  have zA : evt (run F N (k + 3)) (.cmp .LtE (.bc .len (.cons (.idx (.var 6) (.cst (PyData.int 0))) .nil)) (.cst (PyData.int 8))) (enW o1 d U (some (.own (.L (fs.map eD)))) x4 (some (.own (.L (es.map eD)))) (some (.val (eD (R, T))))) = some (decide (R.length ≤ 8), enW o1 d U (some (.own (.L (fs.map eD)))) x4 (some (.own (.L (es.map eD)))) (some (.val (eD (R, T))))) := by
    simp [enW, evt_cmp, e_bc, evs, e_idx, e_var, e_cst, refr, i0, kR, k3]
  have zB : evt (run F N (k + 3)) (.cmp .LtE (.bc .len (.cons (.idx (.var 6) (.cst (PyData.int 1))) .nil)) (.cst (PyData.int 8))) (enW o1 d U (some (.own (.L (fs.map eD)))) x4 (some (.own (.L (es.map eD)))) (some (.val (eD (R, T))))) = some (decide (T.length ≤ 8), enW o1 d U (some (.own (.L (fs.map eD)))) x4 (some (.own (.L (es.map eD)))) (some (.val (eD (R, T))))) := by
    simp [enW, evt_cmp, e_bc, evs, e_idx, e_var, e_cst, refr, i1, kT, k3]
  have zD : evt (run F N (k + 3)) (.cmp .Lt (.bc .len (.cons (.var 3) .nil)) (.cst (PyData.int 16))) (enW o1 d U (some (.own (.L (fs.map eD)))) x4 (some (.own (.L (es.map eD)))) (some (.val (eD (R, T))))) = some (decide (fs.length < 16), enW o1 d U (some (.own (.L (fs.map eD)))) x4 (some (.own (.L (es.map eD)))) (some (.val (eD (R, T))))) := by
    simp [enW, evt_cmp, e_bc, evs, e_var, e_cst, refr, hln, k4]
  have stop : evt (run F N (k + 3)) wC (enW o1 d U (some (.own (.L (fs.map eD)))) x4 (some (.own (.L (es.map eD)))) (some (.val (eD (R, T))))) = some (false, enW o1 d U (some (.own (.L (fs.map eD)))) x4 (some (.own (.L (es.map eD)))) (some (.val (eD (R, T))))) → exs (run F N (k + 3)) N [0] (.cons wP (.cons wQ (.cons wX .nil))) (enW o d U (some (.own (.L (fs.map eD)))) x4 x5 x6) = some (.nx (enW o1 d U (some (.own (.L (fs.map eD)))) x4 (some (.own (.L (es.map eD)))) (some (.val (eD (R, T)))))) := fun ct => by
    rw [exsN a, exsN c]
    refine exs1 ?_
    unfold wX
    rw [ex_ite ct, if_neg (by simp), exs]
  by_cases hA : R.length ≤ 8
  case neg =>
    refine ⟨o1, fs, (some (.own (.L (es.map eD)))), (some (.val (eD (R, T)))), stop ?_, hp1, hf⟩
    unfold wC
    rw [evt_and, zA]
    simp [hA]
  by_cases hB : T.length ≤ 8
  case neg =>
    refine ⟨o1, fs, (some (.own (.L (es.map eD)))), (some (.val (eD (R, T)))), stop ?_, hp1, hf⟩
    unfold wC
    rw [evt_and, zA]
    simp only [hA, decide_true, Option.bind_some, if_true]
    rw [evt_and, zB]
    simp [hB]
  have z := made_le hd.2.2.1 b1 b2 hR hT hA hB
  have q := in_l (i := 3) z.1 fun x hx => (hf.1 x hx).1
  have zC : evt (run F N (k + 3)) (.cmp .NotIn (.var 6) (.var 3)) (enW o1 d U (some (.own (.L (fs.map eD)))) x4 (some (.own (.L (es.map eD)))) (some (.val (eD (R, T))))) = some (decide ((R, T) ∉ fs), enW o1 d U (some (.own (.L (fs.map eD)))) x4 (some (.own (.L (es.map eD)))) (some (.val (eD (R, T))))) := by
    generalize decide ((R, T) ∉ fs) = bb at q ⊢
    simp [enW, evt_cmp, e_var, refr, q]
  by_cases hC : (R, T) ∈ fs
  · refine ⟨o1, fs, (some (.own (.L (es.map eD)))), (some (.val (eD (R, T)))), stop ?_, hp1, hf⟩
    unfold wC
    rw [evt_and, zA]
    simp only [hA, decide_true, Option.bind_some, if_true]
    rw [evt_and, zB]
    simp only [hB, decide_true, Option.bind_some, if_true]
    rw [evt_and, zC]
    simp [hC]
  by_cases hD : fs.length < 16
  case neg =>
    refine ⟨o1, fs, (some (.own (.L (es.map eD)))), (some (.val (eD (R, T)))), stop ?_, hp1, hf⟩
    unfold wC
    rw [evt_and, zA]
    simp only [hA, decide_true, Option.bind_some, if_true]
    rw [evt_and, zB]
    simp only [hB, decide_true, Option.bind_some, if_true]
    rw [evt_and, zC, decide_eq_true hC]
    simp only [Option.bind_some, if_true]
    rw [zD, decide_eq_false hD]
  refine ⟨o1, fs ++ [(R, T)], (some (.own (.L (es.map eD)))), (some (.val (eD (R, T)))), ?_, hp1, fun e he => ?_, fun e he => List.mem_append_left _ (hf.2.1 e he), List.nodup_append.mpr ⟨hf.2.2.1, by simp, fun x hx y hy => by
    rw [List.mem_singleton.mp hy]
    intro z; subst z; exact hC hx⟩, by rw [List.length_append, List.length_singleton]; omega⟩
  · have ct : evt (run F N (k + 3)) wC (enW o1 d U (some (.own (.L (fs.map eD)))) x4 (some (.own (.L (es.map eD)))) (some (.val (eD (R, T))))) = some (true, enW o1 d U (some (.own (.L (fs.map eD)))) x4 (some (.own (.L (es.map eD)))) (some (.val (eD (R, T))))) := by
      unfold wC
      rw [evt_and, zA]
      simp only [hA, decide_true, Option.bind_some, if_true]
      rw [evt_and, zB]
      simp only [hB, decide_true, Option.bind_some, if_true]
      rw [evt_and, zC, decide_eq_true hC]
      simp only [Option.bind_some, if_true]
      rw [zD, decide_eq_true hD]
    have ll : fs.length < LIM := Nat.lt_of_lt_of_le (show fs.length < 1000 by omega) (lim8 (by omega))
    have ci : ex (run F N (k + 3)) N [0] wI (enW o1 d U (some (.own (.L (fs.map eD)))) x4 (some (.own (.L (es.map eD)))) (some (.val (eD (R, T))))) = some (.nx (enW o1 d U (some (.own (.L ((fs ++ [(R, T)]).map eD)))) x4 (some (.own (.L (es.map eD)))) (some (.val (eD (R, T)))))) := by
      unfold wI enW
      rw [List.map_append]
      simp [ex, e_var, gd_pos, ll, RV.frz]
    rw [exsN a, exsN c]
    refine exs1 ?_
    unfold wX
    rw [ex_ite ct, if_pos rfl]
    exact exs1 ci
  · rcases List.mem_append.mp he with q | q
    · exact hf.1 e q
    · rw [List.mem_singleton.mp q]; exact z
theorem more_loop {U : Nat} {d : List Ent} (hd : Dk d) : ∀ (n : Nat) (ds : List Da) (m : Nat) (o : Ob) (fs : List Ent) (x4 x5 x6 : Option SV) (env0 : En), Pot m o → m + 10 * n + 1000 ≤ 10 ^ 9 → ds.length = n → Fw d fs →
    ∃ (o' : Ob) (fs' : List Ent) (y4 y5 y6 : Option SV), forL [] (fun q e => (bindT [0] (.nm 4) (.val q) e).bind fun e1 => exs (run F N (k + 3)) N [0] (.cons wP (.cons wQ (.cons wX .nil))) e1) ds env0 (enW o d U (some (.own (.L (fs.map eD)))) x4 x5 x6) = some (.nx (enW o' d U (some (.own (.L (fs'.map eD)))) y4 y5 y6)) ∧ Pot (m + 10 * n) o' ∧ Fw d fs'
  | 0, ds, m, o, fs, x4, x5, x6, env0, hp, hm, hds, hf => by
    have : ds = [] := List.eq_nil_of_length_eq_zero hds
    subst this
    exact ⟨o, fs, x4, x5, x6, by rw [forL], hp, hf⟩
  | n + 1, ds, m, o, fs, x4, x5, x6, env0, hp, hm, hds, hf => by
    obtain ⟨q, ds', e⟩ := List.exists_cons_of_length_pos (show 0 < ds.length by omega)
    subst e
    obtain ⟨o1, f1, z5, z6, a, b, c⟩ := more_turn (N := N) (k := k) (U := U) (x4 := some (.val q)) (x5 := x5) (x6 := x6) hp (by omega) hd hf
    obtain ⟨o2, f2, y4, y5, y6, a2, b2, c2⟩ := more_loop hd n ds' (m + 10) o1 f1 (some (.val q)) z5 z6 env0 b (by omega) (by simpa using hds) c
    refine ⟨o2, f2, y4, y5, y6, ?_, by rw [show m + 10 * (n + 1) = m + 10 + 10 * n by omega]; exact b2, c2⟩
    have hbd : bindT [0] (.nm 4) (.val q) (enW o d U (some (.own (.L (fs.map eD)))) x4 x5 x6) = some (enW o d U (some (.own (.L (fs.map eD)))) (some (.val q)) x5 x6) := by
      simp [b_val, enW]
    rw [forL, hbd]
    simp only [Option.bind_some]
    rw [a]
    simp only [Option.bind_some]
    rw [gd_pos (by simp)]
    exact a2
theorem s_more {m U : Nat} {o : Ob} {d : List Ent} (hp : Pot m o) (hm : m + 10000 ≤ 10 ^ 9) (hd : Dk d) (hU : U ≤ 8) :
    ∃ (o' : Ob) (b : List Ent), run F N (k + 4) 35 [.own o, .val (dD d), .val (.int U)] = some (.val (dD b), [some (.own o'), some (.val (dD d)), some (.val (.int U))]) ∧ Pot (m + 100) o' ∧ Dk b ∧ (∀ e ∈ d, e ∈ b) ∧ ∀ e ∈ b, Sp d e := by
  have f0 : Fw d d := ⟨fun e he => ⟨hd.2.2.1 e he, Sp_mem he⟩, fun _ h => h, hd.2.2.2.2, hd.2.1⟩
  obtain ⟨o1, fs, y4, y5, y6, a, b, c1, c2, c3, c4⟩ := more_loop (N := N) (k := k) (U := U) hd U (intR 0 U) m o d none none none (enW o d U (some (.own (.L (d.map eD)))) none none none) hp (by omega) (rng_len U) f0
  have h1 : ex (run F N (k + 3)) N [0] wA [some (.own o), some (.val (dD d)), some (.val (.int U)), none, none, none, none, none, none, none] = some (.nx (enW o d U (some (.own (.L (d.map eD)))) none none none)) := by
    have bl : bcall .list [.val (dD d)] = some (.fr (.L (d.map eD))) := rfl
    unfold wA enW
    simp [ex, e_bc, evs, e_var, refr, bl, b_fr]
  have h2 : ex (run F N (k + 3)) N [0] wF (enW o d U (some (.own (.L (d.map eD)))) none none none) = some (.nx (enW o1 d U (some (.own (.L (fs.map eD)))) y4 y5 y6)) := by
    have hi : evi (run F N (k + 3)) (.rng1 (.var 2)) (enW o d U (some (.own (.L (d.map eD)))) none none none) = some (intR 0 U, [], enW o d U (some (.own (.L (d.map eD)))) none none none) := by
      have cc : ev (run F N (k + 3)) (.var 2) (enW o d U (some (.own (.L (d.map eD)))) none none none) = some (.val (.int U), enW o d U (some (.own (.L (d.map eD)))) none none none) := by
        simp [e_var, enW]
      simp only [evi, cc, Option.bind_some]
      rw [gd_pos (by omega)]
      rfl
    unfold wF
    rw [ex, hi]
    simp only [Option.bind_some]
    rw [gd_pos (by simp)]
    exact a
  have h3 : ex (run F N (k + 3)) N [0] wR (enW o1 d U (some (.own (.L (fs.map eD)))) y4 y5 y6) = some (.rt (.val (dD (sE fs))) (enW o1 d U (some (.own (.L (fs.map eD)))) y4 y5 y6)) := by
    have hs : bcall .sorted [.bo 3 (.L (fs.map eD))] = some (.fr (.L ((sE fs).map eD))) := by
      simp only [bcall, RV.dat, sD_e]
      rw [gd_pos (sok_e (lim8 (by omega)))]
      rfl
    have tb : bcall .tuple [.fr (.L ((sE fs).map eD))] = some (.val (dD (sE fs))) := rfl
    unfold wR enW
    simp [ex, e_bc, evs, e_var, refr, hs, tb]
  have hl1 : 1 ≤ fs.length := by
    obtain ⟨x, xs, e⟩ := List.exists_cons_of_length_pos hd.1
    exact List.length_pos_of_mem (c2 x (by rw [e]; exact List.mem_cons_self))
  refine ⟨o1, sE fs, ?_, b.mono (by omega), ⟨by rw [sE_len]; exact hl1, by rw [sE_len]; exact c4, fun e he => (c1 e (sE_mem.mp he)).1, sE_asc c3, sE_nodup c3⟩, fun e he => sE_mem.mpr (c2 e he), fun e he => (c1 e (sE_mem.mp he)).2⟩
  rw [run_of F_35 rfl (by decide) rfl rfl]
  simp only [f__law_more, b_more, List.map_cons, List.map_nil, List.replicate, List.cons_append, List.nil_append, Nat.reduceSub]
  rw [exsN h1, exsN h2, exs, h3]
  simp only [Option.bind_some]
  unfold enW
  simp [PL.finish, retV, gd_pos]
end PT
set_option maxRecDepth 100000
set_option maxHeartbeats 4000000
/-! U5: some, all of them in a drawn sequence; what is left. -/
namespace PT
open PySem PL
open L2 (Key)
variable {N k : Nat}
theorem some_loopP : ∀ (n : Nat) (ds : List Da) (m : Nat) (o : Ob) (left found : List Da) (x3 : Option SV) (v q : Da) (env0 : En), Pot m o → m + n ≤ 10 ^ 9 → n ≤ left.length → left.length ≤ 1000 → ds.length = n → found.length + n ≤ 1000 →
    ∃ (o' : Ob) (left' found' : List Da) (y3 : Option SV), forL [] (fun d e => (bindT [0] (.nm 3) (.val d) e).bind fun e1 => exs (run F N (k + 1)) N [0] (.cons (.app 5 (.pop 4 (.call 24 (.cons (.var 0) (.cons (.bc .len (.cons (.var 4) .nil)) .nil)) [some 0, none]))) .nil) e1) ds env0 [some (.own o), some (.val v), some (.val q), x3, some (.own (.L left)), some (.own (.L found))] =
      some (.nx [some (.own o'), some (.val v), some (.val q), y3, some (.own (.L left')), some (.own (.L found'))]) ∧ Pot (m + n) o' ∧ (left' ++ found').Perm (left ++ found) ∧ found'.length = found.length + n
  | 0, ds, m, o, left, found, x3, v, q, env0, hp, _, _, _, hd, _ => by
    have : ds = [] := List.eq_nil_of_length_eq_zero hd
    subst this
    exact ⟨o, left, found, x3, by rw [forL], hp, .refl _, rfl⟩
  | n + 1, ds, m, o, left, found, x3, v, q, env0, hp, hm, hl, hl2, hd, hg => by
    obtain ⟨d, ds', e⟩ := List.exists_cons_of_length_pos (show 0 < ds.length by omega)
    subst e
    obtain ⟨j, o1, a, hj, hp1⟩ := s_take (N := N) (k := k) (u := left.length) hp (by omega) (by omega) (by omega)
    have hx : (left[j] :: []) = [left[j]] := rfl
    have hlen : (left.eraseIdx j).length = left.length - 1 := List.length_eraseIdx_of_lt hj
    have hpm : (left.eraseIdx j ++ (found ++ [left[j]])).Perm (left ++ found) := by
      have e1 : left.eraseIdx j = left.take j ++ left.drop (j + 1) := List.eraseIdx_eq_take_drop_succ _ _
      have e2 : left = left.take j ++ left[j] :: left.drop (j + 1) := by rw [← List.drop_eq_getElem_cons hj, List.take_append_drop]
      rw [e1]
      conv => rhs; rw [e2]
      refine (List.Perm.append_left _ (List.perm_append_singleton _ _)).trans ?_
      refine List.perm_middle.trans ?_
      exact (List.Perm.append_right found List.perm_middle).symm
    obtain ⟨o', left', found', y3, g1, g2, g3, g4⟩ := some_loopP n ds' (m + 1) o1 (left.eraseIdx j) (found ++ [left[j]]) (some (.val d)) v q env0 hp1 (by omega) (by omega) (by omega) (by simpa using hd) (by rw [List.length_append, List.length_singleton]; omega)
    refine ⟨o', left', found', y3, ?_, by rw [show m + (n + 1) = m + 1 + n by omega]; exact g2, g3.trans hpm, by rw [g4, List.length_append, List.length_singleton]; omega⟩
    rw [forL]
    have hnl := nl_pot hp1
    have st : ((bindT [0] (.nm 3) (.val d) [some (.own o), some (.val v), some (.val q), x3, some (.own (.L left)), some (.own (.L found))]).bind fun e1 => exs (run F N (k + 1)) N [0] (.cons (.app 5 (.pop 4 (.call 24 (.cons (.var 0) (.cons (.bc .len (.cons (.var 4) .nil)) .nil)) [some 0, none]))) .nil) e1) = some (.nx [some (.own o1), some (.val v), some (.val q), some (.val d), some (.own (.L (left.eraseIdx j))), some (.own (.L (found ++ [left[j]])))]) := by
      have ix : L2.ixN left.length (j : Int) = some j := by
        unfold L2.ixN; simp; omega
      have ge : left[j]? = some left[j] := List.getElem?_eq_getElem hj
      have r1 : -(2 ^ 62) ≤ (j : Int) ∧ (j : Int) < 2 ^ 62 := by omega
      have fl : found.length < LIM := Nat.lt_of_lt_of_le (show found.length < 1000 by omega) (lim8 (Nat.le_refl _))
      have cc : ev (run F N (k + 1)) (.call 24 (.cons (.var 0) (.cons (.bc .len (.cons (.var 4) .nil)) .nil)) [some 0, none]) [some (.own o), some (.val v), some (.val q), some (.val d), some (.own (.L left)), some (.own (.L found))] = some (.val (.int j), [some (.own o1), some (.val v), some (.val q), some (.val d), some (.own (.L left)), some (.own (.L found))]) := by
        have hln : bcall .len [RV.bo 4 (.L left)] = some (.val (.int left.length)) := by simp [bcall, RV.dat]
        simp [e_call, e_bc, evs, e_var, refr, hln, passA, valSl, gd_pos, a, retOk, noList, backA, hnl, RV.dat]
      have pp : ev (run F N (k + 1)) (.pop 4 (.call 24 (.cons (.var 0) (.cons (.bc .len (.cons (.var 4) .nil)) .nil)) [some 0, none])) [some (.own o), some (.val v), some (.val q), some (.val d), some (.own (.L left)), some (.own (.L found))] = some (.val left[j], [some (.own o1), some (.val v), some (.val q), some (.val d), some (.own (.L (left.eraseIdx j))), some (.own (.L found))]) := by
        rw [e_pop]
        simp only [List.getElem?_cons_succ, List.getElem?_cons_zero, cc, Option.bind_some]
        rw [gd_pos r1]
        simp only [Option.bind_some, ix, ge, Option.map_some]
        rfl
      simp [b_val, exs, ex, pp, RV.frz, RV.dat, gd_pos, fl]
    rw [st]
    simp only [Option.bind_some]
    rw [gd_pos (by simp)]
    exact g1
theorem s_someP {m n : Nat} {o : Ob} {v : Da} {xs : List Da} (h : Pot m o) (hm : m + n ≤ 10 ^ 9) (hv : ofs v = some xs) (h1 : n ≤ xs.length) (h2 : xs.length ≤ 500) : ∃ (ys : List Da) (o' : Ob), run F N (k + 2) 29 [.own o, .val v, .val (.int n)] = some (.fr (.L ys), [some (.own o'), some (.val v), some (.val (.int n))]) ∧ ys.length = n ∧ (n = xs.length → ys.Perm xs) ∧ Pot (m + n) o' := by
  have hl : bcall .list [RV.val v] = some (.fr (.L xs)) := by
    unfold ofs at hv
    split at hv
    · cases hv; simp [bcall, RV.dat]
    · cases hv; simp [bcall, RV.dat]
    · cases hv
  obtain ⟨o', l', f', y3, g1, g2, g3, g4⟩ := some_loopP (N := N) (k := k) n (intR 0 n) m o xs [] none v (.int n) [some (.own o), some (.val v), some (.val (.int n)), none, some (.own (.L xs)), some (.own (.L []))] h hm h1 (by omega) (by unfold intR; simp) (by simp; omega)
  refine ⟨f', o', ?_, by simpa using g4, fun e => ?_, g2⟩
  rotate_left
  · have hl := g3.length_eq
    rw [List.length_append, List.length_append, List.length_nil] at hl
    rw [List.length_nil] at g4
    have : l' = [] := List.eq_nil_of_length_eq_zero (by omega)
    subst this
    simpa using g3
  rw [run_of F_29 rfl (by decide) rfl rfl]
  simp only [f__law_some, b__law_some, List.map_cons, List.map_nil, List.replicate, List.cons_append, List.nil_append, Nat.reduceSub]
  have c1 : ex (run F N (k + 1)) N [0] (.par [4, 5] (.cons (.bc .list (.cons (.var 1) .nil)) (.cons (.lst .nil) .nil))) [some (.own o), some (.val v), some (.val (.int n)), none, none, none] = some (.nx [some (.own o), some (.val v), some (.val (.int n)), none, some (.own (.L xs)), some (.own (.L []))]) := by
    simp [ex, e_bc, e_lst, evs, e_var, refr, hl, gd_pos, bindP, b_fr]
  have r1 : (-(2 : Int) ^ 62 ≤ n ∧ (n : Int) < 2 ^ 62) := by omega
  have c2 : evi (run F N (k + 1)) (.rng1 (.var 2)) [some (.own o), some (.val v), some (.val (.int n)), none, some (.own (.L xs)), some (.own (.L []))] = some (intR 0 n, [], [some (.own o), some (.val v), some (.val (.int n)), none, some (.own (.L xs)), some (.own (.L []))]) := by
    simp only [evi, e_var, List.getElem?_cons_succ, List.getElem?_cons_zero, Option.bind_some]
    rw [gd_pos r1]
    simp
  rw [exs, c1]
  simp only [Option.bind_some]
  rw [exs, ex, c2]
  simp only [Option.bind_some]
  rw [gd_pos (by simp)]
  simp only [Option.bind_some]
  rw [g1]
  obtain ⟨pa, pb, pc, pz, _⟩ := g2
  subst pz
  simp [exs, ex, e_var, PL.finish, retV, gd_pos]
def vS : S :=
(.asg (.nm 4) (.ite (.cmp .Gt (.bc .len (.cons (.var 2) .nil)) (.cst (PyData.int 1))) (.call 13 (.cons (.var 2) (.cons (.var 3) .nil)) [none, none]) (.var 2)))
def vT : E :=
(.and (.cmp .Gt (.bc .len (.cons (.var 2) .nil)) (.cst (PyData.int 1))) (.cmp .Eq (.idx (.call 20 (.cons (.tup (.cons (.var 3) .nil)) (.cons (.var 4) .nil)) [none, none]) (.cst (PyData.int 0))) (.cst (PyData.str "within"))))
def vI : Ss :=
(.cons (.asg (.nm 2) (.var 4)) .nil)
def vA : S :=
(.asg (.nm 2) (.var 1))
def vX : S := .ite vT vI .nil
def vF : S := .for (.nm 3) (.vals (.call 29 (.cons (.var 0) (.cons (.var 1) (.cons (.bc .len (.cons (.var 1) .nil)) .nil))) [some 0, none, none])) (.cons vS (.cons vX .nil))
theorem b_left : b__law_left = .cons vA (.cons vF (.cons (.ret (.var 2)) .nil)) := rfl
/-- one entry asked -/
noncomputable def stepL (N : Nat) (lf : List Ent) (e : Ent) : List Ent := if 1 < lf.length ∧ wi N [e] (wo lf e) = true then wo lf e else lf
def Lf (lf : List Ent) : Prop := Dk lf
theorem left_turn {o : Ob} {d lf : List Ent} {e : Ent} {x4 : Option SV} (h : Dk lf) (he : e ∈ lf) (hN : 200 ≤ N) :
    ∃ y4 : Option SV, exs (run F N (k + 7)) N [0] (.cons vS (.cons vX .nil)) [some (.own o), some (.val (dD d)), some (.val (dD lf)), some (.val (eD e)), x4] = some (.nx [some (.own o), some (.val (dD d)), some (.val (dD (stepL N lf e))), some (.val (eD e)), y4]) := by
  have le := h.2.2.1 e he
  have hln : bcall .len [RV.val (dD lf)] = some (.val (.int lf.length)) := by simp [bcall, RV.dat, dD]
  have gt : opCmp .Gt (.val (.int lf.length)) (.val (.int 1)) = some (decide (1 < lf.length)) := by
    show some (decide ((1 : Int) < (lf.length : Int))) = _
    congr 1
    exact decide_eq_decide.mpr (by omega)
  have zg : ∀ x4, evt (run F N (k + 7)) (.cmp .Gt (.bc .len (.cons (.var 2) .nil)) (.cst (PyData.int 1))) [some (.own o), some (.val (dD d)), some (.val (dD lf)), some (.val (eD e)), x4] = some (decide (1 < lf.length), [some (.own o), some (.val (dD d)), some (.val (dD lf)), some (.val (eD e)), x4]) := fun x4 => by
    simp [evt_cmp, e_bc, evs, e_var, e_cst, refr, hln, gt]
  by_cases q : 1 < lf.length
  · have hw := wo_Dk h he q
    have a1 := s_without (N := N) (k := k) h he q
    have nw := nl_d (wo lf e)
    have c1 : ex (run F N (k + 7)) N [0] vS [some (.own o), some (.val (dD d)), some (.val (dD lf)), some (.val (eD e)), x4] = some (.nx [some (.own o), some (.val (dD d)), some (.val (dD lf)), some (.val (eD e)), some (.val (dD (wo lf e)))]) := by
      have zg' := zg x4
      rw [decide_eq_true q] at zg'
      unfold vS
      rw [ex, e_ite, zg']
      simp [e_call, evs, e_var, refr, passA, valSl, RV.dat, gd_pos, a1, retOk, nw, backA, b_val]
    have a2 := s_within_told (N := N) (k := k) (Dk_one le) hw hN
    have e1 : dD [e] = .tuple [eD e] := rfl
    rw [e1] at a2
    have z := at0 (N := N) [e] (wo lf e)
    have y := wd_eq (N := N) [e] (wo lf e)
    have l1 : 1 ≤ LIM := lim8 (by omega)
    have nv := nl_wv (N := N) [e] (wo lf e)
    have z2 : evt (run F N (k + 7)) (.cmp .Eq (.idx (.call 20 (.cons (.tup (.cons (.var 3) .nil)) (.cons (.var 4) .nil)) [none, none]) (.cst (PyData.int 0))) (.cst (PyData.str "within"))) [some (.own o), some (.val (dD d)), some (.val (dD lf)), some (.val (eD e)), some (.val (dD (wo lf e)))] = some (wi N [e] (wo lf e), [some (.own o), some (.val (dD d)), some (.val (dD lf)), some (.val (eD e)), some (.val (dD (wo lf e)))]) := by
      simp [evt_cmp, e_idx, e_call, e_tup, evs, e_var, e_cst, refr, passA, valSl, backA, RV.dat, RV.frz, gd_pos, l1, a2, retOk, nv, z, y]
    have ct : evt (run F N (k + 7)) vT [some (.own o), some (.val (dD d)), some (.val (dD lf)), some (.val (eD e)), some (.val (dD (wo lf e)))] = some (wi N [e] (wo lf e), [some (.own o), some (.val (dD d)), some (.val (dD lf)), some (.val (eD e)), some (.val (dD (wo lf e)))]) := by
      have zg' := zg (some (.val (dD (wo lf e))))
      rw [decide_eq_true q] at zg'
      unfold vT
      rw [evt_and, zg']
      simp only [Option.bind_some, if_true]
      exact z2
    refine ⟨some (.val (dD (wo lf e))), ?_⟩
    rw [exsN c1]
    refine exs1 ?_
    unfold vX stepL
    rw [ex_ite ct]
    by_cases p : wi N [e] (wo lf e) = true
    · rw [if_pos p, if_pos ⟨q, p⟩]
      unfold vI
      simp [exs, ex, e_var, b_val]
    · rw [if_neg p, if_neg fun w => p w.2, exs]
  · have c1 : ex (run F N (k + 7)) N [0] vS [some (.own o), some (.val (dD d)), some (.val (dD lf)), some (.val (eD e)), x4] = some (.nx [some (.own o), some (.val (dD d)), some (.val (dD lf)), some (.val (eD e)), some (.val (dD lf))]) := by
      have zg' := zg x4
      rw [decide_eq_false q] at zg'
      unfold vS
      rw [ex, e_ite, zg']
      simp [e_var, b_val]
    have ct : evt (run F N (k + 7)) vT [some (.own o), some (.val (dD d)), some (.val (dD lf)), some (.val (eD e)), some (.val (dD lf))] = some (false, [some (.own o), some (.val (dD d)), some (.val (dD lf)), some (.val (eD e)), some (.val (dD lf))]) := by
      have zg' := zg (some (.val (dD lf)))
      rw [decide_eq_false q] at zg'
      unfold vT
      rw [evt_and, zg']
      simp
    refine ⟨some (.val (dD lf)), ?_⟩
    rw [exsN c1]
    refine exs1 ?_
    unfold vX stepL
    rw [ex_ite ct, if_neg (by simp), if_neg fun w => q w.1, exs]
theorem stepL_mem {lf : List Ent} {e x : Ent} (h : x ∈ stepL N lf e) : x ∈ lf := by
  unfold stepL at h
  split at h
  · exact (wo_mem.mp h).1
  · exact h
theorem stepL_keep {lf : List Ent} {e x : Ent} (h : x ∈ lf) (n : x ≠ e) : x ∈ stepL N lf e := by
  unfold stepL
  split
  · exact wo_mem.mpr ⟨h, n⟩
  · exact h
theorem stepL_Dk {lf : List Ent} {e : Ent} (h : Dk lf) (he : e ∈ lf) : Dk (stepL N lf e) := by
  unfold stepL
  split
  · rename_i q
    exact wo_Dk h he q.1
  · exact h
theorem stepL_gen {lf : List Ent} {e : Ent} (h : Dk lf) (he : e ∈ lf) (hN : 200 ≤ N) : ∀ x ∈ lf, Sp (stepL N lf e) x := by
  intro x hx
  unfold stepL
  split
  · rename_i q
    by_cases p : x = e
    · subst p
      exact (wi_iff (Dk_one (h.2.2.1 _ he)) (wo_Dk h he q.1) hN).mp q.2 _ (by simp)
    · exact Sp_mem (wo_mem.mpr ⟨hx, p⟩)
  · exact Sp_mem hx
/-- what was asked and is left is not made of the others -/
theorem stepL_irr {lf : List Ent} {e : Ent} (h : Dk lf) (he : e ∈ lf) (hN : 200 ≤ N) (hin : e ∈ stepL N lf e) : ¬ Sp (wo (stepL N lf e) e) e := by
  intro z
  unfold stepL at hin z
  split at hin
  · exact (wo_mem.mp hin).2 rfl
  · rename_i q
    rw [if_neg q] at z
    by_cases p : 1 < lf.length
    · exact q ⟨p, (wi_iff (Dk_one (h.2.2.1 _ he)) (wo_Dk h he p) hN).mpr fun x hx => by rw [List.mem_singleton.mp hx]; exact z⟩
    · have l1 := wo_len he h.2.2.2.2
      have : wo lf e = [] := List.eq_nil_of_length_eq_zero (by have := h.1; omega)
      rw [this] at z
      obtain ⟨es, g1, g2, _⟩ := z
      have : es = [] := by
        cases es with
        | nil => rfl
        | cons x es => exact absurd (g1 x List.mem_cons_self) (by simp)
      subst this
      have := (h.2.2.1 e he).1.1
      rw [← len_cps, g2] at this
      simp at this
theorem left_fold (hN : 200 ≤ N) {d0 : List Ent} : ∀ (ys : List Ent) (lf : List Ent), Dk lf → ys.Nodup → (∀ y ∈ ys, y ∈ lf) → (∀ x ∈ d0, Sp lf x) → (∀ x ∈ lf, x ∈ d0) → (∀ x ∈ lf, x ∉ ys → ¬ Sp (wo lf x) x) →
    Dk (ys.foldl (stepL N) lf) ∧ (∀ x ∈ d0, Sp (ys.foldl (stepL N) lf) x) ∧ (∀ x ∈ ys.foldl (stepL N) lf, x ∈ d0) ∧ ∀ x ∈ ys.foldl (stepL N) lf, ¬ Sp (wo (ys.foldl (stepL N) lf) x) x
  | [], lf, h, _, _, h1, h2, h3 => ⟨h, h1, h2, fun x hx => h3 x hx (by simp)⟩
  | y :: ys, lf, h, hn, hy, h1, h2, h3 => by
    obtain ⟨n1, n2⟩ := List.nodup_cons.mp hn
    have hyl := hy y List.mem_cons_self
    refine left_fold hN ys (stepL N lf y) (stepL_Dk h hyl) n2 (fun z hz => stepL_keep (hy z (List.mem_cons_of_mem _ hz)) fun w => n1 (w ▸ hz)) (fun x hx => Sp_trans (h1 x hx) (stepL_gen h hyl hN)) (fun x hx => h2 x (stepL_mem hx)) fun x hx hxn => ?_
    by_cases q : x = y
    · subst q
      exact stepL_irr h hyl hN hx
    · exact fun z => h3 x (stepL_mem hx) (fun w => (List.mem_cons.mp w).elim q hxn) (Sp_sub z fun w hw => wo_mem.mpr ⟨stepL_mem (wo_mem.mp hw).1, (wo_mem.mp hw).2⟩)
theorem left_loop {o : Ob} {d : List Ent} (hN : 200 ≤ N) {env0 : En} : ∀ (ys lf : List Ent) (x3 x4 : Option SV), Dk lf → ys.Nodup → (∀ y ∈ ys, y ∈ lf) →
    ∃ y3 y4 : Option SV, forL [] (fun q en => (bindT [0] (.nm 3) (.val q) en).bind fun e1 => exs (run F N (k + 7)) N [0] (.cons vS (.cons vX .nil)) e1) (ys.map eD) env0 [some (.own o), some (.val (dD d)), some (.val (dD lf)), x3, x4] = some (.nx [some (.own o), some (.val (dD d)), some (.val (dD (ys.foldl (stepL N) lf))), y3, y4])
  | [], lf, x3, x4, _, _, _ => ⟨x3, x4, by rw [List.map_nil, forL]; rfl⟩
  | e :: ys, lf, x3, x4, h, hn, hy => by
    obtain ⟨n1, n2⟩ := List.nodup_cons.mp hn
    have hyl := hy e List.mem_cons_self
    obtain ⟨z4, a⟩ := left_turn (N := N) (k := k) (o := o) (d := d) (x4 := x4) h hyl hN
    obtain ⟨y3, y4, g⟩ := left_loop hN (env0 := env0) (o := o) (d := d) ys (stepL N lf e) (some (.val (eD e))) z4 (stepL_Dk h hyl) n2 fun z hz => stepL_keep (hy z (List.mem_cons_of_mem _ hz)) fun w => n1 (w ▸ hz)
    refine ⟨y3, y4, ?_⟩
    have hb : bindT [0] (.nm 3) (.val (eD e)) [some (.own o), some (.val (dD d)), some (.val (dD lf)), x3, x4] = some [some (.own o), some (.val (dD d)), some (.val (dD lf)), some (.val (eD e)), x4] := by
      simp [b_val]
    rw [List.map_cons, forL, hb]
    simp only [Option.bind_some]
    rw [a]
    simp only [Option.bind_some]
    rw [gd_pos (by simp)]
    exact g
theorem s_left {m : Nat} {o : Ob} {d : List Ent} (hp : Pot m o) (hm : m + 100 ≤ 10 ^ 9) (hd : Dk d) (hN : 200 ≤ N) :
    ∃ o' : Ob, run F N (k + 8) 38 [.own o, .val (dD d)] = some (.val (dD (ker d)), [some (.own o'), some (.val (dD d))]) ∧ Pot (m + 100) o' := by
  have h16 := hd.2.1
  have hdl : (d.map eD).length = d.length := List.length_map _
  obtain ⟨zs, o1, a, a1, a2, a3⟩ := s_someP (N := N) (k := k + 5) (n := d.length) (v := dD d) (xs := d.map eD) hp (by omega) rfl (by rw [hdl]; exact Nat.le_refl _) (by omega)
  have pz := a2 (by rw [hdl])
  obtain ⟨ys, e1, e2, _⟩ := ents_of (d := d) zs fun z hz => by
    obtain ⟨x, hx, q⟩ := List.mem_map.mp (pz.mem_iff.mp hz)
    exact ⟨x, q.symm, hx⟩
  subst e1
  have inj : ∀ x y : Ent, eD x = eD y → x = y := fun x y z => by
    unfold eD at z
    simp only [PyData.tuple.injEq, List.cons.injEq, PyData.str.injEq, and_true] at z
    exact Prod.ext z.1 z.2
  have nd : (d.map eD).Nodup := by
    rw [List.Nodup, List.pairwise_map]
    exact hd.2.2.2.2.imp fun n z => n (inj _ _ z)
  have ny : ys.Nodup := by
    have := pz.nodup_iff.mpr nd
    rw [List.Nodup, List.pairwise_map] at this
    exact this.imp fun n z => n (by rw [z])
  have my : ∀ x ∈ d, x ∈ ys := fun x hx => by
    obtain ⟨y, hy, q⟩ := List.mem_map.mp (pz.mem_iff.mpr (List.mem_map_of_mem hx))
    rw [← inj _ _ q]; exact hy
  obtain ⟨f1, f2, f3, f4⟩ := left_fold (N := N) hN (d0 := d) ys d hd ny e2 (fun x hx => Sp_mem hx) (fun _ h => h) fun x hx hn => absurd (my x hx) hn
  have fin : ys.foldl (stepL N) d = ker d := by
    have := ker_eq hd f1 f2 fun x hx => Sp_mem (f3 x hx)
    rw [this]
    exact (ker_self f4).symm
  obtain ⟨y3, y4, g⟩ := left_loop (N := N) (k := k) (o := o1) (d := d) hN (env0 := [some (.own o1), some (.val (dD d)), some (.val (dD d)), none, none]) ys d none none hd ny e2
  rw [fin] at g
  have hln : bcall .len [RV.val (dD d)] = some (.val (.int d.length)) := by simp [bcall, RV.dat, dD]
  have nz : obNl (.L (ys.map eD)) = true := nl_es ys
  have c1 : ex (run F N (k + 7)) N [0] vA [some (.own o), some (.val (dD d)), none, none, none] = some (.nx [some (.own o), some (.val (dD d)), some (.val (dD d)), none, none]) := by
    unfold vA
    simp [ex, e_var, b_val]
  have hi : evi (run F N (k + 7)) (.vals (.call 29 (.cons (.var 0) (.cons (.var 1) (.cons (.bc .len (.cons (.var 1) .nil)) .nil))) [some 0, none, none])) [some (.own o), some (.val (dD d)), some (.val (dD d)), none, none] = some (ys.map eD, [], [some (.own o1), some (.val (dD d)), some (.val (dD d)), none, none]) := by
    simp [evi, e_call, e_bc, evs, e_var, refr, hln, passA, valSl, gd_pos, a, retOk, nz, backA, nl_pot a3, RV.dat, boSl]
  have c2 : ex (run F N (k + 7)) N [0] vF [some (.own o), some (.val (dD d)), some (.val (dD d)), none, none] = some (.nx [some (.own o1), some (.val (dD d)), some (.val (dD (ker d))), y3, y4]) := by
    unfold vF
    rw [ex, hi]
    simp only [Option.bind_some]
    rw [gd_pos (by simp)]
    exact g
  refine ⟨o1, ?_, a3.mono (by omega)⟩
  rw [run_of F_38 rfl (by decide) rfl rfl]
  simp only [f__law_left, b_left, List.map_cons, List.map_nil, List.replicate, List.cons_append, List.nil_append, Nat.reduceSub]
  rw [exsN c1, exsN c2]
  simp [exs, ex, e_var, PL.finish, retV, gd_pos]
end PT
set_option maxRecDepth 100000
set_option maxHeartbeats 4000000
/-! U6: is_within. -/
namespace PT
open PySem PL
open L2 (Key)
variable {N k : Nat}
def xO : E :=
(.or (.inv (.isi .tuple (.var 2))) (.or (.cmp .NotEq (.bc .len (.cons (.var 2) .nil)) (.cst (PyData.int 2))) (.or (.cmp .NotEq (.idx (.var 2) (.cst (PyData.int 0))) (.cst (PyData.str "within"))) (.or (.inv (.isi .tuple (.idx (.var 2) (.cst (PyData.int 1))))) (.cmp .NotEq (.bc .len (.cons (.idx (.var 2) (.cst (PyData.int 1))) .nil)) (.bc .len (.cons (.var 0) .nil)))))))
def xA : E :=
(.or (.inv (.isi .tuple (.var 4))) (.inv (.bc .all (.cons (.comp (.and (.call 34 (.cons (.var 5) .nil) [none]) (.chn .LtE .Lt (.cst (PyData.int 0)) (.var 5) (.bc .len (.cons (.var 1) .nil)))) (.nm 5) (.vals (.var 4)) .no [("place", 5)]) .nil))))
def xB : E :=
(.cmp .NotEq (.tup (.cons (.mth .join (.cst (PyData.str "")) (.cons (.comp (.idx (.idx (.var 1) (.var 5)) (.cst (PyData.int 0))) (.nm 5) (.vals (.var 4)) .no [("place", 5)]) .nil)) (.cons (.mth .join (.cst (PyData.str "")) (.cons (.comp (.idx (.idx (.var 1) (.var 5)) (.cst (PyData.int 1))) (.nm 5) (.vals (.var 4)) .no [("place", 5)]) .nil)) .nil))) (.var 3))
def xRF : Ss := (.cons (.ret (.cst (PyData.bool false))) .nil)
def xSA : S := .ite xA xRF .nil
def xSB : S := .ite xB xRF .nil
def xF : S := .for (.tp (.cons (.nm 3) (.cons (.nm 4) .nil))) (.zip (.var 0) (.idx (.var 2) (.cst (PyData.int 1)))) (.cons xSA (.cons xSB .nil))
theorem b_is_within : b__law_is_within = .cons (.ite xO xRF .nil) (.cons xF (.cons (.ret (.cst (PyData.bool true))) .nil)) := rfl
theorem eq_said1 {e : Ent} {o : List Ent} (he : Le e) (ho : ∀ x ∈ o, Le x) (r : List Nat) : opCmp .NotEq (.val (eD (said o r))) (.val (eD e)) = some (!decide (said o r = e)) := by
  have h1 := sok_s (cps_row ho r)
  have h2 := sok_s (cps_text ho r)
  have c : (eD (said o r)).canLay0 = true := by simp [eD, said, PyData.canLay0, PyData.canLayAll0, h1, h2]
  have q : eqOk (eD (said o r)) (eD e) := ⟨c, lay_e he, depth_e _, depth_e e⟩
  simp only [opCmp, RV.dat, Option.bind_some]
  have : opEq (eD (said o r)) (eD e) = (gd (eqOk (eD (said o r)) (eD e))).map fun _ => PyData.eqv (eD (said o r)) (eD e) := rfl
  rw [this, gd_pos q, eqv_e]
  rfl
theorem within_turn {d o : List Ent} {rs0 : List (List Nat)} {e : Ent} {r : List Nat} (he : Le e) (ho : Dk o) (hr : Rok o r) :
    evt (run F N (k + 1)) xA [some (.val (dD d)), some (.val (dD o)), some (.val (withinD (rs0.map rD))), some (.val (eD e)), some (.val (rD r)), none] = some (false, [some (.val (dD d)), some (.val (dD o)), some (.val (withinD (rs0.map rD))), some (.val (eD e)), some (.val (rD r)), none]) ∧ evt (run F N (k + 1)) xB [some (.val (dD d)), some (.val (dD o)), some (.val (withinD (rs0.map rD))), some (.val (eD e)), some (.val (rD r)), none] = some (!decide (said o r = e), [some (.val (dD d)), some (.val (dD o)), some (.val (withinD (rs0.map rD))), some (.val (eD e)), some (.val (rD r)), none]) := by
  have lr : r.length ≤ LIM := by have := hr.2; unfold LIM; omega
  constructor
  · have z1 : evt (run F N (k + 1)) (.inv (.isi .tuple (.var 4))) [some (.val (dD d)), some (.val (dD o)), some (.val (withinD (rs0.map rD))), some (.val (eD e)), some (.val (rD r)), none] = some (false, [some (.val (dD d)), some (.val (dD o)), some (.val (withinD (rs0.map rD))), some (.val (eD e)), some (.val (rD r)), none]) := by
      simp [evt_inv, evt_isi, e_var, rD, opIsi]
    have g : ev (run F N (k + 1)) (.comp (.and (.call 34 (.cons (.var 5) .nil) [none]) (.chn .LtE .Lt (.cst (PyData.int 0)) (.var 5) (.bc .len (.cons (.var 1) .nil)))) (.nm 5) (.vals (.var 4)) .no [("place", 5)]) [some (.val (dD d)), some (.val (dD o)), some (.val (withinD (rs0.map rD))), some (.val (eD e)), some (.val (rD r)), none] = some (.fr (.L (r.map fun _ => .bool true)), [some (.val (dD d)), some (.val (dD o)), some (.val (withinD (rs0.map rD))), some (.val (eD e)), some (.val (rD r)), none]) := by
      rw [comp_all (fun (i : Nat) => PyData.int i) (fun _ => .bool true) (l := r) (bs := []) (env1 := [some (.val (dD d)), some (.val (dD o)), some (.val (withinD (rs0.map rD))), some (.val (eD e)), some (.val (rD r)), none]) (by simp [evi, e_var, rD, RV.dat]) (by simp) lr (fun i hi => ⟨[some (.val (dD d)), some (.val (dD o)), some (.val (withinD (rs0.map rD))), some (.val (eD e)), some (.val (rD r)), some (.val (.int (i : Int)))], by
        have a := s_is_int (N := N) (k := k) (i := (i : Int))
        have hln : bcall .len [RV.val (dD o)] = some (.val (.int o.length)) := by simp [bcall, RV.dat, dD]
        have h1 : opCmp .LtE (.val (.int 0)) (.val (.int (i : Int))) = some true := by
          show some (decide ((0 : Int) ≤ (i : Int))) = _
          rw [decide_eq_true (by omega)]
        have h2 : opCmp .Lt (.val (.int (i : Int))) (.val (.int (o.length : Int))) = some true := by
          show some (decide ((i : Int) < (o.length : Int))) = _
          rw [decide_eq_true (by have := hr.1 i hi; omega)]
        simp [turnQ, evq, b_val, wipeD, e_and, evt_call, evt_chn, e_call, e_chn, e_bc, evs, e_var, e_cst, refr, passA, valSl, backA, RV.dat, RV.frz, gd_pos, a, retOk, noList, hln, h1, h2], by simp [wipeD]⟩)]
      simp [backD, wipeD, valAt]
    have z2 : evt (run F N (k + 1)) (.inv (.bc .all (.cons (.comp (.and (.call 34 (.cons (.var 5) .nil) [none]) (.chn .LtE .Lt (.cst (PyData.int 0)) (.var 5) (.bc .len (.cons (.var 1) .nil)))) (.nm 5) (.vals (.var 4)) .no [("place", 5)]) .nil))) [some (.val (dD d)), some (.val (dD o)), some (.val (withinD (rs0.map rD))), some (.val (eD e)), some (.val (rD r)), none] = some (false, [some (.val (dD d)), some (.val (dD o)), some (.val (withinD (rs0.map rD))), some (.val (eD e)), some (.val (rD r)), none]) := by
      have bm := boolsD_map (fun _ : Nat => true) r
      have ba : bcall .all [.fr (.L (r.map fun _ => .bool true))] = some (.val (.bool true)) := by
        simp only [bcall, RV.dat, bm, Option.map_some]
        simp
      rw [evt_inv, evt_bc, e_bc, evs, g]
      simp only [Option.bind_some, evs, refr, Option.map_some, ba]
      rfl
    unfold xA
    rw [evt_or, z1]
    simp only [Option.bind_some, Bool.false_eq_true, if_false]
    exact z2
  · have lz := sum_le (outl_le ho.2.2.1) r
    have ls : ((r.map (outl o)).map (·.length)).sum ≤ LIM := by
      have := hr.2
      have z : 16000 ≤ LIM := by unfold LIM; omega
      omega
    have mz := sum_le (text_le ho.2.2.1) r
    have ms : ((r.map (text o)).map (·.length)).sum ≤ LIM := by
      have := hr.2
      have z : 16000 ≤ LIM := by unfold LIM; omega
      omega
    have l2 : 2 ≤ LIM := lim8 (by omega)
    have h1 : ev (run F N (k + 1)) (.comp (.idx (.idx (.var 1) (.var 5)) (.cst (PyData.int 0))) (.nm 5) (.vals (.var 4)) .no [("place", 5)]) [some (.val (dD d)), some (.val (dD o)), some (.val (withinD (rs0.map rD))), some (.val (eD e)), some (.val (rD r)), none] = some (.fr (.L (r.map fun x => .str (outl o x))), [some (.val (dD d)), some (.val (dD o)), some (.val (withinD (rs0.map rD))), some (.val (eD e)), some (.val (rD r)), none]) := by
      rw [comp_all (fun (i : Nat) => PyData.int i) (fun i => .str (outl o i)) (l := r) (bs := []) (env1 := [some (.val (dD d)), some (.val (dD o)), some (.val (withinD (rs0.map rD))), some (.val (eD e)), some (.val (rD r)), none]) (by simp [evi, e_var, rD, RV.dat]) (by simp) lr (fun i hi => ⟨[some (.val (dD d)), some (.val (dD o)), some (.val (withinD (rs0.map rD))), some (.val (eD e)), some (.val (rD r)), some (.val (.int (i : Int)))], by
        have := at_dD (hr.1 i hi)
        simp [turnQ, evq, b_val, e_idx, e_var, e_cst, refr, RV.frz, wipeD, this]
        simp [opIdx, RV.dat, RV.frz, L2.atI, L2.ixN], by simp [wipeD]⟩)]
      simp [backD, wipeD, valAt]
    have h2 : ev (run F N (k + 1)) (.comp (.idx (.idx (.var 1) (.var 5)) (.cst (PyData.int 1))) (.nm 5) (.vals (.var 4)) .no [("place", 5)]) [some (.val (dD d)), some (.val (dD o)), some (.val (withinD (rs0.map rD))), some (.val (eD e)), some (.val (rD r)), none] = some (.fr (.L (r.map fun x => .str (text o x))), [some (.val (dD d)), some (.val (dD o)), some (.val (withinD (rs0.map rD))), some (.val (eD e)), some (.val (rD r)), none]) := by
      rw [comp_all (fun (i : Nat) => PyData.int i) (fun i => .str (text o i)) (l := r) (bs := []) (env1 := [some (.val (dD d)), some (.val (dD o)), some (.val (withinD (rs0.map rD))), some (.val (eD e)), some (.val (rD r)), none]) (by simp [evi, e_var, rD, RV.dat]) (by simp) lr (fun i hi => ⟨[some (.val (dD d)), some (.val (dD o)), some (.val (withinD (rs0.map rD))), some (.val (eD e)), some (.val (rD r)), some (.val (.int (i : Int)))], by
        have := at_dD (hr.1 i hi)
        simp [turnQ, evq, b_val, e_idx, e_var, e_cst, refr, RV.frz, wipeD, this]
        simp [opIdx, RV.dat, RV.frz, L2.atI, L2.ixN], by simp [wipeD]⟩)]
      simp [backD, wipeD, valAt]
    have j1 := join_of (g := outl o) (r := r) ls
    have j2 := join_of (g := text o) (r := r) ms
    have q := eq_said1 he ho.2.2.1 r
    have ct : ev (run F N (k + 1)) (.tup (.cons (.mth .join (.cst (PyData.str "")) (.cons (.comp (.idx (.idx (.var 1) (.var 5)) (.cst (PyData.int 0))) (.nm 5) (.vals (.var 4)) .no [("place", 5)]) .nil)) (.cons (.mth .join (.cst (PyData.str "")) (.cons (.comp (.idx (.idx (.var 1) (.var 5)) (.cst (PyData.int 1))) (.nm 5) (.vals (.var 4)) .no [("place", 5)]) .nil)) .nil))) [some (.val (dD d)), some (.val (dD o)), some (.val (withinD (rs0.map rD))), some (.val (eD e)), some (.val (rD r)), none] = some (.val (eD (said o r)), [some (.val (dD d)), some (.val (dD o)), some (.val (withinD (rs0.map rD))), some (.val (eD e)), some (.val (rD r)), none]) := by
      have r1 : strOf ((r.map (outl o)).flatMap fun s => s.cps.toList) = rowS o r := by simp [rowS, rowL_e]
      have r2 : strOf ((r.map (text o)).flatMap fun s => s.cps.toList) = textS o r := by simp [textS, textL_e]
      rw [r1] at j1
      rw [r2] at j2
      have es : eD (said o r) = .tuple [.str (rowS o r), .str (textS o r)] := rfl
      rw [es]
      simp [e_tup, e_mth, e_cst, evs, h1, h2, mtOk, refr, gd_pos, j1, j2, l2, RV.frz]
    unfold xB
    generalize decide (said o r = e) = bb at q ⊢
    rw [evt_cmp, ct]
    simp [e_var, refr, q]
theorem within_loop {d o : List Ent} {rs0 : List (List Nat)} (ho : Dk o) {env0 : En} : ∀ (es : List Ent) (rs : List (List Nat)) (x3 x4 : Option SV), (∀ e ∈ es, Le e) → (∀ r ∈ rs, Rok o r) → es.length = rs.length →
    ∃ y3 y4 : Option SV, forL [] (fun q en => (bindT [] (.tp (.cons (.nm 3) (.cons (.nm 4) .nil))) (.val q) en).bind fun e1 => exs (run F N (k + 1)) N [] (.cons xSA (.cons xSB .nil)) e1) ((es.zip rs).map fun p => .tuple [eD p.1, rD p.2]) env0 [some (.val (dD d)), some (.val (dD o)), some (.val (withinD (rs0.map rD))), x3, x4, none] = if rs.map (said o) = es then some (.nx [some (.val (dD d)), some (.val (dD o)), some (.val (withinD (rs0.map rD))), y3, y4, none]) else some (.rt (.val (.bool false)) [some (.val (dD d)), some (.val (dD o)), some (.val (withinD (rs0.map rD))), y3, y4, none])
  | [], [], x3, x4, _, _, _ => ⟨x3, x4, by rw [List.zip_nil_left, List.map_nil, forL, List.map_nil]; exact (if_pos rfl).symm⟩
  | [], r :: rs, _, _, _, _, h => by simp at h
  | e :: es, [], _, _, _, _, h => by simp at h
  | e :: es, r :: rs, x3, x4, he, hr, hl => by
    obtain ⟨a, b⟩ := within_turn (N := N) (k := k) (d := d) (rs0 := rs0) (he e List.mem_cons_self) ho (hr r List.mem_cons_self)
    have hb : bindT [] (.tp (.cons (.nm 3) (.cons (.nm 4) .nil))) (.val (.tuple [eD e, rD r])) [some (.val (dD d)), some (.val (dD o)), some (.val (withinD (rs0.map rD))), x3, x4, none] = some [some (.val (dD d)), some (.val (dD o)), some (.val (withinD (rs0.map rD))), some (.val (eD e)), some (.val (rD r)), none] := by
      simp [b_tp, bindTs, b_val]
    have sa : ex (run F N (k + 1)) N [] xSA [some (.val (dD d)), some (.val (dD o)), some (.val (withinD (rs0.map rD))), some (.val (eD e)), some (.val (rD r)), none] = some (.nx [some (.val (dD d)), some (.val (dD o)), some (.val (withinD (rs0.map rD))), some (.val (eD e)), some (.val (rD r)), none]) := by
      unfold xSA
      rw [ex_ite a, if_neg (by simp), exs]
    by_cases q : said o r = e
    · rw [decide_eq_true q] at b
      have sb : ex (run F N (k + 1)) N [] xSB [some (.val (dD d)), some (.val (dD o)), some (.val (withinD (rs0.map rD))), some (.val (eD e)), some (.val (rD r)), none] = some (.nx [some (.val (dD d)), some (.val (dD o)), some (.val (withinD (rs0.map rD))), some (.val (eD e)), some (.val (rD r)), none]) := by
        unfold xSB
        rw [ex_ite b, if_neg (by simp), exs]
      obtain ⟨y3, y4, g⟩ := within_loop ho (env0 := env0) (d := d) (rs0 := rs0) es rs (some (.val (eD e))) (some (.val (rD r))) (fun z hz => he z (List.mem_cons_of_mem _ hz)) (fun z hz => hr z (List.mem_cons_of_mem _ hz)) (by simpa using hl)
      refine ⟨y3, y4, ?_⟩
      rw [List.zip_cons_cons, List.map_cons, forL, hb]
      simp only [Option.bind_some]
      rw [exsN sa, exs1 sb]
      simp only [Option.bind_some]
      rw [gd_pos (by simp)]
      simp only [Option.bind_some]
      rw [g, List.map_cons, q]
      simp only [List.cons.injEq, true_and]
    · rw [decide_eq_false q] at b
      have sb : ex (run F N (k + 1)) N [] xSB [some (.val (dD d)), some (.val (dD o)), some (.val (withinD (rs0.map rD))), some (.val (eD e)), some (.val (rD r)), none] = some (.rt (.val (.bool false)) [some (.val (dD d)), some (.val (dD o)), some (.val (withinD (rs0.map rD))), some (.val (eD e)), some (.val (rD r)), none]) := by
        unfold xSB
        rw [ex_ite b, if_pos (by simp)]
        unfold xRF
        simp [exs, ex, e_cst]
      refine ⟨some (.val (eD e)), some (.val (rD r)), ?_⟩
      rw [List.zip_cons_cons, List.map_cons, forL, hb]
      simp only [Option.bind_some]
      rw [exsN sa, exs, sb]
      simp only [Option.bind_some]
      rw [if_neg]
      intro z
      rw [List.map_cons, List.cons.injEq] at z
      exact q z.1
theorem s_is_within {d o : List Ent} {rs : List (List Nat)} (h : Dk d) (ho : Dk o) (hr : ∀ r ∈ rs, Rok o r) (hl : rs.length = d.length) : run F N (k + 2) 39 [.val (dD d), .val (dD o), .val (withinD (rs.map rD))] = some (.val (.bool (decide (rs.map (said o) = d))), [some (.val (dD d)), some (.val (dD o)), some (.val (withinD (rs.map rD)))]) := by
  obtain ⟨y3, y4, g⟩ := within_loop (N := N) (k := k) (d := d) (rs0 := rs) ho (env0 := [some (.val (dD d)), some (.val (dD o)), some (.val (withinD (rs.map rD))), none, none, none]) d rs none none h.2.2.1 hr hl.symm
  have b0 : opIdx (.val (withinD (rs.map rD))) (.val (.int 0)) = some (.str "within") := rfl
  have b1 : opIdx (.val (withinD (rs.map rD))) (.val (.int 1)) = some (.tuple (rs.map rD)) := rfl
  have n0 : opCmp .NotEq (.val (.str "within")) (.val (.str "within")) = some false := by simp [opCmp, RV.dat, opEq]
  have l1 : bcall .len [RV.val (withinD (rs.map rD))] = some (.val (.int 2)) := rfl
  have l2 : bcall .len [RV.val (dD d)] = some (.val (.int d.length)) := by simp [bcall, RV.dat, dD]
  have l3 : bcall .len [RV.val (.tuple (rs.map rD))] = some (.val (.int d.length)) := by simp [bcall, RV.dat, hl]
  have n1 : ∀ i : Int, opCmp .NotEq (.val (.int i)) (.val (.int i)) = some false := fun i => by simp [opCmp, RV.dat, opEq]
  have ct : evt (run F N (k + 1)) xO [some (.val (dD d)), some (.val (dD o)), some (.val (withinD (rs.map rD))), none, none, none] = some (false, [some (.val (dD d)), some (.val (dD o)), some (.val (withinD (rs.map rD))), none, none, none]) := by
    have t1 : opIsi .tuple (.val (withinD (rs.map rD))) = some true := rfl
    have t2 : opIsi .tuple (.val (.tuple (rs.map rD))) = some true := rfl
    unfold xO
    simp [evt_or, evt_inv, evt_isi, evt_cmp, e_idx, e_bc, evs, e_var, e_cst, refr, b0, b1, n0, l1, l2, l3, n1, t1, t2]
  have c0 : ex (run F N (k + 1)) N [] (.ite xO xRF .nil) [some (.val (dD d)), some (.val (dD o)), some (.val (withinD (rs.map rD))), none, none, none] = some (.nx [some (.val (dD d)), some (.val (dD o)), some (.val (withinD (rs.map rD))), none, none, none]) := by
    rw [ex_ite ct, if_neg (by simp), exs]
  have hz : evi (run F N (k + 1)) (.zip (.var 0) (.idx (.var 2) (.cst (PyData.int 1)))) [some (.val (dD d)), some (.val (dD o)), some (.val (withinD (rs.map rD))), none, none, none] = some ((d.zip rs).map fun p => .tuple [eD p.1, rD p.2], [], [some (.val (dD d)), some (.val (dD o)), some (.val (withinD (rs.map rD))), none, none, none]) := by
    have := zipD_map eD rD d rs
    simp [evi, e_idx, e_var, e_cst, refr, b1, dD, RV.dat, this]
  have cf : ex (run F N (k + 1)) N [] xF [some (.val (dD d)), some (.val (dD o)), some (.val (withinD (rs.map rD))), none, none, none] = if rs.map (said o) = d then some (.nx [some (.val (dD d)), some (.val (dD o)), some (.val (withinD (rs.map rD))), y3, y4, none]) else some (.rt (.val (.bool false)) [some (.val (dD d)), some (.val (dD o)), some (.val (withinD (rs.map rD))), y3, y4, none]) := by
    unfold xF
    rw [ex, hz]
    simp only [Option.bind_some]
    rw [gd_pos (by simp)]
    exact g
  rw [run_of F_39 rfl (by decide) rfl rfl]
  simp only [f__law_is_within, b_is_within, List.map_cons, List.map_nil, List.replicate, List.cons_append, List.nil_append, Nat.reduceSub]
  rw [exsN c0, exs, cf]
  by_cases q : rs.map (said o) = d
  · rw [if_pos q, decide_eq_true q]
    simp [exs, ex, e_cst, PL.finish, retV, gd_pos]
  · rw [if_neg q, decide_eq_false q]
    simp [PL.finish, retV, gd_pos]
end PT
set_option maxRecDepth 100000
set_option maxHeartbeats 4000000
/-! U7: another dictionary. -/
namespace PT
open PySem PL
open L2 (Key)
variable {N k : Nat}

theorem cut_take {α : Type} (l : List α) (j : Nat) : cutD l none (some (j : Int)) = l.take j := by
  unfold cutD
  have e : HT.sIx l.length l.length (some (j : Int)) = min j l.length := HT.sIx_nat l.length l.length j
  have e0 : HT.sIx l.length 0 none = 0 := HT.sIx_none l.length 0
  rw [e, e0, List.drop_zero, Nat.sub_zero]
  by_cases q : j ≤ l.length
  · rw [Nat.min_eq_left q]
  · rw [Nat.min_eq_right (by omega), List.take_of_length_le (Nat.le_refl _), List.take_of_length_le (by omega)]
theorem cut_drop {α : Type} (l : List α) (j : Nat) : cutD l (some (j : Int)) none = l.drop j := by
  unfold cutD
  have e : HT.sIx l.length 0 (some (j : Int)) = min j l.length := HT.sIx_nat l.length 0 j
  rw [e, HT.sIx_none]
  by_cases q : j ≤ l.length
  · rw [Nat.min_eq_left q]
    exact List.take_of_length_le (by rw [List.length_drop]; omega)
  · rw [Nat.min_eq_right (by omega), List.drop_of_length_le (Nat.le_refl _), List.drop_of_length_le (by omega)]
    simp
theorem slc_to (d : List Ent) (j : Nat) : opSlc (.val (dD d)) none (some (j : Int)) = some (.val (dD (d.take j))) := by
  have : opSlc (.val (dD d)) none (some (j : Int)) = some (.val (.tuple (cutD (d.map eD) none (some (j : Int))))) := rfl
  rw [this, cut_map, cut_take]
  rfl
theorem slc_fr (d : List Ent) (j : Nat) : opSlc (.val (dD d)) (some (j : Int)) none = some (.val (dD (d.drop j))) := by
  have : opSlc (.val (dD d)) (some (j : Int)) none = some (.val (.tuple (cutD (d.map eD) (some (j : Int)) none))) := rfl
  rw [this, cut_map, cut_drop]
  rfl
theorem add_d {a b : List Ent} (h : a.length + b.length ≤ 1000) : opBin .Add (.val (dD a)) (.val (dD b)) = some (.val (dD (a ++ b))) := by
  have : opBin .Add (.val (dD a)) (.val (dD b)) = (gd ((a.map eD).length + (b.map eD).length ≤ LIM)).map fun _ => .val (.tuple (a.map eD ++ b.map eD)) := rfl
  rw [this, gd_pos (by rw [List.length_map, List.length_map]; exact lim8 h)]
  simp [dD]
theorem q_eq : Str.ofString "q" = strOf [113] := by decide +kernel
theorem nil_eq {s : Str} : s = Str.ofString "" ↔ s.cps.toList = [] := by
  have e : (Str.ofString "").cps.toList = [] := by decide +kernel
  constructor
  · intro h; rw [h, e]
  · intro h; exact str_ext (by rw [h, e])
/-- another text -/
theorem text_q {env : En} {e : Ent} (he : Le e) (h6 : env[6]? = some (some (.val (.str e.2)))) : ∃ t : Str, ev (run F N (k + 4)) (.ite (.cmp .NotEq (.var 6) (.cst (PyData.str ""))) (.bin .Add (.slc (.var 6) (.yes (.cst (PyData.int 1))) .no) (.cst (PyData.str "q"))) (.cst (PyData.str "q"))) env = some (.val (.str t), env) ∧ Sg 0 8 t := by
  have hne : opCmp .NotEq (.val (.str e.2)) (.val (.str (Str.ofString ""))) = some (!decide (e.2 = Str.ofString "")) := rfl
  have hsg := he.2
  by_cases q : e.2 = Str.ofString ""
  · refine ⟨Str.ofString "q", ?_, by rw [q_eq]; exact Nat.zero_le _, by rw [q_eq]; decide, fun c hc => ?_⟩
    · rw [decide_eq_true q] at hne
      simp [e_ite, evt_cmp, e_var, e_cst, h6, refr, hne]
    · rw [q_eq] at hc
      have : c = 113 := by simpa [strOf] using hc
      omega
  · have l1 : 1 ≤ e.2.cps.toList.length := by
      rcases hz : e.2.cps.toList with _ | ⟨x, xs⟩
      · exact absurd (nil_eq.mpr hz) q
      · simp
    have l8 : e.2.cps.toList.length ≤ 8 := by rw [len_cps]; exact hsg.2.1
    have sl : opSlc (.val (.str e.2)) (some 1) none = some (.val (.str (strOf (e.2.cps.toList.drop 1)))) := by
      have : opSlc (.val (.str e.2)) (some 1) none = (gd (e.2.length ≤ LIM)).map fun _ => .val (.str (strOf (cutD e.2.cps.toList (some 1) none))) := rfl
      rw [this, gd_pos (lim8 (by have := hsg.2.1; omega)), show (1 : Int) = ((1 : Nat) : Int) from rfl, cut_drop]
      rfl
    have ap := app_str (e.2.cps.toList.drop 1) [113] (lim8 (by
      have z : (e.2.cps.toList.drop 1).length ≤ 8 := by rw [List.length_drop]; omega
      show (e.2.cps.toList.drop 1).length + 1 ≤ 1000
      omega))
    rw [← q_eq] at ap
    refine ⟨strOf (e.2.cps.toList.drop 1 ++ [113]), ?_, Nat.zero_le _, ?_, fun c hc => ?_⟩
    · rw [decide_eq_false q] at hne
      generalize e.2.cps.toList.drop 1 = tl at sl ap ⊢
      simp [e_ite, evt_cmp, e_bin, e_slc, evo, e_var, e_cst, h6, refr, hne, sl, ap]
    · have : (strOf (e.2.cps.toList.drop 1 ++ [113])).length = (e.2.cps.toList.drop 1 ++ [113]).length := by simp [strOf, Str.length]
      rw [this, List.length_append, List.length_drop]
      simp
      omega
    · have hc' : c ∈ e.2.cps.toList.drop 1 ++ [113] := by simpa [strOf] using hc
      rcases List.mem_append.mp hc' with z | z
      · exact hsg.2.2 c (List.mem_of_mem_drop z)
      · have := List.mem_singleton.mp z; omega
theorem Dk_less {d : List Ent} {j : Nat} (h : Dk d) (hj : j < d.length) (hl : 1 < d.length) : Dk (d.take j ++ d.drop (j + 1)) := by
  have e1 : d.eraseIdx j = d.take j ++ d.drop (j + 1) := List.eraseIdx_eq_take_drop_succ _ _
  have sb : (d.take j ++ d.drop (j + 1)).Sublist d := by rw [← e1]; exact List.eraseIdx_sublist _ _
  have le : (d.take j ++ d.drop (j + 1)).length = d.length - 1 := by rw [← e1]; exact List.length_eraseIdx_of_lt hj
  refine ⟨by omega, by have := h.2.1; omega, fun e he => h.2.2.1 e (sb.subset he), pw_asc ((asc_pw h.2.2.2.1).sublist sb) (h.2.2.2.2.sublist sb), h.2.2.2.2.sublist sb⟩
theorem s_otherwise {m : Nat} {o : Ob} {d : List Ent} (hp : Pot m o) (hm : m + 20000 ≤ 10 ^ 9) (hd : Dk d) :
    ∃ (o' : Ob) (b : List Ent), run F N (k + 5) 40 [.own o, .val (dD d)] = some (.val (dD b), [some (.own o'), some (.val (dD d))]) ∧ Pot (m + 1000) o' ∧ Dk b := by
  have h1 := hd.1
  have h16 := hd.2.1
  obtain ⟨w, o1, a, hw, hp1⟩ := s_take (N := N) (k := k + 3) (u := 4) hp (by omega) (by omega) (by omega)
  have a' : run F N (k + 4) 24 [.own o, .val (.int 4)] = some (.val (.int w), [some (.own o1), some (.val (.int 4))]) := a
  have hln : bcall .len [RV.val (dD d)] = some (.val (.int d.length)) := by simp [bcall, RV.dat, dD]
  have c0 : ex (run F N (k + 4)) N [0] (.asg (.nm 2) (.call 24 (.cons (.var 0) (.cons (.cst (PyData.int 4)) .nil)) [some 0, none])) [some (.own o), some (.val (dD d)), none, none, none, none, none] = some (.nx [some (.own o1), some (.val (dD d)), some (.val (.int (w : Int))), none, none, none, none]) := by
    simp [ex, e_call, evs, e_var, e_cst, refr, passA, valSl, gd_pos, a', retOk, noList, backA, nl_pot hp1, RV.dat, b_val]
  have lt2 : opCmp .Lt (.val (.int (w : Int))) (.val (.int 2)) = some (decide ((w : Int) < 2)) := rfl
  have t1 : evt (run F N (k + 4)) (.cmp .Lt (.var 2) (.cst (PyData.int 2))) [some (.own o1), some (.val (dD d)), some (.val (.int (w : Int))), none, none, none, none] = some (decide ((w : Int) < 2), [some (.own o1), some (.val (dD d)), some (.val (.int (w : Int))), none, none, none, none]) := by
    simp [evt_cmp, e_var, e_cst, refr, lt2]
  have F40 : ∀ r, (∃ e, exs (run F N (k + 4)) N [0] b__law_otherwise [some (.own o), some (.val (dD d)), none, none, none, none, none] = some (.rt (.val (dD r)) e) ∧ ∃ o', e.take 2 = [some (.own o'), some (.val (dD d))] ∧ Pot (m + 1000) o') → ∃ o', run F N (k + 5) 40 [.own o, .val (dD d)] = some (.val (dD r), [some (.own o'), some (.val (dD d))]) ∧ Pot (m + 1000) o' := by
    rintro r ⟨e, g, o', q, hp'⟩
    refine ⟨o', ?_, hp'⟩
    rw [run_of F_40 rfl (by decide) rfl rfl]
    simp only [f__law_otherwise, List.map_cons, List.map_nil, List.replicate, List.cons_append, List.nil_append, Nat.reduceSub]
    rw [g]
    have e0 : e[0]? = some (some (.own o')) := by
      have : (e.take 2)[0]? = some (some (.own o')) := by rw [q]; rfl
      simpa using this
    simp [PL.finish, retV, gd_pos, e0, q]
  by_cases q1 : (w : Int) < 2
  · obtain ⟨o2, b, g1, g2, g3, _⟩ := s_more (N := N) (k := k) (U := 2) hp1 (by omega) hd (by omega)
    have g1' : run F N (k + 4) 35 [.own o1, .val (dD d), .val (.int 2)] = some (.val (dD b), [some (.own o2), some (.val (dD d)), some (.val (.int 2))]) := g1
    rw [decide_eq_true q1] at t1
    obtain ⟨o', z1, z2⟩ := F40 b ⟨[some (.own o2), some (.val (dD d)), some (.val (.int (w : Int))), none, none, none, none], by
      unfold b__law_otherwise
      rw [exsN c0, exs, ex_ite t1, if_pos rfl]
      simp [exs, ex, e_call, evs, e_var, e_cst, refr, passA, valSl, gd_pos, g1', retOk, nl_d, backA, nl_pot g2, RV.dat], o2, rfl, g2.mono (by omega)⟩
    exact ⟨o', b, z1, z2, g3⟩
  rw [decide_eq_false q1] at t1
  obtain ⟨j, o2, a2, hj, hp2⟩ := s_take (N := N) (k := k + 3) (u := d.length) hp1 (by omega) (by omega) (by omega)
  have c1 : ex (run F N (k + 4)) N [0] (.ite (.cmp .Lt (.var 2) (.cst (PyData.int 2)))
(.cons (.ret (.call 35 (.cons (.var 0) (.cons (.var 1) (.cons (.cst (PyData.int 2)) .nil))) [some 0, none, none])) .nil)
.nil) [some (.own o1), some (.val (dD d)), some (.val (.int (w : Int))), none, none, none, none] = some (.nx [some (.own o1), some (.val (dD d)), some (.val (.int (w : Int))), none, none, none, none]) := by
    rw [ex_ite t1, if_neg (by simp), exs]
  have c2 : ex (run F N (k + 4)) N [0] (.asg (.nm 3) (.call 24 (.cons (.var 0) (.cons (.bc .len (.cons (.var 1) .nil)) .nil)) [some 0, none])) [some (.own o1), some (.val (dD d)), some (.val (.int (w : Int))), none, none, none, none] = some (.nx [some (.own o2), some (.val (dD d)), some (.val (.int (w : Int))), some (.val (.int (j : Int))), none, none, none]) := by
    simp [ex, e_call, e_bc, evs, e_var, e_cst, refr, hln, passA, valSl, gd_pos, a2, retOk, noList, backA, nl_pot hp2, RV.dat, b_val]
  have j1 : ((j + 1 : Nat) : Int) = (j : Int) + 1 := by omega
  have s1 := slc_to d j
  have s2 := slc_fr d (j + 1)
  rw [j1] at s2
  have z1 : evt (run F N (k + 4)) (.cmp .Eq (.var 2) (.cst (PyData.int 2))) [some (.own o2), some (.val (dD d)), some (.val (.int (w : Int))), some (.val (.int (j : Int))), none, none, none] = some (decide ((w : Int) = 2), [some (.own o2), some (.val (dD d)), some (.val (.int (w : Int))), some (.val (.int (j : Int))), none, none, none]) := by
    have : opCmp .Eq (.val (.int (w : Int))) (.val (.int 2)) = some (decide ((w : Int) = 2)) := rfl
    simp [evt_cmp, e_var, e_cst, refr, this]
  have z2 : evt (run F N (k + 4)) (.cmp .Gt (.bc .len (.cons (.var 1) .nil)) (.cst (PyData.int 1))) [some (.own o2), some (.val (dD d)), some (.val (.int (w : Int))), some (.val (.int (j : Int))), none, none, none] = some (decide (1 < d.length), [some (.own o2), some (.val (dD d)), some (.val (.int (w : Int))), some (.val (.int (j : Int))), none, none, none]) := by
    have : opCmp .Gt (.val (.int d.length)) (.val (.int 1)) = some (decide (1 < d.length)) := by
      show some (decide ((1 : Int) < (d.length : Int))) = _
      congr 1
      exact decide_eq_decide.mpr (by omega)
    simp [evt_cmp, e_bc, evs, e_var, e_cst, refr, hln, this]
  have t3 : evt (run F N (k + 4)) (.and (.cmp .Eq (.var 2) (.cst (PyData.int 2))) (.cmp .Gt (.bc .len (.cons (.var 1) .nil)) (.cst (PyData.int 1)))) [some (.own o2), some (.val (dD d)), some (.val (.int (w : Int))), some (.val (.int (j : Int))), none, none, none] = some (decide ((w : Int) = 2) && decide (1 < d.length), [some (.own o2), some (.val (dD d)), some (.val (.int (w : Int))), some (.val (.int (j : Int))), none, none, none]) := by
    rw [evt_and, z1]
    cases decide ((w : Int) = 2) <;> simp [z2]
  by_cases q3 : (w : Int) = 2 ∧ 1 < d.length
  · have hb : (decide ((w : Int) = 2) && decide (1 < d.length)) = true := by rw [← Bool.decide_and]; exact decide_eq_true q3
    rw [hb] at t3
    have dk := Dk_less hd hj q3.2
    have ad := add_d (a := d.take j) (b := d.drop (j + 1)) (by rw [List.length_take, List.length_drop]; omega)
    obtain ⟨o3, b, g1, g2, g3, _⟩ := s_more (N := N) (k := k) (U := 2) hp2 (by omega) dk (by omega)
    have g1' : run F N (k + 4) 35 [.own o2, .val (dD (d.take j ++ d.drop (j + 1))), .val (.int 2)] = some (.val (dD b), [some (.own o3), some (.val (dD (d.take j ++ d.drop (j + 1)))), some (.val (.int 2))]) := g1
    obtain ⟨o', y1, y2⟩ := F40 b ⟨[some (.own o3), some (.val (dD d)), some (.val (.int (w : Int))), some (.val (.int (j : Int))), none, none, none], by
      unfold b__law_otherwise
      rw [exsN c0, exsN c1, exsN c2, exs, ex_ite t3, if_pos rfl]
      simp [exs, ex, e_call, e_bin, e_slc, evo, evs, e_var, e_cst, refr, m_add, s1, s2, ad, passA, valSl, gd_pos, g1', retOk, nl_d, backA, nl_pot g2, RV.dat], o3, rfl, g2.mono (by omega)⟩
    exact ⟨o', b, y1, y2, g3⟩
  have hb : (decide ((w : Int) = 2) && decide (1 < d.length)) = false := by rw [← Bool.decide_and]; exact decide_eq_false q3
  rw [hb] at t3
  have c3 : ex (run F N (k + 4)) N [0] (.ite (.and (.cmp .Eq (.var 2) (.cst (PyData.int 2))) (.cmp .Gt (.bc .len (.cons (.var 1) .nil)) (.cst (PyData.int 1))))
(.cons (.ret (.call 35 (.cons (.var 0) (.cons (.bin .Add (.slc (.var 1) .no (.yes (.var 3))) (.slc (.var 1) (.yes (.bin .Add (.var 3) (.cst (PyData.int 1)))) .no)) (.cons (.cst (PyData.int 2)) .nil))) [some 0, none, none])) .nil)
.nil) [some (.own o2), some (.val (dD d)), some (.val (.int (w : Int))), some (.val (.int (j : Int))), none, none, none] = some (.nx [some (.own o2), some (.val (dD d)), some (.val (.int (w : Int))), some (.val (.int (j : Int))), none, none, none]) := by
    rw [ex_ite t3, if_neg (by simp), exs]
  obtain ⟨e, he⟩ : ∃ e, e = d[j] := ⟨_, rfl⟩
  have le := hd.2.2.1 _ (List.getElem_mem hj)
  rw [← he] at le
  have ix : opIdx (.val (dD d)) (.val (.int (j : Int))) = some (eD e) := by
    have h2 := at_of (xs := d.map eD) (j := j) (by rw [List.length_map]; exact hj)
    rw [List.getElem_map, ← he] at h2
    exact h2
  have c4 : ex (run F N (k + 4)) N [0] (.asg (.tp (.cons (.nm 5) (.cons (.nm 6) .nil))) (.idx (.var 1) (.var 3))) [some (.own o2), some (.val (dD d)), some (.val (.int (w : Int))), some (.val (.int (j : Int))), none, none, none] = some (.nx [some (.own o2), some (.val (dD d)), some (.val (.int (w : Int))), some (.val (.int (j : Int))), none, some (.val (.str e.1)), some (.val (.str e.2))]) := by
    simp [ex, e_idx, e_var, refr, ix, eD, b_tp, bindTs, b_val]
  obtain ⟨t, tq, ts⟩ := text_q (N := N) (k := k) (env := [some (.own o2), some (.val (dD d)), some (.val (.int (w : Int))), some (.val (.int (j : Int))), none, some (.val (.str e.1)), some (.val (.str e.2))]) le rfl
  have le' : Le (e.1, t) := ⟨le.1, ts⟩
  have l1 : 1 ≤ LIM := lim8 (by omega)
  have l2 : 2 ≤ LIM := lim8 (by omega)
  have ct : ev (run F N (k + 4)) (.tup (.cons (.tup (.cons (.var 5) (.cons (.ite (.cmp .NotEq (.var 6) (.cst (PyData.str ""))) (.bin .Add (.slc (.var 6) (.yes (.cst (PyData.int 1))) .no) (.cst (PyData.str "q"))) (.cst (PyData.str "q"))) .nil))) .nil)) [some (.own o2), some (.val (dD d)), some (.val (.int (w : Int))), some (.val (.int (j : Int))), none, some (.val (.str e.1)), some (.val (.str e.2))] = some (.val (dD [(e.1, t)]), [some (.own o2), some (.val (dD d)), some (.val (.int (w : Int))), some (.val (.int (j : Int))), none, some (.val (.str e.1)), some (.val (.str e.2))]) := by
    have : dD [(e.1, t)] = .tuple [.tuple [.str e.1, .str t]] := rfl
    rw [this]
    simp [e_tup, evs, e_var, tq, refr, RV.frz, gd_pos, l1, l2]
  have ad1 := add_d (a := d.take j) (b := [(e.1, t)]) (by rw [List.length_take]; simp; omega)
  have ad2 := add_d (a := d.take j ++ [(e.1, t)]) (b := d.drop (j + 1)) (by rw [List.length_append, List.length_take, List.length_drop]; simp; omega)
  have ll : (d.take j ++ [(e.1, t)] ++ d.drop (j + 1)).length ≤ 16 := by
    rw [List.length_append, List.length_append, List.length_take, List.length_drop]
    simp
    omega
  have ll1 : 1 ≤ (d.take j ++ [(e.1, t)] ++ d.drop (j + 1)).length := by
    rw [List.length_append, List.length_append]
    simp
    omega
  obtain ⟨M, u1, u2, u3, u4, u5⟩ := s_unlike_t (N := N) (k := k + 3) (l := d.take j ++ [(e.1, t)] ++ d.drop (j + 1)) ll1 (by omega)
  have hM : 1 ≤ M.length := by
    obtain ⟨x, hx⟩ := List.exists_mem_of_length_pos (show 0 < (d.take j ++ [(e.1, t)] ++ d.drop (j + 1)).length by omega)
    exact List.length_pos_of_mem ((u4 x).mpr hx)
  have dk : Dk M := ⟨hM, by omega, fun x hx => by
    rcases List.mem_append.mp ((u4 x).mp hx) with z | z
    · rcases List.mem_append.mp z with z | z
      · exact hd.2.2.1 x (List.mem_of_mem_take z)
      · rw [List.mem_singleton.mp z]; exact le'
    · exact hd.2.2.1 x (List.mem_of_mem_drop z), u3, u2⟩
  have nu : obNl (.L (M.map eD)) = true := nl_es M
  have tb : bcall .tuple [.fr (.L (M.map eD))] = some (.val (dD M)) := rfl
  have c5 : ex (run F N (k + 4)) N [0] (.asg (.nm 4) (.bc .tuple (.cons (.call 27 (.cons (.bin .Add (.bin .Add (.slc (.var 1) .no (.yes (.var 3))) (.tup (.cons (.tup (.cons (.var 5) (.cons (.ite (.cmp .NotEq (.var 6) (.cst (PyData.str ""))) (.bin .Add (.slc (.var 6) (.yes (.cst (PyData.int 1))) .no) (.cst (PyData.str "q"))) (.cst (PyData.str "q"))) .nil))) .nil))) (.slc (.var 1) (.yes (.bin .Add (.var 3) (.cst (PyData.int 1)))) .no)) .nil) [none]) .nil))) [some (.own o2), some (.val (dD d)), some (.val (.int (w : Int))), some (.val (.int (j : Int))), none, some (.val (.str e.1)), some (.val (.str e.2))] = some (.nx [some (.own o2), some (.val (dD d)), some (.val (.int (w : Int))), some (.val (.int (j : Int))), some (.val (dD M)), some (.val (.str e.1)), some (.val (.str e.2))]) := by
    have cb : ev (run F N (k + 4)) (.bin .Add (.slc (.var 1) .no (.yes (.var 3))) (.tup (.cons (.tup (.cons (.var 5) (.cons (.ite (.cmp .NotEq (.var 6) (.cst (PyData.str ""))) (.bin .Add (.slc (.var 6) (.yes (.cst (PyData.int 1))) .no) (.cst (PyData.str "q"))) (.cst (PyData.str "q"))) .nil))) .nil))) [some (.own o2), some (.val (dD d)), some (.val (.int (w : Int))), some (.val (.int (j : Int))), none, some (.val (.str e.1)), some (.val (.str e.2))] = some (.val (dD (d.take j ++ [(e.1, t)])), [some (.own o2), some (.val (dD d)), some (.val (.int (w : Int))), some (.val (.int (j : Int))), none, some (.val (.str e.1)), some (.val (.str e.2))]) := by
      rw [e_bin]
      simp [e_slc, evo, e_var, refr, s1, ct, ad1]
    have ca : ev (run F N (k + 4)) (.bin .Add (.bin .Add (.slc (.var 1) .no (.yes (.var 3))) (.tup (.cons (.tup (.cons (.var 5) (.cons (.ite (.cmp .NotEq (.var 6) (.cst (PyData.str ""))) (.bin .Add (.slc (.var 6) (.yes (.cst (PyData.int 1))) .no) (.cst (PyData.str "q"))) (.cst (PyData.str "q"))) .nil))) .nil))) (.slc (.var 1) (.yes (.bin .Add (.var 3) (.cst (PyData.int 1)))) .no)) [some (.own o2), some (.val (dD d)), some (.val (.int (w : Int))), some (.val (.int (j : Int))), none, some (.val (.str e.1)), some (.val (.str e.2))] = some (.val (dD (d.take j ++ [(e.1, t)] ++ d.drop (j + 1))), [some (.own o2), some (.val (dD d)), some (.val (.int (w : Int))), some (.val (.int (j : Int))), none, some (.val (.str e.1)), some (.val (.str e.2))]) := by
      generalize d.drop (j + 1) = D at s2 ad2 ⊢
      generalize d.take j ++ [(e.1, t)] = P2 at ad2 cb ⊢
      rw [e_bin, cb]
      simp [e_slc, evo, e_bin, e_var, e_cst, refr, m_add, s2, ad2]
    rw [ex, e_bc, evs, e_call, evs, ca]
    generalize d.take j ++ [(e.1, t)] ++ d.drop (j + 1) = P3 at u1 ⊢
    simp [evs, refr, passA, valSl, RV.dat, gd_pos, u1, retOk, nu, backA, tb, b_val]
  obtain ⟨o3, b, g1, g2, g3, _⟩ := s_more (N := N) (k := k) (U := 1) hp2 (by omega) dk (by omega)
  have g1' : run F N (k + 4) 35 [.own o2, .val (dD M), .val (.int 1)] = some (.val (dD b), [some (.own o3), some (.val (dD M)), some (.val (.int 1))]) := g1
  obtain ⟨o', y1, y2⟩ := F40 b ⟨[some (.own o3), some (.val (dD d)), some (.val (.int (w : Int))), some (.val (.int (j : Int))), some (.val (dD M)), some (.val (.str e.1)), some (.val (.str e.2))], by
    unfold b__law_otherwise
    rw [exsN c0, exsN c1, exsN c2, exsN c3, exsN c4, exsN c5]
    simp [exs, ex, e_call, evs, e_var, e_cst, refr, passA, valSl, gd_pos, g1', retOk, nl_d, backA, nl_pot g2, RV.dat], o3, rfl, g2.mono (by omega)⟩
  exact ⟨o', b, y1, y2, g3⟩
end PT
set_option maxRecDepth 100000
set_option maxHeartbeats 4000000
/-! S11: what is told is right. -/
namespace PT
open PySem PL
open L2 (Key)
variable {N k : Nat}
noncomputable def rsl (N : Nat) (d o : List Ent) : List (List Nat) := d.map fun e => (rf N o e).getD []
theorem miss_none {d o : List Ent} (h : miss N d o = none) : ∀ e ∈ d, ∃ r, rf N o e = some r := by
  unfold miss at h
  rw [List.findIdx?_eq_none_iff] at h
  intro e he
  have := h e he
  rw [Option.isNone_eq_false_iff] at this
  exact Option.isSome_iff_exists.mp this
theorem fo_rsl {d o : List Ent} (h : miss N d o = none) : fo N d o = (rsl N d o).map rD := by
  unfold fo rsl
  rw [List.map_map]
  refine List.map_congr_left fun e he => ?_
  obtain ⟨r, hr⟩ := miss_none h e he
  simp [hr, rO]
theorem rsl_ok {d o : List Ent} (hd : ∀ e ∈ d, Le e) (ho : ∀ e ∈ o, Le e) (h : miss N d o = none) : ∀ r ∈ rsl N d o, Rok o r ∧ r.length ≤ 8 := by
  intro r hr
  obtain ⟨e, he, q⟩ := List.mem_map.mp hr
  obtain ⟨r', hr'⟩ := miss_none h e he
  have : r = r' := by rw [← q, hr']; rfl
  subst this
  have := rf_some ho (hd e he) hr'
  exact ⟨⟨this.1, Nat.le_trans this.2.1 (by decide)⟩, this.2.1⟩
theorem rsl_said {d o : List Ent} (hd : ∀ e ∈ d, Le e) (ho : ∀ e ∈ o, Le e) (h : miss N d o = none) : (rsl N d o).map (said o) = d := by
  unfold rsl
  rw [List.map_map]
  have : d.map ((said o) ∘ fun e => (rf N o e).getD []) = d.map id := by
    refine List.map_congr_left fun e he => ?_
    obtain ⟨r, hr⟩ := miss_none h e he
    have := (rf_some ho (hd e he) hr).2.2.1
    simp [hr, this]
  rw [this, List.map_id]
theorem wv_within {d o : List Ent} (h : miss N d o = none) : wv N d o = withinD ((rsl N d o).map rD) := by
  unfold wv
  rw [h]
  simp only
  rw [fo_rsl h]
theorem wv_entry {d o : List Ent} {j : Nat} (h : miss N d o = some j) : wv N d o = entryD j := by
  unfold wv
  rw [h]
theorem miss_lt {d o : List Ent} {j : Nat} (h : miss N d o = some j) : j < d.length := by
  unfold miss at h
  exact (List.findIdx?_eq_some_iff_getElem.mp h).1
theorem s_shows_own {d o : List Ent} (h : Dk d) (ho : Dk o) (hN : 200 ≤ N) : run F N (k + 7) 21 [.val (dD d), .val (dD o), .val (wv N d o)] = some (.val (.bool true), [some (.val (dD d)), some (.val (dD o)), some (.val (wv N d o))]) := by
  cases hm : miss N d o with
  | some j =>
    have a := s_shows_entry (N := N) (k := k) h ho hN (miss_lt hm)
    rw [wv_entry hm, a, hm]
    simp
  | none =>
    have a := s_shows_within (N := N) (k := k) h ho (fun r hr => (rsl_ok h.2.2.1 ho.2.2.1 hm r hr).1) (by unfold rsl; rw [List.length_map]; exact lim8 (by have := h.2.1; omega))
    rw [wv_within hm, a, rsl_said h.2.2.1 ho.2.2.1 hm]
    simp
end PT
set_option maxRecDepth 100000
set_option maxHeartbeats 4000000
/-! U9: the law of one draw. -/
namespace PT
open PySem PL
open L2 (Key)
variable {N k : Nat}
def enQ (o : Ob) (x1 x2 x3 x4 x5 x6 x7 x8 x9 x10 x11 : Option SV) : En := [some (.own o), x1, x2, x3, x4, x5, x6, x7, x8, x9, x10, x11]
def q0 : S :=
(.asg (.nm 1) (.call 33 (.cons (.var 0) (.cons (.call 28 (.cons (.var 0) (.cons (.cst (PyData.int 2)) .nil)) [some 0, none]) (.cons (.call 28 (.cons (.var 0) (.cons (.cst (PyData.int 2)) .nil)) [some 0, none]) (.cons (.cst (PyData.int 4)) (.cons (.cst (PyData.int 4)) .nil))))) [some 0, none, none, none, none]))
def q1 : S :=
(.asg (.nm 2) (.call 35 (.cons (.var 0) (.cons (.var 1) (.cons (.cst (PyData.int 3)) .nil))) [some 0, none, none]))
def q2 : S :=
(.asg (.nm 3) (.call 37 (.cons (.var 2) .nil) [none]))
def q4 : S :=
(.asg (.nm 4) (.call 20 (.cons (.var 2) (.cons (.var 3) .nil)) [none, none]))
def q6 : S :=
(.par [8, 9] (.cons (.call 24 (.cons (.var 0) (.cons (.bc .len (.cons (.var 2) .nil)) .nil)) [some 0, none]) (.cons (.call 24 (.cons (.var 0) (.cons (.bc .len (.cons (.var 2) .nil)) .nil)) [some 0, none]) .nil)))
def q7 : S :=
(.asg (.nm 5) (.tup (.cons (.cst (PyData.str "within")) (.cons (.bin .Add (.bin .Add (.slc (.idx (.var 4) (.cst (PyData.int 1))) .no (.yes (.var 8))) (.slc (.idx (.var 4) (.cst (PyData.int 1))) (.yes (.var 9)) (.yes (.bin .Add (.var 9) (.cst (PyData.int 1)))))) (.slc (.idx (.var 4) (.cst (PyData.int 1))) (.yes (.bin .Add (.var 8) (.cst (PyData.int 1)))) .no)) .nil))))
def q10 : S :=
(.asg (.nm 7) (.call 40 (.cons (.var 0) (.cons (.var 1) .nil)) [some 0, none]))
def q11 : S :=
(.ret (.and (.cmp .Eq (.bc .repr (.cons (.call 22 (.cons (.var 2) (.cons (.var 7) .nil)) [none, none]) .nil)) (.bc .repr (.cons (.cmp .Eq (.var 3) (.call 37 (.cons (.var 7) .nil) [none])) .nil))) (.cmp .Eq (.bc .repr (.cons (.call 22 (.cons (.var 7) (.cons (.var 2) .nil)) [none, none]) .nil)) (.bc .repr (.cons (.call 22 (.cons (.var 2) (.cons (.var 7) .nil)) [none, none]) .nil)))))
def q3c : E := (.or (.inv (.bc .all (.cons (.comp (.cmp .Eq (.bc .repr (.cons (.call 38 (.cons (.var 0) (.cons (.var 2) .nil)) [some 0, none]) .nil)) (.bc .repr (.cons (.var 3) .nil))) (.nm 11) (.rng1 (.cst (PyData.int 2))) .no [("lap", 11)]) .nil))) (.or (.cmp .IsNot (.call 22 (.cons (.var 2) (.cons (.var 3) .nil)) [none, none]) (.cst (PyData.bool true))) (.cmp .IsNot (.call 22 (.cons (.var 3) (.cons (.var 1) .nil)) [none, none]) (.cst (PyData.bool true)))))
def q5c : E := (.or (.inv (.call 39 (.cons (.var 2) (.cons (.var 3) (.cons (.var 4) .nil))) [none, none, none])) (.cmp .IsNot (.call 21 (.cons (.var 2) (.cons (.var 3) (.cons (.var 4) .nil))) [none, none, none]) (.cst (PyData.bool true))))
def q8c : E := (.cmp .NotEq (.bc .repr (.cons (.call 21 (.cons (.var 2) (.cons (.var 3) (.cons (.var 5) .nil))) [none, none, none]) .nil)) (.bc .repr (.cons (.call 39 (.cons (.var 2) (.cons (.var 3) (.cons (.var 5) .nil))) [none, none, none]) .nil)))
def q9a : S := (.asg (.nm 10) (.call 13 (.cons (.var 3) (.cons (.var 6) .nil)) [none, none]))
def q9c : E := (.or (.cmp .NotEq (.call 20 (.cons (.tup (.cons (.var 6) .nil)) (.cons (.var 10) .nil)) [none, none]) (.tup (.cons (.cst (PyData.str "entry")) (.cons (.cst (PyData.int 0)) .nil)))) (.or (.cmp .IsNot (.call 22 (.cons (.var 10) (.cons (.var 2) .nil)) [none, none]) (.cst (PyData.bool false))) (.cmp .NotEq (.call 12 (.cons (.var 10) (.cons (.var 6) .nil)) [none, none]) (.var 3))))
def qRF : Ss := (.cons (.ret (.cst (PyData.bool false))) .nil)
def q3 : S := .ite q3c qRF .nil
def q5 : S := .ite q5c qRF .nil
def q8 : S := .ite q8c qRF .nil
def q9b : S := .ite q9c qRF .nil
def q9 : S := .for (.nm 6) (.vals (.ite (.cmp .Gt (.bc .len (.cons (.var 3) .nil)) (.cst (PyData.int 1))) (.var 3) (.tup .nil))) (.cons q9a (.cons q9b .nil))
theorem b_right : b__law_right = .cons q0 (.cons q1 (.cons q2 (.cons q3 (.cons q4 (.cons q5 (.cons q6 (.cons q7 (.cons q8 (.cons q9 (.cons q10 (.cons q11 .nil))))))))))) := rfl

theorem sh_str {s : Str} {lo : Nat} (h : Sg lo 8 s) : (reprText s).length ≤ 82 := by
  have := StrLaws.reprText_len s fun c hc => by
    have := h.2.2 c hc
    have z : (123 : Nat) < 16 ^ 8 := by decide
    omega
  have := h.2.1
  omega
theorem sh_e {e : Ent} (h : Le e) : (eD e).shown.length ≤ 175 := by
  have a := sh_str h.1
  have b := sh_str h.2
  have t := tupleText_len_le [reprText e.1, reprText e.2]
  have z : (eD e).shown = tupleText [reprText e.1, reprText e.2] := by simp [eD, PyData.shown, PyData.shownAll]
  rw [z]
  simp only [List.map_cons, List.map_nil, List.sum_cons, List.sum_nil, List.length_cons, List.length_nil] at t
  omega
theorem sh_all : ∀ d : List Ent, (∀ e ∈ d, Le e) → ((PyData.shownAll (d.map eD)).map (·.length)).sum ≤ d.length * 175 ∧ (PyData.shownAll (d.map eD)).length = d.length
  | [], _ => by simp [PyData.shownAll]
  | e :: d, h => by
    have ih := sh_all d fun x hx => h x (List.mem_cons_of_mem _ hx)
    have a := sh_e (h e List.mem_cons_self)
    rw [List.map_cons, PyData.shownAll, List.map_cons, List.sum_cons, List.length_cons, List.length_cons, Nat.succ_mul]
    omega
theorem sh_can : ∀ d : List Ent, PyData.showableAll (d.map eD) = true
  | [] => rfl
  | e :: d => by
    rw [List.map_cons, PyData.showableAll, sh_can d]
    simp [eD, PyData.showable, PyData.showableAll]
theorem sh_no : ∀ d : List Ent, PyData.hasDictAll (d.map eD) = false
  | [] => rfl
  | e :: d => by
    rw [List.map_cons, PyData.hasDictAll, sh_no d]
    simp [eD, PyData.hasDict, PyData.hasDictAll]
theorem sh_ok {d : List Ent} (h : Dk d) : shOk (d.map eD) := by
  obtain ⟨a, b⟩ := sh_all d h.2.2.1
  have l := h.2.1
  have dp := dep_d d
  refine ⟨by simp only [PyData.showable]; exact sh_can d, by simp only [PyData.hasDict]; exact sh_no d, ?_, by simp only [PyData.depth]; omega⟩
  have t := tupleText_len_le (PyData.shownAll (d.map eD))
  have z : (PyData.tuple (d.map eD)).shown = tupleText (PyData.shownAll (d.map eD)) := by simp [PyData.shown]
  rw [z]
  have : 5000 ≤ LIM := by unfold LIM; omega
  omega
theorem repr_d {d : List Ent} (h : Dk d) : ∃ s : Str, bcall .repr [.val (dD d)] = some (.val (.str s)) := by
  refine ⟨(PyData.tuple (d.map eD)).shown, ?_⟩
  have : bcall .repr [.val (dD d)] = (gd (shOk (d.map eD))).map fun _ => .val (.str (PyData.tuple (d.map eD)).shown) := rfl
  rw [this, gd_pos (sh_ok h)]
  rfl
theorem eq_d {a b : List Ent} (ha : Dk a) (hb : Dk b) : opEq (dD a) (dD b) = some (decide (a = b)) := by
  have h1 := dep_d a
  have h2 := dep_d b
  have q : eqOk (dD a) (dD b) := ⟨by simp only [dD, PyData.canLay0]; exact lay_d ha.2.2.1, by simp only [dD, PyData.canLay0]; exact lay_d hb.2.2.1, by simp only [dD, PyData.depth]; omega, by simp only [dD, PyData.depth]; omega⟩
  have : opEq (dD a) (dD b) = (gd (eqOk (dD a) (dD b))).map fun _ => PyData.eqv (dD a) (dD b) := rfl
  rw [this, gd_pos q]
  simp only [Option.map_some, dD, PyData.eqv, eqvAll_e]
theorem ceq_d {a b : List Ent} (ha : Dk a) (hb : Dk b) : opCmp .Eq (.val (dD a)) (.val (dD b)) = some (decide (a = b)) := eq_d ha hb
theorem cne_d {a b : List Ent} (ha : Dk a) (hb : Dk b) : opCmp .NotEq (.val (dD a)) (.val (dD b)) = some (!decide (a = b)) := by
  simp only [opCmp, RV.dat, Option.bind_some, eq_d ha hb, Option.map_some]
theorem repr_b (t : Bool) : ∃ s : Str, bcall .repr [.val (.bool t)] = some (.val (.str s)) := ⟨_, rfl⟩
theorem str_eq (s : Str) : opCmp .Eq (.val (.str s)) (.val (.str s)) = some true := by simp [opCmp, RV.dat, opEq]
theorem str_ne (s : Str) : opCmp .NotEq (.val (.str s)) (.val (.str s)) = some false := by simp [opCmp, RV.dat, opEq]
section
variable {d o : List Ent} {i j : Nat} {env : En}
theorem t_same (h : Dk d) (ho : Dk o) (hN : 200 ≤ N) (hi : env[i]? = some (some (.val (dD d)))) (hj : env[j]? = some (some (.val (dD o)))) : ev (run F N (k + 9)) (.call 22 (.cons (.var i) (.cons (.var j) .nil)) [none, none]) env = some (.val (.bool (decide (ker d = ker o))), env) := by
  have a := s_is_same (N := N) (k := k + 2) h ho hN
  have a' : run F N (k + 9) 22 [.val (dD d), .val (dD o)] = some (.val (.bool (wi N d o && wi N o d)), [some (.val (dD d)), some (.val (dD o))]) := a
  rw [same_ker h ho hN] at a'
  simp [e_call, evs, e_var, hi, hj, refr, passA, valSl, backA, RV.dat, gd_pos, a', retOk, noList]
end
theorem bools_true : ∀ {l : List Da}, (∀ x ∈ l, x = .bool true) → boolsD l = some (List.replicate l.length true)
  | [], _ => rfl
  | x :: l, h => by
    have e := h x List.mem_cons_self
    have g := bools_true fun y hy => h y (List.mem_cons_of_mem _ hy)
    subst e
    rw [boolsD, g]
    rfl
theorem exs2 {C : Cl} {io : List Nat} {s s' : S} {ss : Ss} {env e : En} (h : exs C N io (.cons s (.cons s' .nil)) env = some (.nx e)) : exs C N io (.cons s (.cons s' ss)) env = exs C N io ss e := by
  rw [exs] at h ⊢
  cases q : ex C N io s env with
  | none => rw [q] at h; cases h
  | some f => cases f with
    | nx e1 =>
      rw [q] at h
      simp only [Option.bind_some] at h ⊢
      rw [exs] at h ⊢
      cases q2 : ex C N io s' e1 with
      | none => rw [q2] at h; cases h
      | some f2 => cases f2 with
        | nx e2 =>
          rw [q2] at h
          simp only [Option.bind_some] at h ⊢
          rw [exs] at h
          cases h
          rfl
        | rt r e2 => rw [q2] at h; cases h
        | bk e2 => rw [q2] at h; cases h
        | ct e2 => rw [q2] at h; cases h
    | rt r e1 => rw [q] at h; cases h
    | bk e1 => rw [q] at h; cases h
    | ct e1 => rw [q] at h; cases h
theorem right_0 {m : Nat} {o : Ob} (hp : Pot m o) (hm : m + 20000 ≤ 10 ^ 9) :
    ∃ (o' : Ob) (d w : List Ent), exs (run F N (k + 9)) N [0] (.cons q0 (.cons q1 (.cons q2 .nil))) (enQ o none none none none none none none none none none none) = some (.nx (enQ o' (some (.val (dD d))) (some (.val (dD w))) (some (.val (dD (ker w)))) none none none none none none none none)) ∧ Pot (m + 10000) o' ∧ Dk d ∧ Dk w ∧ (∀ e ∈ d, e ∈ w) ∧ (∀ e ∈ w, Sp d e) := by
  obtain ⟨sg, o1, a, a1, a2, a3⟩ := s_signs (N := N) (k := k + 7) (n := 2) hp (by omega) (by omega)
  obtain ⟨lt, o2, b, b1, b2, b3⟩ := s_signs (N := N) (k := k + 7) (n := 2) a3 (by omega) (by omega)
  have a' : run F N (k + 9) 28 [.own o, .val (.int 2)] = some (.fr (.L sg), [some (.own o1), some (.val (.int 2))]) := a
  have b' : run F N (k + 9) 28 [.own o1, .val (.int 2)] = some (.fr (.L lt), [some (.own o2), some (.val (.int 2))]) := b
  have n1 : obNl (.L sg) = true := st_nl (Q := Ql) (lo := 1) (hi := 1) fun x hx => S1_St (a2 x hx)
  have n2 : obNl (.L lt) = true := st_nl (Q := Ql) (lo := 1) (hi := 1) fun x hx => S1_St (b2 x hx)
  obtain ⟨o3, d, c, c1, c2, c3⟩ := s_dictionary (N := N) (k := k + 3) (L := 4) (M := 4) b3 (by omega) a2 a1 b2 b1 (by omega) (by omega) (by omega) (by omega)
  have c' : run F N (k + 9) 33 [.own o2, .val (.list sg), .val (.list lt), .val (.int 4), .val (.int 4)] = some (.val (dD d), [some (.own o3), some (.val (.list sg)), some (.val (.list lt)), some (.val (.int 4)), some (.val (.int 4))]) := c
  obtain ⟨o4, w, g, g1, g2, g3, g4⟩ := s_more (N := N) (k := k + 5) (U := 3) c1 (by omega) c2 (by omega)
  have g' : run F N (k + 9) 35 [.own o3, .val (dD d), .val (.int 3)] = some (.val (dD w), [some (.own o4), some (.val (dD d)), some (.val (.int 3))]) := g
  have h := s_due (N := N) (k := k + 7) g2
  have h' : run F N (k + 9) 37 [.val (dD w)] = some (.val (dD (ker w)), [some (.val (dD w))]) := h
  refine ⟨o4, d, w, ?_, g1.mono (by omega), c2, g2, g3, g4⟩
  have e0 : ex (run F N (k + 9)) N [0] q0 (enQ o none none none none none none none none none none none) = some (.nx (enQ o3 (some (.val (dD d))) none none none none none none none none none none)) := by
    unfold q0 enQ
    simp [ex, e_call, evs, e_var, e_cst, refr, a', b', c', passA, valSl, gd_pos, retOk, n1, n2, nl_d, backA, nl_pot a3, nl_pot b3, nl_pot c1, RV.dat, b_val]
  have e1 : ex (run F N (k + 9)) N [0] q1 (enQ o3 (some (.val (dD d))) none none none none none none none none none none) = some (.nx (enQ o4 (some (.val (dD d))) (some (.val (dD w))) none none none none none none none none none)) := by
    unfold q1 enQ
    simp [ex, e_call, evs, e_var, e_cst, refr, g', passA, valSl, gd_pos, retOk, nl_d, backA, nl_pot g1, RV.dat, b_val]
  have e2 : ex (run F N (k + 9)) N [0] q2 (enQ o4 (some (.val (dD d))) (some (.val (dD w))) none none none none none none none none none) = some (.nx (enQ o4 (some (.val (dD d))) (some (.val (dD w))) (some (.val (dD (ker w)))) none none none none none none none none)) := by
    unfold q2 enQ
    simp [ex, e_call, evs, e_var, e_cst, refr, h', passA, valSl, gd_pos, retOk, nl_d, backA, RV.dat, b_val]
  rw [exsN e0, exsN e1, exs1 e2]
theorem ker_idem {w : List Ent} (h : Dk w) : ker (ker w) = ker w := (ker_eq h (ker_Dk h) (ker_all h.2.2.1) fun x hx => Sp_mem (ker_mem.mp hx).1).symm

theorem right_3 {m : Nat} {o : Ob} {d w : List Ent} (hp : Pot m o) (hm : m + 20000 ≤ 10 ^ 9) (hN : 200 ≤ N) (hd : Dk d) (hw : Dk w) (q1 : ∀ e ∈ d, e ∈ w) (q2 : ∀ e ∈ w, Sp d e) :
    ∃ o' : Ob, ex (run F N (k + 9)) N [0] q3 (enQ o (some (.val (dD d))) (some (.val (dD w))) (some (.val (dD (ker w)))) none none none none none none none none) = some (.nx (enQ o' (some (.val (dD d))) (some (.val (dD w))) (some (.val (dD (ker w)))) none none none none none none none none)) ∧ Pot (m + 1000) o' := by
  have hk := ker_Dk hw
  obtain ⟨S, rS⟩ := repr_d hk
  obtain ⟨out, env', g1, ⟨o2, g2, g3⟩, g4, g5⟩ := comp_inv2 (C := (run F N (k + 9))) (elt := (.cmp .Eq (.bc .repr (.cons (.call 38 (.cons (.var 0) (.cons (.var 2) .nil)) [some 0, none]) .nil)) (.bc .repr (.cons (.var 3) .nil)))) (tg := (.nm 11)) (it := (.rng1 (.cst (PyData.int 2)))) (cs := .no) (own := [("lap", 11)]) (ds := intR 0 2) (bs := []) (env := (enQ o (some (.val (dD d))) (some (.val (dD w))) (some (.val (dD (ker w)))) none none none none none none none none)) (env1 := (enQ o (some (.val (dD d))) (some (.val (dD w))) (some (.val (dD (ker w)))) none none none none none none none none)) (fun j e => ∃ o2, Pot (m + 100 * j) o2 ∧ e = (enQ o2 (some (.val (dD d))) (some (.val (dD w))) (some (.val (dD (ker w)))) none none none none none none none none)) (fun _ z => z = .bool true) (by
      simp only [evi, e_cst, Option.bind_some]
      rw [gd_pos (by omega)]
      rfl) (by simp) (lim8 (by rw [rng_len]; omega)) ⟨o, hp, by simp [wipeD, enQ]⟩ (fun j e q hq hj hI => by
    rw [rng_len] at hj
    obtain ⟨o2, p1, p2⟩ := hI
    subst p2
    obtain ⟨o3, b, hp3⟩ := s_left (N := N) (k := k + 1) p1 (by omega) hw hN
    have b' : run F N (k + 9) 38 [.own o2, .val (dD w)] = some (.val (dD (ker w)), [some (.own o3), some (.val (dD w))]) := b
    have hpp := nl_pot hp3
    have se := str_eq S
    refine ⟨.bool true, (enQ o3 (some (.val (dD d))) (some (.val (dD w))) (some (.val (dD (ker w)))) none none none none none none none (some (.val q))), ?_, ⟨o3, hp3.mono (by omega), by simp [wipeD, enQ]⟩, by simp, rfl⟩
    simp [turnQ, evq, b_val, enQ, e_cmp, e_bc, e_call, evs, e_var, refr, passA, valSl, gd_pos, b', retOk, nl_d, backA, hpp, RV.dat, RV.frz, rS, se])
  subst g3
  rw [rng_len] at g2
  have bk : backD (enQ o (some (.val (dD d))) (some (.val (dD w))) (some (.val (dD (ker w)))) none none none none none none none none) (enQ o2 (some (.val (dD d))) (some (.val (dD w))) (some (.val (dD (ker w)))) none none none none none none none none) [11] = (enQ o2 (some (.val (dD d))) (some (.val (dD w))) (some (.val (dD (ker w)))) none none none none none none none none) := by
    simp [backD, valAt, enQ]
  simp only [List.map_cons, List.map_nil, bk] at g1
  have bt := bools_true fun y hy => (g4 y hy).elim fun _ h => h.2
  have ba : bcall .all [.fr (.L out)] = some (.val (.bool true)) := by
    simp only [bcall, RV.dat, bt, Option.map_some]
    simp
  refine ⟨o2, ?_, g2.mono (by omega)⟩
  have z1 : evt (run F N (k + 9)) (.inv (.bc .all (.cons (.comp (.cmp .Eq (.bc .repr (.cons (.call 38 (.cons (.var 0) (.cons (.var 2) .nil)) [some 0, none]) .nil)) (.bc .repr (.cons (.var 3) .nil))) (.nm 11) (.rng1 (.cst (PyData.int 2))) .no [("lap", 11)]) .nil))) (enQ o (some (.val (dD d))) (some (.val (dD w))) (some (.val (dD (ker w)))) none none none none none none none none) = some (false, (enQ o2 (some (.val (dD d))) (some (.val (dD w))) (some (.val (dD (ker w)))) none none none none none none none none)) := by
    rw [evt_inv, evt_bc, e_bc, evs, g1]
    simp only [Option.bind_some, evs, refr, Option.map_some]
    rw [ba]
    rfl
  have k1 : ker w = ker (ker w) := (ker_idem hw).symm
  have k2 : ker (ker w) = ker d := by
    rw [ker_idem hw]
    exact ker_eq hw hd q2 fun x hx => Sp_mem (q1 x hx)
  have a2 : ev (run F N (k + 9)) (.call 22 (.cons (.var 2) (.cons (.var 3) .nil)) [none, none]) (enQ o2 (some (.val (dD d))) (some (.val (dD w))) (some (.val (dD (ker w)))) none none none none none none none none) = _ := t_same hw hk hN rfl rfl
  have a3 : ev (run F N (k + 9)) (.call 22 (.cons (.var 3) (.cons (.var 1) .nil)) [none, none]) (enQ o2 (some (.val (dD d))) (some (.val (dD w))) (some (.val (dD (ker w)))) none none none none none none none none) = _ := t_same hk hd hN rfl rfl
  rw [decide_eq_true k1] at a2
  rw [decide_eq_true k2] at a3
  have it : opCmp .IsNot (.val (.bool true)) (.val (.bool true)) = some false := rfl
  have z2 : evt (run F N (k + 9)) (.cmp .IsNot (.call 22 (.cons (.var 2) (.cons (.var 3) .nil)) [none, none]) (.cst (PyData.bool true))) (enQ o2 (some (.val (dD d))) (some (.val (dD w))) (some (.val (dD (ker w)))) none none none none none none none none) = some (false, (enQ o2 (some (.val (dD d))) (some (.val (dD w))) (some (.val (dD (ker w)))) none none none none none none none none)) := by
    rw [evt_cmp, a2]
    simp [e_cst, refr, it]
  have z3 : evt (run F N (k + 9)) (.cmp .IsNot (.call 22 (.cons (.var 3) (.cons (.var 1) .nil)) [none, none]) (.cst (PyData.bool true))) (enQ o2 (some (.val (dD d))) (some (.val (dD w))) (some (.val (dD (ker w)))) none none none none none none none none) = some (false, (enQ o2 (some (.val (dD d))) (some (.val (dD w))) (some (.val (dD (ker w)))) none none none none none none none none)) := by
    rw [evt_cmp, a3]
    simp [e_cst, refr, it]
  have ct : evt (run F N (k + 9)) q3c (enQ o (some (.val (dD d))) (some (.val (dD w))) (some (.val (dD (ker w)))) none none none none none none none none) = some (false, (enQ o2 (some (.val (dD d))) (some (.val (dD w))) (some (.val (dD (ker w)))) none none none none none none none none)) := by
    unfold q3c
    rw [evt_or, z1]
    simp only [Option.bind_some, Bool.false_eq_true, if_false]
    rw [evt_or, z2]
    simp only [Option.bind_some, Bool.false_eq_true, if_false]
    exact z3
  unfold q3
  rw [ex_ite ct, if_neg (by simp), exs]

theorem right_4 {o : Ob} {d w : List Ent} (hN : 200 ≤ N) (hw : Dk w) :
    ∃ rs : List (List Nat), exs (run F N (k + 9)) N [0] (.cons q4 (.cons q5 .nil)) (enQ o (some (.val (dD d))) (some (.val (dD w))) (some (.val (dD (ker w)))) none none none none none none none none) = some (.nx (enQ o (some (.val (dD d))) (some (.val (dD w))) (some (.val (dD (ker w)))) (some (.val (withinD (rs.map rD)))) none none none none none none none)) ∧ rs.length = w.length ∧ (∀ r ∈ rs, Rok (ker w) r) := by
  have hk := ker_Dk hw
  have wt : wi N w (ker w) = true := (wi_iff hw hk hN).mpr (ker_all hw.2.2.1)
  have mn : miss N w (ker w) = none := Option.isNone_iff_eq_none.mp wt
  have ok := rsl_ok (N := N) hw.2.2.1 hk.2.2.1 mn
  have sd := rsl_said (N := N) hw.2.2.1 hk.2.2.1 mn
  have wv := wv_within mn
  have ln : (rsl N w (ker w)).length = w.length := by unfold rsl; rw [List.length_map]
  have a := s_within_told (N := N) (k := k + 2) hw hk hN
  have a' : run F N (k + 9) 20 [.val (dD w), .val (dD (ker w))] = some (.val (withinD ((rsl N w (ker w)).map rD)), [some (.val (dD w)), some (.val (dD (ker w)))]) := by
    rw [← wv]; exact a
  have nw : noList (withinD ((rsl N w (ker w)).map rD)) = true := by rw [← wv]; exact nl_wv w (ker w)
  generalize rsl N w (ker w) = rs at *
  refine ⟨rs, ?_, ln, fun r hr => (ok r hr).1⟩
  have b := s_is_within (N := N) (k := k + 7) hw hk (fun r hr => (ok r hr).1) ln
  have b' : run F N (k + 9) 39 [.val (dD w), .val (dD (ker w)), .val (withinD (rs.map rD))] = some (.val (.bool true), [some (.val (dD w)), some (.val (dD (ker w))), some (.val (withinD (rs.map rD)))]) := by
    rw [decide_eq_true sd] at b; exact b
  have c := s_shows_within (N := N) (k := k + 2) hw hk (fun r hr => (ok r hr).1) (by rw [ln]; exact lim8 (by have := hw.2.1; omega))
  have c' : run F N (k + 9) 21 [.val (dD w), .val (dD (ker w)), .val (withinD (rs.map rD))] = some (.val (.bool true), [some (.val (dD w)), some (.val (dD (ker w))), some (.val (withinD (rs.map rD)))]) := by
    rw [decide_eq_true sd] at c; exact c
  have e4 : ex (run F N (k + 9)) N [0] q4 (enQ o (some (.val (dD d))) (some (.val (dD w))) (some (.val (dD (ker w)))) none none none none none none none none) = some (.nx (enQ o (some (.val (dD d))) (some (.val (dD w))) (some (.val (dD (ker w)))) (some (.val (withinD (rs.map rD)))) none none none none none none none)) := by
    unfold q4 enQ
    simp [ex, e_call, evs, e_var, refr, a', passA, valSl, gd_pos, retOk, nw, backA, RV.dat, b_val]
  have z1 : evt (run F N (k + 9)) (.inv (.call 39 (.cons (.var 2) (.cons (.var 3) (.cons (.var 4) .nil))) [none, none, none])) (enQ o (some (.val (dD d))) (some (.val (dD w))) (some (.val (dD (ker w)))) (some (.val (withinD (rs.map rD)))) none none none none none none none) = some (false, (enQ o (some (.val (dD d))) (some (.val (dD w))) (some (.val (dD (ker w)))) (some (.val (withinD (rs.map rD)))) none none none none none none none)) := by
    unfold enQ
    simp [evt_inv, evt_call, e_call, evs, e_var, refr, b', passA, valSl, gd_pos, retOk, noList, backA, RV.dat]
  have it : opCmp .IsNot (.val (.bool true)) (.val (.bool true)) = some false := rfl
  have z2 : evt (run F N (k + 9)) (.cmp .IsNot (.call 21 (.cons (.var 2) (.cons (.var 3) (.cons (.var 4) .nil))) [none, none, none]) (.cst (PyData.bool true))) (enQ o (some (.val (dD d))) (some (.val (dD w))) (some (.val (dD (ker w)))) (some (.val (withinD (rs.map rD)))) none none none none none none none) = some (false, (enQ o (some (.val (dD d))) (some (.val (dD w))) (some (.val (dD (ker w)))) (some (.val (withinD (rs.map rD)))) none none none none none none none)) := by
    unfold enQ
    simp [evt_cmp, e_call, evs, e_var, e_cst, refr, c', passA, valSl, gd_pos, retOk, noList, backA, RV.dat, it]
  have ct : evt (run F N (k + 9)) q5c (enQ o (some (.val (dD d))) (some (.val (dD w))) (some (.val (dD (ker w)))) (some (.val (withinD (rs.map rD)))) none none none none none none none) = some (false, (enQ o (some (.val (dD d))) (some (.val (dD w))) (some (.val (dD (ker w)))) (some (.val (withinD (rs.map rD)))) none none none none none none none)) := by
    unfold q5c
    rw [evt_or, z1]
    simp only [Option.bind_some, Bool.false_eq_true, if_false]
    exact z2
  rw [exsN e4]
  refine exs1 ?_
  unfold q5
  rw [ex_ite ct, if_neg (by simp), exs]

theorem cut_seg2 {α : Type} {l : List α} {a n : Nat} (h : a ≤ l.length) : cutD l (some (a : Int)) (some ((a : Int) + (n : Int))) = (l.drop a).take n := by
  unfold cutD
  have e1 : HT.sIx l.length 0 (some (a : Int)) = min a l.length := HT.sIx_nat l.length 0 a
  have e2 : HT.sIx l.length l.length (some ((a + n : Nat) : Int)) = min (a + n) l.length := HT.sIx_nat l.length l.length (a + n)
  have e3 : ((a + n : Nat) : Int) = (a : Int) + (n : Int) := by omega
  rw [e3] at e2
  rw [e1, e2, Nat.min_eq_left h]
  by_cases q : a + n ≤ l.length
  · rw [Nat.min_eq_left q]
    congr 1
    omega
  · rw [Nat.min_eq_right (by omega)]
    rw [List.take_of_length_le (by rw [List.length_drop]; omega), List.take_of_length_le (by rw [List.length_drop]; omega)]
theorem add_t {a b : List (List Nat)} (h : a.length + b.length ≤ 1000) : opBin .Add (.val (.tuple (a.map rD))) (.val (.tuple (b.map rD))) = some (.val (.tuple ((a ++ b).map rD))) := by
  have : opBin .Add (.val (.tuple (a.map rD))) (.val (.tuple (b.map rD))) = (gd ((a.map rD).length + (b.map rD).length ≤ LIM)).map fun _ => .val (.tuple (a.map rD ++ b.map rD)) := rfl
  rw [this, gd_pos (by rw [List.length_map, List.length_map]; exact lim8 h)]
  simp
theorem right_6 {m : Nat} {o : Ob} {d w : List Ent} {rs : List (List Nat)} (hp : Pot m o) (hm : m + 20000 ≤ 10 ^ 9) (hw : Dk w) (hl : rs.length = w.length) (hr : ∀ r ∈ rs, Rok (ker w) r) :
    ∃ (o' : Ob) (x5 x8 x9 : Option SV), exs (run F N (k + 9)) N [0] (.cons q6 (.cons q7 (.cons q8 .nil))) (enQ o (some (.val (dD d))) (some (.val (dD w))) (some (.val (dD (ker w)))) (some (.val (withinD (rs.map rD)))) none none none none none none none) = some (.nx (enQ o' (some (.val (dD d))) (some (.val (dD w))) (some (.val (dD (ker w)))) (some (.val (withinD (rs.map rD)))) x5 none none x8 x9 none none)) ∧ Pot (m + 100) o' := by
  have hk := ker_Dk hw
  have h1 := hw.1
  have h16 := hw.2.1
  obtain ⟨x, o1, a, hx, hp1⟩ := s_take (N := N) (k := k + 8) (u := w.length) hp (by omega) (by omega) (by omega)
  obtain ⟨y, o2, b, hy, hp2⟩ := s_take (N := N) (k := k + 8) (u := w.length) hp1 (by omega) (by omega) (by omega)
  have hln : bcall .len [RV.val (dD w)] = some (.val (.int w.length)) := by simp [bcall, RV.dat, dD]
  have e6 : ex (run F N (k + 9)) N [0] q6 (enQ o (some (.val (dD d))) (some (.val (dD w))) (some (.val (dD (ker w)))) (some (.val (withinD (rs.map rD)))) none none none none none none none) = some (.nx (enQ o2 (some (.val (dD d))) (some (.val (dD w))) (some (.val (dD (ker w)))) (some (.val (withinD (rs.map rD)))) none none none (some (.val (.int (x : Int)))) (some (.val (.int (y : Int)))) none none)) := by
    unfold q6 enQ
    simp [ex, e_call, e_bc, evs, e_var, refr, hln, a, b, passA, valSl, gd_pos, retOk, noList, backA, nl_pot hp1, nl_pot hp2, RV.dat, bindP, b_val]
  have i1 : opIdx (.val (withinD (rs.map rD))) (.val (.int 1)) = some (.tuple (rs.map rD)) := rfl
  have s1 : opSlc (.val (.tuple (rs.map rD))) none (some (x : Int)) = some (.val (.tuple ((rs.take x).map rD))) := by
    have : opSlc (.val (.tuple (rs.map rD))) none (some (x : Int)) = some (.val (.tuple (cutD (rs.map rD) none (some (x : Int))))) := rfl
    rw [this, cut_map, cut_take]
  have s2 : opSlc (.val (.tuple (rs.map rD))) (some (y : Int)) (some ((y : Int) + 1)) = some (.val (.tuple (((rs.drop y).take 1).map rD))) := by
    have : opSlc (.val (.tuple (rs.map rD))) (some (y : Int)) (some ((y : Int) + 1)) = some (.val (.tuple (cutD (rs.map rD) (some (y : Int)) (some ((y : Int) + 1))))) := rfl
    rw [this, cut_map]
    have c := cut_seg2 (l := rs) (a := y) (n := 1) (by omega)
    rw [show ((y : Int) + ((1 : Nat) : Int)) = (y : Int) + 1 from rfl] at c
    rw [c]
  have s3 : opSlc (.val (.tuple (rs.map rD))) (some ((x : Int) + 1)) none = some (.val (.tuple ((rs.drop (x + 1)).map rD))) := by
    have : opSlc (.val (.tuple (rs.map rD))) (some ((x : Int) + 1)) none = some (.val (.tuple (cutD (rs.map rD) (some ((x : Int) + 1)) none))) := rfl
    have e : ((x + 1 : Nat) : Int) = (x : Int) + 1 := by omega
    rw [this, cut_map, ← e, cut_drop]
  have l3 : ((rs.drop y).take 1).length = 1 := by rw [List.length_take, List.length_drop]; omega
  have ad1 := add_t (a := rs.take x) (b := (rs.drop y).take 1) (by rw [l3, List.length_take]; omega)
  have ad2 := add_t (a := rs.take x ++ (rs.drop y).take 1) (b := rs.drop (x + 1)) (by rw [List.length_append, l3, List.length_take, List.length_drop]; omega)
  have hlen : (rs.take x ++ (rs.drop y).take 1 ++ rs.drop (x + 1)).length = w.length := by
    rw [List.length_append, List.length_append, l3, List.length_take, List.length_drop]; omega
  have hok : ∀ r ∈ rs.take x ++ (rs.drop y).take 1 ++ rs.drop (x + 1), Rok (ker w) r := fun r hq => by
    rcases List.mem_append.mp hq with z | z
    · rcases List.mem_append.mp z with z | z
      · exact hr r (List.mem_of_mem_take z)
      · exact hr r (List.mem_of_mem_drop (List.mem_of_mem_take z))
    · exact hr r (List.mem_of_mem_drop z)
  have l2 : 2 ≤ LIM := lim8 (by omega)
  have e7 : ex (run F N (k + 9)) N [0] q7 (enQ o2 (some (.val (dD d))) (some (.val (dD w))) (some (.val (dD (ker w)))) (some (.val (withinD (rs.map rD)))) none none none (some (.val (.int (x : Int)))) (some (.val (.int (y : Int)))) none none) = some (.nx (enQ o2 (some (.val (dD d))) (some (.val (dD w))) (some (.val (dD (ker w)))) (some (.val (withinD (rs.map rD)))) (some (.val (withinD ((rs.take x ++ (rs.drop y).take 1 ++ rs.drop (x + 1)).map rD)))) none none (some (.val (.int (x : Int)))) (some (.val (.int (y : Int)))) none none)) := by
    have wd : ∀ l : List (List Nat), withinD (l.map rD) = .tuple [.str "within", .tuple (l.map rD)] := fun _ => rfl
    have ct : ev (run F N (k + 9)) (.tup (.cons (.cst (PyData.str "within")) (.cons (.bin .Add (.bin .Add (.slc (.idx (.var 4) (.cst (PyData.int 1))) .no (.yes (.var 8))) (.slc (.idx (.var 4) (.cst (PyData.int 1))) (.yes (.var 9)) (.yes (.bin .Add (.var 9) (.cst (PyData.int 1)))))) (.slc (.idx (.var 4) (.cst (PyData.int 1))) (.yes (.bin .Add (.var 8) (.cst (PyData.int 1)))) .no)) .nil))) (enQ o2 (some (.val (dD d))) (some (.val (dD w))) (some (.val (dD (ker w)))) (some (.val (withinD (rs.map rD)))) none none none (some (.val (.int (x : Int)))) (some (.val (.int (y : Int)))) none none) = some (.val (withinD ((rs.take x ++ (rs.drop y).take 1 ++ rs.drop (x + 1)).map rD)), (enQ o2 (some (.val (dD d))) (some (.val (dD w))) (some (.val (dD (ker w)))) (some (.val (withinD (rs.map rD)))) none none none (some (.val (.int (x : Int)))) (some (.val (.int (y : Int)))) none none)) := by
      rw [wd (rs.take x ++ (rs.drop y).take 1 ++ rs.drop (x + 1))]
      generalize rs.take x = A at *
      generalize (rs.drop y).take 1 = B at *
      generalize rs.drop (x + 1) = D at *
      generalize A ++ B = AB at *
      generalize AB ++ D = ABD at *
      generalize withinD (rs.map rD) = W at *
      unfold enQ
      simp [e_tup, evs, e_cst, e_bin, e_slc, evo, e_idx, e_var, refr, i1, s1, s2, s3, m_add, ad1, ad2, RV.frz, gd_pos, l2]
    unfold q7
    rw [ex, ct]
    simp [b_val, enQ]
  refine ⟨o2, (some (.val (withinD ((rs.take x ++ (rs.drop y).take 1 ++ rs.drop (x + 1)).map rD)))), (some (.val (.int (x : Int)))), (some (.val (.int (y : Int)))), ?_, hp2.mono (by omega)⟩
  generalize rs.take x ++ (rs.drop y).take 1 ++ rs.drop (x + 1) = bt at *
  have b := s_is_within (N := N) (k := k + 7) hw hk hok hlen
  have b' : run F N (k + 9) 39 [.val (dD w), .val (dD (ker w)), .val (withinD (bt.map rD))] = some (.val (.bool (decide (bt.map (said (ker w)) = w))), [some (.val (dD w)), some (.val (dD (ker w))), some (.val (withinD (bt.map rD)))]) := b
  have c := s_shows_within (N := N) (k := k + 2) hw hk hok (by rw [hlen]; exact lim8 (by omega))
  have c' : run F N (k + 9) 21 [.val (dD w), .val (dD (ker w)), .val (withinD (bt.map rD))] = some (.val (.bool (decide (bt.map (said (ker w)) = w))), [some (.val (dD w)), some (.val (dD (ker w))), some (.val (withinD (bt.map rD)))]) := c
  generalize decide (bt.map (said (ker w)) = w) = tt at b' c'
  obtain ⟨S, rS⟩ := repr_b tt
  have ns := str_ne S
  have ct : evt (run F N (k + 9)) q8c (enQ o2 (some (.val (dD d))) (some (.val (dD w))) (some (.val (dD (ker w)))) (some (.val (withinD (rs.map rD)))) (some (.val (withinD (bt.map rD)))) none none (some (.val (.int (x : Int)))) (some (.val (.int (y : Int)))) none none) = some (false, (enQ o2 (some (.val (dD d))) (some (.val (dD w))) (some (.val (dD (ker w)))) (some (.val (withinD (rs.map rD)))) (some (.val (withinD (bt.map rD)))) none none (some (.val (.int (x : Int)))) (some (.val (.int (y : Int)))) none none)) := by
    unfold q8c enQ
    simp [evt_cmp, e_bc, e_call, evs, e_var, refr, c', b', passA, valSl, gd_pos, retOk, noList, backA, RV.dat, rS, ns]
  rw [exsN e6, exsN e7]
  refine exs1 ?_
  unfold q8
  rw [ex_ite ct, if_neg (by simp), exs]

theorem right_turn9 {o : Ob} {d w : List Ent} {e : Ent} {x4 x5 x8 x9 x10 : Option SV} (hN : 200 ≤ N) (hw : Dk w) (he : e ∈ ker w) (hl : 1 < (ker w).length) :
    exs (run F N (k + 9)) N [0] (.cons q9a (.cons q9b .nil)) (enQ o (some (.val (dD d))) (some (.val (dD w))) (some (.val (dD (ker w)))) x4 x5 (some (.val (eD e))) none x8 x9 x10 none) = some (.nx (enQ o (some (.val (dD d))) (some (.val (dD w))) (some (.val (dD (ker w)))) x4 x5 (some (.val (eD e))) none x8 x9 (some (.val (dD (wo (ker w) e)))) none)) := by
  have hk := ker_Dk hw
  have le := hk.2.2.1 e he
  have hwo := wo_Dk hk he hl
  have a := s_without (N := N) (k := k + 2) hk he hl
  have a' : run F N (k + 9) 13 [.val (dD (ker w)), .val (eD e)] = some (.val (dD (wo (ker w) e)), [some (.val (dD (ker w))), some (.val (eD e))]) := a
  have c1 : ex (run F N (k + 9)) N [0] q9a (enQ o (some (.val (dD d))) (some (.val (dD w))) (some (.val (dD (ker w)))) x4 x5 (some (.val (eD e))) none x8 x9 x10 none) = some (.nx (enQ o (some (.val (dD d))) (some (.val (dD w))) (some (.val (dD (ker w)))) x4 x5 (some (.val (eD e))) none x8 x9 (some (.val (dD (wo (ker w) e)))) none)) := by
    unfold q9a enQ
    simp [ex, e_call, evs, e_var, refr, a', passA, valSl, gd_pos, retOk, nl_d, backA, RV.dat, b_val]
  have hn : ¬ Sp (wo (ker w) e) e := fun z => (ker_mem.mp he).2 (Sp_sub z fun x hx => wo_mem.mpr ⟨(ker_mem.mp (wo_mem.mp hx).1).1, (wo_mem.mp hx).2⟩)
  have wf : wi N [e] (wo (ker w) e) = false := by
    rw [← Bool.not_eq_true, wi_iff (Dk_one le) hwo hN]
    exact fun z => hn (z e (by simp))
  have mn : miss N [e] (wo (ker w) e) = some 0 := by
    unfold wi at wf
    rw [Option.isNone_eq_false_iff] at wf
    obtain ⟨j, hj⟩ := Option.isSome_iff_exists.mp wf
    have := miss_lt hj
    have : j = 0 := by simp at this; omega
    rw [hj, this]
  have b := s_within_told (N := N) (k := k + 2) (Dk_one le) hwo hN
  rw [wv_entry mn] at b
  have e1 : dD [e] = .tuple [eD e] := rfl
  have b' : run F N (k + 9) 20 [.val (.tuple [eD e]), .val (dD (wo (ker w) e))] = some (.val (entryD 0), [some (.val (.tuple [eD e])), some (.val (dD (wo (ker w) e)))]) := b
  have l1 : 1 ≤ LIM := lim8 (by omega)
  have l2 : 2 ≤ LIM := lim8 (by omega)
  have ne : opCmp .NotEq (.val (entryD 0)) (.val (.tuple [.str "entry", .int 0])) = some false := by
    have q : eqOk (entryD 0) (.tuple [.str "entry", .int 0]) := ⟨by decide +kernel, by decide +kernel, by decide +kernel, by decide +kernel⟩
    have : opCmp .NotEq (.val (entryD 0)) (.val (.tuple [.str "entry", .int 0])) = ((gd (eqOk (entryD 0) (.tuple [.str "entry", .int 0]))).map fun _ => PyData.eqv (entryD 0) (.tuple [.str "entry", .int 0])).map (!·) := rfl
    rw [this, gd_pos q]
    simp [entryD, PyData.eqv, PyData.eqvAll]
  have nz : noList (entryD 0) = true := rfl
  have z1 : evt (run F N (k + 9)) (.cmp .NotEq (.call 20 (.cons (.tup (.cons (.var 6) .nil)) (.cons (.var 10) .nil)) [none, none]) (.tup (.cons (.cst (PyData.str "entry")) (.cons (.cst (PyData.int 0)) .nil)))) (enQ o (some (.val (dD d))) (some (.val (dD w))) (some (.val (dD (ker w)))) x4 x5 (some (.val (eD e))) none x8 x9 (some (.val (dD (wo (ker w) e)))) none) = some (false, (enQ o (some (.val (dD d))) (some (.val (dD w))) (some (.val (dD (ker w)))) x4 x5 (some (.val (eD e))) none x8 x9 (some (.val (dD (wo (ker w) e)))) none)) := by
    unfold enQ
    simp [evt_cmp, e_call, e_tup, evs, e_var, e_cst, refr, b', passA, valSl, gd_pos, l1, l2, retOk, nz, backA, RV.dat, RV.frz, ne]
  have kn : ker (wo (ker w) e) ≠ ker w := fun z => by
    have : e ∈ ker (wo (ker w) e) := by rw [z]; exact he
    exact (wo_mem.mp (ker_mem.mp this).1).2 rfl
  have s : ev (run F N (k + 9)) (.call 22 (.cons (.var 10) (.cons (.var 2) .nil)) [none, none]) (enQ o (some (.val (dD d))) (some (.val (dD w))) (some (.val (dD (ker w)))) x4 x5 (some (.val (eD e))) none x8 x9 (some (.val (dD (wo (ker w) e)))) none) = _ := t_same hwo hw hN rfl rfl
  rw [decide_eq_false kn] at s
  have it : opCmp .IsNot (.val (.bool false)) (.val (.bool false)) = some false := rfl
  have z2 : evt (run F N (k + 9)) (.cmp .IsNot (.call 22 (.cons (.var 10) (.cons (.var 2) .nil)) [none, none]) (.cst (PyData.bool false))) (enQ o (some (.val (dD d))) (some (.val (dD w))) (some (.val (dD (ker w)))) x4 x5 (some (.val (eD e))) none x8 x9 (some (.val (dD (wo (ker w) e)))) none) = some (false, (enQ o (some (.val (dD d))) (some (.val (dD w))) (some (.val (dD (ker w)))) x4 x5 (some (.val (eD e))) none x8 x9 (some (.val (dD (wo (ker w) e)))) none)) := by
    rw [evt_cmp, s]
    simp [e_cst, refr, it]
  have hlen := wo_len he hk.2.2.2.2
  obtain ⟨g, g2⟩ := s_with_entry (N := N) (k := k + 2) hwo le (fun z => (wo_mem.mp z).2 rfl) (by have := hk.2.1; omega)
  have g' : run F N (k + 9) 12 [.val (dD (wo (ker w) e)), .val (eD e)] = some (.val (dD (sE (wo (ker w) e ++ [e]))), [some (.val (dD (wo (ker w) e))), some (.val (eD e))]) := g
  have back : sE (wo (ker w) e ++ [e]) = ker w := Dk_eq g2 hk fun x => by
    rw [sE_mem, List.mem_append, List.mem_singleton, wo_mem]
    constructor
    · rintro (z | z)
      · exact z.1
      · rw [z]; exact he
    · intro z
      by_cases q : x = e
      · exact .inr q
      · exact .inl ⟨z, q⟩
  have cn := cne_d g2 hk
  rw [decide_eq_true back] at cn
  have z3 : evt (run F N (k + 9)) (.cmp .NotEq (.call 12 (.cons (.var 10) (.cons (.var 6) .nil)) [none, none]) (.var 3)) (enQ o (some (.val (dD d))) (some (.val (dD w))) (some (.val (dD (ker w)))) x4 x5 (some (.val (eD e))) none x8 x9 (some (.val (dD (wo (ker w) e)))) none) = some (false, (enQ o (some (.val (dD d))) (some (.val (dD w))) (some (.val (dD (ker w)))) x4 x5 (some (.val (eD e))) none x8 x9 (some (.val (dD (wo (ker w) e)))) none)) := by
    unfold enQ
    simp [evt_cmp, e_call, evs, e_var, refr, g', passA, valSl, gd_pos, retOk, nl_d, backA, RV.dat, cn]
  have ct : evt (run F N (k + 9)) q9c (enQ o (some (.val (dD d))) (some (.val (dD w))) (some (.val (dD (ker w)))) x4 x5 (some (.val (eD e))) none x8 x9 (some (.val (dD (wo (ker w) e)))) none) = some (false, (enQ o (some (.val (dD d))) (some (.val (dD w))) (some (.val (dD (ker w)))) x4 x5 (some (.val (eD e))) none x8 x9 (some (.val (dD (wo (ker w) e)))) none)) := by
    unfold q9c
    rw [evt_or, z1]
    simp only [Option.bind_some, Bool.false_eq_true, if_false]
    rw [evt_or, z2]
    simp only [Option.bind_some, Bool.false_eq_true, if_false]
    exact z3
  rw [exsN c1]
  refine exs1 ?_
  unfold q9b
  rw [ex_ite ct, if_neg (by simp), exs]
theorem right_loop9 {o : Ob} {d w : List Ent} {x4 x5 x8 x9 : Option SV} (hN : 200 ≤ N) (hw : Dk w) (hl : 1 < (ker w).length) {env0 : En} : ∀ (es : List Ent) (x6 x10 : Option SV), (∀ e ∈ es, e ∈ ker w) →
    ∃ y6 y10 : Option SV, forL [] (fun q en => (bindT [0] (.nm 6) (.val q) en).bind fun e1 => exs (run F N (k + 9)) N [0] (.cons q9a (.cons q9b .nil)) e1) (es.map eD) env0 (enQ o (some (.val (dD d))) (some (.val (dD w))) (some (.val (dD (ker w)))) x4 x5 x6 none x8 x9 x10 none) = some (.nx (enQ o (some (.val (dD d))) (some (.val (dD w))) (some (.val (dD (ker w)))) x4 x5 y6 none x8 x9 y10 none))
  | [], x6, x10, _ => ⟨x6, x10, by rw [List.map_nil, forL]⟩
  | e :: es, x6, x10, h => by
    have a := right_turn9 (N := N) (k := k) (o := o) (d := d) (x4 := x4) (x5 := x5) (x8 := x8) (x9 := x9) (x10 := x10) hN hw (h e List.mem_cons_self) hl
    obtain ⟨y6, y10, g⟩ := right_loop9 (o := o) (d := d) (x4 := x4) (x5 := x5) (x8 := x8) (x9 := x9) hN hw hl (env0 := env0) es (some (.val (eD e))) (some (.val (dD (wo (ker w) e)))) fun z hz => h z (List.mem_cons_of_mem _ hz)
    refine ⟨y6, y10, ?_⟩
    have hb : bindT [0] (.nm 6) (.val (eD e)) (enQ o (some (.val (dD d))) (some (.val (dD w))) (some (.val (dD (ker w)))) x4 x5 x6 none x8 x9 x10 none) = some (enQ o (some (.val (dD d))) (some (.val (dD w))) (some (.val (dD (ker w)))) x4 x5 (some (.val (eD e))) none x8 x9 x10 none) := by
      simp [b_val, enQ]
    rw [List.map_cons, forL, hb]
    simp only [Option.bind_some]
    rw [a]
    simp only [Option.bind_some]
    rw [gd_pos (by simp)]
    exact g
theorem right_9 {o : Ob} {d w : List Ent} {x4 x5 x8 x9 : Option SV} (hN : 200 ≤ N) (hw : Dk w) :
    ∃ y6 y10 : Option SV, ex (run F N (k + 9)) N [0] q9 (enQ o (some (.val (dD d))) (some (.val (dD w))) (some (.val (dD (ker w)))) x4 x5 none none x8 x9 none none) = some (.nx (enQ o (some (.val (dD d))) (some (.val (dD w))) (some (.val (dD (ker w)))) x4 x5 y6 none x8 x9 y10 none)) := by
  have hln : bcall .len [RV.val (dD (ker w))] = some (.val (.int (ker w).length)) := by simp [bcall, RV.dat, dD]
  have gt : opCmp .Gt (.val (.int (ker w).length)) (.val (.int 1)) = some (decide (1 < (ker w).length)) := by
    show some (decide ((1 : Int) < ((ker w).length : Int))) = _
    congr 1
    exact decide_eq_decide.mpr (by omega)
  by_cases q : 1 < (ker w).length
  · rw [decide_eq_true q] at gt
    have hi : evi (run F N (k + 9)) (.vals (.ite (.cmp .Gt (.bc .len (.cons (.var 3) .nil)) (.cst (PyData.int 1))) (.var 3) (.tup .nil))) (enQ o (some (.val (dD d))) (some (.val (dD w))) (some (.val (dD (ker w)))) x4 x5 none none x8 x9 none none) = some ((ker w).map eD, [], (enQ o (some (.val (dD d))) (some (.val (dD w))) (some (.val (dD (ker w)))) x4 x5 none none x8 x9 none none)) := by
      have dat : (RV.val (dD (ker w))).dat = some (.tuple ((ker w).map eD)) := rfl
      unfold enQ
      simp [evi, e_ite, evt_cmp, e_bc, evs, e_var, e_cst, refr, hln, gt, dat]
    obtain ⟨y6, y10, g⟩ := right_loop9 (N := N) (k := k) (o := o) (d := d) (x4 := x4) (x5 := x5) (x8 := x8) (x9 := x9) hN hw q (env0 := (enQ o (some (.val (dD d))) (some (.val (dD w))) (some (.val (dD (ker w)))) x4 x5 none none x8 x9 none none)) (ker w) none none fun _ h => h
    refine ⟨y6, y10, ?_⟩
    unfold q9
    rw [ex, hi]
    simp only [Option.bind_some]
    rw [gd_pos (by simp)]
    exact g
  · rw [decide_eq_false q] at gt
    have hi : evi (run F N (k + 9)) (.vals (.ite (.cmp .Gt (.bc .len (.cons (.var 3) .nil)) (.cst (PyData.int 1))) (.var 3) (.tup .nil))) (enQ o (some (.val (dD d))) (some (.val (dD w))) (some (.val (dD (ker w)))) x4 x5 none none x8 x9 none none) = some ([], [], (enQ o (some (.val (dD d))) (some (.val (dD w))) (some (.val (dD (ker w)))) x4 x5 none none x8 x9 none none)) := by
      unfold enQ
      simp [evi, e_ite, e_tup, evt_cmp, e_bc, evs, e_var, e_cst, refr, hln, gt, RV.dat, gd_pos]
    refine ⟨none, none, ?_⟩
    unfold q9
    rw [ex, hi]
    simp only [Option.bind_some]
    rw [gd_pos (by simp)]
    simp [forL]

theorem right_10 {m : Nat} {o : Ob} {d w : List Ent} {x4 x5 x6 x8 x9 x10 : Option SV} (hp : Pot m o) (hm : m + 20000 ≤ 10 ^ 9) (hN : 200 ≤ N) (hd : Dk d) (hw : Dk w) :
    ∃ (o' : Ob) (en : En), exs (run F N (k + 9)) N [0] (.cons q10 (.cons q11 .nil)) (enQ o (some (.val (dD d))) (some (.val (dD w))) (some (.val (dD (ker w)))) x4 x5 x6 none x8 x9 x10 none) = some (.rt (.val (.bool true)) en) ∧ en.take 1 = [some (.own o')] ∧ Pot (m + 1000) o' := by
  have hk := ker_Dk hw
  obtain ⟨o1, b, a, a1, a2⟩ := s_otherwise (N := N) (k := k + 4) hp (by omega) hd
  have a' : run F N (k + 9) 40 [.own o, .val (dD d)] = some (.val (dD b), [some (.own o1), some (.val (dD d))]) := a
  have hb := ker_Dk a2
  refine ⟨o1, (enQ o1 (some (.val (dD d))) (some (.val (dD w))) (some (.val (dD (ker w)))) x4 x5 x6 (some (.val (dD b))) x8 x9 x10 none), ?_, rfl, a1⟩
  have c1 : ex (run F N (k + 9)) N [0] q10 (enQ o (some (.val (dD d))) (some (.val (dD w))) (some (.val (dD (ker w)))) x4 x5 x6 none x8 x9 x10 none) = some (.nx (enQ o1 (some (.val (dD d))) (some (.val (dD w))) (some (.val (dD (ker w)))) x4 x5 x6 (some (.val (dD b))) x8 x9 x10 none)) := by
    unfold q10 enQ
    simp [ex, e_call, evs, e_var, refr, a', passA, valSl, gd_pos, retOk, nl_d, backA, nl_pot a1, RV.dat, b_val]
  have s1 : ev (run F N (k + 9)) (.call 22 (.cons (.var 2) (.cons (.var 7) .nil)) [none, none]) (enQ o1 (some (.val (dD d))) (some (.val (dD w))) (some (.val (dD (ker w)))) x4 x5 x6 (some (.val (dD b))) x8 x9 x10 none) = _ := t_same hw a2 hN rfl rfl
  have s2 : ev (run F N (k + 9)) (.call 22 (.cons (.var 7) (.cons (.var 2) .nil)) [none, none]) (enQ o1 (some (.val (dD d))) (some (.val (dD w))) (some (.val (dD (ker w)))) x4 x5 x6 (some (.val (dD b))) x8 x9 x10 none) = _ := t_same a2 hw hN rfl rfl
  have e21 : decide (ker b = ker w) = decide (ker w = ker b) := decide_eq_decide.mpr ⟨fun h => h.symm, fun h => h.symm⟩
  rw [e21] at s2
  have du := s_due (N := N) (k := k + 7) a2
  have du' : run F N (k + 9) 37 [.val (dD b)] = some (.val (dD (ker b)), [some (.val (dD b))]) := du
  have eqd := ceq_d hk hb
  generalize decide (ker w = ker b) = tt at s1 s2 eqd
  obtain ⟨S, rS⟩ := repr_b tt
  have se := str_eq S
  have z1 : evt (run F N (k + 9)) (.cmp .Eq (.bc .repr (.cons (.call 22 (.cons (.var 2) (.cons (.var 7) .nil)) [none, none]) .nil)) (.bc .repr (.cons (.cmp .Eq (.var 3) (.call 37 (.cons (.var 7) .nil) [none])) .nil))) (enQ o1 (some (.val (dD d))) (some (.val (dD w))) (some (.val (dD (ker w)))) x4 x5 x6 (some (.val (dD b))) x8 x9 x10 none) = some (true, (enQ o1 (some (.val (dD d))) (some (.val (dD w))) (some (.val (dD (ker w)))) x4 x5 x6 (some (.val (dD b))) x8 x9 x10 none)) := by
    rw [evt_cmp, e_bc, evs, s1]
    unfold enQ
    simp [evs, e_bc, e_cmp, e_call, e_var, refr, du', passA, valSl, gd_pos, retOk, nl_d, backA, RV.dat, eqd, rS, se]
  have z2 : evt (run F N (k + 9)) (.cmp .Eq (.bc .repr (.cons (.call 22 (.cons (.var 7) (.cons (.var 2) .nil)) [none, none]) .nil)) (.bc .repr (.cons (.call 22 (.cons (.var 2) (.cons (.var 7) .nil)) [none, none]) .nil))) (enQ o1 (some (.val (dD d))) (some (.val (dD w))) (some (.val (dD (ker w)))) x4 x5 x6 (some (.val (dD b))) x8 x9 x10 none) = some (true, (enQ o1 (some (.val (dD d))) (some (.val (dD w))) (some (.val (dD (ker w)))) x4 x5 x6 (some (.val (dD b))) x8 x9 x10 none)) := by
    rw [evt_cmp, e_bc, evs, s2]
    simp only [Option.bind_some, evs, refr, Option.map_some, rS, e_bc, s1, se]
  have c2 : ex (run F N (k + 9)) N [0] q11 (enQ o1 (some (.val (dD d))) (some (.val (dD w))) (some (.val (dD (ker w)))) x4 x5 x6 (some (.val (dD b))) x8 x9 x10 none) = some (.rt (.val (.bool true)) (enQ o1 (some (.val (dD d))) (some (.val (dD w))) (some (.val (dD (ker w)))) x4 x5 x6 (some (.val (dD b))) x8 x9 x10 none)) := by
    unfold q11
    rw [ex, e_and, z1]
    simp [z2]
  rw [exsN c1, exs, c2]
  rfl
theorem exs3 {C : Cl} {io : List Nat} {s s' s'' : S} {ss : Ss} {env e : En} (h : exs C N io (.cons s (.cons s' (.cons s'' .nil))) env = some (.nx e)) : exs C N io (.cons s (.cons s' (.cons s'' ss))) env = exs C N io ss e := by
  rw [exs] at h ⊢
  cases q : ex C N io s env with
  | none => rw [q] at h; cases h
  | some f => cases f with
    | nx e1 =>
      rw [q] at h
      simp only [Option.bind_some] at h ⊢
      exact exs2 h
    | rt r e1 => rw [q] at h; cases h
    | bk e1 => rw [q] at h; cases h
    | ct e1 => rw [q] at h; cases h
theorem s_right {m : Nat} {o : Ob} (hp : Pot m o) (hm : m + 100000 ≤ 10 ^ 9) (hN : 200 ≤ N) :
    ∃ o' : Ob, run F N (k + 10) 41 [.own o] = some (.val (.bool true), [some (.own o')]) ∧ Pot (m + 20000) o' := by
  obtain ⟨o1, d, w, a, p1, hd, hw, h1, h2⟩ := right_0 (N := N) (k := k) hp (by omega)
  obtain ⟨o2, b, p2⟩ := right_3 (N := N) (k := k) p1 (by omega) hN hd hw h1 h2
  obtain ⟨rs, c, c1, c2⟩ := right_4 (N := N) (k := k) (o := o2) (d := d) hN hw
  obtain ⟨o3, x5, x8, x9, g, p3⟩ := right_6 (N := N) (k := k) (d := d) p2 (by omega) hw c1 c2
  obtain ⟨y6, y10, h⟩ := right_9 (N := N) (k := k) (o := o3) (d := d) (x4 := (some (.val (withinD (rs.map rD))))) (x5 := x5) (x8 := x8) (x9 := x9) hN hw
  obtain ⟨o4, en, r, r1, p4⟩ := right_10 (N := N) (k := k) (x4 := (some (.val (withinD (rs.map rD))))) (x5 := x5) (x6 := y6) (x8 := x8) (x9 := x9) (x10 := y10) p3 (by omega) hN hd hw
  refine ⟨o4, ?_, p4.mono (by omega)⟩
  have e0 : en[0]? = some (some (.own o4)) := by
    have : (en.take 1)[0]? = some (some (.own o4)) := by rw [r1]; rfl
    simpa using this
  rw [run_of F_41 rfl (by decide) rfl rfl]
  simp only [f__law_right, b_right, List.map_cons, List.map_nil, List.replicate, List.cons_append, List.nil_append, Nat.reduceSub]
  have a' : exs (run F N (k + 9)) N [0] (.cons q0 (.cons q1 (.cons q2 .nil))) [some (.own o), none, none, none, none, none, none, none, none, none, none, none] = _ := a
  rw [exs3 a', exsN b, exs2 c, exs3 g, exsN h, r]
  simp [PL.finish, retV, gd_pos, e0, r1]
end PT
set_option maxRecDepth 100000
set_option maxHeartbeats 4000000
/-! T26: the law. -/
namespace PT
open PySem PL
open L2 (Key)
variable {N k : Nat}
def lA : S :=
(.asg (.nm 2) (.call 23 (.cons (.var 0) (.cons (.var 1) .nil)) [none, none]))
def lT : E :=
(.inv (.bc .all (.cons (.comp (.call 41 (.cons (.var 2) .nil) [some 2]) (.nm 3) (.rng1 (.cst (PyData.int 2))) .no [("lap", 3)]) .nil)))
def lB : S := .ite lT (.cons (.ret (.cst (PyData.bool false))) .nil) .nil
def lF : S := .for (.nm 1) (.vals (.call 26 (.cons (.var 0) (.cons (.cst (PyData.int 2)) .nil)) [none, none])) (.cons lA (.cons lB .nil))
theorem b_43 : b_law = .cons lF (.cons (.ret (.cst (PyData.bool true))) .nil) := rfl

theorem law_turn {ns : List Int} {p : Nat} {x2 : Option SV} (hp : p ≤ 10) (hN : 200 ≤ N) :
    ∃ y2 : Option SV, exs (run F N (k + 10)) N [] (.cons lA (.cons lB .nil)) [some (.val (.list (ns.map PyData.int))), some (.val (.int p)), x2, none] = some (.nx [some (.val (.list (ns.map PyData.int))), some (.val (.int p)), y2, none]) := by
  obtain ⟨o, a, hp0⟩ := s_pot (N := N) (k := k + 9) (ns := ns) hp
  have c1 : ex (run F N (k + 10)) N [] lA [some (.val (.list (ns.map PyData.int))), some (.val (.int p)), x2, none] = some (.nx [some (.val (.list (ns.map PyData.int))), some (.val (.int p)), some (.own o), none]) := by
    unfold lA
    simp [ex, e_call, evs, e_var, refr, passA, valSl, gd_pos, a, retOk, nl_pot hp0, backA, RV.dat, b_fr]
  obtain ⟨out, env', g1, ⟨o2, g2, g3⟩, g4, g5⟩ := comp_inv2 (C := (run F N (k + 10))) (elt := (.call 41 (.cons (.var 2) .nil) [some 2])) (tg := (.nm 3)) (it := (.rng1 (.cst (PyData.int 2)))) (cs := .no) (own := [("lap", 3)]) (ds := intR 0 2) (bs := []) (env := [some (.val (.list (ns.map PyData.int))), some (.val (.int p)), some (.own o), none]) (env1 := [some (.val (.list (ns.map PyData.int))), some (.val (.int p)), some (.own o), none]) (fun j e => ∃ o2, Pot (20000 * j) o2 ∧ e = [some (.val (.list (ns.map PyData.int))), some (.val (.int p)), some (.own o2), none]) (fun _ z => z = .bool true) (by
      simp only [evi, e_cst, Option.bind_some]
      rw [gd_pos (by omega)]
      rfl) (by simp) (lim8 (by rw [rng_len]; omega)) ⟨o, hp0, by simp [wipeD]⟩ (fun j e q hq hj hI => by
    rw [rng_len] at hj
    obtain ⟨o2, q1, q2⟩ := hI
    subst q2
    obtain ⟨o3, b, hp3⟩ := s_right (N := N) (k := k) q1 (by omega) hN
    have hpp := nl_pot hp3
    refine ⟨.bool true, [some (.val (.list (ns.map PyData.int))), some (.val (.int p)), some (.own o3), some (.val q)], ?_, ⟨o3, hp3.mono (by omega), by simp [wipeD]⟩, by simp, rfl⟩
    simp [turnQ, evq, b_val, e_call, evs, e_var, refr, passA, valSl, gd_pos, b, retOk, noList, backA, hpp, RV.dat, RV.frz])
  subst g3
  have bk : backD [some (.val (.list (ns.map PyData.int))), some (.val (.int p)), some (.own o), none] [some (.val (.list (ns.map PyData.int))), some (.val (.int p)), some (.own o2), none] [3] = [some (.val (.list (ns.map PyData.int))), some (.val (.int p)), some (.own o2), none] := by
    simp [backD, valAt]
  simp only [List.map_cons, List.map_nil, bk] at g1
  have bt := bools_true fun y hy => (g4 y hy).elim fun _ h => h.2
  have ba : bcall .all [.fr (.L out)] = some (.val (.bool true)) := by
    simp only [bcall, RV.dat, bt, Option.map_some]
    simp
  have ct : evt (run F N (k + 10)) lT [some (.val (.list (ns.map PyData.int))), some (.val (.int p)), some (.own o), none] = some (false, [some (.val (.list (ns.map PyData.int))), some (.val (.int p)), some (.own o2), none]) := by
    unfold lT
    rw [evt_inv, evt_bc, e_bc, evs, g1]
    simp only [Option.bind_some, evs, refr, Option.map_some]
    rw [ba]
    rfl
  refine ⟨some (.own o2), ?_⟩
  rw [exsN c1]
  refine exs1 ?_
  unfold lB; rw [ex_ite ct, if_neg (by simp), exs]
theorem law_loop {ns : List Int} (hN : 200 ≤ N) {env0 : En} : ∀ (ps : List Nat) (x1 x2 : Option SV), (∀ p ∈ ps, p ≤ 10) →
    ∃ y1 y2 : Option SV, forL [] (fun q e => (bindT [] (.nm 1) (.val q) e).bind fun e1 => exs (run F N (k + 10)) N [] (.cons lA (.cons lB .nil)) e1) (ps.map fun (p : Nat) => .int p) env0 [some (.val (.list (ns.map PyData.int))), x1, x2, none] = some (.nx [some (.val (.list (ns.map PyData.int))), y1, y2, none])
  | [], x1, x2, _ => ⟨x1, x2, by rw [List.map_nil, forL]⟩
  | p :: ps, x1, x2, h => by
    obtain ⟨z2, a⟩ := law_turn (N := N) (k := k) (ns := ns) (x2 := x2) (h p List.mem_cons_self) hN
    obtain ⟨y1, y2, g⟩ := law_loop hN ps (some (.val (.int p))) z2 fun z hz => h z (List.mem_cons_of_mem _ hz)
    refine ⟨y1, y2, ?_⟩
    have hb : bindT [] (.nm 1) (.val (.int p)) [some (.val (.list (ns.map PyData.int))), x1, x2, none] = some [some (.val (.list (ns.map PyData.int))), some (.val (.int p)), x2, none] := by
      simp [b_val]
    rw [List.map_cons, forL, hb]
    simp only [Option.bind_some]
    rw [a]
    simp only [Option.bind_some]
    rw [gd_pos (by simp)]
    exact g
theorem sm_nl0 (n : Nat) : noLists (intR 0 n) = true := by
  have : ∀ l : List Nat, noLists (l.map fun (i : Nat) => PyData.int (0 + i)) = true := fun l => by
    induction l with
    | nil => rfl
    | cons x l ih => rw [List.map_cons, noLists, ih]; rfl
  exact this _
theorem s_law {ns : List Int} (hn : ns.length ≤ 1000) (hN : 200 ≤ N) : run F N (k + 11) 42 [.val (.list (ns.map PyData.int))] = some (.val (.bool true), [some (.val (.list (ns.map PyData.int)))]) := by
  obtain ⟨n, a, hn2⟩ := s_cells (N := N) (k := k + 9) hn
  have hint : intR 0 n = (List.range n).map fun (p : Nat) => .int p := by
    unfold intR
    simp
  obtain ⟨y1, y2, b⟩ := law_loop (N := N) (k := k) (ns := ns) hN (env0 := [some (.val (.list (ns.map PyData.int))), none, none, none]) (List.range n) none none fun p hp => by
    have := List.mem_range.mp hp
    omega
  have nl : obNl (.L (intR 0 n)) = true := sm_nl0 n
  have hi : evi (run F N (k + 10)) (.vals (.call 26 (.cons (.var 0) (.cons (.cst (PyData.int 2)) .nil)) [none, none])) [some (.val (.list (ns.map PyData.int))), none, none, none] = some ((List.range n).map fun (p : Nat) => .int p, [], [some (.val (.list (ns.map PyData.int))), none, none, none]) := by
    rw [← hint]
    simp [evi, e_call, evs, e_var, e_cst, refr, passA, valSl, gd_pos, a, retOk, nl, backA, RV.dat, boSl]
  have c1 : ex (run F N (k + 10)) N [] lF [some (.val (.list (ns.map PyData.int))), none, none, none] = some (.nx [some (.val (.list (ns.map PyData.int))), y1, y2, none]) := by
    unfold lF
    rw [ex, hi]
    simp only [Option.bind_some]
    rw [gd_pos (by simp)]
    exact b
  rw [run_of F_42 rfl (by decide) rfl rfl]
  simp only [f_law, b_43, List.map_cons, List.map_nil, List.replicate, List.cons_append, List.nil_append, Nat.reduceSub]
  rw [exsN c1]
  simp [exs, ex, e_cst, PL.finish, retV, gd_pos]
theorem plain : ∀ ns : List Int, ns.length ≤ 63 → ∃ outs, run F 100000 30 42 [.val (.list (ns.map PyData.int))] = some (.val (.bool true), outs) := fun ns h => ⟨_, s_law (N := 100000) (k := 19) (by omega) (by omega)⟩
end PT
set_option maxRecDepth 100000
set_option maxHeartbeats 0
namespace Hd
open PySem PySem.Spec PyProof.Rows L2
def top (i : Nat) : Stmt := PySem.Challenge.pw_onestrokeatatime_k00_whole_one_least_ker.main.body.getD i (.Pass ⟨0, 0, 0, 0⟩)
def mkD (x : Str) (i : Nat) : He.DefD := ⟨(x, none), x, x, defArgs (top i), defBody (top i), defScope (top i), [], []⟩
def fn : List He.DefD := [
mkD "is_integer" 10,
  mkD "is_between" 11,
  mkD "are_between" 12,
  mkD "is_tuple_of" 13,
  mkD "is_ascending" 14,
  mkD "are_signs" 15,
  mkD "is_signs" 16,
  mkD "is_entry_of" 20,
  mkD "is_dictionary_of" 21,
  mkD "check_dictionary" 22,
  mkD "check_entry" 23,
  mkD "check_many" 24,
  mkD "with_entry" 25,
  mkD "without_entry" 26,
  mkD "is_reading_of" 28,
  mkD "row_by" 29,
  mkD "text_by" 30,
  mkD "reading_for" 34,
  mkD "within_by" 35,
  mkD "check_both" 36,
  mkD "within_told" 37,
  mkD "shows_within" 38,
  mkD "is_same" 39,
  mkD "_law_pot" 41,
  mkD "_law_take" 42,
  mkD "_law_of" 43,
  mkD "_law_cells" 44,
  mkD "_law_unlike" 45,
  mkD "_law_signs" 46,
  mkD "_law_some" 47,
  mkD "_law_row" 48,
  mkD "_law_leaves" 49,
  mkD "_law_outlines" 50,
  mkD "_law_dictionary" 51,
  mkD "_law_is_int" 52,
  mkD "_law_more" 53,
  mkD "_law_is_made" 54,
  mkD "_law_due" 55,
  mkD "_law_left" 56,
  mkD "_law_is_within" 57,
  mkD "_law_otherwise" 58,
  mkD "_law_right" 59,
  mkD "law" 60]
def fa : List He.Fa := [.glo "is_integer", .glo "is_between", .glo "are_between", .glo "is_tuple_of", .glo "is_ascending", .glo "are_signs", .glo "is_signs", .glo "is_entry_of", .glo "is_dictionary_of", .glo "check_dictionary", .glo "check_entry", .glo "check_many", .glo "with_entry", .glo "without_entry", .glo "is_reading_of", .glo "row_by", .glo "text_by", .glo "reading_for", .glo "within_by", .glo "check_both", .glo "within_told", .glo "shows_within", .glo "is_same", .glo "_law_pot", .glo "_law_take", .glo "_law_of", .glo "_law_cells", .glo "_law_unlike", .glo "_law_signs", .glo "_law_some", .glo "_law_row", .glo "_law_leaves", .glo "_law_outlines", .glo "_law_dictionary", .glo "_law_is_int", .glo "_law_more", .glo "_law_is_made", .glo "_law_due", .glo "_law_left", .glo "_law_is_within", .glo "_law_otherwise", .glo "_law_right", .glo "law", .free "abs", .free "all", .free "any", .free "bool", .free "dict", .free "enumerate", .free "int", .free "isinstance", .free "len", .free "list", .free "max", .free "min", .free "range", .free "repr", .free "sorted", .free "str", .free "sum", .free "tuple", .free "zip", .str "SIGNS" "abcdefghijklmnopqrstuvwxyz", .int "MOST_ROW" 2000, .int "MOST_ENTRIES" 16, .int "MOST_OUTLINE" 8, .str "WITHIN" "within", .str "ENTRY" "entry"]
def names : List PySem.Str := (["StrokeError", "BadDictionary", "BadEntry", "Known", "NoEntry", "TooMany", "SIGNS", "MOST_ROW", "is_integer", "is_between", "are_between", "is_tuple_of", "is_ascending", "are_signs", "is_signs", "MOST_ENTRIES", "MOST_OUTLINE", "is_entry_of", "is_dictionary_of", "check_dictionary", "check_entry", "check_many", "with_entry", "without_entry", "is_reading_of", "row_by", "text_by", "WITHIN", "ENTRY", "reading_for"] : List PySem.Str) ++ (["within_by", "check_both", "within_told", "shows_within", "is_same", "_law_pot", "_law_take", "_law_of", "_law_cells", "_law_unlike", "_law_signs", "_law_some", "_law_row", "_law_leaves", "_law_outlines", "_law_dictionary", "_law_is_int", "_law_more", "_law_is_made", "_law_due", "_law_left", "_law_is_within", "_law_otherwise", "_law_right"] : List PySem.Str)
abbrev R : PySem.W.OpenRow := PySem.W.OpenLaw.row PySem.Challenge.rw_onestrokeatatime_k00_whole_one_least_ker
abbrev hk : PySem.W.Hook := He.hookD 4 fa fn
def ob (s : PySem.W.SharedT) : He.AlD := He.obsDG 4 fa fn (HandSHeadRun.getT s)
theorem ob_eq (s : PySem.W.SharedT) : ob s = hk.obs s.abs := He.obsDG_eq (HandSHeadRun.getT_eq s)
theorem run (w : World) : HandSHeadRun.RunEq R (PySem.W.view R.prog [60]) hk ob 4000 names w := by
  intro os
  kernel_rfl
end Hd
set_option maxRecDepth 100000
set_option maxHeartbeats 0
namespace PT
open PySem PySem.Spec PyProof.Rows L2 PL
def r_is_integer : Rec := ⟨"is_integer", Hd.top 10, f_is_integer, ["value"]⟩
def r_is_between : Rec := ⟨"is_between", Hd.top 11, f_is_between, ["value", "low", "high"]⟩
def r_are_between : Rec := ⟨"are_between", Hd.top 12, f_are_between, ["value", "low", "high", "one"]⟩
def r_is_tuple_of : Rec := ⟨"is_tuple_of", Hd.top 13, f_is_tuple_of, ["value", "many"]⟩
def r_is_ascending : Rec := ⟨"is_ascending", Hd.top 14, f_is_ascending, ["value", "one", "other"]⟩
def r_are_signs : Rec := ⟨"are_signs", Hd.top 15, f_are_signs, ["value", "sign"]⟩
def r_is_signs : Rec := ⟨"is_signs", Hd.top 16, f_is_signs, ["value", "low", "high"]⟩
def r_is_entry_of : Rec := ⟨"is_entry_of", Hd.top 20, f_is_entry_of, ["value"]⟩
def r_is_dictionary_of : Rec := ⟨"is_dictionary_of", Hd.top 21, f_is_dictionary_of, ["value", "entry"]⟩
def r_check_dictionary : Rec := ⟨"check_dictionary", Hd.top 22, f_check_dictionary, ["value"]⟩
def r_check_entry : Rec := ⟨"check_entry", Hd.top 23, f_check_entry, ["value"]⟩
def r_check_many : Rec := ⟨"check_many", Hd.top 24, f_check_many, ["entries"]⟩
def r_with_entry : Rec := ⟨"with_entry", Hd.top 25, f_with_entry, ["dictionary", "entry"]⟩
def r_without_entry : Rec := ⟨"without_entry", Hd.top 26, f_without_entry, ["dictionary", "entry", "one"]⟩
def r_is_reading_of : Rec := ⟨"is_reading_of", Hd.top 28, f_is_reading_of, ["dictionary", "value"]⟩
def r_row_by : Rec := ⟨"row_by", Hd.top 29, f_row_by, ["dictionary", "reading", "place"]⟩
def r_text_by : Rec := ⟨"text_by", Hd.top 30, f_text_by, ["dictionary", "reading", "place"]⟩
def r_reading_for : Rec := ⟨"reading_for", Hd.top 34, f_reading_for, ["dictionary", "outline", "text", "found", "waiting", "at", "to", "place", "there", "its", "letters"]⟩
def r_within_by : Rec := ⟨"within_by", Hd.top 35, f_within_by, ["one", "other", "found", "outline", "text"]⟩
def r_check_both : Rec := ⟨"check_both", Hd.top 36, f_check_both, ["one", "other"]⟩
def r_within_told : Rec := ⟨"within_told", Hd.top 37, f_within_told, ["one", "other"]⟩
def r_shows_within : Rec := ⟨"shows_within", Hd.top 38, f_shows_within, ["one", "other", "value", "reading"]⟩
def r_is_same : Rec := ⟨"is_same", Hd.top 39, f_is_same, ["one", "other"]⟩
def r__law_pot : Rec := ⟨"_law_pot", Hd.top 41, f__law_pot, ["script", "place", "cell", "own", "small"]⟩
def r__law_take : Rec := ⟨"_law_take", Hd.top 42, f__law_take, ["pot", "upto", "prime", "blend", "digit"]⟩
def r__law_of : Rec := ⟨"_law_of", Hd.top 43, f__law_of, ["pot", "some"]⟩
def r__law_cells : Rec := ⟨"_law_cells", Hd.top 44, f__law_cells, ["script", "limit"]⟩
def r__law_unlike : Rec := ⟨"_law_unlike", Hd.top 45, f__law_unlike, ["some", "one"]⟩
def r__law_signs : Rec := ⟨"_law_signs", Hd.top 46, f__law_signs, ["pot", "many", "lap", "left", "found"]⟩
def r__law_some : Rec := ⟨"_law_some", Hd.top 47, f__law_some, ["pot", "some", "many", "lap", "left", "found"]⟩
def r__law_row : Rec := ⟨"_law_row", Hd.top 48, f__law_row, ["pot", "signs", "most", "lap"]⟩
def r__law_leaves : Rec := ⟨"_law_leaves", Hd.top 49, f__law_leaves, ["pot", "signs", "laps", "long", "many", "leaves", "lap", "at", "sign"]⟩
def r__law_outlines : Rec := ⟨"_law_outlines", Hd.top 50, f__law_outlines, ["pot", "signs", "long", "many", "rows", "way", "here", "there", "lap", "row", "one", "other", "known", "size"]⟩
def r__law_dictionary : Rec := ⟨"_law_dictionary", Hd.top 51, f__law_dictionary, ["pot", "signs", "letters", "long", "many", "rows", "way", "entries", "at", "own", "put", "row", "place", "sign"]⟩
def r__law_is_int : Rec := ⟨"_law_is_int", Hd.top 52, f__law_is_int, ["value"]⟩
def r__law_more : Rec := ⟨"_law_more", Hd.top 53, f__law_more, ["pot", "dictionary", "laps", "found", "lap", "parts", "entry", "part", "row", "text"]⟩
def r__law_is_made : Rec := ⟨"_law_is_made", Hd.top 54, f__law_is_made, ["entry", "others", "known", "at", "to", "row", "text", "here", "its"]⟩
def r__law_due : Rec := ⟨"_law_due", Hd.top 55, f__law_due, ["dictionary", "entry", "one"]⟩
def r__law_left : Rec := ⟨"_law_left", Hd.top 56, f__law_left, ["pot", "dictionary", "left", "entry", "less"]⟩
def r__law_is_within : Rec := ⟨"_law_is_within", Hd.top 57, f__law_is_within, ["one", "other", "value", "entry", "reading", "place"]⟩
def r__law_otherwise : Rec := ⟨"_law_otherwise", Hd.top 58, f__law_otherwise, ["pot", "dictionary", "way", "at", "other", "row", "text"]⟩
def r__law_right : Rec := ⟨"_law_right", Hd.top 59, f__law_right, ["pot", "first", "whole", "due", "told", "bent", "entry", "other", "at", "to", "less", "lap"]⟩
def r_law : Rec := ⟨"law", Hd.top 60, f_law, ["script", "place", "pot", "lap"]⟩
def tab : List Rec := [r_is_integer, r_is_between, r_are_between, r_is_tuple_of, r_is_ascending, r_are_signs, r_is_signs, r_is_entry_of, r_is_dictionary_of, r_check_dictionary, r_check_entry, r_check_many, r_with_entry, r_without_entry, r_is_reading_of, r_row_by, r_text_by, r_reading_for, r_within_by, r_check_both, r_within_told, r_shows_within, r_is_same, r__law_pot, r__law_take, r__law_of, r__law_cells, r__law_unlike, r__law_signs, r__law_some, r__law_row, r__law_leaves, r__law_outlines, r__law_dictionary, r__law_is_int, r__law_more, r__law_is_made, r__law_due, r__law_left, r__law_is_within, r__law_otherwise, r__law_right, r_law]
def cs : List (Str × Da) := [("SIGNS", .str "abcdefghijklmnopqrstuvwxyz"), ("MOST_ROW", .int 2000), ("MOST_ENTRIES", .int 16), ("MOST_OUTLINE", .int 8), ("WITHIN", .str "within"), ("ENTRY", .str "entry")]
def names : List Str := (["is_integer", "is_between", "are_between", "is_tuple_of", "is_ascending", "are_signs", "is_signs", "is_entry_of", "is_dictionary_of", "check_dictionary", "check_entry", "check_many", "with_entry", "without_entry", "is_reading_of", "row_by", "text_by", "reading_for", "within_by", "check_both", "within_told", "shows_within", "is_same", "_law_pot", "_law_take", "_law_of", "_law_cells", "_law_unlike", "_law_signs", "_law_some"] : List Str) ++ (["_law_row", "_law_leaves", "_law_outlines", "_law_dictionary", "_law_is_int", "_law_more", "_law_is_made", "_law_due", "_law_left", "_law_is_within", "_law_otherwise", "_law_right", "law"] : List Str)
theorem tab_names : tab.map (·.name) = names := rfl
theorem tab_fns : tab.map (·.fn) = F := rfl
theorem c_is_integer : chkR names cs r_is_integer = true := by kernel_rfl
theorem c_is_between : chkR names cs r_is_between = true := by kernel_rfl
theorem c_are_between : chkR names cs r_are_between = true := by kernel_rfl
theorem c_is_tuple_of : chkR names cs r_is_tuple_of = true := by kernel_rfl
theorem c_is_ascending : chkR names cs r_is_ascending = true := by kernel_rfl
theorem c_are_signs : chkR names cs r_are_signs = true := by kernel_rfl
theorem c_is_signs : chkR names cs r_is_signs = true := by kernel_rfl
theorem c_is_entry_of : chkR names cs r_is_entry_of = true := by kernel_rfl
theorem c_is_dictionary_of : chkR names cs r_is_dictionary_of = true := by kernel_rfl
theorem c_check_dictionary : chkR names cs r_check_dictionary = true := by kernel_rfl
theorem c_check_entry : chkR names cs r_check_entry = true := by kernel_rfl
theorem c_check_many : chkR names cs r_check_many = true := by kernel_rfl
theorem c_with_entry : chkR names cs r_with_entry = true := by kernel_rfl
theorem c_without_entry : chkR names cs r_without_entry = true := by kernel_rfl
theorem c_is_reading_of : chkR names cs r_is_reading_of = true := by kernel_rfl
theorem c_row_by : chkR names cs r_row_by = true := by kernel_rfl
theorem c_text_by : chkR names cs r_text_by = true := by kernel_rfl
theorem c_reading_for : chkR names cs r_reading_for = true := by kernel_rfl
theorem c_within_by : chkR names cs r_within_by = true := by kernel_rfl
theorem c_check_both : chkR names cs r_check_both = true := by kernel_rfl
theorem c_within_told : chkR names cs r_within_told = true := by kernel_rfl
theorem c_shows_within : chkR names cs r_shows_within = true := by kernel_rfl
theorem c_is_same : chkR names cs r_is_same = true := by kernel_rfl
theorem c__law_pot : chkR names cs r__law_pot = true := by kernel_rfl
theorem c__law_take : chkR names cs r__law_take = true := by kernel_rfl
theorem c__law_of : chkR names cs r__law_of = true := by kernel_rfl
theorem c__law_cells : chkR names cs r__law_cells = true := by kernel_rfl
theorem c__law_unlike : chkR names cs r__law_unlike = true := by kernel_rfl
theorem c__law_signs : chkR names cs r__law_signs = true := by kernel_rfl
theorem c__law_some : chkR names cs r__law_some = true := by kernel_rfl
theorem c__law_row : chkR names cs r__law_row = true := by kernel_rfl
theorem c__law_leaves : chkR names cs r__law_leaves = true := by kernel_rfl
theorem c__law_outlines : chkR names cs r__law_outlines = true := by kernel_rfl
theorem c__law_dictionary : chkR names cs r__law_dictionary = true := by kernel_rfl
theorem c__law_is_int : chkR names cs r__law_is_int = true := by kernel_rfl
theorem c__law_more : chkR names cs r__law_more = true := by kernel_rfl
theorem c__law_is_made : chkR names cs r__law_is_made = true := by kernel_rfl
theorem c__law_due : chkR names cs r__law_due = true := by kernel_rfl
theorem c__law_left : chkR names cs r__law_left = true := by kernel_rfl
theorem c__law_is_within : chkR names cs r__law_is_within = true := by kernel_rfl
theorem c__law_otherwise : chkR names cs r__law_otherwise = true := by kernel_rfl
theorem c__law_right : chkR names cs r__law_right = true := by kernel_rfl
theorem c_law : chkR names cs r_law = true := by kernel_rfl
theorem d_is_integer : BindR r_is_integer := fun _ _ _ _ _ _ us hl => match us, hl with | [_], _ => rfl
theorem d_is_between : BindR r_is_between := fun _ _ _ _ _ _ us hl => match us, hl with | [_, _, _], _ => rfl
theorem d_are_between : BindR r_are_between := fun _ _ _ _ _ _ us hl => match us, hl with | [_, _, _], _ => rfl
theorem d_is_tuple_of : BindR r_is_tuple_of := fun _ _ _ _ _ _ us hl => match us, hl with | [_, _], _ => rfl
theorem d_is_ascending : BindR r_is_ascending := fun _ _ _ _ _ _ us hl => match us, hl with | [_], _ => rfl
theorem d_are_signs : BindR r_are_signs := fun _ _ _ _ _ _ us hl => match us, hl with | [_], _ => rfl
theorem d_is_signs : BindR r_is_signs := fun _ _ _ _ _ _ us hl => match us, hl with | [_, _, _], _ => rfl
theorem d_is_entry_of : BindR r_is_entry_of := fun _ _ _ _ _ _ us hl => match us, hl with | [_], _ => rfl
theorem d_is_dictionary_of : BindR r_is_dictionary_of := fun _ _ _ _ _ _ us hl => match us, hl with | [_], _ => rfl
theorem d_check_dictionary : BindR r_check_dictionary := fun _ _ _ _ _ _ us hl => match us, hl with | [_], _ => rfl
theorem d_check_entry : BindR r_check_entry := fun _ _ _ _ _ _ us hl => match us, hl with | [_], _ => rfl
theorem d_check_many : BindR r_check_many := fun _ _ _ _ _ _ us hl => match us, hl with | [_], _ => rfl
theorem d_with_entry : BindR r_with_entry := fun _ _ _ _ _ _ us hl => match us, hl with | [_, _], _ => rfl
theorem d_without_entry : BindR r_without_entry := fun _ _ _ _ _ _ us hl => match us, hl with | [_, _], _ => rfl
theorem d_is_reading_of : BindR r_is_reading_of := fun _ _ _ _ _ _ us hl => match us, hl with | [_, _], _ => rfl
theorem d_row_by : BindR r_row_by := fun _ _ _ _ _ _ us hl => match us, hl with | [_, _], _ => rfl
theorem d_text_by : BindR r_text_by := fun _ _ _ _ _ _ us hl => match us, hl with | [_, _], _ => rfl
theorem d_reading_for : BindR r_reading_for := fun _ _ _ _ _ _ us hl => match us, hl with | [_, _, _], _ => rfl
theorem d_within_by : BindR r_within_by := fun _ _ _ _ _ _ us hl => match us, hl with | [_, _], _ => rfl
theorem d_check_both : BindR r_check_both := fun _ _ _ _ _ _ us hl => match us, hl with | [_, _], _ => rfl
theorem d_within_told : BindR r_within_told := fun _ _ _ _ _ _ us hl => match us, hl with | [_, _], _ => rfl
theorem d_shows_within : BindR r_shows_within := fun _ _ _ _ _ _ us hl => match us, hl with | [_, _, _], _ => rfl
theorem d_is_same : BindR r_is_same := fun _ _ _ _ _ _ us hl => match us, hl with | [_, _], _ => rfl
theorem d__law_pot : BindR r__law_pot := fun _ _ _ _ _ _ us hl => match us, hl with | [_, _], _ => rfl
theorem d__law_take : BindR r__law_take := fun _ _ _ _ _ _ us hl => match us, hl with | [_, _], _ => rfl
theorem d__law_of : BindR r__law_of := fun _ _ _ _ _ _ us hl => match us, hl with | [_, _], _ => rfl
theorem d__law_cells : BindR r__law_cells := fun _ _ _ _ _ _ us hl => match us, hl with | [_, _], _ => rfl
theorem d__law_unlike : BindR r__law_unlike := fun _ _ _ _ _ _ us hl => match us, hl with | [_], _ => rfl
theorem d__law_signs : BindR r__law_signs := fun _ _ _ _ _ _ us hl => match us, hl with | [_, _], _ => rfl
theorem d__law_some : BindR r__law_some := fun _ _ _ _ _ _ us hl => match us, hl with | [_, _, _], _ => rfl
theorem d__law_row : BindR r__law_row := fun _ _ _ _ _ _ us hl => match us, hl with | [_, _, _], _ => rfl
theorem d__law_leaves : BindR r__law_leaves := fun _ _ _ _ _ _ us hl => match us, hl with | [_, _, _, _, _], _ => rfl
theorem d__law_outlines : BindR r__law_outlines := fun _ _ _ _ _ _ us hl => match us, hl with | [_, _, _, _], _ => rfl
theorem d__law_dictionary : BindR r__law_dictionary := fun _ _ _ _ _ _ us hl => match us, hl with | [_, _, _, _, _], _ => rfl
theorem d__law_is_int : BindR r__law_is_int := fun _ _ _ _ _ _ us hl => match us, hl with | [_], _ => rfl
theorem d__law_more : BindR r__law_more := fun _ _ _ _ _ _ us hl => match us, hl with | [_, _, _], _ => rfl
theorem d__law_is_made : BindR r__law_is_made := fun _ _ _ _ _ _ us hl => match us, hl with | [_, _], _ => rfl
theorem d__law_due : BindR r__law_due := fun _ _ _ _ _ _ us hl => match us, hl with | [_], _ => rfl
theorem d__law_left : BindR r__law_left := fun _ _ _ _ _ _ us hl => match us, hl with | [_, _], _ => rfl
theorem d__law_is_within : BindR r__law_is_within := fun _ _ _ _ _ _ us hl => match us, hl with | [_, _, _], _ => rfl
theorem d__law_otherwise : BindR r__law_otherwise := fun _ _ _ _ _ _ us hl => match us, hl with | [_, _], _ => rfl
theorem d__law_right : BindR r__law_right := fun _ _ _ _ _ _ us hl => match us, hl with | [_], _ => rfl
theorem d_law : BindR r_law := fun _ _ _ _ _ _ us hl => match us, hl with | [_], _ => rfl
end PT
namespace PT
open PySem PySem.Spec PyProof.Rows L2 PL
theorem tab_c : ∀ r ∈ tab, chkR (tab.map (·.name)) cs r = true := by
  rw [tab_names]
  intro r hr
  simp only [tab, List.mem_cons, List.not_mem_nil, or_false] at hr
  rcases hr with rfl | rfl | rfl | rfl | rfl | rfl | rfl | rfl | rfl | rfl | rfl | rfl | rfl | rfl | rfl | rfl | rfl | rfl | rfl | rfl | rfl | rfl | rfl | rfl | rfl | rfl | rfl | rfl | rfl | rfl | rfl | rfl | rfl | rfl | rfl | rfl | rfl | rfl | rfl | rfl | rfl | rfl | rfl
  · exact c_is_integer
  · exact c_is_between
  · exact c_are_between
  · exact c_is_tuple_of
  · exact c_is_ascending
  · exact c_are_signs
  · exact c_is_signs
  · exact c_is_entry_of
  · exact c_is_dictionary_of
  · exact c_check_dictionary
  · exact c_check_entry
  · exact c_check_many
  · exact c_with_entry
  · exact c_without_entry
  · exact c_is_reading_of
  · exact c_row_by
  · exact c_text_by
  · exact c_reading_for
  · exact c_within_by
  · exact c_check_both
  · exact c_within_told
  · exact c_shows_within
  · exact c_is_same
  · exact c__law_pot
  · exact c__law_take
  · exact c__law_of
  · exact c__law_cells
  · exact c__law_unlike
  · exact c__law_signs
  · exact c__law_some
  · exact c__law_row
  · exact c__law_leaves
  · exact c__law_outlines
  · exact c__law_dictionary
  · exact c__law_is_int
  · exact c__law_more
  · exact c__law_is_made
  · exact c__law_due
  · exact c__law_left
  · exact c__law_is_within
  · exact c__law_otherwise
  · exact c__law_right
  · exact c_law
theorem tab_b : ∀ r ∈ tab, BindR r := by
  intro r hr
  simp only [tab, List.mem_cons, List.not_mem_nil, or_false] at hr
  rcases hr with rfl | rfl | rfl | rfl | rfl | rfl | rfl | rfl | rfl | rfl | rfl | rfl | rfl | rfl | rfl | rfl | rfl | rfl | rfl | rfl | rfl | rfl | rfl | rfl | rfl | rfl | rfl | rfl | rfl | rfl | rfl | rfl | rfl | rfl | rfl | rfl | rfl | rfl | rfl | rfl | rfl | rfl | rfl
  · exact d_is_integer
  · exact d_is_between
  · exact d_are_between
  · exact d_is_tuple_of
  · exact d_is_ascending
  · exact d_are_signs
  · exact d_is_signs
  · exact d_is_entry_of
  · exact d_is_dictionary_of
  · exact d_check_dictionary
  · exact d_check_entry
  · exact d_check_many
  · exact d_with_entry
  · exact d_without_entry
  · exact d_is_reading_of
  · exact d_row_by
  · exact d_text_by
  · exact d_reading_for
  · exact d_within_by
  · exact d_check_both
  · exact d_within_told
  · exact d_shows_within
  · exact d_is_same
  · exact d__law_pot
  · exact d__law_take
  · exact d__law_of
  · exact d__law_cells
  · exact d__law_unlike
  · exact d__law_signs
  · exact d__law_some
  · exact d__law_row
  · exact d__law_leaves
  · exact d__law_outlines
  · exact d__law_dictionary
  · exact d__law_is_int
  · exact d__law_more
  · exact d__law_is_made
  · exact d__law_due
  · exact d__law_left
  · exact d__law_is_within
  · exact d__law_otherwise
  · exact d__law_right
  · exact d_law
section
variable {P : Program} {w : World} {K : PySem.W.Frag} {h : Heap} {mg : Str → Option Value}
theorem tab_f (X : K.In h) (G : h.Ns mainGlobals mg) (c : He.SaysD Hd.fa Hd.fn K) : ∀ r ∈ tab, ∃ a fd, FunD K r.name r.name (defArgs r.st) (defBody r.st) (defScope r.st) [] [] a fd ∧ mg r.name = some (.ref a) := by
  intro r hr
  simp only [tab, List.mem_cons, List.not_mem_nil, or_false] at hr
  rcases hr with rfl | rfl | rfl | rfl | rfl | rfl | rfl | rfl | rfl | rfl | rfl | rfl | rfl | rfl | rfl | rfl | rfl | rfl | rfl | rfl | rfl | rfl | rfl | rfl | rfl | rfl | rfl | rfl | rfl | rfl | rfl | rfl | rfl | rfl | rfl | rfl | rfl | rfl | rfl | rfl | rfl | rfl | rfl
  · obtain ⟨fd, F⟩ := c.def_ 0 (d := Hd.mkD "is_integer" 10) rfl
    exact ⟨_, fd, F, He.glo_ok X G (c.fact 0 (f := .glo "is_integer") rfl)⟩
  · obtain ⟨fd, F⟩ := c.def_ 1 (d := Hd.mkD "is_between" 11) rfl
    exact ⟨_, fd, F, He.glo_ok X G (c.fact 1 (f := .glo "is_between") rfl)⟩
  · obtain ⟨fd, F⟩ := c.def_ 2 (d := Hd.mkD "are_between" 12) rfl
    exact ⟨_, fd, F, He.glo_ok X G (c.fact 2 (f := .glo "are_between") rfl)⟩
  · obtain ⟨fd, F⟩ := c.def_ 3 (d := Hd.mkD "is_tuple_of" 13) rfl
    exact ⟨_, fd, F, He.glo_ok X G (c.fact 3 (f := .glo "is_tuple_of") rfl)⟩
  · obtain ⟨fd, F⟩ := c.def_ 4 (d := Hd.mkD "is_ascending" 14) rfl
    exact ⟨_, fd, F, He.glo_ok X G (c.fact 4 (f := .glo "is_ascending") rfl)⟩
  · obtain ⟨fd, F⟩ := c.def_ 5 (d := Hd.mkD "are_signs" 15) rfl
    exact ⟨_, fd, F, He.glo_ok X G (c.fact 5 (f := .glo "are_signs") rfl)⟩
  · obtain ⟨fd, F⟩ := c.def_ 6 (d := Hd.mkD "is_signs" 16) rfl
    exact ⟨_, fd, F, He.glo_ok X G (c.fact 6 (f := .glo "is_signs") rfl)⟩
  · obtain ⟨fd, F⟩ := c.def_ 7 (d := Hd.mkD "is_entry_of" 20) rfl
    exact ⟨_, fd, F, He.glo_ok X G (c.fact 7 (f := .glo "is_entry_of") rfl)⟩
  · obtain ⟨fd, F⟩ := c.def_ 8 (d := Hd.mkD "is_dictionary_of" 21) rfl
    exact ⟨_, fd, F, He.glo_ok X G (c.fact 8 (f := .glo "is_dictionary_of") rfl)⟩
  · obtain ⟨fd, F⟩ := c.def_ 9 (d := Hd.mkD "check_dictionary" 22) rfl
    exact ⟨_, fd, F, He.glo_ok X G (c.fact 9 (f := .glo "check_dictionary") rfl)⟩
  · obtain ⟨fd, F⟩ := c.def_ 10 (d := Hd.mkD "check_entry" 23) rfl
    exact ⟨_, fd, F, He.glo_ok X G (c.fact 10 (f := .glo "check_entry") rfl)⟩
  · obtain ⟨fd, F⟩ := c.def_ 11 (d := Hd.mkD "check_many" 24) rfl
    exact ⟨_, fd, F, He.glo_ok X G (c.fact 11 (f := .glo "check_many") rfl)⟩
  · obtain ⟨fd, F⟩ := c.def_ 12 (d := Hd.mkD "with_entry" 25) rfl
    exact ⟨_, fd, F, He.glo_ok X G (c.fact 12 (f := .glo "with_entry") rfl)⟩
  · obtain ⟨fd, F⟩ := c.def_ 13 (d := Hd.mkD "without_entry" 26) rfl
    exact ⟨_, fd, F, He.glo_ok X G (c.fact 13 (f := .glo "without_entry") rfl)⟩
  · obtain ⟨fd, F⟩ := c.def_ 14 (d := Hd.mkD "is_reading_of" 28) rfl
    exact ⟨_, fd, F, He.glo_ok X G (c.fact 14 (f := .glo "is_reading_of") rfl)⟩
  · obtain ⟨fd, F⟩ := c.def_ 15 (d := Hd.mkD "row_by" 29) rfl
    exact ⟨_, fd, F, He.glo_ok X G (c.fact 15 (f := .glo "row_by") rfl)⟩
  · obtain ⟨fd, F⟩ := c.def_ 16 (d := Hd.mkD "text_by" 30) rfl
    exact ⟨_, fd, F, He.glo_ok X G (c.fact 16 (f := .glo "text_by") rfl)⟩
  · obtain ⟨fd, F⟩ := c.def_ 17 (d := Hd.mkD "reading_for" 34) rfl
    exact ⟨_, fd, F, He.glo_ok X G (c.fact 17 (f := .glo "reading_for") rfl)⟩
  · obtain ⟨fd, F⟩ := c.def_ 18 (d := Hd.mkD "within_by" 35) rfl
    exact ⟨_, fd, F, He.glo_ok X G (c.fact 18 (f := .glo "within_by") rfl)⟩
  · obtain ⟨fd, F⟩ := c.def_ 19 (d := Hd.mkD "check_both" 36) rfl
    exact ⟨_, fd, F, He.glo_ok X G (c.fact 19 (f := .glo "check_both") rfl)⟩
  · obtain ⟨fd, F⟩ := c.def_ 20 (d := Hd.mkD "within_told" 37) rfl
    exact ⟨_, fd, F, He.glo_ok X G (c.fact 20 (f := .glo "within_told") rfl)⟩
  · obtain ⟨fd, F⟩ := c.def_ 21 (d := Hd.mkD "shows_within" 38) rfl
    exact ⟨_, fd, F, He.glo_ok X G (c.fact 21 (f := .glo "shows_within") rfl)⟩
  · obtain ⟨fd, F⟩ := c.def_ 22 (d := Hd.mkD "is_same" 39) rfl
    exact ⟨_, fd, F, He.glo_ok X G (c.fact 22 (f := .glo "is_same") rfl)⟩
  · obtain ⟨fd, F⟩ := c.def_ 23 (d := Hd.mkD "_law_pot" 41) rfl
    exact ⟨_, fd, F, He.glo_ok X G (c.fact 23 (f := .glo "_law_pot") rfl)⟩
  · obtain ⟨fd, F⟩ := c.def_ 24 (d := Hd.mkD "_law_take" 42) rfl
    exact ⟨_, fd, F, He.glo_ok X G (c.fact 24 (f := .glo "_law_take") rfl)⟩
  · obtain ⟨fd, F⟩ := c.def_ 25 (d := Hd.mkD "_law_of" 43) rfl
    exact ⟨_, fd, F, He.glo_ok X G (c.fact 25 (f := .glo "_law_of") rfl)⟩
  · obtain ⟨fd, F⟩ := c.def_ 26 (d := Hd.mkD "_law_cells" 44) rfl
    exact ⟨_, fd, F, He.glo_ok X G (c.fact 26 (f := .glo "_law_cells") rfl)⟩
  · obtain ⟨fd, F⟩ := c.def_ 27 (d := Hd.mkD "_law_unlike" 45) rfl
    exact ⟨_, fd, F, He.glo_ok X G (c.fact 27 (f := .glo "_law_unlike") rfl)⟩
  · obtain ⟨fd, F⟩ := c.def_ 28 (d := Hd.mkD "_law_signs" 46) rfl
    exact ⟨_, fd, F, He.glo_ok X G (c.fact 28 (f := .glo "_law_signs") rfl)⟩
  · obtain ⟨fd, F⟩ := c.def_ 29 (d := Hd.mkD "_law_some" 47) rfl
    exact ⟨_, fd, F, He.glo_ok X G (c.fact 29 (f := .glo "_law_some") rfl)⟩
  · obtain ⟨fd, F⟩ := c.def_ 30 (d := Hd.mkD "_law_row" 48) rfl
    exact ⟨_, fd, F, He.glo_ok X G (c.fact 30 (f := .glo "_law_row") rfl)⟩
  · obtain ⟨fd, F⟩ := c.def_ 31 (d := Hd.mkD "_law_leaves" 49) rfl
    exact ⟨_, fd, F, He.glo_ok X G (c.fact 31 (f := .glo "_law_leaves") rfl)⟩
  · obtain ⟨fd, F⟩ := c.def_ 32 (d := Hd.mkD "_law_outlines" 50) rfl
    exact ⟨_, fd, F, He.glo_ok X G (c.fact 32 (f := .glo "_law_outlines") rfl)⟩
  · obtain ⟨fd, F⟩ := c.def_ 33 (d := Hd.mkD "_law_dictionary" 51) rfl
    exact ⟨_, fd, F, He.glo_ok X G (c.fact 33 (f := .glo "_law_dictionary") rfl)⟩
  · obtain ⟨fd, F⟩ := c.def_ 34 (d := Hd.mkD "_law_is_int" 52) rfl
    exact ⟨_, fd, F, He.glo_ok X G (c.fact 34 (f := .glo "_law_is_int") rfl)⟩
  · obtain ⟨fd, F⟩ := c.def_ 35 (d := Hd.mkD "_law_more" 53) rfl
    exact ⟨_, fd, F, He.glo_ok X G (c.fact 35 (f := .glo "_law_more") rfl)⟩
  · obtain ⟨fd, F⟩ := c.def_ 36 (d := Hd.mkD "_law_is_made" 54) rfl
    exact ⟨_, fd, F, He.glo_ok X G (c.fact 36 (f := .glo "_law_is_made") rfl)⟩
  · obtain ⟨fd, F⟩ := c.def_ 37 (d := Hd.mkD "_law_due" 55) rfl
    exact ⟨_, fd, F, He.glo_ok X G (c.fact 37 (f := .glo "_law_due") rfl)⟩
  · obtain ⟨fd, F⟩ := c.def_ 38 (d := Hd.mkD "_law_left" 56) rfl
    exact ⟨_, fd, F, He.glo_ok X G (c.fact 38 (f := .glo "_law_left") rfl)⟩
  · obtain ⟨fd, F⟩ := c.def_ 39 (d := Hd.mkD "_law_is_within" 57) rfl
    exact ⟨_, fd, F, He.glo_ok X G (c.fact 39 (f := .glo "_law_is_within") rfl)⟩
  · obtain ⟨fd, F⟩ := c.def_ 40 (d := Hd.mkD "_law_otherwise" 58) rfl
    exact ⟨_, fd, F, He.glo_ok X G (c.fact 40 (f := .glo "_law_otherwise") rfl)⟩
  · obtain ⟨fd, F⟩ := c.def_ 41 (d := Hd.mkD "_law_right" 59) rfl
    exact ⟨_, fd, F, He.glo_ok X G (c.fact 41 (f := .glo "_law_right") rfl)⟩
  · obtain ⟨fd, F⟩ := c.def_ 42 (d := Hd.mkD "law" 60) rfl
    exact ⟨_, fd, F, He.glo_ok X G (c.fact 42 (f := .glo "law") rfl)⟩
theorem tab_l (X : K.In h) (G : h.Ns mainGlobals mg) (c : He.SaysD Hd.fa Hd.fn K) : ∀ x ∈ bltNames, mg x = none := by
  intro x hx
  simp only [bltNames, List.mem_cons, List.not_mem_nil, or_false] at hx
  rcases hx with rfl | rfl | rfl | rfl | rfl | rfl | rfl | rfl | rfl | rfl | rfl | rfl | rfl | rfl | rfl | rfl | rfl | rfl | rfl
  · exact He.free_ok X G (c.fact 51 (f := .free "len") rfl)
  · exact He.free_ok X G (c.fact 44 (f := .free "all") rfl)
  · exact He.free_ok X G (c.fact 45 (f := .free "any") rfl)
  · exact He.free_ok X G (c.fact 59 (f := .free "sum") rfl)
  · exact He.free_ok X G (c.fact 53 (f := .free "max") rfl)
  · exact He.free_ok X G (c.fact 54 (f := .free "min") rfl)
  · exact He.free_ok X G (c.fact 57 (f := .free "sorted") rfl)
  · exact He.free_ok X G (c.fact 60 (f := .free "tuple") rfl)
  · exact He.free_ok X G (c.fact 52 (f := .free "list") rfl)
  · exact He.free_ok X G (c.fact 47 (f := .free "dict") rfl)
  · exact He.free_ok X G (c.fact 49 (f := .free "int") rfl)
  · exact He.free_ok X G (c.fact 43 (f := .free "abs") rfl)
  · exact He.free_ok X G (c.fact 56 (f := .free "repr") rfl)
  · exact He.free_ok X G (c.fact 50 (f := .free "isinstance") rfl)
  · exact He.free_ok X G (c.fact 46 (f := .free "bool") rfl)
  · exact He.free_ok X G (c.fact 58 (f := .free "str") rfl)
  · exact He.free_ok X G (c.fact 55 (f := .free "range") rfl)
  · exact He.free_ok X G (c.fact 61 (f := .free "zip") rfl)
  · exact He.free_ok X G (c.fact 48 (f := .free "enumerate") rfl)
theorem tab_s (X : K.In h) (G : h.Ns mainGlobals mg) (c : He.SaysD Hd.fa Hd.fn K) : ∀ (x : Str) (d : Da), cs.lookup x = some d → ∃ u v, mg x = some u ∧ RelV v u ∧ ∀ G, Dq K G v d := by
  intro x d hx
  have hm := PySem.mem_of_lookup hx
  simp only [cs, List.mem_cons, List.not_mem_nil, or_false, Prod.mk.injEq] at hm
  rcases hm with ⟨rfl, rfl⟩ | ⟨rfl, rfl⟩ | ⟨rfl, rfl⟩ | ⟨rfl, rfl⟩ | ⟨rfl, rfl⟩ | ⟨rfl, rfl⟩
  · obtain ⟨t, m⟩ := He.str_ok X G (c.fact 62 (f := .str "SIGNS" "abcdefghijklmnopqrstuvwxyz") rfl)
    exact ⟨_, .str "abcdefghijklmnopqrstuvwxyz", m, ⟨t, rfl⟩, fun G => .str _⟩
  · obtain ⟨t, m⟩ := He.int_ok X G (c.fact 63 (f := .int "MOST_ROW" 2000) rfl)
    exact ⟨_, .int 2000, m, ⟨t, rfl⟩, fun G => .int _⟩
  · obtain ⟨t, m⟩ := He.int_ok X G (c.fact 64 (f := .int "MOST_ENTRIES" 16) rfl)
    exact ⟨_, .int 16, m, ⟨t, rfl⟩, fun G => .int _⟩
  · obtain ⟨t, m⟩ := He.int_ok X G (c.fact 65 (f := .int "MOST_OUTLINE" 8) rfl)
    exact ⟨_, .int 8, m, ⟨t, rfl⟩, fun G => .int _⟩
  · obtain ⟨t, m⟩ := He.str_ok X G (c.fact 66 (f := .str "WITHIN" "within") rfl)
    exact ⟨_, .str "within", m, ⟨t, rfl⟩, fun G => .str _⟩
  · obtain ⟨t, m⟩ := He.str_ok X G (c.fact 67 (f := .str "ENTRY" "entry") rfl)
    exact ⟨_, .str "entry", m, ⟨t, rfl⟩, fun G => .str _⟩
theorem law_fn (X : K.In h) (G : h.Ns mainGlobals mg) {fa : Addr} (hfa : mg "law" = some (.ref fa)) (c : He.SaysD Hd.fa Hd.fn K) :
    ∃ fd : FuncData, (∀ (s : Shared) (v : Value), BindsTo s fd ⟨[v], []⟩ [("script", v)]) ∧ ∀ base : Heap, K.In base → base.Ns mainGlobals mg → FnG P w K mg base CX0 30 fa fd ["script"] (spF K (run F 100000 30) 42) := by
  obtain ⟨fd, Fd⟩ := c.def_ 42 (d := Hd.mkD "law" 60) rfl
  have e := hfa.symm.trans (He.glo_ok X G (c.fact 42 (f := .glo "law") rfl))
  cases e
  have b := FunD.bindsA (ps := ["script"]) Fd d_law
  refine ⟨fd, fun s v => b s [v] rfl, fun base _ _ => ?_⟩
  have z := all_ok (P := P) (w := w) (base := base) (N := 100000) tab_c tab_b (tab_f X G c) (tab_l X G c) (tab_s X G c) 30 42 r_law rfl _ fd Fd
  rw [tab_fns] at z
  exact z
theorem intD : ∀ ns : List Int, DqA K (Fz [] (fun _ => none)) (ns.map V.int) (ns.map PyData.int) → True := fun _ _ => trivial
theorem law_sp {H : Hp} {a : Addr} {ns : List Int} (hS : SqL K H a (ns.map V.int)) {outs : List (Option SV)} (hr : run F 100000 30 42 [.val (.list (ns.map PyData.int))] = some (.val (.bool true), outs)) : spF K (run F 100000 30) 42 [.ref a] H (fun v _ => v = .bl true) fun _ _ _ => False := by
  have hd : Dq K (Fz [] H) (.ref a) (.list (ns.map PyData.int)) := by
    have e : Fz [] H = H := by
      funext b
      unfold Fz
      simp
    rw [e]
    exact .lst hS (DqA.ofInts ns)
  refine ⟨[], fun _ => 0, [.val (.list (ns.map PyData.int))], .val (.bool true), outs, ⟨rfl, fun i d h => ?_, fun i o h => ?_, fun i j o o' h => ?_, fun a h => absurd h (by simp)⟩, fun a h => absurd h (by simp), hr, rfl, fun v H' g ho q => ?_⟩
  · cases i with
    | zero =>
      cases (show some (some (SV.val _)) = some (some (SV.val d)) from h)
      exact ⟨_, rfl, hd⟩
    | succ i => simp at h
  · cases i with
    | zero => cases (show some (some (SV.val _)) = some (some (SV.own o)) from h)
    | succ i => simp at h
  · cases i with
    | zero => cases (show some (some (SV.val _)) = some (some (SV.own o)) from h)
    | succ i => simp at h
  · cases (show Dq _ _ v _ from q)
    rfl
end
end PT
open PySem PySem.W PySem.Calls PyProof.Rows
theorem PySem.Challenge.cw_onestrokeatatime_k00_whole_one_least_ker_holds : PySem.Challenge.rw_onestrokeatatime_k00_whole_one_least_ker.Holds := by
  w_on; o_law
  refine HandSHeadRun.head_any (r := OpenLaw.row PySem.Challenge.rw_onestrokeatatime_k00_whole_one_least_ker) (q := view (OpenLaw.row PySem.Challenge.rw_onestrokeatatime_k00_whole_one_least_ker).prog [60]) (H := Hd.hk) (ob := Hd.ob) (M := 4000) (loose := Hd.names) (d := HandSHeadRun.topDef (OpenLaw.row PySem.Challenge.rw_onestrokeatatime_k00_whole_one_least_ker).prog 60) (kwd := []) Hd.ob_eq
    (by kernel_rfl) (fun s => by kernel_rfl) Hd.run (by kernel_rfl) (by kernel_rfl) (by kernel_rfl) (by rfl) (by first | assumption | decide +kernel) (by decide +kernel) ⟨rfl, rfl, rfl, rfl, rfl, by decide +kernel⟩ ?hw ?hc
  case hw => w_witness2
  case hc =>
    refine PL.walk_ofG (l := PySem.Challenge.rw_onestrokeatatime_k00_whole_one_least_ker) (n := 63) (k := 30) (x := "script") (CX := L2.CX0) rfl (by decide) (by kernel_rfl) ⟨rfl, by decide, by decide⟩ ?F (fun _ _ _ _ z => z)
    intro w mg fa h Y G hmg0
    obtain ⟨K, KX, c⟩ := Y
    have hmg : mg ("law" : PySem.Str) = some (.ref fa) := by
      have e : (HandSHeadRun.topDef (OpenLaw.row PySem.Challenge.rw_onestrokeatatime_k00_whole_one_least_ker).prog 60).name = ("law" : PySem.Str) := by kernel_rfl
      rw [← e]
      exact hmg0
    obtain ⟨fd, hb, hF⟩ := PT.law_fn (P := (PySem.Challenge.rw_onestrokeatatime_k00_whole_one_least_ker).prog) (w := w) KX G hmg c
    refine ⟨K, fd, _, KX, hb, fun H a ns hl _ hS => ?_, hF⟩
    obtain ⟨outs, ho⟩ := PT.plain ns hl
    exact PT.law_sp hS ho
