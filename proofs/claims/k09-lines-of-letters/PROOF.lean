import PyProof.Rows.All
import Wide.All
import OpenK.AllK
import Wide.FinOn
import HandS.ForMost
import HandS.Flow
import HandS.Walk
import HandS.Zip
import HandS.NoneIn
import HandS.Wide
import HandS.Defaults
import HandS.TupAny
import HandS.TupMul
import HandS.RaiseMore
import HandS.HeadHook2
import HandS.WordsExc
import HandS.Exc
import HandS.HeadEnd
import KE.KStateDown
import HandS.Head0
import HandS.Head1
import HandS.Head2
import HandS.HeadHook1
import PySem.Challenge.RW_blockwright_k09_lines_of_letters
set_option Elab.async false
set_option linter.all false
set_option maxRecDepth 100000
set_option maxHeartbeats 0
/-! EV, part 1: a small language of trees, its values and its runs. Own work. -/
namespace EV
open PySem
abbrev D := PyData

/-- what a slot holds: nothing, data that never changes, a def, a list that its slot owns -/
inductive O where
  | hole
  | dat (d : D)
  | fn (i : Nat)
  | lst (ds : List D)

abbrev Env := List O
inductive R (α : Type) where
  | ok (a : α) (ρ : Env)
  | bad
inductive FR where
  | ok (o : O) (ps : List O)
  | bad
abbrev M (α : Type) := Env → R α
def pur {α : Type} (a : α) : M α := fun ρ => .ok a ρ
def bnd {α β : Type} (m : M α) (f : α → M β) : M β := fun ρ => match m ρ with
  | .ok a ρ1 => f a ρ1
  | .bad => .bad
def opt {α : Type} (o : Option α) : M α := fun ρ => match o with
  | some a => .ok a ρ
  | none => .bad

/-! ### operations on data -/
inductive Op where
  | add | sub | mul | fdiv | mod | pow | neg
  | eq | ne | lt | le | gt | ge
  | idx | slc (lo hi : Bool)
  | len | abs | int | tuple | list | sum | repr
  | tup | lst
def lim : Nat := 16777216
def small (i : Int) : Bool := decide (-(2 ^ 64) < i) && decide (i < 2 ^ 64)
def scalD : D → D → Bool
  | .int _, .int _ => true
  | .str _, .str _ => true
  | .bool _, .bool _ => true
  | .none, .none => true
  | _, _ => false
def eqD (a b : D) : Option Bool := match a, b with
  | .int i, .int j => some (i == j)
  | .str i, .str j => some (i == j)
  | .bool i, .bool j => some (i == j)
  | .none, .none => some true
  | a, b => if SeqAt.shaped a && SeqAt.shaped b then some (PyData.eqv a b) else none
def cutL {α : Type} (xs : List α) (lo hi : Option Int) : List α :=
  (xs.drop (HT.sIx xs.length 0 lo)).take (HT.sIx xs.length xs.length hi - HT.sIx xs.length 0 lo)
def intsOf : List D → Option (List Int)
  | [] => some []
  | .int i :: r => (intsOf r).map (i :: ·)
  | _ :: _ => none
def reps {α : Type} (n : Nat) (xs : List α) : List α := (List.replicate n xs).flatten
def shows (d : D) : Bool := d.leavesShort 13 && decide (d.bulk ≤ 2 ^ 20) && decide (d.depth ≤ 60) && d.showable && !d.hasDict
def addF : D → D → Option O
  | .int a, .int b => some (.dat (.int (a + b)))
  | .tuple a, .tuple b => if a.length + b.length ≤ lim then some (.dat (.tuple (a ++ b))) else none
  | .list a, .list b => if a.length + b.length ≤ lim then some (.lst (a ++ b)) else none
  | _, _ => none
def subF : D → D → Option O
  | .int a, .int b => some (.dat (.int (a - b)))
  | _, _ => none
def mulF : D → D → Option O
  | .int a, .int b => if (small a || small b) = true then some (.dat (.int (a * b))) else none
  | .tuple [a], .int n => if 1 ≤ n ∧ n ≤ 1000 then some (.dat (.tuple (List.replicate n.toNat a))) else none
  | _, _ => none
def fdivF : D → D → Option O
  | .int a, .int b => if b ≠ 0 ∧ b.natAbs < 1073741824 then some (.dat (.int (a.fdiv b))) else none
  | _, _ => none
def modF : D → D → Option O
  | .int a, .int b => if b ≠ 0 then some (.dat (.int (a.fmod b))) else none
  | _, _ => none
def powF : D → D → Option O
  | .int a, .int b => if 0 ≤ b ∧ b ≤ 1000000 ∧ a.natAbs < 2 ^ 64 then some (.dat (.int (a ^ b.toNat))) else none
  | _, _ => none
def cmpF (p : Int → Int → Bool) : D → D → Option O
  | .int a, .int b => some (.dat (.bool (p a b)))
  | _, _ => none
def idxF : D → D → Option O
  | .tuple xs, .int i => (L2.atI xs i).map .dat
  | .list xs, .int i => (L2.atI xs i).map .dat
  | _, _ => none
def bin2 : Op → D → D → Option O
  | .add, a, b => addF a b
  | .sub, a, b => subF a b
  | .mul, a, b => mulF a b
  | .fdiv, a, b => fdivF a b
  | .mod, a, b => modF a b
  | .pow, a, b => powF a b
  | .eq, a, b => (eqD a b).map fun k => .dat (.bool k)
  | .ne, a, b => (eqD a b).map fun k => .dat (.bool (!k))
  | .lt, a, b => cmpF (fun i j => decide (i < j)) a b
  | .le, a, b => cmpF (fun i j => decide (i ≤ j)) a b
  | .gt, a, b => cmpF (fun i j => decide (j < i)) a b
  | .ge, a, b => cmpF (fun i j => decide (j ≤ i)) a b
  | .idx, a, b => idxF a b
  | _, _, _ => none
def lenF : D → Option O
  | .list xs => some (.dat (.int xs.length))
  | .tuple xs => some (.dat (.int xs.length))
  | .str x => if x.length ≤ lim then some (.dat (.int x.length)) else none
  | _ => none
def negF : D → Option O
  | .int a => some (.dat (.int (-a)))
  | _ => none
def absF : D → Option O
  | .int a => some (.dat (.int (if a < 0 then -a else a)))
  | _ => none
def intF : D → Option O
  | .int a => some (.dat (.int a))
  | .bool k => some (.dat (.int (if k then 1 else 0)))
  | _ => none
def tupleF : D → Option O
  | .list xs => some (.dat (.tuple xs))
  | .tuple xs => some (.dat (.tuple xs))
  | _ => none
def listF : D → Option O
  | .list xs => some (.lst xs)
  | .tuple xs => some (.lst xs)
  | _ => none
def sumF : D → Option O
  | .list xs => (intsOf xs).map fun ns => .dat (.int ns.sum)
  | _ => none
def reprF (d : D) : Option O := if shows d = true then some (.dat (.str d.shown)) else none
def un1 : Op → D → Option O
  | .neg, a => negF a
  | .len, a => lenF a
  | .abs, a => absF a
  | .int, a => intF a
  | .tuple, a => tupleF a
  | .list, a => listF a
  | .sum, a => sumF a
  | .repr, a => reprF a
  | _, _ => none
def slcO : D → Option Int → Option Int → Option O
  | .list xs, lo, hi => some (.lst (cutL xs lo hi))
  | .tuple xs, lo, hi => some (.dat (.tuple (cutL xs lo hi)))
  | _, _, _ => none
def slcF : Bool → Bool → List D → Option O
  | false, false, [a] => slcO a none none
  | true, false, [a, .int i] => slcO a (some i) none
  | false, true, [a, .int j] => slcO a none (some j)
  | true, true, [a, .int i, .int j] => slcO a (some i) (some j)
  | _, _, _ => none
def opF (f : Op) : List D → Option O
  | [a] => un1 f a
  | [a, b] => bin2 f a b
  | _ => none
def appF : Op → List D → Option O
  | .tup, ds => if ds.length ≤ lim then some (.dat (.tuple ds)) else none
  | .lst, ds => if ds.length ≤ lim then some (.lst ds) else none
  | .slc lo hi, ds => slcF lo hi ds
  | f, ds => opF f ds

/-- op= on ints -/
def augF : Op → D → D → Option O
  | .add, .int a, .int b => some (.dat (.int (a + b)))
  | .sub, .int a, .int b => some (.dat (.int (a - b)))
  | .mul, .int a, .int b => if (small a || small b) = true then some (.dat (.int (a * b))) else none
  | _, _, _ => none
def toD : O → Option D
  | .dat d => some d
  | .lst ds => some (.list ds)
  | _ => none
/-- a value put where it stays: what it owned stands still from then on -/
def frz : O → Option O
  | .dat d => some (.dat d)
  | .lst ds => some (.dat (.list ds))
  | .fn i => some (.fn i)
  | .hole => none
def truth : D → Option Bool
  | .none => some false
  | .bool b => some b
  | .int i => some (i != 0)
  | .str s => if s.length ≤ lim then some ((s.length : Int) != 0) else none
  | .list xs => some (!xs.isEmpty)
  | .tuple xs => some (!xs.isEmpty)
  | .dict _ => none

/-! ### the language -/
inductive Tg where
  | nm (i : Nat)
  | tup (ts : List Nat)
mutual
inductive E where
  | con (d : D)
  | var (i : Nat)
  | fnv (f : Nat)
  | app (f : Op) (as : As)
  | and_ (a b : E)
  | or_ (a b : E)
  | not_ (a : E)
  | ite (c a b : E)
  | call (f : Nat) (as : As)
  | comp (e : E) (tg : Tg) (src : Src) (ci : Bool) (cond : E) (own : List Nat)
inductive As where
  | nil
  | ex (e : E) (r : As)
  | pl (i : Nat) (r : As)
inductive Src where
  | seq (e : E)
  | rng (e : E)
  | rng2 (a b : E)
  | zip (a b : E)
end
inductive Fl where
  | nx
  | rt (o : O)
  | bk
  | ct
mutual
inductive S where
  | asg (tg : Tg) (e : E)
  | par (i j : Nat) (a b : E)
  | setI (p : Nat) (i e : E)
  | augI (f : Op) (p : Nat) (i e : E)
  | aug (f : Op) (i : Nat) (e : E)
  | appd (p : Nat) (e : E)
  | exp (e : E)
  | ret (e : E)
  | retm (i : Nat)
  | retn
  | ite (c : E) (t e : Ss)
  | forS (tg : Tg) (src : Src) (b : Ss)
  | whl (c : E) (b : Ss)
  | brk
  | cnt
inductive Ss where
  | nil
  | cons (s : S) (r : Ss)
end
/-- a def: its parameters' number, its slots' number, its body -/
structure Fn where
  np : Nat
  ns : Nat
  body : Ss

/-! ### runs -/
structure CX where
  call : Nat → List O → FR
  np : List Bool
  fuel : Nat
inductive Arg where
  | val (o : O)
  | ref (i : Nat)
def rdVar (i : Nat) : M O := fun ρ => match ρ[i]? with
  | some (.dat d) => .ok (.dat d) ρ
  | some (.fn f) => .ok (.fn f) ρ
  | some (.lst ds) => .ok (.dat (.list ds)) (ρ.set i (.dat (.list ds)))
  | _ => .bad
def livE (ρ : Env) (i : Nat) : Bool := match ρ[i]? with
  | some .hole => false
  | some _ => true
  | none => false
/-- what stands at a slot, looked at -/
def peek (ρ : Env) (i : Nat) : Option D := (ρ[i]?).bind toD
def peeks (ρ : Env) : List Arg → Option (List D)
  | [] => some []
  | .val o :: r => (toD o).bind fun d => (peeks ρ r).map (d :: ·)
  | .ref i :: r => (peek ρ i).bind fun d => (peeks ρ r).map (d :: ·)
/-- the arguments of a call: what a slot owns is lent (its slot is empty meanwhile) -/
def take : List Arg → Env → Option (List O × Env)
  | [], ρ => some ([], ρ)
  | .val o :: r, ρ => (take r ρ).map fun p => (o :: p.1, p.2)
  | .ref i :: r, ρ => match ρ[i]? with
    | some (.lst ds) => (take r (ρ.set i .hole)).map fun p => (.lst ds :: p.1, p.2)
    | some (.dat d) => (take r ρ).map fun p => (.dat d :: p.1, p.2)
    | some (.fn f) => (take r ρ).map fun p => (.fn f :: p.1, p.2)
    | _ => none
/-- .. and given back -/
def give : List Arg → List O → Env → Env
  | .ref i :: r, o :: os, ρ => match ρ[i]? with
    | some .hole => give r os (ρ.set i o)
    | _ => give r os ρ
  | .val _ :: r, _ :: os, ρ => give r os ρ
  | _, _, ρ => ρ
def callM (c : CX) (f : Nat) (xs : List Arg) : M O := fun ρ => match take xs ρ with
  | some (os, ρ1) => (match c.call f os with
    | .ok o ps => .ok o (give xs ps ρ1)
    | .bad => .bad)
  | none => .bad
/-- a slot is set; a parameter that was lent may not be -/
def own? : O → Bool
  | .lst _ => true
  | _ => false
def setV (np : List Bool) (i : Nat) (o : O) : M Unit := fun ρ => match ρ[i]? with
  | some _ => if np.getD i false = true then .bad else .ok () (ρ.set i o)
  | none => .bad
def setVs (np : List Bool) : List Nat → List D → M Unit
  | [], [] => pur ()
  | i :: r, d :: ds => bnd (setV np i (.dat d)) fun _ => setVs np r ds
  | _, _ => fun _ => .bad
def asg (np : List Bool) : Tg → O → M Unit
  | .nm i, o => setV np i o
  | .tup ts, .dat (.tuple ds) => setVs np ts ds
  | .tup ts, .dat (.list ds) => setVs np ts ds
  | .tup ts, .lst ds => setVs np ts ds
  | .tup _, _ => fun _ => .bad
def wipeE : List Nat → Env → Env
  | [], ρ => ρ
  | v :: vs, ρ => (wipeE vs ρ).set v .hole
def backE : List Nat → Env → Env → Env
  | [], _, ρ => ρ
  | v :: vs, ρ0, ρ => (backE vs ρ0 ρ).set v (ρ0.getD v .hole)
/-- .. a value that stands still from then on -/
def fro (m : M O) : M O := bnd m fun o => opt (frz o)
def compL (turn : D → M (Option D)) : List D → M (List D)
  | [] => pur []
  | x :: xs => bnd (turn x) fun r => bnd (compL turn xs) fun ds => pur (match r with
    | some d => d :: ds
    | none => ds)
def rngL (lo : Int) (n : Nat) : List D := (List.range n).map fun (k : Nat) => .int (lo + k)
def rngOk (i : Int) : Bool := decide (-(2 ^ 62) ≤ i) && decide (i < 2 ^ 62)
def seqD : D → Option (List D)
  | .list xs => some xs
  | .tuple xs => some xs
  | _ => none
def testM (m : M O) : M Bool := bnd m fun o => opt ((toD o).bind truth)
def turnM (np : List Bool) (own : List Nat) (tg : Tg) (cond : M Bool) (elt : M O) (x : D) : M (Option D) := fun ρ => match bnd (asg np tg (.dat x)) (fun _ => bnd cond fun t => if t = true then bnd elt fun o => bnd (opt (toD o)) fun d => pur (some d) else pur none) ρ with
  | .ok r ρ1 => .ok r (wipeE own ρ1)
  | .bad => .bad
def compM (np : List Bool) (own : List Nat) (items : M (List D)) (tg : Tg) (cond : M Bool) (elt : M O) : M O := fun ρ => match items ρ with
  | .ok xs ρ1 => if (own.all fun i => !own? (ρ1.getD i .hole)) = true then (match compL (turnM np own tg cond elt) xs (wipeE own ρ1) with
    | .ok ds ρ2 => if xs.length ≤ lim then .ok (.lst ds) (backE own ρ1 ρ2) else .bad
    | .bad => .bad) else .bad
  | .bad => .bad
mutual
def evE (c : CX) : E → M O
  | .con d => pur (.dat d)
  | .var i => rdVar i
  | .fnv f => pur (.fn f)
  | .app f as => bnd (evA c as) fun xs => fun ρ => match (peeks ρ xs).bind (appF f) with
    | some o => .ok o ρ
    | none => .bad
  | .and_ a b => bnd (evE c a) fun x => bnd (opt ((toD x).bind truth)) fun t => if t then evE c b else bnd (opt (frz x)) pur
  | .or_ a b => bnd (evE c a) fun x => bnd (opt ((toD x).bind truth)) fun t => if t then bnd (opt (frz x)) pur else evE c b
  | .not_ a => bnd (evE c a) fun x => bnd (opt ((toD x).bind truth)) fun t => pur (.dat (.bool (!t)))
  | .ite q a b => bnd (testM (evE c q)) fun t => if t then evE c a else evE c b
  | .call f as => bnd (evA c as) fun xs => callM c f xs
  | .comp e tg src ci cond own => compM c.np own (evSrc c src) tg (if ci = true then testM (evE c cond) else pur true) (evE c e)
def evA (c : CX) : As → M (List Arg)
  | .nil => pur []
  | .ex e r => bnd (evE c e) fun o => bnd (opt (frz o)) fun o' => bnd (evA c r) fun xs => pur (.val o' :: xs)
  | .pl i r => fun ρ => if livE ρ i = true then bnd (evA c r) (fun xs => pur (.ref i :: xs)) ρ else .bad
def evSrc (c : CX) : Src → M (List D)
  | .seq e => bnd (fro (evE c e)) fun o => opt ((toD o).bind seqD)
  | .rng e => bnd (evE c e) fun o => opt (match o with
    | .dat (.int j) => if rngOk j = true then some (rngL 0 j.toNat) else none
    | _ => none)
  | .rng2 a b => bnd (fro (evE c a)) fun o => bnd (fro (evE c b)) fun o' => opt (match o, o' with
    | .dat (.int i), .dat (.int j) => if rngOk i = true ∧ rngOk j = true then some (rngL i (j - i).toNat) else none
    | _, _ => none)
  | .zip a b => bnd (fro (evE c a)) fun o => bnd (fro (evE c b)) fun o' => opt (match o, o' with
    | .dat (.list xs), .dat (.list ys) => some (List.zipWith (fun x y => .tuple [x, y]) xs ys)
    | .dat (.tuple xs), .dat (.tuple ys) => some (List.zipWith (fun x y => .tuple [x, y]) xs ys)
    | _, _ => none)
end
def forL (body : D → M Fl) : List D → M Fl
  | [] => pur .nx
  | x :: xs => bnd (body x) fun f => match f with
    | .nx => forL body xs
    | .ct => forL body xs
    | .bk => pur .nx
    | .rt o => pur (.rt o)
def whlM (q : M Bool) (body : M Fl) : Nat → M Fl
  | 0 => fun _ => .bad
  | n + 1 => bnd q fun t => if t then bnd body fun f => match f with
    | .nx => whlM q body n
    | .ct => whlM q body n
    | .bk => pur .nx
    | .rt o => pur (.rt o)
    else pur .nx
def ownE (ρ : Env) (p : Nat) : Bool := match ρ[p]? with
  | some (.lst _) => true
  | _ => false
def appIt (p : Nat) (d : D) : M Fl := fun ρ => match ρ[p]? with
  | some (.lst ds) => if ds.length < lim then .ok .nx (ρ.set p (.lst (ds ++ [d]))) else .bad
  | _ => .bad
def getItM (p : Nat) (i : Int) : M D := fun ρ => match ρ[p]? with
  | some (.lst ds) => if 0 ≤ i then (match L2.atI ds i with
    | some x => .ok x ρ
    | none => .bad) else .bad
  | _ => .bad
def setItM (p : Nat) (i : Int) (d : D) : M Unit := fun ρ => match ρ[p]? with
  | some (.lst ds) => (match L2.ixN ds.length i with
    | some j => .ok () (ρ.set p (.lst (ds.set j d)))
    | none => .bad)
  | _ => .bad
mutual
def evS (c : CX) : S → M Fl
  | .asg tg e => bnd (evE c e) fun o => bnd (asg c.np tg o) fun _ => pur .nx
  | .par i j a b => bnd (evE c a) fun o => bnd (opt (frz o)) fun o1 => bnd (evE c b) fun o => bnd (opt (frz o)) fun o2 => bnd (setV c.np i o1) fun _ => bnd (setV c.np j o2) fun _ => pur .nx
  | .setI p i e => bnd (evE c e) fun o => bnd (opt (toD o)) fun d => fun ρ => if livE ρ p = true then bnd (evE c i) (fun oi => match oi with
    | .dat (.int k) => bnd (setItM p k d) fun _ => pur .nx
    | _ => fun _ => .bad) ρ else .bad
  | .augI f p i e => fun ρ => if livE ρ p = true then bnd (evE c i) (fun oi => match oi with
    | .dat (.int k) => bnd (getItM p k) fun x => bnd (evE c e) fun o => bnd (opt (toD o)) fun y => bnd (opt ((augF f x y).bind toD)) fun z => bnd (setItM p k z) fun _ => pur .nx
    | _ => fun _ => .bad) ρ else .bad
  | .aug f i e => fun ρ => match ρ[i]? with
    | some (.dat x) => bnd (evE c e) (fun o => bnd (opt (toD o)) fun y => bnd (opt (augF f x y)) fun z => bnd (setV c.np i z) fun _ => pur .nx) ρ
    | _ => .bad
  | .appd p e => fun ρ => if ownE ρ p = true then bnd (evE c e) (fun o => bnd (opt (toD o)) fun d => appIt p d) ρ else .bad
  | .exp e => bnd (evE c e) fun _ => pur .nx
  | .ret e => bnd (evE c e) fun o => pur (.rt o)
  | .retm i => fun ρ => match ρ[i]? with
    | some .hole => .bad
    | some o => .ok (.rt o) (ρ.set i .hole)
    | none => .bad
  | .retn => pur (.rt (.dat .none))
  | .ite q a b => bnd (testM (evE c q)) fun t => if t then evSs c a else evSs c b
  | .forS tg src b => bnd (evSrc c src) fun xs => forL (fun x => bnd (asg c.np tg (.dat x)) fun _ => evSs c b) xs
  | .whl q b => whlM (testM (evE c q)) (evSs c b) c.fuel
  | .brk => pur .bk
  | .cnt => pur .ct
def evSs (c : CX) : Ss → M Fl
  | .nil => pur .nx
  | .cons s r => bnd (evS c s) fun f => match f with
    | .nx => evSs c r
    | f => pur f
end
/-- what goes back to the caller's slots -/
def backO : List O → Env → List O
  | [], _ => []
  | a :: as, o :: ρ => (if own? a = true then o else .hole) :: backO as ρ
  | _ :: as, [] => .hole :: backO as []
def runFn (call : Nat → List O → FR) (fuel : Nat) (fn : Fn) (args : List O) : FR :=
  if args.length = fn.np then (match evSs ⟨call, args.map own?, fuel⟩ fn.body (args ++ List.replicate (fn.ns - fn.np) .hole) with
    | .ok (.rt o) ρ => .ok o (backO args ρ)
    | .ok .nx ρ => .ok (.dat .none) (backO args ρ)
    | _ => .bad) else .bad
/-- a call at most so deep -/
def callF (T : List Fn) (fuel : Nat) : Nat → Nat → List O → FR
  | 0, _, _ => .bad
  | k + 1, f, args => match T[f]? with
    | some fn => runFn (callF T fuel k) fuel fn args
    | none => .bad
end EV

/-! EV, part 2: what stands for what in the abstract heap. Own work. -/
namespace EV
open PySem L2

/-! ### data, as it stands: lists are objects of the heap, tuples also of the written part -/
mutual
inductive Da (K : PySem.W.Frag) (H : Hp) : V → D → Prop where
  | non : Da K H .non .none
  | bl (b : Bool) : Da K H (.bl b) (.bool b)
  | int (i : Int) : Da K H (.int i) (.int i)
  | str (x : Str) : Da K H (.str x) (.str x)
  | lst {a : Addr} {vs : List V} {ds : List D} : SqL K H a vs → Das K H vs ds → Da K H (.ref a) (.list ds)
  | tup {a : Addr} {vs : List V} {ds : List D} : SqT K H a vs → Das K H vs ds → Da K H (.ref a) (.tuple ds)
inductive Das (K : PySem.W.Frag) (H : Hp) : List V → List D → Prop where
  | nil : Das K H [] []
  | cons {v : V} {vs : List V} {d : D} {ds : List D} : Da K H v d → Das K H vs ds → Das K H (v :: vs) (d :: ds)
end
section
variable {K : PySem.W.Frag}
mutual
theorem Da.dp {F : Hp} : ∀ {d : D} {v : V}, Da K F v d → Dp K F v d
  | _, _, .non => .non
  | _, _, .bl b => .bl b
  | _, _, .int i => .int i
  | _, _, .str x => .str x
  | _, _, .lst h r => .lst h (Das.dp r)
  | _, _, .tup h r => .tup h (Das.dp r)
theorem Das.dp {F : Hp} : ∀ {ds : List D} {vs : List V}, Das K F vs ds → DpAll K F vs ds
  | _, _, .nil => .nil
  | _, _, .cons h r => .cons (Da.dp h) (Das.dp r)
end
/-! ### data stands while its heap only grows -/
theorem rd_up {F F' : Hp} (e : Same F F') {a : Addr} {u : HO} (h : Rd F a u) : Rd F' a u := by
  rcases h with h | ⟨o, h⟩
  · exact .inl (e _ _ h)
  · exact .inr ⟨o, e _ _ h⟩
theorem sqL_up {F F' : Hp} (e : Same F F') {a : Addr} {xs : List V} (h : SqL K F a xs) : SqL K F' a xs := h.imp (rd_up e) id
theorem sqT_up {F F' : Hp} (e : Same F F') {a : Addr} {xs : List V} (h : SqT K F a xs) : SqT K F' a xs := h.imp (rd_up e) id
mutual
theorem Da.up {F F' : Hp} (e : Same F F') : ∀ {d : D} {v : V}, Da K F v d → Da K F' v d
  | _, _, .non => .non
  | _, _, .bl b => .bl b
  | _, _, .int i => .int i
  | _, _, .str x => .str x
  | _, _, .lst h r => .lst (sqL_up e h) (Das.up e r)
  | _, _, .tup h r => .tup (sqT_up e h) (Das.up e r)
theorem Das.up {F F' : Hp} (e : Same F F') : ∀ {ds : List D} {vs : List V}, Das K F vs ds → Das K F' vs ds
  | _, _, .nil => .nil
  | _, _, .cons h r => .cons (Da.up e h) (Das.up e r)
end
theorem Das.len {F : Hp} : ∀ {ds : List D} {vs : List V}, Das K F vs ds → vs.length = ds.length
  | _, _, .nil => rfl
  | _, _, .cons _ r => congrArg (· + 1) (Das.len r)
theorem Das.at {F : Hp} : ∀ {ds : List D} {vs : List V} {i : Nat} {d : D}, Das K F vs ds → ds[i]? = some d → ∃ v, vs[i]? = some v ∧ Da K F v d
  | _, _, _, _, .nil, h => by simp at h
  | _, _, 0, _, .cons h r, e => by
    simp at e
    subst e
    exact ⟨_, rfl, h⟩
  | _, _, i + 1, _, .cons h r, e => by
    obtain ⟨v, h1, h2⟩ := Das.at (i := i) r (by simpa using e)
    exact ⟨v, by simpa using h1, h2⟩
theorem Das.at' {F : Hp} {ds : List D} {vs : List V} {i : Nat} {v : V} (h : Das K F vs ds) (e : vs[i]? = some v) : ∃ d, ds[i]? = some d ∧ Da K F v d := by
  have hi : i < ds.length := by rw [← h.len]; exact (List.getElem?_eq_some_iff.mp e).1
  obtain ⟨w, h1, h2⟩ := h.at (List.getElem?_eq_getElem hi)
  rw [e] at h1
  cases h1
  exact ⟨_, List.getElem?_eq_getElem hi, h2⟩
theorem Das.app {F : Hp} : ∀ {ds es : List D} {vs ws : List V}, Das K F vs ds → Das K F ws es → Das K F (vs ++ ws) (ds ++ es)
  | _, _, _, _, .nil, s => s
  | _, _, _, _, .cons h r, s => .cons h (Das.app r s)
theorem Das.take {F : Hp} : ∀ {ds : List D} {vs : List V} (n : Nat), Das K F vs ds → Das K F (vs.take n) (ds.take n)
  | _, _, 0, _ => .nil
  | _, _, _ + 1, .nil => .nil
  | _, _, n + 1, .cons h r => .cons h (Das.take n r)
theorem Das.drop {F : Hp} : ∀ {ds : List D} {vs : List V} (n : Nat), Das K F vs ds → Das K F (vs.drop n) (ds.drop n)
  | _, _, 0, r => r
  | _, _, _ + 1, .nil => .nil
  | _, _, n + 1, .cons _ r => Das.drop n r
theorem Das.set {F : Hp} {d : D} {v : V} (x : Da K F v d) : ∀ {ds : List D} {vs : List V} (n : Nat), Das K F vs ds → Das K F (vs.set n v) (ds.set n d)
  | _, _, _, .nil => .nil
  | _, _, 0, .cons _ r => .cons x r
  | _, _, n + 1, .cons h r => .cons h (Das.set x n r)
theorem Das.rep {F : Hp} {d : D} {v : V} (x : Da K F v d) : ∀ n : Nat, Das K F (List.replicate n v) (List.replicate n d)
  | 0 => .nil
  | n + 1 => .cons x (Das.rep x n)
theorem Das.int {F : Hp} : ∀ {ds : List D} {vs : List V} {ns : List Int}, Das K F vs ds → intsOf ds = some ns → vs = ns.map V.int
  | _, _, ns, .nil, h => by
    cases h
    rfl
  | _, _, ns, .cons h r, e => by
    cases h with
    | int i =>
      unfold intsOf at e
      obtain ⟨ms, h1, h2⟩ := Option.map_eq_some_iff.mp e
      subst h2
      rw [Das.int r h1]
      rfl
    | _ => exact nomatch e
end

/-! ### a value and what it owns -/
inductive RO (K : PySem.W.Frag) (fa : Nat → Addr) (F H : Hp) : O → V → List Addr → Prop where
  | dat {d : D} {v : V} : Da K F v d → RO K fa F H (.dat d) v []
  | fn (i : Nat) : RO K fa F H (.fn i) (.ref (fa i)) []
  | lst {a : Addr} {vs : List V} {ds : List D} : H a = some (.lst vs) → Das K F vs ds → RO K fa F H (.lst ds) (.ref a) [a]
def ROh (K : PySem.W.Frag) (fa : Nat → Addr) (F H : Hp) (o : O) (x : Option V) (B : List Addr) : Prop := (o = .hole ∧ B = []) ∨ ∃ v, x = some v ∧ RO K fa F H o v B
inductive REs (K : PySem.W.Frag) (fa : Nat → Addr) (F H : Hp) : List O → List (Option V) → List Addr → Prop where
  | nil : REs K fa F H [] [] []
  | cons {o : O} {x : Option V} {B : List Addr} {os : List O} {vs : List (Option V)} {A : List Addr} : ROh K fa F H o x B → REs K fa F H os vs A → REs K fa F H (o :: os) (x :: vs) (B ++ A)
structure Hold (K : PySem.W.Frag) (fa : Nat → Addr) (F H : Hp) (os : List O) (vs : List (Option V)) (A : List Addr) : Prop where
  rep : REs K fa F H os vs A
  nd : A.Nodup
  off : ∀ a ∈ A, F a = none
  sub : Same F H
structure Ext (F H : Hp) (A : List Addr) (F' H' : Hp) (A' : List Addr) : Prop where
  le : Same F F'
  kp : ∀ a x, H a = some x → a ∉ A → H' a = some x
  fr : ∀ a ∈ A', a ∈ A ∨ H a = none
  fz : ∀ a x, F' a = some x → F a = some x ∨ a ∈ A ∨ H a = none

theorem Ext.refl (F H : Hp) (A : List Addr) : Ext F H A F H A := ⟨Same.refl _, fun _ _ h _ => h, fun _ h => .inl h, fun _ _ h => .inl h⟩
theorem Ext.dead {F H F' H' : Hp} {A A' : List Addr} (e : Ext F H A F' H' A') {a : Addr} (h : H' a = none) : H a = none ∨ a ∈ A := by
  cases q : H a with
  | none => exact .inl rfl
  | some x =>
    by_cases ha : a ∈ A
    · exact .inr ha
    · rw [e.kp a x q ha] at h
      cases h
theorem Ext.trans {F H F1 H1 F2 H2 : Hp} {A A1 A2 : List Addr} (e : Ext F H A F1 H1 A1) (e2 : Ext F1 H1 A1 F2 H2 A2) : Ext F H A F2 H2 A2 where
  le := e.le.trans e2.le
  kp := fun a x h n => e2.kp a x (e.kp a x h n) fun z => (e.fr a z).elim n fun q => by
    rw [q] at h
    cases h
  fr := fun a h => (e2.fr a h).elim (e.fr a) fun q => (e.dead q).elim .inr .inl
  fz := fun a x h => (e2.fz a x h).elim (e.fz a x) fun q => .inr (q.elim (e.fr a) fun q => (e.dead q).elim .inr .inl)
/-- what is owned beside stays -/
theorem Ext.beside {F H F' H' : Hp} {A A' : List Addr} (e : Ext F H A F' H' A') (B C : List Addr) : Ext F H (B ++ (A ++ C)) F' H' (B ++ (A' ++ C)) where
  le := e.le
  kp := fun a x h n => e.kp a x h fun z => n (by simp [z])
  fr := fun a h => by
    simp only [List.mem_append] at h ⊢
    rcases h with h | h | h
    · exact .inl (.inl h)
    · exact (e.fr a h).imp (fun q => .inr (.inl q)) id
    · exact .inl (.inr (.inr h))
  fz := fun a x h => (e.fz a x h).imp id fun q => q.imp (fun q => by simp [q]) id
theorem Ext.left {F H F' H' : Hp} {A A' : List Addr} (e : Ext F H A F' H' A') (B : List Addr) : Ext F H (B ++ A) F' H' (B ++ A') := by
  have := e.beside B []
  simpa using this
theorem Ext.fewer {F H F' H' : Hp} {A A' A'' : List Addr} (e : Ext F H A F' H' A') (h : ∀ a ∈ A'', a ∈ A') : Ext F H A F' H' A'' := ⟨e.le, e.kp, fun a q => e.fr a (h a q), e.fz⟩
/-- from more that is owned -/
theorem Ext.more {F H F' H' : Hp} {A B A' : List Addr} (e : Ext F H A F' H' A') (h : ∀ a ∈ A, a ∈ B) : Ext F H B F' H' A' :=
  ⟨e.le, fun a x q n => e.kp a x q fun z => n (h a z), fun a q => (e.fr a q).imp (h a) id, fun a x q => (e.fz a x q).imp id fun q => q.imp (h a) id⟩

section
variable {K : PySem.W.Frag} {fa : Nat → Addr} {F H F' H' : Hp} {o o' : O} {x x' : Option V} {v : V} {os ps : List O} {vs ws : List (Option V)} {A B : List Addr}
theorem RO.stay (r : RO K fa F H o v B) (e : Same F F') (k : ∀ a ∈ B, H' a = H a) : RO K fa F' H' o v B := by
  cases r with
  | dat h => exact .dat (Da.up e h)
  | fn i => exact .fn i
  | lst h q => exact .lst ((k _ (by simp)).trans h) (Das.up e q)
theorem ROh.stay (r : ROh K fa F H o x B) (e : Same F F') (k : ∀ a ∈ B, H' a = H a) : ROh K fa F' H' o x B := r.imp id fun ⟨v, h, r⟩ => ⟨v, h, r.stay e k⟩
theorem REs.stay (e : Same F F') : ∀ {os : List O} {vs : List (Option V)} {A : List Addr}, REs K fa F H os vs A → (∀ a ∈ A, H' a = H a) → REs K fa F' H' os vs A
  | _, _, _, .nil, _ => .nil
  | _, _, _, .cons h r, k => .cons (h.stay e fun a q => k a (by simp [q])) (REs.stay e r fun a q => k a (by simp [q]))
theorem REs.len : ∀ {os : List O} {vs : List (Option V)} {A : List Addr}, REs K fa F H os vs A → os.length = vs.length
  | _, _, _, .nil => rfl
  | _, _, _, .cons _ r => congrArg (· + 1) (REs.len r)
/-- one of them, and what may stand in its place -/
theorem REs.split : ∀ {os : List O} {vs : List (Option V)} {A : List Addr} {i : Nat}, REs K fa F H os vs A → os[i]? = some o → ∃ A1 B A2 x, A = A1 ++ (B ++ A2) ∧ vs[i]? = some x ∧ ROh K fa F H o x B ∧
    ∀ {F' H' : Hp} {o' : O} {x' : Option V} {B' : List Addr}, Same F F' → (∀ a ∈ A1 ++ A2, H' a = H a) → ROh K fa F' H' o' x' B' → REs K fa F' H' (os.set i o') (vs.set i x') (A1 ++ (B' ++ A2))
  | _, _, _, _, .nil, h => by simp at h
  | _, _, _, 0, .cons (B := B) (A := A) h r, e => by
    simp at e
    subst e
    exact ⟨[], B, A, _, rfl, rfl, h, fun {F' H' o' x' B'} e k q => REs.cons (B := B') q (r.stay e fun a z => k a (by simp [z]))⟩
  | _, _, _, i + 1, .cons (B := B) (A := A) h r, e => by
    obtain ⟨A1, C, A2, x, rfl, h2, h3, h4⟩ := REs.split (i := i) r (by simpa using e)
    refine ⟨B ++ A1, C, A2, x, by simp, by simpa using h2, h3, fun e k q => ?_⟩
    have := REs.cons (h.stay e fun a z => k a (by simp [z])) (h4 e (fun a z => k a (by
      simp only [List.mem_append] at z ⊢
      exact z.elim (fun z => .inl (.inr z)) .inr)) q)
    simpa using this
theorem REs.app : ∀ {os : List O} {vs : List (Option V)} {A : List Addr} {ps : List O} {ws : List (Option V)} {B : List Addr}, REs K fa F H os vs A → REs K fa F H ps ws B → REs K fa F H (os ++ ps) (vs ++ ws) (A ++ B)
  | _, _, _, _, _, _, .nil, s => s
  | _, _, _, _, _, _, .cons h r, s => by
    have := REs.cons h (REs.app r s)
    simpa using this
theorem REs.cut : ∀ {os : List O} {vs : List (Option V)} {A : List Addr} (n : Nat), REs K fa F H os vs A → ∃ A1 A2, A = A1 ++ A2 ∧ REs K fa F H (os.take n) (vs.take n) A1 ∧ REs K fa F H (os.drop n) (vs.drop n) A2
  | _, _, A, 0, r => ⟨[], A, rfl, .nil, r⟩
  | _, _, _, _ + 1, .nil => ⟨[], [], rfl, .nil, .nil⟩
  | _, _, _, n + 1, .cons (B := B) h r => by
    obtain ⟨A1, A2, rfl, h1, h2⟩ := REs.cut n r
    exact ⟨B ++ A1, A2, by simp, .cons h h1, h2⟩

/-! ### Hold -/
theorem Hold.nil (h : Same F H) : Hold K fa F H [] [] [] := ⟨.nil, List.nodup_nil, fun _ h => (nomatch h), h⟩
theorem Hold.tail (h : Hold K fa F H (o :: os) (x :: vs) A) : ∃ B A', A = B ++ A' ∧ ROh K fa F H o x B ∧ Hold K fa F H os vs A' := by
  obtain ⟨r, nd, off, sub⟩ := h
  cases r with
  | cons h r => exact ⟨_, _, rfl, h, r, (List.nodup_append.mp nd).2.1, fun a z => off a (by simp [z]), sub⟩
theorem Hold.cons (h : Hold K fa F H os vs A) (r : ROh K fa F H o x B) (nd : B.Nodup) (dj : ∀ a ∈ B, a ∉ A) (off : ∀ a ∈ B, F a = none) : Hold K fa F H (o :: os) (x :: vs) (B ++ A) :=
  ⟨.cons r h.rep, List.nodup_append.mpr ⟨nd, h.nd, fun a ha b hb e => dj a ha (e ▸ hb)⟩, fun a z => (List.mem_append.mp z).elim (off a) (h.off a), h.sub⟩
/-- data beside -/
theorem Hold.dat (h : Hold K fa F H os vs A) (r : RO K fa F H o v []) : Hold K fa F H (o :: os) (some v :: vs) A := h.cons (B := []) (.inr ⟨v, rfl, r⟩) List.nodup_nil (fun _ z => (nomatch z)) fun _ z => (nomatch z)
theorem Hold.hole (h : Hold K fa F H os vs A) : Hold K fa F H (.hole :: os) (x :: vs) A := h.cons (B := []) (.inl ⟨rfl, rfl⟩) List.nodup_nil (fun _ z => (nomatch z)) fun _ z => (nomatch z)
/-- while others run -/
theorem Hold.stay (h : Hold K fa F H os vs A) (live : ∀ a ∈ A, H a ≠ none) {C C' : List Addr} (e : Ext F H C F' H' C') (dj : ∀ a ∈ A, a ∉ C) (sub : Same F' H') : Hold K fa F' H' os vs A := by
  refine ⟨h.rep.stay e.le fun a z => ?_, h.nd, fun a z => ?_, sub⟩
  · cases q : H a with
    | none => exact absurd q (live a z)
    | some x => exact e.kp a x q (dj a z)
  · cases q : F' a with
    | none => rfl
    | some x =>
      rcases e.fz a x q with q | q | q
      · rw [h.off a z] at q
        cases q
      · exact absurd q (dj a z)
      · exact absurd q (live a z)
theorem ROh.live (r : ROh K fa F H o x B) : ∀ a ∈ B, H a ≠ none := by
  rcases r with ⟨_, rfl⟩ | ⟨v, _, r⟩
  · exact fun _ z => (nomatch z)
  · cases r with
    | dat _ => exact fun _ z => (nomatch z)
    | fn _ => exact fun _ z => (nomatch z)
    | lst h _ =>
      intro a z q
      obtain rfl : a = _ := List.mem_singleton.mp z
      rw [h] at q
      cases q
theorem REs.live : ∀ {os : List O} {vs : List (Option V)} {A : List Addr}, REs K fa F H os vs A → ∀ a ∈ A, H a ≠ none
  | _, _, _, .nil, _, z => nomatch z
  | _, _, _, .cons h r, a, z => (List.mem_append.mp z).elim (h.live a) (REs.live r a)
theorem Hold.live (h : Hold K fa F H os vs A) : ∀ a ∈ A, H a ≠ none := h.rep.live
theorem Hold.len (h : Hold K fa F H os vs A) : os.length = vs.length := h.rep.len
/-- beside: what ran does not touch what was owned beside it -/
theorem Hold.both {C C' : List Addr} (h : Hold K fa F H os vs A) (e : Ext F H C F' H' C') (g : Hold K fa F' H' ps ws C') (dj : ∀ a ∈ A, a ∉ C) : Hold K fa F' H' (os ++ ps) (vs ++ ws) (A ++ C') := by
  have h' := h.stay h.live e dj g.sub
  refine ⟨h'.rep.app g.rep, List.nodup_append.mpr ⟨h'.nd, g.nd, fun a ha b hb q => ?_⟩, fun a z => (List.mem_append.mp z).elim (h'.off a) (g.off a), g.sub⟩
  subst q
  exact (e.fr a hb).elim (dj a ha) (h.live a ha)
theorem Hold.cut (n : Nat) (h : Hold K fa F H os vs A) : ∃ A1 A2, A = A1 ++ A2 ∧ Hold K fa F H (os.take n) (vs.take n) A1 ∧ Hold K fa F H (os.drop n) (vs.drop n) A2 ∧ ∀ a ∈ A1, a ∉ A2 := by
  obtain ⟨A1, A2, rfl, h1, h2⟩ := h.rep.cut n
  obtain ⟨n1, n2, n3⟩ := List.nodup_append.mp h.nd
  exact ⟨A1, A2, rfl, ⟨h1, n1, fun a z => h.off a (by simp [z]), h.sub⟩, ⟨h2, n2, fun a z => h.off a (by simp [z]), h.sub⟩, fun a z q => n3 a z a q rfl⟩
theorem Hold.app {C : List Addr} (h : Hold K fa F H os vs A) (g : Hold K fa F H ps ws C) (dj : ∀ a ∈ A, a ∉ C) : Hold K fa F H (os ++ ps) (vs ++ ws) (A ++ C) :=
  ⟨h.rep.app g.rep, List.nodup_append.mpr ⟨h.nd, g.nd, fun a ha b hb q => dj a ha (q ▸ hb)⟩, fun a z => (List.mem_append.mp z).elim (h.off a) (g.off a), h.sub⟩
/-- a slot's value is changed -/
theorem Hold.upd {i : Nat} (h : Hold K fa F H os vs A) (hi : os[i]? = some o) : ∃ A1 B A2 x, A = A1 ++ (B ++ A2) ∧ vs[i]? = some x ∧ ROh K fa F H o x B ∧
    ∀ {F' H' : Hp} {o' : O} {x' : Option V} {B' : List Addr}, Same F F' → Same F' H' → (∀ a ∈ A1 ++ A2, H' a = H a) → (∀ a ∈ A1 ++ A2, F' a = none) → ROh K fa F' H' o' x' B' → B'.Nodup → (∀ a ∈ B', a ∉ A1 ++ A2) → (∀ a ∈ B', F' a = none) →
      Hold K fa F' H' (os.set i o') (vs.set i x') (A1 ++ (B' ++ A2)) := by
  obtain ⟨A1, B, A2, x, rfl, h1, h2, h3⟩ := h.rep.split hi
  refine ⟨A1, B, A2, x, rfl, h1, h2, fun e s k off' r nd dj off => ⟨h3 e k r, ?_, fun a z => ?_, s⟩⟩
  · obtain ⟨n1, n2, n3⟩ := List.nodup_append.mp h.nd
    obtain ⟨m1, m2, m3⟩ := List.nodup_append.mp n2
    refine List.nodup_append.mpr ⟨n1, List.nodup_append.mpr ⟨nd, m2, fun a ha b hb q => dj a ha (by simp [q, hb])⟩, fun a ha b hb q => ?_⟩
    rcases List.mem_append.mp hb with hb | hb
    · exact dj b hb (by simp [← q, ha])
    · exact n3 a ha b (by simp [hb]) q
  · simp only [List.mem_append] at z
    rcases z with z | z | z
    · exact off' a (by simp [z])
    · exact off a z
    · exact off' a (by simp [z])
theorem set_self {α : Type} {xs : List α} {i : Nat} {x : α} (h : xs[i]? = some x) : xs.set i x = xs := by
  obtain ⟨hi, e⟩ := List.getElem?_eq_some_iff.mp h
  rw [← e, List.set_getElem_self]
/-- what a slot owns is taken out -/
theorem Hold.out {i : Nat} (h : Hold K fa F H os vs A) (hi : os[i]? = some o) (ho : o ≠ .hole) : ∃ v A', vs[i]? = some (some v) ∧ (∀ a, a ∈ A' ↔ a ∈ A) ∧ Hold K fa F H (o :: os.set i .hole) (some v :: vs) A' := by
  obtain ⟨A1, B, A2, x, rfl, h1, h2, h3⟩ := h.upd hi
  rcases h2 with ⟨e, _⟩ | ⟨v, rfl, r⟩
  · exact absurd e ho
  · have nd := h.nd
    have g := h3 (F' := F) (H' := H) (o' := .hole) (x' := some v) (B' := []) (Same.refl _) h.sub (fun _ _ => rfl) (fun a z => h.off a (by
      simp only [List.mem_append] at z ⊢
      exact z.imp id .inr)) (.inl ⟨rfl, rfl⟩) List.nodup_nil (fun _ z => (nomatch z)) fun _ z => (nomatch z)
    rw [set_self h1] at g
    obtain ⟨n1, n2, n3⟩ := List.nodup_append.mp nd
    obtain ⟨m1, m2, m3⟩ := List.nodup_append.mp n2
    refine ⟨v, B ++ (A1 ++ ([] ++ A2)), h1, fun a => ?_, g.cons (.inr ⟨v, rfl, r⟩) m1 (fun a z q => ?_) fun a z => h.off a (by simp [z])⟩
    · simp only [List.mem_append, List.nil_append]
      exact ⟨fun h => h.elim (fun h => .inr (.inl h)) fun h => h.imp id .inr, fun h => h.elim (fun h => .inr (.inl h)) fun h => h.imp id .inr⟩
    · simp only [List.mem_append, List.nil_append] at q
      rcases q with q | q
      · exact n3 a q a (by simp [z]) rfl
      · exact m3 a z a q rfl
/-- .. and put into an empty slot of the same address -/
theorem Hold.into {i : Nat} (h : Hold K fa F H (o :: os) (some v :: vs) A) (hi : os[i]? = some .hole) (hv : vs[i]? = some (some v)) : ∃ A', (∀ a ∈ A', a ∈ A) ∧ Hold K fa F H (os.set i o) vs A' := by
  obtain ⟨B, A0, rfl, r, g⟩ := h.tail
  obtain ⟨A1, C, A2, x, rfl, h1, h2, h3⟩ := g.upd hi
  have off : ∀ a ∈ A1 ++ A2, F a = none := fun a z => g.off a (by
    simp only [List.mem_append] at z ⊢
    exact z.imp id .inr)
  obtain ⟨n1, n2, n3⟩ := List.nodup_append.mp h.nd
  have f := h3 (F' := F) (H' := H) (Same.refl _) h.sub (fun _ _ => rfl) off r n1 (fun a z q => by
    simp only [List.mem_append] at q
    exact n3 a z a (by
      simp only [List.mem_append]
      exact q.imp id .inr) rfl) fun a z => h.off a (by simp [z])
  rw [set_self hv] at f
  refine ⟨_, fun a z => ?_, f⟩
  simp only [List.mem_append] at z ⊢
  rcases z with z | z | z
  · exact .inr (.inl z)
  · exact .inl z
  · exact .inr (.inr (.inr z))
/-- a value is stored in a slot -/
theorem Hold.store {i : Nat} (h : Hold K fa F H (o :: os) (x :: vs) A) (hi : i < os.length) : ∃ A', (∀ a ∈ A', a ∈ A) ∧ Hold K fa F H (os.set i o) (vs.set i x) A' := by
  obtain ⟨B, A0, rfl, r, g⟩ := h.tail
  obtain ⟨A1, C, A2, y, rfl, h1, h2, h3⟩ := g.upd (List.getElem?_eq_getElem hi)
  have off : ∀ a ∈ A1 ++ A2, F a = none := fun a z => g.off a (by
    simp only [List.mem_append] at z ⊢
    exact z.imp id .inr)
  obtain ⟨n1, n2, n3⟩ := List.nodup_append.mp h.nd
  have f := h3 (F' := F) (H' := H) (Same.refl _) h.sub (fun _ _ => rfl) off r n1 (fun a z q => by
    simp only [List.mem_append] at q
    exact n3 a z a (by
      simp only [List.mem_append]
      exact q.imp id .inr) rfl) fun a z => h.off a (by simp [z])
  refine ⟨_, fun a z => ?_, f⟩
  simp only [List.mem_append] at z ⊢
  rcases z with z | z | z
  · exact .inr (.inl z)
  · exact .inl z
  · exact .inr (.inr (.inr z))
/-- what is owned stands still from now on -/
theorem Hold.freeze {ds : List D} (h : Hold K fa F H (.lst ds :: os) (some v :: vs) A) : ∃ F' A', Hold K fa F' H (.dat (.list ds) :: os) (some v :: vs) A' ∧ Ext F H A F' H A' := by
  obtain ⟨B, A0, rfl, r, g⟩ := h.tail
  rcases r with ⟨e, _⟩ | ⟨w, e, r⟩
  · cases e
  · cases e
    cases r with
    | @lst a ws _ ha hd =>
      have hF : F a = none := h.off a (by simp)
      have nA : a ∉ A0 := fun z => (List.nodup_append.mp h.nd).2.2 a (by simp) a z rfl
      have le : Same F (L2.upd F a (.lst ws)) := fun b x q => by
        rw [upd_ne (ne_of_none q hF)]
        exact q
      have e : Ext F H ([a] ++ A0) (L2.upd F a (.lst ws)) H A0 := ⟨le, fun _ _ q _ => q, fun b z => .inl (by simp [z]), fun b x q => by
        by_cases z : b = a
        · exact .inr (.inl (by simp [z]))
        · rw [upd_ne z] at q
          exact .inl q⟩
      refine ⟨L2.upd F a (.lst ws), A0, ?_, e⟩
      have sub : Same (L2.upd F a (.lst ws)) H := fun b x q => by
        by_cases z : b = a
        · subst z
          rw [upd_same] at q
          cases q
          exact ha
        · rw [upd_ne z] at q
          exact h.sub b x q
      have g' : Hold K fa (L2.upd F a (.lst ws)) H os vs A0 := ⟨g.rep.stay le fun _ _ => rfl, g.nd, fun b z => by
        rw [upd_ne (fun (q : b = a) => nA (by rw [← q]; exact z))]
        exact g.off b z, sub⟩
      exact g'.dat (.dat (.lst (SqL.of upd_same) (Das.up le hd)))
theorem Hold.frozen {o o' : O} (h : Hold K fa F H (o :: os) (some v :: vs) A) (e : frz o = some o') : ∃ F' A', Hold K fa F' H (o' :: os) (some v :: vs) A' ∧ Ext F H A F' H A' ∧ RO K fa F' H o' v [] := by
  cases o with
  | hole => cases e
  | dat d =>
    cases e
    obtain ⟨B, A0, rfl, r, g⟩ := id h.tail
    rcases r with ⟨e, _⟩ | ⟨w, e, r⟩
    · cases e
    · cases e
      refine ⟨F, _, h, Ext.refl _ _ _, ?_⟩
      cases r with
      | dat r => exact .dat r
  | fn i =>
    cases e
    obtain ⟨B, A0, rfl, r, g⟩ := id h.tail
    rcases r with ⟨e, _⟩ | ⟨w, e, r⟩
    · cases e
    · cases e
      refine ⟨F, _, h, Ext.refl _ _ _, ?_⟩
      cases r with
      | fn => exact .fn i
  | lst ds =>
    cases e
    obtain ⟨F', A', h', e⟩ := h.freeze
    obtain ⟨B, A0, rfl, r, g⟩ := id h'.tail
    rcases r with ⟨q, _⟩ | ⟨w, q, r⟩
    · cases q
    · cases q
      refine ⟨F', _, h', e, ?_⟩
      cases r with
      | dat r => exact .dat r
end
end EV

/-! EV, part 3: rules of the machine that were lacking, by values. Own work. -/
namespace EV
open PySem L2
section
open PySem.Spec PyProof.Rows
variable {X : Cx}
/-- list + list, whatever holds them -/
def rCatL (K : PySem.W.Frag) : R2 := fun x y H Q => ∃ a b xs ys, x = .ref a ∧ y = .ref b ∧ SqL K H a xs ∧ SqL K H b ys ∧ xs.length + ys.length ≤ sizeLine ∧
  ∀ p, H p = none → Q (.ref p) (L2.upd H p (.lst (xs ++ ys)))
theorem op_catL : OpR X (binaryOp .Add) (rCatL X.K) := by
  rintro pins s σ H x y v u Q I rx ry ⟨a, b, xs, ys, rfl, rfl, ha, hb, hz, q⟩
  cases rx
  cases ry
  obtain ⟨its, ra, ⟨⟨ca, da, dta, sla⟩, na, ea, eca, _, eda⟩, _⟩ := I.list ha
  obtain ⟨its2, rb, ⟨⟨cb, db, dtb, slb⟩, nb, eb, ecb, _, edb⟩, _⟩ := I.list hb
  simp only at eca eda ecb edb
  subst eca eda ecb edb
  have la := ra.length
  have lb := rb.length
  have e : its.toArray ++ its2.toArray = (its ++ its2).toArray := List.append_toArray ..
  refine concat_meets ⟨_, ea, rfl⟩ ⟨_, eb, rfl⟩ noFill_list_add seq_list_add PySem.F.slot_list_add PySem.F.entry_list_add (PySem.F.args_list_add_2 _ _)
    (list_addW a b its.toArray its2.toArray na nb da db sla slb (by simp only [List.size_toArray]; omega)) ⟨ea, eb, ?_⟩
  rw [e]
  exact ⟨.ref _, _, I.lnew (t' := s.toks) (ra.append rb) (by simp only [List.length_append]; omega), rfl, q _ I.fresh⟩
/-- xs[i], read for xs[i] op= y -/
def rGetL (K : PySem.W.Frag) : V → V → Hp → VK → Prop := fun o i H Q => ∃ p xs k v, o = .ref p ∧ i = .int k ∧ SqL K H p xs ∧ 0 ≤ k ∧ atI xs k = some v ∧ Q v H
theorem get_listL : PGet X (rGetL X.K) := by
  rintro pins s σ H o i ov iv Q I ro ri ⟨p, xs, k, v, rfl, rfl, hq, h0, he, q⟩
  cases ro
  obtain ⟨t, rfl⟩ := ri
  obtain ⟨its, r, pl, hz⟩ := I.list hq
  obtain ⟨j, h1, h2, h3, h4, h5⟩ := atI_get he
  obtain ⟨w, ew, rw'⟩ := r.get h2
  have hl := r.length
  have hj : k.toNat = j := by
    rw [seqIndex_of h0 h5] at h1
    exact Option.some.inj h1
  have hn := line63
  exact PySem.wpAny_getItem_list pl.isList h0 (by omega) (by rw [hj]; simpa using ew) ⟨v, H, I, rw', q⟩
/-- repr of data -/
def rRepr (K : PySem.W.Frag) : List V → Hp → VK → Prop := fun xs H Q => ∃ x d, xs = [x] ∧ Dp K H x d ∧ shows d = true ∧ Q (.str d.shown) H
theorem call_reprD (hg : X.A.guards = some []) (hu : X.A.units + 64 < cLine) : CallR X (.builtin "repr") (rRepr X.K) := by
  rintro pins s σ H xs us Q I r ⟨x, d, rfl, hd, hs, q⟩
  obtain ⟨u, rfl, rx⟩ := vals1 r
  unfold shows at hs
  simp only [Bool.and_eq_true, decide_eq_true_eq, Bool.not_eq_true'] at hs
  obtain ⟨⟨⟨⟨h1, h2⟩, h3⟩, h4⟩, h5⟩ := hs
  have hz : d.shown.length ≤ sizeLine := PyData.shown_fits_bulk (B := 13) (by omega) (by omega) h1 h2
  have fin : ∀ t tk, EP X pins σ Q (.str d.shown t) { s with toks := tk } := fun t tk => ⟨.str d.shown, H, I.tok _, ⟨_, rfl⟩, q⟩
  obtain ⟨as, rd⟩ := hd.reads I d x u rx
  cases hd with
  | non =>
    cases rx
    exact PySem.P.repr_of_none (fin _ _)
  | bl b =>
    cases rx
    exact PySem.P.repr_of_bool (fin _ _)
  | int i =>
    obtain ⟨t, rfl⟩ := rx
    exact PySem.P.repr_of_int (by simpa [PyData.showable] using h4) (fin _ _)
  | str z =>
    obtain ⟨t, rfl⟩ := rx
    exact PySem.P.repr_of_str (fin _ _) hz
  | lst hl hds =>
    cases rx
    exact PySem.repr_of_reads' rd h4 (fun z => by rw [h5] at z; cases z) hg (by omega) (fun _ _ e => e) (fun h' t tk k => ⟨.str _, H, I.kept k, ⟨_, rfl⟩, q⟩) hz
  | tup hl hds =>
    cases rx
    exact PySem.repr_of_reads' rd h4 (fun z => by rw [h5] at z; cases z) hg (by omega) (fun _ _ e => e) (fun h' t tk k => ⟨.str _, H, I.kept k, ⟨_, rfl⟩, q⟩) hz
/-- (x, ..) * 1 is the tuple itself -/
theorem tuple_mul_one (l : Addr) (items : Array Value) (n : Nat) (dd : Option Addr) (sl : Array (Option Value)) (u : Tok) :
    Meets (Builtin.«tuple.__mul__» ⟨[.ref l, .int 1 u], []⟩) (fun _ R s => s.heap.get? l = some { cls := .type "tuple", dict := dd, data := .seq items n, slots := sl } ∧ R (.ok (.ret (Value.ref l))) s) :=
  .of_wp fun prog w A R s h => by
    obtain ⟨hp, g, d, tk, os⟩ := s
    obtain ⟨hl, h⟩ := h
    have f1 := AutoSeq1.idx_int
    wp_walk using wpAny_loadPart' hl
    exact ⟨_, rfl, h⟩
def rOneT (K : PySem.W.Frag) : R2 := fun x y H Q => ∃ l xs, x = .ref l ∧ y = .int 1 ∧ SqT K H l xs ∧ Q (.ref l) H
theorem op_oneT : OpR X (binaryOp .Mult) (rOneT X.K) := by
  rintro pins s σ H x y v u Q I rx ry ⟨l, xs, rfl, rfl, hT, q⟩
  cases rx
  obtain ⟨t, rfl⟩ := ry
  obtain ⟨its, r, ⟨⟨cls, dd, data, sl⟩, ho, hc, n, hd⟩, hs⟩ := I.tuple hT
  simp only at hc hd
  subst hc hd
  have fin : EP X pins σ Q (.ref l) s := ⟨.ref l, H, I, rfl, q⟩
  exact wpAny_binaryOp_repeat_ref (T := "tuple") (U := "int") (by decide) ⟨_, ho, rfl⟩ (fun s' => typeIs_int s' 1 t) noFill_tuple_mul F.fills_int_mul F.slot_int_rmul repeat_tuple F.slot_int_index.lookup
    (call_meets F.slot_int_rmul (typeIs_int s 1 t) F.entry_int_rmul (F.args_int_rmul_2 _ _) (int_rmul_tuple 1 t l its.toArray n dd sl)
      ⟨ho, rfl, ⟨_, ho, rfl⟩, call_meets F.slot_tuple_mul ⟨_, ho, rfl⟩ F.entry_tuple_mul (F.args_tuple_mul_2 _ _) (tuple_mul_one l its.toArray n dd sl t) ⟨ho, fin⟩⟩)
end
end EV

/-! EV, part 4: each operation on data is what the machine's rule asks. Own work. -/
namespace EV
open PySem L2
/-- what is wanted behind: of any value that stands for o, whatever else has come -/
def Give (K : PySem.W.Frag) (fa : Nat → Addr) (F H : Hp) (A : List Addr) (ρ : Env) (σ : List (Option V)) (o : O) (Q : VK) : Prop :=
  ∀ F' H' v A', Hold K fa F' H' (o :: ρ) (some v :: σ) A' → Ext F H A F' H' A' → Q v H'
/-- what is looked at: data, or a list that its slot owns -/
inductive Pk (K : PySem.W.Frag) (F H : Hp) : V → D → Prop where
  | fr {v : V} {d : D} : Da K F v d → Pk K F H v d
  | own {a : Addr} {vs : List V} {ds : List D} : H a = some (.lst vs) → Das K F vs ds → Pk K F H (.ref a) (.list ds)
inductive Pks (K : PySem.W.Frag) (F H : Hp) : List V → List D → Prop where
  | nil : Pks K F H [] []
  | cons {v : V} {d : D} {vs : List V} {ds : List D} : Pk K F H v d → Pks K F H vs ds → Pks K F H (v :: vs) (d :: ds)
section
variable {K : PySem.W.Frag} {fa : Nat → Addr} {F H : Hp} {A : List Addr} {ρ : Env} {σ : List (Option V)} {o : O} {Q : VK} {v w : V} {d e : D} {vs : List V} {ds : List D}
theorem Pk.int {i : Int} (h : Pk K F H v (.int i)) : v = .int i := by
  cases h with
  | fr h => cases h; rfl
theorem Pk.bl {b : Bool} (h : Pk K F H v (.bool b)) : v = .bl b := by
  cases h with
  | fr h => cases h; rfl
theorem Pk.str {x : Str} (h : Pk K F H v (.str x)) : v = .str x := by
  cases h with
  | fr h => cases h; rfl
theorem Pk.non (h : Pk K F H v .none) : v = .non := by
  cases h with
  | fr h => cases h; rfl
theorem Pk.list (sub : Same F H) (h : Pk K F H v (.list ds)) : ∃ a vs, v = .ref a ∧ SqL K H a vs ∧ Das K F vs ds := by
  cases h with
  | fr h =>
    cases h with
    | lst h r => exact ⟨_, _, rfl, sqL_up sub h, r⟩
  | own h r => exact ⟨_, _, rfl, SqL.of h, r⟩
theorem Pk.tup (sub : Same F H) (h : Pk K F H v (.tuple ds)) : ∃ a vs, v = .ref a ∧ SqT K H a vs ∧ SqT K F a vs ∧ Das K F vs ds := by
  cases h with
  | fr h =>
    cases h with
    | tup h r => exact ⟨_, _, rfl, sqT_up sub h, h, r⟩
theorem Pk.da (sub : Same F H) (h : Pk K F H v d) : Da K H v d := by
  cases h with
  | fr h => exact Da.up sub h
  | own h r => exact .lst (SqL.of h) (Das.up sub r)
theorem sizeL : sizeLine = lim := sizeLine_eq

/-! ### what is given -/
theorem give_dat (h : Hold K fa F H ρ σ A) (r : Da K F v d) (g : Give K fa F H A ρ σ (.dat d) Q) : Q v H := g F H v A (h.dat (.dat r)) (Ext.refl _ _ _)
/-- a new object beside -/
theorem Hold.new (h : Hold K fa F H ρ σ A) {p : Addr} (hp : H p = none) (u : HO) : p ∉ A ∧ F p = none ∧ Same F (L2.upd H p u) ∧ Hold K fa F (L2.upd H p u) ρ σ A := by
  have nA : p ∉ A := fun z => h.live p z hp
  have hF : F p = none := by
    cases q : F p with
    | none => rfl
    | some x =>
      rw [h.sub p x q] at hp
      cases hp
  have sub : Same F (L2.upd H p u) := fun b x q => by
    rw [upd_ne (ne_of_none q hF)]
    exact h.sub b x q
  exact ⟨nA, hF, sub, h.rep.stay (Same.refl _) fun a z => upd_ne (fun (q : a = p) => nA (by rw [← q]; exact z)), h.nd, h.off, sub⟩
theorem give_lst (h : Hold K fa F H ρ σ A) (r : Das K F vs ds) (g : Give K fa F H A ρ σ (.lst ds) Q) (p : Addr) (hp : H p = none) : Q (.ref p) (L2.upd H p (.lst vs)) := by
  obtain ⟨nA, hF, sub, h'⟩ := h.new hp (.lst vs)
  refine g F _ _ ([p] ++ A) (h'.cons (.inr ⟨_, rfl, .lst upd_same r⟩) (List.nodup_cons.mpr ⟨fun z => (nomatch z), List.nodup_nil⟩) (fun a z => ?_) fun a z => ?_) ⟨Same.refl _, fun a x q n => ?_, fun a z => ?_, fun a x q => .inl q⟩
  · rw [List.mem_singleton.mp z]
    exact nA
  · rw [List.mem_singleton.mp z]
    exact hF
  · rw [upd_ne (ne_of_none q hp)]
    exact q
  · rcases List.mem_append.mp z with z | z
    · rw [List.mem_singleton.mp z]
      exact .inr hp
    · exact .inl z
theorem give_tup (h : Hold K fa F H ρ σ A) (r : Das K F vs ds) (g : Give K fa F H A ρ σ (.dat (.tuple ds)) Q) (p : Addr) (hp : H p = none) : Q (.ref p) (L2.upd H p (.tup vs)) := by
  obtain ⟨nA, hF, sub, h'⟩ := h.new hp (.tup vs)
  have le : Same F (L2.upd F p (.tup vs)) := fun b x q => by
    rw [upd_ne (ne_of_none q hF)]
    exact q
  have sub' : Same (L2.upd F p (.tup vs)) (L2.upd H p (.tup vs)) := fun b x q => by
    by_cases z : b = p
    · subst z
      rw [upd_same] at q ⊢
      exact q
    · rw [upd_ne z] at q ⊢
      exact h.sub b x q
  have h2 : Hold K fa (L2.upd F p (.tup vs)) (L2.upd H p (.tup vs)) ρ σ A := ⟨h'.rep.stay le fun _ _ => rfl, h'.nd, fun a z => by
    rw [upd_ne (fun (q : a = p) => nA (by rw [← q]; exact z))]
    exact h'.off a z, sub'⟩
  refine g _ _ _ A (h2.dat (.dat (.tup (SqT.of upd_same) (Das.up le r)))) ⟨le, fun a x q n => ?_, fun a z => .inl z, fun a x q => ?_⟩
  · rw [upd_ne (ne_of_none q hp)]
    exact q
  · by_cases z : a = p
    · rw [z]
      exact .inr (.inr hp)
    · rw [upd_ne z] at q
      exact .inl q

/-! ### operators -/
def rdAdd (K : PySem.W.Frag) : R2 := fun x y H Q => (rI0 (fun i j => .int (i + j)) x y H Q ∨ rCatA K x y H Q) ∨ rCatL K x y H Q
theorem ok_add {X : Cx} : OpR X (binaryOp .Add) (rdAdd X.K) := (op_add.or op_catA).or op_catL
theorem Das.nilL (r : Das K F vs ds) : vs = [] ↔ ds = [] := by
  have := r.len
  cases vs <;> cases ds <;> simp at this ⊢
theorem rd_add (h : Hold K fa F H ρ σ A) (hv : Pk K F H v d) (hw : Pk K F H w e) (q : addF d e = some o) (g : Give K fa F H A ρ σ o Q) : rdAdd K v w H Q := by
  unfold addF at q
  split at q
  · cases q
    rw [hv.int, hw.int]
    exact .inl (.inl ⟨_, _, rfl, rfl, give_dat h (.int _) g⟩)
  · split at q
    · cases q
      obtain ⟨a, xs, rfl, ha, haF, ra⟩ := hv.tup h.sub
      obtain ⟨b, ys, rfl, hb, hbF, rb⟩ := hw.tup h.sub
      have la := ra.len
      have lb := rb.len
      refine .inl (.inr ⟨a, b, xs, ys, rfl, rfl, ha, hb, by rw [sizeL]; omega, fun z => ?_, fun z1 z2 => ?_, fun z1 z2 => give_tup h (ra.app rb) g⟩)
      · rw [ra.nilL.mp z, List.nil_append] at g
        exact give_dat h (.tup hbF rb) g
      · rw [rb.nilL.mp z2, List.append_nil] at g
        exact give_dat h (.tup haF ra) g
    · cases q
  · split at q
    · cases q
      obtain ⟨a, xs, rfl, ha, ra⟩ := hv.list h.sub
      obtain ⟨b, ys, rfl, hb, rb⟩ := hw.list h.sub
      have la := ra.len
      have lb := rb.len
      exact .inr ⟨a, b, xs, ys, rfl, rfl, ha, hb, by rw [sizeL]; omega, give_lst h (ra.app rb) g⟩
    · cases q
  · cases q
theorem rd_sub (h : Hold K fa F H ρ σ A) (hv : Pk K F H v d) (hw : Pk K F H w e) (q : subF d e = some o) (g : Give K fa F H A ρ σ o Q) : rI0 (fun i j => .int (i - j)) v w H Q := by
  unfold subF at q
  split at q
  · cases q
    rw [hv.int, hw.int]
    exact ⟨_, _, rfl, rfl, give_dat h (.int _) g⟩
  · cases q
def rdMul (K : PySem.W.Frag) : R2 := fun x y H Q => (rI CMul (fun i j => .int (i * j)) x y H Q ∨ rRepT K x y H Q) ∨ rOneT K x y H Q
theorem ok_mul {X : Cx} : OpR X (binaryOp .Mult) (rdMul X.K) := (op_mul.or op_repT).or op_oneT
theorem Das.one {d : D} (r : Das K F vs [d]) : ∃ v, vs = [v] ∧ Da K F v d := by
  cases r with
  | cons h r =>
    cases r
    exact ⟨_, rfl, h⟩
theorem flat_rep {α : Type} (x : α) : ∀ n : Nat, (List.replicate n [x]).flatten = List.replicate n x
  | 0 => rfl
  | n + 1 => by
    rw [List.replicate_succ, List.flatten_cons, flat_rep x n]
    rfl
theorem rd_mul (h : Hold K fa F H ρ σ A) (hv : Pk K F H v d) (hw : Pk K F H w e) (q : mulF d e = some o) (g : Give K fa F H A ρ σ o Q) : rdMul K v w H Q := by
  unfold mulF at q
  split at q
  · split at q
    · rename_i c
      cases q
      rw [hv.int, hw.int]
      refine .inl (.inl ⟨_, _, rfl, rfl, ?_, give_dat h (.int _) g⟩)
      rcases Bool.or_eq_true_iff.mp c with c | c
      · unfold small at c
        simp only [Bool.and_eq_true, decide_eq_true_eq] at c
        exact .inl c
      · unfold small at c
        simp only [Bool.and_eq_true, decide_eq_true_eq] at c
        exact .inr c
    · cases q
  · split at q
    · rename_i n c
      cases q
      obtain ⟨a, xs, rfl, ha, haF, ra⟩ := hv.tup h.sub
      obtain ⟨u, rfl, ru⟩ := ra.one
      rw [hw.int]
      by_cases z : n = 1
      · subst z
        exact .inr ⟨a, [u], rfl, rfl, ha, give_dat h (.tup haF (.cons ru .nil)) g⟩
      · refine .inl (.inr ⟨a, n, [u], rfl, rfl, ha, List.cons_ne_nil _ _, by omega, c.2, by show 1 ≤ 1000; omega, ?_⟩)
        rw [flat_rep]
        exact give_tup h (Das.rep ru n.toNat) g
    · cases q
  · cases q
theorem rd_fdiv (h : Hold K fa F H ρ σ A) (hv : Pk K F H v d) (hw : Pk K F H w e) (q : fdivF d e = some o) (g : Give K fa F H A ρ σ o Q) : rI CDivN (fun i j => .int (i.fdiv j)) v w H Q := by
  unfold fdivF at q
  split at q
  · split at q
    · rename_i c
      cases q
      rw [hv.int, hw.int]
      exact ⟨_, _, rfl, rfl, c, give_dat h (.int _) g⟩
    · cases q
  · cases q
theorem rd_mod (h : Hold K fa F H ρ σ A) (hv : Pk K F H v d) (hw : Pk K F H w e) (q : modF d e = some o) (g : Give K fa F H A ρ σ o Q) : rI (fun _ j => j ≠ 0) (fun i j => .int (i.fmod j)) v w H Q := by
  unfold modF at q
  split at q
  · split at q
    · rename_i c
      cases q
      rw [hv.int, hw.int]
      exact ⟨_, _, rfl, rfl, c, give_dat h (.int _) g⟩
    · cases q
  · cases q
theorem rd_pow (h : Hold K fa F H ρ σ A) (hv : Pk K F H v d) (hw : Pk K F H w e) (q : powF d e = some o) (g : Give K fa F H A ρ σ o Q) : rI CPow (fun i j => .int (i ^ j.toNat)) v w H Q := by
  unfold powF at q
  split at q
  · split at q
    · rename_i c
      cases q
      rw [hv.int, hw.int]
      exact ⟨_, _, rfl, rfl, c, give_dat h (.int _) g⟩
    · cases q
  · cases q
theorem rd_cmp {p : Int → Int → Bool} (h : Hold K fa F H ρ σ A) (hv : Pk K F H v d) (hw : Pk K F H w e) (q : cmpF p d e = some o) (g : Give K fa F H A ρ σ o Q) : rI0 (fun i j => .bl (p i j)) v w H Q := by
  unfold cmpF at q
  split at q
  · cases q
    rw [hv.int, hw.int]
    exact ⟨_, _, rfl, rfl, give_dat h (.bl _) g⟩
  · cases q
def rdEq (K : PySem.W.Frag) : R2 := fun x y H Q => rEq x y H Q ∨ rEqD K x y H Q
def rdNe (K : PySem.W.Frag) : R2 := fun x y H Q => rNe x y H Q ∨ rNeD K x y H Q
theorem ok_eq {X : Cx} (hu : X.A.units + 64 < cLine) : OpR X (compareOp .Eq) (rdEq X.K) := op_eq.or (op_eqD hu)
theorem ok_ne {X : Cx} (hu : X.A.units + 64 < cLine) : OpR X (compareOp .NotEq) (rdNe X.K) := op_ne.or (op_neD hu)
theorem eqD_cases {k : Bool} (sub : Same F H) (hv : Pk K F H v d) (hw : Pk K F H w e) (q : eqD d e = some k) : (scal v w = true ∧ decide (v = w) = k) ∨ (Dp K H v d ∧ Dp K H w e ∧ SeqAt.shaped d = true ∧ SeqAt.shaped e = true ∧ PyData.eqv d e = k) := by
  unfold eqD at q
  split at q
  · cases q
    rw [hv.int, hw.int]
    exact .inl ⟨rfl, dec_int⟩
  · cases q
    rw [hv.str, hw.str]
    exact .inl ⟨rfl, dec_str⟩
  · cases q
    rw [hv.bl, hw.bl]
    exact .inl ⟨rfl, dec_bl⟩
  · cases q
    rw [hv.non, hw.non]
    exact .inl ⟨rfl, rfl⟩
  · split at q
    · rename_i c
      cases q
      obtain ⟨c1, c2⟩ := Bool.and_eq_true_iff.mp c
      exact .inr ⟨(hv.da sub).dp, (hw.da sub).dp, c1, c2, rfl⟩
    · cases q
theorem rd_eq (h : Hold K fa F H ρ σ A) (hv : Pk K F H v d) (hw : Pk K F H w e) (q : ((eqD d e).map fun k => O.dat (.bool k)) = some o) (g : Give K fa F H A ρ σ o Q) : rdEq K v w H Q := by
  obtain ⟨k, q2, rfl⟩ := Option.map_eq_some_iff.mp q
  clear q
  have q := q2
  rcases eqD_cases h.sub hv hw q with ⟨c, z⟩ | ⟨c1, c2, c3, c4, z⟩
  · exact .inl ⟨c, by rw [z]; exact give_dat h (.bl _) g⟩
  · exact .inr ⟨d, e, c1, c2, c3, c4, by rw [z]; exact give_dat h (.bl _) g⟩
theorem rd_ne (h : Hold K fa F H ρ σ A) (hv : Pk K F H v d) (hw : Pk K F H w e) (q : ((eqD d e).map fun k => O.dat (.bool (!k))) = some o) (g : Give K fa F H A ρ σ o Q) : rdNe K v w H Q := by
  obtain ⟨k, q2, rfl⟩ := Option.map_eq_some_iff.mp q
  clear q
  have q := q2
  rcases eqD_cases h.sub hv hw q with ⟨c, z⟩ | ⟨c1, c2, c3, c4, z⟩
  · exact .inl ⟨c, by rw [z]; exact give_dat h (.bl _) g⟩
  · exact .inr ⟨d, e, c1, c2, c3, c4, by rw [z]; exact give_dat h (.bl _) g⟩
theorem atI_das {i : Int} (r : Das K F vs ds) (q : atI ds i = some d) : ∃ v, atI vs i = some v ∧ Da K F v d := by
  unfold atI at q ⊢
  obtain ⟨j, h1, h2⟩ := Option.bind_eq_some_iff.mp q
  obtain ⟨v, h3, h4⟩ := r.at h2
  rw [r.len, h1]
  exact ⟨v, h3, h4⟩
theorem rd_idx (h : Hold K fa F H ρ σ A) (hv : Pk K F H v d) (hw : Pk K F H w e) (q : idxF d e = some o) (g : Give K fa F H A ρ σ o Q) : rIx K v w H Q := by
  unfold idxF at q
  split at q
  · obtain ⟨x, q2, rfl⟩ := Option.map_eq_some_iff.mp q
    clear q
    have q := q2
    obtain ⟨a, xs, rfl, ha, haF, ra⟩ := hv.tup h.sub
    obtain ⟨u, h1, h2⟩ := atI_das ra q
    rw [hw.int]
    exact .inr (.inl ⟨a, xs, _, u, rfl, rfl, ha, h1, give_dat h h2 g⟩)
  · obtain ⟨x, q2, rfl⟩ := Option.map_eq_some_iff.mp q
    clear q
    have q := q2
    obtain ⟨a, xs, rfl, ha, ra⟩ := hv.list h.sub
    obtain ⟨u, h1, h2⟩ := atI_das ra q
    rw [hw.int]
    exact .inl ⟨a, xs, _, u, rfl, rfl, ha, h1, give_dat h h2 g⟩
  · cases q
/-! ### slices -/
def rdSl (K : PySem.W.Frag) : V → Option Int → Option Int → Hp → VK → Prop := fun x lo hi H Q => rSlL K x lo hi H Q ∨ rSlA K x lo hi H Q
theorem ok_sl {X : Cx} : SlR X (rdSl X.K) := sl_list.or sl_tupA
theorem cut_das {lo hi : Option Int} (r : Das K F vs ds) : Das K F (cutV vs lo hi) (cutL ds lo hi) := by
  unfold cutV cutL
  rw [r.len]
  exact (r.drop _).take _
theorem cut_whole {α : Type} {xs : List α} {lo hi : Option Int} (h1 : HT.sIx xs.length 0 lo = 0) (h2 : HT.sIx xs.length xs.length hi = xs.length) : cutL xs lo hi = xs := by
  unfold cutL
  rw [h1, h2]
  simp
theorem rd_slc {lo hi : Option Int} (h : Hold K fa F H ρ σ A) (hv : Pk K F H v d) (q : slcO d lo hi = some o) (g : Give K fa F H A ρ σ o Q) : rdSl K v lo hi H Q := by
  unfold slcO at q
  split at q
  · cases q
    obtain ⟨a, xs, rfl, ha, ra⟩ := hv.list h.sub
    exact .inl ⟨a, xs, rfl, ha, give_lst h (cut_das ra) g⟩
  · cases q
    obtain ⟨a, xs, rfl, ha, haF, ra⟩ := hv.tup h.sub
    refine .inr ⟨a, xs, rfl, ha, fun z => ?_, fun _ => give_tup h (cut_das ra) g⟩
    rw [cut_whole (by rw [← ra.len]; exact z.1) (by rw [← ra.len]; exact z.2)] at g
    exact give_dat h (.tup haF ra) g
  · cases q
/-! ### built-ins -/
theorem rd_len (h : Hold K fa F H ρ σ A) (hv : Pk K F H v d) (q : lenF d = some o) (g : Give K fa F H A ρ σ o Q) : ∃ x n, [v] = [x] ∧ LenV K x H n ∧ Q (.int n) H := by
  unfold lenF at q
  split at q
  · cases q
    obtain ⟨a, xs, rfl, ha, ra⟩ := hv.list h.sub
    refine ⟨_, xs.length, rfl, .inl ⟨xs, ha, rfl⟩, ?_⟩
    rw [ra.len]
    exact give_dat h (.int _) g
  · cases q
    obtain ⟨a, xs, rfl, ha, haF, ra⟩ := hv.tup h.sub
    refine ⟨_, xs.length, rfl, .inr ⟨xs, ha, rfl⟩, ?_⟩
    rw [ra.len]
    exact give_dat h (.int _) g
  · split at q
    · rename_i c
      cases q
      rw [hv.str]
      exact ⟨_, _, rfl, ⟨by rw [sizeL]; exact c, rfl⟩, give_dat h (.int _) g⟩
    · cases q
  · cases q
theorem rd_neg (h : Hold K fa F H ρ σ A) (hv : Pk K F H v d) (q : negF d = some o) (g : Give K fa F H A ρ σ o Q) : rU (fun i => .int (-i)) v H Q := by
  unfold negF at q
  split at q
  · cases q
    rw [hv.int]
    exact ⟨_, rfl, give_dat h (.int _) g⟩
  · cases q
theorem rd_abs (h : Hold K fa F H ρ σ A) (hv : Pk K F H v d) (q : absF d = some o) (g : Give K fa F H A ρ σ o Q) : ∃ i, [v] = [V.int i] ∧ Q (.int (if i < 0 then -i else i)) H := by
  unfold absF at q
  split at q
  · cases q
    rw [hv.int]
    exact ⟨_, rfl, give_dat h (.int _) g⟩
  · cases q
theorem rd_int (h : Hold K fa F H ρ σ A) (hv : Pk K F H v d) (q : intF d = some o) (g : Give K fa F H A ρ σ o Q) : (∃ i, [v] = [V.int i] ∧ Q (.int i) H) ∨ ∃ k, [v] = [V.bl k] ∧ Q (.int (if k then 1 else 0)) H := by
  unfold intF at q
  split at q
  · cases q
    rw [hv.int]
    exact .inl ⟨_, rfl, give_dat h (.int _) g⟩
  · cases q
    rw [hv.bl]
    exact .inr ⟨_, rfl, give_dat h (.int _) g⟩
  · cases q
theorem rd_tuple (h : Hold K fa F H ρ σ A) (hv : Pk K F H v d) (q : tupleF d = some o) (g : Give K fa F H A ρ σ o Q) :
    ∃ p ys, [v] = [V.ref p] ∧ ((SqL K H p ys ∧ ∀ l, H l = none → Q (.ref l) (L2.upd H l (.tup ys))) ∨ (SqT K H p ys ∧ Q (.ref p) H)) := by
  unfold tupleF at q
  split at q
  · cases q
    obtain ⟨a, xs, rfl, ha, ra⟩ := hv.list h.sub
    exact ⟨a, xs, rfl, .inl ⟨ha, give_tup h ra g⟩⟩
  · cases q
    obtain ⟨a, xs, rfl, ha, haF, ra⟩ := hv.tup h.sub
    exact ⟨a, xs, rfl, .inr ⟨ha, give_dat h (.tup haF ra) g⟩⟩
  · cases q
theorem rd_list (h : Hold K fa F H ρ σ A) (hv : Pk K F H v d) (q : listF d = some o) (g : Give K fa F H A ρ σ o Q) :
    ∃ p ys, [v] = [V.ref p] ∧ (SqL K H p ys ∨ SqT K H p ys) ∧ ∀ l, H l = none → Q (.ref l) (L2.upd H l (.lst ys)) := by
  unfold listF at q
  split at q
  · cases q
    obtain ⟨a, xs, rfl, ha, ra⟩ := hv.list h.sub
    exact ⟨a, xs, rfl, .inl (ha), give_lst h ra g⟩
  · cases q
    obtain ⟨a, xs, rfl, ha, haF, ra⟩ := hv.tup h.sub
    exact ⟨a, xs, rfl, .inr ha, give_lst h ra g⟩
  · cases q
theorem rd_sum (h : Hold K fa F H ρ σ A) (hv : Pk K F H v d) (q : sumF d = some o) (g : Give K fa F H A ρ σ o Q) : rSum K [v] H Q := by
  unfold sumF at q
  split at q
  · obtain ⟨ns, q2, rfl⟩ := Option.map_eq_some_iff.mp q
    clear q
    have q := q2
    obtain ⟨a, xs, rfl, ha, ra⟩ := hv.list h.sub
    rw [ra.int q] at ha
    exact ⟨a, ns, rfl, ha, give_dat h (.int _) g⟩
  · cases q
theorem rd_repr (h : Hold K fa F H ρ σ A) (hv : Pk K F H v d) (q : reprF d = some o) (g : Give K fa F H A ρ σ o Q) : rRepr K [v] H Q := by
  unfold reprF at q
  split at q
  · rename_i c
    cases q
    exact ⟨v, d, rfl, (hv.da h.sub).dp, c, give_dat h (.str _) g⟩
  · cases q
end
end EV

/-! EV, part 5: readings by runs; argument lists. Own work. -/
namespace EV
open PySem L2
theorem bnd_ok {α β : Type} {m : M α} {f : α → M β} {ρ ρ' : Env} {b : β} (h : bnd m f ρ = .ok b ρ') : ∃ a ρ1, m ρ = .ok a ρ1 ∧ f a ρ1 = .ok b ρ' := by
  unfold bnd at h
  split at h
  · exact ⟨_, _, by assumption, h⟩
  · cases h
theorem opt_ok {α : Type} {o : Option α} {a : α} {ρ ρ' : Env} (h : opt o ρ = .ok a ρ') : o = some a ∧ ρ' = ρ := by
  unfold opt at h
  split at h
  · cases h
    exact ⟨rfl, rfl⟩
  · cases h
theorem pur_ok {α : Type} {x a : α} {ρ ρ' : Env} (h : pur x ρ = .ok a ρ') : x = a ∧ ρ' = ρ := by
  unfold pur at h
  cases h
  exact ⟨rfl, rfl⟩
section
variable (K : PySem.W.Frag) (fa : Nat → Addr)
/-- a reading by a run that gives a value; a truth; nothing -/
def tR (m : M O) : TE := fun σ H Q => ∃ F ρ A o ρ', Hold K fa F H ρ σ A ∧ m ρ = .ok o ρ' ∧ Give K fa F H A ρ' σ o Q
def tK (m : M Bool) : TT := fun σ H Q => ∃ F ρ A b ρ', Hold K fa F H ρ σ A ∧ m ρ = .ok b ρ' ∧ ∀ F' H' A', Hold K fa F' H' ρ' σ A' → Ext F H A F' H' A' → Q b H'
inductive ArgR (F : Hp) (σ : List (Option V)) : Arg → V → Prop where
  | val {o : O} {v : V} : RO K fa F F o v [] → ArgR F σ (.val o) v
  | ref {i : Nat} {v : V} : σ[i]? = some (some v) → ArgR F σ (.ref i) v
inductive ArgsR (F : Hp) (σ : List (Option V)) : List Arg → List V → Prop where
  | nil : ArgsR F σ [] []
  | cons {a : Arg} {v : V} {as : List Arg} {vs : List V} : ArgR K fa F σ a v → ArgsR F σ as vs → ArgsR F σ (a :: as) (v :: vs)
def tAs (c : CX) : As → TA
  | .nil => tNil
  | .ex e r => tCons (tR K fa (fro (evE c e))) (tAs c r)
  | .pl i r => tCons (tVar i) (tAs c r)
end
section
variable {K : PySem.W.Frag} {fa : Nat → Addr} {F H F' H' : Hp} {A A' : List Addr} {ρ ρ' : Env} {σ : List (Option V)} {o : O} {Q : VK} {v w : V} {d e : D} {vs : List V} {ds : List D} {c : CX}
theorem Give.up (e : Ext F H A F' H' A') (g : Give K fa F H A ρ σ o Q) : Give K fa F' H' A' ρ σ o Q := fun F2 H2 v A2 h e2 => g F2 H2 v A2 h (e.trans e2)
theorem RO.same {B : List Addr} {H1 H2 : Hp} (r : RO K fa F H1 o v []) (e : Same F F') : RO K fa F' H2 o v [] := r.stay e fun _ z => (nomatch z)
theorem ArgR.up {a : Arg} (e : Same F F') (r : ArgR K fa F σ a v) : ArgR K fa F' σ a v := by
  cases r with
  | val r => exact .val (r.same (B := []) e)
  | ref h => exact .ref h
theorem ArgsR.up {as : List Arg} (e : Same F F') (r : ArgsR K fa F σ as vs) : ArgsR K fa F' σ as vs := by
  induction r with
  | nil => exact .nil
  | cons a _ ih => exact .cons (a.up e) ih
theorem PE.weak {X : Cx} {x : Expr} {t t' : TE} (h : PE X x t) (w : ∀ σ H Q, t' σ H Q → t σ H Q) : PE X x t' := ⟨fun pins s σ H Q I q => h.run pins s σ H Q I (w σ H Q q)⟩
theorem PT.weak {X : Cx} {x : Expr} {t t' : TT} (h : PT X x t) (w : ∀ σ H Q, t' σ H Q → t σ H Q) : PT X x t' := ⟨fun pins s σ H Q I q => h.run pins s σ H Q I (w σ H Q q)⟩
theorem PA.weak {X : Cx} {x : List Expr} {t t' : TA} (h : PA X x t) (w : ∀ σ H Q, t' σ H Q → t σ H Q) : PA X x t' := ⟨fun pos pins s σ H Q I q => h.run pos pins s σ H Q I (w σ H Q q)⟩
theorem PS.weak {X : Cx} {x : Stmt} {t t' : TS} (h : PS X x t) (w : ∀ D σ H, t' D σ H → t D σ H) : PS X x t' := ⟨fun pins s σ H D I q => h.run pins s σ H D I (w D σ H q)⟩
theorem PI.weak {X : Cx} {tg x : Expr} {t t' : TI} (h : PI X tg x t) (w : ∀ σ H R, t' σ H R → t σ H R) : PI X tg x t' := ⟨fun pins s σ H R I q => h.run pins s σ H R I (w σ H R q)⟩
theorem PG.or {X : Cx} {x : Expr} {t t' : TG} (h : PG X x t) (h' : PG X x t') : PG X x (fun v σ H Q => t v σ H Q ∨ t' v σ H Q) :=
  ⟨fun pins s σ H v u Q I r q => q.elim (h.run pins s σ H v u Q I r) (h'.run pins s σ H v u Q I r)⟩
/-- what is read becomes still -/
theorem pe_fro {X : Cx} {x : Expr} {m : M O} (h : PE X x (tR K fa m)) : PE X x (tR K fa (fro m)) := PE.weak h fun σ H Q ⟨F, ρ, A, o', ρ', hh, q, g⟩ => by
  obtain ⟨o, ρ1, q1, q2⟩ := bnd_ok q
  obtain ⟨q3, rfl⟩ := opt_ok q2
  refine ⟨F, ρ, A, o, ρ', hh, q1, fun F' H' v A' h' e => ?_⟩
  obtain ⟨F2, A2, h2, e2, _⟩ := h'.frozen q3
  exact g F2 H' v A2 h2 (e.trans e2)
theorem fro_still {m : M O} {o : O} {ρ ρ' : Env} (h : fro m ρ = .ok o ρ') : own? o = false := by
  obtain ⟨x, ρ1, _, q⟩ := bnd_ok h
  obtain ⟨q, _⟩ := opt_ok q
  cases x <;> cases q <;> rfl
theorem Hold.still {os : List O} {vs : List (Option V)} (h : Hold K fa F H (o :: os) (some v :: vs) A) (ho : own? o = false) (hn : o ≠ .hole) : RO K fa F F o v [] ∧ Hold K fa F H os vs A := by
  obtain ⟨B, A0, rfl, r, g⟩ := h.tail
  rcases r with ⟨e, _⟩ | ⟨w, e, r⟩
  · exact absurd e hn
  · cases e
    cases r with
    | dat r => exact ⟨.dat r, g⟩
    | fn i => exact ⟨.fn i, g⟩
    | lst _ _ => cases ho
theorem frz_nohole {x : O} (h : frz x = some o) : o ≠ .hole := by
  cases x <;> cases h <;> exact fun z => nomatch z
theorem fro_nohole {m : M O} {o : O} {ρ ρ' : Env} (h : fro m ρ = .ok o ρ') : o ≠ .hole := by
  obtain ⟨x, ρ1, _, q⟩ := bnd_ok h
  exact frz_nohole (opt_ok q).1
/-- what a slot shows -/
theorem Hold.slot {i : Nat} (h : Hold K fa F H ρ σ A) (hi : ρ[i]? = some o) (ho : o ≠ .hole) : ∃ v B, σ[i]? = some (some v) ∧ RO K fa F H o v B := by
  obtain ⟨A1, B, A2, x, rfl, h1, h2, _⟩ := h.upd hi
  rcases h2 with ⟨e, _⟩ | ⟨v, rfl, r⟩
  · exact absurd e ho
  · exact ⟨v, B, h1, r⟩
theorem liv_of {ρ : Env} {i : Nat} (h : livE ρ i = true) : ∃ o, ρ[i]? = some o ∧ o ≠ .hole := by
  unfold livE at h
  split at h
  · cases h
  · rename_i o hn ho
    exact ⟨o, ho, fun z => hn z⟩
  · cases h
theorem tAs_run : ∀ {as : As} {σ : List (Option V)} {F H : Hp} {A : List Addr} {ρ ρ' : Env} {xs : List Arg} {k : List V → Hp → Prop}, Hold K fa F H ρ σ A → evA c as ρ = .ok xs ρ' →
    (∀ F' H' vs A', Hold K fa F' H' ρ' σ A' → ArgsR K fa F' σ xs vs → Ext F H A F' H' A' → k vs H') → tAs K fa c as σ H k
  | .nil, σ, F, H, A, ρ, ρ', xs, k, h, q, g => by
    simp only [evA] at q
    obtain ⟨rfl, rfl⟩ := pur_ok q
    exact g F H [] A h .nil (Ext.refl _ _ _)
  | .ex x r, σ, F, H, A, ρ, ρ', xs, k, h, q, g => by
    simp only [evA] at q
    obtain ⟨o, ρ1, q1, q⟩ := bnd_ok q
    obtain ⟨o', ρ2, q2, q⟩ := bnd_ok q
    obtain ⟨ys, ρ3, q3, q⟩ := bnd_ok q
    obtain ⟨rfl, rfl⟩ := pur_ok q
    obtain ⟨q2', rfl⟩ := opt_ok q2
    have qf : fro (evE c x) ρ = .ok o' ρ2 := by
      unfold fro bnd
      rw [q1]
      exact q2
    refine ⟨F, ρ, A, o', ρ2, h, qf, fun F1 H1 v A1 h1 e1 => ?_⟩
    obtain ⟨rv, h1'⟩ := h1.still (fro_still qf) (fro_nohole qf)
    refine tAs_run (as := r) h1' q3 (fun F' H' vs A' h' ra e' => ?_)
    exact g F' H' (v :: vs) A' h' (.cons (.val (rv.same (B := []) e'.le)) ra) (e1.trans e')
  | .pl i r, σ, F, H, A, ρ, ρ', xs, k, h, q, g => by
    simp only [evA] at q
    split at q
    · rename_i hl
      obtain ⟨ys, ρ3, q3, q⟩ := bnd_ok q
      obtain ⟨rfl, rfl⟩ := pur_ok q
      obtain ⟨o, ho, hn⟩ := liv_of hl
      obtain ⟨v, B, hv, _⟩ := h.slot ho hn
      refine ⟨v, hv, tAs_run (as := r) h q3 (fun F' H' vs A' h' ra e' => ?_)⟩
      exact g F' H' (v :: vs) A' h' (.cons (.ref hv) ra) e'
    · cases q
/-- arguments looked at -/
theorem peeks_pks {xs : List Arg} (h : Hold K fa F H ρ σ A) (r : ArgsR K fa F σ xs vs) : ∀ {ds : List D}, peeks ρ xs = some ds → Pks K F H vs ds := by
  induction r with
  | nil =>
    intro ds q
    cases q
    exact .nil
  | @cons a v as vs ra _ ih =>
    intro ds q
    cases ra with
    | @val o _ ro =>
      unfold peeks at q
      obtain ⟨d, q1, q⟩ := Option.bind_eq_some_iff.mp q
      obtain ⟨ds', q2, rfl⟩ := Option.map_eq_some_iff.mp q
      refine .cons ?_ (ih q2)
      cases ro with
      | dat r =>
        cases q1
        exact .fr r
      | fn i => cases q1
    | @ref i _ hv =>
      unfold peeks at q
      obtain ⟨d, q1, q⟩ := Option.bind_eq_some_iff.mp q
      obtain ⟨ds', q2, rfl⟩ := Option.map_eq_some_iff.mp q
      refine .cons ?_ (ih q2)
      unfold peek at q1
      obtain ⟨o, q3, q4⟩ := Option.bind_eq_some_iff.mp q1
      obtain ⟨w, B, h1, h2⟩ := h.slot q3 (by
        rintro rfl
        cases q4)
      rw [hv] at h1
      cases h1
      cases h2 with
      | dat r =>
        cases q4
        exact .fr r
      | fn i => cases q4
      | lst hp r =>
        cases q4
        exact .own hp r
end
end EV

/-! EV, part 6: expressions: how a written one is compared with its code, and that it does what the code says. Own work. -/
namespace EV
open PySem L2
open PySem.Spec PyProof.Rows
/-- what is promised of a def by its runs -/
def spC (K : PySem.W.Frag) (fa : Nat → Addr) (call : Nat → List O → FR) (f : Nat) : List V → Hp → VK → Prop := fun vs H Q =>
  ∃ F os A o ps, Hold K fa F H os (vs.map some) A ∧ call f os = .ok o ps ∧ ∀ F' H' v A', Hold K fa F' H' (o :: ps) (some v :: vs.map some) A' → Ext F H A F' H' A' → Q v H'
/-- a def keeps a promise wherever no repr runs -/
structure FnG (P : Program) (w : World) (K : PySem.W.Frag) (mg : Str → Option Value) (base : Heap) (k : Nat) (f : Addr) (fd : FuncData) (ps : List Str) (sp : List V → Hp → VK → Prop) : Prop where
  len : ∀ vs H Q, sp vs H Q → vs.length = ps.length
  run : ∀ (A : Around) (outer : List PySem.Env) (s : Shared) (H : Hp) (args : Args) (us : List Value) (vs : List V) (Q : VK), Room k A → A.guards = some [] → Env0 P w K mg base A outer s H →
    BindsTo s fd args (ps.zip us) → Vals vs us → sp vs H Q → codeAny (model P w) A (.call (.ref f) args) (fun r s' => ∃ u, r = .ok (.ret u) ∧ CE outer P w H s Q u s') s
def bltNames : List Str := ["len", "abs", "int", "tuple", "list", "sum", "repr", "range", "zip"]
/-- where a body's code runs: its scope, names, the defs that it may call -/
structure Cok (names : List Str) (fa : Nat → Addr) (c : CX) (k : Nat) (sc : Scope) (N : List Str) (fnb : Str → Bool) (X : Cx) : Prop where
  sc : X.env.scope = sc
  nN : X.N = N
  nd : N.Nodup
  fn : X.fn = fnb
  calm : X.calm = true
  gd : X.A.guards = some []
  room : Room k X.A
  blt : ∀ x ∈ bltNames, X.mg x = none
  defs : ∀ f x, names[f]? = some x → X.mg x = some (.ref (fa f)) ∧ PySem.W.keepIn X.K (.ref (fa f)) = true ∧
    ∃ fd ps, FnG X.prog X.w X.K X.mg X.base k (fa f) fd ps (spC X.K fa c.call f) ∧ Binds X.K fd ps []

/-! ### comparing -/
def visB (sc : Scope) (x : Str) : Bool := decide (sc.names.lookup x = some .local) || (decide (sc.names.lookup x = some .cell) || decide (sc.names.lookup x = some .free))
def gloB (sc : Scope) (x : Str) : Bool := decide (sc.names.lookup x = some .globalImplicit)
def plainNm (x : Str) : Bool := !(x == ("__debug__" : Str)) && (!(x == ("__classdict__" : Str)) && decide (x ≠ ("__name__" : Str)))
def nameB (N : List Str) (sc : Scope) (i : Nat) : Expr → Bool
  | .Name x _ => decide (N[i]? = some x) && (visB sc x && plainNm x)
  | _ => false
def conB : D → Expr → Bool
  | .int i, .Constant (.int j) _ _ => decide (i = j)
  | .bool i, .Constant (.bool j) _ _ => decide (i = j)
  | .none, .Constant .none _ _ => true
  | .str i, .Constant (.str j) _ _ => decide (i = j)
  | _, _ => false
def opB : Op → Option Operator
  | .add => some .Add | .sub => some .Sub | .mul => some .Mult | .fdiv => some .FloorDiv | .mod => some .Mod | .pow => some .Pow
  | _ => none
def opC : Op → Option CmpOp
  | .eq => some .Eq | .ne => some .NotEq | .lt => some .Lt | .le => some .LtE | .gt => some .Gt | .ge => some .GtE
  | _ => none
def opN : Op → Option Str
  | .len => some "len" | .abs => some "abs" | .int => some "int" | .tuple => some "tuple" | .list => some "list" | .sum => some "sum" | .repr => some "repr"
  | _ => none
def sliceB : Expr → Bool
  | .Slice .. => true
  | _ => false
def starB : Expr → Bool
  | .Starred .. => true
  | _ => false
def As.noPl : As → Bool
  | .nil => true
  | .ex _ r => r.noPl
  | .pl _ _ => false
def As.ex2 : As → Bool
  | .ex _ (.ex _ (.ex _ .nil)) => true
  | .pl _ (.ex _ (.ex _ .nil)) => true
  | _ => false
def appB (sc : Scope) (np x2 : Bool) (k : List Expr → Bool) (f : Op) : Expr → Bool
  | .BinOp a op b _ => decide (opB f = some op) && k [a, b]
  | .Compare a [op] [b] _ => decide (opC f = some op) && k [a, b]
  | .UnaryOp .USub a _ => (match f with | .neg => true | _ => false) && k [a]
  | .Subscript a (.Slice none none none _) _ => (match f with | .slc false false => true | _ => false) && k [a]
  | .Subscript a (.Slice (some lo) none none _) _ => (match f with | .slc true false => true | _ => false) && k [a, lo]
  | .Subscript a (.Slice none (some hi) none _) _ => (match f with | .slc false true => true | _ => false) && k [a, hi]
  | .Subscript a (.Slice (some lo) (some hi) none _) _ => (match f with | .slc true true => true | _ => false) && (x2 && k [a, lo, hi])
  | .Subscript a b _ => (match f with | .idx => true | _ => false) && (!sliceB b && k [a, b])
  | .Tuple es _ _ => (match f with | .tup => true | _ => false) && (np && k es)
  | .List es _ => (match f with | .lst => true | _ => false) && (np && k es)
  | .Call (.Name g _) [a] [] _ => decide (opN f = some g) && (gloB sc g && k [a])
  | _ => false
section
variable {X : Cx} {names : List Str} {fa : Nat → Addr} {c : CX} {k : Nat} {sc : Scope} {N : List Str} {fnb : Str → Bool}
variable {as : As} {e : Expr} {o : O} {ρ ρ' : Env} {F H : Hp} {A : List Addr} {σ : List (Option V)}
theorem vis_of (ok : Cok names fa c k sc N fnb X) {x : Str} (h : visB sc x = true) : Vis X.env.scope x := by
  rw [ok.sc]
  unfold visB at h
  simp only [Bool.or_eq_true, decide_eq_true_eq] at h
  exact h
theorem glo_of (ok : Cok names fa c k sc N fnb X) {x : Str} (h : gloB sc x = true) : Gl X x := by
  show X.env.scope.names.lookup x = _
  rw [ok.sc]
  exact of_decide_eq_true h
theorem plain_of {x : Str} (h : plainNm x = true) : (x == ("__debug__" : Str)) = false ∧ (x == ("__classdict__" : Str)) = false ∧ x ≠ ("__name__" : Str) := by
  unfold plainNm at h
  simp only [Bool.and_eq_true, Bool.not_eq_true', decide_eq_true_eq] at h
  exact h
theorem pe_slot (ok : Cok names fa c k sc N fnb X) {i : Nat} (h : nameB N sc i e = true) : PE X e (tVar i) := by
  unfold nameB at h
  split at h
  · rename_i x p
    simp only [Bool.and_eq_true, decide_eq_true_eq] at h
    obtain ⟨h1, h2, h3⟩ := h
    obtain ⟨p1, p2, p3⟩ := plain_of h3
    exact pe_var (by rw [ok.nN]; exact h1) (vis_of ok h2) p1 p2
  · cases h
theorem pe_con_ (h : conB d e = true) : PE X e (tR X.K fa (pur (.dat d))) := by
  have fin : ∀ {v : V} {d : D} {σ : List (Option V)} {H : Hp} {Q : VK}, (∀ F, Da X.K F v d) → tR X.K fa (pur (.dat d)) σ H Q → Q v H := by
    rintro v d σ H Q r ⟨F, ρ, A, o, ρ', h, q, g⟩
    obtain ⟨rfl, rfl⟩ := pur_ok q
    exact give_dat h (r F) g
  unfold conB at h
  split at h
  · obtain rfl := of_decide_eq_true h
    exact PE.weak pe_int fun σ H Q => fin fun _ => .int _
  · obtain rfl := of_decide_eq_true h
    exact PE.weak pe_bl fun σ H Q => fin fun _ => .bl _
  · exact PE.weak pe_non fun σ H Q => fin fun _ => .non
  · obtain rfl := of_decide_eq_true h
    exact PE.weak pe_str fun σ H Q => fin fun _ => .str _
  · cases h
theorem pe_vr (ok : Cok names fa c k sc N fnb X) {i : Nat} (h : nameB N sc i e = true) : PE X e (tR X.K fa (rdVar i)) := by
  refine PE.weak (pe_slot ok h) fun σ H Q ⟨F, ρ, A, o, ρ', hh, q, g⟩ => ?_
  unfold rdVar at q
  split at q
  · rename_i d hd
    cases q
    obtain ⟨v, B, h1, h2⟩ := hh.slot hd (fun z => nomatch z)
    cases h2 with
    | dat r => exact ⟨v, h1, give_dat hh r g⟩
  · rename_i f hf
    cases q
    obtain ⟨v, B, h1, h2⟩ := hh.slot hf (fun z => nomatch z)
    cases h2 with
    | fn => exact ⟨_, h1, g F H _ A (hh.dat (.fn f)) (Ext.refl _ _ _)⟩
  · rename_i ds hd
    cases q
    obtain ⟨v, A1, h1, h2, h3⟩ := hh.out hd (fun z => nomatch z)
    obtain ⟨F2, A2, h4, e4⟩ := h3.freeze
    obtain ⟨rv, h5⟩ := h4.still rfl (fun z => nomatch z)
    obtain ⟨A3, s3, h6⟩ := h4.into (i := i) (by rw [List.getElem?_set_self (List.getElem?_eq_some_iff.mp hd).1]) h1
    rw [List.set_set] at h6
    refine ⟨v, h1, g F2 H v A3 (h6.dat (rv.same (B := []) (Same.refl _))) ?_⟩
    exact (e4.fewer s3).more fun a z => (h2 a).mp z
  · cases q

/-! ### arguments -/
/-- each argument does what its code says -/
def SAs (X : Cx) (fa : Nat → Addr) (c : CX) : As → List Expr → Prop
  | .nil, [] => True
  | .ex i r, x :: xs => PE X x (tR X.K fa (fro (evE c i))) ∧ starB x = false ∧ SAs X fa c r xs
  | .pl i r, x :: xs => PE X x (tVar i) ∧ starB x = false ∧ SAs X fa c r xs
  | _, _ => False
theorem star_cons {env : PySem.Env} {x : Expr} {xs : List Expr} (h : starB x = false) : starEach (x :: xs) env = (false, eval x env) :: starEach xs env := by
  cases x <;> first | rfl | cases h
theorem SAs.pa : ∀ {as : As} {es : List Expr}, SAs X fa c as es → PA X es (tAs X.K fa c as)
  | .nil, [], _ => pa_nil
  | .ex i r, x :: xs, ⟨h, s, t⟩ => pa_cons h (SAs.pa t) (star_cons s)
  | .pl i r, x :: xs, ⟨h, s, t⟩ => pa_cons h (SAs.pa t) (star_cons s)
theorem SAs.stars {env : PySem.Env} {pos : Pos} : ∀ {as : As} {es : List Expr}, SAs X fa c as es → (backTo pos (starEach es env)).any (·.1) = false
  | .nil, [], _ => rfl
  | .ex i r, x :: xs, ⟨h, s, t⟩ => by
    rw [star_cons s]
    exact SAs.stars (as := r) t
  | .pl i r, x :: xs, ⟨h, s, t⟩ => by
    rw [star_cons s]
    exact SAs.stars (as := r) t
theorem SAs.one {a : Expr} (h : SAs X fa c as [a]) : ∃ ta, PE X a ta ∧ starB a = false ∧ ∀ σ H kk, tAs X.K fa c as σ H kk → ta σ H fun x H1 => kk [x] H1 := by
  cases as with
  | nil => cases h
  | ex i r =>
    obtain ⟨h1, h2, h3⟩ := h
    cases r with
    | nil => exact ⟨_, h1, h2, fun _ _ _ q => q⟩
    | ex _ _ => cases h3
    | pl _ _ => cases h3
  | pl i r =>
    obtain ⟨h1, h2, h3⟩ := h
    cases r with
    | nil => exact ⟨_, h1, h2, fun _ _ _ q => q⟩
    | ex _ _ => cases h3
    | pl _ _ => cases h3
theorem SAs.cons {a : Expr} {es : List Expr} (h : SAs X fa c as (a :: es)) : ∃ ta r, PE X a ta ∧ starB a = false ∧ SAs X fa c r es ∧ ∀ σ H kk, tAs X.K fa c as σ H kk → ta σ H fun x H1 => tAs X.K fa c r σ H1 fun xs H2 => kk (x :: xs) H2 := by
  cases as with
  | nil => cases h
  | ex i r => exact ⟨_, r, h.1, h.2.1, h.2.2, fun _ _ _ q => q⟩
  | pl i r => exact ⟨_, r, h.1, h.2.1, h.2.2, fun _ _ _ q => q⟩
theorem tR_mono {m : M O} {Q Q' : VK} (h : ∀ v H, Q v H → Q' v H) (q : tR X.K fa m σ H Q) : tR X.K fa m σ H Q' := by
  obtain ⟨F, ρ, A, o, ρ', h1, h2, g⟩ := q
  exact ⟨F, ρ, A, o, ρ', h1, h2, fun F' H' v A' h3 e => h _ _ (g F' H' v A' h3 e)⟩
theorem SAs.two {a b : Expr} (h : SAs X fa c as [a, b]) : ∃ ta tb, PE X a ta ∧ PE X b tb ∧ ∀ σ H kk, tAs X.K fa c as σ H kk → ta σ H fun x H1 => tb σ H1 fun y H2 => kk [x, y] H2 := by
  cases as with
  | nil => cases h
  | ex i r =>
    obtain ⟨h1, h2, h3⟩ := h
    obtain ⟨tb, h4, _, h5⟩ := SAs.one (as := r) h3
    exact ⟨_, tb, h1, h4, fun σ H kk q => tR_mono (fun v H1 q => h5 σ H1 _ q) q⟩
  | pl i r =>
    obtain ⟨h1, h2, h3⟩ := h
    obtain ⟨tb, h4, _, h5⟩ := SAs.one (as := r) h3
    exact ⟨_, tb, h1, h4, fun σ H kk ⟨v, q1, q⟩ => ⟨v, q1, h5 σ H _ q⟩⟩
theorem SAs.three {a b d : Expr} (h : SAs X fa c as [a, b, d]) : ∃ ta tb td, PE X a ta ∧ PE X b tb ∧ PE X d td ∧ ∀ σ H kk, tAs X.K fa c as σ H kk → ta σ H fun x H1 => tb σ H1 fun y H2 => td σ H2 fun z H3 => kk [x, y, z] H3 := by
  cases as with
  | nil => cases h
  | ex i r =>
    obtain ⟨h1, h2, h3⟩ := h
    obtain ⟨tb, td, h4, h6, h5⟩ := SAs.two (as := r) h3
    exact ⟨_, tb, td, h1, h4, h6, fun σ H kk q => tR_mono (fun v H1 q => h5 σ H1 _ q) q⟩
  | pl i r =>
    obtain ⟨h1, h2, h3⟩ := h
    obtain ⟨tb, td, h4, h6, h5⟩ := SAs.two (as := r) h3
    exact ⟨_, tb, td, h1, h4, h6, fun σ H kk ⟨v, q1, q⟩ => ⟨v, q1, h5 σ H _ q⟩⟩

/-! ### operations -/
theorem app_ok {f : Op} (h : evE c (.app f as) ρ = .ok o ρ') : ∃ xs ds, evA c as ρ = .ok xs ρ' ∧ peeks ρ' xs = some ds ∧ appF f ds = some o := by
  simp only [evE] at h
  obtain ⟨xs, ρ1, h1, h2⟩ := bnd_ok h
  split at h2
  · rename_i o' q
    cases h2
    obtain ⟨ds, q1, q2⟩ := Option.bind_eq_some_iff.mp q
    exact ⟨xs, ds, h1, q1, q2⟩
  · cases h2
/-- what an operation's rule asks, from its arguments' run -/
theorem app_read {f : Op} {rd : List V → Hp → VK → Prop} {Q : VK} (hop : ∀ {F H : Hp} {A : List Addr} {ρ : Env} {vs : List V} {ds : List D} {o : O}, Hold X.K fa F H ρ σ A → Pks X.K F H vs ds → appF f ds = some o → Give X.K fa F H A ρ σ o Q → rd vs H Q)
    (q : tR X.K fa (evE c (.app f as)) σ H Q) : tAs X.K fa c as σ H fun vs H' => rd vs H' Q := by
  obtain ⟨F, ρ, A, o, ρ', h, q, g⟩ := q
  obtain ⟨xs, ds, q1, q2, q3⟩ := app_ok q
  exact tAs_run h q1 fun F' H' vs A' h' ra e => hop h' (peeks_pks h' ra q2) q3 (g.up e)
end
end EV

/-! EV, part 7: operations, tests, calls. Own work. -/
namespace EV
open PySem L2
open PySem.Spec PyProof.Rows
section
variable {X : Cx} {names : List Str} {fa : Nat → Addr} {c : CX} {k : Nat} {sc : Scope} {N : List Str} {fnb : Str → Bool}
variable {as : As} {e a b : Expr} {es : List Expr} {o : O} {ρ ρ' : Env} {F H : Hp} {A : List Addr} {σ : List (Option V)}
theorem Pks.one {K : PySem.W.Frag} {v : V} {ds : List D} (h : Pks K F H [v] ds) : ∃ d, ds = [d] ∧ Pk K F H v d := by
  cases h with
  | cons p r =>
    cases r
    exact ⟨_, rfl, p⟩
theorem Pks.two {K : PySem.W.Frag} {v w : V} {ds : List D} (h : Pks K F H [v, w] ds) : ∃ d e, ds = [d, e] ∧ Pk K F H v d ∧ Pk K F H w e := by
  cases h with
  | cons p r =>
    obtain ⟨e, rfl, q⟩ := r.one
    exact ⟨_, e, rfl, p, q⟩
theorem Pks.three {K : PySem.W.Frag} {v w u : V} {ds : List D} (h : Pks K F H [v, w, u] ds) : ∃ d e f, ds = [d, e, f] ∧ Pk K F H v d ∧ Pk K F H w e ∧ Pk K F H u f := by
  cases h with
  | cons p r =>
    obtain ⟨e, f, rfl, q, q2⟩ := r.two
    exact ⟨_, e, f, rfl, p, q, q2⟩
def k1 (r : V → Hp → VK → Prop) : List V → Hp → VK → Prop
  | [x], H, Q => r x H Q
  | _, _, _ => True
def k2 (r : R2) : List V → Hp → VK → Prop
  | [x, y], H, Q => r x y H Q
  | _, _, _ => True
/-- a rule for two values, from what its operation does -/
theorem bin_read {f : Op} {r : R2} {a b : Expr} {g : D → D → Option O} (h : SAs X fa c as [a, b]) (hf : ∀ d e, appF f [d, e] = g d e)
    (hr : ∀ {F H : Hp} {A : List Addr} {ρ : Env} {σ : List (Option V)} {v w : V} {d e : D} {o : O} {Q : VK}, Hold X.K fa F H ρ σ A → Pk X.K F H v d → Pk X.K F H w e → g d e = some o → Give X.K fa F H A ρ σ o Q → r v w H Q) :
    ∃ ta tb, PE X a ta ∧ PE X b tb ∧ ∀ σ H Q, tR X.K fa (evE c (.app f as)) σ H Q → tOp r ta tb σ H Q := by
  obtain ⟨ta, tb, ha, hb, q⟩ := h.two
  refine ⟨ta, tb, ha, hb, fun σ H Q z => q σ H (fun vs H' => k2 r vs H' Q) (app_read (rd := k2 r) (fun {F H A ρ vs ds o} h p e g => ?_) z)⟩
  match vs, p with
  | [], _ => trivial
  | [_], _ => trivial
  | [x, y], p =>
    obtain ⟨d, e', rfl, p1, p2⟩ := p.two
    rw [hf] at e
    exact hr h p1 p2 e g
  | _ :: _ :: _ :: _, _ => trivial
theorem one_read {f : Op} {r : V → Hp → VK → Prop} {a : Expr} {g : D → Option O} (h : SAs X fa c as [a]) (hf : ∀ d, appF f [d] = g d)
    (hr : ∀ {F H : Hp} {A : List Addr} {ρ : Env} {σ : List (Option V)} {v : V} {d : D} {o : O} {Q : VK}, Hold X.K fa F H ρ σ A → Pk X.K F H v d → g d = some o → Give X.K fa F H A ρ σ o Q → r v H Q) :
    ∃ ta, PE X a ta ∧ starB a = false ∧ ∀ σ H Q, tR X.K fa (evE c (.app f as)) σ H Q → tUn r ta σ H Q := by
  obtain ⟨ta, ha, hs, q⟩ := h.one
  refine ⟨ta, ha, hs, fun σ H Q z => q σ H (fun vs H' => k1 r vs H' Q) (app_read (rd := k1 r) (fun {F H A ρ vs ds o} h p e g => ?_) z)⟩
  match vs, p with
  | [], _ => trivial
  | [_], p =>
    obtain ⟨d, rfl, p1⟩ := p.one
    rw [hf] at e
    exact hr h p1 e g
  | _ :: _ :: _, _ => trivial
theorem pe_bin (h : SAs X fa c as [a, b]) {f : Op} {op : Operator} (hf : opB f = some op) {pos : Pos} : PE X (.BinOp a op b pos) (tR X.K fa (evE c (.app f as))) := by
  cases f <;> cases hf
  · obtain ⟨ta, tb, ha, hb, w⟩ := bin_read h (f := .add) (g := addF) (fun _ _ => rfl) rd_add
    exact PE.weak (pe_op ok_add ha hb) w
  · obtain ⟨ta, tb, ha, hb, w⟩ := bin_read h (f := .sub) (g := subF) (fun _ _ => rfl) rd_sub
    exact PE.weak (pe_op op_sub ha hb) w
  · obtain ⟨ta, tb, ha, hb, w⟩ := bin_read h (f := .mul) (g := mulF) (fun _ _ => rfl) rd_mul
    exact PE.weak (pe_op ok_mul ha hb) w
  · obtain ⟨ta, tb, ha, hb, w⟩ := bin_read h (f := .fdiv) (g := fdivF) (fun _ _ => rfl) rd_fdiv
    exact PE.weak (pe_op op_fdivN ha hb) w
  · obtain ⟨ta, tb, ha, hb, w⟩ := bin_read h (f := .mod) (g := modF) (fun _ _ => rfl) rd_mod
    exact PE.weak (pe_op op_modN ha hb) w
  · obtain ⟨ta, tb, ha, hb, w⟩ := bin_read h (f := .pow) (g := powF) (fun _ _ => rfl) rd_pow
    exact PE.weak (pe_op op_pow ha hb) w
/-- a comparison: as a value, as a test -/
theorem pe_cmpO (ok : Cok names fa c k sc N fnb X) (h : SAs X fa c as [a, b]) {f : Op} {op : CmpOp} (hf : opC f = some op) {pos : Pos} :
    PE X (.Compare a [op] [b] pos) (tR X.K fa (evE c (.app f as))) ∧ PT X (.Compare a [op] [b] pos) (tTest (tR X.K fa (evE c (.app f as)))) := by
  have hu : X.A.units + 64 < cLine := ok.room.units
  have both : ∀ {r : R2} {op : CmpOp} {ta tb : TE} (hn1 : op ≠ .In) (hn2 : op ≠ .NotIn), OpR X (compareOp op) r → PE X a ta → PE X b tb → (∀ σ H Q, tR X.K fa (evE c (.app f as)) σ H Q → tOp r ta tb σ H Q) →
      PE X (.Compare a [op] [b] pos) (tR X.K fa (evE c (.app f as))) ∧ PT X (.Compare a [op] [b] pos) (tTest (tR X.K fa (evE c (.app f as)))) := fun n1 n2 ho ha hb w =>
    ⟨PE.weak (pe_cmpR ho ha hb (nomark _ n1 n2)) w, PT.weak (pt_cmpR ho ha hb (nomark _ n1 n2)) fun σ H Q z => w σ H _ z⟩
  cases f <;> cases hf
  · obtain ⟨ta, tb, ha, hb, w⟩ := bin_read h (f := .eq) (g := fun d e => (eqD d e).map fun k => .dat (.bool k)) (fun _ _ => rfl) rd_eq
    exact both (by decide) (by decide) (ok_eq hu) ha hb w
  · obtain ⟨ta, tb, ha, hb, w⟩ := bin_read h (f := .ne) (g := fun d e => (eqD d e).map fun k => .dat (.bool (!k))) (fun _ _ => rfl) rd_ne
    exact both (by decide) (by decide) (ok_ne hu) ha hb w
  · obtain ⟨ta, tb, ha, hb, w⟩ := bin_read h (f := .lt) (fun _ _ => rfl) rd_cmp
    exact both (by decide) (by decide) op_lt ha hb w
  · obtain ⟨ta, tb, ha, hb, w⟩ := bin_read h (f := .le) (fun _ _ => rfl) rd_cmp
    exact both (by decide) (by decide) op_le ha hb w
  · obtain ⟨ta, tb, ha, hb, w⟩ := bin_read h (f := .gt) (fun _ _ => rfl) rd_cmp
    exact both (by decide) (by decide) op_gt ha hb w
  · obtain ⟨ta, tb, ha, hb, w⟩ := bin_read h (f := .ge) (fun _ _ => rfl) rd_cmp
    exact both (by decide) (by decide) op_ge ha hb w
theorem plain_ix {b : Expr} (h : sliceB b = false) : PlainIx b := fun o i => by
  cases b <;> first | rfl | cases h
theorem blt_read {f : Op} {r : List V → Hp → VK → Prop} {g : D → Option O} (h1 : ∀ d, appF f [d] = g d) (h2 : ∀ {ds : List D} {o : O}, appF f ds = some o → ∃ d, ds = [d])
    (hr : ∀ {F H : Hp} {A : List Addr} {ρ : Env} {σ : List (Option V)} {v : V} {d : D} {o : O} {Q : VK}, Hold X.K fa F H ρ σ A → Pk X.K F H v d → g d = some o → Give X.K fa F H A ρ σ o Q → r [v] H Q) :
    ∀ σ H Q, tR X.K fa (evE c (.app f as)) σ H Q → tCB r (tAs X.K fa c as) σ H Q := fun σ H Q z => app_read (rd := r) (fun {F H A ρ vs ds o} h p e g => by
  obtain ⟨d, rfl⟩ := h2 e
  rw [h1] at e
  cases p with
  | cons p q =>
    cases q
    exact hr h p e g) z
theorem one_only {f : Op} (hf : ∀ ds, appF f ds = opF f ds) (h2 : ∀ a b, bin2 f a b = none) {ds : List D} {o : O} (h : appF f ds = some o) : ∃ d, ds = [d] := by
  rw [hf] at h
  match ds, h with
  | [d], _ => exact ⟨d, rfl⟩
  | [a, b], h =>
    have h : bin2 f a b = some o := h
    rw [h2] at h
    cases h
/-- a call of a built-in of one value -/
theorem pe_blt (ok : Cok names fa c k sc N fnb X) {a : Expr} (h : SAs X fa c as [a]) {f : Op} {g : Str} (hf : opN f = some g) (hg : gloB sc g = true) {p pos : Pos} : PE X (.Call (.Name g p) [a] [] pos) (tR X.K fa (evE c (.app f as))) := by
  have hG := glo_of ok hg
  obtain ⟨_, _, hs, _⟩ := h.one
  have hu : X.A.units + 64 < cLine := ok.room.units
  cases f <;> cases hf
  · exact PE.weak (pe_callB call_len hG (ok.blt _ (by decide)) (by decide +kernel) h.pa (by decide) (by decide) (star_cons hs) rfl) (blt_read (fun _ => rfl) (one_only (fun _ => rfl) fun _ _ => rfl) rd_len)
  · exact PE.weak (pe_callB call_abs hG (ok.blt _ (by decide)) (by decide +kernel) h.pa (by decide) (by decide) (star_cons hs) rfl) (blt_read (fun _ => rfl) (one_only (fun _ => rfl) fun _ _ => rfl) rd_abs)
  · exact PE.weak (pe_callTy call_int1 hG (ok.blt _ (by decide)) (by decide +kernel) h.pa (by decide) (by decide) (star_cons hs) rfl) (blt_read (fun _ => rfl) (one_only (fun _ => rfl) fun _ _ => rfl) rd_int)
  · exact PE.weak (pe_callTy call_tuple_of hG (ok.blt _ (by decide)) (by decide +kernel) h.pa (by decide) (by decide) (star_cons hs) rfl) (blt_read (fun _ => rfl) (one_only (fun _ => rfl) fun _ _ => rfl) rd_tuple)
  · exact PE.weak (pe_callTy call_list_of hG (ok.blt _ (by decide)) (by decide +kernel) h.pa (by decide) (by decide) (star_cons hs) rfl) (blt_read (fun _ => rfl) (one_only (fun _ => rfl) fun _ _ => rfl) rd_list)
  · exact PE.weak (pe_callB (cr_sum ok.calm) hG (ok.blt _ (by decide)) (by decide +kernel) h.pa (by decide) (by decide) (star_cons hs) rfl) (blt_read (fun _ => rfl) (one_only (fun _ => rfl) fun _ _ => rfl) rd_sum)
  · exact PE.weak (pe_callB (call_reprD ok.gd hu) hG (ok.blt _ (by decide)) (by decide +kernel) h.pa (by decide) (by decide) (star_cons hs) rfl) (blt_read (fun _ => rfl) (one_only (fun _ => rfl) fun _ _ => rfl) rd_repr)
/-- displays -/
theorem noPl_vals : ∀ {as : As} {ρ ρ' : Env} {xs : List Arg}, as.noPl = true → evA c as ρ = .ok xs ρ' → ∀ i, Arg.ref i ∉ xs
  | .nil, ρ, ρ', xs, _, q => by
    simp only [evA] at q
    obtain ⟨rfl, rfl⟩ := pur_ok q
    exact fun _ z => (nomatch z)
  | .ex x r, ρ, ρ', xs, hn, q => by
    simp only [evA] at q
    obtain ⟨o, ρ1, q1, q⟩ := bnd_ok q
    obtain ⟨o', ρ2, q2, q⟩ := bnd_ok q
    obtain ⟨ys, ρ3, q3, q⟩ := bnd_ok q
    obtain ⟨rfl, rfl⟩ := pur_ok q
    intro i z
    rcases List.mem_cons.mp z with z | z
    · cases z
    · exact noPl_vals (as := r) hn q3 i z
  | .pl _ _, _, _, _, hn, _ => by cases hn
theorem vals_das {xs : List Arg} {vs : List V} (r : ArgsR X.K fa F σ xs vs) : (∀ i, Arg.ref i ∉ xs) → ∀ {ds : List D}, peeks ρ xs = some ds → Das X.K F vs ds := by
  induction r with
  | nil =>
    intro _ ds q
    cases q
    exact .nil
  | @cons a v as vs ra _ ih =>
    intro hn ds q
    cases ra with
    | @val o _ ro =>
      unfold peeks at q
      obtain ⟨d, q1, q⟩ := Option.bind_eq_some_iff.mp q
      obtain ⟨ds', q2, rfl⟩ := Option.map_eq_some_iff.mp q
      refine .cons ?_ (ih (fun i z => hn i (by simp [z])) q2)
      cases ro with
      | dat r =>
        cases q1
        exact r
      | fn i => cases q1
    | @ref i _ hv => exact absurd (List.mem_cons_self) (hn i)
theorem pe_disp (h : SAs X fa c as es) (hn : as.noPl = true) {pos : Pos} : (∀ x1, PE X (.Tuple es x1 pos) (tR X.K fa (evE c (.app .tup as)))) ∧ PE X (.List es pos) (tR X.K fa (evE c (.app .lst as))) := by
  refine ⟨fun x1 => PE.weak (pe_tup h.pa) fun σ H Q ⟨F, ρ, A, o, ρ', hh, q, g⟩ => ?_, PE.weak (pe_lst h.pa) fun σ H Q ⟨F, ρ, A, o, ρ', hh, q, g⟩ => ?_⟩
  · obtain ⟨xs, ds, q1, q2, q3⟩ := app_ok q
    refine tAs_run hh q1 fun F' H' vs A' h' ra e => ?_
    have r := vals_das ra (noPl_vals hn q1) q2
    have q3 : (if ds.length ≤ lim then some (O.dat (.tuple ds)) else none) = some o := q3
    split at q3
    · cases q3
      exact ⟨by rw [r.len, sizeL]; assumption, give_tup h' r (g.up e)⟩
    · cases q3
  · obtain ⟨xs, ds, q1, q2, q3⟩ := app_ok q
    refine tAs_run hh q1 fun F' H' vs A' h' ra e => ?_
    have r := vals_das ra (noPl_vals hn q1) q2
    have q3 : (if ds.length ≤ lim then some (O.lst ds) else none) = some o := q3
    split at q3
    · cases q3
      exact ⟨by rw [r.len, sizeL]; assumption, give_lst h' r (g.up e)⟩
    · cases q3
/-- slices -/
def kS (r : V → Option Int → Option Int → Hp → VK → Prop) (lo hi : Bool) : List V → Hp → VK → Prop := fun vs H Q => match lo, hi, vs with
  | false, false, [x] => r x none none H Q
  | true, false, [x, y] => ∃ i, y = .int i ∧ r x (some i) none H Q
  | false, true, [x, y] => ∃ i, y = .int i ∧ r x none (some i) H Q
  | true, true, [x, y, z] => ∃ i, y = .int i ∧ ∃ j, z = .int j ∧ r x (some i) (some j) H Q
  | _, _, _ => True
theorem sl_read {lo hi : Bool} {Q : VK} (z : tR X.K fa (evE c (.app (.slc lo hi) as)) σ H Q) : tAs X.K fa c as σ H fun vs H' => kS (rdSl X.K) lo hi vs H' Q :=
  app_read (rd := kS (rdSl X.K) lo hi) (fun {F H A ρ vs ds o} h p e g => by
    have e : slcF lo hi ds = some o := e
    unfold slcF at e
    split at e
    · obtain ⟨v, vs', rfl⟩ : ∃ v vs', vs = v :: vs' := by
        cases p
        exact ⟨_, _, rfl⟩
      cases p with
      | cons p1 p2 =>
        cases p2
        exact rd_slc h p1 e g
    · cases p with
      | cons p1 p2 =>
        cases p2 with
        | cons p2 p3 =>
          cases p3
          exact ⟨_, p2.int, rd_slc h p1 e g⟩
    · cases p with
      | cons p1 p2 =>
        cases p2 with
        | cons p2 p3 =>
          cases p3
          exact ⟨_, p2.int, rd_slc h p1 e g⟩
    · cases p with
      | cons p1 p2 =>
        cases p2 with
        | cons p2 p3 =>
          cases p3 with
          | cons p3 p4 =>
            cases p4
            exact ⟨_, p2.int, _, p3.int, rd_slc h p1 e g⟩
    · cases e) z
theorem evA_ex {x : E} {r : As} {xs : List Arg} (q : evA c (.ex x r) ρ = .ok xs ρ') : ∃ o ρ1 ys, fro (evE c x) ρ = .ok o ρ1 ∧ evA c r ρ1 = .ok ys ρ' ∧ xs = .val o :: ys := by
  simp only [evA] at q
  obtain ⟨o, ρ1, q1, q⟩ := bnd_ok q
  obtain ⟨o', ρ2, q2, q⟩ := bnd_ok q
  obtain ⟨ys, ρ3, q3, q⟩ := bnd_ok q
  obtain ⟨rfl, rfl⟩ := pur_ok q
  obtain ⟨_, rfl⟩ := opt_ok q2
  refine ⟨o', _, ys, ?_, q3, rfl⟩
  unfold fro bnd
  rw [q1]
  exact q2
theorem evA_pl {i : Nat} {r : As} {xs : List Arg} (q : evA c (.pl i r) ρ = .ok xs ρ') : livE ρ i = true ∧ ∃ ys, evA c r ρ = .ok ys ρ' ∧ xs = .ref i :: ys := by
  simp only [evA] at q
  split at q
  · rename_i hl
    obtain ⟨ys, ρ3, q3, q⟩ := bnd_ok q
    obtain ⟨rfl, rfl⟩ := pur_ok q
    exact ⟨hl, ys, q3, rfl⟩
  · cases q
theorem dat_of {x : E} {d : D} {o : O} (q : fro (evE c x) ρ = .ok o ρ') (h : toD o = some d) : o = .dat d := by
  have := fro_still q
  cases o <;> cases h <;> first | rfl | cases this
/-- two ints behind one another -/
theorem int2 {x y : E} {xs : List Arg} {kk : Int → Int → Hp → Prop} {i j : Int} (h : Hold X.K fa F H ρ σ A) (q : evA c (.ex x (.ex y .nil)) ρ = .ok xs ρ') {ds : List D} {ρ2 : Env} (hp : peeks ρ2 xs = some ds) (hd : ds = [.int i, .int j])
    (g : ∀ F' H' A', Hold X.K fa F' H' ρ' σ A' → Ext F H A F' H' A' → kk i j H') :
    tR X.K fa (fro (evE c x)) σ H fun v H1 => ∃ i, v = .int i ∧ tR X.K fa (fro (evE c y)) σ H1 fun w H2 => ∃ j, w = .int j ∧ kk i j H2 := by
  obtain ⟨o1, ρ1, ys, q1, q2, rfl⟩ := evA_ex q
  obtain ⟨o2, ρ3, zs, q3, q4, rfl⟩ := evA_ex q2
  have h4 : evA c .nil ρ3 = .ok zs ρ' := q4
  simp only [evA] at h4
  obtain ⟨rfl, rfl⟩ := pur_ok h4
  subst hd
  unfold peeks at hp
  obtain ⟨d1, p1, hp⟩ := Option.bind_eq_some_iff.mp hp
  obtain ⟨ds1, p2, hp⟩ := Option.map_eq_some_iff.mp hp
  unfold peeks at p2
  obtain ⟨d2, p3, p2⟩ := Option.bind_eq_some_iff.mp p2
  obtain ⟨ds2, p4, p2⟩ := Option.map_eq_some_iff.mp p2
  subst p2
  cases hp
  obtain rfl := dat_of q1 p1
  obtain rfl := dat_of q3 p3
  refine ⟨F, ρ, A, _, ρ1, h, q1, fun F1 H1 v A1 h1 e1 => ?_⟩
  obtain ⟨r1, h1'⟩ := h1.still rfl (fun z => nomatch z)
  cases r1 with
  | dat r1 =>
    cases r1
    refine ⟨i, rfl, F1, ρ1, A1, _, _, h1', q3, fun F2 H2 w A2 h2 e2 => ?_⟩
    obtain ⟨r2, h2'⟩ := h2.still rfl (fun z => nomatch z)
    cases r2 with
    | dat r2 =>
      cases r2
      exact ⟨j, rfl, g F2 H2 A2 h2' (e1.trans e2)⟩
theorem slc3 {d : Expr} (h : SAs X fa c as [a, b, d]) (hx : as.ex2 = true) {p2 pos : Pos} : PE X (.Subscript a (.Slice (some b) (some d) none p2) pos) (tR X.K fa (evE c (.app (.slc true true) as))) := by
  unfold As.ex2 at hx
  have fin : ∀ {ds : List D} {o : O} {xs : List Arg} {ρ2 : Env}, appF (.slc true true) ds = some o → ∃ d i j, ds = [d, .int i, .int j] ∧ slcO d (some i) (some j) = some o := fun {ds o xs ρ2} e => by
    have e : slcF true true ds = some o := e
    unfold slcF at e
    split at e <;> first | exact ⟨_, _, _, rfl, e⟩ | cases e | contradiction
  split at hx
  · rename_i x y z
    obtain ⟨h1, s1, h2, s2, h3, s3, _⟩ := h
    refine PE.weak (pe_slice ok_sl h1 (po_some h2) (po_some h3)) fun σ H Q ⟨F, ρ, A, o, ρ', hh, q, g⟩ => ?_
    obtain ⟨xs, ds, q1, q2, q3⟩ := app_ok q
    obtain ⟨dd, i, j, rfl, q4⟩ := fin (xs := xs) (ρ2 := ρ') q3
    obtain ⟨o1, ρ1, ys, q5, q6, rfl⟩ := evA_ex q1
    unfold peeks at q2
    obtain ⟨d1, p1, q2⟩ := Option.bind_eq_some_iff.mp q2
    obtain ⟨ds1, p2, q2⟩ := Option.map_eq_some_iff.mp q2
    cases q2
    obtain rfl := dat_of q5 p1
    refine ⟨F, ρ, A, _, ρ1, hh, q5, fun F1 H1 v A1 h1 e1 => ?_⟩
    obtain ⟨r1, h1'⟩ := h1.still rfl (fun z => nomatch z)
    cases r1 with
    | dat r1 => exact int2 (kk := fun i j H3 => rdSl X.K v (some i) (some j) H3 Q) h1' q6 p2 rfl fun F2 H2 A2 h2 e2 => rd_slc h2 (.fr (Da.up e2.le r1)) q4 (g.up (e1.trans e2))
  · rename_i i0 y z
    obtain ⟨h1, s1, h2, s2, h3, s3, _⟩ := h
    refine PE.weak (pe_slice ok_sl h1 (po_some h2) (po_some h3)) fun σ H Q ⟨F, ρ, A, o, ρ', hh, q, g⟩ => ?_
    obtain ⟨xs, ds, q1, q2, q3⟩ := app_ok q
    obtain ⟨dd, i, j, rfl, q4⟩ := fin (xs := xs) (ρ2 := ρ') q3
    obtain ⟨hl, ys, q6, rfl⟩ := evA_pl q1
    obtain ⟨o0, ho, hn⟩ := liv_of hl
    obtain ⟨v, B, hv, _⟩ := hh.slot ho hn
    unfold peeks at q2
    obtain ⟨d1, p1, q2⟩ := Option.bind_eq_some_iff.mp q2
    obtain ⟨ds1, p2, q2⟩ := Option.map_eq_some_iff.mp q2
    cases q2
    refine ⟨v, hv, int2 (kk := fun i j H3 => rdSl X.K v (some i) (some j) H3 Q) hh q6 p2 rfl fun F2 H2 A2 h2 e2 => ?_⟩
    have pk := peeks_pks (xs := [.ref i0]) (vs := [v]) h2 (.cons (.ref hv) .nil) (ds := [dd]) (by
      unfold peeks
      rw [p1]
      rfl)
    obtain ⟨d2, e3, pk⟩ := pk.one
    cases e3
    exact rd_slc h2 pk q4 (g.up e2)
  · cases hx
/-- all operations -/
theorem pe_app (ok : Cok names fa c k sc N fnb X) {f : Op} {kb : List Expr → Bool} (hk : ∀ es, kb es = true → SAs X fa c as es) (h : appB sc as.noPl as.ex2 kb f e = true) : PE X e (tR X.K fa (evE c (.app f as))) := by
  unfold appB at h
  split at h
  · obtain ⟨h1, h2⟩ := Bool.and_eq_true_iff.mp h
    exact pe_bin (hk _ h2) (of_decide_eq_true h1)
  · obtain ⟨h1, h2⟩ := Bool.and_eq_true_iff.mp h
    exact (pe_cmpO ok (hk _ h2) (of_decide_eq_true h1)).1
  · obtain ⟨h1, h2⟩ := Bool.and_eq_true_iff.mp h
    split at h1
    · obtain ⟨ta, ha, _, w⟩ := one_read (hk _ h2) (f := .neg) (g := negF) (fun _ => rfl) rd_neg
      exact PE.weak (pe_un un_neg ha) w
    · cases h1
  · obtain ⟨h1, h2⟩ := Bool.and_eq_true_iff.mp h
    split at h1
    · obtain ⟨ta, ha, _, w⟩ := (hk _ h2).one
      exact PE.weak (pe_slice ok_sl ha po_none po_none) fun σ H Q z => w σ H (fun vs H' => kS (rdSl X.K) false false vs H' Q) (sl_read z)
    · cases h1
  · obtain ⟨h1, h2⟩ := Bool.and_eq_true_iff.mp h
    split at h1
    · obtain ⟨ta, tb, ha, hb, w⟩ := (hk _ h2).two
      exact PE.weak (pe_slice ok_sl ha (po_some hb) po_none) fun σ H Q z => w σ H (fun vs H' => kS (rdSl X.K) true false vs H' Q) (sl_read z)
    · cases h1
  · obtain ⟨h1, h2⟩ := Bool.and_eq_true_iff.mp h
    split at h1
    · obtain ⟨ta, tb, ha, hb, w⟩ := (hk _ h2).two
      exact PE.weak (pe_slice ok_sl ha po_none (po_some hb)) fun σ H Q z => w σ H (fun vs H' => kS (rdSl X.K) false true vs H' Q) (sl_read z)
    · cases h1
  · obtain ⟨h1, h2⟩ := Bool.and_eq_true_iff.mp h
    obtain ⟨h3, h2⟩ := Bool.and_eq_true_iff.mp h2
    split at h1
    · exact slc3 (hk _ h2) h3
    · cases h1
  · obtain ⟨h1, h2⟩ := Bool.and_eq_true_iff.mp h
    obtain ⟨h2, h3⟩ := Bool.and_eq_true_iff.mp h2
    split at h1
    · obtain ⟨ta, tb, ha, hb, w⟩ := bin_read (hk _ h3) (f := .idx) (g := idxF) (fun _ _ => rfl) rd_idx
      exact PE.weak (pe_ix ix_seq ha hb (plain_ix (by simpa using h2))) w
    · cases h1
  · obtain ⟨h1, h2⟩ := Bool.and_eq_true_iff.mp h
    obtain ⟨h2, h3⟩ := Bool.and_eq_true_iff.mp h2
    split at h1
    · exact (pe_disp (hk _ h3) h2).1 _
    · cases h1
  · obtain ⟨h1, h2⟩ := Bool.and_eq_true_iff.mp h
    obtain ⟨h2, h3⟩ := Bool.and_eq_true_iff.mp h2
    split at h1
    · exact (pe_disp (hk _ h3) h2).2
    · cases h1
  · obtain ⟨h1, h2⟩ := Bool.and_eq_true_iff.mp h
    obtain ⟨h2, h3⟩ := Bool.and_eq_true_iff.mp h2
    exact pe_blt ok (hk _ h3) (of_decide_eq_true h1) h2
  · cases h
end
end EV

/-! EV, part 8: calls of defs; tests and choices. Own work. -/
namespace EV
open PySem L2
open PySem.Spec PyProof.Rows
section
variable {X : Cx} {names : List Str} {fa : Nat → Addr} {c : CX} {k : Nat} {sc : Scope} {N : List Str} {fnb : Str → Bool}
variable {as : As} {e a b : Expr} {es : List Expr} {o : O} {ρ ρ' : Env} {F H : Hp} {A : List Addr} {σ : List (Option V)} {K : PySem.W.Frag}
/-- lent -/
theorem take_hold {xs : List Arg} {vs : List V} (r : ArgsR K fa F σ xs vs) : ∀ {ρ ρ2 : Env} {os : List O} {A : List Addr}, Hold K fa F H ρ σ A → take xs ρ = some (os, ρ2) → ∃ A', (∀ a ∈ A', a ∈ A) ∧ Hold K fa F H (os ++ ρ2) (vs.map some ++ σ) A' := by
  induction r with
  | nil =>
    intro ρ ρ2 os A h q
    cases q
    exact ⟨A, fun _ z => z, h⟩
  | @cons x v xs vs rx _ ih =>
    intro ρ ρ2 os A h q
    cases rx with
    | @val o _ ro =>
      unfold take at q
      obtain ⟨p, q1, q2⟩ := Option.map_eq_some_iff.mp q
      cases q2
      obtain ⟨A', s, h'⟩ := ih h q1
      exact ⟨A', s, h'.dat (ro.same (B := []) (Same.refl _))⟩
    | @ref i _ hv =>
      unfold take at q
      split at q
      · rename_i ds hd
        obtain ⟨p, q1, q2⟩ := Option.map_eq_some_iff.mp q
        cases q2
        obtain ⟨w, A1, h1, h2, h3⟩ := h.out hd (fun z => nomatch z)
        rw [hv] at h1
        cases h1
        obtain ⟨B, A0, rfl, hr, h4⟩ := h3.tail
        obtain ⟨A', s, h'⟩ := ih h4 q1
        obtain ⟨n1, n2, n3⟩ := List.nodup_append.mp h3.nd
        refine ⟨B ++ A', fun a z => (h2 a).mp ?_, h'.cons hr n1 (fun a z q => n3 a z a (s a q) rfl) fun a z => h3.off a (by simp [z])⟩
        exact (List.mem_append.mp z).elim (fun z => by simp [z]) fun z => by simp [s a z]
      · rename_i d hd
        obtain ⟨p, q1, q2⟩ := Option.map_eq_some_iff.mp q
        cases q2
        obtain ⟨w, B, h1, h2⟩ := h.slot hd (fun z => nomatch z)
        rw [hv] at h1
        cases h1
        cases h2 with
        | dat r =>
          obtain ⟨A', s, h'⟩ := ih h q1
          exact ⟨A', s, h'.dat (.dat r)⟩
      · rename_i f hd
        obtain ⟨p, q1, q2⟩ := Option.map_eq_some_iff.mp q
        cases q2
        obtain ⟨w, B, h1, h2⟩ := h.slot hd (fun z => nomatch z)
        rw [hv] at h1
        cases h1
        cases h2 with
        | fn _ =>
          obtain ⟨A', s, h'⟩ := ih h q1
          exact ⟨A', s, h'.dat (.fn _)⟩
      · cases q
/-- given back -/
theorem give_hold {xs : List Arg} {vs : List V} (r : ArgsR K fa F σ xs vs) {F' H' : Hp} : ∀ {ρ : Env} {ps : List O} {A : List Addr}, ps.length = vs.length → Hold K fa F' H' (ps ++ ρ) (vs.map some ++ σ) A → ∃ A', (∀ a ∈ A', a ∈ A) ∧ Hold K fa F' H' (give xs ps ρ) σ A' := by
  induction r with
  | nil =>
    intro ρ ps A hl h
    obtain rfl := List.eq_nil_of_length_eq_zero hl
    exact ⟨A, fun _ z => z, h⟩
  | @cons x v xs vs rx _ ih =>
    intro ρ ps A hl h
    cases ps with
    | nil => cases hl
    | cons p ps =>
      have hl' : ps.length = vs.length := Nat.succ.inj hl
      have drop : ∃ A', (∀ a ∈ A', a ∈ A) ∧ Hold K fa F' H' (give xs ps ρ) σ A' := by
        obtain ⟨B, A0, rfl, _, g⟩ := h.tail
        obtain ⟨A', s, h'⟩ := ih hl' g
        exact ⟨A', fun a z => by simp [s a z], h'⟩
      cases rx with
      | val _ => exact drop
      | @ref i _ hv =>
        unfold give
        split
        · rename_i hi
          have hh := Hold.into (i := ps.length + i) (o := p) (v := v) (os := ps ++ ρ) (vs := vs.map some ++ σ) h (by rw [List.getElem?_append_right (by omega)]; simpa using hi)
            (by rw [List.getElem?_append_right (by simp; omega)]; simpa [hl'] using hv)
          obtain ⟨A1, s1, h1⟩ := hh
          have e : (ps ++ ρ).set (ps.length + i) p = ps ++ ρ.set i p := by
            rw [List.set_append_right _ _ (by omega)]
            simp
          rw [e] at h1
          obtain ⟨A', s, h'⟩ := ih hl' h1
          exact ⟨A', fun a z => s1 a (s a z), h'⟩
        · exact drop
/-- the call's run -/
theorem callM_ok {f : Nat} {xs : List Arg} (q : callM c f xs ρ = .ok o ρ') : ∃ os ρ1 ps, take xs ρ = some (os, ρ1) ∧ c.call f os = .ok o ps ∧ ρ' = give xs ps ρ1 := by
  unfold callM at q
  split at q
  · rename_i os ρ1 h1
    split at q
    · rename_i o' ps h2
      cases q
      exact ⟨os, ρ1, ps, h1, h2, rfl⟩
    · cases q
  · cases q
theorem args_len {xs : List Arg} {vs : List V} (r : ArgsR K fa F σ xs vs) : xs.length = vs.length := by
  induction r with
  | nil => rfl
  | cons _ _ ih => exact congrArg (· + 1) ih
theorem take_len : ∀ {xs : List Arg} {ρ ρ2 : Env} {os : List O}, take xs ρ = some (os, ρ2) → os.length = xs.length
  | [], ρ, ρ2, os, q => by
    cases q
    rfl
  | .val o :: r, ρ, ρ2, os, q => by
    unfold take at q
    obtain ⟨p, q1, q2⟩ := Option.map_eq_some_iff.mp q
    cases q2
    exact congrArg (· + 1) (take_len q1)
  | .ref i :: r, ρ, ρ2, os, q => by
    unfold take at q
    split at q
    · obtain ⟨p, q1, q2⟩ := Option.map_eq_some_iff.mp q
      cases q2
      exact congrArg (· + 1) (take_len q1)
    · obtain ⟨p, q1, q2⟩ := Option.map_eq_some_iff.mp q
      cases q2
      exact congrArg (· + 1) (take_len q1)
    · obtain ⟨p, q1, q2⟩ := Option.map_eq_some_iff.mp q
      cases q2
      exact congrArg (· + 1) (take_len q1)
    · cases q
theorem Hold.parts {os ps : List O} {vs ws : List (Option V)} (hl : os.length = vs.length) (h : Hold K fa F H (os ++ ps) (vs ++ ws) A) : ∃ A1 A2, A = A1 ++ A2 ∧ Hold K fa F H os vs A1 ∧ Hold K fa F H ps ws A2 ∧ ∀ a ∈ A1, a ∉ A2 := by
  obtain ⟨A1, A2, e, h1, h2, d⟩ := h.cut os.length
  rw [List.take_left, hl, List.take_left] at h1
  rw [List.drop_left, hl, List.drop_left] at h2
  exact ⟨A1, A2, e, h1, h2, d⟩
theorem call_read {f : Nat} {Q : VK} (q : tR X.K fa (bnd (evA c as) fun xs => callM c f xs) σ H Q) : tAs X.K fa c as σ H fun vs H' => spC X.K fa c.call f vs H' Q := by
  obtain ⟨F, ρ, A, o, ρ', h, q, g⟩ := q
  obtain ⟨xs, ρ1, q1, q2⟩ := bnd_ok q
  obtain ⟨os, ρ2, ps, q3, q4, rfl⟩ := callM_ok q2
  refine tAs_run h q1 fun F1 H1 vs A1 h1 ra e1 => ?_
  obtain ⟨A2, s2, h2⟩ := take_hold ra h1 q3
  obtain ⟨B1, B2, rfl, h3, h4, dj⟩ := h2.parts (by rw [take_len q3, args_len ra, List.length_map])
  refine ⟨F1, os, B1, o, ps, h3, q4, fun F' H' v A' h' e' => ?_⟩
  have e2 : Ext F1 H1 A1 F' H' A' := e'.more fun a z => s2 a (by simp [z])
  have hb := h4.both e' h' fun a z q => dj a q z
  -- the slots behind, the value ahead
  obtain ⟨C, C', hc, hr, hps⟩ := h'.tail
  have hs := h4.stay h4.live e' (fun a z q => dj a q z) h'.sub
  have dj2 : ∀ a ∈ A', a ∉ B2 := fun a z q => (e'.fr a z).elim (fun z => dj a z q) (h4.live a q)
  have all := h'.app hs dj2
  have e3 : (o :: ps ++ ρ2) = o :: (ps ++ ρ2) := rfl
  obtain ⟨D1, D2, hd, hr2, hps2⟩ := Hold.tail (os := ps ++ ρ2) (vs := vs.map some ++ σ) all
  obtain ⟨A3, s3, h5⟩ := give_hold ra (F' := F') (H' := H') (by
    have := hps.len
    simpa using this) hps2
  have nd := all.nd
  rw [hd] at nd
  obtain ⟨n1, n2, n3⟩ := List.nodup_append.mp nd
  refine g F' H' v (D1 ++ A3) (h5.cons hr2 n1 (fun a z q => n3 a z a (s3 a q) rfl) fun a z => all.off a (by rw [hd]; simp [z])) ?_
  have e4 : Ext F1 H1 A1 F' H' (A' ++ B2) := ⟨e2.le, e2.kp, fun a z => (List.mem_append.mp z).elim (e2.fr a) fun z => .inl (s2 a (by simp [z])), e2.fz⟩
  refine (e1.trans e4).fewer fun a z => ?_
  rw [hd]
  exact (List.mem_append.mp z).elim (fun z => by simp [z]) fun z => by simp [s3 a z]
/-- a call of a def of the text -/
theorem pe_def (ok : Cok names fa c k sc N fnb X) (h : SAs X fa c as es) {f : Nat} {g : Str} (hf : names[f]? = some g) (hg : gloB sc g = true) (hp : plainNm g = true) {p pos : Pos} : PE X (.Call (.Name g p) es [] pos) (tR X.K fa (evE c (.call f as))) := by
  have hG := glo_of ok hg
  obtain ⟨p1, _, _⟩ := plain_of hp
  obtain ⟨hm, hk, fd, ps, hF, hb⟩ := ok.defs f g hf
  have key : ∀ {pins : List (Addr × Obj)} {σ : L2.St} {H : Hp} {s : Shared} {Q : VK} {us : List Value} {vs : List V}, Inv X pins σ H s → Vals vs us → spC X.K fa c.call f vs H Q → wpAny (model X.prog X.w) X.A (call (.ref (fa f)) us) (EP X pins σ Q) X.xe s := fun {pins σ H s Q us vs} I r q => by
    have hl : us.length = ps.length := by rw [← r.length]; exact hF.len _ _ _ q
    have hb' := hb s us I.kIn (by rw [List.append_nil]; exact hl)
    rw [List.append_nil] at hb'
    refine wpAny_call (codeAny_mono (hF.run X.A X.stack s H ⟨us, []⟩ us vs Q ok.room ok.gd I.env0 hb' r q) fun r s' ⟨u, e, hq⟩ => ?_)
    subst e
    exact I.after hq
  refine ⟨fun pins s σ H Q I z => ?_⟩
  have z' := call_read (X := X) (fa := fa) (c := c) (as := as) (f := f) (σ := σ) (H := H) (Q := Q) (by simpa only [evE] using z)
  refine wpAny_Call_Name_kw (ld_glob I hG hm ?_ p1)
  cases as with
  | nil =>
    cases es with
    | nil => exact PySem.W.callWith_K0 I.kIn hk (key I .nil z')
    | cons _ _ => cases h
  | ex i r =>
    cases es with
    | nil => cases h
    | cons x xs => exact PySem.W.callWith_K (h₀ := X.base) I.ok.mod.kin hk (thn (h.pa.run pos pins s σ H _ I z') fun us s1 ⟨vs, H1, I1, r, q⟩ => ⟨I1.kIn, key I1 r q⟩) (star_cons h.2.1) (SAs.stars (as := r) h.2.2)
  | pl i r =>
    cases es with
    | nil => cases h
    | cons x xs => exact PySem.W.callWith_K (h₀ := X.base) I.ok.mod.kin hk (thn (h.pa.run pos pins s σ H _ I z') fun us s1 ⟨vs, H1, I1, r, q⟩ => ⟨I1.kIn, key I1 r q⟩) (star_cons h.2.1) (SAs.stars (as := r) h.2.2)
end
end EV

/-! EV, part 9: tests and choices, what is walked, comprehensions. Own work. -/
namespace EV
open PySem L2
open PySem.Spec PyProof.Rows
section
variable {X : Cx} {names : List Str} {fa : Nat → Addr} {c : CX} {k : Nat} {sc : Scope} {N : List Str} {fnb : Str → Bool}
variable {as : As} {e a b : Expr} {es : List Expr} {o : O} {ρ ρ' : Env} {F H F' H' : Hp} {A A' : List Addr} {σ : List (Option V)} {K : PySem.W.Frag}
/-! ### truth -/
theorem tru_of {v : V} {d : D} {t : Bool} (sub : Same F H) (h : Pk K F H v d) (q : truth d = some t) : TruV K v H t := by
  cases d with
  | none =>
    rw [h.non]
    cases q
    rfl
  | bool b =>
    rw [h.bl]
    cases q
    rfl
  | int i =>
    rw [h.int]
    cases q
    rfl
  | str x =>
    rw [h.str]
    have q : (if x.length ≤ lim then some ((x.length : Int) != 0) else none) = some t := q
    split at q
    · rename_i hz
      cases q
      exact ⟨by rw [sizeL]; exact hz, rfl⟩
    · cases q
  | list ds =>
    obtain ⟨p, vs, rfl, hr, r⟩ := h.list sub
    cases q
    refine .inl ⟨vs, hr, ?_⟩
    have := r.len
    cases vs <;> cases ds <;> simp at this ⊢
  | tuple ds =>
    obtain ⟨p, vs, rfl, hr, _, r⟩ := h.tup sub
    cases q
    refine .inr (.inl ⟨vs, hr, ?_⟩)
    have := r.len
    cases vs <;> cases ds <;> simp at this ⊢
  | dict _ => cases q
/-- the value at hand, and what is owned beside -/
theorem Hold.hand {v : V} (h : Hold K fa F H (o :: ρ) (some v :: σ) A) {d : D} (q : toD o = some d) : Pk K F H v d ∧ ∃ A', (∀ a ∈ A', a ∈ A) ∧ Hold K fa F H ρ σ A' := by
  obtain ⟨B, A0, rfl, r, g⟩ := h.tail
  refine ⟨?_, A0, fun a z => by simp [z], g⟩
  rcases r with ⟨rfl, _⟩ | ⟨w, e, r⟩
  · cases q
  · cases e
    cases r with
    | dat r =>
      cases q
      exact .fr r
    | fn _ => cases q
    | lst hp r =>
      cases q
      exact .own hp r
theorem test_ok {m : M O} {t : Bool} (q : testM m ρ = .ok t ρ') : ∃ o d, m ρ = .ok o ρ' ∧ toD o = some d ∧ truth d = some t := by
  unfold testM at q
  obtain ⟨o, ρ1, q1, q2⟩ := bnd_ok q
  obtain ⟨q3, rfl⟩ := opt_ok q2
  obtain ⟨d, q4, q5⟩ := Option.bind_eq_some_iff.mp q3
  exact ⟨o, d, q1, q4, q5⟩
theorem test_of {m : M O} {o : O} {d : D} {t : Bool} (q1 : m ρ = .ok o ρ') (q2 : toD o = some d) (q3 : truth d = some t) : testM m ρ = .ok t ρ' := by
  unfold testM bnd
  rw [q1]
  show opt ((toD o).bind truth) ρ' = _
  rw [q2, Option.bind_some, q3]
  rfl
/-- a value as a test, by its truth -/
theorem tk_tr {m : M O} {Q : Bool → Hp → Prop} (z : tK X.K fa (testM m) σ H Q) : tR X.K fa m σ H fun x H' => ∃ t, TruV X.K x H' t ∧ Q t H' := by
  obtain ⟨F, ρ, A, t, ρ', h, q, g⟩ := z
  obtain ⟨o, d, q1, q2, q3⟩ := test_ok q
  refine ⟨F, ρ, A, o, ρ', h, q1, fun F' H' v A' h' e => ?_⟩
  obtain ⟨pk, A2, s, h2⟩ := h'.hand q2
  exact ⟨t, tru_of h'.sub pk q3, g F' H' A2 h2 (e.fewer s)⟩
theorem pt_plain {m : M O} (h : PE X e (tR X.K fa m)) (he : ∀ whole, isTrue e X.env whole = (do let v ← whole; standAt e.pos; holding [v] (truthy v))) : PT X e (tK X.K fa (testM m)) :=
  PT.weak (pt_truth h he) fun σ H Q z => tk_tr z
theorem cmp_bool {f : Op} {op : CmpOp} (hf : opC f = some op) {ds : List D} {o : O} (h : appF f ds = some o) : ∃ t, o = .dat (.bool t) := by
  have cmp : ∀ {p : Int → Int → Bool} {a b : D}, cmpF p a b = some o → ∃ t, o = .dat (.bool t) := fun {p a b} q => by
    unfold cmpF at q
    split at q
    · cases q
      exact ⟨_, rfl⟩
    · cases q
  have go : ∃ a b, bin2 f a b = some o := by
    cases f <;> cases hf <;>
      (match ds, h with
        | [a, b], h => exact ⟨a, b, h⟩)
  obtain ⟨a, b, q⟩ := go
  cases f <;> cases hf
  · obtain ⟨t, _, q⟩ := Option.map_eq_some_iff.mp (show ((eqD a b).map fun k => O.dat (.bool k)) = some o from q)
    exact ⟨_, q.symm⟩
  · obtain ⟨t, _, q⟩ := Option.map_eq_some_iff.mp (show ((eqD a b).map fun k => O.dat (.bool (!k))) = some o from q)
    exact ⟨_, q.symm⟩
  · exact cmp (show cmpF _ a b = some o from q)
  · exact cmp (show cmpF _ a b = some o from q)
  · exact cmp (show cmpF _ a b = some o from q)
  · exact cmp (show cmpF _ a b = some o from q)
theorem pt_cmpO (ok : Cok names fa c k sc N fnb X) (h : SAs X fa c as [a, b]) {f : Op} {op : CmpOp} (hf : opC f = some op) {pos : Pos} : PT X (.Compare a [op] [b] pos) (tK X.K fa (testM (evE c (.app f as)))) := by
  refine PT.weak (pe_cmpO ok h hf).2 fun σ H Q ⟨F, ρ, A, t, ρ', hh, q, g⟩ => ?_
  obtain ⟨o, d, q1, q2, q3⟩ := test_ok q
  obtain ⟨xs, ds, _, _, q4⟩ := app_ok q1
  obtain ⟨t', rfl⟩ := cmp_bool hf q4
  cases q2
  cases q3
  refine ⟨F, ρ, A, _, ρ', hh, q1, fun F' H' v A' h' e => ?_⟩
  obtain ⟨pk, A2, s, h2⟩ := h'.hand rfl
  exact ⟨t, pk.bl, g F' H' A2 h2 (e.fewer s)⟩
theorem pt_notO {q : E} (h : PT X a (tK X.K fa (testM (evE c q)))) {pos : Pos} : PT X (.UnaryOp .Not a pos) (tK X.K fa (testM (evE c (.not_ q)))) := by
  refine PT.weak (pt_not h) fun σ H Q ⟨F, ρ, A, t, ρ', hh, z, g⟩ => ?_
  obtain ⟨o, d, q1, q2, q3⟩ := test_ok z
  simp only [evE] at q1
  obtain ⟨x, ρ1, q4, q5⟩ := bnd_ok q1
  obtain ⟨t1, ρ2, q6, q7⟩ := bnd_ok q5
  obtain ⟨q8, rfl⟩ := opt_ok q6
  obtain ⟨rfl, rfl⟩ := pur_ok q7
  obtain ⟨d', q9, q10⟩ := Option.bind_eq_some_iff.mp q8
  cases q2
  cases q3
  exact ⟨F, ρ, A, t1, _, hh, test_of q4 q9 q10, g⟩
theorem pe_notO {q : E} (h : PE X a (tR X.K fa (evE c q))) {pos : Pos} : PE X (.UnaryOp .Not a pos) (tR X.K fa (evE c (.not_ q))) := by
  refine PE.weak (pe_notT h) fun σ H Q ⟨F, ρ, A, o, ρ', hh, z, g⟩ => ?_
  simp only [evE] at z
  obtain ⟨x, ρ1, q4, q5⟩ := bnd_ok z
  obtain ⟨t1, ρ2, q6, q7⟩ := bnd_ok q5
  obtain ⟨q8, rfl⟩ := opt_ok q6
  obtain ⟨rfl, rfl⟩ := pur_ok q7
  obtain ⟨d', q9, q10⟩ := Option.bind_eq_some_iff.mp q8
  refine ⟨F, ρ, A, x, _, hh, q4, fun F' H' v A' h' e => ?_⟩
  obtain ⟨pk, A2, s, h2⟩ := h'.hand q9
  exact ⟨t1, tru_of h'.sub pk q10, give_dat h2 (.bl _) (g.up (e.fewer s))⟩
/-- how a choice by truth runs -/
theorem alt_ok {m : M O} {f g : M O} (z : bnd m (fun x => bnd (opt ((toD x).bind truth)) fun t => if t = true then f else bnd (opt (frz x)) pur) ρ = .ok o ρ') :
    ∃ x d t ρ1, m ρ = .ok x ρ1 ∧ toD x = some d ∧ truth d = some t ∧ (t = true → f ρ1 = .ok o ρ') ∧ (t = false → frz x = some o ∧ ρ' = ρ1) := by
  obtain ⟨x, ρ1, q4, q5⟩ := bnd_ok z
  obtain ⟨t, ρ2, q6, q7⟩ := bnd_ok q5
  obtain ⟨q8, rfl⟩ := opt_ok q6
  obtain ⟨d, q9, q10⟩ := Option.bind_eq_some_iff.mp q8
  refine ⟨x, d, t, ρ2, q4, q9, q10, fun h => ?_, fun h => ?_⟩
  · subst h
    exact q7
  · subst h
    obtain ⟨y, ρ3, q11, q12⟩ := bnd_ok q7
    obtain ⟨q13, rfl⟩ := opt_ok q11
    obtain ⟨rfl, rfl⟩ := pur_ok q12
    exact ⟨q13, rfl⟩
theorem alt_ok' {m : M O} {f : M O} (z : bnd m (fun x => bnd (opt ((toD x).bind truth)) fun t => if t = true then bnd (opt (frz x)) pur else f) ρ = .ok o ρ') :
    ∃ x d t ρ1, m ρ = .ok x ρ1 ∧ toD x = some d ∧ truth d = some t ∧ (t = false → f ρ1 = .ok o ρ') ∧ (t = true → frz x = some o ∧ ρ' = ρ1) := by
  obtain ⟨x, ρ1, q4, q5⟩ := bnd_ok z
  obtain ⟨t, ρ2, q6, q7⟩ := bnd_ok q5
  obtain ⟨q8, rfl⟩ := opt_ok q6
  obtain ⟨d, q9, q10⟩ := Option.bind_eq_some_iff.mp q8
  refine ⟨x, d, t, ρ2, q4, q9, q10, fun h => ?_, fun h => ?_⟩
  · subst h
    exact q7
  · subst h
    obtain ⟨y, ρ3, q11, q12⟩ := bnd_ok q7
    obtain ⟨q13, rfl⟩ := opt_ok q11
    obtain ⟨rfl, rfl⟩ := pur_ok q12
    exact ⟨q13, rfl⟩
theorem frz_toD {x : O} {d : D} (h : frz x = some o) (q : toD x = some d) : toD o = some d := by
  cases x <;> cases h <;> cases q <;> rfl
/-- the second part of a choice, or the value at hand made still -/
theorem alt_read {f : M O} {x : O} {v : V} {d : D} {t : Bool} {ρ1 : Env} {Q : VK} (hx : toD x = some d) (ht : truth d = some t) (h : Hold X.K fa F H (x :: ρ1) (some v :: σ) A)
    (s : Bool) (h1 : t = s → f ρ1 = .ok o ρ') (h2 : t = !s → frz x = some o ∧ ρ' = ρ1) (g : Give X.K fa F H A ρ' σ o Q) :
    ∃ k, TruV X.K v H k ∧ (if k = s then tR X.K fa f σ H Q else Q v H) := by
  obtain ⟨pk, A2, s2, h3⟩ := h.hand hx
  refine ⟨t, tru_of h.sub pk ht, ?_⟩
  by_cases e : t = s
  · rw [if_pos e]
    exact ⟨F, ρ1, A2, o, ρ', h3, h1 e, g.up ((Ext.refl F H A).fewer s2)⟩
  · rw [if_neg e]
    obtain ⟨q, rfl⟩ := h2 (by cases t <;> cases s <;> simp_all)
    obtain ⟨F', A', h4, e4, _⟩ := h.frozen q
    exact g F' H v A' h4 e4
theorem pe_andO {p q : E} (ha : PE X a (tR X.K fa (evE c p))) (hb : PE X (.BoolOp .And (b :: es) pos) (tR X.K fa (evE c q))) : PE X (.BoolOp .And (a :: b :: es) pos) (tR X.K fa (evE c (.and_ p q))) := by
  refine PE.weak (pe_andT ha hb) fun σ H Q ⟨F, ρ, A, o, ρ', hh, z, g⟩ => ?_
  simp only [evE] at z
  obtain ⟨x, d, t, ρ1, q1, q2, q3, q4, q5⟩ := alt_ok (g := pur o) z
  refine ⟨F, ρ, A, x, ρ1, hh, q1, fun F' H' v A' h' e => ?_⟩
  exact alt_read q2 q3 h' true q4 (fun z => q5 (by simpa using z)) (g.up e)
theorem pe_orO {p q : E} (ha : PE X a (tR X.K fa (evE c p))) (hb : PE X (.BoolOp .Or (b :: es) pos) (tR X.K fa (evE c q))) : PE X (.BoolOp .Or (a :: b :: es) pos) (tR X.K fa (evE c (.or_ p q))) := by
  refine PE.weak (pe_orT ha hb) fun σ H Q ⟨F, ρ, A, o, ρ', hh, z, g⟩ => ?_
  simp only [evE] at z
  obtain ⟨x, d, t, ρ1, q1, q2, q3, q4, q5⟩ := alt_ok' z
  refine ⟨F, ρ, A, x, ρ1, hh, q1, fun F' H' v A' h' e => ?_⟩
  obtain ⟨k, hk, r⟩ := alt_read (f := evE c q) q2 q3 h' false q4 (fun z => q5 (by simpa using z)) (g.up e)
  refine ⟨k, hk, ?_⟩
  cases k with
  | true => exact r
  | false => exact r
theorem bool_pw {op : BoolOp} {xs : List Expr} {t : TT} (h : PT X (.BoolOp op xs pos) t) : PW X (.BoolOp op xs pos) t := ⟨fun wh pins s σ H Q I z => h.run pins s σ H Q I z⟩
theorem pt_andO {p q : E} (ha : PT X a (tK X.K fa (testM (evE c p)))) (hb : PW X (.BoolOp .And (b :: es) pos) (tK X.K fa (testM (evE c q)))) : PT X (.BoolOp .And (a :: b :: es) pos) (tK X.K fa (testM (evE c (.and_ p q)))) := by
  refine PT.weak (PW.pt (pw_and ha hb)) fun σ H Q ⟨F, ρ, A, t, ρ', hh, z, g⟩ => ?_
  obtain ⟨o, d, q1, q2, q3⟩ := test_ok z
  simp only [evE] at q1
  obtain ⟨x, d', t', ρ1, q5, q6, q7, q8, q9⟩ := alt_ok (g := pur o) q1
  refine ⟨F, ρ, A, t', ρ1, hh, test_of q5 q6 q7, fun F' H' A' h' e => ?_⟩
  cases t' with
  | true => exact ⟨F', ρ1, A', t, ρ', h', test_of (q8 rfl) q2 q3, fun F2 H2 A2 h2 e2 => g F2 H2 A2 h2 (e.trans e2)⟩
  | false =>
    obtain ⟨q10, rfl⟩ := q9 rfl
    have := frz_toD q10 q6
    rw [q2] at this
    cases this
    rw [q7] at q3
    cases q3
    exact g F' H' A' h' e
theorem pt_orO {p q : E} (ha : PT X a (tK X.K fa (testM (evE c p)))) (hb : PW X (.BoolOp .Or (b :: es) pos) (tK X.K fa (testM (evE c q)))) : PT X (.BoolOp .Or (a :: b :: es) pos) (tK X.K fa (testM (evE c (.or_ p q)))) := by
  refine PT.weak (PW.pt (pw_or ha hb)) fun σ H Q ⟨F, ρ, A, t, ρ', hh, z, g⟩ => ?_
  obtain ⟨o, d, q1, q2, q3⟩ := test_ok z
  simp only [evE] at q1
  obtain ⟨x, d', t', ρ1, q5, q6, q7, q8, q9⟩ := alt_ok' q1
  refine ⟨F, ρ, A, t', ρ1, hh, test_of q5 q6 q7, fun F' H' A' h' e => ?_⟩
  cases t' with
  | false => exact ⟨F', ρ1, A', t, ρ', h', test_of (q8 rfl) q2 q3, fun F2 H2 A2 h2 e2 => g F2 H2 A2 h2 (e.trans e2)⟩
  | true =>
    obtain ⟨q10, rfl⟩ := q9 rfl
    have := frz_toD q10 q6
    rw [q2] at this
    cases this
    rw [q7] at q3
    cases q3
    exact g F' H' A' h' e
theorem pe_iteO {p q r : E} {t : Expr} (ht : PT X t (tK X.K fa (testM (evE c p)))) (ha : PE X a (tR X.K fa (evE c q))) (hb : PE X b (tR X.K fa (evE c r))) {pos : Pos} : PE X (.IfExp t a b pos) (tR X.K fa (evE c (.ite p q r))) := by
  refine PE.weak (pe_ifExp ht ha hb) fun σ H Q ⟨F, ρ, A, o, ρ', hh, z, g⟩ => ?_
  simp only [evE] at z
  obtain ⟨t, ρ1, q1, q2⟩ := bnd_ok z
  refine ⟨F, ρ, A, t, ρ1, hh, q1, fun F' H' A' h' e => ?_⟩
  cases t with
  | true => exact ⟨F', ρ1, A', o, ρ', h', q2, g.up e⟩
  | false => exact ⟨F', ρ1, A', o, ρ', h', q2, g.up e⟩
end
end EV

/-! EV, part 10: targets, what is walked, comprehensions. Own work. -/
namespace EV
open PySem L2 RZ
open PySem.Spec PyProof.Rows
section
variable {X : Cx} {names : List Str} {fa : Nat → Addr} {c : CX} {k : Nat} {sc : Scope} {N : List Str} {fnb : Str → Bool}
variable {as : As} {e a b : Expr} {es : List Expr} {o : O} {ρ ρ' : Env} {F H F' H' : Hp} {A A' : List Addr} {σ τ : List (Option V)} {K : PySem.W.Frag}
/-! ### targets -/
def tTgs : List Nat → TGs
  | [] => gNil
  | i :: r => gCons (gName i) (tTgs r)
def tTg (K : PySem.W.Frag) : Tg → TG
  | .nm i => gName i
  | .tup ts => fun v σ H Q => gTup K ts.length (tTgs ts) v σ H Q ∨ gUnl K ts.length (tTgs ts) v σ H Q
def Tg.slots : Tg → List Nat
  | .nm i => [i]
  | .tup ts => ts
def locB (sc : Scope) (fnb : Str → Bool) (x : Str) : Bool := decide (sc.names.lookup x = some .local) || (decide (sc.names.lookup x = some .cell) && fnb x)
def tgnB (N : List Str) (sc : Scope) (fnb : Str → Bool) (i : Nat) : Expr → Bool
  | .Name x _ => decide (N[i]? = some x) && locB sc fnb x
  | _ => false
def tgsB (N : List Str) (sc : Scope) (fnb : Str → Bool) : List Nat → List Expr → Bool
  | [], [] => true
  | i :: r, x :: xs => tgnB N sc fnb i x && tgsB N sc fnb r xs
  | _, _ => false
def tgB (N : List Str) (sc : Scope) (fnb : Str → Bool) : Tg → Expr → Bool
  | .nm i, e => tgnB N sc fnb i e
  | .tup ts, .Tuple es _ _ => tgsB N sc fnb ts es
  | _, _ => false
theorem pg_nm (ok : Cok names fa c k sc N fnb X) {i : Nat} (h : tgnB N sc fnb i e = true) : PG X e (gName i) := by
  unfold tgnB at h
  split at h
  · obtain ⟨h1, h2⟩ := Bool.and_eq_true_iff.mp h
    unfold locB at h2
    simp only [Bool.or_eq_true, Bool.and_eq_true, decide_eq_true_eq] at h2
    have hN : X.N.Nodup := by rw [ok.nN]; exact ok.nd
    rcases h2 with h2 | ⟨h2, h3⟩
    · exact pg_name hN (by rw [ok.nN]; exact of_decide_eq_true h1) (.inl (by rw [ok.sc]; exact h2)) (.inr (by rw [ok.sc]; exact h2))
    · exact pg_name hN (by rw [ok.nN]; exact of_decide_eq_true h1) (.inr (by rw [ok.sc]; exact h2)) (.inl (by rw [ok.fn]; exact h3))
  · cases h
theorem assign_cons {env : PySem.Env} {x : Expr} {xs : List Expr} {i : Nat} (h : tgnB N sc fnb i x = true) : (assignEach (x :: xs) env).map (·.2) = assign x env :: (assignEach xs env).map (·.2) ∧ (assignEach (x :: xs) env).map (·.1) = false :: (assignEach xs env).map (·.1) := by
  cases x <;> first | exact ⟨rfl, rfl⟩ | cases h
theorem pg_nms (ok : Cok names fa c k sc N fnb X) : ∀ {ts : List Nat} {es : List Expr}, tgsB N sc fnb ts es = true → PGs X es (tTgs ts) ∧ ts.length = es.length ∧ (assignEach es X.env).map (·.1) = es.map fun _ => false
  | [], [], _ => ⟨pgs_nil, rfl, rfl⟩
  | i :: r, x :: xs, h => by
    obtain ⟨h1, h2⟩ := Bool.and_eq_true_iff.mp h
    obtain ⟨g1, g2, g3⟩ := pg_nms ok h2
    exact ⟨pgs_cons (pg_nm ok h1) g1 (assign_cons h1).1, congrArg (· + 1) g2, by rw [(assign_cons h1).2, g3]; rfl⟩
theorem pg_tg (ok : Cok names fa c k sc N fnb X) {tg : Tg} (h : tgB N sc fnb tg e = true) : PG X e (tTg X.K tg) := by
  unfold tgB at h
  split at h
  · exact pg_nm ok h
  · rename_i ts es kk pos
    obtain ⟨g1, g2, g3⟩ := pg_nms ok h
    have hl : (assignEach es X.env).length = ts.length := by
      have := congrArg List.length g3
      simpa [g2] using this
    have hf : (assignEach es X.env).findIdx? (·.1) = none := by
      rw [List.findIdx?_eq_none_iff]
      intro p hp
      have : p.1 ∈ (assignEach es X.env).map (·.1) := List.mem_map_of_mem hp
      rw [g3] at this
      obtain ⟨_, _, z⟩ := List.mem_map.mp this
      exact z.symm
    exact PG.or (pg_tup ok.calm g1 hl hf) (pg_unl ok.calm g1 hl hf)
  · cases h
/-- a slot set -/
theorem setV_ok {np : List Bool} {i : Nat} {u : Unit} (q : setV np i o ρ = .ok u ρ') : i < ρ.length ∧ np.getD i false = false ∧ ρ' = ρ.set i o := by
  unfold setV at q
  split at q
  · rename_i x hx
    split at q
    · cases q
    · rename_i hn
      cases q
      exact ⟨(List.getElem?_eq_some_iff.mp hx).1, by simpa using hn, rfl⟩
  · cases q
/-- slots set by data -/
theorem setVs_read {np : List Bool} {Q : L2.St → Hp → Prop} : ∀ {ts : List Nat} {vs : List V} {ds : List D} {ρ ρ' : Env} {σ : List (Option V)} {A : List Addr} {u : Unit}, Hold K fa F H ρ σ A → Das K F vs ds → setVs np ts ds ρ = .ok u ρ' →
    (∀ σ' A', Hold K fa F H ρ' σ' A' → (∀ a ∈ A', a ∈ A) → σ'.length = σ.length → (∀ j, j ∉ ts → σ'[j]? = σ[j]?) → Q σ' H) → ts.length = vs.length ∧ tTgs ts vs σ H Q
  | [], _, _, ρ, ρ', σ, A, u, h, .nil, q, g => by
    unfold setVs at q
    obtain ⟨_, rfl⟩ := pur_ok q
    exact ⟨rfl, rfl, g σ A h (fun _ z => z) rfl fun _ _ => rfl⟩
  | [], _, _, ρ, ρ', σ, A, u, h, .cons _ _, q, g => by cases q
  | i :: r, _, _, ρ, ρ', σ, A, u, h, .nil, q, g => by cases q
  | i :: r, _, _, ρ, ρ', σ, A, u, h, .cons hd hr, q, g => by
    unfold setVs at q
    obtain ⟨_, ρ1, q1, q2⟩ := bnd_ok q
    obtain ⟨hi, _, rfl⟩ := setV_ok q1
    obtain ⟨A1, s1, h1⟩ := (h.dat (.dat hd)).store hi
    obtain ⟨g1, g2⟩ := setVs_read (ts := r) h1 hr q2 fun σ' A' h' s' l' k' => g σ' A' h' (fun a z => s1 a (s' a z)) (l'.trans (List.length_set ..)) fun j hj => by
      rw [k' j fun z => hj (by simp [z]), List.getElem?_set_ne fun z => hj (by simp [z])]
    exact ⟨congrArg (· + 1) g1, _, _, rfl, g2⟩
theorem asg_read {np : List Bool} {tg : Tg} {u : Unit} {v : V} {Q : L2.St → Hp → Prop} (h : Hold K fa F H (o :: ρ) (some v :: σ) A) (q : asg np tg o ρ = .ok u ρ')
    (g : ∀ σ' A', Hold K fa F H ρ' σ' A' → (∀ a ∈ A', a ∈ A) → σ'.length = σ.length → (∀ j, j ∉ tg.slots → σ'[j]? = σ[j]?) → Q σ' H) : tTg K tg v σ H Q := by
  cases tg with
  | nm i =>
    obtain ⟨hi, _, rfl⟩ := setV_ok q
    obtain ⟨A1, s1, h1⟩ := h.store hi
    exact g _ A1 h1 s1 (List.length_set ..) fun j hj => List.getElem?_set_ne fun z => hj (by simp [Tg.slots, z])
  | tup ts =>
    obtain ⟨B, A0, rfl, r, h0⟩ := h.tail
    have sub : ∀ {A' : List Addr}, (∀ a ∈ A', a ∈ A0) → ∀ a ∈ A', a ∈ B ++ A0 := fun s a z => by simp [s a z]
    rcases r with ⟨rfl, _⟩ | ⟨w, e, r⟩
    · cases q
    · cases e
      cases r with
      | @dat d _ r =>
        cases r with
        | lst hl hr =>
          obtain ⟨g1, g2⟩ := setVs_read h0 hr q fun σ' A' h' s' => g σ' A' h' (sub s')
          exact .inr ⟨_, _, rfl, sqL_up h.sub hl, g1.symm, g2⟩
        | tup ht hr =>
          obtain ⟨g1, g2⟩ := setVs_read h0 hr q fun σ' A' h' s' => g σ' A' h' (sub s')
          exact .inl ⟨_, _, rfl, sqT_up h.sub ht, g1.symm, g2⟩
        | _ => cases q
      | fn _ => cases q
      | lst hp hr =>
        obtain ⟨g1, g2⟩ := setVs_read h0 hr q fun σ' A' h' s' => g σ' A' h' (sub s')
        exact .inr ⟨_, _, rfl, .inl (.inl hp), g1.symm, g2⟩

theorem setVs_free {np : List Bool} : ∀ {ts : List Nat} {ds : List D} {ρ ρ' : Env} {u : Unit}, setVs np ts ds ρ = .ok u ρ' → ∀ j ∈ ts, np.getD j false = false
  | [], _, _, _, _, _, j, z => nomatch z
  | i :: r, [], _, _, _, q, j, z => by cases q
  | i :: r, d :: ds, _, _, _, q, j, z => by
    unfold setVs at q
    obtain ⟨_, ρ1, q1, q2⟩ := bnd_ok q
    rcases List.mem_cons.mp z with rfl | z
    · exact (setV_ok q1).2.1
    · exact setVs_free q2 j z
theorem asg_free {np : List Bool} {tg : Tg} {u : Unit} (q : asg np tg o ρ = .ok u ρ') : ∀ j ∈ tg.slots, np.getD j false = false := by
  cases tg with
  | nm i =>
    intro j z
    obtain rfl := List.mem_singleton.mp z
    exact (setV_ok q).2.1
  | tup ts =>
    cases o with
    | dat d =>
      cases d with
      | tuple ds => exact setVs_free q
      | list ds => exact setVs_free q
      | _ => cases q
    | lst ds => exact setVs_free q
    | _ => cases q
/-! ### what is walked -/
/-- an iterator that yields the items, whatever has come -/
def SrcW (K : PySem.W.Frag) (F : Hp) (J : It) (items : List D) : Prop := ∃ (G : Hp → Prop) (Y : Nat → Hp → V → Hp → Prop), Walk J items.length G Y ∧ (∀ H, Same F H → G H) ∧
  ∀ i H x H', Same F H → i < items.length → Y i H x H' → ∃ d, items[i]? = some d ∧ ((H' = H ∧ Da K F x d) ∨ ∃ T vs ds, x = .ref T ∧ H T = none ∧ H' = L2.upd H T (.tup vs) ∧ d = .tuple ds ∧ Das K F vs ds)
def tSrc (K : PySem.W.Frag) (fa : Nat → Addr) (m : M (List D)) : TI := fun σ H R => ∃ F ρ A items ρ', Hold K fa F H ρ σ A ∧ m ρ = .ok items ρ' ∧ ∀ F' H' A' J, Hold K fa F' H' ρ' σ A' → Ext F H A F' H' A' → SrcW K F' J items → R J H'
/-- an item has come -/
theorem src_item {os : List O} {vs : List (Option V)} {x : V} {F1 H1 : Hp} (h : Hold K fa F1 H1 os vs A) (s : Same F F1) {d : D} (z : (H' = H1 ∧ Da K F x d) ∨ ∃ T vs ds, x = .ref T ∧ H1 T = none ∧ H' = L2.upd H1 T (.tup vs) ∧ d = .tuple ds ∧ Das K F vs ds) :
    ∃ F2, Hold K fa F2 H' os vs A ∧ Da K F2 x d ∧ Ext F1 H1 A F2 H' A := by
  rcases z with ⟨rfl, r⟩ | ⟨T, vs', ds, rfl, hT, rfl, rfl, r⟩
  · exact ⟨F1, h, Da.up s r, Ext.refl _ _ _⟩
  · obtain ⟨nA, hF, sub, h'⟩ := h.new hT (.tup vs')
    have le : Same F1 (L2.upd F1 T (.tup vs')) := fun b x q => by
      rw [upd_ne (ne_of_none q hF)]
      exact q
    refine ⟨L2.upd F1 T (.tup vs'), ⟨h'.rep.stay le fun _ _ => rfl, h'.nd, fun a z => ?_, fun b x q => ?_⟩, .tup (SqT.of upd_same) (Das.up le (Das.up s r)), ⟨le, fun a x q n => ?_, fun a z => .inl z, fun a x q => ?_⟩⟩
    · rw [upd_ne (fun (q : a = T) => nA (by rw [← q]; exact z))]
      exact h'.off a z
    · by_cases z : b = T
      · subst z
        rw [upd_same] at q ⊢
        exact q
      · rw [upd_ne z] at q ⊢
        exact h.sub b x q
    · rw [upd_ne (ne_of_none q hT)]
      exact q
    · by_cases z : a = T
      · rw [z]
        exact .inr (.inr hT)
      · rw [upd_ne z] at q
        exact .inl q
theorem srcw_list {p : Addr} {vs : List V} {ds : List D} (h : SqL K F p vs) (r : Das K F vs ds) : SrcW K F (Itl K p) ds := by
  refine ⟨fun H => SqL K H p vs, YAt vs, by rw [← r.len]; exact walk_list, fun H s => sqL_up s h, fun i H x H' s hi y => ?_⟩
  obtain ⟨e, hx⟩ := y
  obtain ⟨d, h1, h2⟩ := r.at' hx
  exact ⟨d, h1, .inl ⟨e, h2⟩⟩
theorem srcw_tup {p : Addr} {vs : List V} {ds : List D} (h : SqT K F p vs) (r : Das K F vs ds) : SrcW K F (Itt K p) ds := by
  refine ⟨fun H => SqT K H p vs, YAt vs, by rw [← r.len]; exact walk_tup, fun H s => sqT_up s h, fun i H x H' s hi y => ?_⟩
  obtain ⟨e, hx⟩ := y
  obtain ⟨d, h1, h2⟩ := r.at' hx
  exact ⟨d, h1, .inl ⟨e, h2⟩⟩
theorem srcw_rng {lo : Int} {n : Nat} : SrcW K F (Itr lo n) (rngL lo n) := by
  have hl : (rngL lo n).length = n := by simp [rngL]
  refine ⟨fun _ => True, YFn fun i => .int (lo + i), by rw [hl]; exact walk_range, fun _ _ => trivial, fun i H x H' s hi y => ?_⟩
  obtain ⟨e, hx⟩ := y
  rw [hl] at hi
  exact ⟨.int (lo + i), by simp [rngL, hi], .inl ⟨e, by rw [hx]; exact .int _⟩⟩
theorem zip_at {vs ws : List V} {ds es : List D} {i : Nat} {x y : V} (r : Das K F vs ds) (s : Das K F ws es) (hx : vs[i]? = some x) (hy : ws[i]? = some y) : ∃ d e, (List.zipWith (fun x y => PyData.tuple [x, y]) ds es)[i]? = some (.tuple [d, e]) ∧ Da K F x d ∧ Da K F y e := by
  obtain ⟨d, h1, h2⟩ := r.at' hx
  obtain ⟨e, h3, h4⟩ := s.at' hy
  refine ⟨d, e, ?_, h2, h4⟩
  rw [List.getElem?_zipWith, h1, h3]
theorem zip_len {ds es : List D} : (List.zipWith (fun x y => PyData.tuple [x, y]) ds es).length = min ds.length es.length := List.length_zipWith ..
theorem srcw_zipL {p q : Addr} {vs ws : List V} {ds es : List D} (h : SqL K F p vs) (h' : SqL K F q ws) (r : Das K F vs ds) (s : Das K F ws es) : SrcW K F (Itz K p q) (List.zipWith (fun x y => PyData.tuple [x, y]) ds es) := by
  refine ⟨fun H => SqL K H p vs ∧ SqL K H q ws, YPair (fun i => vs[i]?) (fun i => ws[i]?), walk_zip (K := K) (a := p) (b := q) (xs := vs) (ys := ws) (by rw [zip_len, r.len, s.len]), fun H e => ⟨sqL_up e h, sqL_up e h'⟩, fun i H x H' e hi y => ?_⟩
  obtain ⟨T, x1, y1, hT, hn, hh, hx, hy⟩ := y
  obtain ⟨d, e', h1, h2, h3⟩ := zip_at r s hx hy
  exact ⟨_, h1, .inr ⟨T, _, _, hT, hn, hh, rfl, .cons h2 (.cons h3 .nil)⟩⟩
theorem walk_zipTT {p q : Addr} {xs ys : List V} {n : Nat} (hn : n = min xs.length ys.length) : Walk (ItzT K p q) n (fun H => SqT K H p xs ∧ SqT K H q ys) (YPair (fun i => xs[i]?) (fun i => ys[i]?)) := by
  subst hn
  refine ⟨fun i _ hi z => ?_, fun _ z => ⟨xs, ys, z.1, z.2, by omega⟩, fun i H v H' _ z y => ?_⟩
  · obtain ⟨h1, h2⟩ := Nat.lt_min.mp hi
    exact ⟨xs, ys, xs[i], ys[i], z.1, z.2, by simp [h1], by simp [h2]⟩
  · obtain ⟨T, x, w, h1, h2, h3, h4, h5⟩ := y
    exact ⟨T, x, w, h1, h2, h3, h4 xs z.1, h5 ys z.2⟩
theorem srcw_zipT {p q : Addr} {vs ws : List V} {ds es : List D} (h : SqT K F p vs) (h' : SqT K F q ws) (r : Das K F vs ds) (s : Das K F ws es) : SrcW K F (ItzT K p q) (List.zipWith (fun x y => PyData.tuple [x, y]) ds es) := by
  refine ⟨fun H => SqT K H p vs ∧ SqT K H q ws, YPair (fun i => vs[i]?) (fun i => ws[i]?), walk_zipTT (K := K) (p := p) (q := q) (xs := vs) (ys := ws) (by rw [zip_len, r.len, s.len]), fun H e => ⟨sqT_up e h, sqT_up e h'⟩, fun i H x H' e hi y => ?_⟩
  obtain ⟨T, x1, y1, hT, hn, hh, hx, hy⟩ := y
  obtain ⟨d, e', h1, h2, h3⟩ := zip_at r s hx hy
  exact ⟨_, h1, .inr ⟨T, _, _, hT, hn, hh, rfl, .cons h2 (.cons h3 .nil)⟩⟩
/-- data at hand -/
theorem hand_da {v : V} {d : D} (h : Hold K fa F H (.dat d :: ρ) (some v :: σ) A) : Da K F v d ∧ Hold K fa F H ρ σ A := by
  obtain ⟨r, g⟩ := h.still rfl (fun z => nomatch z)
  cases r with
  | dat r => exact ⟨r, g⟩
theorem PI.or {X : Cx} {tg x : Expr} {t t' : TI} (h : PI X tg x t) (h' : PI X tg x t') : PI X tg x (fun σ H R => t σ H R ∨ t' σ H R) := ⟨fun pins s σ H R I q => q.elim (h.run pins s σ H R I) (h'.run pins s σ H R I)⟩
theorem pi_seqO {tg : Expr} {q : E} (h : PE X e (tR X.K fa (evE c q))) : PI X tg e (tSrc X.K fa (evSrc c (.seq q))) := by
  refine PI.weak (PI.or (pi_list (pe_fro h)) (pi_tup (pe_fro h))) fun σ H R ⟨F, ρ, A, items, ρ', hh, z, g⟩ => ?_
  simp only [evSrc] at z
  obtain ⟨o, ρ1, q1, q2⟩ := bnd_ok z
  obtain ⟨q3, rfl⟩ := opt_ok q2
  obtain ⟨d, q4, q5⟩ := Option.bind_eq_some_iff.mp q3
  obtain rfl := dat_of q1 q4
  cases d with
  | list ds =>
    cases q5
    refine .inl ⟨F, ρ, A, _, _, hh, q1, fun F' H' v A' h' e => ?_⟩
    obtain ⟨r, h2⟩ := hand_da h'
    cases r with
    | lst hl hr => exact ⟨_, rfl, ⟨_, sqL_up h'.sub hl⟩, g F' H' A' _ h2 e (srcw_list hl hr)⟩
  | tuple ds =>
    cases q5
    refine .inr ⟨F, ρ, A, _, _, hh, q1, fun F' H' v A' h' e => ?_⟩
    obtain ⟨r, h2⟩ := hand_da h'
    cases r with
    | tup hl hr => exact ⟨_, rfl, ⟨_, sqT_up h'.sub hl⟩, g F' H' A' _ h2 e (srcw_tup hl hr)⟩
  | _ => cases q5
theorem rng_bounds {i : Int} (h : rngOk i = true) : -(2 ^ 62) ≤ i ∧ i < 2 ^ 62 := by
  unfold rngOk at h
  simpa using h
theorem pi_rngO (ok : Cok names fa c k sc N fnb X) {tg : Expr} {q : E} (h : PE X a (tR X.K fa (evE c q))) (hs : starB a = false) (hg : gloB sc "range" = true) {p pos : Pos} : PI X tg (.Call (.Name "range" p) [a] [] pos) (tSrc X.K fa (evSrc c (.rng q))) := by
  refine PI.weak (pi_range1 (glo_of ok hg) (ok.blt _ (by decide)) (pa_cons h pa_nil (star_cons hs)) (star_cons hs)) fun σ H R ⟨F, ρ, A, items, ρ', hh, z, g⟩ => ?_
  simp only [evSrc] at z
  obtain ⟨o, ρ1, q1, q2⟩ := bnd_ok z
  obtain ⟨q3, rfl⟩ := opt_ok q2
  split at q3
  · rename_i j
    split at q3
    · rename_i hj
      cases q3
      refine ⟨F, ρ, A, _, _, hh, q1, fun F' H' v A' h' e => ?_⟩
      obtain ⟨r, h2⟩ := hand_da h'
      cases r
      exact ⟨j, rfl, (rng_bounds hj).1, (rng_bounds hj).2, g F' H' A' _ h2 e srcw_rng⟩
    · cases q3
  · cases q3
theorem pi_rng2O (ok : Cok names fa c k sc N fnb X) {tg : Expr} {q r : E} (h : PE X a (tR X.K fa (evE c q))) (h' : PE X b (tR X.K fa (evE c r))) (hs : starB a = false) (hs' : starB b = false) (hg : gloB sc "range" = true) {p pos : Pos} :
    PI X tg (.Call (.Name "range" p) [a, b] [] pos) (tSrc X.K fa (evSrc c (.rng2 q r))) := by
  refine PI.weak (pi_range2 (glo_of ok hg) (ok.blt _ (by decide)) (pa_cons (pe_fro h) (pa_cons (pe_fro h') pa_nil (star_cons hs')) (star_cons hs)) (by rw [star_cons hs, star_cons hs']; rfl) (star_cons hs')) fun σ H R ⟨F, ρ, A, items, ρ', hh, z, g⟩ => ?_
  simp only [evSrc] at z
  obtain ⟨o, ρ1, q1, q2⟩ := bnd_ok z
  obtain ⟨o2, ρ2, q3, q4⟩ := bnd_ok q2
  obtain ⟨q5, rfl⟩ := opt_ok q4
  split at q5
  · rename_i i j
    split at q5
    · rename_i hij
      cases q5
      refine ⟨F, ρ, A, _, _, hh, q1, fun F1 H1 v A1 h1 e1 => ?_⟩
      obtain ⟨r1, h2⟩ := hand_da h1
      cases r1
      refine ⟨F1, ρ1, A1, _, _, h2, q3, fun F3 H3 w A3 h3 e3 => ?_⟩
      obtain ⟨r2, h4⟩ := hand_da h3
      cases r2
      exact ⟨i, j, rfl, ⟨(rng_bounds hij.1).1, (rng_bounds hij.1).2, (rng_bounds hij.2).1, (rng_bounds hij.2).2⟩, g F3 H3 A3 _ h4 (e1.trans e3) srcw_rng⟩
    · cases q5
  · cases q5
theorem pi_zipO (ok : Cok names fa c k sc N fnb X) {elts : List Expr} {kk : Nat} {tpos : Pos} {q r : E} (h : PE X a (tR X.K fa (evE c q))) (h' : PE X b (tR X.K fa (evE c r))) (hs : starB a = false) (hs' : starB b = false) (hg : gloB sc "zip" = true) {p pos : Pos} :
    PI X (.Tuple elts kk tpos) (.Call (.Name "zip" p) [a, b] [] pos) (tSrc X.K fa (evSrc c (.zip q r))) := by
  refine PI.weak (pi_zipA (glo_of ok hg) (ok.blt _ (by decide)) (pa_cons (pe_fro h) (pa_cons (pe_fro h') pa_nil (star_cons hs')) (star_cons hs)) (star_cons hs) (by rw [star_cons hs']; rfl)) fun σ H R ⟨F, ρ, A, items, ρ', hh, z, g⟩ => ?_
  simp only [evSrc] at z
  obtain ⟨o, ρ1, q1, q2⟩ := bnd_ok z
  obtain ⟨o2, ρ2, q3, q4⟩ := bnd_ok q2
  obtain ⟨q5, rfl⟩ := opt_ok q4
  split at q5
  · cases q5
    refine ⟨F, ρ, A, _, _, hh, q1, fun F1 H1 v A1 h1 e1 => ?_⟩
    obtain ⟨r1, h2⟩ := hand_da h1
    refine ⟨F1, ρ1, A1, _, _, h2, q3, fun F3 H3 w A3 h3 e3 => ?_⟩
    obtain ⟨r2, h4⟩ := hand_da h3
    cases Da.up e3.le r1 with
    | lst hl hr =>
      cases r2 with
      | lst hl' hr' => exact ⟨_, _, _, _, rfl, .inl ⟨sqL_up h3.sub hl, sqL_up h3.sub hl', g F3 H3 A3 _ h4 (e1.trans e3) (srcw_zipL hl hl' hr hr')⟩⟩
  · cases q5
    refine ⟨F, ρ, A, _, _, hh, q1, fun F1 H1 v A1 h1 e1 => ?_⟩
    obtain ⟨r1, h2⟩ := hand_da h1
    refine ⟨F1, ρ1, A1, _, _, h2, q3, fun F3 H3 w A3 h3 e3 => ?_⟩
    obtain ⟨r2, h4⟩ := hand_da h3
    cases Da.up e3.le r1 with
    | tup hl hr =>
      cases r2 with
      | tup hl' hr' => exact ⟨_, _, _, _, rfl, .inr ⟨sqT_up h3.sub hl, sqT_up h3.sub hl', g F3 H3 A3 _ h4 (e1.trans e3) (srcw_zipT hl hl' hr hr')⟩⟩
  · cases q5
end
end EV

/-! EV, part 11: comprehensions. Own work. -/
namespace EV
open PySem L2 RZ
open PySem.Spec PyProof.Rows
section
variable {X : Cx} {names : List Str} {fa : Nat → Addr} {c : CX} {k : Nat} {sc : Scope} {N : List Str} {fnb : Str → Bool}
variable {as : As} {e a b : Expr} {es : List Expr} {o : O} {ρ ρ' : Env} {F H F' H' : Hp} {A A' : List Addr} {σ τ : List (Option V)} {K : PySem.W.Frag}
/-! ### slots hidden and shown again -/
theorem wipeE_len : ∀ {own : List Nat} {ρ : Env}, (wipeE own ρ).length = ρ.length
  | [], _ => rfl
  | v :: vs, ρ => by
    unfold wipeE
    rw [List.length_set, wipeE_len]
theorem wipeE_out {j : Nat} : ∀ {own : List Nat} {ρ : Env}, j ∉ own → (wipeE own ρ)[j]? = ρ[j]?
  | [], _, _ => rfl
  | v :: vs, ρ, h => by
    unfold wipeE
    rw [List.getElem?_set_ne fun z => h (by simp [z]), wipeE_out fun z => h (by simp [z])]
theorem wipeE_in {j : Nat} : ∀ {own : List Nat} {ρ : Env}, j ∈ own → j < ρ.length → (wipeE own ρ)[j]? = some .hole
  | v :: vs, ρ, h, l => by
    unfold wipeE
    by_cases z : v = j
    · subst z
      rw [List.getElem?_set_self (by rw [wipeE_len]; exact l)]
    · rw [List.getElem?_set_ne z]
      exact wipeE_in ((List.mem_cons.mp h).resolve_left fun q => z q.symm) l
theorem wipe_in {j : Nat} : ∀ {own : List Nat} {σ : L2.St}, j ∈ own → j < σ.length → (wipe σ own)[j]? = some none
  | v :: vs, σ, h, l => by
    unfold wipe
    by_cases z : v = j
    · subst z
      rw [List.getElem?_set_self (by rw [wipe_length]; exact l)]
    · rw [List.getElem?_set_ne z]
      exact wipe_in ((List.mem_cons.mp h).resolve_left fun q => z q.symm) l
theorem backE_len {ρ0 : Env} : ∀ {own : List Nat} {ρ : Env}, (backE own ρ0 ρ).length = ρ.length
  | [], _ => rfl
  | v :: vs, ρ => by
    unfold backE
    rw [List.length_set, backE_len]
theorem backE_out {ρ0 : Env} {j : Nat} : ∀ {own : List Nat} {ρ : Env}, j ∉ own → (backE own ρ0 ρ)[j]? = ρ[j]?
  | [], _, _ => rfl
  | v :: vs, ρ, h => by
    unfold backE
    rw [List.getElem?_set_ne fun z => h (by simp [z]), backE_out fun z => h (by simp [z])]
theorem backE_in {ρ0 : Env} {j : Nat} : ∀ {own : List Nat} {ρ : Env}, j ∈ own → j < ρ.length → (backE own ρ0 ρ)[j]? = some (ρ0.getD j .hole)
  | v :: vs, ρ, h, l => by
    unfold backE
    by_cases z : v = j
    · subst z
      rw [List.getElem?_set_self (by rw [backE_len]; exact l)]
    · rw [List.getElem?_set_ne z]
      exact backE_in ((List.mem_cons.mp h).resolve_left fun q => z q.symm) l
theorem wipe_eq {own : List Nat} {σ σ' : L2.St} (hl : σ'.length = σ.length) (h : ∀ j, j ∉ own → σ'[j]? = (wipe σ own)[j]?) : wipe σ' own = wipe σ own := by
  apply List.ext_getElem?
  intro j
  by_cases z : j ∈ own
  · by_cases l : j < σ.length
    · rw [wipe_in z l, wipe_in z (by rw [hl]; exact l)]
    · rw [List.getElem?_eq_none (by rw [wipe_length, hl]; omega), List.getElem?_eq_none (by rw [wipe_length]; omega)]
  · rw [wipe_out z, h j z]
theorem REs.patch : ∀ {os : List O} {vs : List (Option V)} {A : List Addr}, REs K fa F H os vs A → ∀ {os' : List O} {vs' : List (Option V)}, os'.length = os.length → vs'.length = vs.length →
    (∀ j, j < os.length → (os'[j]? = os[j]? ∧ vs'[j]? = vs[j]?) ∨ ∃ o x, os'[j]? = some o ∧ vs'[j]? = some x ∧ ROh K fa F H o x []) → ∃ A', A'.Sublist A ∧ REs K fa F H os' vs' A'
  | _, _, _, .nil, os', vs', h1, h2, _ => by
    obtain rfl := List.length_eq_zero_iff.mp h1
    obtain rfl := List.length_eq_zero_iff.mp h2
    exact ⟨[], List.Sublist.refl _, .nil⟩
  | _, _, _, .cons (o := o) (x := x) (B := B) h r, o' :: os', x' :: vs', h1, h2, p => by
    obtain ⟨A', s, r'⟩ := REs.patch r (os' := os') (vs' := vs') (Nat.succ.inj h1) (Nat.succ.inj h2) fun j hj => by
      have := p (j + 1) (Nat.succ_lt_succ hj)
      simpa using this
    have := p 0 (Nat.succ_pos _)
    rcases this with ⟨q1, q2⟩ | ⟨o2, x2, q1, q2, q3⟩
    · cases q1
      cases q2
      exact ⟨B ++ A', (List.Sublist.refl B).append s, .cons h r'⟩
    · cases q1
      cases q2
      exact ⟨[] ++ A', s.trans (List.sublist_append_right _ _), .cons q3 r'⟩
  | _, _, _, .cons _ _, [], _, h1, _, _ => nomatch h1
  | _, _, _, .cons _ _, _ :: _, [], _, h2, _ => nomatch h2
theorem Hold.patch {os : List O} {vs : List (Option V)} (h : Hold K fa F H os vs A) {os' : List O} {vs' : List (Option V)} (h1 : os'.length = os.length) (h2 : vs'.length = vs.length)
    (p : ∀ j, j < os.length → (os'[j]? = os[j]? ∧ vs'[j]? = vs[j]?) ∨ ∃ o x, os'[j]? = some o ∧ vs'[j]? = some x ∧ ROh K fa F H o x []) : ∃ A', (∀ a ∈ A', a ∈ A) ∧ Hold K fa F H os' vs' A' := by
  obtain ⟨A', s, r⟩ := h.rep.patch h1 h2 p
  exact ⟨A', fun a z => s.subset z, r, s.nodup h.nd, fun a z => h.off a (s.subset z), h.sub⟩
theorem Hold.wiped (h : Hold K fa F H ρ σ A) (own : List Nat) : ∃ A', (∀ a ∈ A', a ∈ A) ∧ Hold K fa F H (wipeE own ρ) (wipe σ own) A' :=
  h.patch wipeE_len (wipe_length _ _) fun j hj => by
    by_cases z : j ∈ own
    · exact .inr ⟨.hole, none, wipeE_in z hj, wipe_in z (by rw [← h.len]; exact hj), .inl ⟨rfl, rfl⟩⟩
    · exact .inl ⟨wipeE_out z, wipe_out z⟩
theorem Hold.backed {own : List Nat} {ρ1 : Env} {F1 H1 : Hp} {A1 : List Addr} (h : Hold K fa F H ρ (wipe σ own) A) (h1 : Hold K fa F1 H1 ρ1 σ A1) (s : Same F1 F) (hs : (own.all fun i => !own? (ρ1.getD i .hole)) = true) : ∃ A', (∀ a ∈ A', a ∈ A) ∧ Hold K fa F H (backE own ρ1 ρ) σ A' := by
  have hl : ρ.length = σ.length := by rw [h.len, wipe_length]
  refine h.patch backE_len (wipe_length _ _).symm fun j hj => ?_
  by_cases z : j ∈ own
  · have hj1 : j < ρ1.length := by
      rw [h1.len, ← hl]
      exact hj
    obtain ⟨A2, B, A3, x, _, hx, r, _⟩ := h1.upd (i := j) (List.getElem?_eq_getElem hj1)
    have e : ρ1.getD j .hole = ρ1[j] := by simp [List.getD, hj1]
    have q := List.all_eq_true.mp hs j z
    rw [e] at q
    refine .inr ⟨ρ1[j], x, by rw [backE_in z hj, e], hx, ?_⟩
    rcases r with ⟨e1, _⟩ | ⟨v, e1, r⟩
    · exact .inl ⟨e1, rfl⟩
    · refine .inr ⟨v, e1, ?_⟩
      generalize ρ1[j] = o at r q
      cases r with
      | dat r => exact .dat (Da.up s r)
      | fn i => exact .fn i
      | lst _ _ => cases q
  · exact .inl ⟨backE_out z, (wipe_out z).symm⟩
/-- what a slot owns is changed in place -/
theorem Hold.poke {p : Nat} {ds : List D} (h : Hold K fa F H ρ σ A) (hp : ρ[p]? = some (.lst ds)) : ∃ a vs, σ[p]? = some (some (.ref a)) ∧ H a = some (.lst vs) ∧ Das K F vs ds ∧
    ∀ ws es, Das K F ws es → Hold K fa F (L2.upd H a (.lst ws)) (ρ.set p (.lst es)) σ A ∧ Ext F H A F (L2.upd H a (.lst ws)) A := by
  obtain ⟨A1, B, A2, x, rfl, hx, r, g⟩ := h.upd hp
  rcases r with ⟨e, _⟩ | ⟨v, e, r⟩
  · cases e
  · subst e
    cases r with
    | @lst a vs _ ha hr =>
      refine ⟨a, vs, hx, ha, hr, fun ws es r' => ⟨?_, Same.refl _, fun b y q n => ?_, fun b z => .inl z, fun b y q => .inl q⟩⟩
      · have nd := h.nd
        have na : a ∉ A1 ++ A2 := by
          obtain ⟨n1, n2, n3⟩ := List.nodup_append.mp nd
          intro z
          rcases List.mem_append.mp z with z | z
          · exact n3 a z a (by simp) rfl
          · exact (List.nodup_cons.mp n2).1 z
        have fn : F a = none := h.off a (by simp)
        have sub : Same F (L2.upd H a (.lst ws)) := fun b y q => by
          rw [upd_ne (ne_of_none q fn)]
          exact h.sub b y q
        have := g (F' := F) (H' := L2.upd H a (.lst ws)) (o' := .lst es) (x' := some (.ref a)) (B' := [a]) (Same.refl _) sub (fun b z => upd_ne fun q => na (by rw [← q]; exact z)) (fun b z => h.off b (by
          rcases List.mem_append.mp z with z | z <;> simp [z])) (.inr ⟨_, rfl, .lst upd_same r'⟩) (by simp) (fun b z => by
          rw [List.mem_singleton.mp z]
          exact na) fun b z => by
          rw [List.mem_singleton.mp z]
          exact fn
        rwa [set_self hx] at this
      · have : b ≠ a := fun z => n (by simp [z])
        rw [upd_ne this]
        exact q
/-! ### the comprehension -/
theorem compM_ok {np : List Bool} {own : List Nat} {items : M (List D)} {tg : Tg} {cond : M Bool} {elt : M O} (q : compM np own items tg cond elt ρ = .ok o ρ') :
    ∃ xs ρ1 ds ρ2, items ρ = .ok xs ρ1 ∧ (own.all fun i => !own? (ρ1.getD i .hole)) = true ∧ compL (turnM np own tg cond elt) xs (wipeE own ρ1) = .ok ds ρ2 ∧ xs.length ≤ lim ∧ o = .lst ds ∧ ρ' = backE own ρ1 ρ2 := by
  unfold compM at q
  split at q
  · rename_i xs ρ1 h1
    split at q
    · rename_i h2
      split at q
      · rename_i ds ρ2 h3
        split at q
        · rename_i h4
          cases q
          exact ⟨xs, ρ1, ds, ρ2, h1, h2, h3, h4, rfl, rfl⟩
        · cases q
      · cases q
    · cases q
  · cases q
theorem turn_ok {np : List Bool} {own : List Nat} {tg : Tg} {cond : M Bool} {elt : M O} {x : D} {r : Option D} (q : turnM np own tg cond elt x ρ = .ok r ρ') :
    ∃ u ρ1 t ρ2, asg np tg (.dat x) ρ = .ok u ρ1 ∧ cond ρ1 = .ok t ρ2 ∧ ((t = true ∧ ∃ d ρ3, fro elt ρ2 = .ok (.dat d) ρ3 ∧ r = some d ∧ ρ' = wipeE own ρ3) ∨ (t = false ∧ r = none ∧ ρ' = wipeE own ρ2)) := by
  unfold turnM at q
  split at q
  · rename_i r' ρ4 h
    cases q
    obtain ⟨u, ρ1, h1, h2⟩ := bnd_ok h
    obtain ⟨t, ρ2, h3, h4⟩ := bnd_ok h2
    refine ⟨u, ρ1, t, ρ2, h1, h3, ?_⟩
    cases t with
    | true =>
      obtain ⟨oo, ρ3, h5, h6⟩ := bnd_ok h4
      obtain ⟨d, ρ5, h7, h8⟩ := bnd_ok h6
      obtain ⟨h9, rfl⟩ := opt_ok h7
      obtain ⟨rfl, rfl⟩ := pur_ok h8
      refine .inl ⟨rfl, d, _, ?_, rfl, rfl⟩
      show bnd elt _ _ = _
      unfold bnd
      rw [h5]
      cases oo <;> cases h9 <;> rfl
    | false =>
      obtain ⟨rfl, rfl⟩ := pur_ok h4
      exact .inr ⟨rfl, rfl, rfl⟩
  · cases q
theorem comp_cons {turn : D → M (Option D)} {x : D} {xs ds : List D} (q : compL turn (x :: xs) ρ = .ok ds ρ') : ∃ r ρ1 rest, turn x ρ = .ok r ρ1 ∧ compL turn xs ρ1 = .ok rest ρ' ∧ ds = (match r with
    | some d => d :: rest
    | none => rest) := by
  unfold compL at q
  obtain ⟨r, ρ1, h1, h2⟩ := bnd_ok q
  obtain ⟨rest, ρ2, h3, h4⟩ := bnd_ok h2
  obtain ⟨rfl, rfl⟩ := pur_ok h4
  exact ⟨r, ρ1, rest, h1, h3, rfl⟩
theorem comp_read {src : M (List D)} {tg : Tg} {tm : M Bool} {elt : M O} {own : List Nat} (ht : ∀ i ∈ tg.slots, i ∈ own) {Q : VK} (z : tR K fa (compM c.np own src tg tm elt) σ H Q) :
    tLc (tSrc K fa src) (tTg K tg) (tK K fa tm) (tR K fa (fro elt)) own σ H Q := by
  obtain ⟨F, ρ, A, o, ρ', hh, q, g⟩ := z
  obtain ⟨xs, ρ1, ds, ρ2, q1, q2, q3, q4, rfl, rfl⟩ := compM_ok q
  refine ⟨F, ρ, A, xs, ρ1, hh, q1, fun F1 H1 A1 J h1 e1 ⟨G, Y, w, hG, hY⟩ => ?_⟩
  intro P hP
  obtain ⟨A2, s2, h2⟩ := h1.wiped own
  refine lc_it w (fun i H => ∃ F2 ρ3 A3 acc rest, Hold K fa F2 H (.lst acc :: ρ3) (some (.ref P) :: wipe σ own) A3 ∧ Ext F1 H1 A1 F2 H A3 ∧ acc.length ≤ i ∧ compL (turnM c.np own tg tm elt) (xs.drop i) ρ3 = .ok rest ρ2 ∧ ds = acc ++ rest) ?_ ?_ ?_ ?_
  · have := give_lst (Q := fun v H => v = .ref P → ∃ F2 ρ3 A3 acc rest, Hold K fa F2 H (.lst acc :: ρ3) (some (.ref P) :: wipe σ own) A3 ∧ Ext F1 H1 A1 F2 H A3 ∧ acc.length ≤ 0 ∧ compL (turnM c.np own tg tm elt) (xs.drop 0) ρ3 = .ok rest ρ2 ∧ ds = acc ++ rest) h2 .nil (fun F3 H3 v A3 h3 e3 ev => by
      subst ev
      exact ⟨F3, _, A3, [], ds, h3, e3.more s2, Nat.le_refl _, q3, rfl⟩) P hP
    exact this rfl
  · rintro i H2 hi ⟨F2, ρ3, A3, acc, rest, h3, e3, _⟩
    exact hG H2 (e3.le.trans h3.sub)
  · rintro i x H2 H3 hi ⟨F2, ρ3, A3, acc, rest, h3, e3, l3, q5, q6⟩ y
    obtain ⟨d, hd, z⟩ := hY i H2 x H3 (e3.le.trans h3.sub) hi y
    obtain ⟨F4, h4, rd, e4⟩ := src_item h3 e3.le z
    have hdr : xs.drop i = d :: xs.drop (i + 1) := by
      obtain ⟨hlt, rfl⟩ := List.getElem?_eq_some_iff.mp hd
      exact List.drop_eq_getElem_cons hlt
    rw [hdr] at q5
    obtain ⟨r, ρ4, rest', q7, q8, rfl⟩ := comp_cons q5
    obtain ⟨u, ρ5, t, ρ6, q9, q10, q11⟩ := turn_ok q7
    obtain ⟨B, A4, rfl, hB, hT, dj⟩ := h4.cut 1
    refine asg_read (hT.dat (.dat rd)) q9 fun σ' A5 h5 s5 l5 k5 => ?_
    have wq : wipe σ' own = wipe σ own := wipe_eq (by rw [l5]; exact wipe_length _ _) fun j hj => k5 j fun z => hj (ht j z)
    refine ⟨wq, ?_⟩
    have e45 : Ext F4 H3 A4 F4 H3 A5 := (Ext.refl F4 H3 A4).fewer s5
    refine ⟨F4, ρ5, A5, t, ρ6, h5, q10, fun F6 H6 A6 h6 e6 => ?_⟩
    have e46 := e45.trans e6
    rcases q11 with ⟨rfl, d', ρ7, q12, rfl, rfl⟩ | ⟨rfl, rfl, rfl⟩
    · refine ⟨F6, ρ6, A6, _, ρ7, h6, q12, fun F7 H7 v A7 h7 e7 => ?_⟩
      have e47 := e46.trans e7
      obtain ⟨rv, h7'⟩ := hand_da h7
      have hb := hB.both e47 h7' dj
      obtain ⟨a, vs, ha, hv, hr, pk⟩ := hb.poke (p := 0) (ds := acc) rfl
      cases ha
      obtain ⟨hb2, eb2⟩ := pk (vs ++ [v]) (acc ++ [d']) (hr.app (.cons rv .nil))
      have eE : Ext F1 H1 A1 F7 H7 (B ++ A7) := e3.trans (e4.trans (e47.left B))
      refine ⟨vs, hv, ?_, ?_⟩
      · rw [hr.len, sizeL]
        have : xs.length ≤ lim := q4
        omega
      · obtain ⟨C, D', eA, hC, hD, dj2⟩ := hb2.cut 1
        obtain ⟨D2, sD, hD2⟩ := hD.wiped own
        have hfin := hC.app hD2 fun a z1 z2 => dj2 a z1 (sD a z2)
        have hfin : Hold K fa F7 (L2.upd H7 P (.lst (vs ++ [v]))) (.lst (acc ++ [d']) :: wipeE own ρ7) (some (.ref P) :: wipe σ' own) (C ++ D2) := hfin
        rw [wq] at hfin
        refine ⟨F7, _, _, acc ++ [d'], rest', hfin, (eE.trans eb2).fewer fun a z1 => ?_, by simp; omega, q8, by rw [q6]; simp⟩
        rw [eA]
        rcases List.mem_append.mp z1 with z1 | z1
        · exact List.mem_append_left _ z1
        · exact List.mem_append_right _ (sD a z1)
    · have hb := hB.both e46 h6 dj
      obtain ⟨A8, sA, h8⟩ := h6.wiped own
      rw [wq] at h8
      have e48 := e46.fewer sA
      have hb := hB.both e48 h8 dj
      exact ⟨F6, _, _, acc, rest', hb, e3.trans (e4.trans (e48.left B)), by omega, q8, q6⟩
  · rintro H2 ⟨F2, ρ3, A3, acc, rest, h3, e3, _, q5, q6⟩
    have hdr : xs.drop xs.length = [] := List.drop_length
    rw [hdr] at q5
    obtain ⟨rfl, rfl⟩ := pur_ok (show pur [] ρ3 = .ok rest ρ2 from q5)
    rw [List.append_nil] at q6
    subst q6
    obtain ⟨B, A4, rfl, hB, hT, dj⟩ := h3.cut 1
    obtain ⟨A5, s5, h5⟩ := Hold.backed (own := own) hT h1 e3.le q2
    have hfin := hB.app h5 fun a z1 z2 => dj a z1 (s5 a z2)
    refine g F2 H2 _ _ hfin (e1.trans (e3.fewer fun a z1 => ?_))
    rcases List.mem_append.mp z1 with z1 | z1
    · exact List.mem_append_left _ z1
    · exact List.mem_append_right _ (s5 a z1)
/-! ### its written form -/
def ownP (N : List Str) (own : List Nat) : List (Str × Nat) := own.map fun i => (N.getD i "", i)
def clFn (scope : Scope) : Str → Bool := fun x => scope.names.lookup x == some .cell
theorem ownP_snd {own : List Nat} : (ownP N own).map (·.2) = own := by
  unfold ownP
  rw [List.map_map]
  exact List.map_id _
theorem Cok.blk (ok : Cok names fa c k sc N fnb X) (s : Shared) (H : Hp) (scope : Scope) (C : Addr) (cl : List (Str × Addr)) (fp : List Addr) : Cok names fa c k (relS scope sc) N (clFn scope) (X.blk s H scope (compEnvC scope cl C X.env) fp) :=
  ⟨by rw [← ok.sc]; rfl, ok.nN, ok.nd, rfl, ok.calm, ok.gd, ok.room, ok.blt, ok.defs⟩
def setB : Expr → Bool
  | .Set .. => true
  | _ => false
theorem folded_of {x : Expr} (h : setB x = false) {env : PySem.Env} (v : Value) : foldedSetIterable x env v = pure v := by
  cases x <;> first | rfl | cases h
theorem pts_yes : PTs X [] (tK X.K fa (pur true)) := ⟨fun pins s σ H Q I ⟨F, ρ, A, b, ρ', hh, q, g⟩ => by
  obtain ⟨rfl, rfl⟩ := pur_ok q
  exact pts_nil.run pins s σ H Q I (g F H A hh (Ext.refl _ _ _))⟩
theorem pe_comp (ok : Cok names fa c k sc N fnb X) {elt tg iter : Expr} {ifs : List Expr} {scope : Scope} {pos : Pos} {x : E} {t : Tg} {src : Src} {ci : Bool} {cond : E} {own : List Nat}
    (hi : PI X tg iter (tSrc X.K fa (evSrc c src))) (hb : blkC N sc scope (ownP N own) = true) (hs : setB iter = false) (ho : (t.slots.all fun i => own.contains i) = true)
    (hg : tgB N (relS scope sc) (clFn scope) t tg = true)
    (ht : ∀ X', Cok names fa c k (relS scope sc) N (clFn scope) X' → X'.K = X.K → PTs X' ifs (tK X'.K fa (if ci = true then testM (evE c cond) else pur true)))
    (he : ∀ X', Cok names fa c k (relS scope sc) N (clFn scope) X' → X'.K = X.K → PE X' elt (tR X'.K fa (evE c x))) :
    PE X (.ListComp elt [⟨tg, iter, ifs, 0⟩] scope pos) (tR X.K fa (evE c (.comp x t src ci cond own))) := by
  have hN : X.N.Nodup := by rw [ok.nN]; exact ok.nd
  have hbk : BlkOk X.N X.env.scope scope (ownP N own) := by rw [ok.nN, ok.sc]; exact blkOk_by hb
  refine PE.weak (pe_lc (g := tTg X.K t) (tt := tK X.K fa (if ci = true then testM (evE c cond) else pur true)) (te := tR X.K fa (fro (evE c x))) ok.calm hN hi hbk (fun s H C cl fp => pg_tg (ok.blk s H scope C cl fp) hg) (fun s H C cl fp => ht _ (ok.blk s H scope C cl fp) rfl) (fun s H C cl fp => pe_fro (he _ (ok.blk s H scope C cl fp) rfl)) (folded_of hs)) fun σ H Q z => ?_
  rw [ownP_snd]
  simp only [evE] at z
  exact comp_read (fun i hi => by simpa using List.all_eq_true.mp ho i hi) z
end
end EV

/-! EV, part 12: the comparing of a whole expression with its code, and that it is sound. Own work. -/
namespace EV
open PySem L2 RZ
open PySem.Spec PyProof.Rows
inductive Job where
  | e (x : E) (y : Expr)
  | t (x : E) (y : Expr)
  | as (x : As) (y : List Expr)
  | src (x : Src) (tg y : Expr)
abbrev Chk := Scope → (Str → Bool) → Job → Bool
def unB : Expr → Expr
  | .BoolOp _ [y] _ => y
  | y => y
def plainT : Expr → Bool
  | .UnaryOp .Not _ _ => false
  | .BoolOp _ _ _ => false
  | .IfExp _ _ _ _ => false
  | .Compare _ _ _ _ => false
  | _ => true
section
variable (names N : List Str) (k : Chk) (sc : Scope) (fnb : Str → Bool)
def stAnd (a b : E) : Expr → Bool
  | .BoolOp .And (y :: z :: r) pos => k sc fnb (.e a y) && k sc fnb (.e b (unB (.BoolOp .And (z :: r) pos)))
  | _ => false
def stOr (a b : E) : Expr → Bool
  | .BoolOp .Or (y :: z :: r) pos => k sc fnb (.e a y) && k sc fnb (.e b (unB (.BoolOp .Or (z :: r) pos)))
  | _ => false
def stNot (a : E) : Expr → Bool
  | .UnaryOp .Not y _ => k sc fnb (.e a y)
  | _ => false
def stIte (q a b : E) : Expr → Bool
  | .IfExp t y z _ => k sc fnb (.t q t) && (k sc fnb (.e a y) && k sc fnb (.e b z))
  | _ => false
def stCall (f : Nat) (as : As) : Expr → Bool
  | .Call (.Name g _) es [] _ => decide (names[f]? = some g) && (gloB sc g && (plainNm g && k sc fnb (.as as es)))
  | _ => false
def stIfs (ci : Bool) (cond : E) (scope : Scope) : List Expr → Bool
  | [] => !ci
  | [y] => ci && k (relS scope sc) (clFn scope) (.t cond y)
  | _ => false
def stComp (x : E) (t : Tg) (src : Src) (ci : Bool) (cond : E) (own : List Nat) : Expr → Bool
  | .ListComp elt [⟨tg, iter, ifs, 0⟩] scope _ => k sc fnb (.src src tg iter) && (blkC N sc scope (ownP N own) && (!setB iter && ((t.slots.all fun i => own.contains i) && (tgB N (relS scope sc) (clFn scope) t tg &&
      (stIfs k sc ci cond scope ifs && k (relS scope sc) (clFn scope) (.e x elt))))))
  | _ => false
def stE : E → Expr → Bool
  | .con d, x => conB d x
  | .var i, x => nameB N sc i x
  | .fnv _, _ => false
  | .app f as, x => appB sc as.noPl as.ex2 (fun es => k sc fnb (.as as es)) f x
  | .and_ a b, x => stAnd k sc fnb a b x
  | .or_ a b, x => stOr k sc fnb a b x
  | .not_ a, x => stNot k sc fnb a x
  | .ite q a b, x => stIte k sc fnb q a b x
  | .call f as, x => stCall names k sc fnb f as x
  | .comp x t src ci cond own, y => stComp N k sc fnb x t src ci cond own y
def stAndT (a b : E) : Expr → Bool
  | .BoolOp .And (y :: z :: r) pos => k sc fnb (.t a y) && k sc fnb (.t b (unB (.BoolOp .And (z :: r) pos)))
  | _ => false
def stOrT (a b : E) : Expr → Bool
  | .BoolOp .Or (y :: z :: r) pos => k sc fnb (.t a y) && k sc fnb (.t b (unB (.BoolOp .Or (z :: r) pos)))
  | _ => false
def stNotT (a : E) : Expr → Bool
  | .UnaryOp .Not y _ => k sc fnb (.t a y)
  | _ => false
def stCmpT (f : Op) (as : As) : Expr → Bool
  | .Compare a [op] [b] _ => decide (opC f = some op) && k sc fnb (.as as [a, b])
  | _ => false
def stT (x : E) (y : Expr) : Bool := (plainT y && k sc fnb (.e x y)) || (match x with
  | .not_ a => stNotT k sc fnb a y
  | .and_ a b => stAndT k sc fnb a b y
  | .or_ a b => stOrT k sc fnb a b y
  | .app f as => stCmpT k sc fnb f as y
  | _ => false)
def stA : As → List Expr → Bool
  | .nil, [] => true
  | .ex x r, y :: ys => k sc fnb (.e x y) && (!starB y && k sc fnb (.as r ys))
  | .pl i r, y :: ys => nameB N sc i y && (!starB y && k sc fnb (.as r ys))
  | _, _ => false
def stRng (q : E) : Expr → Bool
  | .Call (.Name g _) [a] [] _ => decide (g = "range") && (gloB sc "range" && (!starB a && k sc fnb (.e q a)))
  | _ => false
def stRng2 (q r : E) : Expr → Bool
  | .Call (.Name g _) [a, b] [] _ => decide (g = "range") && (gloB sc "range" && (!starB a && (!starB b && (k sc fnb (.e q a) && k sc fnb (.e r b)))))
  | _ => false
def stZip (q r : E) : Expr → Expr → Bool
  | .Tuple _ _ _, .Call (.Name g _) [a, b] [] _ => decide (g = "zip") && (gloB sc "zip" && (!starB a && (!starB b && (k sc fnb (.e q a) && k sc fnb (.e r b)))))
  | _, _ => false
def stSrc (tg : Expr) : Src → Expr → Bool
  | .seq q, x => k sc fnb (.e q x)
  | .rng q, x => stRng k sc fnb q x
  | .rng2 q r, x => stRng2 k sc fnb q r x
  | .zip q r, x => stZip k sc fnb q r tg x
def stJob : Job → Bool
  | .e x y => stE names N k sc fnb x y
  | .t x y => stT k sc fnb x y
  | .as x y => stA N k sc fnb x y
  | .src x tg y => stSrc k sc fnb tg x y
end
def chk (names N : List Str) : Nat → Chk
  | 0 => fun _ _ _ => false
  | n + 1 => fun sc fnb j => stJob names N (chk names N n) sc fnb j
section
variable {X : Cx} {names : List Str} {fa : Nat → Addr} {c : CX} {k : Nat} {sc : Scope} {N : List Str} {fnb : Str → Bool} {kk : Chk}
variable {as : As} {e a b : Expr} {es : List Expr}
def JobOk (X : Cx) (fa : Nat → Addr) (c : CX) : Job → Prop
  | .e x y => PE X y (tR X.K fa (evE c x))
  | .t x y => PT X y (tK X.K fa (testM (evE c x)))
  | .as x y => SAs X fa c x y
  | .src x tg y => PI X tg y (tSrc X.K fa (evSrc c x))
def ChkOk (names : List Str) (fa : Nat → Addr) (c : CX) (k : Nat) (N : List Str) (kk : Chk) : Prop := ∀ {sc : Scope} {fnb : Str → Bool} {X : Cx}, Cok names fa c k sc N fnb X → ∀ {j : Job}, kk sc fnb j = true → JobOk X fa c j
theorem un_pe {t : TE} (h : PE X (unB e) t) : PE X e t := by
  unfold unB at h
  split at h
  · exact pe_one h
  · exact h
theorem and_pw {t : TT} {pos : Pos} (h : PT X (unB (.BoolOp .And (b :: es) pos)) t) : PW X (.BoolOp .And (b :: es) pos) t := by
  cases es with
  | nil => exact pw_and1 h
  | cons x xs => exact bool_pw h
theorem or_pw {t : TT} {pos : Pos} (h : PT X (unB (.BoolOp .Or (b :: es) pos)) t) : PW X (.BoolOp .Or (b :: es) pos) t := by
  cases es with
  | nil => exact pw_or1 h
  | cons x xs => exact bool_pw h
theorem plainT_of (h : plainT e = true) {env : PySem.Env} (whole : Sem Value) : isTrue e env whole = (do let v ← whole; standAt e.pos; holding [v] (truthy v)) := by
  cases e with
  | UnaryOp op x pos => cases op <;> first | rfl | cases h
  | BoolOp _ _ _ => cases h
  | IfExp _ _ _ _ => cases h
  | Compare _ _ _ _ => cases h
  | _ => rfl
theorem nst {q : Bool} (h : (!q) = true) : q = false := by simpa using h
theorem stE_ok (ok : Cok names fa c k sc N fnb X) (hk : ChkOk names fa c k N kk) {x : E} (h : stE names N kk sc fnb x e = true) : PE X e (tR X.K fa (evE c x)) := by
  cases x with
  | con d =>
    refine PE.weak (pe_con_ (fa := fa) h) fun σ H Q z => ?_
    simpa only [evE] using z
  | var i =>
    refine PE.weak (pe_vr ok h) fun σ H Q z => ?_
    simpa only [evE] using z
  | fnv f => cases h
  | app f as => exact pe_app ok (fun es he => hk ok (j := .as as es) he) h
  | and_ p q =>
    replace h : stAnd kk sc fnb p q e = true := h
    unfold stAnd at h
    split at h
    · obtain ⟨h1, h2⟩ := Bool.and_eq_true_iff.mp h
      exact pe_andO (hk ok h1) (un_pe (hk ok h2))
    · cases h
  | or_ p q =>
    replace h : stOr kk sc fnb p q e = true := h
    unfold stOr at h
    split at h
    · obtain ⟨h1, h2⟩ := Bool.and_eq_true_iff.mp h
      exact pe_orO (hk ok h1) (un_pe (hk ok h2))
    · cases h
  | not_ p =>
    replace h : stNot kk sc fnb p e = true := h
    unfold stNot at h
    split at h
    · exact pe_notO (hk ok h)
    · cases h
  | ite p q r =>
    replace h : stIte kk sc fnb p q r e = true := h
    unfold stIte at h
    split at h
    · obtain ⟨h1, h2⟩ := Bool.and_eq_true_iff.mp h
      obtain ⟨h2, h3⟩ := Bool.and_eq_true_iff.mp h2
      exact pe_iteO (hk ok h1) (hk ok h2) (hk ok h3)
    · cases h
  | call f as =>
    replace h : stCall names kk sc fnb f as e = true := h
    unfold stCall at h
    split at h
    · obtain ⟨h1, h2⟩ := Bool.and_eq_true_iff.mp h
      obtain ⟨h2, h3⟩ := Bool.and_eq_true_iff.mp h2
      obtain ⟨h3, h4⟩ := Bool.and_eq_true_iff.mp h3
      exact pe_def ok (hk ok h4) (of_decide_eq_true h1) h2 h3
    · cases h
  | comp x t src ci cond own =>
    replace h : stComp N kk sc fnb x t src ci cond own e = true := h
    unfold stComp at h
    split at h
    · rename_i elt tg iter ifs scope pos
      obtain ⟨h1, h⟩ := Bool.and_eq_true_iff.mp h
      obtain ⟨h2, h⟩ := Bool.and_eq_true_iff.mp h
      obtain ⟨h3, h⟩ := Bool.and_eq_true_iff.mp h
      obtain ⟨h4, h⟩ := Bool.and_eq_true_iff.mp h
      obtain ⟨h5, h⟩ := Bool.and_eq_true_iff.mp h
      obtain ⟨h6, h7⟩ := Bool.and_eq_true_iff.mp h
      refine pe_comp ok (hk ok h1) h2 (nst h3) h4 h5 (fun X' ok' e' => ?_) fun X' ok' e' => hk ok' h7
      unfold stIfs at h6
      split at h6
      · obtain rfl := nst h6
        exact pts_yes
      · obtain ⟨rfl, h8⟩ := Bool.and_eq_true_iff.mp h6
        exact pts_one (hk ok' h8)
      · cases h6
    · cases h
theorem stT_ok (ok : Cok names fa c k sc N fnb X) (hk : ChkOk names fa c k N kk) {x : E} (h : stT kk sc fnb x e = true) : PT X e (tK X.K fa (testM (evE c x))) := by
  unfold stT at h
  rcases Bool.or_eq_true_iff.mp h with h | h
  · obtain ⟨h1, h2⟩ := Bool.and_eq_true_iff.mp h
    exact pt_plain (hk ok h2) fun w => plainT_of h1 w
  · split at h
    · unfold stNotT at h
      split at h
      · exact pt_notO (hk ok h)
      · cases h
    · unfold stAndT at h
      split at h
      · obtain ⟨h1, h2⟩ := Bool.and_eq_true_iff.mp h
        exact pt_andO (hk ok h1) (and_pw (hk ok h2))
      · cases h
    · unfold stOrT at h
      split at h
      · obtain ⟨h1, h2⟩ := Bool.and_eq_true_iff.mp h
        exact pt_orO (hk ok h1) (or_pw (hk ok h2))
      · cases h
    · unfold stCmpT at h
      split at h
      · obtain ⟨h1, h2⟩ := Bool.and_eq_true_iff.mp h
        exact pt_cmpO ok (hk ok h2) (of_decide_eq_true h1)
      · cases h
    · cases h
theorem stA_ok (ok : Cok names fa c k sc N fnb X) (hk : ChkOk names fa c k N kk) (h : stA N kk sc fnb as es = true) : SAs X fa c as es := by
  unfold stA at h
  split at h
  · trivial
  · obtain ⟨h1, h2⟩ := Bool.and_eq_true_iff.mp h
    obtain ⟨h2, h3⟩ := Bool.and_eq_true_iff.mp h2
    exact ⟨pe_fro (hk ok h1), nst h2, hk ok h3⟩
  · obtain ⟨h1, h2⟩ := Bool.and_eq_true_iff.mp h
    obtain ⟨h2, h3⟩ := Bool.and_eq_true_iff.mp h2
    exact ⟨pe_slot ok h1, nst h2, hk ok h3⟩
  · cases h
theorem stSrc_ok (ok : Cok names fa c k sc N fnb X) (hk : ChkOk names fa c k N kk) {tg : Expr} {x : Src} (h : stSrc kk sc fnb tg x e = true) : PI X tg e (tSrc X.K fa (evSrc c x)) := by
  cases x with
  | seq q => exact pi_seqO (hk ok h)
  | rng q =>
    replace h : stRng kk sc fnb q e = true := h
    unfold stRng at h
    split at h
    · obtain ⟨h1, h⟩ := Bool.and_eq_true_iff.mp h
      obtain ⟨h2, h⟩ := Bool.and_eq_true_iff.mp h
      obtain ⟨h3, h4⟩ := Bool.and_eq_true_iff.mp h
      obtain rfl := of_decide_eq_true h1
      exact pi_rngO ok (hk ok h4) (nst h3) h2
    · cases h
  | rng2 q r =>
    replace h : stRng2 kk sc fnb q r e = true := h
    unfold stRng2 at h
    split at h
    · obtain ⟨h1, h⟩ := Bool.and_eq_true_iff.mp h
      obtain ⟨h2, h⟩ := Bool.and_eq_true_iff.mp h
      obtain ⟨h3, h⟩ := Bool.and_eq_true_iff.mp h
      obtain ⟨h4, h⟩ := Bool.and_eq_true_iff.mp h
      obtain ⟨h5, h6⟩ := Bool.and_eq_true_iff.mp h
      obtain rfl := of_decide_eq_true h1
      exact pi_rng2O ok (hk ok h5) (hk ok h6) (nst h3) (nst h4) h2
    · cases h
  | zip q r =>
    replace h : stZip kk sc fnb q r tg e = true := h
    unfold stZip at h
    split at h
    · obtain ⟨h1, h⟩ := Bool.and_eq_true_iff.mp h
      obtain ⟨h2, h⟩ := Bool.and_eq_true_iff.mp h
      obtain ⟨h3, h⟩ := Bool.and_eq_true_iff.mp h
      obtain ⟨h4, h⟩ := Bool.and_eq_true_iff.mp h
      obtain ⟨h5, h6⟩ := Bool.and_eq_true_iff.mp h
      obtain rfl := of_decide_eq_true h1
      exact pi_zipO ok (hk ok h5) (hk ok h6) (nst h3) (nst h4) h2
    · cases h
theorem chk_ok (n : Nat) : ChkOk names fa c k N (chk names N n) := by
  induction n with
  | zero =>
    intro sc fnb X ok j h
    cases h
  | succ n ih =>
    intro sc fnb X ok j h
    replace h : stJob names N (chk names N n) sc fnb j = true := h
    cases j with
    | e x y => exact stE_ok ok ih h
    | t x y => exact stT_ok ok ih h
    | as x y => exact stA_ok ok ih h
    | src x tg y => exact stSrc_ok ok ih h
end
end EV

/-! EV, part 13: statements. Own work. -/
namespace EV
open PySem L2 RZ
open PySem.Spec PyProof.Rows
def Kept (lk : List Bool) (σ σ' : L2.St) : Prop := σ'.length = σ.length ∧ ∀ i, lk.getD i false = true → σ'[i]? = σ[i]?
theorem Kept.refl (lk : List Bool) (σ : L2.St) : Kept lk σ σ := ⟨rfl, fun _ _ => rfl⟩
theorem Kept.trans {lk : List Bool} {σ σ1 σ2 : L2.St} (a : Kept lk σ σ1) (b : Kept lk σ1 σ2) : Kept lk σ σ2 := ⟨b.1.trans a.1, fun i h => (b.2 i h).trans (a.2 i h)⟩
theorem Kept.set {lk : List Bool} {σ : L2.St} {i : Nat} {x : Option V} (h : lk.getD i false = false) : Kept lk σ (σ.set i x) := ⟨List.length_set .., fun j hj => List.getElem?_set_ne fun z => by
  subst z
  rw [h] at hj
  cases hj⟩
def EndsF (K : PySem.W.Frag) (fa : Nat → Addr) (lk : List Bool) (F H : Hp) (A : List Addr) (ρ : Env) (σ : L2.St) (D : Ends) : Fl → Prop
  | .nx => ∀ F' H' σ' A', Hold K fa F' H' ρ σ' A' → Ext F H A F' H' A' → Kept lk σ σ' → D.nx σ' H'
  | .bk => ∀ F' H' σ' A', Hold K fa F' H' ρ σ' A' → Ext F H A F' H' A' → Kept lk σ σ' → D.bk σ' H'
  | .ct => ∀ F' H' σ' A', Hold K fa F' H' ρ σ' A' → Ext F H A F' H' A' → Kept lk σ σ' → D.ct σ' H'
  | .rt o => ∀ F' H' v σ' A', Hold K fa F' H' (o :: ρ) (some v :: σ') A' → Ext F H A F' H' A' → Kept lk σ σ' → D.rt v H'
def tS (K : PySem.W.Frag) (fa : Nat → Addr) (lk : List Bool) (m : M Fl) : TS := fun D σ H => ∃ F ρ A f ρ', Hold K fa F H ρ σ A ∧ m ρ = .ok f ρ' ∧ EndsF K fa lk F H A ρ' σ D f
section
variable {X : Cx} {names : List Str} {fa : Nat → Addr} {c : CX} {k : Nat} {sc : Scope} {N : List Str} {fnb : Str → Bool} {lk : List Bool}
variable {as : As} {e a b : Expr} {es : List Expr} {o : O} {ρ ρ' : Env} {F H F' H' : Hp} {A A' : List Addr} {σ σ' τ : List (Option V)} {K : PySem.W.Frag} {D D' : Ends} {f : Fl} {pos : Pos}
theorem EndsF.up (g : EndsF K fa lk F H A ρ σ D f) (e : Ext F H A F' H' A') (s : Kept lk σ σ') : EndsF K fa lk F' H' A' ρ σ' D f := by
  cases f with
  | rt o => exact fun F2 H2 v σ2 A2 h e2 k2 => g F2 H2 v σ2 A2 h (e.trans e2) (s.trans k2)
  | _ => exact fun F2 H2 σ2 A2 h e2 k2 => g F2 H2 σ2 A2 h (e.trans e2) (s.trans k2)
theorem EndsF.now (g : EndsF K fa lk F H A ρ σ D .nx) (h : Hold K fa F H ρ σ A) : D.nx σ H := g F H σ A h (Ext.refl _ _ _) (Kept.refl _ _)
theorem pss_nilS : PSs X [] (tS X.K fa c.np (evSs c .nil)) := ⟨fun pins s σ H D I ⟨F, ρ, A, f, ρ', hh, q, g⟩ => by
  simp only [evSs] at q
  obtain ⟨rfl, rfl⟩ := pur_ok q
  exact pss_nil.run pins s σ H D I (g.now hh)⟩
theorem PSs.weak {X : Cx} {x : List Stmt} {t t' : TS} (h : PSs X x t) (w : ∀ D σ H, t' D σ H → t D σ H) : PSs X x t' := ⟨fun pins s σ H D I q => h.run pins s σ H D I (w D σ H q)⟩
theorem pss_consS {st : Stmt} {rest : List Stmt} {s : S} {r : Ss} (h1 : PS X st (tS X.K fa c.np (evS c s))) (h2 : PSs X rest (tS X.K fa c.np (evSs c r))) : PSs X (st :: rest) (tS X.K fa c.np (evSs c (.cons s r))) := by
  refine PSs.weak (pss_cons h1 h2) fun D σ H ⟨F, ρ, A, f, ρ', hh, q, g⟩ => ?_
  simp only [evSs] at q
  obtain ⟨f1, ρ1, q1, q2⟩ := bnd_ok q
  refine ⟨F, ρ, A, f1, ρ1, hh, q1, ?_⟩
  cases f1 with
  | nx => exact fun F' H' σ' A' h' e s' => ⟨F', ρ1, A', f, ρ', h', q2, g.up e s'⟩
  | rt o =>
    obtain ⟨rfl, rfl⟩ := pur_ok q2
    exact g
  | bk =>
    obtain ⟨rfl, rfl⟩ := pur_ok q2
    exact g
  | ct =>
    obtain ⟨rfl, rfl⟩ := pur_ok q2
    exact g
/-! ### no stores the other way round -/
def compXB : Expr → Bool
  | .ListComp .. => true
  | .SetComp .. => true
  | .DictComp .. => true
  | _ => false
theorem noswap {v : Expr} (h : compXB v = false) {t : Option Expr} {n : Nat} {env : PySem.Env} : swapsWith v t n env = pure false := by
  cases v <;> first | rfl | cases h
def swN : Expr → Expr → Bool
  | .Name _ _, _ => true
  | .Subscript _ _ _, _ => true
  | .Tuple ts _ _, .Tuple _ _ _ => !(ts.length == 2 || ts.length == 3)
  | .Tuple _ _ _, _ => true
  | _, _ => false
theorem nostores {t v : Expr} (h : swN t v = true) {env : PySem.Env} : swappedStores [t] v env = pure none := by
  cases t <;> first | rfl | cases h | skip
  cases v <;> first | rfl | skip
  replace h : (!(_ : Bool)) = true := h
  unfold swappedStores
  simp only [h]
  rfl
def notLoc (sc : Scope) : Expr → Bool
  | .Name x _ => !decide (sc.names.lookup x = some .local)
  | _ => true
def swL (sc : Scope) : Expr → Expr → Bool
  | .Tuple ts _ _, .Tuple _ _ _ => ts.any (notLoc sc)
  | _, _ => false
theorem none_ite {q : Prop} [Decidable q] {r : Sem (Option (List Str))} (h : r = pure none) : (if q then pure none else r) = pure none := by
  split
  · rfl
  · exact h
theorem nostoresL {t v : Expr} {env : PySem.Env} (hs : env.scope = sc) (h : swL sc t v = true) : swappedStores [t] v env = pure none := by
  unfold swL at h
  split at h
  · rename_i ts k1 p1 vs k2 p2
    obtain ⟨u, hu, h⟩ := List.any_eq_true.mp h
    have key : ∀ n : Nat, (ts.filterMap fun
        | .Name id pos => if env.kindOf id == some .local && pos.line == n then some id else none
        | _ => none).length < ts.length := fun n => by
      rw [List.length_filterMap_lt_length_iff_exists]
      refine ⟨u, hu, ?_⟩
      cases u with
      | Name x p =>
        have e : (env.kindOf x == some NameKind.local) = false := by
          have h' : ¬ sc.names.lookup x = some .local := by simpa [notLoc] using h
          have e1 : env.kindOf x = sc.names.lookup x := by
            rw [← hs]
            rfl
          rw [e1]
          exact beq_eq_false_iff_ne.mpr h'
        simp only [e]
        rfl
      | _ => rfl
    have key2 : ∀ (n : Nat) (L : List Str) (r : Sem (Option (List Str))), L.length < ts.length → (if (L.length != ts.length || L.eraseDups.length != L.length) = true then pure none else r) = pure none := fun n L r z => by
      have : (L.length != ts.length) = true := by
        rw [bne_iff_ne]
        omega
      rw [this]
      rfl
    unfold swappedStores
    exact none_ite (none_ite (key2 0 _ _ (key _)))
  · cases h
theorem assignEach_tup {t v : Expr} (h : swL sc t v = true) {env : PySem.Env} : (assignEach [t] env).map (·.2) = [assign t env] := by
  cases t <;> first | rfl | cases h
theorem assignEach_one {t v : Expr} (h : swN t v = true) {env : PySem.Env} : (assignEach [t] env).map (·.2) = [assign t env] := by
  cases t <;> first | rfl | cases h
theorem ps_asgO (ok : Cok names fa c k sc N fnb X) {t v : Expr} {tg : Tg} {x : E} (he : PE X v (tR X.K fa (evE c x))) (hg : tgB N sc fnb tg t = true) (hs : compXB v = false ∨ (match t with
    | .Name _ _ => False
    | _ => True)) (hw : swappedStores [t] v X.env = pure none) (hw1 : (assignEach [t] X.env).map (·.2) = [assign t X.env]) : PS X (.Assign [t] v pos) (tS X.K fa c.np (evS c (.asg tg x))) := by
  refine PS.weak (ps_asg he (pg_tg ok hg) ?_ hw hw1) fun D σ H ⟨F, ρ, A, f, ρ', hh, q, g⟩ => ?_
  · rcases hs with hs | hs
    · exact noswap hs
    · cases v <;> first | rfl | skip
      all_goals cases t <;> first | rfl | exact hs.elim
  · simp only [evS] at q
    obtain ⟨o, ρ1, q1, q2⟩ := bnd_ok q
    obtain ⟨u, ρ2, q3, q4⟩ := bnd_ok q2
    obtain ⟨rfl, rfl⟩ := pur_ok q4
    refine ⟨F, ρ, A, o, ρ1, hh, q1, fun F' H' v A' h' e => asg_read h' q3 fun σ' A1 h1 s1 l1 k1 => g F' H' σ' A1 h1 (e.fewer s1) ⟨l1, fun i hi => k1 i fun z => ?_⟩⟩
    rw [asg_free q3 i z] at hi
    cases hi
theorem ps_expO {v : Expr} {x : E} (he : PE X v (tR X.K fa (evE c x))) (hs : compXB v = false) : PS X (.Expr v pos) (tS X.K fa c.np (evS c (.exp x))) := by
  refine PS.weak (ps_expr he (noswap hs)) fun D σ H ⟨F, ρ, A, f, ρ', hh, q, g⟩ => ?_
  simp only [evS] at q
  obtain ⟨o, ρ1, q1, q2⟩ := bnd_ok q
  obtain ⟨rfl, rfl⟩ := pur_ok q2
  refine ⟨F, ρ, A, o, _, hh, q1, fun F' H' v A' h' e => ?_⟩
  obtain ⟨B, A0, rfl, _, h2⟩ := h'.tail
  exact g F' H' σ A0 h2 (e.fewer fun a z => by simp [z]) (Kept.refl _ _)
theorem ps_retO {v : Expr} {x : E} (he : PE X v (tR X.K fa (evE c x))) : PS X (.Return (some v) pos) (tS X.K fa c.np (evS c (.ret x))) := by
  refine PS.weak (ps_ret he) fun D σ H ⟨F, ρ, A, f, ρ', hh, q, g⟩ => ?_
  simp only [evS] at q
  obtain ⟨o, ρ1, q1, q2⟩ := bnd_ok q
  obtain ⟨rfl, rfl⟩ := pur_ok q2
  exact ⟨F, ρ, A, o, _, hh, q1, fun F' H' v A' h' e => g F' H' v σ A' h' e (Kept.refl _ _)⟩
theorem ps_retmO (ok : Cok names fa c k sc N fnb X) {v : Expr} {i : Nat} (h : nameB N sc i v = true) : PS X (.Return (some v) pos) (tS X.K fa c.np (evS c (.retm i))) := by
  refine PS.weak (ps_ret (pe_slot ok h)) fun D σ H ⟨F, ρ, A, f, ρ', hh, q, g⟩ => ?_
  simp only [evS] at q
  split at q
  · cases q
  · rename_i o hn hi
    cases q
    obtain ⟨v, A1, hv, s1, h1⟩ := hh.out hi fun z => hn z
    exact ⟨v, hv, g F H v σ A1 h1 ((Ext.refl _ _ _).fewer fun a z => (s1 a).mp z) (Kept.refl _ _)⟩
  · cases q
theorem ps_retnO : PS X (.Return none pos) (tS X.K fa c.np (evS c .retn)) := by
  refine PS.weak ps_retN fun D σ H ⟨F, ρ, A, f, ρ', hh, q, g⟩ => ?_
  simp only [evS] at q
  obtain ⟨rfl, rfl⟩ := pur_ok q
  exact g F H .non σ A (hh.dat (.dat .non)) (Ext.refl _ _ _) (Kept.refl _ _)
theorem ps_brkO : PS X (.Break pos) (tS X.K fa c.np (evS c .brk)) := by
  refine PS.weak ps_break fun D σ H ⟨F, ρ, A, f, ρ', hh, q, g⟩ => ?_
  simp only [evS] at q
  obtain ⟨rfl, rfl⟩ := pur_ok q
  exact g F H σ A hh (Ext.refl _ _ _) (Kept.refl _ _)
theorem ps_cntO : PS X (.Continue pos) (tS X.K fa c.np (evS c .cnt)) := by
  refine PS.weak ps_continue fun D σ H ⟨F, ρ, A, f, ρ', hh, q, g⟩ => ?_
  simp only [evS] at q
  obtain ⟨rfl, rfl⟩ := pur_ok q
  exact g F H σ A hh (Ext.refl _ _ _) (Kept.refl _ _)
theorem ps_iteO {t : Expr} {x y : List Stmt} {q : E} {p r : Ss} (ht : PT X t (tK X.K fa (testM (evE c q)))) (ha : PSs X x (tS X.K fa c.np (evSs c p))) (hb : PSs X y (tS X.K fa c.np (evSs c r))) : PS X (.If t x y pos) (tS X.K fa c.np (evS c (.ite q p r))) := by
  refine PS.weak (ps_if ht ha hb) fun D σ H ⟨F, ρ, A, f, ρ', hh, z, g⟩ => ?_
  simp only [evS] at z
  obtain ⟨t, ρ1, q1, q2⟩ := bnd_ok z
  refine ⟨F, ρ, A, t, ρ1, hh, q1, fun F' H' A' h' e => ?_⟩
  cases t with
  | true => exact ⟨F', ρ1, A', f, ρ', h', q2, g.up e (Kept.refl _ _)⟩
  | false => exact ⟨F', ρ1, A', f, ρ', h', q2, g.up e (Kept.refl _ _)⟩
theorem ps_whlO (hp : PassesOwn (model X.prog X.w) X.A X.env X.xe) {t : Expr} {x : List Stmt} {q : E} {p : Ss} (ht : PT X t (tK X.K fa (testM (evE c q)))) (ha : PSs X x (tS X.K fa c.np (evSs c p))) : PS X (.While t x [] pos) (tS X.K fa c.np (evS c (.whl q p))) := by
  refine PS.weak (ps_while hp ht ha) fun D σ H ⟨F, ρ, A, f, ρ', hh, z, g⟩ => ?_
  simp only [evS] at z
  refine ⟨fun m σ1 H1 => ∃ F1 ρ1 A1 f ρ', Hold X.K fa F1 H1 ρ1 σ1 A1 ∧ whlM (testM (evE c q)) (evSs c p) m ρ1 = .ok f ρ' ∧ EndsF X.K fa c.np F1 H1 A1 ρ' σ1 D f, ⟨c.fuel, F, ρ, A, f, ρ', hh, z, g⟩, ?_⟩
  rintro m σ1 H1 ⟨F1, ρ1, A1, f, ρ', h1, z, g⟩
  cases m with
  | zero => cases z
  | succ n =>
    unfold whlM at z
    obtain ⟨t, ρ2, q1, q2⟩ := bnd_ok z
    refine ⟨F1, ρ1, A1, t, ρ2, h1, q1, fun F' H' A' h' e => ?_⟩
    cases t with
    | false =>
      obtain ⟨rfl, rfl⟩ := pur_ok q2
      exact g F' H' σ1 A' h' e (Kept.refl _ _)
    | true =>
      obtain ⟨f2, ρ3, q3, q4⟩ := bnd_ok q2
      refine ⟨_, fun σ2 H2 w => ⟨n, Nat.lt_succ_self n, w⟩, F', ρ2, A', f2, ρ3, h', q3, ?_⟩
      cases f2 with
      | nx => exact fun F2 H2 σ2 A2 h2 e2 k2 => ⟨F2, ρ3, A2, f, ρ', h2, q4, g.up (e.trans e2) k2⟩
      | ct => exact fun F2 H2 σ2 A2 h2 e2 k2 => ⟨F2, ρ3, A2, f, ρ', h2, q4, g.up (e.trans e2) k2⟩
      | bk =>
        obtain ⟨rfl, rfl⟩ := pur_ok q4
        exact fun F2 H2 σ2 A2 h2 e2 k2 => g F2 H2 σ2 A2 h2 (e.trans e2) k2
      | rt o =>
        obtain ⟨rfl, rfl⟩ := pur_ok q4
        exact fun F2 H2 v σ2 A2 h2 e2 k2 => g F2 H2 v σ2 A2 h2 (e.trans e2) k2
theorem ps_forO (ok : Cok names fa c k sc N fnb X) (hp : PassesOwn (model X.prog X.w) X.A X.env X.xe) {t it : Expr} {x : List Stmt} {tg : Tg} {src : Src} {p : Ss} (hi : PI X t it (tSrc X.K fa (evSrc c src))) (hg : tgB N sc fnb tg t = true) (hs : setB it = false)
    (ha : PSs X x (tS X.K fa c.np (evSs c p))) : PS X (.For t it x [] pos) (tS X.K fa c.np (evS c (.forS tg src p))) := by
  refine PS.weak (ps_for hp ok.calm hi (pg_tg ok hg) ha (folded_of hs)) fun D σ H ⟨F, ρ, A, f, ρ', hh, z, g⟩ => ?_
  simp only [evS] at z
  obtain ⟨xs, ρ1, q1, q2⟩ := bnd_ok z
  refine ⟨F, ρ, A, xs, ρ1, hh, q1, fun F1 H1 A1 J h1 e1 ⟨G, Y, w, hG, hY⟩ => ?_⟩
  refine for_it w (fun i σ2 H2 => ∃ F2 ρ2 A2 f ρ', Hold X.K fa F2 H2 ρ2 σ2 A2 ∧ Same F1 F2 ∧ forL (fun x => bnd (asg c.np tg (.dat x)) fun _ => evSs c p) (xs.drop i) ρ2 = .ok f ρ' ∧ EndsF X.K fa c.np F2 H2 A2 ρ' σ2 D f)
    ⟨F1, ρ1, A1, f, ρ', h1, Same.refl _, q2, g.up e1 (Kept.refl _ _)⟩ ?_ ?_ ?_
  · rintro i σ2 H2 hi ⟨F2, ρ2, A2, f, ρ', h2, s2, _⟩
    exact hG H2 (s2.trans h2.sub)
  · rintro i x σ2 H2 H3 hi ⟨F2, ρ2, A2, f, ρ', h2, s2, z, g⟩ y
    obtain ⟨d, hd, z'⟩ := hY i H2 x H3 (s2.trans h2.sub) hi y
    obtain ⟨F4, h4, rd, e4⟩ := src_item h2 s2 z'
    have hdr : xs.drop i = d :: xs.drop (i + 1) := by
      obtain ⟨hlt, rfl⟩ := List.getElem?_eq_some_iff.mp hd
      exact List.drop_eq_getElem_cons hlt
    rw [hdr] at z
    unfold forL at z
    obtain ⟨f2, ρ3, q3, q4⟩ := bnd_ok z
    obtain ⟨u, ρ4, q5, q6⟩ := bnd_ok q3
    refine asg_read (h4.dat (.dat rd)) q5 fun σ' A5 h5 s5 l5 k5 => ?_
    have kp : Kept c.np σ2 σ' := ⟨l5, fun j hj => k5 j fun z => by
      rw [asg_free q5 j z] at hj
      cases hj⟩
    have e5 := e4.fewer s5
    refine ⟨F4, ρ4, A5, f2, ρ3, h5, q6, ?_⟩
    cases f2 with
    | nx => exact fun F6 H6 σ6 A6 h6 e6 k6 => ⟨F6, ρ3, A6, f, ρ', h6, s2.trans (e5.trans e6).le, q4, g.up (e5.trans e6) (kp.trans k6)⟩
    | ct => exact fun F6 H6 σ6 A6 h6 e6 k6 => ⟨F6, ρ3, A6, f, ρ', h6, s2.trans (e5.trans e6).le, q4, g.up (e5.trans e6) (kp.trans k6)⟩
    | bk =>
      obtain ⟨rfl, rfl⟩ := pur_ok q4
      exact fun F6 H6 σ6 A6 h6 e6 k6 => g F6 H6 σ6 A6 h6 (e5.trans e6) (kp.trans k6)
    | rt o =>
      obtain ⟨rfl, rfl⟩ := pur_ok q4
      exact fun F6 H6 v σ6 A6 h6 e6 k6 => g F6 H6 v σ6 A6 h6 (e5.trans e6) (kp.trans k6)
  · rintro σ2 H2 ⟨F2, ρ2, A2, f, ρ', h2, s2, z, g⟩
    have hdr : xs.drop xs.length = [] := List.drop_length
    rw [hdr] at z
    obtain ⟨rfl, rfl⟩ := pur_ok (show pur .nx ρ2 = .ok f ρ' from z)
    exact g.now h2
end
end EV

/-! EV, part 14: statements that change lists and names. Own work. -/
namespace EV
open PySem L2 RZ
open PySem.Spec PyProof.Rows
section
variable {X : Cx} {names : List Str} {fa : Nat → Addr} {c : CX} {k : Nat} {sc : Scope} {N : List Str} {fnb : Str → Bool} {lk : List Bool}
variable {as : As} {e a b : Expr} {es : List Expr} {o : O} {ρ ρ' : Env} {F H F' H' : Hp} {A A' : List Addr} {σ σ' τ : List (Option V)} {K : PySem.W.Frag} {f : Fl} {pos : Pos}
theorem fro_of {m : M O} {o o' : O} (q : m ρ = .ok o ρ') (z : frz o = some o') : fro m ρ = .ok o' ρ' := by
  show bnd m _ ρ = _
  unfold bnd
  rw [q]
  show opt (frz o) ρ' = _
  unfold opt
  rw [z]
theorem frz_of {o : O} {d : PyData} (h : toD o = some d) : frz o = some (.dat d) := by
  cases o <;> cases h <;> rfl
/-! ### a, b = x, y -/
def bkB (sc : Scope) : Bool := (if sc.kind.isAnnotationScope then ScopeKind.function else sc.kind) == .function
def parB (sc : Scope) (N : List Str) (i j : Nat) : Expr → Expr → Bool
  | .Tuple [.Name x px, .Name y py] _ _, .Tuple [a, b] _ _ => bkB sc && (decide (N[i]? = some x) && (decide (N[j]? = some y) && (decide (sc.names.lookup x = some .local) && (decide (sc.names.lookup y = some .local) && ((px.line == py.line) && (decide (x ≠ y) &&
      (!starB a && (!starB b && (!([a, b].all (foldedForSure 8)) && !([a, b].all (constantsAlone 8)))))))))))
  | _, _ => false
theorem stores_par {x y : Str} {px py pt pt2 : Pos} {kt k2 : Nat} {env : PySem.Env} (h1 : (env.blockKind != .function) = false) (h2 : starB a = false) (h3 : starB b = false) (hx : env.kindOf x = some .local) (hy : env.kindOf y = some .local) (hl : (px.line == py.line) = true) (hn : x ≠ y)
    (h4 : ([a, b].all (foldedForSure 8)) = false) (h5 : ([a, b].all (constantsAlone 8)) = false) : swappedStores [.Tuple [.Name x px, .Name y py] kt pt] (.Tuple [a, b] k2 pt2) env = pure (some [x, y]) := by
  unfold swappedStores
  have hst : ([a, b].any fun | .Starred .. => true | _ => false) = false := by
    have e1 : ∀ z : Expr, (match z with | .Starred .. => true | _ => false) = starB z := fun z => by cases z <;> rfl
    simp only [List.any_cons, List.any_nil, e1, h2, h3]
    rfl
  have hd : ([x, y] : List Str).eraseDups = [x, y] := by
    rw [List.eraseDups_cons]
    have : ([y] : List Str).filter (fun b => !b == x) = [y] := by
      simp [Ne.symm hn]
    rw [this]
    rfl
  have hl' : (py.line == px.line) = true := by
    rw [beq_iff_eq] at hl ⊢
    exact hl.symm
  have hf : (([.Name x px, .Name y py] : List Expr).filterMap fun
    | .Name id pos => if env.kindOf id == some .local && pos.line == px.line then some id else none
    | _ => none) = [x, y] := by
    rw [List.filterMap_cons_some (b := x) (by simp [hx]), List.filterMap_cons_some (b := y) (by simp [hy, beq_iff_eq.mp hl']), List.filterMap_nil]
  have hf' : (([.Name x px, .Name y py] : List Expr).filterMap fun
    | .Name id pos => if env.kindOf id == some .local && pos.line == (Expr.Name x px).pos.line then some id else none
    | _ => none) = [x, y] := hf
  have key : ∀ L : List Str, L = [x, y] → (do
      if L.length != ([.Name x px, .Name y py] : List Expr).length || L.eraseDups.length != L.length then return none
      if [a, b].all (foldedForSure 8) then return none
      if [a, b].all (constantsAlone 8) then unsupported "assign.tuple-of-constant-expressions:order-of-the-stores"
      return some L : Sem (Option (List Str))) = pure (some [x, y]) := by
    intro L e
    subst e
    rw [hd, h4, h5]
    rfl
  refine (if_neg ?_).trans ((if_neg ?_).trans (key _ hf'))
  · rw [h1]
    exact Bool.false_ne_true
  · intro z
    exact absurd (hst.symm.trans z) (by decide)
theorem ps_parO (ok : Cok names fa c k sc N fnb X) {i j : Nat} {pp qq : E} {t v : Expr} (h : parB sc N i j t v = true) (ha : ∀ {es k2 p2}, v = .Tuple es k2 p2 → SAs X fa c (.ex pp (.ex qq .nil)) es) (hij : i ≠ j) :
    PS X (.Assign [t] v pos) (tS X.K fa c.np (evS c (.par i j pp qq))) := by
  unfold parB at h
  split at h
  · rename_i x px y py kt pt a b k2 pt2
    simp only [Bool.and_eq_true, decide_eq_true_eq, Bool.not_eq_true'] at h
    obtain ⟨h1, h2, h3, h4, h5, h6, h7, h8, h9, h10, h11⟩ := h
    have hb : (X.env.blockKind != .function) = false := by
      have : X.env.blockKind = (if sc.kind.isAnnotationScope then ScopeKind.function else sc.kind) := by
        rw [← ok.sc]
        rfl
      rw [this]
      unfold bkB at h1
      simp only [bne, h1]
      rfl
    have hx : X.env.scope.names.lookup x = some .local := by rw [ok.sc]; exact h4
    have hy : X.env.scope.names.lookup y = some .local := by rw [ok.sc]; exact h5
    refine PS.weak (ps_par ok.calm (by rw [ok.nN]; exact ok.nd) (by rw [ok.nN]; exact h2) (by rw [ok.nN]; exact h3) hij hx hy (ha rfl).pa (stores_par hb h8 h9 hx hy h6 h7 h10 h11)) fun D σ H ⟨F, ρ, A, f, ρ', hh, z, g⟩ => ?_
    simp only [evS] at z
    obtain ⟨o1, ρ1, q1, z1⟩ := bnd_ok z
    obtain ⟨o1', ρ1', q2, z2⟩ := bnd_ok z1
    obtain ⟨r2, rfl⟩ := opt_ok q2
    obtain ⟨o2, ρ2, q3, z3⟩ := bnd_ok z2
    obtain ⟨o2', ρ2', q4, z4⟩ := bnd_ok z3
    obtain ⟨r4, rfl⟩ := opt_ok q4
    obtain ⟨u, ρ3, q5, z5⟩ := bnd_ok z4
    obtain ⟨u', ρ4, q6, z6⟩ := bnd_ok z5
    obtain ⟨rfl, rfl⟩ := pur_ok z6
    obtain ⟨i1, l1, rfl⟩ := setV_ok q5
    obtain ⟨i2, l2, rfl⟩ := setV_ok q6
    have f1 := fro_of q1 r2
    have f2 := fro_of q3 r4
    refine ⟨F, ρ, A, o1', _, hh, f1, fun F1 H1 v1 A1 h1 e1 => ?_⟩
    obtain ⟨s1, h1'⟩ := h1.still (fro_still f1) (fro_nohole f1)
    refine ⟨F1, _, A1, o2', _, h1', f2, fun F2 H2 v2 A2 h2 e2 => ?_⟩
    obtain ⟨s2, h2'⟩ := h2.still (fro_still f2) (fro_nohole f2)
    refine ⟨v1, v2, rfl, ?_⟩
    obtain ⟨A3, t3, h3⟩ := (h2'.dat (s1.same (B := []) e2.le)).store i1
    obtain ⟨A4, t4, h4⟩ := (h3.dat (s2.same (B := []) (Same.refl _))).store i2
    exact g F2 H2 _ A4 h4 ((e1.trans e2).fewer fun a z => t3 a (t4 a z)) ((Kept.set l1).trans (Kept.set l2))
  · cases h
/-! ### xs[i] = e, xs[i] op= e, name op= e, xs.append(e) -/
theorem hand_int {v : V} {i : Int} (h : Hold K fa F H (.dat (.int i) :: ρ) (some v :: σ) A) : v = .int i ∧ Hold K fa F H ρ σ A := by
  obtain ⟨r, g⟩ := hand_da h
  cases r
  exact ⟨rfl, g⟩
theorem setIt_ok {p : Nat} {i : Int} {d : PyData} {u : Unit} (q : setItM p i d ρ = .ok u ρ') : ∃ ds j, ρ[p]? = some (.lst ds) ∧ ixN ds.length i = some j ∧ ρ' = ρ.set p (.lst (ds.set j d)) := by
  unfold setItM at q
  split at q
  · rename_i ds hp
    split at q
    · rename_i j hj
      cases q
      exact ⟨ds, j, hp, hj, rfl⟩
    · cases q
  · cases q
theorem getIt_ok {p : Nat} {i : Int} {x : PyData} (q : getItM p i ρ = .ok x ρ') : ∃ ds, ρ[p]? = some (.lst ds) ∧ 0 ≤ i ∧ atI ds i = some x ∧ ρ' = ρ := by
  unfold getItM at q
  split at q
  · rename_i ds hp
    split at q
    · rename_i hi
      split at q
      · rename_i x hx
        cases q
        exact ⟨ds, hp, hi, hx, rfl⟩
      · cases q
    · cases q
  · cases q
theorem live_slot (h : Hold K fa F H ρ σ A) {p : Nat} (z : livE ρ p = true) : ∃ v, σ[p]? = some (some v) := by
  obtain ⟨o, h1, h2⟩ := liv_of z
  obtain ⟨v, B, h3, _⟩ := h.slot h1 h2
  exact ⟨v, h3⟩
theorem put_read {p : Nat} {i : Int} {x : PyData} {u : Unit} {v w : V} {Q : Hp → Prop} (h : Hold K fa F H ρ σ A) (rv : Da K F v x) (hw : σ[p]? = some (some w)) (q : setItM p i x ρ = .ok u ρ')
    (g : ∀ H', Hold K fa F H' ρ' σ A → Ext F H A F H' A → Q H') : rSetL w (.int i) v H Q := by
  obtain ⟨ds, j, h1, h2, rfl⟩ := setIt_ok q
  obtain ⟨a, vs, ha, hv, hr, pk⟩ := h.poke h1
  rw [hw] at ha
  cases ha
  obtain ⟨h3, e3⟩ := pk _ _ (hr.set rv j)
  exact ⟨a, vs, i, j, rfl, rfl, hv, by rw [hr.len]; exact h2, g _ h3 e3⟩
theorem assign_sub {t i : Expr} {p2 : Pos} {env : PySem.Env} (h : sliceB i = false) (v : Value) : assign (.Subscript t i p2) env v = (do
      let ov ← holding [v] (eval t env)
      let iv ← holding [v, ov] (eval i env)
      standAt p2
      holding [v, ov, iv] (setItem ov iv v)
      release [v, ov, iv] []) := by
  cases i <;> first | rfl | cases h
theorem ps_setIO (ok : Cok names fa c k sc N fnb X) {t i v : Expr} {p : Nat} {x y : E} {p2 : Pos} (ht : nameB N sc p t = true) (hi : PE X i (tR X.K fa (evE c x))) (hv : PE X v (tR X.K fa (evE c y))) (hs : compXB v = false) (hsl : sliceB i = false) :
    PS X (.Assign [.Subscript t i p2] v pos) (tS X.K fa c.np (evS c (.setI p x y))) := by
  refine PS.weak (ps_asg (pe_fro hv) (pg_sub (pe_slot ok ht) hi set_list (assign_sub hsl)) (show swapsWith v (some (.Subscript t i p2)) pos.line X.env = pure false from noswap hs) (nostores rfl) rfl) fun D σ H ⟨F, ρ, A, f, ρ', hh, z, g⟩ => ?_
  simp only [evS] at z
  obtain ⟨o1, ρ1, q1, z1⟩ := bnd_ok z
  obtain ⟨d, ρ1', q2, z2⟩ := bnd_ok z1
  obtain ⟨r2, rfl⟩ := opt_ok q2
  split at z2
  · rename_i hl
    obtain ⟨oi, ρ2, q3, z3⟩ := bnd_ok z2
    split at z3
    · rename_i n
      obtain ⟨u, ρ3, q4, z4⟩ := bnd_ok z3
      obtain ⟨rfl, rfl⟩ := pur_ok z4
      refine ⟨F, ρ, A, _, _, hh, fro_of q1 (frz_of r2), fun F1 H1 v1 A1 h1 e1 => ?_⟩
      obtain ⟨r1, h1'⟩ := hand_da h1
      obtain ⟨w, hw⟩ := live_slot h1' hl
      refine ⟨w, hw, F1, _, A1, _, _, h1', q3, fun F2 H2 v2 A2 h2 e2 => ?_⟩
      obtain ⟨rfl, h2'⟩ := hand_int h2
      exact put_read h2' (Da.up e2.le r1) hw q4 fun H3 h3 e3 => g F2 H3 σ A2 h3 (e1.trans (e2.trans e3)) (Kept.refl _ _)
    · cases z3
  · cases z2
def augB : Op → Option Operator
  | .add => some .Add | .sub => some .Sub | .mul => some .Mult
  | _ => none
def rAug : V → V → Hp → VK → Prop := rI0 fun i j => .int (i + j)
def augR (f : Op) : R2 := match f with
  | .add => rI0 fun i j => .int (i + j)
  | .sub => rI0 fun i j => .int (i - j)
  | _ => rI CMul fun i j => .int (i * j)
theorem aug_ok {f : Op} {op : Operator} (h : augB f = some op) : OpR X (inplaceOp op) (augR f) := by
  cases f <;> cases h
  · exact iop_add
  · exact iop_sub
  · exact iop_mul
theorem aug_read {f : Op} {op : Operator} (h : augB f = some op) {x y : PyData} {v w : V} {Q : VK} (hv : Da K F v x) (hw : Da K F w y) (q : augF f x y = some o) (hh : Hold K fa F H ρ σ A) (g : Give K fa F H A ρ σ o Q) : augR f v w H Q := by
  unfold augF at q
  split at q
  · cases q
    cases hv
    cases hw
    exact ⟨_, _, rfl, rfl, give_dat hh (.int _) g⟩
  · cases q
    cases hv
    cases hw
    exact ⟨_, _, rfl, rfl, give_dat hh (.int _) g⟩
  · split at q
    · rename_i c
      cases q
      cases hv
      cases hw
      refine ⟨_, _, rfl, rfl, ?_, give_dat hh (.int _) g⟩
      rcases Bool.or_eq_true_iff.mp c with c | c
      · unfold small at c
        simp only [Bool.and_eq_true, decide_eq_true_eq] at c
        exact .inl c
      · unfold small at c
        simp only [Bool.and_eq_true, decide_eq_true_eq] at c
        exact .inr c
    · cases q
  · cases q
theorem get_read {p : Nat} {i : Int} {x : PyData} {w : V} {Q : VK} (h : Hold K fa F H ρ σ A) (hw : σ[p]? = some (some w)) (q : getItM p i ρ = .ok x ρ') (g : ∀ v, Da K F v x → Q v H) : rGetL K w (.int i) H Q := by
  obtain ⟨ds, h1, h2, h3, rfl⟩ := getIt_ok q
  obtain ⟨a, vs, ha, hv, hr, _⟩ := h.poke h1
  rw [hw] at ha
  cases ha
  obtain ⟨v, e1, r⟩ := atI_das hr h3
  exact ⟨a, vs, i, v, rfl, rfl, SqL.of hv, h2, e1, g v r⟩
theorem aug_sub {i : Expr} (h : sliceB i = false) (ov iv new : Value) : augStore i ov iv new = (do holding [new, ov, iv] (setItem ov iv new); release [new, ov, iv] []; pure .next) := by
  cases i <;> first | rfl | cases h
theorem ps_augIO (ok : Cok names fa c k sc N fnb X) {f : Op} {op : Operator} (hf : augB f = some op) {t i v : Expr} {p : Nat} {x y : E} {p2 : Pos} (ht : nameB N sc p t = true) (hi : PE X i (tR X.K fa (evE c x))) (hv : PE X v (tR X.K fa (evE c y))) (hsl : sliceB i = false) :
    PS X (.AugAssign (.Subscript t i p2) op v pos) (tS X.K fa c.np (evS c (.augI f p x y))) := by
  refine PS.weak (ps_augS (pe_slot ok ht) hi get_listL (pe_fro hv) (aug_ok hf) set_list (aug_sub hsl)) fun D σ H ⟨F, ρ, A, fl, ρ', hh, z, g⟩ => ?_
  simp only [evS] at z
  split at z
  · rename_i hl
    obtain ⟨oi, ρ1, q1, z⟩ := bnd_ok z
    split at z
    · rename_i n
      obtain ⟨d, ρ2, q2, z1⟩ := bnd_ok z
      obtain ⟨o, ρ3, q3, z2⟩ := bnd_ok z1
      obtain ⟨d2, ρ4, q4, z3⟩ := bnd_ok z2
      obtain ⟨r4, rfl⟩ := opt_ok q4
      obtain ⟨d3, ρ5, q5, z4⟩ := bnd_ok z3
      obtain ⟨r5, rfl⟩ := opt_ok q5
      obtain ⟨u, ρ6, q6, z5⟩ := bnd_ok z4
      obtain ⟨rfl, rfl⟩ := pur_ok z5
      obtain ⟨oz, q7, q8⟩ := Option.bind_eq_some_iff.mp r5
      obtain ⟨w, hw⟩ := live_slot hh hl
      refine ⟨w, hw, F, ρ, A, _, _, hh, q1, fun F1 H1 v1 A1 h1 e1 => ?_⟩
      obtain ⟨rfl, h1'⟩ := hand_int h1
      have e2 : ρ2 = ρ1 := (getIt_ok q2).choose_spec.2.2.2
      refine get_read h1' hw q2 fun v2 r2 => ?_
      subst e2
      refine ⟨F1, _, A1, _, _, h1', fro_of q3 (frz_of r4), fun F3 H3 v3 A3 h3 e3 => ?_⟩
      obtain ⟨r3, h3'⟩ := hand_da h3
      refine aug_read hf (Da.up e3.le r2) r3 q7 h3' fun F4 H4 v4 A4 h4 e4 => ?_
      obtain ⟨pk, A5, s5, h5⟩ := h4.hand q8
      have st : own? oz = false := by
        unfold augF at q7
        split at q7
        · cases q7; rfl
        · cases q7; rfl
        · split at q7
          · cases q7; rfl
          · cases q7
        · cases q7
      obtain ⟨t4, h4'⟩ := h4.still st (fun z => by rw [z] at q8; cases q8)
      have r4' : Da X.K F4 v4 d3 := by
        cases oz with
        | dat d =>
          cases q8
          cases t4 with
          | dat r => exact r
        | lst _ => cases st
        | fn _ => cases q8
        | hole => cases q8
      exact put_read h4' r4' hw q6 fun H6 h6 e6 => g F4 H6 σ A4 h6 (e1.trans (e3.trans (e4.trans e6))) (Kept.refl _ _)
    · cases z
  · cases z
theorem ps_augO (ok : Cok names fa c k sc N fnb X) {f : Op} {op : Operator} (hf : augB f = some op) {t v : Expr} {i : Nat} {y : E} (ht : tgnB N sc fnb i t = true) (hv : PE X v (tR X.K fa (evE c y))) :
    PS X (.AugAssign t op v pos) (tS X.K fa c.np (evS c (.aug f i y))) := by
  unfold tgnB at ht
  split at ht
  · rename_i x p
    obtain ⟨h1, h2⟩ := Bool.and_eq_true_iff.mp ht
    unfold locB at h2
    simp only [Bool.or_eq_true, Bool.and_eq_true, decide_eq_true_eq] at h2
    have hN : X.N.Nodup := by rw [ok.nN]; exact ok.nd
    have hi : X.N[i]? = some x := by rw [ok.nN]; exact of_decide_eq_true h1
    have hl : Loc X.env.scope x := by
      rw [ok.sc]
      exact h2.imp id And.left
    have hfn : X.fn x = true ∨ X.env.scope.names.lookup x = some .local := by
      rw [ok.sc, ok.fn]
      exact h2.elim .inr fun z => .inl z.2
    refine PS.weak (ps_aug hN hi hl (pe_fro hv) (aug_ok hf) hfn) fun D σ H ⟨F, ρ, A, fl, ρ', hh, z, g⟩ => ?_
    simp only [evS] at z
    split at z
    · rename_i dd hd
      obtain ⟨o, ρ1, q1, z1⟩ := bnd_ok z
      obtain ⟨d2, ρ2, q2, z2⟩ := bnd_ok z1
      obtain ⟨r2, rfl⟩ := opt_ok q2
      obtain ⟨oz, ρ3, q3, z3⟩ := bnd_ok z2
      obtain ⟨r3, rfl⟩ := opt_ok q3
      obtain ⟨u, ρ4, q4, z4⟩ := bnd_ok z3
      obtain ⟨rfl, rfl⟩ := pur_ok z4
      obtain ⟨w, B, hw, rw'⟩ := hh.slot hd (fun z => nomatch z)
      obtain ⟨i1, l1, rfl⟩ := setV_ok q4
      refine ⟨w, hw, F, ρ, A, _, _, hh, fro_of q1 (frz_of r2), fun F1 H1 v1 A1 h1 e1 => ?_⟩
      obtain ⟨r1, h1'⟩ := hand_da h1
      have rd : Da X.K F w dd := by
        cases rw' with
        | dat r => exact r
      refine aug_read hf (Da.up e1.le rd) r1 r3 h1' fun F4 H4 v4 A4 h4 e4 => ?_
      obtain ⟨A5, s5, h5⟩ := h4.store i1
      exact g F4 H4 _ A5 h5 ((e1.trans e4).fewer s5) (Kept.set l1)
    · cases z
  · cases ht
theorem app_read' {p : Nat} {ds : List PyData} {d : PyData} {v w : V} {Q : VK} (h : Hold K fa F H ρ σ A) (hp : ρ[p]? = some (.lst ds)) (hl : ds.length < lim) (rv : Da K F v d) (hw : σ[p]? = some (some w))
    (g : ∀ H', Hold K fa F H' (ρ.set p (.lst (ds ++ [d]))) σ A → Ext F H A F H' A → Q .non H') : rAppend w [v] H Q := by
  obtain ⟨a, vs, ha, hv, hr, pk⟩ := h.poke hp
  rw [hw] at ha
  cases ha
  obtain ⟨h3, e3⟩ := pk _ _ (hr.app (.cons rv .nil))
  exact ⟨a, vs, v, rfl, rfl, hv, by rw [hr.len, sizeL]; exact hl, g _ h3 e3⟩
theorem ps_appO (ok : Cok names fa c k sc N fnb X) {t v : Expr} {p : Nat} {y : E} {p1 p2 : Pos} (ht : nameB N sc p t = true) (hv : PE X v (tR X.K fa (evE c y))) (hs : starB v = false) (hl : (p1.endLine == p2.line) = true) :
    PS X (.Expr (.Call (.Attribute t "append" p1) [v] [] p2) pos) (tS X.K fa c.np (evS c (.appd p y))) := by
  have hb : attributeBase t "append" X.env (eval t X.env) = eval t X.env := by
    unfold nameB at ht
    split at ht
    · rfl
    · cases ht
  refine PS.weak (ps_expr (pe_bm PySem.F.plainAttrs_list PySem.F.slot_list_append PySem.F.type_list_append mt_append (pe_slot ok ht) (pa_cons (pe_fro hv) pa_nil (star_cons hs)) hb (by rw [star_cons hs]; rfl) hl (star_cons hs) rfl)) fun D σ H ⟨F, ρ, A, fl, ρ', hh, z, g⟩ => ?_
  simp only [evS] at z
  split at z
  · rename_i hown
    obtain ⟨o, ρ1, q1, z1⟩ := bnd_ok z
    obtain ⟨d, ρ2, q2, z2⟩ := bnd_ok z1
    obtain ⟨r2, rfl⟩ := opt_ok q2
    unfold appIt at z2
    split at z2
    · rename_i ds hp
      split at z2
      · rename_i hlen
        cases z2
        obtain ⟨w, ty, hw⟩ : ∃ w, tyV X.K "list" w H ∧ σ[p]? = some (some w) := by
          unfold ownE at hown
          split at hown
          · rename_i ds0 h0
            obtain ⟨a, vs, ha, hv, _, _⟩ := hh.poke h0
            exact ⟨.ref a, (show (_ ∧ ∃ xs, SqL X.K H a xs) ∨ _ from Or.inl ⟨rfl, vs, SqL.of hv⟩), ha⟩
          · cases hown
        refine ⟨w, hw, ty, F, ρ, A, _, _, hh, fro_of q1 (frz_of r2), fun F1 H1 v1 A1 h1 e1 => ?_⟩
        obtain ⟨r1, h1'⟩ := hand_da h1
        exact app_read' (Q := fun _ H1 => D.nx σ H1) h1' hp hlen r1 hw fun H3 h3 e3 => g F1 H3 σ A1 h3 (e1.trans e3) (Kept.refl _ _)
      · cases z2
    · cases z2
  · cases z
end
end EV

/-! EV, part 15: the comparing of statements, a def from its body, all defs of a text. Own work. -/
namespace EV
open PySem L2 RZ
open PySem.Spec PyProof.Rows
/-! ### name = [..] on one line -/
def setLcB (sc : Scope) (N : List Str) (i : Nat) : Expr → Expr → Bool
  | .Name y py, .ListComp _ _ scope p => bkB sc && (decide (N[i]? = some y) && (decide (sc.names.lookup y = some .local) && ((py.line == p.line) && !(scope.names.any fun nk => nk.1 == y && (nk.2 == .local || nk.2 == .cell)))))
  | _, _ => false
section
variable {X : Cx} {names : List Str} {fa : Nat → Addr} {c : CX} {k : Nat} {sc : Scope} {N : List Str} {fnb : Str → Bool} {kk : Chk}
variable {ρ ρ' : Env} {F H F' H' : Hp} {A A' : List Addr} {σ σ' : List (Option V)} {K : PySem.W.Frag} {pos : Pos}
theorem ps_lcO (ok : Cok names fa c k sc N fnb X) (hk : ChkOk names fa c k N kk) {i : Nat} {t v : Expr} {x : E} {tg : Tg} {src : Src} {ci : Bool} {cond : E} {own : List Nat} (h : setLcB sc N i t v = true) (h' : stComp N kk sc fnb x tg src ci cond own v = true) :
    PS X (.Assign [t] v pos) (tS X.K fa c.np (evS c (.asg (.nm i) (.comp x tg src ci cond own)))) := by
  unfold stComp at h'
  split at h'
  · rename_i elt tgx iter ifs scope p
    unfold setLcB at h
    split at h
    · rename_i y py elt' gs scope' p' hv
      cases hv
      simp only [Bool.and_eq_true, decide_eq_true_eq, Bool.not_eq_true'] at h
      obtain ⟨g1, g2, g3, g4, g5⟩ := h
      obtain ⟨h1, h'⟩ := Bool.and_eq_true_iff.mp h'
      obtain ⟨h2, h'⟩ := Bool.and_eq_true_iff.mp h'
      obtain ⟨h3, h'⟩ := Bool.and_eq_true_iff.mp h'
      obtain ⟨h4, h'⟩ := Bool.and_eq_true_iff.mp h'
      obtain ⟨h5, h'⟩ := Bool.and_eq_true_iff.mp h'
      obtain ⟨h6, h7⟩ := Bool.and_eq_true_iff.mp h'
      have hN : X.N.Nodup := by rw [ok.nN]; exact ok.nd
      have hbk : BlkOk X.N X.env.scope scope (ownP N own) := by rw [ok.nN, ok.sc]; exact blkOk_by h2
      have hbl : (X.env.blockKind == .function) = true := by
        have : X.env.blockKind = (if sc.kind.isAnnotationScope then ScopeKind.function else sc.kind) := by
          rw [← ok.sc]
          rfl
        rw [this]
        exact g1
      have hyl : X.env.scope.names.lookup y = some .local := by rw [ok.sc]; exact g3
      have hsw : swapsWith (.ListComp elt [⟨tgx, iter, ifs, 0⟩] scope p) (some (.Name y py)) pos.line X.env = pure true := by
        show (pure (X.env.blockKind == .function && X.env.kindOf y == some .local && py.line == p.line && !(scope.names.any fun nk => nk.1 == y && (nk.2 == .local || nk.2 == .cell))) : Sem Bool) = pure true
        have e2 : (X.env.kindOf y == some NameKind.local) = true := by
          rw [show X.env.kindOf y = some .local from hyl]
          rfl
        rw [hbl, e2, g4, g5]
        rfl
      have hts : ∀ X', Cok names fa c k (relS scope sc) N (clFn scope) X' → X'.K = X.K → PTs X' ifs (tK X.K fa (if ci = true then testM (evE c cond) else pur true)) := fun X' ok' e' => by
        unfold stIfs at h6
        split at h6
        · obtain rfl := nst h6
          rw [← e']
          exact pts_yes
        · obtain ⟨rfl, h8⟩ := Bool.and_eq_true_iff.mp h6
          rw [← e']
          exact pts_one (hk ok' h8)
        · cases h6
      refine PS.weak (ps_setLc (g := tTg X.K tg) (tt := tK X.K fa (if ci = true then testM (evE c cond) else pur true)) (te := tR X.K fa (fro (evE c x))) ok.calm hN (by rw [ok.nN]; exact g2) hyl hsw (hk ok h1) hbk (fun s H C cl fp => pg_tg (ok.blk s H scope C cl fp) h5)
        (fun s H C cl fp => hts _ (ok.blk s H scope C cl fp) rfl) (fun s H C cl fp => pe_fro (hk (ok.blk s H scope C cl fp) h7)) (folded_of (nst h3))) fun D σ H ⟨F, ρ, A, f, ρ', hh, z, g⟩ => ?_
      simp only [evS] at z
      obtain ⟨o, ρ1, q1, q2⟩ := bnd_ok z
      obtain ⟨u, ρ2, q3, q4⟩ := bnd_ok q2
      obtain ⟨rfl, rfl⟩ := pur_ok q4
      rw [ownP_snd]
      simp only [evE] at q1
      refine comp_read (fun i hi => by simpa using List.all_eq_true.mp h4 i hi) (Q := fun x H1 => gName i x σ H1 D.nx) ⟨F, ρ, A, o, ρ1, hh, q1, fun F' H' v A' h' e => ?_⟩
      obtain ⟨i1, l1, rfl⟩ := setV_ok q3
      obtain ⟨A3, s3, h3⟩ := h'.store i1
      exact g F' H' _ A3 h3 (e.fewer s3) (Kept.set l1)
    · cases h
  · cases h'
end
/-! ### comparing statements -/
abbrev ChkSs := Ss → List Stmt → Bool
def isNm : Expr → Bool
  | .Name _ _ => true
  | _ => false
section
variable (names N : List Str) (kk : Chk) (kb : ChkSs) (sc : Scope) (fnb : Str → Bool)
def cAsg (t v : Expr) (tg : Tg) (e : E) : Bool := tgB N sc fnb tg t && (kk sc fnb (.e e v) && ((swN t v || swL sc t v) && (!compXB v || !isNm t)))
def cLc (t v : Expr) : Tg → E → Bool
  | .nm i, .comp x tg src ci cond own => setLcB sc N i t v && stComp N kk sc fnb x tg src ci cond own v
  | _, _ => false
def cPar (i j : Nat) (a b : E) (t : Expr) : Expr → Bool
  | .Tuple es k2 p2 => parB sc N i j t (.Tuple es k2 p2) && (decide (i ≠ j) && kk sc fnb (.as (.ex a (.ex b .nil)) es))
  | _ => false
def cSetI (p : Nat) (i e : E) (v : Expr) : Expr → Bool
  | .Subscript t ix _ => nameB N sc p t && (kk sc fnb (.e i ix) && (kk sc fnb (.e e v) && (!compXB v && !sliceB ix)))
  | _ => false
def cAugI (f : Op) (op : Operator) (p : Nat) (i e : E) (v : Expr) : Expr → Bool
  | .Subscript t ix _ => decide (augB f = some op) && (nameB N sc p t && (kk sc fnb (.e i ix) && (kk sc fnb (.e e v) && !sliceB ix)))
  | _ => false
def cApp (p : Nat) (e : E) : Expr → Bool
  | .Call (.Attribute t a p1) [u] [] p2 => decide (a = "append") && (nameB N sc p t && (kk sc fnb (.e e u) && (!starB u && (p1.endLine == p2.line))))
  | _ => false
def stSt : S → Stmt → Bool
  | .asg tg e, .Assign [t] v _ => cAsg N kk sc fnb t v tg e || cLc N kk sc fnb t v tg e
  | .par i j a b, .Assign [t] v _ => cPar N kk sc fnb i j a b t v
  | .setI p i e, .Assign [t] v _ => cSetI N kk sc fnb p i e v t
  | .augI f p i e, .AugAssign t op v _ => cAugI N kk sc fnb f op p i e v t
  | .aug f i e, .AugAssign t op v _ => decide (augB f = some op) && (tgnB N sc fnb i t && kk sc fnb (.e e v))
  | .appd p e, .Expr v _ => cApp N kk sc fnb p e v
  | .exp e, .Expr v _ => kk sc fnb (.e e v) && !compXB v
  | .ret e, .Return (some v) _ => kk sc fnb (.e e v)
  | .retm i, .Return (some v) _ => nameB N sc i v
  | .retn, .Return none _ => true
  | .ite q a b, .If c x y _ => kk sc fnb (.t q c) && (kb a x && kb b y)
  | .forS tg src b, .For t it x [] _ => kk sc fnb (.src src t it) && (tgB N sc fnb tg t && (!setB it && kb b x))
  | .whl q b, .While c x [] _ => kk sc fnb (.t q c) && kb b x
  | .brk, .Break _ => true
  | .cnt, .Continue _ => true
  | _, _ => false
def stSs : ChkSs
  | .nil, [] => true
  | .cons s r, y :: ys => stSt N kk kb sc fnb s y && kb r ys
  | _, _ => false
end
def chkS (names N : List Str) (sc : Scope) (fnb : Str → Bool) : Nat → ChkSs
  | 0 => fun _ _ => false
  | n + 1 => fun x y => stSs N (chk names N n) (chkS names N sc fnb n) sc fnb x y
section
variable {X : Cx} {names : List Str} {fa : Nat → Addr} {c : CX} {k : Nat} {sc : Scope} {N : List Str} {fnb : Str → Bool} {kk : Chk} {kb : ChkSs}
theorem stSt_ok (ok : Cok names fa c k sc N fnb X) (hp : PassesOwn (model X.prog X.w) X.A X.env X.xe) (hk : ChkOk names fa c k N kk) (hb : ∀ {x : Ss} {y : List Stmt}, kb x y = true → PSs X y (tS X.K fa c.np (evSs c x))) {x : S} {y : Stmt} (h : stSt N kk kb sc fnb x y = true) :
    PS X y (tS X.K fa c.np (evS c x)) := by
  unfold stSt at h
  split at h
  · rename_i tg e t v pos
    rcases Bool.or_eq_true_iff.mp h with h | h
    · unfold cAsg at h
      obtain ⟨h1, h⟩ := Bool.and_eq_true_iff.mp h
      obtain ⟨h2, h⟩ := Bool.and_eq_true_iff.mp h
      obtain ⟨h3, h4⟩ := Bool.and_eq_true_iff.mp h
      have h5 : swappedStores [t] v X.env = pure none ∧ (assignEach [t] X.env).map (·.2) = [assign t X.env] := by
        rcases Bool.or_eq_true_iff.mp h3 with z | z
        · exact ⟨nostores z, assignEach_one z⟩
        · exact ⟨nostoresL ok.sc z, assignEach_tup z⟩
      refine ps_asgO ok (hk ok h2) h1 ?_ h5.1 h5.2
      rcases Bool.or_eq_true_iff.mp h4 with h4 | h4
      · exact .inl (nst h4)
      · refine .inr ?_
        cases t <;> first | trivial | cases h4
    · unfold cLc at h
      split at h
      · obtain ⟨h1, h2⟩ := Bool.and_eq_true_iff.mp h
        exact ps_lcO ok hk h1 h2
      · cases h
  · unfold cPar at h
    split at h
    · obtain ⟨h1, h⟩ := Bool.and_eq_true_iff.mp h
      obtain ⟨h2, h3⟩ := Bool.and_eq_true_iff.mp h
      exact ps_parO ok h1 (fun e => by
        cases e
        exact hk ok h3) (of_decide_eq_true h2)
    · cases h
  · unfold cSetI at h
    split at h
    · obtain ⟨h1, h⟩ := Bool.and_eq_true_iff.mp h
      obtain ⟨h2, h⟩ := Bool.and_eq_true_iff.mp h
      obtain ⟨h3, h⟩ := Bool.and_eq_true_iff.mp h
      obtain ⟨h4, h5⟩ := Bool.and_eq_true_iff.mp h
      exact ps_setIO ok h1 (hk ok h2) (hk ok h3) (nst h4) (nst h5)
    · cases h
  · unfold cAugI at h
    split at h
    · obtain ⟨h1, h⟩ := Bool.and_eq_true_iff.mp h
      obtain ⟨h2, h⟩ := Bool.and_eq_true_iff.mp h
      obtain ⟨h3, h⟩ := Bool.and_eq_true_iff.mp h
      obtain ⟨h4, h5⟩ := Bool.and_eq_true_iff.mp h
      exact ps_augIO ok (of_decide_eq_true h1) h2 (hk ok h3) (hk ok h4) (nst h5)
    · cases h
  · obtain ⟨h1, h⟩ := Bool.and_eq_true_iff.mp h
    obtain ⟨h2, h3⟩ := Bool.and_eq_true_iff.mp h
    exact ps_augO ok (of_decide_eq_true h1) h2 (hk ok h3)
  · unfold cApp at h
    split at h
    · obtain ⟨h1, h⟩ := Bool.and_eq_true_iff.mp h
      obtain ⟨h2, h⟩ := Bool.and_eq_true_iff.mp h
      obtain ⟨h3, h⟩ := Bool.and_eq_true_iff.mp h
      obtain ⟨h4, h5⟩ := Bool.and_eq_true_iff.mp h
      obtain rfl := of_decide_eq_true h1
      exact ps_appO ok h2 (hk ok h3) (nst h4) h5
    · cases h
  · obtain ⟨h1, h2⟩ := Bool.and_eq_true_iff.mp h
    exact ps_expO (hk ok h1) (nst h2)
  · exact ps_retO (hk ok h)
  · exact ps_retmO ok h
  · exact ps_retnO
  · obtain ⟨h1, h⟩ := Bool.and_eq_true_iff.mp h
    obtain ⟨h2, h3⟩ := Bool.and_eq_true_iff.mp h
    exact ps_iteO (hk ok h1) (hb h2) (hb h3)
  · obtain ⟨h1, h⟩ := Bool.and_eq_true_iff.mp h
    obtain ⟨h2, h⟩ := Bool.and_eq_true_iff.mp h
    obtain ⟨h3, h4⟩ := Bool.and_eq_true_iff.mp h
    exact ps_forO ok hp (hk ok h1) h2 (nst h3) (hb h4)
  · obtain ⟨h1, h2⟩ := Bool.and_eq_true_iff.mp h
    exact ps_whlO hp (hk ok h1) (hb h2)
  · exact ps_brkO
  · exact ps_cntO
  · cases h
theorem chkS_ok (ok : Cok names fa c k sc N fnb X) (hp : PassesOwn (model X.prog X.w) X.A X.env X.xe) (n : Nat) : ∀ {x : Ss} {y : List Stmt}, chkS names N sc fnb n x y = true → PSs X y (tS X.K fa c.np (evSs c x)) := by
  induction n with
  | zero =>
    intro x y h
    cases h
  | succ n ih =>
    intro x y h
    replace h : stSs N (chk names N n) (chkS names N sc fnb n) sc fnb x y = true := h
    unfold stSs at h
    split at h
    · exact pss_nilS
    · obtain ⟨h1, h2⟩ := Bool.and_eq_true_iff.mp h
      exact pss_consS (stSt_ok ok hp (chk_ok n) ih h1) (ih h2)
    · cases h
end
end EV

/-! EV, part 16: a def from its body, all defs of a text, the law's call. Own work. -/
namespace EV
open PySem L2 RZ
open PySem.Spec PyProof.Rows
section
variable {K : PySem.W.Frag} {fa : Nat → Addr} {F H F' H' : Hp} {A A' : List Addr} {ρ : Env} {σ : List (Option V)}
theorem holes (h : Same F H) : ∀ n : Nat, Hold K fa F H (List.replicate n .hole) (List.replicate n none) []
  | 0 => Hold.nil h
  | n + 1 => (holes h n).hole
theorem Hold.entry {os : List O} {vs : List V} {n : Nat} (h : Hold K fa F H os (vs.map some) A) : Hold K fa F H (os ++ List.replicate n .hole) (vs.map some ++ List.replicate n none) A := by
  have := h.app (holes h.sub n) fun _ _ z => nomatch z
  rwa [List.append_nil] at this
theorem backO_len : ∀ {as : List O} {ρ : Env}, (backO as ρ).length = as.length
  | [], _ => rfl
  | _ :: _, [] => congrArg (· + 1) backO_len
  | _ :: _, _ :: _ => congrArg (· + 1) backO_len
theorem backO_at : ∀ {as : List O} {ρ : Env} {j : Nat} {a o : O}, as[j]? = some a → ρ[j]? = some o → (backO as ρ)[j]? = some (if own? a = true then o else .hole)
  | _ :: _, _ :: _, 0, _, _, h1, h2 => by
    cases h1
    cases h2
    rfl
  | _ :: _, _ :: _, j + 1, _, _, h1, h2 => backO_at (j := j) h1 h2
/-- what goes back to the caller's slots -/
theorem Hold.leave {os : List O} {vs : List V} {o : O} {x : Option V} {rest : List (Option V)} (h : Hold K fa F H (o :: ρ) (x :: σ) A) (hl : os.length = vs.length) (hs : σ.length = vs.length + rest.length)
    (k : ∀ i, (os.map own?).getD i false = true → σ[i]? = (vs.map some ++ rest)[i]?) : ∃ A', (∀ a ∈ A', a ∈ A) ∧ Hold K fa F H (o :: backO os ρ) (x :: vs.map some) A' := by
  obtain ⟨A1, A2, rfl, h1, _, _⟩ := h.cut (1 + vs.length)
  have hr : ρ.length = σ.length := by simpa using h.len
  have l1 : ((o :: ρ).take (1 + vs.length)).length = 1 + vs.length := by simp; omega
  obtain ⟨A', s, h2⟩ := h1.patch (os' := o :: backO os ρ) (vs' := x :: vs.map some) (by rw [l1]; simp [backO_len]; omega) (by rw [← h1.len, l1]; simp; omega) fun j hj => by
    rw [l1] at hj
    cases j with
    | zero => exact .inl ⟨by rw [List.getElem?_take_of_lt (by omega)]; rfl, by rw [List.getElem?_take_of_lt (by omega)]; rfl⟩
    | succ j =>
      have hj' : j < vs.length := by omega
      rw [List.getElem?_take_of_lt hj, List.getElem?_take_of_lt hj, List.getElem?_cons_succ, List.getElem?_cons_succ, List.getElem?_cons_succ, List.getElem?_cons_succ]
      have e1 : os[j]? = some os[j] := List.getElem?_eq_getElem (by omega)
      have e2 : ρ[j]? = some ρ[j] := List.getElem?_eq_getElem (by omega)
      have b := backO_at e1 e2
      by_cases z : own? os[j] = true
      · rw [if_pos z] at b
        refine .inl ⟨b.trans e2.symm, ?_⟩
        have := k j (by simp [List.getD, e1, z])
        rw [this, List.getElem?_append_left (by simpa using hj')]
      · rw [if_neg z] at b
        exact .inr ⟨.hole, _, b, List.getElem?_eq_getElem (by simpa using hj'), .inl ⟨rfl, rfl⟩⟩
  exact ⟨A', fun a z => List.mem_append_left _ (s a z), h2⟩
end
def okP (sc : Scope) (x : Str) : Bool := decide (sc.names.lookup x = some .local) || decide (sc.names.lookup x = some .cell)
def scB (N ps : List Str) (sc : Scope) : Bool :=
  decide (sc.kind = .function) && (!sc.isCoroutine && (!sc.isGenerator && (decide N.Nodup && (decide (N.take ps.length = ps) && (ps.all (okP sc) && sc.names.all fun y => decide (y.2 ≠ .free))))))
theorem scB_ok {N ps : List Str} {sc : Scope} (h : scB N ps sc = true) : FnScope N ps sc := by
  unfold scB okP at h
  simp only [Bool.and_eq_true, Bool.not_eq_true', decide_eq_true_eq, List.all_eq_true, Bool.or_eq_true] at h
  obtain ⟨a1, a2, a3, a4, a5, a6, a7⟩ := h
  exact ⟨a1, a2, a3, a4, a5, a6, a7⟩
/-- a def as the text has it, with its code -/
structure Row where
  nm : Str
  st : Stmt
  N : List Str
  ps : List Str
  fn : Fn
def rowB (names : List Str) (n : Nat) (d : Row) : Bool :=
  scB d.N d.ps (defScope d.st) && (decide (d.fn.np = d.ps.length) && (decide (d.fn.ns = d.N.length) && (decide (d.ps.length ≤ d.N.length) && chkS names d.N (defScope d.st) (fun _ => true) n d.fn.body (defBody d.st))))
theorem runFn_ok {call : Nat → List O → FR} {fuel : Nat} {fn : Fn} {os ps : List O} {o : O} (h : runFn call fuel fn os = .ok o ps) : os.length = fn.np ∧ ∃ f ρ, evSs ⟨call, os.map own?, fuel⟩ fn.body (os ++ List.replicate (fn.ns - fn.np) .hole) = .ok f ρ ∧ ps = backO os ρ ∧ (f = .rt o ∨ (f = .nx ∧ o = .dat .none)) := by
  unfold runFn at h
  split at h
  · rename_i hl
    split at h
    · rename_i o' ρ h1
      cases h
      exact ⟨hl, _, _, h1, rfl, .inl rfl⟩
    · rename_i ρ h1
      cases h
      exact ⟨hl, _, _, h1, rfl, .inr ⟨rfl, rfl⟩⟩
    · cases h
  · cases h
section
variable {P : Program} {w : World} {K : PySem.W.Frag} {mg : Str → Option Value} {base : Heap} {fa : Nat → Addr} {fuel k : Nat} {T : List Fn} {names : List Str}
def DefsAt (P : Program) (w : World) (K : PySem.W.Frag) (mg : Str → Option Value) (base : Heap) (fa : Nat → Addr) (names : List Str) (call : Nat → List O → FR) (k : Nat) : Prop := ∀ f x, names[f]? = some x → mg x = some (.ref (fa f)) ∧ PySem.W.keepIn K (.ref (fa f)) = true ∧
    ∃ fd ps, FnG P w K mg base k (fa f) fd ps (spC K fa call f) ∧ Binds K fd ps []
theorem body_reads {d : Row} {n i : Nat} {vs : List V} {H : Hp} {Q : VK} (hT : T[i]? = some d.fn) (hr : rowB names n d = true) (q : spC K fa (callF T fuel (k + 1)) i vs H Q) :
    vs.length = d.ps.length ∧ ∃ lk, tS K fa lk (evSs ⟨callF T fuel k, lk, fuel⟩ d.fn.body) { nx := fun _ H' => Q .non H', rt := Q } (start d.N vs) H := by
  unfold rowB at hr
  simp only [Bool.and_eq_true, decide_eq_true_eq] at hr
  obtain ⟨_, r2, r3, r4, _⟩ := hr
  obtain ⟨F, os, A, o, ps, h, e, g⟩ := q
  simp only [callF, hT] at e
  obtain ⟨e1, f, ρ, e2, rfl, e3⟩ := runFn_ok e
  have hl : os.length = vs.length := by simpa using h.len
  refine ⟨by omega, os.map own?, ?_⟩
  have hst : start d.N vs = vs.map some ++ List.replicate (d.N.length - vs.length) none := rfl
  have h0 := h.entry (n := d.N.length - vs.length)
  rw [← hst] at h0
  have hn : d.fn.ns - d.fn.np = d.N.length - vs.length := by omega
  rw [hn] at e2
  have ends : ∀ {F' H' : Hp} {v : V} {σ' : L2.St} {A' : List Addr}, Hold K fa F' H' (o :: ρ) (some v :: σ') A' → Ext F H A F' H' A' → Kept (os.map own?) (start d.N vs) σ' → Q v H' := fun {F' H' v σ' A'} h' e' k' => by
    obtain ⟨A2, s2, h2⟩ := h'.leave (os := os) (vs := vs) (rest := List.replicate (d.N.length - vs.length) none) hl (by rw [k'.1, hst]; simp) fun i hi => by rw [k'.2 i hi, hst]
    exact g F' H' v A2 h2 (e'.fewer s2)
  refine ⟨F, _, A, f, ρ, h0, e2, ?_⟩
  rcases e3 with rfl | ⟨rfl, rfl⟩
  · exact fun F' H' v σ' A' h' e' k' => ends h' e' k'
  · exact fun F' H' σ' A' h' e' k' => ends (h'.dat (.dat .non)) e' k'
theorem fnG_step {d : Row} {n i : Nat} {f : Addr} {fd : FuncData} (hT : T[i]? = some d.fn) (hr : rowB names n d = true) (D : FunD K d.nm d.nm (defArgs d.st) (defBody d.st) (defScope d.st) [] [] f fd) (blt : ∀ x ∈ bltNames, mg x = none)
    (defs : DefsAt P w K mg base fa names (callF T fuel k) k) : FnG P w K mg base (k + 1) f fd d.ps (spC K fa (callF T fuel (k + 1)) i) := by
  have hr' := hr
  unfold rowB at hr'
  simp only [Bool.and_eq_true, decide_eq_true_eq] at hr'
  obtain ⟨r1, _, _, _, r5⟩ := hr'
  have S := scB_ok r1
  obtain ⟨oc, od, dV, kV, doc, pm, an, cdv, ct, osl, rfl, lk, hcd, _, _⟩ := D.ex
  refine ⟨fun vs H Q q => (body_reads hT hr q).1, fun A outer s H args us vs Q room gd e0 hb rv q => ?_⟩
  obtain ⟨hl, lkd, hq⟩ := body_reads hT hr q
  have inK : K.In s.heap := e0.mod.kin.keeps fun b o z => (e0.bs b o z).1
  have noL : s.heap.NoLimit := e0.mod.nolimit.keeps fun b o z => (e0.bs b o z).1
  refine codeAny_call_function (Room.depth room) (inK _ _ lk) rfl S.co S.gen rfl (PySem.W.codeRec_of inK hcd)
    (hb _ _ _ _ (wpAny_newFunctionEnv_cells S.kind (fun y hy => ?_) fun env he s1 x => ?_))
  · rcases S.par y.1 (List.of_mem_zip hy).1 with z | z
    · exact .inl z
    · exact .inr ⟨z, PySem.W.cellsFrom_some _ _ _ (.inl z)⟩
  · subst he
    refine ⟨noL.keeps x.toInCall.keep, codeAny_func ?_⟩
    have I := inv_start (CX := CX0) (E := E0) (w := w) S room.hd e0 hl rv x
    have hX : Cok names fa ⟨callF T fuel k, lkd, fuel⟩ k (defScope d.st) d.N (fun _ => true) (cxOf CX0 P w K mg base d.N d.nm (defScope d.st) f cdv A outer s H E0).nox :=
      ⟨rfl, rfl, S.nd, rfl, rfl, gd, room.deeper _, blt, defs⟩
    have body := (chkS_ok hX PassesOwn.never n r5).nox
    refine wpAny_mono (body.run [] s1 (start d.N vs) H _ I hq) (fun fl s' hs => ?_) fun e s' hs => wpAny_mono hs (fun _ _ z => z.elim) fun _ _ z => z.elim
    have fin : ∀ {σ' : L2.St} {H' : Hp} {v : V} {u : Value}, Inv (cxOf CX0 P w K mg base d.N d.nm (defScope d.st) f cdv A outer s H E0) [] σ' H' s' → RelV v u → Q v H' → CE outer P w H s Q u s' :=
      fun J r z => ⟨_, _, J.os, J.bare, J.base, J.hok, r, z⟩
    cases fl with
    | ret u =>
      obtain ⟨v, σ', H', J, r, z⟩ := hs
      exact ⟨u, rfl, fin J r z⟩
    | next =>
      obtain ⟨σ', H', J, z⟩ := hs
      exact ⟨.none, rfl, fin (v := V.non) J rfl z⟩
    | brk => exact (hs.choose_spec.choose_spec.2 : False).elim
    | cont => exact (hs.choose_spec.choose_spec.2 : False).elim
/-- all defs, as deep as wanted -/
theorem levels {Ds : List Row} {n : Nat} (hT : T = Ds.map (·.fn)) (hn : names = Ds.map (·.nm)) (hc : (Ds.all (rowB names n)) = true) (blt : ∀ x ∈ bltNames, mg x = none)
    (D : ∀ i d, Ds[i]? = some d → mg d.nm = some (.ref (fa i)) ∧ ∃ fd, FunD K d.nm d.nm (defArgs d.st) (defBody d.st) (defScope d.st) [] [] (fa i) fd ∧ Binds K fd d.ps []) (k : Nat) : DefsAt P w K mg base fa names (callF T fuel k) k := by
  induction k with
  | zero =>
    intro f x h
    rw [hn, List.getElem?_map] at h
    obtain ⟨d, hd, rfl⟩ := Option.map_eq_some_iff.mp h
    obtain ⟨h1, fd, h2, h3⟩ := D f d hd
    refine ⟨h1, h2.kp, fd, d.ps, ⟨fun vs H Q q => ?_, fun A outer s H args us vs Q _ _ _ _ _ q => ?_⟩, h3⟩
    · obtain ⟨_, _, _, _, _, _, e, _⟩ := q
      cases e
    · obtain ⟨_, _, _, _, _, _, e, _⟩ := q
      cases e
  | succ k ih =>
    intro f x h
    rw [hn, List.getElem?_map] at h
    obtain ⟨d, hd, rfl⟩ := Option.map_eq_some_iff.mp h
    obtain ⟨h1, fd, h2, h3⟩ := D f d hd
    have hr := List.all_eq_true.mp hc d (List.mem_of_getElem? hd)
    exact ⟨h1, h2.kp, fd, d.ps, fnG_step (n := n) (by rw [hT, List.getElem?_map, hd]; rfl) hr h2 blt ih, h3⟩
end
end EV

/-! EV, part 17: the law's call behind the top, with no repr running. Own work. -/
namespace EV
open PySem L2 RZ
open PySem.Spec PyProof.Rows
/-- an abstract heap for the script's list -/
structure Begun (P : Program) (w : World) (K : PySem.W.Frag) (s : Shared) (a : Addr) (ns : List Int) (H : Hp) : Prop where
  sq : SqL K H a (ns.map V.int)
  ok : HOk P w H s.heap
  at_ : ∀ b, H b ≠ none → b = a ∧ K.lookup b = none ∧ ∃ o xs, H b = some (.frz o (.lst xs))
theorem begin_at {P : Program} {w : World} {K : PySem.W.Frag} {s : Shared} {a : Addr} {vs : List Value} {ns : List Int} (KX : K.In s.heap) (ha : s.heap.get? a = some { cls := .type "list", data := .seq vs.toArray }) (hi : IntsAre vs ns) (hl : ns.length ≤ sizeLine) : ∃ H, Begun P w K s a ns H := by
  have rv := vals_ints hi
  cases hk : K.lookup a with
  | some o =>
    have e := (KX a o hk).symm.trans ha
    cases e
    refine ⟨fun _ => none, .inr ⟨_, vs.toArray, 0, hk, rfl, rfl, rfl, ?_, by simpa using rv⟩, fun b u z => ?_, fun b z => absurd rfl z⟩
    · have := hi.length
      rw [List.size_toArray]
      omega
    · cases (show (none : Option HO) = some u from z)
  | none =>
    let L : HO := .frz { cls := .type "list", data := .seq vs.toArray } (.lst (ns.map V.int))
    have at1 : (fun b => if b = a then some L else none : Hp) a = some L := if_pos rfl
    have ne1 : ∀ b, b ≠ a → (fun b => if b = a then some L else none : Hp) b = none := fun b z => if_neg z
    refine ⟨fun b => if b = a then some L else none, .inl (.inr ⟨_, at1⟩), fun b u z => ?_, fun b z => ?_⟩
    · by_cases e : b = a
      · subst e
        cases at1.symm.trans z
        exact ⟨ha, by rw [List.length_map]; exact hl, vs, _, rv, ha⟩
      · cases (ne1 b e).symm.trans z
    · by_cases e : b = a
      · subst e
        exact ⟨rfl, hk, _, _, at1⟩
      · exact absurd (ne1 b e) z
theorem law_callG {P : Program} {w : World} {K : PySem.W.Frag} {mg mb : Str → Option Value} {k : Nat} {f a : Addr} {fd : FuncData} {x : Str} {sp : List V → Hp → VK → Prop} {s : Shared} {vs : List Value} {ns : List Int}
    (KX : K.In s.heap) (hns : s.heap.Ns mainGlobals mg) (hb : s.heap.Ns builtinsNs mb) (hbb : ∀ y : Str, y ≠ "__name__" → mb y = bootBuiltins y) (hlim : s.heap.NoLimit) (hg : s.gens = #[])
    (ha : s.heap.get? a = some { cls := .type "list", data := .seq vs.toArray }) (hi : IntsAre vs ns) (hl : ns.length ≤ sizeLine) (room : Room k callerA)
    (F : ∀ base : Heap, K.In base → base.Ns mainGlobals mg → FnG P w K mg base k f fd [x] sp) (bind : ∀ (s : Shared) (u : Value), BindsTo s fd ⟨[u], []⟩ [(x, u)])
    (hsp : ∀ H : Hp, SqL K H a (ns.map V.int) → sp [.ref a] H fun v _ => v = .bl true) :
    codeAny (model P w) callerA (.call (.ref f) ⟨[.ref a], []⟩) (fun r s' => r = .ok (.ret (.bool true)) ∧ OldK s.heap s'.heap ∧ s'.os = s.os ∧ AllBare s'.gens) s := by
  obtain ⟨H, B⟩ := begin_at (P := P) (w := w) KX ha hi hl
  have stays : ∀ {b : Addr} {o : Obj}, s.heap.get? b = some o → H b = none → (hidT s.heap H).get? b = some o := fun e n => hidT_get e n
  have free : ∀ {b : Addr} {o : Obj}, s.heap.get? b = some o → (∀ its n, o.data ≠ .seq its n) → H b = none := fun {b o} e n => by
    cases q : H b with
    | none => rfl
    | some u =>
      obtain ⟨rfl, _⟩ := B.at_ b (by rw [q]; exact (fun z => nomatch z))
      rw [ha] at e
      cases e
      exact absurd rfl (n _ _)
  have spaces : ∀ {b : Addr} {m : Str → Option Value}, s.heap.Ns b m → (hidT s.heap H).Ns b m := fun {b m} ⟨o, es, ep, e, d, r⟩ => ⟨o, es, ep, stays e (free e fun its n z => by rw [d] at z; cases z), d, r⟩
  have written : K.In (hidT s.heap H) := fun b o e => stays (KX b o e) (by
    cases q : H b with
    | none => rfl
    | some u =>
      have := (B.at_ b (by rw [q]; exact (fun z => nomatch z))).2.1
      rw [this] at e
      cases e)
  have module_ : Mod K mg (hidT s.heap H) := ⟨written, spaces hns, ⟨mb, spaces hb, hbb⟩, hlim.elim fun m z => ⟨m, spaces z.1, z.2⟩⟩
  have entry : Env0 P w K mg (hidT s.heap H) callerA [] s H := ⟨rfl, module_, fun b o e => of_hidT e, Nat.le_of_eq (hidT_size _ _), trivial, (fun b z => nomatch z), B.ok, .of_eq hg⟩
  have run := (F _ written (spaces hns)).run callerA [] s H ⟨[.ref a], []⟩ [.ref a] [.ref a] (fun v _ => v = .bl true) room rfl entry (bind s (.ref a)) (.cons rfl .nil) (hsp H B.sq)
  refine codeAny_mono run fun r s' ⟨u, e, v, H', os, bare, un, ok', rv, q⟩ => ?_
  subst e q
  cases (show u = Value.bool true from rv)
  refine ⟨rfl, OldK.of_keep fun b o e => ?_, os, bare⟩
  cases q : H b with
  | none => exact un.keep b o e q (fun z => nomatch z) fun z => nomatch z
  | some u =>
    obtain ⟨_, _, ob, xs, z⟩ := B.at_ b (by rw [q]; exact (fun z => nomatch z))
    have e1 := (B.ok b _ z).1
    have e2 := (ok' b _ (un.frzs b ob _ z)).1
    rw [e] at e1
    cases e1
    exact e2
/-- the goal that the head leaves, by a promise -/
theorem walkG {l : PySem.W.OpenLaw} {n k : Nat} {q : Program} {loose : List Str} {XP : (Str → Option Value) → Heap → Prop} {YP : World → Heap → Prop} {d : DefRec} {x : Str} (hn : l.most = some n) (hn2 : n ≤ sizeLine) (hdf : d.params.defaults = []) (room : Room k callerA)
    (F : ∀ (w : World) (mg : Str → Option Value) (f : Addr) (h : Heap), YP w h → h.Ns mainGlobals mg → mg d.name = some (.ref f) →
      ∃ (K : PySem.W.Frag) (fd : FuncData) (sp : List V → Hp → VK → Prop), K.In h ∧ (∀ (s : Shared) (u : Value), BindsTo s fd ⟨[u], []⟩ [(x, u)]) ∧
        (∀ (H : Hp) (a : Addr) (ns : List Int), ns.length ≤ n → SqL K H a (ns.map V.int) → sp [.ref a] H fun v _ => v = .bl true) ∧
        ∀ base : Heap, K.In base → base.Ns mainGlobals mg → FnG l.prog w K mg base k f fd [x] sp) :
    PySem.W.WalkO q loose XP YP l.row.toRowW d [] (fun f vs => PySem.call f vs) :=
  Att.attach_call hn hdf fun w s0 s1 mg mb f o pm cd doc a vs ns G Y _ _ _ hmg obj hin len hg => by
    obtain ⟨K, fd, sp, KX, bind, hsp, hF⟩ := F w mg f _ Y G.T.g hmg
    exact law_callG KX G.T.g G.T.b G.T.builtins G.T.nolimit hg obj hin (Nat.le_trans len hn2) room hF bind fun H z => hsp H a ns len z
/-- the script as data -/
theorem script_da {K : PySem.W.Frag} {F : Hp} : ∀ ns : List Int, Das K F (ns.map V.int) (ns.map PyData.int)
  | [] => .nil
  | i :: r => .cons (.int i) (script_da r)
theorem law_sp {K : PySem.W.Frag} {fa : Nat → Addr} {call : Nat → List O → FR} {f : Nat} {a : Addr} {ns : List Int} {H : Hp} {ps : List O} (h : SqL K H a (ns.map V.int)) (hc : call f [.dat (.list (ns.map PyData.int))] = .ok (.dat (.bool true)) ps) :
    spC K fa call f [.ref a] H fun v _ => v = .bl true := by
  refine ⟨H, [.dat (.list (ns.map PyData.int))], [], _, ps, (Hold.nil (Same.refl H)).dat (.dat (.lst h (script_da ns))), hc, fun F' H' v A' h' _ => ?_⟩
  obtain ⟨r, _⟩ := hand_da h'
  cases r
  rfl
end EV

namespace K9
open PySem PySem.Spec PyProof.Rows L2 EV
abbrev tp (i : Nat) : Stmt := (PySem.Challenge.pw_blockwright_k09_lines_of_letters).main.body.getD i (.Pass ⟨0,0,0,0⟩)
def c_common : Ss := (.cons (.par 0 1 (.app .abs (.pl 0 .nil)) (.app .abs (.pl 1 .nil))) (.cons (.whl (.app .ne (.pl 1 (.ex (.con (.int 0)) .nil))) (.cons (.par 0 1 (.var 1) (.app .mod (.pl 0 (.pl 1 .nil)))) .nil)) (.cons (.ret (.var 0)) .nil)))
def r_common : EV.Row := ⟨"common", tp 1, ["one", "other"], ["one", "other"], ⟨2, 2, c_common⟩⟩
def c_plain : Ss := (.cons (.ret (.app .tup (.ex (.var 1) (.ex (.app .mul (.ex (.app .tup (.ex (.con (.int 0)) .nil)) (.pl 0 .nil))) .nil)))) .nil)
def r_plain : EV.Row := ⟨"plain", tp 2, ["many", "whole"], ["many", "whole"], ⟨2, 2, c_plain⟩⟩
def c_letter : Ss := (.cons (.ret (.app .tup (.ex (.con (.int 0)) (.ex (.app .tuple (.ex (.comp (.app .int (.ex (.app .eq (.pl 2 (.pl 1 .nil))) .nil)) (.nm 2) (.rng (.var 0)) false (.con .none) [2]) .nil)) .nil)))) .nil)
def r_letter : EV.Row := ⟨"letter", tp 3, ["many", "at", "k"], ["many", "at"], ⟨2, 3, c_letter⟩⟩
def c_added : Ss := (.cons (.ret (.app .tup (.ex (.app .add (.ex (.app .idx (.pl 0 (.ex (.con (.int 0)) .nil))) (.ex (.app .idx (.pl 1 (.ex (.con (.int 0)) .nil))) .nil))) (.ex (.app .tuple (.ex (.comp (.app .add (.pl 2 (.pl 3 .nil))) (.tup [2, 3]) (.zip (.app .idx (.pl 0 (.ex (.con (.int 1)) .nil))) (.app .idx (.pl 1 (.ex (.con (.int 1)) .nil)))) false (.con .none) [2, 3]) .nil)) .nil)))) .nil)
def r_added : EV.Row := ⟨"added", tp 4, ["one", "other", "mine", "its"], ["one", "other"], ⟨2, 4, c_added⟩⟩
def c_times : Ss := (.cons (.ret (.app .tup (.ex (.app .mul (.pl 0 (.ex (.app .idx (.pl 1 (.ex (.con (.int 0)) .nil))) .nil))) (.ex (.app .tuple (.ex (.comp (.app .mul (.pl 0 (.pl 2 .nil))) (.nm 2) (.seq (.app .idx (.pl 1 (.ex (.con (.int 1)) .nil)))) false (.con .none) [2]) .nil)) .nil)))) .nil)
def r_times : EV.Row := ⟨"times", tp 5, ["often", "one", "factor"], ["often", "one"], ⟨2, 3, c_times⟩⟩
def c_less : Ss := (.cons (.ret (.call 3 (.pl 0 (.ex (.call 4 (.ex (.app .neg (.ex (.con (.int 1)) .nil)) (.pl 1 .nil))) .nil)))) .nil)
def r_less : EV.Row := ⟨"less", tp 6, ["one", "other"], ["one", "other"], ⟨2, 2, c_less⟩⟩
def c_raised : Ss := (.cons (.ret (.app .tup (.ex (.app .add (.ex (.app .idx (.pl 0 (.ex (.con (.int 0)) .nil))) (.pl 1 .nil))) (.ex (.app .idx (.pl 0 (.ex (.con (.int 1)) .nil))) .nil)))) .nil)
def r_raised : EV.Row := ⟨"raised", tp 7, ["one", "by"], ["one", "by"], ⟨2, 2, c_raised⟩⟩
def c_negated : Ss := (.cons (.ret (.call 6 (.ex (.call 4 (.ex (.app .neg (.ex (.con (.int 1)) .nil)) (.pl 0 .nil))) (.ex (.app .neg (.ex (.con (.int 1)) .nil)) .nil)))) .nil)
def r_negated : EV.Row := ⟨"negated", tp 8, ["one"], ["one"], ⟨1, 1, c_negated⟩⟩
def c_divisor : Ss := (.cons (.asg (.nm 1) (.con (.int 0))) (.cons (.forS (.nm 2) (.seq (.app .idx (.pl 0 (.ex (.con (.int 1)) .nil)))) (.cons (.asg (.nm 1) (.call 0 (.pl 1 (.pl 2 .nil)))) .nil)) (.cons (.retm 1) .nil)))
def r_divisor : EV.Row := ⟨"divisor", tp 9, ["one", "found", "factor"], ["one"], ⟨1, 3, c_divisor⟩⟩
def c_tight : Ss := (.cons (.asg (.nm 1) (.call 8 (.pl 0 .nil))) (.cons (.ret (.ite (.app .lt (.pl 1 (.ex (.con (.int 2)) .nil))) (.var 0) (.app .tup (.ex (.app .fdiv (.ex (.app .idx (.pl 0 (.ex (.con (.int 0)) .nil))) (.pl 1 .nil))) (.ex (.app .tuple (.ex (.comp (.app .fdiv (.pl 2 (.pl 1 .nil))) (.nm 2) (.seq (.app .idx (.pl 0 (.ex (.con (.int 1)) .nil)))) false (.con .none) [2]) .nil)) .nil))))) .nil))
def r_tight : EV.Row := ⟨"tight", tp 10, ["one", "part", "factor"], ["one"], ⟨1, 3, c_tight⟩⟩
def c_worth : Ss := (.cons (.ret (.app .add (.ex (.app .idx (.pl 0 (.ex (.con (.int 0)) .nil))) (.ex (.app .sum (.ex (.comp (.app .mul (.pl 2 (.pl 3 .nil))) (.tup [2, 3]) (.zip (.app .idx (.pl 0 (.ex (.con (.int 1)) .nil))) (.var 1)) false (.con .none) [2, 3]) .nil)) .nil)))) .nil)
def r_worth : EV.Row := ⟨"worth", tp 11, ["one", "letters", "factor", "number"], ["one", "letters"], ⟨2, 4, c_worth⟩⟩
def c__law_bag : Ss := (.cons (.ret (.app .lst (.ex (.con (.int 0)) (.ex (.con (.int 1234567891)) (.ex (.con (.int 0)) (.ex (.comp (.app .abs (.pl 1 .nil)) (.nm 1) (.seq (.app (.slc false true) (.pl 0 (.ex (.con (.int 63)) .nil)))) false (.con .none) [1]) .nil)))))) .nil)
def r__law_bag : EV.Row := ⟨"_law_bag", tp 13, ["script", "cell"], ["script"], ⟨1, 2, c__law_bag⟩⟩
def c__law_take : Ss := (.cons (.ite (.app .eq (.ex (.app .idx (.pl 0 (.ex (.con (.int 0)) .nil))) (.ex (.con (.int 0)) .nil))) (.cons (.asg (.nm 2) (.app .idx (.ex (.app .add (.ex (.app (.slc true false) (.ex (.app .idx (.pl 0 (.ex (.con (.int 3)) .nil))) (.ex (.app .idx (.pl 0 (.ex (.con (.int 2)) .nil))) .nil))) (.ex (.app .lst (.ex (.con (.int 0)) .nil)) .nil))) (.ex (.con (.int 0)) .nil)))) (.cons (.augI .add 0 (.con (.int 2)) (.con (.int 1))) (.cons (.ite (.app .ge (.pl 2 (.ex (.app .pow (.ex (.con (.int 10)) (.ex (.con (.int 18)) .nil))) .nil))) (.cons (.setI 0 (.con (.int 0)) (.var 2)) .nil) .nil) (.cons (.asg (.nm 3) (.app .add (.ex (.app .add (.ex (.app .mul (.ex (.app .idx (.pl 0 (.ex (.con (.int 1)) .nil))) (.ex (.con (.int 48271)) .nil))) (.ex (.app .mod (.ex (.app .int (.pl 2 .nil)) (.ex (.con (.int 2147483647)) .nil))) .nil))) (.ex (.app .mul (.ex (.con (.int 7919)) (.ex (.app .idx (.pl 0 (.ex (.con (.int 2)) .nil))) .nil))) .nil)))) (.cons (.setI 0 (.con (.int 1)) (.app .mod (.ex (.app .int (.pl 3 .nil)) (.ex (.con (.int 2147483647)) .nil)))) .nil))))) .nil) (.cons (.ite (.app .gt (.ex (.app .idx (.pl 0 (.ex (.con (.int 0)) .nil))) (.ex (.con (.int 0)) .nil))) (.cons (.asg (.nm 4) (.app .mod (.ex (.app .int (.ex (.app .idx (.pl 0 (.ex (.con (.int 0)) .nil))) .nil)) (.pl 1 .nil)))) (.cons (.setI 0 (.con (.int 0)) (.app .fdiv (.ex (.app .int (.ex (.app .idx (.pl 0 (.ex (.con (.int 0)) .nil))) .nil)) (.pl 1 .nil)))) (.cons (.retm 4) .nil))) .nil) (.cons (.asg (.nm 5) (.app .mod (.ex (.app .int (.ex (.app .mul (.ex (.app .add (.ex (.app .idx (.pl 0 (.ex (.con (.int 1)) .nil))) (.ex (.con (.int 1)) .nil))) (.ex (.con (.int 39373)) .nil))) .nil)) (.ex (.con (.int 1000000007)) .nil)))) (.cons (.asg (.nm 6) (.app .mod (.ex (.app .int (.ex (.app .mul (.ex (.app .mod (.ex (.app .int (.ex (.app .mul (.pl 5 (.pl 5 .nil))) .nil)) (.ex (.con (.int 998244353)) .nil))) (.ex (.con (.int 30011)) .nil))) .nil)) (.ex (.con (.int 998244353)) .nil)))) (.cons (.ret (.app .mod (.ex (.app .int (.ex (.app .fdiv (.pl 6 (.ex (.con (.int 7)) .nil))) .nil)) (.pl 1 .nil)))) .nil)))))
def r__law_take : EV.Row := ⟨"_law_take", tp 14, ["bag", "many", "cell", "stirred", "drawn", "begin", "second"], ["bag", "many"], ⟨2, 7, c__law_take⟩⟩
def c__law_some : Ss := (.cons (.ret (.app .idx (.pl 1 (.ex (.call 12 (.pl 0 (.ex (.app .len (.pl 1 .nil)) .nil))) .nil)))) .nil)
def r__law_some : EV.Row := ⟨"_law_some", tp 15, ["bag", "things"], ["bag", "things"], ⟨2, 2, c__law_some⟩⟩
def c__law_alike : Ss := (.cons (.ret (.and_ (.app .eq (.ex (.app .repr (.pl 0 .nil)) (.ex (.app .repr (.pl 1 .nil)) .nil))) (.app .eq (.pl 0 (.pl 1 .nil))))) .nil)
def r__law_alike : EV.Row := ⟨"_law_alike", tp 16, ["found", "due"], ["found", "due"], ⟨2, 2, c__law_alike⟩⟩
def c__law_gcd : Ss := (.cons (.par 0 1 (.app .abs (.pl 0 .nil)) (.app .abs (.pl 1 .nil))) (.cons (.whl (.app .ne (.pl 1 (.ex (.con (.int 0)) .nil))) (.cons (.par 0 1 (.var 1) (.app .mod (.pl 0 (.pl 1 .nil)))) .nil)) (.cons (.ret (.var 0)) .nil)))
def r__law_gcd : EV.Row := ⟨"_law_gcd", tp 17, ["one", "other"], ["one", "other"], ⟨2, 2, c__law_gcd⟩⟩
def c_law : Ss := (.cons (.asg (.nm 1) (.call 11 (.pl 0 .nil))) (.cons (.forS (.nm 2) (.rng (.con (.int 15))) (.cons (.asg (.nm 3) (.app .add (.ex (.con (.int 1)) (.ex (.call 12 (.pl 1 (.ex (.con (.int 4)) .nil))) .nil)))) (.cons (.asg (.tup [4, 5]) (.comp (.app .tup (.ex (.app .sub (.ex (.call 12 (.pl 1 (.ex (.con (.int 19)) .nil))) (.ex (.con (.int 9)) .nil))) (.ex (.app .tuple (.ex (.comp (.call 13 (.pl 1 (.ex (.app .lst (.ex (.con (.int 0)) (.ex (.con (.int 0)) (.ex (.con (.int 1)) (.ex (.app .neg (.ex (.con (.int 1)) .nil)) (.ex (.con (.int 2)) (.ex (.app .neg (.ex (.con (.int 4)) .nil)) (.ex (.con (.int 6)) .nil)))))))) .nil))) (.nm 6) (.rng (.var 3)) false (.con .none) [6]) .nil)) .nil))) (.nm 7) (.rng (.con (.int 2))) false (.con .none) [7])) (.cons (.asg (.tup [8, 9]) (.app .tup (.ex (.app .tuple (.ex (.comp (.app .sub (.ex (.call 12 (.pl 1 (.ex (.con (.int 41)) .nil))) (.ex (.con (.int 20)) .nil))) (.nm 6) (.rng (.var 3)) false (.con .none) [6]) .nil)) (.ex (.app .sub (.ex (.call 12 (.pl 1 (.ex (.con (.int 9)) .nil))) (.ex (.con (.int 4)) .nil))) .nil)))) (.cons (.asg (.tup [10, 11]) (.comp (.app .add (.ex (.app .idx (.pl 14 (.ex (.con (.int 0)) .nil))) (.ex (.app .sum (.ex (.comp (.app .mul (.pl 12 (.pl 13 .nil))) (.tup [12, 13]) (.zip (.app .idx (.pl 14 (.ex (.con (.int 1)) .nil))) (.var 8)) false (.con .none) [12, 13]) .nil)) .nil))) (.nm 14) (.seq (.app .tup (.ex (.var 4) (.ex (.var 5) .nil)))) false (.con .none) [14])) (.cons (.asg (.nm 15) (.app .lst (.ex (.app .tup (.ex (.app .add (.ex (.app .idx (.pl 4 (.ex (.con (.int 0)) .nil))) (.ex (.app .idx (.pl 5 (.ex (.con (.int 0)) .nil))) .nil))) (.ex (.app .tuple (.ex (.comp (.app .add (.pl 12 (.pl 13 .nil))) (.tup [12, 13]) (.zip (.app .idx (.pl 4 (.ex (.con (.int 1)) .nil))) (.app .idx (.pl 5 (.ex (.con (.int 1)) .nil)))) false (.con .none) [12, 13]) .nil)) .nil))) (.ex (.app .tup (.ex (.app .sub (.ex (.app .idx (.pl 4 (.ex (.con (.int 0)) .nil))) (.ex (.app .idx (.pl 5 (.ex (.con (.int 0)) .nil))) .nil))) (.ex (.app .tuple (.ex (.comp (.app .sub (.pl 12 (.pl 13 .nil))) (.tup [12, 13]) (.zip (.app .idx (.pl 4 (.ex (.con (.int 1)) .nil))) (.app .idx (.pl 5 (.ex (.con (.int 1)) .nil)))) false (.con .none) [12, 13]) .nil)) .nil))) .nil)))) (.cons (.asg (.nm 15) (.app .add (.pl 15 (.ex (.app .lst (.ex (.app .tup (.ex (.app .mul (.pl 9 (.ex (.app .idx (.pl 4 (.ex (.con (.int 0)) .nil))) .nil))) (.ex (.app .tuple (.ex (.comp (.app .mul (.pl 9 (.pl 12 .nil))) (.nm 12) (.seq (.app .idx (.pl 4 (.ex (.con (.int 1)) .nil)))) false (.con .none) [12]) .nil)) .nil))) (.ex (.app .tup (.ex (.app .add (.ex (.app .idx (.pl 4 (.ex (.con (.int 0)) .nil))) (.pl 9 .nil))) (.ex (.app .idx (.pl 4 (.ex (.con (.int 1)) .nil))) .nil))) .nil))) .nil)))) (.cons (.ite (.not_ (.call 14 (.ex (.app .lst (.ex (.call 10 (.pl 4 (.pl 8 .nil))) (.ex (.call 3 (.pl 4 (.pl 5 .nil))) (.ex (.call 5 (.pl 4 (.pl 5 .nil))) (.ex (.call 4 (.pl 9 (.pl 4 .nil))) (.ex (.call 6 (.pl 4 (.pl 9 .nil))) .nil)))))) (.ex (.app .add (.ex (.app .lst (.ex (.var 10) .nil)) (.pl 15 .nil))) .nil)))) (.cons (.ret (.con (.bool false))) .nil) .nil) (.cons (.asg (.nm 16) (.call 12 (.pl 1 (.pl 3 .nil)))) (.cons (.ite (.not_ (.call 14 (.ex (.app .lst (.ex (.call 2 (.pl 3 (.pl 16 .nil))) (.ex (.call 1 (.pl 3 (.pl 9 .nil))) .nil))) (.ex (.app .lst (.ex (.app .tup (.ex (.con (.int 0)) (.ex (.app .tuple (.ex (.comp (.app .int (.ex (.app .eq (.pl 6 (.pl 16 .nil))) .nil)) (.nm 6) (.rng (.var 3)) false (.con .none) [6]) .nil)) .nil))) (.ex (.app .tup (.ex (.var 9) (.ex (.app .mul (.ex (.app .tup (.ex (.con (.int 0)) .nil)) (.pl 3 .nil))) .nil))) .nil))) .nil)))) (.cons (.ret (.con (.bool false))) .nil) .nil) (.cons (.asg (.tup [17, 18]) (.app .tup (.ex (.call 7 (.pl 4 .nil)) (.ex (.con (.int 0)) .nil)))) (.cons (.forS (.nm 19) (.seq (.app .idx (.pl 4 (.ex (.con (.int 1)) .nil)))) (.cons (.asg (.nm 18) (.call 15 (.pl 18 (.pl 19 .nil)))) .nil)) (.cons (.ite (.or_ (.app .eq (.ex (.app .ge (.pl 10 (.ex (.con (.int 0)) .nil))) (.ex (.app .ge (.ex (.app .add (.ex (.app .idx (.pl 17 (.ex (.con (.int 0)) .nil))) (.ex (.app .sum (.ex (.comp (.app .mul (.pl 12 (.pl 13 .nil))) (.tup [12, 13]) (.zip (.app .idx (.pl 17 (.ex (.con (.int 1)) .nil))) (.var 8)) false (.con .none) [12, 13]) .nil)) .nil))) (.ex (.con (.int 0)) .nil))) .nil))) (.not_ (.call 14 (.ex (.call 8 (.pl 4 .nil)) (.pl 18 .nil))))) (.cons (.ret (.con (.bool false))) .nil) .nil) (.cons (.asg (.nm 15) (.ite (.app .lt (.pl 18 (.ex (.con (.int 2)) .nil))) (.var 4) (.app .tup (.ex (.app .fdiv (.ex (.app .idx (.pl 4 (.ex (.con (.int 0)) .nil))) (.pl 18 .nil))) (.ex (.app .tuple (.ex (.comp (.app .fdiv (.pl 12 (.pl 18 .nil))) (.nm 12) (.seq (.app .idx (.pl 4 (.ex (.con (.int 1)) .nil)))) false (.con .none) [12]) .nil)) .nil))))) (.cons (.ite (.not_ (.call 14 (.ex (.call 9 (.pl 4 .nil)) (.pl 15 .nil)))) (.cons (.ret (.con (.bool false))) .nil) .nil) .nil))))))))))))))) (.cons (.ret (.con (.bool true))) .nil)))
def r_law : EV.Row := ⟨"law", tp 18, ["script", "bag", "lap", "many", "one", "other", "k", "turn", "numbers", "often", "a", "b", "x", "y", "its", "due", "at", "back", "part", "factor"], ["script"], ⟨1, 20, c_law⟩⟩
def Ds : List EV.Row := [r_common, r_plain, r_letter, r_added, r_times, r_less, r_raised, r_negated, r_divisor, r_tight, r_worth, r__law_bag, r__law_take, r__law_some, r__law_alike, r__law_gcd, r_law]

def names : List Str := Ds.map (·.nm)
def T : List Fn := Ds.map (·.fn)
theorem kr_common : rowB names 80 r_common = true := by decide +kernel
theorem kr_plain : rowB names 80 r_plain = true := by decide +kernel
theorem kr_letter : rowB names 80 r_letter = true := by decide +kernel
theorem kr_added : rowB names 80 r_added = true := by decide +kernel
theorem kr_times : rowB names 80 r_times = true := by decide +kernel
theorem kr_less : rowB names 80 r_less = true := by decide +kernel
theorem kr_raised : rowB names 80 r_raised = true := by decide +kernel
theorem kr_negated : rowB names 80 r_negated = true := by decide +kernel
theorem kr_divisor : rowB names 80 r_divisor = true := by decide +kernel
theorem kr_tight : rowB names 80 r_tight = true := by decide +kernel
theorem kr_worth : rowB names 80 r_worth = true := by decide +kernel
theorem kr__law_bag : rowB names 80 r__law_bag = true := by decide +kernel
theorem kr__law_take : rowB names 80 r__law_take = true := by decide +kernel
theorem kr__law_some : rowB names 80 r__law_some = true := by decide +kernel
theorem kr__law_alike : rowB names 80 r__law_alike = true := by decide +kernel
theorem kr__law_gcd : rowB names 80 r__law_gcd = true := by decide +kernel
theorem kr_law : rowB names 80 r_law = true := by decide +kernel
end K9

namespace K9
open PySem EV
abbrev I (xs : List Int) : List PyData := xs.map .int
abbrev Ln (w : Int) (xs : List Int) : PyData := .tuple [.int w, .tuple (I xs)]
theorem call_eq {fuel k f : Nat} {fn : Fn} {args : List O} {o : O} {ρ : EV.Env} (hT : T[f]? = some fn) (hn : args.length = fn.np) (h : evSs ⟨callF T fuel k, args.map own?, fuel⟩ fn.body (args ++ List.replicate (fn.ns - fn.np) .hole) = .ok (.rt o) ρ) {ps : List O} (hp : backO args ρ = ps) :
    callF T fuel (k + 1) f args = .ok o ps := by
  subst hp
  simp only [callF, hT]
  unfold runFn
  rw [if_pos hn, h]
section
variable {c : CX} {ρ ρ' ρ1 ρ2 : EV.Env} {e a b : E} {o o' : O} {r as : As} {xs : List EV.Arg} {f : Op} {i : Nat} {d : PyData} {ds : List PyData} {s : S} {q q2 : Ss} {fl : Fl}
theorem ret_ok (h : evE c e ρ = .ok o ρ') : evS c (.ret e) ρ = .ok (.rt o) ρ' := by
  simp only [evS, bnd, h, pur]
theorem app_k (h : evA c as ρ = .ok xs ρ') (g : (peeks ρ' xs).bind (appF f) = some o) : evE c (.app f as) ρ = .ok o ρ' := by
  simp only [evE, bnd, h, g]
theorem ex_k (h : evE c e ρ = .ok o ρ1) (g : frz o = some o') (z : evA c r ρ1 = .ok xs ρ2) : evA c (.ex e r) ρ = .ok (.val o' :: xs) ρ2 := by
  simp only [evA, bnd, h, opt, g, z, pur]
theorem pl_k (h : livE ρ i = true) (z : evA c r ρ = .ok xs ρ2) : evA c (.pl i r) ρ = .ok (.ref i :: xs) ρ2 := by
  simp only [evA, bnd, h, z, pur, if_true]
theorem asg_k {tg : Tg} {u : Unit} (h : evE c e ρ = .ok o ρ1) (z : asg c.np tg o ρ1 = .ok u ρ2) : evS c (.asg tg e) ρ = .ok .nx ρ2 := by
  simp only [evS, bnd, h, z, pur]
theorem ss_nx (h : evS c s ρ = .ok .nx ρ1) (z : evSs c q ρ1 = .ok fl ρ2) : evSs c (.cons s q) ρ = .ok fl ρ2 := by
  simp only [evSs, bnd, h, z]
theorem ss_rt (h : evS c s ρ = .ok (.rt o) ρ1) : evSs c (.cons s q) ρ = .ok (.rt o) ρ1 := by
  simp only [evSs, bnd, h, pur]
theorem call_k {f : Nat} {os ps : List O} (h : evA c as ρ = .ok xs ρ1) (t : take xs ρ1 = some (os, ρ2)) (z : c.call f os = .ok o ps) (g : give xs ps ρ2 = ρ') : evE c (.call f as) ρ = .ok o ρ' := by
  subst g
  simp only [evE, bnd, h, callM, t, z]
theorem test_k {t : Bool} (h : evE c e ρ = .ok o ρ1) (z : (toD o).bind truth = some t) : testM (evE c e) ρ = .ok t ρ1 := by
  simp only [testM, bnd, h, opt, z]
theorem ifS_k {t : Bool} (h : testM (evE c e) ρ = .ok t ρ1) (z : (if t = true then evSs c q else evSs c q2) ρ1 = .ok fl ρ2) : evS c (.ite e q q2) ρ = .ok fl ρ2 := by
  simp only [evS, bnd, h, z]
theorem ifE_k {t : Bool} (h : testM (evE c e) ρ = .ok t ρ1) (z : (if t = true then evE c a else evE c b) ρ1 = .ok o ρ2) : evE c (.ite e a b) ρ = .ok o ρ2 := by
  simp only [evE, bnd, h, z]
end
section
variable {c : CX} {ρ ρ' ρ1 ρ2 ρ3 : EV.Env} {e a b : E} {o o' : O} {r as : As} {xs : List EV.Arg} {f : Op} {i p : Nat} {d : PyData} {ds : List PyData} {s : S} {q q2 : Ss} {fl : Fl}
theorem par_k {j : Nat} {o1 o2 o1' o2' : O} {u u2 : Unit} (h : evE c a ρ = .ok o1 ρ1) (g : frz o1 = some o1') (h2 : evE c b ρ1 = .ok o2 ρ2) (g2 : frz o2 = some o2') (z : setV c.np i o1' ρ2 = .ok u ρ3) (z2 : setV c.np j o2' ρ3 = .ok u2 ρ') : evS c (.par i j a b) ρ = .ok .nx ρ' := by
  simp only [evS, bnd, h, opt, g, h2, g2, z, z2, pur]
theorem setI_k {k : Int} {u : Unit} (h : evE c e ρ = .ok o ρ1) (g : toD o = some d) (l : livE ρ1 p = true) (h2 : evE c a ρ1 = .ok (.dat (.int k)) ρ2) (z : setItM p k d ρ2 = .ok u ρ3) : evS c (.setI p a e) ρ = .ok .nx ρ3 := by
  simp only [evS, bnd, h, opt, g, l, h2, z, pur, if_true]
theorem augI_k {k : Int} {x y w : PyData} {u : Unit} (l : livE ρ p = true) (h : evE c a ρ = .ok (.dat (.int k)) ρ1) (g : getItM p k ρ1 = .ok x ρ2) (h2 : evE c e ρ2 = .ok o ρ3) (g2 : toD o = some y) (g3 : (augF f x y).bind toD = some w) (z : setItM p k w ρ3 = .ok u ρ') : evS c (.augI f p a e) ρ = .ok .nx ρ' := by
  simp only [evS, bnd, h, opt, g, l, h2, g2, g3, z, pur, if_true]
theorem rng_k {m : Int} (h : evE c e ρ = .ok (.dat (.int m)) ρ1) (z : rngOk m = true) : evSrc c (.rng e) ρ = .ok (rngL 0 m.toNat) ρ1 := by
  simp only [evSrc, bnd, h, opt, z, if_true]
theorem seq_k (h : evE c e ρ = .ok o ρ1) (g : frz o = some o') (z : (toD o').bind seqD = some ds) : evSrc c (.seq e) ρ = .ok ds ρ1 := by
  simp only [evSrc, bnd, fro, h, opt, g, z]
theorem and_k {x : O} {t : Bool} (h : evE c a ρ = .ok x ρ1) (g : (toD x).bind truth = some t) (z : (if t then evE c b else bnd (opt (frz x)) pur) ρ1 = .ok o ρ2) : evE c (.and_ a b) ρ = .ok o ρ2 := by
  simp only [evE, bnd, h, opt, g]
  exact z
theorem or_k {x : O} {t : Bool} (h : evE c a ρ = .ok x ρ1) (g : (toD x).bind truth = some t) (z : (if t then bnd (opt (frz x)) pur else evE c b) ρ1 = .ok o ρ2) : evE c (.or_ a b) ρ = .ok o ρ2 := by
  simp only [evE, bnd, h, opt, g]
  exact z
theorem not_k {x : O} {t : Bool} (h : evE c a ρ = .ok x ρ1) (g : (toD x).bind truth = some t) : evE c (.not_ a) ρ = .ok (.dat (.bool (!t))) ρ1 := by
  simp only [evE, bnd, h, opt, g, pur]
theorem turn_k {np : List Bool} {own : List Nat} {tg : Tg} {elt : M O} {m : M Bool} {x : PyData} {u : Unit} (h : asg np tg (.dat x) ρ = .ok u ρ1) (z : elt ρ1 = .ok o ρ2) (g : toD o = some d) (w : wipeE own ρ2 = ρ') : turnM np own tg (if false = true then m else pur true) elt x ρ = .ok (some d) ρ' := by
  subst w
  simp only [turnM, bnd, h, z, opt, g, pur, if_true, Bool.false_eq_true, if_false]
theorem for_k {tg : Tg} {src : Src} {ys : List PyData} (h : evSrc c src ρ = .ok ys ρ1) (z : forL (fun x => bnd (asg c.np tg (.dat x)) fun _ => evSs c q) ys ρ1 = .ok fl ρ2) : evS c (.forS tg src q) ρ = .ok fl ρ2 := by
  simp only [evS, bnd, h]
  exact z
theorem mul_k {x y : Int} (h : (small x || small y) = true) : mulF (.int x) (.int y) = some (.dat (.int (x * y))) := if_pos h
theorem mod_k {x y : Int} (h : y ≠ 0) : modF (.int x) (.int y) = some (.dat (.int (x.fmod y))) := if_pos h
theorem fdiv_k {x y : Int} (h : y ≠ 0 ∧ y.natAbs < 1073741824) : fdivF (.int x) (.int y) = some (.dat (.int (x.fdiv y))) := if_pos h
theorem small_of {x : Int} (h : x.natAbs ≤ 1000000) : small x = true := by
  unfold small
  simp only [Bool.and_eq_true, decide_eq_true_eq]
  omega
end
theorem raised_eq {fuel k : Nat} {w b : Int} {xs : List Int} : callF T fuel (k + 1) 6 [.dat (Ln w xs), .dat (.int b)] = .ok (.dat (Ln (w + b) xs)) [.hole, .hole] := rfl
theorem plain_eq {fuel k : Nat} {m w : Int} (h : 1 ≤ m ∧ m ≤ 1000) : callF T fuel (k + 1) 1 [.dat (.int m), .dat (.int w)] = .ok (.dat (.tuple [.int w, .tuple (List.replicate m.toNat (.int 0))])) [.hole, .hole] := by
  have e : mulF (.tuple [.int 0]) (.int m) = some (.dat (.tuple (List.replicate m.toNat (.int 0)))) := if_pos h
  refine call_eq (f := 1) (args := [.dat (.int m), .dat (.int w)]) (ρ := [.dat (.int m), .dat (.int w)]) (fn := ⟨2, 2, c_plain⟩) rfl rfl ?_ rfl
  exact ss_rt (ret_ok (app_k (ex_k rfl rfl (ex_k (app_k rfl e) rfl rfl)) rfl))
theorem comp_eq {c : CX} {e : E} {tg : Tg} {src : Src} {ci : Bool} {cond : E} {own : List Nat} {ρ ρ1 ρ2 : EV.Env} {xs ds : List PyData} (h1 : evSrc c src ρ = .ok xs ρ1) (h2 : (own.all fun i => !own? (ρ1.getD i .hole)) = true)
    (h3 : compL (turnM c.np own tg (if ci = true then testM (evE c cond) else pur true) (evE c e)) xs (wipeE own ρ1) = .ok ds ρ2) (h4 : xs.length ≤ lim) : evE c (.comp e tg src ci cond own) ρ = .ok (.lst ds) (backE own ρ1 ρ2) := by
  simp only [evE]
  unfold compM
  simp only [h1, h2, h3, if_pos h4, if_true]
theorem compL_map {α : Type} {turn : PyData → M (Option PyData)} {ρ : EV.Env} (g : α → PyData) (f : α → PyData) : ∀ {xs : List α}, (∀ x ∈ xs, turn (g x) ρ = .ok (some (f x)) ρ) → compL turn (xs.map g) ρ = .ok (xs.map f) ρ
  | [], _ => rfl
  | x :: xs, h => by
    have h1 := h x (by simp)
    have h2 := compL_map g f (xs := xs) fun y hy => h y (by simp [hy])
    simp only [List.map_cons, compL, bnd, h1, h2, pur]
theorem zip_map {xs ys : List Int} : List.zipWith (fun x y => PyData.tuple [x, y]) (I xs) (I ys) = (xs.zip ys).map fun p => .tuple [.int p.1, .int p.2] := by
  simp [List.zipWith_map, List.zip, List.map_zipWith]
theorem added_eq {fuel k : Nat} {w v : Int} {xs ys : List Int} (hl : xs.length ≤ 100) : callF T fuel (k + 1) 3 [.dat (Ln w xs), .dat (Ln v ys)] = .ok (.dat (Ln (w + v) ((xs.zip ys).map fun p => p.1 + p.2))) [.hole, .hole] := by
  refine call_eq (f := 3) (args := [.dat (Ln w xs), .dat (Ln v ys)]) (ρ := [.dat (Ln w xs), .dat (Ln v ys), .hole, .hole]) (fn := ⟨2, 4, c_added⟩) rfl rfl ?_ rfl
  have hc := comp_eq (c := ⟨callF T fuel k, [false, false], fuel⟩) (e := .app .add (.pl 2 (.pl 3 .nil))) (tg := .tup [2, 3]) (src := .zip (.app .idx (.pl 0 (.ex (.con (.int 1)) .nil))) (.app .idx (.pl 1 (.ex (.con (.int 1)) .nil)))) (ci := false) (cond := .con .none) (own := [2, 3])
    (ρ := [.dat (Ln w xs), .dat (Ln v ys), .hole, .hole]) (ρ1 := [.dat (Ln w xs), .dat (Ln v ys), .hole, .hole]) (xs := (xs.zip ys).map fun p => .tuple [.int p.1, .int p.2]) (by rw [← zip_map]; rfl) rfl (compL_map _ (fun p => .int (p.1 + p.2)) fun p _ => rfl) (by
      simp only [List.length_map, List.length_zip]
      unfold lim
      omega)
  exact ss_rt (ret_ok (app_k (ex_k rfl rfl (ex_k (app_k (ex_k hc rfl rfl) rfl) rfl rfl)) (by simp only [Ln, I, List.map_map]; rfl)))

theorem times_eq {fuel k : Nat} {w v : Int} {xs : List Int} (hl : xs.length ≤ 100) (hv : small v = true) : callF T fuel (k + 1) 4 [.dat (.int v), .dat (Ln w xs)] = .ok (.dat (Ln (v * w) (xs.map fun x => v * x))) [.hole, .hole] := by
  have hm : ∀ x, mulF (.int v) (.int x) = some (.dat (.int (v * x))) := fun x => mul_k (by rw [hv]; rfl)
  refine call_eq (f := 4) (args := [.dat (.int v), .dat (Ln w xs)]) (ρ := [.dat (.int v), .dat (Ln w xs), .hole]) (fn := ⟨2, 3, c_times⟩) rfl rfl ?_ rfl
  have hc := comp_eq (c := ⟨callF T fuel k, [false, false], fuel⟩) (e := .app .mul (.pl 0 (.pl 2 .nil))) (tg := .nm 2) (src := .seq (.app .idx (.pl 1 (.ex (.con (.int 1)) .nil)))) (ci := false) (cond := .con .none) (own := [2])
    (ρ := [.dat (.int v), .dat (Ln w xs), .hole]) (ρ1 := [.dat (.int v), .dat (Ln w xs), .hole]) (xs := I xs) rfl rfl (compL_map _ (fun x => .int (v * x)) fun x _ => turn_k (u := ()) rfl (app_k rfl (hm x)) rfl rfl) (by
      simp only [List.length_map]
      unfold lim
      omega)
  exact ss_rt (ret_ok (app_k (ex_k (app_k rfl (hm w)) rfl (ex_k (app_k (ex_k hc rfl rfl) rfl) rfl rfl)) (by simp only [Ln, I, List.map_map]; rfl)))
theorem less_eq {fuel k : Nat} {w v : Int} {xs ys : List Int} (hl : xs.length ≤ 100) (hl2 : ys.length ≤ 100) : callF T fuel (k + 2) 5 [.dat (Ln w xs), .dat (Ln v ys)] = .ok (.dat (Ln (w + -1 * v) ((xs.zip (ys.map fun y => -1 * y)).map fun p => p.1 + p.2))) [.hole, .hole] := by
  refine call_eq (f := 5) (args := [.dat (Ln w xs), .dat (Ln v ys)]) (ρ := [.dat (Ln w xs), .dat (Ln v ys)]) (fn := ⟨2, 2, c_less⟩) rfl rfl ?_ rfl
  exact ss_rt (ret_ok (call_k (pl_k rfl (ex_k (call_k (f := 4) rfl rfl (times_eq (v := -1) hl2 (by decide)) rfl) rfl rfl)) rfl (added_eq hl) rfl))
theorem negated_eq {fuel k : Nat} {w : Int} {xs : List Int} (hl : xs.length ≤ 100) : callF T fuel (k + 2) 7 [.dat (Ln w xs)] = .ok (.dat (Ln (-1 * w + -1) (xs.map fun x => -1 * x))) [.hole] := by
  refine call_eq (f := 7) (args := [.dat (Ln w xs)]) (ρ := [.dat (Ln w xs)]) (fn := ⟨1, 1, c_negated⟩) rfl rfl ?_ rfl
  exact ss_rt (ret_ok (call_k (ex_k (call_k (f := 4) rfl rfl (times_eq (v := -1) hl (by decide)) rfl) rfl rfl) rfl (raised_eq (fuel := fuel) (k := k)) rfl))
theorem letter_eq {fuel k : Nat} {m at_ : Int} (h : 1 ≤ m ∧ m ≤ 1000) : callF T fuel (k + 1) 2 [.dat (.int m), .dat (.int at_)] = .ok (.dat (.tuple [.int 0, .tuple ((List.range m.toNat).map fun (k : Nat) => .int (if ((0 : Int) + k == at_) = true then 1 else 0))])) [.hole, .hole] := by
  refine call_eq (f := 2) (args := [.dat (.int m), .dat (.int at_)]) (ρ := [.dat (.int m), .dat (.int at_), .hole]) (fn := ⟨2, 3, c_letter⟩) rfl rfl ?_ rfl
  have hr : rngOk m = true := by
    unfold rngOk
    simp only [Bool.and_eq_true, decide_eq_true_eq]
    omega
  have hc := comp_eq (c := ⟨callF T fuel k, [false, false], fuel⟩) (e := .app .int (.ex (.app .eq (.pl 2 (.pl 1 .nil))) .nil)) (tg := .nm 2) (src := .rng (.var 0)) (ci := false) (cond := .con .none) (own := [2])
    (ρ := [.dat (.int m), .dat (.int at_), .hole]) (ρ1 := [.dat (.int m), .dat (.int at_), .hole]) (xs := rngL 0 m.toNat) (rng_k rfl hr) rfl (compL_map _ (fun (k : Nat) => .int (if ((0 : Int) + k == at_) = true then 1 else 0)) fun x _ => turn_k (u := ()) rfl rfl rfl rfl) (by
      unfold rngL
      simp only [List.length_map, List.length_range]
      unfold lim
      omega)
  exact ss_rt (ret_ok (app_k (ex_k rfl rfl (ex_k (app_k (ex_k hc rfl rfl) rfl) rfl rfl)) rfl))
theorem intsOf_map : ∀ xs : List Int, intsOf (xs.map PyData.int) = some xs
  | [] => rfl
  | x :: xs => by
    show (intsOf (xs.map PyData.int)).map (x :: ·) = _
    rw [intsOf_map xs]
    rfl
theorem worth_eq {fuel k : Nat} {w : Int} {xs ys : List Int} (hl : xs.length ≤ 100) (hs : ∀ x ∈ xs, small x = true) : callF T fuel (k + 1) 10 [.dat (Ln w xs), .dat (.tuple (I ys))] = .ok (.dat (.int (w + ((xs.zip ys).map fun p => p.1 * p.2).sum))) [.hole, .hole] := by
  refine call_eq (f := 10) (args := [.dat (Ln w xs), .dat (.tuple (I ys))]) (ρ := [.dat (Ln w xs), .dat (.tuple (I ys)), .hole, .hole]) (fn := ⟨2, 4, c_worth⟩) rfl rfl ?_ rfl
  have hc := comp_eq (c := ⟨callF T fuel k, [false, false], fuel⟩) (e := .app .mul (.pl 2 (.pl 3 .nil))) (tg := .tup [2, 3]) (src := .zip (.app .idx (.pl 0 (.ex (.con (.int 1)) .nil))) (.var 1)) (ci := false) (cond := .con .none) (own := [2, 3])
    (ρ := [.dat (Ln w xs), .dat (.tuple (I ys)), .hole, .hole]) (ρ1 := [.dat (Ln w xs), .dat (.tuple (I ys)), .hole, .hole]) (xs := (xs.zip ys).map fun p => .tuple [.int p.1, .int p.2]) (by rw [← zip_map]; rfl) rfl (compL_map _ (fun p => .int (p.1 * p.2)) fun p hp => turn_k (u := ()) rfl (app_k rfl (mul_k (by
      rw [hs p.1 (List.of_mem_zip hp).1]
      rfl))) rfl rfl) (by
      simp only [List.length_map, List.length_zip]
      unfold lim
      omega)
  have hsum : sumF (.list ((xs.zip ys).map fun p => PyData.int (p.1 * p.2))) = some (.dat (.int ((xs.zip ys).map fun p => p.1 * p.2).sum)) := by
    have := intsOf_map ((xs.zip ys).map fun p => p.1 * p.2)
    rw [List.map_map] at this
    show (intsOf _).map _ = _
    rw [show ((xs.zip ys).map fun p => PyData.int (p.1 * p.2)) = (xs.zip ys).map (PyData.int ∘ fun p => p.1 * p.2) from rfl, this]
    rfl
  exact ss_rt (ret_ok (app_k (ex_k rfl rfl (ex_k (app_k (ex_k hc rfl rfl) hsum) rfl rfl)) rfl))
end K9

namespace K9
open PySem EV
/-! ### common, _law_gcd -/
abbrev qG : E := .app .ne (.pl 1 (.ex (.con (.int 0)) .nil))
abbrev bG : Ss := .cons (.par 0 1 (.var 1) (.app .mod (.pl 0 (.pl 1 .nil)))) .nil
theorem ss_one {c : CX} {s : S} {ρ ρ1 : EV.Env} (h : evS c s ρ = .ok .nx ρ1) : evSs c (.cons s .nil) ρ = .ok .nx ρ1 := ss_nx h rfl
def eu : Nat → Int → Int → Int
  | 0, a, _ => a
  | n + 1, a, b => if b = 0 then a else eu n b (a % b)
theorem eu_le : ∀ (n : Nat) (a b m : Int), 0 ≤ a → 0 ≤ b → a ≤ m → b ≤ m → 0 ≤ eu n a b ∧ eu n a b ≤ m
  | 0, a, b, m, ha, hb, h1, h2 => ⟨ha, h1⟩
  | n + 1, a, b, m, ha, hb, h1, h2 => by
    unfold eu
    split
    · exact ⟨ha, h1⟩
    · rename_i hz
      have e3 : a % b < b := Int.emod_lt_of_pos a (by omega)
      exact eu_le n b (a % b) m hb (Int.emod_nonneg a hz) h2 (by omega)
theorem whl_nx {qq : M Bool} {bb : M Fl} {n : Nat} {ρ ρ1 ρ2 : EV.Env} {f : Fl} (h : qq ρ = .ok true ρ) (z : bb ρ = .ok .nx ρ1) (g : whlM qq bb n ρ1 = .ok f ρ2) : whlM qq bb (n + 1) ρ = .ok f ρ2 := by
  unfold whlM
  simp only [bnd, h, z, g, if_true]
theorem whl_end {qq : M Bool} {bb : M Fl} {n : Nat} {ρ : EV.Env} (h : qq ρ = .ok false ρ) : whlM qq bb (n + 1) ρ = .ok .nx ρ := by
  unfold whlM
  simp only [bnd, h, Bool.false_eq_true, if_false, pur]
theorem gcd_loop {c : CX} (hnp : c.np = [false, false]) : ∀ (n : Nat) (a b : Int), 0 ≤ a → 0 ≤ b → b.toNat < n → whlM (testM (evE c qG)) (evSs c bG) n [.dat (.int a), .dat (.int b)] = .ok .nx [.dat (.int (eu n a b)), .dat (.int 0)]
  | 0, _, _, _, _, h => by omega
  | n + 1, a, b, ha, hb, h => by
    have ht : testM (evE c qG) [.dat (.int a), .dat (.int b)] = .ok (!(b == 0)) [.dat (.int a), .dat (.int b)] := rfl
    unfold eu
    by_cases hz : b = 0
    · subst hz
      exact whl_end ht
    · have e0 : (!(b == 0)) = true := by
        rw [beq_eq_false_iff_ne.mpr hz]
        rfl
      rw [e0] at ht
      rw [if_neg hz]
      have e1 : a.fmod b = a % b := Int.fmod_eq_emod_of_nonneg a hb
      have e2 : 0 ≤ a % b := Int.emod_nonneg a hz
      have e3 : a % b < b := Int.emod_lt_of_pos a (by omega)
      refine whl_nx ht (ss_one (par_k (o1 := .dat (.int b)) (u := ()) (u2 := ()) (ρ3 := [.dat (.int b), .dat (.int b)]) rfl rfl (app_k rfl (mod_k hz)) rfl ?_ ?_)) (gcd_loop hnp n b (a % b) hb e2 (by omega))
      · rw [hnp]
        rfl
      · rw [hnp, e1]
        rfl
def ab (a : Int) : Int := if a < 0 then -a else a
theorem ab_nn (a : Int) : 0 ≤ ab a := by
  unfold ab
  split <;> omega
theorem ab_le {a m : Int} (h : a.natAbs ≤ m) : ab a ≤ m := by
  unfold ab
  split <;> omega
theorem whl_k {c : CX} {e : E} {q : Ss} {ρ ρ1 : EV.Env} {f : Fl} (h : whlM (testM (evE c e)) (evSs c q) c.fuel ρ = .ok f ρ1) : evS c (.whl e q) ρ = .ok f ρ1 := by
  simp only [evS]
  exact h
theorem common_eq {fuel k : Nat} {a b : Int} (hb : (ab b).toNat < fuel) : callF T fuel (k + 1) 0 [.dat (.int a), .dat (.int b)] = .ok (.dat (.int (eu fuel (ab a) (ab b)))) [.hole, .hole] := by
  refine call_eq (f := 0) (args := [.dat (.int a), .dat (.int b)]) (ρ := [.dat (.int (eu fuel (ab a) (ab b))), .dat (.int 0)]) (fn := ⟨2, 2, c_common⟩) rfl rfl ?_ rfl
  refine ss_nx (ρ1 := [.dat (.int (ab a)), .dat (.int (ab b))]) rfl (ss_nx (whl_k (gcd_loop rfl fuel _ _ (ab_nn a) (ab_nn b) hb)) (ss_rt rfl))
theorem gcd_eq {fuel k : Nat} {a b : Int} (hb : (ab b).toNat < fuel) : callF T fuel (k + 1) 15 [.dat (.int a), .dat (.int b)] = .ok (.dat (.int (eu fuel (ab a) (ab b)))) [.hole, .hole] := by
  refine call_eq (f := 15) (args := [.dat (.int a), .dat (.int b)]) (ρ := [.dat (.int (eu fuel (ab a) (ab b))), .dat (.int 0)]) (fn := ⟨2, 2, c__law_gcd⟩) rfl rfl ?_ rfl
  refine ss_nx (ρ1 := [.dat (.int (ab a)), .dat (.int (ab b))]) rfl (ss_nx (whl_k (gcd_loop rfl fuel _ _ (ab_nn a) (ab_nn b) hb)) (ss_rt rfl))
/-! ### divisor, tight -/
def dv (fuel : Nat) (xs : List Int) (a : Int) : Int := xs.foldl (fun f x => eu fuel (ab f) (ab x)) a
def Sm6 (xs : List Int) : Prop := ∀ x ∈ xs, x.natAbs ≤ 100
theorem dv_le {fuel : Nat} : ∀ (xs : List Int) (a : Int), Sm6 xs → 0 ≤ a → a ≤ 100 → 0 ≤ dv fuel xs a ∧ dv fuel xs a ≤ 100
  | [], a, _, h1, h2 => ⟨h1, h2⟩
  | x :: xs, a, h, h1, h2 => by
    have hx := h x (by simp)
    have := eu_le fuel (ab a) (ab x) 100 (ab_nn a) (ab_nn x) (ab_le (by omega)) (ab_le (by omega))
    exact dv_le xs _ (fun y hy => h y (by simp [hy])) this.1 this.2
theorem for_nx {body : PyData → M Fl} {x : PyData} {xs : List PyData} {ρ ρ1 ρ2 : EV.Env} {f : Fl} (h : body x ρ = .ok .nx ρ1) (z : forL body xs ρ1 = .ok f ρ2) : forL body (x :: xs) ρ = .ok f ρ2 := by
  unfold forL
  simp only [bnd, h, z]
theorem bnd_k {α β : Type} {m : M α} {f : α → M β} {a : α} {b : β} {ρ ρ1 ρ2 : EV.Env} (h : m ρ = .ok a ρ1) (z : f a ρ1 = .ok b ρ2) : bnd m f ρ = .ok b ρ2 := by
  unfold bnd
  rw [h]
  exact z
theorem divisor_loop {fuel k : Nat} {o : PyData} (hf : 200 ≤ fuel) : ∀ (xs : List Int) (a : Int) (z : O), Sm6 xs → ∃ z', forL (fun x => bnd (asg [false] (.nm 2) (.dat x)) fun _ => evSs ⟨callF T fuel (k + 1), [false], fuel⟩ (.cons (.asg (.nm 1) (.call 0 (.pl 1 (.pl 2 .nil)))) .nil)) (I xs) [.dat o, .dat (.int a), z] = .ok .nx [.dat o, .dat (.int (dv fuel xs a)), z']
  | [], a, z, _ => ⟨z, rfl⟩
  | x :: xs, a, z, h => by
    have hx := h x (by simp)
    have hb : (ab x).toNat < fuel := by
      have := ab_le (a := x) (m := 100) (by omega)
      omega
    obtain ⟨z', hz⟩ := divisor_loop hf xs (eu fuel (ab a) (ab x)) (.dat (.int x)) fun y hy => h y (by simp [hy])
    exact ⟨z', for_nx (bnd_k (a := ()) (ρ1 := [.dat o, .dat (.int a), .dat (.int x)]) rfl (ss_one (asg_k (u := ()) (call_k (f := 0) rfl rfl (common_eq hb) rfl) rfl))) hz⟩
theorem divisor_eq {fuel k : Nat} {w : Int} {xs : List Int} (hf : 200 ≤ fuel) (h : Sm6 xs) : callF T fuel (k + 2) 8 [.dat (Ln w xs)] = .ok (.dat (.int (dv fuel xs 0))) [.hole] := by
  obtain ⟨z', hz⟩ := divisor_loop (k := k) (o := Ln w xs) hf xs 0 .hole h
  refine call_eq (f := 8) (args := [.dat (Ln w xs)]) (ρ := [.dat (Ln w xs), .hole, z']) (fn := ⟨1, 3, c_divisor⟩) rfl rfl ?_ rfl
  exact ss_nx (ρ1 := [.dat (Ln w xs), .dat (.int 0), .hole]) rfl (ss_nx (for_k (ys := I xs) rfl hz) (ss_rt rfl))
def tg_ (fuel : Nat) (w : Int) (xs : List Int) : PyData := if dv fuel xs 0 < 2 then Ln w xs else Ln (w.fdiv (dv fuel xs 0)) (xs.map fun x => x.fdiv (dv fuel xs 0))
theorem tight_eq {fuel k : Nat} {w : Int} {xs : List Int} (hl : xs.length ≤ 100) (hf : 200 ≤ fuel) (h : Sm6 xs) : callF T fuel (k + 3) 9 [.dat (Ln w xs)] = .ok (.dat (tg_ fuel w xs)) [.hole] := by
  have hd := divisor_eq (k := k) (w := w) hf h
  obtain ⟨d1, d2⟩ := dv_le (fuel := fuel) xs 0 h (by omega) (by omega)
  unfold tg_
  generalize dv fuel xs 0 = p at *
  refine call_eq (f := 9) (args := [.dat (Ln w xs)]) (ρ := [.dat (Ln w xs), .dat (.int p), .hole]) (fn := ⟨1, 3, c_tight⟩) rfl rfl ?_ rfl
  refine ss_nx (asg_k (u := ()) (call_k (f := 8) rfl rfl hd rfl) rfl) (ss_rt (ret_ok (ifE_k (t := decide (p < 2)) (ρ1 := [.dat (Ln w xs), .dat (.int p), .hole]) rfl ?_)))
  by_cases hp : p < 2
  · rw [decide_eq_true hp, if_pos hp]
    rfl
  · rw [decide_eq_false hp, if_neg hp]
    have hm : ∀ x, fdivF (.int x) (.int p) = some (.dat (.int (x.fdiv p))) := fun x => fdiv_k ⟨by omega, by omega⟩
    have hc := comp_eq (c := ⟨callF T fuel (k + 2), [false], fuel⟩) (e := .app .fdiv (.pl 2 (.pl 1 .nil))) (tg := .nm 2) (src := .seq (.app .idx (.pl 0 (.ex (.con (.int 1)) .nil)))) (ci := false) (cond := .con .none) (own := [2])
      (ρ := [.dat (Ln w xs), .dat (.int p), .hole]) (ρ1 := [.dat (Ln w xs), .dat (.int p), .hole]) (xs := I xs) rfl rfl (compL_map _ (fun x => .int (x.fdiv p)) fun x _ => turn_k (u := ()) rfl (app_k rfl (hm x)) rfl rfl) (by
        simp only [List.length_map]
        unfold lim
        omega)
    exact app_k (ex_k (app_k rfl (hm w)) rfl (ex_k (app_k (ex_k hc rfl rfl) rfl) rfl rfl)) (by simp only [Ln, I, List.map_map]; rfl)
end K9

namespace K9
open PySem EV
/-! ### data that repr and == take -/
structure Gd (b p : Nat) (d : PyData) : Prop where
  ls : d.leavesShort 13 = true
  sh : d.showable = true
  nd : d.hasDict = false
  cl : d.canLay0 = true
  bk : d.bulk ≤ b
  dp : d.depth ≤ p
structure Gds (b p : Nat) (ds : List PyData) : Prop where
  ls : PyData.leavesShortAll 13 ds = true
  sh : PyData.showableAll ds = true
  nd : PyData.hasDictAll ds = false
  cl : PyData.canLayAll0 ds = true
  bk : PyData.bulkAll ds ≤ b
  dp : PyData.depthAll ds ≤ p
theorem gd_int {i : Int} (h : i.natAbs < 10 ^ 12) : Gd 0 0 (.int i) := by
  have h1 : PyData.intsShortAll 13 ([i].map .int) = true := PyData.intsShortAll_ints [i] fun n hn => by
    obtain rfl := List.mem_singleton.mp hn
    exact h
  have h2 : (PyData.int i).leavesShort 13 = true := by
    have h3 : (PyData.intsShort 13 (.int i) && true) = true := h1
    rw [Bool.and_true] at h3
    exact h3
  refine ⟨h2, ?_, rfl, rfl, Nat.le_refl _, Nat.le_refl _⟩
  show decide (i.natAbs.log2 < 1920) = true
  refine decide_eq_true ?_
  by_cases z : i.natAbs = 0
  · rw [z]
    decide
  · refine (Nat.log2_lt z).mpr (Nat.lt_of_lt_of_le h ?_)
    exact Nat.le_trans (by decide : 10 ^ 12 ≤ 2 ^ 40) (Nat.pow_le_pow_right (by decide) (by decide))
theorem gds_nil : Gds 0 0 [] := ⟨rfl, rfl, rfl, rfl, Nat.le_refl _, Nat.le_refl _⟩
theorem gds_cons {b p b' p' : Nat} {d : PyData} {ds : List PyData} (h : Gd b p d) (g : Gds b' p' ds) : Gds (b + 1 + b') (max p p') (d :: ds) := by
  refine ⟨?_, ?_, ?_, ?_, ?_, ?_⟩
  · show (d.leavesShort 13 && PyData.leavesShortAll 13 ds) = true
    rw [h.ls, g.ls]; rfl
  · show (d.showable && PyData.showableAll ds) = true
    rw [h.sh, g.sh]; rfl
  · show (d.hasDict || PyData.hasDictAll ds) = false
    rw [h.nd, g.nd]; rfl
  · show (d.canLay0 && PyData.canLayAll0 ds) = true
    rw [h.cl, g.cl]; rfl
  · show d.bulk + 1 + PyData.bulkAll ds ≤ _
    have := h.bk
    have := g.bk
    omega
  · show max d.depth (PyData.depthAll ds) ≤ _
    have := h.dp
    have := g.dp
    omega
theorem gd_tup {b p : Nat} {ds : List PyData} (g : Gds b p ds) : Gd b (p + 1) (.tuple ds) := ⟨g.ls, g.sh, g.nd, g.cl, g.bk, Nat.succ_le_succ g.dp⟩
theorem gd_lst {b p : Nat} {ds : List PyData} (g : Gds b p ds) : Gd b (p + 1) (.list ds) := ⟨g.ls, g.sh, g.nd, g.cl, g.bk, Nat.succ_le_succ g.dp⟩
theorem gds_le {b p b' p' : Nat} {ds : List PyData} (g : Gds b p ds) (h : b ≤ b') (h' : p ≤ p') : Gds b' p' ds := ⟨g.ls, g.sh, g.nd, g.cl, Nat.le_trans g.bk h, Nat.le_trans g.dp h'⟩
theorem gd_le {b p b' p' : Nat} {d : PyData} (g : Gd b p d) (h : b ≤ b') (h' : p ≤ p') : Gd b' p' d := ⟨g.ls, g.sh, g.nd, g.cl, Nat.le_trans g.bk h, Nat.le_trans g.dp h'⟩
theorem gds_all {α : Type} {f : α → PyData} : ∀ {xs : List α}, (∀ x ∈ xs, Gd 0 0 (f x)) → Gds xs.length 0 (xs.map f)
  | [], _ => gds_nil
  | x :: xs, h => gds_le (gds_cons (h x (by simp)) (gds_all fun y hy => h y (by simp [hy]))) (by simp; omega) (by simp)
theorem gd_ln {w : Int} {xs : List Int} (hw : w.natAbs < 10 ^ 12) (h : ∀ x ∈ xs, x.natAbs < 10 ^ 12) (hl : xs.length ≤ 100) : Gd 110 2 (Ln w xs) :=
  gd_le (gd_tup (gds_cons (gd_int hw) (gds_cons (gd_tup (gds_all fun x hx => gd_int (h x hx))) gds_nil))) (by omega) (by simp)
theorem alike_eq {fuel k b p : Nat} {d : PyData} (g : Gd b p d) (hb : b ≤ 10000) (hp : p ≤ 50) : callF T fuel (k + 1) 14 [.dat d, .dat d] = .ok (.dat (.bool true)) [.hole, .hole] := by
  have hs : shows d = true := by
    unfold shows
    rw [g.ls, g.sh, g.nd, decide_eq_true (show d.bulk ≤ 2 ^ 20 by have := g.bk; omega), decide_eq_true (show d.depth ≤ 60 by have := g.dp; omega)]
    rfl
  have hr : reprF d = some (.dat (.str d.shown)) := if_pos hs
  have hsh : SeqAt.shaped d = true := by
    unfold SeqAt.shaped
    rw [g.cl, decide_eq_true (show d.depth ≤ 64 by have := g.dp; omega)]
    rfl
  have he : eqD d d = some true := by
    have e1 := SeqAt.eqv_refl d g.cl
    cases d with
    | int i => exact congrArg some (beq_self_eq_true i)
    | str i => exact congrArg some (beq_self_eq_true i)
    | bool i => exact congrArg some (beq_self_eq_true i)
    | none => rfl
    | list xs =>
      show (if (SeqAt.shaped _ && SeqAt.shaped _) = true then _ else _) = _
      rw [hsh, e1]
      rfl
    | tuple xs =>
      show (if (SeqAt.shaped _ && SeqAt.shaped _) = true then _ else _) = _
      rw [hsh, e1]
      rfl
    | dict kvs => exact nomatch g.cl
  have h1 : ((eqD d d).map fun k => O.dat (.bool k)) = some (.dat (.bool true)) := by rw [he]; rfl
  have h2 : ((eqD (.str d.shown) (.str d.shown)).map fun k => O.dat (.bool k)) = some (.dat (.bool true)) := congrArg (fun t => some (O.dat (.bool t))) (beq_self_eq_true d.shown)
  refine call_eq (f := 14) (args := [.dat d, .dat d]) (ρ := [.dat d, .dat d]) (fn := ⟨2, 2, c__law_alike⟩) rfl rfl ?_ rfl
  exact ss_rt (ret_ok (and_k (x := .dat (.bool true)) (app_k (ex_k (app_k rfl hr) rfl (ex_k (app_k rfl hr) rfl rfl)) h2) rfl (app_k rfl h1)))
/-! ### the bag -/
abbrev Bl (b0 b1 b2 : Int) (cs : List Int) : List PyData := [.int b0, .int b1, .int b2, .list (I cs)]
structure Bag (b0 b1 b2 : Int) (cs : List Int) : Prop where
  h0 : 0 ≤ b0
  h1 : 0 ≤ b1
  h1' : b1 < 2147483647
  h3 : ∀ c ∈ cs, 0 ≤ c
  len : cs.length ≤ 100
theorem cut_sub {α : Type} {xs : List α} {lo hi : Option Int} {x : α} (h : x ∈ cutL xs lo hi) : x ∈ xs := List.mem_of_mem_drop (List.mem_of_mem_take h)
theorem cut_map {xs : List Int} {lo hi : Option Int} : cutL (I xs) lo hi = I (cutL xs lo hi) := by
  unfold cutL
  rw [List.length_map, ← List.map_drop, ← List.map_take]
theorem cut_len {α : Type} {xs : List α} {lo hi : Option Int} : (cutL xs lo hi).length ≤ xs.length := by
  unfold cutL
  rw [List.length_take, List.length_drop]
  omega
theorem first_cell {cs : List Int} (h : ∀ c ∈ cs, 0 ≤ c) : ∃ c : Int, 0 ≤ c ∧ idxF (.list (I cs ++ [.int 0])) (.int 0) = some (.dat (.int c)) := by
  cases cs with
  | nil => exact ⟨0, Int.le_refl 0, rfl⟩
  | cons c r =>
    refine ⟨c, h c (by simp), ?_⟩
    show (L2.atI (PyData.int c :: (I r ++ [PyData.int 0])) 0).map O.dat = _
    have e : L2.ixN (PyData.int c :: (I r ++ [PyData.int 0])).length 0 = some 0 := by
      unfold L2.ixN
      rw [if_pos (by omega), if_pos (by simp; omega)]
      rfl
    unfold L2.atI
    rw [e]
    rfl
theorem add_list1 {xs ys : List PyData} (h : xs.length ≤ 1000) (h2 : ys.length ≤ 1000) : addF (.list xs) (.list ys) = some (.lst (xs ++ ys)) := if_pos (by
  unfold lim
  omega)
theorem fmod_in (x : Int) {m : Int} (h : 0 < m) : 0 ≤ x.fmod m ∧ x.fmod m < m := ⟨Int.fmod_nonneg_of_pos x h, Int.fmod_lt_of_pos x h⟩
def hd_ : Ss → S
  | .cons s _ => s
  | .nil => .brk
theorem take_s1 {call : Nat → List O → FR} {fuel : Nat} {b0 b1 b2 m : Int} {cs : List Int} (B : Bag b0 b1 b2 cs) : ∃ b0' b1' b2' x2 x3,
    evS ⟨call, [true, false], fuel⟩ (hd_ c__law_take) [.lst (Bl b0 b1 b2 cs), .dat (.int m), .hole, .hole, .hole, .hole, .hole] = .ok .nx [.lst (Bl b0' b1' b2' cs), .dat (.int m), x2, x3, .hole, .hole, .hole] ∧ Bag b0' b1' b2' cs := by
  by_cases hz : (b0 == 0) = true
  · have e_slc : slcF true false [.list (I cs), .int b2] = some (.lst (I (cutL cs (some b2) none))) := congrArg (fun z => some (O.lst z)) cut_map
    obtain ⟨c, hc, e_idx⟩ := first_cell (cs := cutL cs (some b2) none) fun c hc => B.h3 c (cut_sub hc)
    have e_add : addF (.list (I (cutL cs (some b2) none))) (.list [.int 0]) = some (.lst (I (cutL cs (some b2) none) ++ [.int 0])) := add_list1 (by
      rw [List.length_map]
      have := cut_len (xs := cs) (lo := some b2) (hi := none)
      have := B.len
      omega) (by decide)
    have t1 : ∃ t, testM (evE ⟨call, [true, false], fuel⟩ (.app .ge (.pl 2 (.ex (.app .pow (.ex (.con (.int 10)) (.ex (.con (.int 18)) .nil))) .nil)))) [.lst (Bl b0 b1 (b2 + 1) cs), .dat (.int m), .dat (.int c), .hole, .hole, .hole, .hole] = .ok t [.lst (Bl b0 b1 (b2 + 1) cs), .dat (.int m), .dat (.int c), .hole, .hole, .hole, .hole] := ⟨_, rfl⟩
    obtain ⟨t, ht⟩ := t1
    have key : ∀ b0' : Int, 0 ≤ b0' → ∃ b1' x3, evSs ⟨call, [true, false], fuel⟩ (.cons (.asg (.nm 3) (.app .add (.ex (.app .add (.ex (.app .mul (.ex (.app .idx (.pl 0 (.ex (.con (.int 1)) .nil))) (.ex (.con (.int 48271)) .nil))) (.ex (.app .mod (.ex (.app .int (.pl 2 .nil)) (.ex (.con (.int 2147483647)) .nil))) .nil))) (.ex (.app .mul (.ex (.con (.int 7919)) (.ex (.app .idx (.pl 0 (.ex (.con (.int 2)) .nil))) .nil))) .nil)))) (.cons (.setI 0 (.con (.int 1)) (.app .mod (.ex (.app .int (.pl 3 .nil)) (.ex (.con (.int 2147483647)) .nil)))) .nil))
        [.lst (Bl b0' b1 (b2 + 1) cs), .dat (.int m), .dat (.int c), .hole, .hole, .hole, .hole] = .ok .nx [.lst (Bl b0' b1' (b2 + 1) cs), .dat (.int m), .dat (.int c), x3, .hole, .hole, .hole] ∧ Bag b0' b1' (b2 + 1) cs := fun b0' h0 => by
      have hm : ∀ z : Int, mulF (.int z) (.int 48271) = some (.dat (.int (z * 48271))) := fun z => mul_k (by rw [show small 48271 = true from rfl]; exact Bool.or_true _)
      have hm2 : ∀ z : Int, mulF (.int 7919) (.int z) = some (.dat (.int (7919 * z))) := fun z => mul_k rfl
      refine ⟨_, _, ss_nx (asg_k (u := ()) (app_k (ex_k (app_k (ex_k (app_k rfl (hm b1)) rfl (ex_k rfl rfl rfl)) rfl) rfl (ex_k (app_k rfl (hm2 (b2 + 1))) rfl rfl)) rfl) rfl) (ss_one (setI_k (u := ()) (k := 1) rfl rfl rfl rfl rfl)), ⟨h0, ?_, ?_, B.h3, B.len⟩⟩
      · exact (fmod_in _ (by decide)).1
      · exact (fmod_in _ (by decide)).2
    cases t with
    | true =>
      obtain ⟨b1', x3, k1, k2⟩ := key c hc
      exact ⟨c, b1', b2 + 1, _, x3, ifS_k (t := (b0 == 0)) rfl (by
        rw [hz]
        exact ss_nx (asg_k (u := ()) (app_k (ex_k (app_k (ex_k (app_k rfl e_slc) rfl (ex_k rfl rfl rfl)) e_add) rfl rfl) e_idx) rfl) (ss_nx (augI_k (u := ()) (k := 2) rfl rfl rfl rfl rfl rfl rfl) (ss_nx (ifS_k ht (ss_one (setI_k (u := ()) (k := 0) rfl rfl rfl rfl rfl))) k1))), k2⟩
    | false =>
      obtain ⟨b1', x3, k1, k2⟩ := key b0 B.h0
      exact ⟨b0, b1', b2 + 1, _, x3, ifS_k (t := (b0 == 0)) rfl (by
        rw [hz]
        exact ss_nx (asg_k (u := ()) (app_k (ex_k (app_k (ex_k (app_k rfl e_slc) rfl (ex_k rfl rfl rfl)) e_add) rfl rfl) e_idx) rfl) (ss_nx (augI_k (u := ()) (k := 2) rfl rfl rfl rfl rfl rfl rfl) (ss_nx (ifS_k ht rfl) k1))), k2⟩
  · refine ⟨b0, b1, b2, .hole, .hole, ifS_k (t := (b0 == 0)) rfl ?_, B⟩
    rw [show (b0 == 0) = false by simpa using hz]
    rfl
theorem take_eq {fuel k : Nat} {b0 b1 b2 m : Int} {cs : List Int} (B : Bag b0 b1 b2 cs) (hm : 1 ≤ m ∧ m ≤ 1000) : ∃ d b0' b1' b2', callF T fuel (k + 1) 12 [.lst (Bl b0 b1 b2 cs), .dat (.int m)] = .ok (.dat (.int d)) [.lst (Bl b0' b1' b2' cs), .hole] ∧ 0 ≤ d ∧ d < m ∧ Bag b0' b1' b2' cs := by
  obtain ⟨c0, c1, c2, x2, x3, e2, B'⟩ := take_s1 (call := callF T fuel k) (fuel := fuel) (m := m) B
  have hmod : ∀ x : Int, modF (.int x) (.int m) = some (.dat (.int (x.fmod m))) := fun x => mod_k (by omega)
  have hdiv : ∀ x : Int, fdivF (.int x) (.int m) = some (.dat (.int (x.fdiv m))) := fun x => fdiv_k (by omega)
  by_cases hp : 0 < c0
  · refine ⟨c0.fmod m, c0.fdiv m, c1, c2, call_eq (f := 12) (args := [.lst (Bl b0 b1 b2 cs), .dat (.int m)]) (ρ := [.lst (Bl (c0.fdiv m) c1 c2 cs), .dat (.int m), x2, x3, .hole, .hole, .hole]) (fn := ⟨2, 7, c__law_take⟩) rfl rfl ?_ rfl, (fmod_in _ (by omega)).1, (fmod_in _ (by omega)).2, ⟨?_, B'.h1, B'.h1', B'.h3, B'.len⟩⟩
    · refine ss_nx e2 (ss_rt (ifS_k (t := decide (0 < c0)) rfl ?_))
      rw [decide_eq_true hp]
      exact ss_nx (asg_k (u := ()) (app_k rfl (hmod c0)) rfl) (ss_nx (setI_k (u := ()) (k := 0) (app_k rfl (hdiv c0)) rfl rfl rfl rfl) (ss_rt rfl))
    · exact Int.fdiv_nonneg B'.h0 (by omega)
  · have hn : decide (0 < c0) = false := decide_eq_false hp
    have g1 : ∀ x : Int, mulF (.int x) (.int 39373) = some (.dat (.int (x * 39373))) := fun x => mul_k (by rw [show small 39373 = true from rfl]; exact Bool.or_true _)
    have g2 : ∀ x : Int, mulF (.int x) (.int 30011) = some (.dat (.int (x * 30011))) := fun x => mul_k (by rw [show small 30011 = true from rfl]; exact Bool.or_true _)
    obtain ⟨g, hg⟩ : ∃ g, g = ((c1 + 1) * 39373).fmod 1000000007 := ⟨_, rfl⟩
    have g3 : mulF (.int g) (.int g) = some (.dat (.int (g * g))) := mul_k (by
      have := fmod_in ((c1 + 1) * 39373) (m := 1000000007) (by decide)
      have : small g = true := by
        unfold small
        simp only [Bool.and_eq_true, decide_eq_true_eq]
        omega
      rw [this]
      rfl)
    refine ⟨(((g * g).fmod 998244353 * 30011).fmod 998244353 |>.fdiv 7).fmod m, c0, c1, c2, call_eq (f := 12) (args := [.lst (Bl b0 b1 b2 cs), .dat (.int m)]) (ρ := [.lst (Bl c0 c1 c2 cs), .dat (.int m), x2, x3, .hole, .dat (.int g), .dat (.int (((g * g).fmod 998244353 * 30011).fmod 998244353))]) (fn := ⟨2, 7, c__law_take⟩) rfl rfl ?_ rfl, (fmod_in _ (by omega)).1, (fmod_in _ (by omega)).2, B'⟩
    refine ss_nx e2 (ss_nx (ρ1 := [.lst (Bl c0 c1 c2 cs), .dat (.int m), x2, x3, .hole, .hole, .hole]) (ifS_k (t := decide (0 < c0)) rfl (by
      rw [hn]
      rfl)) ?_)
    refine ss_nx (ρ1 := [.lst (Bl c0 c1 c2 cs), .dat (.int m), x2, x3, .hole, .dat (.int g), .hole]) (asg_k (u := ()) (o := .dat (.int g)) (app_k (ex_k (app_k (ex_k (app_k rfl (g1 (c1 + 1))) rfl rfl) rfl) rfl (ex_k rfl rfl rfl)) (by rw [hg]; rfl)) rfl) ?_
    refine ss_nx (ρ1 := [.lst (Bl c0 c1 c2 cs), .dat (.int m), x2, x3, .hole, .dat (.int g), .dat (.int (((g * g).fmod 998244353 * 30011).fmod 998244353))]) (asg_k (u := ()) (app_k (ex_k (app_k (ex_k (app_k (ex_k (app_k (ex_k (app_k (ex_k (app_k rfl g3) rfl rfl) rfl) rfl (ex_k rfl rfl rfl)) rfl) rfl (ex_k rfl rfl rfl)) (g2 _)) rfl rfl) rfl) rfl (ex_k rfl rfl rfl)) rfl) rfl) ?_
    exact ss_rt (ret_ok (app_k rfl (hmod _)))
theorem some_eq {fuel k : Nat} {b0 b1 b2 : Int} {cs : List Int} {ds : List PyData} (B : Bag b0 b1 b2 cs) (hd : ds ≠ []) (hl : ds.length ≤ 1000) : ∃ d b0' b1' b2', callF T fuel (k + 2) 13 [.lst (Bl b0 b1 b2 cs), .dat (.list ds)] = .ok (.dat d) [.lst (Bl b0' b1' b2' cs), .hole] ∧ d ∈ ds ∧ Bag b0' b1' b2' cs := by
  have hlen : 1 ≤ ds.length := List.length_pos_iff.mpr hd
  obtain ⟨d, c0, c1, c2, e1, h1, h2, B'⟩ := take_eq (fuel := fuel) (k := k) (m := (ds.length : Int)) B (by omega)
  have hi : d.toNat < ds.length := by omega
  have e2 : idxF (.list ds) (.int d) = some (.dat ds[d.toNat]) := by
    show (L2.atI ds d).map O.dat = _
    unfold L2.atI L2.ixN
    rw [if_pos h1, if_pos h2]
    show (ds[d.toNat]?).map O.dat = _
    rw [List.getElem?_eq_getElem hi]
    rfl
  refine ⟨ds[d.toNat], c0, c1, c2, call_eq (f := 13) (args := [.lst (Bl b0 b1 b2 cs), .dat (.list ds)]) (ρ := [.lst (Bl c0 c1 c2 cs), .dat (.list ds)]) (fn := ⟨2, 2, c__law_some⟩) rfl rfl ?_ rfl, List.getElem_mem hi, B'⟩
  exact ss_rt (ret_ok (app_k (pl_k rfl (ex_k (call_k (f := 12) rfl rfl e1 rfl) rfl rfl)) e2))
end K9

namespace K9
open PySem EV
theorem bag_eq {fuel k : Nat} {ns : List Int} (hl : ns.length ≤ 63) : ∃ cs, callF T fuel (k + 1) 11 [.dat (.list (I ns))] = .ok (.lst (Bl 0 1234567891 0 cs)) [.hole] ∧ Bag 0 1234567891 0 cs := by
  have e_slc : slcF false true [.list (I ns), .int 63] = some (.lst (I (cutL ns none (some 63)))) := congrArg (fun z => some (O.lst z)) cut_map
  have len := cut_len (xs := ns) (lo := none) (hi := some 63)
  generalize cutL ns none (some 63) = ms at e_slc len
  have hc := comp_eq (c := ⟨callF T fuel k, [false], fuel⟩) (e := .app .abs (.pl 1 .nil)) (tg := .nm 1) (src := .seq (.app (.slc false true) (.pl 0 (.ex (.con (.int 63)) .nil)))) (ci := false) (cond := .con .none) (own := [1])
    (ρ := [.dat (.list (I ns)), .hole]) (ρ1 := [.dat (.list (I ns)), .hole]) (xs := I ms) (seq_k (app_k rfl e_slc) rfl rfl) rfl (compL_map _ (fun x => .int (ab x)) fun x _ => turn_k (u := ()) rfl rfl rfl rfl) (by
      rw [List.length_map]
      unfold lim
      omega)
  refine ⟨ms.map ab, call_eq (f := 11) (args := [.dat (.list (I ns))]) (ρ := [.dat (.list (I ns)), .hole]) (fn := ⟨1, 2, c__law_bag⟩) rfl rfl ?_ rfl, ⟨by decide, by decide, by decide, fun c hc => ?_, by rw [List.length_map]; omega⟩⟩
  · exact ss_rt (ret_ok (app_k (ex_k rfl rfl (ex_k rfl rfl (ex_k rfl rfl (ex_k hc rfl rfl)))) (by simp only [Bl, I, List.map_map]; rfl)))
  · obtain ⟨x, _, rfl⟩ := List.mem_map.mp hc
    exact ab_nn x
theorem comp_k {c : CX} {e : E} {tg : Tg} {src : Src} {ci : Bool} {cond : E} {own : List Nat} {ρ ρ1 ρ2 ρ' : EV.Env} {xs ds : List PyData} (h1 : evSrc c src ρ = .ok xs ρ1) (h2 : (own.all fun i => !own? (ρ1.getD i .hole)) = true)
    (h3 : compL (turnM c.np own tg (if ci = true then testM (evE c cond) else pur true) (evE c e)) xs (wipeE own ρ1) = .ok ds ρ2) (h4 : xs.length ≤ lim) (h5 : backE own ρ1 ρ2 = ρ') : evE c (.comp e tg src ci cond own) ρ = .ok (.lst ds) ρ' := by
  subst h5
  exact comp_eq h1 h2 h3 h4
/-! ### the law's lap -/
abbrev St (s b l m o1 o2 h7 n f a bb d t k p q : O) : EV.Env := [s, b, l, m, o1, o2, .hole, h7, n, f, a, bb, .hole, .hole, .hole, d, t, k, p, q]
abbrev C (fuel k : Nat) : CX := ⟨callF T fuel (k + 6), [false], fuel⟩
def tl_ : Ss → Ss
  | .cons _ q => q
  | .nil => .nil
def bd_ : S → Ss
  | .forS _ _ b => b
  | _ => .nil
def lb : Ss := bd_ (hd_ (tl_ c_law))
def nth : Nat → Ss → S
  | 0, b => hd_ b
  | n + 1, b => nth n (tl_ b)
theorem compL_ex {turn : PyData → M (Option PyData)} {P : EV.Env → Prop} {Rr : PyData → Prop} : ∀ (xs : List PyData), (∀ x ∈ xs, ∀ ρ, P ρ → ∃ d ρ', turn x ρ = .ok (some d) ρ' ∧ P ρ' ∧ Rr d) → ∀ ρ, P ρ → ∃ ds ρ', compL turn xs ρ = .ok ds ρ' ∧ P ρ' ∧ ds.length = xs.length ∧ ∀ d ∈ ds, Rr d
  | [], _, ρ, p => ⟨[], ρ, rfl, p, rfl, fun _ z => nomatch z⟩
  | x :: xs, h, ρ, p => by
    obtain ⟨d, ρ1, h1, p1, r1⟩ := h x (by simp) ρ p
    obtain ⟨ds, ρ2, h2, p2, l2, r2⟩ := compL_ex xs (fun y hy => h y (by simp [hy])) ρ1 p1
    refine ⟨d :: ds, ρ2, ?_, p2, congrArg (· + 1) l2, fun z hz => ?_⟩
    · simp only [compL, bnd, h1, h2, pur]
    · rcases List.mem_cons.mp hz with rfl | hz
      · exact r1
      · exact r2 z hz
theorem ints_all {Q : Int → Prop} : ∀ {ds : List PyData}, (∀ d ∈ ds, ∃ x : Int, d = .int x ∧ Q x) → ∃ xs : List Int, ds = I xs ∧ ∀ x ∈ xs, Q x
  | [], _ => ⟨[], rfl, fun _ z => nomatch z⟩
  | d :: ds, h => by
    obtain ⟨x, rfl, q⟩ := h d (by simp)
    obtain ⟨xs, rfl, r⟩ := ints_all (ds := ds) fun e he => h e (by simp [he])
    refine ⟨x :: xs, rfl, fun y hy => ?_⟩
    rcases List.mem_cons.mp hy with rfl | hy
    · exact q
    · exact r y hy
section
variable {fuel k : Nat} {b0 b1 b2 m : Int} {cs : List Int} {s l o1 o2 h7 n f a bb d t kk p q : O}
theorem rngOk_of (hm : 1 ≤ m ∧ m ≤ 1000) : rngOk m = true := by
  unfold rngOk
  simp only [Bool.and_eq_true, decide_eq_true_eq]
  omega
theorem rng_len {i : Int} {j : Nat} : (rngL i j).length = j := by simp [rngL]
abbrev lst7 : As := .ex (.con (.int 0)) (.ex (.con (.int 0)) (.ex (.con (.int 1)) (.ex (.app .neg (.ex (.con (.int 1)) .nil)) (.ex (.con (.int 2)) (.ex (.app .neg (.ex (.con (.int 4)) .nil)) (.ex (.con (.int 6)) .nil))))))
theorem in_some (B : Bag b0 b1 b2 cs) (hm : 1 ≤ m ∧ m ≤ 1000) : ∃ xs b0' b1' b2', evE (C fuel k) (.comp (.call 13 (.pl 1 (.ex (.app .lst lst7) .nil))) (.nm 6) (.rng (.var 3)) false (.con .none) [6]) (St s (.lst (Bl b0 b1 b2 cs)) l (.dat (.int m)) o1 o2 h7 n f a bb d t kk p q) =
    .ok (.lst (I xs)) (St s (.lst (Bl b0' b1' b2' cs)) l (.dat (.int m)) o1 o2 h7 n f a bb d t kk p q) ∧ xs.length = m.toNat ∧ (∀ x ∈ xs, x.natAbs ≤ 6) ∧ Bag b0' b1' b2' cs := by
  obtain ⟨ds, ρ2, h1, ⟨c0, c1, c2, rfl, B2⟩, h3, h4⟩ := compL_ex (turn := turnM [false] [6] (.nm 6) (if false = true then testM (evE (C fuel k) (.con .none)) else pur true) (evE (C fuel k) (.call 13 (.pl 1 (.ex (.app .lst lst7) .nil)))))
    (P := fun ρ => ∃ b0' b1' b2', ρ = St s (.lst (Bl b0' b1' b2' cs)) l (.dat (.int m)) o1 o2 h7 n f a bb d t kk p q ∧ Bag b0' b1' b2' cs) (Rr := fun d => ∃ x : Int, d = .int x ∧ x.natAbs ≤ 6) (rngL 0 m.toNat) (fun x _ ρ ⟨b0', b1', b2', e, B'⟩ => by
      subst e
      obtain ⟨y, c0, c1, c2, e1, hy, B2⟩ := some_eq (fuel := fuel) (k := k + 4) (ds := [.int 0, .int 0, .int 1, .int (-1), .int 2, .int (-4), .int 6]) B' (by simp) (by simp)
      refine ⟨y, St s (.lst (Bl c0 c1 c2 cs)) l (.dat (.int m)) o1 o2 h7 n f a bb d t kk p q, turn_k (u := ()) rfl (call_k (f := 13) rfl rfl e1 rfl) rfl rfl, ⟨c0, c1, c2, rfl, B2⟩, ?_⟩
      simp only [List.mem_cons, List.not_mem_nil, or_false] at hy
      rcases hy with rfl | rfl | rfl | rfl | rfl | rfl | rfl <;> exact ⟨_, rfl, by decide⟩) _ ⟨b0, b1, b2, rfl, B⟩
  obtain ⟨xs, rfl, h5⟩ := ints_all h4
  refine ⟨xs, c0, c1, c2, comp_k (rng_k rfl (rngOk_of hm)) rfl h1 (by rw [rng_len]; unfold lim; omega) rfl, ?_, h5, B2⟩
  rw [List.length_map, rng_len] at h3
  exact h3
theorem in_take (B : Bag b0 b1 b2 cs) (hm : 1 ≤ m ∧ m ≤ 1000) : ∃ xs b0' b1' b2', evE (C fuel k) (.comp (.app .sub (.ex (.call 12 (.pl 1 (.ex (.con (.int 41)) .nil))) (.ex (.con (.int 20)) .nil))) (.nm 6) (.rng (.var 3)) false (.con .none) [6]) (St s (.lst (Bl b0 b1 b2 cs)) l (.dat (.int m)) o1 o2 h7 n f a bb d t kk p q) =
    .ok (.lst (I xs)) (St s (.lst (Bl b0' b1' b2' cs)) l (.dat (.int m)) o1 o2 h7 n f a bb d t kk p q) ∧ xs.length = m.toNat ∧ (∀ x ∈ xs, x.natAbs ≤ 100) ∧ Bag b0' b1' b2' cs := by
  obtain ⟨ds, ρ2, h1, ⟨c0, c1, c2, rfl, B2⟩, h3, h4⟩ := compL_ex (turn := turnM [false] [6] (.nm 6) (if false = true then testM (evE (C fuel k) (.con .none)) else pur true) (evE (C fuel k) (.app .sub (.ex (.call 12 (.pl 1 (.ex (.con (.int 41)) .nil))) (.ex (.con (.int 20)) .nil)))))
    (P := fun ρ => ∃ b0' b1' b2', ρ = St s (.lst (Bl b0' b1' b2' cs)) l (.dat (.int m)) o1 o2 h7 n f a bb d t kk p q ∧ Bag b0' b1' b2' cs) (Rr := fun d => ∃ x : Int, d = .int x ∧ x.natAbs ≤ 100) (rngL 0 m.toNat) (fun x _ ρ ⟨b0', b1', b2', e, B'⟩ => by
      subst e
      obtain ⟨y, c0, c1, c2, e1, hy, hy2, B2⟩ := take_eq (fuel := fuel) (k := k + 5) (m := 41) B' (by decide)
      exact ⟨.int (y - 20), St s (.lst (Bl c0 c1 c2 cs)) l (.dat (.int m)) o1 o2 h7 n f a bb d t kk p q, turn_k (u := ()) rfl (app_k (ex_k (call_k (f := 12) rfl rfl e1 rfl) rfl rfl) rfl) rfl rfl, ⟨c0, c1, c2, rfl, B2⟩, _, rfl, by omega⟩) _ ⟨b0, b1, b2, rfl, B⟩
  obtain ⟨xs, rfl, h5⟩ := ints_all h4
  refine ⟨xs, c0, c1, c2, comp_k (rng_k rfl (rngOk_of hm)) rfl h1 (by rw [rng_len]; unfold lim; omega) rfl, ?_, h5, B2⟩
  rw [List.length_map, rng_len] at h3
  exact h3
/-- many = 1 + take -/
theorem lap1 (B : Bag b0 b1 b2 cs) : ∃ m' b0' b1' b2', evS (C fuel k) (nth 0 lb) (St s (.lst (Bl b0 b1 b2 cs)) l h7 o1 o2 .hole n f a bb d t kk p q) = .ok .nx (St s (.lst (Bl b0' b1' b2' cs)) l (.dat (.int m')) o1 o2 .hole n f a bb d t kk p q) ∧ 1 ≤ m' ∧ m' ≤ 4 ∧ Bag b0' b1' b2' cs := by
  obtain ⟨y, c0, c1, c2, e1, hy, hy2, B2⟩ := take_eq (fuel := fuel) (k := k + 5) (m := 4) B (by decide)
  exact ⟨1 + y, c0, c1, c2, asg_k (u := ()) (app_k (ex_k rfl rfl (ex_k (call_k (f := 12) rfl rfl e1 rfl) rfl rfl)) rfl) rfl, by omega, by omega, B2⟩
/-- one, other = .. -/
theorem lap2 (B : Bag b0 b1 b2 cs) (hm : 1 ≤ m ∧ m ≤ 4) : ∃ w xs v ys b0' b1' b2', evS (C fuel k) (nth 1 lb) (St s (.lst (Bl b0 b1 b2 cs)) l (.dat (.int m)) o1 o2 .hole n f a bb d t kk p q) =
    .ok .nx (St s (.lst (Bl b0' b1' b2' cs)) l (.dat (.int m)) (.dat (Ln w xs)) (.dat (Ln v ys)) .hole n f a bb d t kk p q) ∧ w.natAbs ≤ 100 ∧ v.natAbs ≤ 100 ∧ xs.length = m.toNat ∧ ys.length = m.toNat ∧ Sm6 xs ∧ Sm6 ys ∧ Bag b0' b1' b2' cs := by
  have one : ∀ (x : PyData) {b0 b1 b2 : Int}, Bag b0 b1 b2 cs → ∃ w xs b0' b1' b2', turnM [false] [7] (.nm 7) (if false = true then testM (evE (C fuel k) (.con .none)) else pur true) (evE (C fuel k) (.app .tup (.ex (.app .sub (.ex (.call 12 (.pl 1 (.ex (.con (.int 19)) .nil))) (.ex (.con (.int 9)) .nil)))
      (.ex (.app .tuple (.ex (.comp (.call 13 (.pl 1 (.ex (.app .lst lst7) .nil))) (.nm 6) (.rng (.var 3)) false (.con .none) [6]) .nil)) .nil)))) x (St s (.lst (Bl b0 b1 b2 cs)) l (.dat (.int m)) o1 o2 .hole n f a bb d t kk p q) =
      .ok (some (Ln w xs)) (St s (.lst (Bl b0' b1' b2' cs)) l (.dat (.int m)) o1 o2 .hole n f a bb d t kk p q) ∧ w.natAbs ≤ 100 ∧ xs.length = m.toNat ∧ Sm6 xs ∧ Bag b0' b1' b2' cs := fun x {b0 b1 b2} B => by
    obtain ⟨y, c0, c1, c2, e1, hy, hy2, B2⟩ := take_eq (fuel := fuel) (k := k + 5) (m := 19) B (by decide)
    obtain ⟨xs, g0, g1, g2, e2, h1, h2, B3⟩ := in_some (fuel := fuel) (k := k) (s := s) (l := l) (o1 := o1) (o2 := o2) (h7 := .dat x) (n := n) (f := f) (a := a) (bb := bb) (d := d) (t := t) (kk := kk) (p := p) (q := q) (m := m) B2 (by omega)
    exact ⟨y - 9, xs, g0, g1, g2, turn_k (u := ()) (ρ1 := St s (.lst (Bl b0 b1 b2 cs)) l (.dat (.int m)) o1 o2 (.dat x) n f a bb d t kk p q) rfl (app_k (ex_k (app_k (ex_k (call_k (f := 12) rfl rfl e1 rfl) rfl rfl) rfl) rfl (ex_k (app_k (ex_k e2 rfl rfl) rfl) rfl rfl)) rfl) rfl rfl, by omega, h1, fun z hz => by have := h2 z hz; omega, B3⟩
  obtain ⟨w, xs, c0, c1, c2, e1, h1, h2, h3, B1⟩ := one (.int (0 + (0 : Nat))) B
  obtain ⟨v, ys, g0, g1, g2, e2, h4, h5, h6, B2⟩ := one (.int (0 + (1 : Nat))) B1
  refine ⟨w, xs, v, ys, g0, g1, g2, asg_k (u := ()) (comp_k (ρ2 := St s (.lst (Bl g0 g1 g2 cs)) l (.dat (.int m)) o1 o2 .hole n f a bb d t kk p q) (ds := [Ln w xs, Ln v ys]) (xs := rngL 0 2) rfl rfl ?_ (by decide) rfl) rfl, h1, h4, h2, h5, h3, h6, B2⟩
  show bnd _ _ _ = _
  refine bnd_k e1 (bnd_k (bnd_k e2 (bnd_k rfl rfl)) rfl)
/-- numbers, often = .. -/
theorem lap3 (B : Bag b0 b1 b2 cs) (hm : 1 ≤ m ∧ m ≤ 4) : ∃ zs v b0' b1' b2', evS (C fuel k) (nth 2 lb) (St s (.lst (Bl b0 b1 b2 cs)) l (.dat (.int m)) o1 o2 .hole n f a bb d t kk p q) =
    .ok .nx (St s (.lst (Bl b0' b1' b2' cs)) l (.dat (.int m)) o1 o2 .hole (.dat (.tuple (I zs))) (.dat (.int v)) a bb d t kk p q) ∧ zs.length = m.toNat ∧ Sm6 zs ∧ v.natAbs ≤ 100 ∧ Bag b0' b1' b2' cs := by
  obtain ⟨zs, c0, c1, c2, e1, h1, h2, B1⟩ := in_take (fuel := fuel) (k := k) (s := s) (l := l) (o1 := o1) (o2 := o2) (h7 := .hole) (n := n) (f := f) (a := a) (bb := bb) (d := d) (t := t) (kk := kk) (p := p) (q := q) (m := m) B (by omega)
  obtain ⟨y, g0, g1, g2, e2, hy, hy2, B2⟩ := take_eq (fuel := fuel) (k := k + 5) (m := 9) B1 (by decide)
  exact ⟨zs, y - 4, g0, g1, g2, asg_k (u := ()) (app_k (ex_k (app_k (ex_k e1 rfl rfl) rfl) rfl (ex_k (app_k (ex_k (call_k (f := 12) rfl rfl e2 rfl) rfl rfl) rfl) rfl rfl)) rfl) rfl, h1, h2, by omega, B2⟩
end
end K9

namespace K9
open PySem EV
abbrev Su (s b l m o1 o2 n f a bb h14 d t k p q : O) : EV.Env := [s, b, l, m, o1, o2, .hole, .hole, n, f, a, bb, .hole, .hole, h14, d, t, k, p, q]
abbrev Zp (xs ys : List Int) : List PyData := (xs.zip ys).map fun p => .tuple [.int p.1, .int p.2]
def wv (w : Int) (xs ys : List Int) : Int := w + ((xs.zip ys).map fun p => p.1 * p.2).sum
theorem sumF_I (xs : List Int) : sumF (.list (I xs)) = some (.dat (.int xs.sum)) := by
  show (intsOf _).map _ = _
  rw [intsOf_map]
  rfl
theorem I_map {α : Type} (g : α → Int) (xs : List α) : I (xs.map g) = xs.map fun x => .int (g x) := by
  simp only [I, List.map_map]
  rfl
theorem small6 {x : Int} (h : x.natAbs ≤ 100) : small x = true := small_of (by omega)
section
variable {fuel k : Nat} {m w v A o : Int} {cs xs ys zs : List Int} {s b l mm o1 o2 n f a bb h14 d t kk p q : O}
theorem zc {p' : O} {op : Op} {g : Int → Int → Int} {src : Src} (hsrc : evSrc (C fuel k) src (Su s b l mm o1 o2 n f a bb h14 d t kk p' q) = .ok (Zp xs ys) (Su s b l mm o1 o2 n f a bb h14 d t kk p' q))
    (hop : ∀ x y : Int, x ∈ xs → appF op [.int x, .int y] = some (.dat (.int (g x y)))) (hl : xs.length ≤ 100) :
    evE (C fuel k) (.comp (.app op (.pl 12 (.pl 13 .nil))) (.tup [12, 13]) src false (.con .none) [12, 13]) (Su s b l mm o1 o2 n f a bb h14 d t kk p' q) = .ok (.lst (I ((xs.zip ys).map fun p => g p.1 p.2))) (Su s b l mm o1 o2 n f a bb h14 d t kk p' q) := by
  have ht : ∀ pr ∈ xs.zip ys, turnM [false] [12, 13] (.tup [12, 13]) (if false = true then testM (evE (C fuel k) (.con .none)) else pur true) (evE (C fuel k) (.app op (.pl 12 (.pl 13 .nil)))) (.tuple [.int pr.1, .int pr.2]) (Su s b l mm o1 o2 n f a bb h14 d t kk p' q) =
      .ok (some (.int (g pr.1 pr.2))) (Su s b l mm o1 o2 n f a bb h14 d t kk p' q) := fun pr hp => by
    have h0 := hop pr.1 pr.2 (List.of_mem_zip hp).1
    exact turn_k (u := ()) (ρ1 := [s, b, l, mm, o1, o2, .hole, .hole, n, f, a, bb, .dat (.int pr.1), .dat (.int pr.2), h14, d, t, kk, p', q]) (ρ2 := [s, b, l, mm, o1, o2, .hole, .hole, n, f, a, bb, .dat (.int pr.1), .dat (.int pr.2), h14, d, t, kk, p', q]) rfl (app_k (xs := [.ref 12, .ref 13]) rfl h0) rfl rfl
  rw [I_map]
  refine comp_k (ρ2 := Su s b l mm o1 o2 n f a bb h14 d t kk p' q) hsrc rfl (compL_map (α := Int × Int) _ (fun p => .int (g p.1 p.2)) ht) ?_ rfl
  simp only [List.length_map, List.length_zip]
  unfold lim
  omega
theorem mul_s {x : Int} (y : Int) (h : x.natAbs ≤ 100) : appF .mul [.int x, .int y] = some (.dat (.int (x * y))) := mul_k (by rw [small6 h]; rfl)
theorem zsum {src : Src} {i : Nat} {e : E} (hw : (Su s b l mm o1 o2 n f a bb h14 d t kk p q)[i]? = some (.dat (Ln w xs))) (hz : n = .dat (.tuple (I zs))) (hs : Sm6 xs) (hl : xs.length ≤ 100)
    (hsrc : evSrc (C fuel k) src (Su s b l mm o1 o2 n f a bb h14 d t kk p q) = .ok (Zp xs zs) (Su s b l mm o1 o2 n f a bb h14 d t kk p q))
    (he : evA (C fuel k) (.pl i (.ex (.con (.int 0)) .nil)) (Su s b l mm o1 o2 n f a bb h14 d t kk p q) = .ok [.ref i, .val (.dat (.int 0))] (Su s b l mm o1 o2 n f a bb h14 d t kk p q))
    (hp : (peeks (Su s b l mm o1 o2 n f a bb h14 d t kk p q) [.ref i, .val (.dat (.int 0))]).bind (appF .idx) = some (.dat (.int w))) :
    evE (C fuel k) (.app .add (.ex (.app .idx (.pl i (.ex (.con (.int 0)) .nil))) (.ex (.app .sum (.ex (.comp (.app .mul (.pl 12 (.pl 13 .nil))) (.tup [12, 13]) src false (.con .none) [12, 13]) .nil)) .nil))) (Su s b l mm o1 o2 n f a bb h14 d t kk p q) =
      .ok (.dat (.int (wv w xs zs))) (Su s b l mm o1 o2 n f a bb h14 d t kk p q) := by
  have hc := zc (g := fun x y => x * y) hsrc (fun x y hx => mul_s y (hs x hx)) hl
  exact app_k (ex_k (app_k he hp) rfl (ex_k (app_k (ex_k hc rfl rfl) (sumF_I _)) rfl rfl)) rfl
/-- a, b = .. -/
theorem lap4 (hs : Sm6 xs) (hs2 : Sm6 ys) (hl : xs.length ≤ 100) (hl2 : ys.length ≤ 100) : evS (C fuel k) (nth 3 lb) (St s b l mm (.dat (Ln w xs)) (.dat (Ln v ys)) .hole (.dat (.tuple (I zs))) f a bb d t kk p q) =
    .ok .nx (St s b l mm (.dat (Ln w xs)) (.dat (Ln v ys)) .hole (.dat (.tuple (I zs))) f (.dat (.int (wv w xs zs))) (.dat (.int (wv v ys zs))) d t kk p q) := by
  have e1 := zsum (fuel := fuel) (k := k) (s := s) (b := b) (l := l) (mm := mm) (o1 := .dat (Ln w xs)) (o2 := .dat (Ln v ys)) (n := .dat (.tuple (I zs))) (f := f) (a := a) (bb := bb) (h14 := .dat (Ln w xs)) (d := d) (t := t) (kk := kk) (p := p) (q := q) (i := 14) (e := .var 14)
    (src := .zip (.app .idx (.pl 14 (.ex (.con (.int 1)) .nil))) (.var 8)) rfl rfl hs hl (by rw [Zp, ← zip_map]; rfl) rfl rfl
  have e2 := zsum (fuel := fuel) (k := k) (s := s) (b := b) (l := l) (mm := mm) (o1 := .dat (Ln w xs)) (o2 := .dat (Ln v ys)) (n := .dat (.tuple (I zs))) (f := f) (a := a) (bb := bb) (h14 := .dat (Ln v ys)) (d := d) (t := t) (kk := kk) (p := p) (q := q) (i := 14) (e := .var 14)
    (src := .zip (.app .idx (.pl 14 (.ex (.con (.int 1)) .nil))) (.var 8)) rfl rfl hs2 hl2 (by rw [Zp, ← zip_map]; rfl) rfl rfl
  refine asg_k (u := ()) (comp_k (ρ2 := St s b l mm (.dat (Ln w xs)) (.dat (Ln v ys)) .hole (.dat (.tuple (I zs))) f a bb d t kk p q) (ds := [.int (wv w xs zs), .int (wv v ys zs)]) (xs := [Ln w xs, Ln v ys]) rfl rfl ?_ (show 2 ≤ lim by decide) rfl) rfl
  show bnd _ _ _ = _
  exact bnd_k (turn_k (u := ()) rfl e1 rfl rfl) (bnd_k (bnd_k (turn_k (u := ()) rfl e2 rfl rfl) (bnd_k rfl rfl)) rfl)
/-- due = .. -/
theorem lap5 (hl : xs.length ≤ 100) : evS (C fuel k) (nth 4 lb) (St s b l mm (.dat (Ln w xs)) (.dat (Ln v ys)) .hole n f a bb d t kk p q) =
    .ok .nx (St s b l mm (.dat (Ln w xs)) (.dat (Ln v ys)) .hole n f a bb (.lst [Ln (w + v) ((xs.zip ys).map fun p => p.1 + p.2), Ln (w - v) ((xs.zip ys).map fun p => p.1 - p.2)]) t kk p q) := by
  have e1 := zc (fuel := fuel) (k := k) (op := .add) (g := fun x y => x + y) (xs := xs) (ys := ys) (s := s) (b := b) (l := l) (mm := mm) (o1 := .dat (Ln w xs)) (o2 := .dat (Ln v ys)) (n := n) (f := f) (a := a) (bb := bb) (h14 := .hole) (d := d) (t := t) (kk := kk) (p' := p) (q := q)
    (src := .zip (.app .idx (.pl 4 (.ex (.con (.int 1)) .nil))) (.app .idx (.pl 5 (.ex (.con (.int 1)) .nil)))) (by rw [Zp, ← zip_map]; rfl) (fun _ _ _ => rfl) hl
  have e2 := zc (fuel := fuel) (k := k) (op := .sub) (g := fun x y => x - y) (xs := xs) (ys := ys) (s := s) (b := b) (l := l) (mm := mm) (o1 := .dat (Ln w xs)) (o2 := .dat (Ln v ys)) (n := n) (f := f) (a := a) (bb := bb) (h14 := .hole) (d := d) (t := t) (kk := kk) (p' := p) (q := q)
    (src := .zip (.app .idx (.pl 4 (.ex (.con (.int 1)) .nil))) (.app .idx (.pl 5 (.ex (.con (.int 1)) .nil)))) (by rw [Zp, ← zip_map]; rfl) (fun _ _ _ => rfl) hl
  exact asg_k (u := ()) (app_k (ex_k (app_k (ex_k rfl rfl (ex_k (app_k (ex_k e1 rfl rfl) rfl) rfl rfl)) rfl) rfl (ex_k (app_k (ex_k rfl rfl (ex_k (app_k (ex_k e2 rfl rfl) rfl) rfl rfl)) rfl) rfl rfl)) rfl) rfl
/-- due = due + .. -/
theorem lap6 {e1 e2 : PyData} (ho : o.natAbs ≤ 100) (hl : xs.length ≤ 100) : evS (C fuel k) (nth 5 lb) (St s b l mm (.dat (Ln w xs)) o2 .hole n (.dat (.int o)) a bb (.lst [e1, e2]) t kk p q) =
    .ok .nx (St s b l mm (.dat (Ln w xs)) o2 .hole n (.dat (.int o)) a bb (.lst [e1, e2, Ln (o * w) (xs.map fun x => o * x), Ln (w + o) xs]) t kk p q) := by
  have hc : evE (C fuel k) (.comp (.app .mul (.pl 9 (.pl 12 .nil))) (.nm 12) (.seq (.app .idx (.pl 4 (.ex (.con (.int 1)) .nil)))) false (.con .none) [12]) (St s b l mm (.dat (Ln w xs)) o2 .hole n (.dat (.int o)) a bb (.lst [e1, e2]) t kk p q) =
      .ok (.lst (I (xs.map fun x => o * x))) (St s b l mm (.dat (Ln w xs)) o2 .hole n (.dat (.int o)) a bb (.lst [e1, e2]) t kk p q) := by
    rw [I_map]
    refine comp_k (ρ2 := St s b l mm (.dat (Ln w xs)) o2 .hole n (.dat (.int o)) a bb (.lst [e1, e2]) t kk p q) (xs := I xs) rfl rfl (compL_map _ (fun x => .int (o * x)) fun x _ => turn_k (u := ()) rfl (app_k rfl (mul_s x ho)) rfl rfl) ?_ rfl
    rw [List.length_map]
    unfold lim
    omega
  exact asg_k (u := ()) (app_k (pl_k rfl (ex_k (app_k (ex_k (app_k (ex_k (app_k rfl (mul_s w ho)) rfl (ex_k (app_k (ex_k hc rfl rfl) rfl) rfl rfl)) rfl) rfl rfl) rfl) rfl rfl)) rfl) rfl
theorem less_eq' {fuel k : Nat} (hl : xs.length ≤ 100) (hl2 : ys.length ≤ 100) : callF T fuel (k + 2) 5 [.dat (Ln w xs), .dat (Ln v ys)] = .ok (.dat (Ln (w - v) ((xs.zip ys).map fun p => p.1 - p.2))) [.hole, .hole] := by
  rw [less_eq hl hl2]
  have e1 : w + -1 * v = w - v := by omega
  have e2 : ((xs.zip (ys.map fun y => -1 * y)).map fun p => p.1 + p.2) = (xs.zip ys).map fun p => p.1 - p.2 := by
    rw [List.zip_map_right, List.map_map]
    refine List.map_congr_left fun p _ => ?_
    show p.1 + -1 * p.2 = p.1 - p.2
    omega
  rw [e1, e2]
/-- a test that goes on -/
theorem pass_k {c : CX} {e : E} {q : Ss} {ρ ρ1 : EV.Env} (h : evE c e ρ = .ok (.dat (.bool true)) ρ1) : evS c (.ite (.not_ e) q .nil) ρ = .ok .nx ρ1 :=
  ifS_k (t := false) (test_k (not_k h rfl) rfl) rfl
theorem zip_bound {g : Int × Int → Int} (hg : ∀ p ∈ xs.zip ys, (g p).natAbs < 10 ^ 12) : ∀ x ∈ (xs.zip ys).map g, x.natAbs < 10 ^ 12 := fun x hx => by
  obtain ⟨p, hp, rfl⟩ := List.mem_map.mp hx
  exact hg p hp
/-- the first look -/
theorem lap7 (hw : w.natAbs ≤ 100) (hv : v.natAbs ≤ 100) (ho : o.natAbs ≤ 100) (hs : Sm6 xs) (hs2 : Sm6 ys) (hl : xs.length ≤ 100) (hl2 : ys.length ≤ 100) (hA : (wv w xs zs).natAbs < 10 ^ 12) :
    evS (C fuel k) (nth 6 lb) (St s b l mm (.dat (Ln w xs)) (.dat (Ln v ys)) .hole (.dat (.tuple (I zs))) (.dat (.int o)) (.dat (.int (wv w xs zs))) bb (.lst [Ln (w + v) ((xs.zip ys).map fun p => p.1 + p.2), Ln (w - v) ((xs.zip ys).map fun p => p.1 - p.2), Ln (o * w) (xs.map fun x => o * x), Ln (w + o) xs]) t kk p q) =
    .ok .nx (St s b l mm (.dat (Ln w xs)) (.dat (Ln v ys)) .hole (.dat (.tuple (I zs))) (.dat (.int o)) (.dat (.int (wv w xs zs))) bb (.lst [Ln (w + v) ((xs.zip ys).map fun p => p.1 + p.2), Ln (w - v) ((xs.zip ys).map fun p => p.1 - p.2), Ln (o * w) (xs.map fun x => o * x), Ln (w + o) xs]) t kk p q) := by
  have c1 := worth_eq (fuel := fuel) (k := k + 5) (w := w) (ys := zs) hl fun x hx => small6 (hs x hx)
  have c2 := added_eq (fuel := fuel) (k := k + 5) (w := w) (v := v) (ys := ys) hl
  have c3 := less_eq' (fuel := fuel) (k := k + 4) (w := w) (v := v) hl hl2
  have c4 := times_eq (fuel := fuel) (k := k + 5) (w := w) (v := o) hl (small6 ho)
  have c5 := raised_eq (fuel := fuel) (k := k + 5) (w := w) (b := o) (xs := xs)
  have pw : (10 : Nat) ^ 12 = 1000000000000 := rfl
  have mulb : ∀ x : Int, x.natAbs ≤ 100 → (o * x).natAbs < 10 ^ 12 := fun x hx => by
    rw [Int.natAbs_mul]
    have : o.natAbs * x.natAbs ≤ 100 * 100 := Nat.mul_le_mul ho hx
    omega
  have gd : Gd 500 3 (.list [.int (wv w xs zs), Ln (w + v) ((xs.zip ys).map fun p => p.1 + p.2), Ln (w - v) ((xs.zip ys).map fun p => p.1 - p.2), Ln (o * w) (xs.map fun x => o * x), Ln (w + o) xs]) := by
    have hz : (xs.zip ys).length ≤ 100 := by
      rw [List.length_zip]
      omega
    refine gd_le (gd_lst (gds_cons (gd_int hA) (gds_cons (gd_ln (by omega) (zip_bound fun p hp => ?_) (by rw [List.length_map]; exact hz)) (gds_cons (gd_ln (by omega) (zip_bound fun p hp => ?_) (by rw [List.length_map]; exact hz))
      (gds_cons (gd_ln (mulb w hw) (fun x hx => ?_) (by rw [List.length_map]; exact hl)) (gds_cons (gd_ln (by omega) (fun x hx => ?_) hl) gds_nil)))))) (by omega) (by simp)
    · have h1 := hs _ (List.of_mem_zip hp).1
      have h2 := hs2 _ (List.of_mem_zip hp).2
      omega
    · have h1 := hs _ (List.of_mem_zip hp).1
      have h2 := hs2 _ (List.of_mem_zip hp).2
      omega
    · obtain ⟨y, hy, rfl⟩ := List.mem_map.mp hx
      exact mulb y (hs y hy)
    · have := hs x hx
      omega
  have al := alike_eq (fuel := fuel) (k := k + 5) gd (by decide) (by decide)
  exact pass_k (call_k (f := 14) (ex_k (app_k (ex_k (call_k (f := 10) rfl rfl c1 rfl) rfl (ex_k (call_k (f := 3) rfl rfl c2 rfl) rfl (ex_k (call_k (f := 5) rfl rfl c3 rfl) rfl (ex_k (call_k (f := 4) rfl rfl c4 rfl) rfl (ex_k (call_k (f := 6) rfl rfl c5 rfl) rfl rfl))))) rfl) rfl
    (ex_k (app_k (ex_k rfl rfl (pl_k rfl rfl)) rfl) rfl rfl)) rfl al rfl)
end
end K9

namespace K9
open PySem EV
section
variable {fuel k : Nat} {m w v A o at_ b0 b1 b2 : Int} {cs xs ys zs : List Int} {s b l mm o1 o2 n f a bb h14 d t kk p q : O}
theorem lap8 (B : Bag b0 b1 b2 cs) (hm : 1 ≤ m ∧ m ≤ 4) : ∃ y b0' b1' b2', evS (C fuel k) (nth 7 lb) (St s (.lst (Bl b0 b1 b2 cs)) l (.dat (.int m)) o1 o2 .hole n f a bb d t kk p q) =
    .ok .nx (St s (.lst (Bl b0' b1' b2' cs)) l (.dat (.int m)) o1 o2 .hole n f a bb d (.dat (.int y)) kk p q) ∧ Bag b0' b1' b2' cs := by
  obtain ⟨y, c0, c1, c2, e1, hy, hy2, B2⟩ := take_eq (fuel := fuel) (k := k + 5) (m := m) B (by omega)
  exact ⟨y, c0, c1, c2, asg_k (u := ()) (call_k (f := 12) rfl rfl e1 rfl) rfl, B2⟩
theorem lap9 (hm : 1 ≤ m ∧ m ≤ 4) (ho : o.natAbs ≤ 100) : evS (C fuel k) (nth 8 lb) (St s b l (.dat (.int m)) o1 o2 .hole n (.dat (.int o)) a bb d (.dat (.int at_)) kk p q) = .ok .nx (St s b l (.dat (.int m)) o1 o2 .hole n (.dat (.int o)) a bb d (.dat (.int at_)) kk p q) := by
  have c1 := letter_eq (fuel := fuel) (k := k + 5) (m := m) (at_ := at_) (by omega)
  have c2 := plain_eq (fuel := fuel) (k := k + 5) (m := m) (w := o) (by omega)
  have hc : evE (C fuel k) (.comp (.app .int (.ex (.app .eq (.pl 6 (.pl 16 .nil))) .nil)) (.nm 6) (.rng (.var 3)) false (.con .none) [6]) (St s b l (.dat (.int m)) o1 o2 .hole n (.dat (.int o)) a bb d (.dat (.int at_)) kk p q) =
      .ok (.lst ((List.range m.toNat).map fun (k : Nat) => .int (if ((0 : Int) + k == at_) = true then 1 else 0))) (St s b l (.dat (.int m)) o1 o2 .hole n (.dat (.int o)) a bb d (.dat (.int at_)) kk p q) :=
    comp_k (xs := rngL 0 m.toNat) (ρ2 := St s b l (.dat (.int m)) o1 o2 .hole n (.dat (.int o)) a bb d (.dat (.int at_)) kk p q) (rng_k rfl (rngOk_of (by omega))) rfl (compL_map _ (fun (k : Nat) => .int (if ((0 : Int) + k == at_) = true then 1 else 0)) fun x _ => turn_k (u := ()) rfl rfl rfl rfl) (by
      rw [rng_len]
      unfold lim
      omega) rfl
  have e : mulF (.tuple [.int 0]) (.int m) = some (.dat (.tuple (List.replicate m.toNat (.int 0)))) := if_pos (by omega)
  have hr : List.replicate m.toNat (PyData.int 0) = (List.replicate m.toNat (0 : Int)).map PyData.int := by rw [List.map_replicate]
  have g1 : Gds m.toNat 0 ((List.range m.toNat).map fun (k : Nat) => PyData.int (if ((0 : Int) + k == at_) = true then 1 else 0)) := by
    have := gds_all (f := fun (k : Nat) => PyData.int (if ((0 : Int) + k == at_) = true then 1 else 0)) (xs := List.range m.toNat) fun x _ => gd_int (by
      split <;> decide)
    rwa [List.length_range] at this
  have g2 : Gds m.toNat 0 (List.replicate m.toNat (PyData.int 0)) := by
    rw [hr]
    have := gds_all (f := PyData.int) (xs := List.replicate m.toNat (0 : Int)) fun x hx => gd_int (by
      rw [(List.mem_replicate.mp hx).2]
      decide)
    rwa [List.length_replicate] at this
  have gd : Gd 500 3 (.list [.tuple [.int 0, .tuple ((List.range m.toNat).map fun (k : Nat) => PyData.int (if ((0 : Int) + k == at_) = true then 1 else 0))], .tuple [.int o, .tuple (List.replicate m.toNat (PyData.int 0))]]) :=
    gd_le (gd_lst (gds_cons (gd_tup (gds_cons (gd_int (by decide)) (gds_cons (gd_tup g1) gds_nil))) (gds_cons (gd_tup (gds_cons (gd_int (by omega)) (gds_cons (gd_tup g2) gds_nil))) gds_nil))) (by omega) (by simp)
  have al := alike_eq (fuel := fuel) (k := k + 5) gd (by decide) (by decide)
  exact pass_k (call_k (f := 14) (ex_k (app_k (ex_k (call_k (f := 2) rfl rfl c1 rfl) rfl (ex_k (call_k (f := 1) rfl rfl c2 rfl) rfl rfl)) rfl) rfl
    (ex_k (app_k (ex_k (app_k (ex_k rfl rfl (ex_k (app_k (ex_k hc rfl rfl) rfl) rfl rfl)) rfl) rfl (ex_k (app_k (ex_k rfl rfl (ex_k (app_k rfl e) rfl rfl)) rfl) rfl rfl)) rfl) rfl rfl)) rfl al rfl)
theorem lap10 (hl : xs.length ≤ 100) : evS (C fuel k) (nth 9 lb) (St s b l mm (.dat (Ln w xs)) o2 .hole n f a bb d t kk p q) = .ok .nx (St s b l mm (.dat (Ln w xs)) o2 .hole n f a bb d t (.dat (Ln (-1 * w + -1) (xs.map fun x => -1 * x))) (.dat (.int 0)) q) := by
  have c1 := negated_eq (fuel := fuel) (k := k + 4) (w := w) hl
  exact asg_k (u := ()) (app_k (ex_k (call_k (f := 7) rfl rfl c1 rfl) rfl (ex_k rfl rfl rfl)) rfl) rfl
theorem gcd_for (hf : 200 ≤ fuel) : ∀ (xs : List Int) (x : Int) (q : O), Sm6 xs → ∃ q', forL (fun x => bnd (asg (C fuel k).np (.nm 19) (.dat x)) fun _ => evSs (C fuel k) (.cons (.asg (.nm 18) (.call 15 (.pl 18 (.pl 19 .nil)))) .nil)) (I xs) (St s b l mm o1 o2 .hole n f a bb d t kk (.dat (.int x)) q) =
    .ok .nx (St s b l mm o1 o2 .hole n f a bb d t kk (.dat (.int (dv fuel xs x))) q')
  | [], x, q, _ => ⟨q, rfl⟩
  | y :: ys, x, q, h => by
    have hy := h y (by simp)
    have hb : (ab y).toNat < fuel := by
      have := ab_le (a := y) (m := 100) (by omega)
      omega
    obtain ⟨q', hz⟩ := gcd_for hf ys (eu fuel (ab x) (ab y)) (.dat (.int y)) fun z hz => h z (by simp [hz])
    exact ⟨q', for_nx (bnd_k (a := ()) (ρ1 := St s b l mm o1 o2 .hole n f a bb d t kk (.dat (.int x)) (.dat (.int y))) rfl (ss_one (asg_k (u := ()) (call_k (f := 15) rfl rfl (gcd_eq (k := k + 5) hb) rfl) rfl))) hz⟩
theorem lap11 (hf : 200 ≤ fuel) (h : Sm6 xs) : ∃ q', evS (C fuel k) (nth 10 lb) (St s b l mm (.dat (Ln w xs)) o2 .hole n f a bb d t kk (.dat (.int 0)) q) = .ok .nx (St s b l mm (.dat (Ln w xs)) o2 .hole n f a bb d t kk (.dat (.int (dv fuel xs 0))) q') := by
  obtain ⟨q', hz⟩ := gcd_for (fuel := fuel) (k := k) (s := s) (b := b) (l := l) (mm := mm) (o1 := .dat (Ln w xs)) (o2 := o2) (n := n) (f := f) (a := a) (bb := bb) (d := d) (t := t) (kk := kk) hf xs 0 q h
  exact ⟨q', for_k (ys := I xs) rfl hz⟩
theorem sum_neg : ∀ xs : List Int, (xs.map fun x => -1 * x).sum = -1 * xs.sum
  | [] => rfl
  | x :: xs => by
    rw [List.map_cons, List.sum_cons, List.sum_cons, sum_neg xs]
    omega
theorem wv_neg : wv (-1 * w + -1) (xs.map fun x => -1 * x) zs = -1 * wv w xs zs - 1 := by
  unfold wv
  have e : (((xs.map fun x => -1 * x).zip zs).map fun p => p.1 * p.2) = (((xs.zip zs).map fun p => p.1 * p.2).map fun x => -1 * x) := by
    rw [List.zip_map_left, List.map_map, List.map_map]
    refine List.map_congr_left fun p _ => ?_
    show -1 * p.1 * p.2 = -1 * (p.1 * p.2)
    rw [Int.mul_assoc]
  rw [e, sum_neg]
  omega
theorem lap12 (hf : 200 ≤ fuel) (hs : Sm6 xs) (hl : xs.length ≤ 100) : evS (C fuel k) (nth 11 lb) (St s b l mm (.dat (Ln w xs)) o2 .hole (.dat (.tuple (I zs))) f (.dat (.int (wv w xs zs))) bb d t (.dat (Ln (-1 * w + -1) (xs.map fun x => -1 * x))) (.dat (.int (dv fuel xs 0))) q) =
    .ok .nx (St s b l mm (.dat (Ln w xs)) o2 .hole (.dat (.tuple (I zs))) f (.dat (.int (wv w xs zs))) bb d t (.dat (Ln (-1 * w + -1) (xs.map fun x => -1 * x))) (.dat (.int (dv fuel xs 0))) q) := by
  have e1 := zsum (fuel := fuel) (k := k) (w := -1 * w + -1) (xs := xs.map fun x => -1 * x) (zs := zs) (s := s) (b := b) (l := l) (mm := mm) (o1 := .dat (Ln w xs)) (o2 := o2) (n := .dat (.tuple (I zs))) (f := f) (a := .dat (.int (wv w xs zs))) (bb := bb) (h14 := .hole) (d := d) (t := t)
    (kk := .dat (Ln (-1 * w + -1) (xs.map fun x => -1 * x))) (p := .dat (.int (dv fuel xs 0))) (q := q) (i := 17) (e := .var 17) (src := .zip (.app .idx (.pl 17 (.ex (.con (.int 1)) .nil))) (.var 8)) rfl rfl (fun x hx => by
      obtain ⟨y, hy, rfl⟩ := List.mem_map.mp hx
      have := hs y hy
      omega) (by rw [List.length_map]; exact hl) (by rw [Zp, ← zip_map]; rfl) rfl rfl
  rw [wv_neg] at e1
  obtain ⟨d1, d2⟩ := dv_le (fuel := fuel) xs 0 hs (by omega) (by omega)
  have c1 := divisor_eq (fuel := fuel) (k := k + 4) (w := w) hf hs
  have al := alike_eq (fuel := fuel) (k := k + 5) (gd_int (i := dv fuel xs 0) (by
    have pw : (10 : Nat) ^ 12 = 1000000000000 := rfl
    omega)) (by decide) (by decide)
  have ne : (decide (0 ≤ wv w xs zs) == decide (0 ≤ -1 * wv w xs zs - 1)) = false := by
    by_cases z : 0 ≤ wv w xs zs
    · rw [decide_eq_true z, decide_eq_false (by omega)]
      rfl
    · rw [decide_eq_false z, decide_eq_true (by omega)]
      rfl
  have h1 : appF .eq [.bool (decide (0 ≤ wv w xs zs)), .bool (decide (0 ≤ -1 * wv w xs zs - 1))] = some (.dat (.bool false)) := by
    have e9 : eqD (.bool (decide (0 ≤ wv w xs zs))) (.bool (decide (0 ≤ -1 * wv w xs zs - 1))) = some (decide (0 ≤ wv w xs zs) == decide (0 ≤ -1 * wv w xs zs - 1)) := rfl
    show ((eqD (.bool (decide (0 ≤ wv w xs zs))) (.bool (decide (0 ≤ -1 * wv w xs zs - 1)))).map fun k => O.dat (.bool k)) = _
    rw [e9, ne]
    rfl
  exact ifS_k (t := false) (test_k (or_k (x := .dat (.bool false)) (t := false) (app_k (ex_k rfl rfl (ex_k (app_k (ex_k e1 rfl (ex_k rfl rfl rfl)) rfl) rfl rfl)) h1) rfl (not_k (call_k (f := 14) (ex_k (call_k (f := 8) rfl rfl c1 rfl) rfl (pl_k rfl rfl)) rfl al rfl) rfl)) rfl) rfl
theorem lap13 (hs : Sm6 xs) (hl : xs.length ≤ 100) : evS (C fuel k) (nth 12 lb) (St s b l mm (.dat (Ln w xs)) o2 .hole n f a bb d t kk (.dat (.int (dv fuel xs 0))) q) = .ok .nx (St s b l mm (.dat (Ln w xs)) o2 .hole n f a bb (.dat (tg_ fuel w xs)) t kk (.dat (.int (dv fuel xs 0))) q) := by
  obtain ⟨d1, d2⟩ := dv_le (fuel := fuel) xs 0 hs (by omega) (by omega)
  unfold tg_
  generalize dv fuel xs 0 = g at *
  refine asg_k (u := ()) (ρ1 := St s b l mm (.dat (Ln w xs)) o2 .hole n f a bb d t kk (.dat (.int g)) q) (ifE_k (t := decide (g < 2)) (ρ1 := St s b l mm (.dat (Ln w xs)) o2 .hole n f a bb d t kk (.dat (.int g)) q) rfl ?_) rfl
  by_cases hp : g < 2
  · rw [decide_eq_true hp, if_pos hp]
    rfl
  · rw [decide_eq_false hp, if_neg hp]
    have hm : ∀ x, fdivF (.int x) (.int g) = some (.dat (.int (x.fdiv g))) := fun x => fdiv_k ⟨by omega, by omega⟩
    have hc : evE (C fuel k) (.comp (.app .fdiv (.pl 12 (.pl 18 .nil))) (.nm 12) (.seq (.app .idx (.pl 4 (.ex (.con (.int 1)) .nil)))) false (.con .none) [12]) (St s b l mm (.dat (Ln w xs)) o2 .hole n f a bb d t kk (.dat (.int g)) q) =
        .ok (.lst (I (xs.map fun x => x.fdiv g))) (St s b l mm (.dat (Ln w xs)) o2 .hole n f a bb d t kk (.dat (.int g)) q) := by
      rw [I_map]
      have ht : ∀ x ∈ xs, turnM [false] [12] (.nm 12) (if false = true then testM (evE (C fuel k) (.con .none)) else pur true) (evE (C fuel k) (.app .fdiv (.pl 12 (.pl 18 .nil)))) (.int x) (St s b l mm (.dat (Ln w xs)) o2 .hole n f a bb d t kk (.dat (.int g)) q) =
          .ok (some (.int (x.fdiv g))) (St s b l mm (.dat (Ln w xs)) o2 .hole n f a bb d t kk (.dat (.int g)) q) := fun x _ => turn_k (u := ()) (ρ1 := [s, b, l, mm, .dat (Ln w xs), o2, .hole, .hole, n, f, a, bb, .dat (.int x), .hole, .hole, d, t, kk, .dat (.int g), q]) rfl (app_k (xs := [.ref 12, .ref 18]) rfl (hm x)) rfl rfl
      refine comp_k (ρ2 := St s b l mm (.dat (Ln w xs)) o2 .hole n f a bb d t kk (.dat (.int g)) q) (xs := I xs) rfl rfl (compL_map (α := Int) _ (fun x => .int (x.fdiv g)) ht) ?_ rfl
      rw [List.length_map]
      unfold lim
      omega
    exact app_k (ex_k (app_k rfl (hm w)) rfl (ex_k (app_k (ex_k hc rfl rfl) rfl) rfl rfl)) rfl
theorem fdiv_abs {x g : Int} (hg : 2 ≤ g) : (x.fdiv g).natAbs ≤ x.natAbs := by
  rw [Int.fdiv_eq_ediv_of_nonneg x (by omega)]
  exact Int.natAbs_ediv_le_natAbs x g
theorem tg_gd (hw : w.natAbs ≤ 100) (hs : Sm6 xs) (hl : xs.length ≤ 100) : Gd 110 2 (tg_ fuel w xs) := by
  have pw : (10 : Nat) ^ 12 = 1000000000000 := rfl
  unfold tg_
  split
  · exact gd_ln (by omega) (fun x hx => by
      have := hs x hx
      omega) hl
  · rename_i hp
    refine gd_ln ?_ (fun x hx => ?_) (by rw [List.length_map]; exact hl)
    · have := fdiv_abs (x := w) (g := dv fuel xs 0) (by omega)
      omega
    · obtain ⟨y, hy, rfl⟩ := List.mem_map.mp hx
      have := hs y hy
      have := fdiv_abs (x := y) (g := dv fuel xs 0) (by omega)
      omega
theorem lap14 (hf : 200 ≤ fuel) (hw : w.natAbs ≤ 100) (hs : Sm6 xs) (hl : xs.length ≤ 100) : evS (C fuel k) (nth 13 lb) (St s b l mm (.dat (Ln w xs)) o2 .hole n f a bb (.dat (tg_ fuel w xs)) t kk p q) = .ok .nx (St s b l mm (.dat (Ln w xs)) o2 .hole n f a bb (.dat (tg_ fuel w xs)) t kk p q) := by
  have c1 := tight_eq (fuel := fuel) (k := k + 3) (w := w) hl hf hs
  have al := alike_eq (fuel := fuel) (k := k + 5) (tg_gd (fuel := fuel) hw hs hl) (by decide) (by decide)
  exact pass_k (call_k (f := 14) (ex_k (call_k (f := 9) rfl rfl c1 rfl) rfl (pl_k rfl rfl)) rfl al rfl)
theorem zip_sum : ∀ (xs zs : List Int), Sm6 xs → Sm6 zs → (((xs.zip zs).map fun p : Int × Int => p.1 * p.2).sum).natAbs ≤ 10000 * xs.length
  | [], _, _, _ => by simp
  | x :: xs, [], _, _ => by simp
  | x :: xs, z :: zs, h1, h2 => by
    have ih := zip_sum xs zs (fun y hy => h1 y (by simp [hy])) fun y hy => h2 y (by simp [hy])
    have hx := h1 x (by simp)
    have hz := h2 z (by simp)
    have hm : (x * z).natAbs ≤ 10000 := by
      rw [Int.natAbs_mul]
      exact Nat.mul_le_mul hx hz
    rw [List.zip_cons_cons, List.map_cons, List.sum_cons, List.length_cons]
    show (x * z + _).natAbs ≤ _
    omega
theorem lap {o1' o2' n' f' a' bb' d' t' kk' p' q' : O} (hf : 200 ≤ fuel) (B : Bag b0 b1 b2 cs) : ∃ mm o1 o2 n f a bb d t kk p q b0' b1' b2', evSs (C fuel k) lb (St s (.lst (Bl b0 b1 b2 cs)) l h14 o1' o2' .hole n' f' a' bb' d' t' kk' p' q') =
    .ok .nx (St s (.lst (Bl b0' b1' b2' cs)) l mm o1 o2 .hole n f a bb d t kk p q) ∧ Bag b0' b1' b2' cs := by
  obtain ⟨m, c0, c1, c2, e1, m1, m2, B1⟩ := lap1 (fuel := fuel) (k := k) (s := s) (l := l) (h7 := h14) (o1 := o1') (o2 := o2') (n := n') (f := f') (a := a') (bb := bb') (d := d') (t := t') (kk := kk') (p := p') (q := q') B
  obtain ⟨w, xs, v, ys, c0, c1, c2, e2, hw, hv, lx, ly, sx, sy, B2⟩ := lap2 (fuel := fuel) (k := k) (s := s) (l := l) (o1 := o1') (o2 := o2') (n := n') (f := f') (a := a') (bb := bb') (d := d') (t := t') (kk := kk') (p := p') (q := q') B1 ⟨m1, m2⟩
  obtain ⟨zs, o, c0, c1, c2, e3, lz, sz, ho, B3⟩ := lap3 (fuel := fuel) (k := k) (s := s) (l := l) (o1 := .dat (Ln w xs)) (o2 := .dat (Ln v ys)) (n := n') (f := f') (a := a') (bb := bb') (d := d') (t := t') (kk := kk') (p := p') (q := q') B2 ⟨m1, m2⟩
  have hl : xs.length ≤ 100 := by omega
  have hl2 : ys.length ≤ 100 := by omega
  have hA : (wv w xs zs).natAbs < 10 ^ 12 := by
    have pw : (10 : Nat) ^ 12 = 1000000000000 := rfl
    have := zip_sum xs zs sx sz
    unfold wv
    omega
  obtain ⟨y, g0, g1, g2, e8, B4⟩ := lap8 (fuel := fuel) (k := k) (s := s) (l := l) (o1 := .dat (Ln w xs)) (o2 := .dat (Ln v ys)) (n := .dat (.tuple (I zs))) (f := .dat (.int o)) (a := .dat (.int (wv w xs zs))) (bb := .dat (.int (wv v ys zs)))
    (d := .lst [Ln (w + v) ((xs.zip ys).map fun p => p.1 + p.2), Ln (w - v) ((xs.zip ys).map fun p => p.1 - p.2), Ln (o * w) (xs.map fun x => o * x), Ln (w + o) xs]) (t := t') (kk := kk') (p := p') (q := q') B3 ⟨m1, m2⟩
  obtain ⟨q2, e11⟩ := lap11 (fuel := fuel) (k := k) (w := w) (xs := xs) (s := s) (b := .lst (Bl g0 g1 g2 cs)) (l := l) (mm := .dat (.int m)) (o2 := .dat (Ln v ys)) (n := .dat (.tuple (I zs))) (f := .dat (.int o)) (a := .dat (.int (wv w xs zs))) (bb := .dat (.int (wv v ys zs)))
    (d := .lst [Ln (w + v) ((xs.zip ys).map fun p => p.1 + p.2), Ln (w - v) ((xs.zip ys).map fun p => p.1 - p.2), Ln (o * w) (xs.map fun x => o * x), Ln (w + o) xs]) (t := .dat (.int y)) (kk := .dat (Ln (-1 * w + -1) (xs.map fun x => -1 * x))) (q := q') hf sx
  refine ⟨_, _, _, _, _, _, _, _, _, _, _, _, g0, g1, g2, ss_nx e1 (ss_nx e2 (ss_nx e3 (ss_nx (lap4 sx sy hl hl2) (ss_nx (lap5 hl) (ss_nx (lap6 ho hl) (ss_nx (lap7 hw hv ho sx sy hl hl2 hA) (ss_nx e8 (ss_nx (lap9 ⟨m1, m2⟩ ho) (ss_nx (lap10 hl) (ss_nx e11 (ss_nx (lap12 hf sx hl) (ss_nx (lap13 sx hl) (ss_nx (lap14 hf hw sx hl) rfl))))))))))))), B4⟩
end
theorem forL_all {body : PyData → M Fl} {P : EV.Env → Prop} (h : ∀ x ρ, P ρ → ∃ ρ', body x ρ = .ok .nx ρ' ∧ P ρ') : ∀ (xs : List PyData) (ρ : EV.Env), P ρ → ∃ ρ', forL body xs ρ = .ok .nx ρ' ∧ P ρ'
  | [], ρ, p => ⟨ρ, rfl, p⟩
  | x :: xs, ρ, p => by
    obtain ⟨ρ1, h1, p1⟩ := h x ρ p
    obtain ⟨ρ2, h2, p2⟩ := forL_all h xs ρ1 p1
    exact ⟨ρ2, for_nx h1 h2, p2⟩
theorem law_eq {fuel k : Nat} {ns : List Int} (hf : 200 ≤ fuel) (hl : ns.length ≤ 63) : callF T fuel (k + 7) 16 [.dat (.list (I ns))] = .ok (.dat (.bool true)) [.hole] := by
  obtain ⟨cs, e1, B⟩ := bag_eq (fuel := fuel) (k := k + 5) hl
  obtain ⟨ρ', e2, l, mm, o1, o2, n, f, a, bb, d, t, kk, p, q, c0, c1, c2, rfl, B'⟩ := forL_all (body := fun x => bnd (asg (C fuel k).np (.nm 2) (.dat x)) fun _ => evSs (C fuel k) lb)
    (P := fun ρ => ∃ l mm o1 o2 n f a bb d t kk p q b0 b1 b2, ρ = St (.dat (.list (I ns))) (.lst (Bl b0 b1 b2 cs)) l mm o1 o2 .hole n f a bb d t kk p q ∧ Bag b0 b1 b2 cs) (fun x ρ ⟨l, mm, o1, o2, n, f, a, bb, d, t, kk, p, q, b0, b1, b2, e, B⟩ => by
      subst e
      obtain ⟨mm2, p1, p2, n2, f2, a2, bb2, d2, t2, kk2, pp2, q2, c0, c1, c2, e, B2⟩ := lap (fuel := fuel) (k := k) (s := .dat (.list (I ns))) (l := .dat x) (h14 := mm) (o1' := o1) (o2' := o2) (n' := n) (f' := f) (a' := a) (bb' := bb) (d' := d) (t' := t) (kk' := kk) (p' := p) (q' := q) hf B
      exact ⟨_, bnd_k (a := ()) (ρ1 := St (.dat (.list (I ns))) (.lst (Bl b0 b1 b2 cs)) (.dat x) mm o1 o2 .hole n f a bb d t kk p q) rfl e, _, _, _, _, _, _, _, _, _, _, _, _, _, _, _, _, rfl, B2⟩) (rngL 0 15) (St (.dat (.list (I ns))) (.lst (Bl 0 1234567891 0 cs)) .hole .hole .hole .hole .hole .hole .hole .hole .hole .hole .hole .hole .hole .hole)
      ⟨_, _, _, _, _, _, _, _, _, _, _, _, _, _, _, _, rfl, B⟩
  refine call_eq (f := 16) (args := [.dat (.list (I ns))]) (ρ := St (.dat (.list (I ns))) (.lst (Bl c0 c1 c2 cs)) l mm o1 o2 .hole n f a bb d t kk p q) (fn := ⟨1, 20, c_law⟩) rfl rfl ?_ rfl
  exact ss_nx (asg_k (u := ()) (call_k (f := 11) rfl rfl e1 rfl) rfl) (ss_nx (for_k (ys := rngL 0 15) rfl e2) (ss_rt rfl))
end K9

namespace K9
open PySem PySem.Spec PyProof.Rows L2 EV
/-! ### the head -/
def dd (x : Str) (i : Nat) : He.DefD := ⟨(x, none), x, x, defArgs (tp i), defBody (tp i), defScope (tp i), [], []⟩
def fnD : List He.DefD := [dd "common" 1, dd "plain" 2, dd "letter" 3, dd "added" 4, dd "times" 5, dd "less" 6, dd "raised" 7, dd "negated" 8, dd "divisor" 9, dd "tight" 10, dd "worth" 11, dd "_law_bag" 13, dd "_law_take" 14, dd "_law_some" 15, dd "_law_alike" 16, dd "_law_gcd" 17, dd "law" 18]
def fsD : List He.Fa := [.glo "common", .glo "plain", .glo "letter", .glo "added", .glo "times", .glo "less", .glo "raised", .glo "negated", .glo "divisor", .glo "tight", .glo "worth", .glo "_law_bag", .glo "_law_take", .glo "_law_some", .glo "_law_alike", .glo "_law_gcd", .glo "law", .free "len", .free "abs", .free "int", .free "tuple", .free "list", .free "sum", .free "repr", .free "range", .free "zip"]
abbrev RR : PySem.W.OpenRow := PySem.W.OpenLaw.row PySem.Challenge.rw_blockwright_k09_lines_of_letters
abbrev hkD : PySem.W.Hook := He.hookD 4 fsD fnD
def obD (s : PySem.W.SharedT) : He.AlD := He.obsDG 4 fsD fnD (HandSHeadRun.getT s)
theorem obD_eq (s : PySem.W.SharedT) : obD s = hkD.obs s.abs := He.obsDG_eq (HandSHeadRun.getT_eq s)
def nm0 : List Str := (["__name__", "common", "plain", "letter", "added", "times", "less", "raised", "negated", "divisor", "tight", "worth", "_law_bag", "_law_take", "_law_some", "_law_alike", "_law_gcd"] : List String).map Str.ofString
def nmD : List Str := nm0
theorem runD (w : World) : HandSHeadRun.RunEq RR (PySem.W.view RR.prog [18]) hkD obD 760 nmD w := by
  intro os
  kernel_rfl
/-! ### the facts -/
def faT (K : PySem.W.Frag) (i : Nat) : Addr := match Ds[i]? with
  | some d => He.fAd K (d.nm, none)
  | none => 0
theorem rowsD : (Ds.all (rowB names 80)) = true := by decide +kernel
theorem bltD {K : PySem.W.Frag} {h : Heap} {mg : Str → Option Value} (X : K.In h) (G : h.Ns mainGlobals mg) (c : He.SaysD fsD fnD K) : ∀ x ∈ bltNames, mg x = none := by
  intro x hx
  unfold bltNames at hx
  simp only [List.mem_cons, List.not_mem_nil, or_false] at hx
  rcases hx with rfl | rfl | rfl | rfl | rfl | rfl | rfl | rfl | rfl
  · exact He.free_ok X G (c.fact 17 (f := .free "len") rfl)
  · exact He.free_ok X G (c.fact 18 (f := .free "abs") rfl)
  · exact He.free_ok X G (c.fact 19 (f := .free "int") rfl)
  · exact He.free_ok X G (c.fact 20 (f := .free "tuple") rfl)
  · exact He.free_ok X G (c.fact 21 (f := .free "list") rfl)
  · exact He.free_ok X G (c.fact 22 (f := .free "sum") rfl)
  · exact He.free_ok X G (c.fact 23 (f := .free "repr") rfl)
  · exact He.free_ok X G (c.fact 24 (f := .free "range") rfl)
  · exact He.free_ok X G (c.fact 25 (f := .free "zip") rfl)
theorem defsD {K : PySem.W.Frag} {h : Heap} {mg : Str → Option Value} (X : K.In h) (G : h.Ns mainGlobals mg) (c : He.SaysD fsD fnD K) : ∀ i d, Ds[i]? = some d → mg d.nm = some (.ref (faT K i)) ∧
    ∃ fd, FunD K d.nm d.nm (defArgs d.st) (defBody d.st) (defScope d.st) [] [] (faT K i) fd ∧ Binds K fd d.ps [] := by
  intro i d hd
  match i, hd with
  | 0, hd =>
    cases hd
    obtain ⟨fd, F⟩ := c.def_ 0 (d := dd "common" 1) rfl
    exact ⟨He.glo_ok X G (c.fact 0 (f := .glo "common") rfl), fd, F, FunD.bindsN F fun _ _ _ _ _ _ us hl => match us, hl with | [_, _], _ => rfl⟩
  | 1, hd =>
    cases hd
    obtain ⟨fd, F⟩ := c.def_ 1 (d := dd "plain" 2) rfl
    exact ⟨He.glo_ok X G (c.fact 1 (f := .glo "plain") rfl), fd, F, FunD.bindsN F fun _ _ _ _ _ _ us hl => match us, hl with | [_, _], _ => rfl⟩
  | 2, hd =>
    cases hd
    obtain ⟨fd, F⟩ := c.def_ 2 (d := dd "letter" 3) rfl
    exact ⟨He.glo_ok X G (c.fact 2 (f := .glo "letter") rfl), fd, F, FunD.bindsN F fun _ _ _ _ _ _ us hl => match us, hl with | [_, _], _ => rfl⟩
  | 3, hd =>
    cases hd
    obtain ⟨fd, F⟩ := c.def_ 3 (d := dd "added" 4) rfl
    exact ⟨He.glo_ok X G (c.fact 3 (f := .glo "added") rfl), fd, F, FunD.bindsN F fun _ _ _ _ _ _ us hl => match us, hl with | [_, _], _ => rfl⟩
  | 4, hd =>
    cases hd
    obtain ⟨fd, F⟩ := c.def_ 4 (d := dd "times" 5) rfl
    exact ⟨He.glo_ok X G (c.fact 4 (f := .glo "times") rfl), fd, F, FunD.bindsN F fun _ _ _ _ _ _ us hl => match us, hl with | [_, _], _ => rfl⟩
  | 5, hd =>
    cases hd
    obtain ⟨fd, F⟩ := c.def_ 5 (d := dd "less" 6) rfl
    exact ⟨He.glo_ok X G (c.fact 5 (f := .glo "less") rfl), fd, F, FunD.bindsN F fun _ _ _ _ _ _ us hl => match us, hl with | [_, _], _ => rfl⟩
  | 6, hd =>
    cases hd
    obtain ⟨fd, F⟩ := c.def_ 6 (d := dd "raised" 7) rfl
    exact ⟨He.glo_ok X G (c.fact 6 (f := .glo "raised") rfl), fd, F, FunD.bindsN F fun _ _ _ _ _ _ us hl => match us, hl with | [_, _], _ => rfl⟩
  | 7, hd =>
    cases hd
    obtain ⟨fd, F⟩ := c.def_ 7 (d := dd "negated" 8) rfl
    exact ⟨He.glo_ok X G (c.fact 7 (f := .glo "negated") rfl), fd, F, FunD.bindsN F fun _ _ _ _ _ _ us hl => match us, hl with | [_], _ => rfl⟩
  | 8, hd =>
    cases hd
    obtain ⟨fd, F⟩ := c.def_ 8 (d := dd "divisor" 9) rfl
    exact ⟨He.glo_ok X G (c.fact 8 (f := .glo "divisor") rfl), fd, F, FunD.bindsN F fun _ _ _ _ _ _ us hl => match us, hl with | [_], _ => rfl⟩
  | 9, hd =>
    cases hd
    obtain ⟨fd, F⟩ := c.def_ 9 (d := dd "tight" 10) rfl
    exact ⟨He.glo_ok X G (c.fact 9 (f := .glo "tight") rfl), fd, F, FunD.bindsN F fun _ _ _ _ _ _ us hl => match us, hl with | [_], _ => rfl⟩
  | 10, hd =>
    cases hd
    obtain ⟨fd, F⟩ := c.def_ 10 (d := dd "worth" 11) rfl
    exact ⟨He.glo_ok X G (c.fact 10 (f := .glo "worth") rfl), fd, F, FunD.bindsN F fun _ _ _ _ _ _ us hl => match us, hl with | [_, _], _ => rfl⟩
  | 11, hd =>
    cases hd
    obtain ⟨fd, F⟩ := c.def_ 11 (d := dd "_law_bag" 13) rfl
    exact ⟨He.glo_ok X G (c.fact 11 (f := .glo "_law_bag") rfl), fd, F, FunD.bindsN F fun _ _ _ _ _ _ us hl => match us, hl with | [_], _ => rfl⟩
  | 12, hd =>
    cases hd
    obtain ⟨fd, F⟩ := c.def_ 12 (d := dd "_law_take" 14) rfl
    exact ⟨He.glo_ok X G (c.fact 12 (f := .glo "_law_take") rfl), fd, F, FunD.bindsN F fun _ _ _ _ _ _ us hl => match us, hl with | [_, _], _ => rfl⟩
  | 13, hd =>
    cases hd
    obtain ⟨fd, F⟩ := c.def_ 13 (d := dd "_law_some" 15) rfl
    exact ⟨He.glo_ok X G (c.fact 13 (f := .glo "_law_some") rfl), fd, F, FunD.bindsN F fun _ _ _ _ _ _ us hl => match us, hl with | [_, _], _ => rfl⟩
  | 14, hd =>
    cases hd
    obtain ⟨fd, F⟩ := c.def_ 14 (d := dd "_law_alike" 16) rfl
    exact ⟨He.glo_ok X G (c.fact 14 (f := .glo "_law_alike") rfl), fd, F, FunD.bindsN F fun _ _ _ _ _ _ us hl => match us, hl with | [_, _], _ => rfl⟩
  | 15, hd =>
    cases hd
    obtain ⟨fd, F⟩ := c.def_ 15 (d := dd "_law_gcd" 17) rfl
    exact ⟨He.glo_ok X G (c.fact 15 (f := .glo "_law_gcd") rfl), fd, F, FunD.bindsN F fun _ _ _ _ _ _ us hl => match us, hl with | [_, _], _ => rfl⟩
  | 16, hd =>
    cases hd
    obtain ⟨fd, F⟩ := c.def_ 16 (d := dd "law" 18) rfl
    exact ⟨He.glo_ok X G (c.fact 16 (f := .glo "law") rfl), fd, F, FunD.bindsN F fun _ _ _ _ _ _ us hl => match us, hl with | [_], _ => rfl⟩
  | _ + 17, hd => cases hd
end K9
open PySem PySem.W PySem.Calls PyProof.Rows
theorem PySem.Challenge.cw_blockwright_k09_lines_of_letters_holds : PySem.Challenge.rw_blockwright_k09_lines_of_letters.Holds := by
  w_on; o_law
  refine HandSHeadRun.head_any (r := OpenLaw.row PySem.Challenge.rw_blockwright_k09_lines_of_letters) (q := view (OpenLaw.row PySem.Challenge.rw_blockwright_k09_lines_of_letters).prog [18]) (H := K9.hkD) (ob := K9.obD) (M := 760) (loose := K9.nmD)
    (d := HandSHeadRun.topDef (OpenLaw.row PySem.Challenge.rw_blockwright_k09_lines_of_letters).prog 18) (kwd := []) K9.obD_eq (by kernel_rfl) (fun s => by kernel_rfl) K9.runD (by kernel_rfl) (by kernel_rfl) (by kernel_rfl) (by rfl)
    (by first | assumption | decide +kernel) (by decide +kernel) ⟨rfl, rfl, rfl, rfl, rfl, by decide +kernel⟩ ?hw ?hc
  case hw => w_witness2
  case hc =>
    refine EV.walkG (l := PySem.Challenge.rw_blockwright_k09_lines_of_letters) (n := 63) (k := 7) (x := "script") rfl (by decide) (by kernel_rfl) ⟨rfl, by decide, by decide⟩ fun w mg fa h Y G hmg0 => ?_
    obtain ⟨K, KX, c⟩ := Y
    have hmg : mg ("law" : PySem.Str) = some (.ref fa) := by
      have e : (HandSHeadRun.topDef (OpenLaw.row PySem.Challenge.rw_blockwright_k09_lines_of_letters).prog 18).name = ("law" : PySem.Str) := by kernel_rfl
      rw [← e]
      exact hmg0
    obtain ⟨fd, F⟩ := c.def_ 16 (d := K9.dd "law" 18) rfl
    have e := hmg.symm.trans (He.glo_ok KX G (c.fact 16 (f := .glo "law") rfl))
    cases e
    have b := L2.FunD.bindsA (ps := ["script"]) F fun _ _ _ _ _ _ us hl => match us, hl with | [_], _ => rfl
    refine ⟨K, fd, EV.spC K (K9.faT K) (EV.callF K9.T 200 7) 16, KX, fun s v => b s [v] rfl, fun H a ns hl hS => EV.law_sp hS (K9.law_eq (fuel := 200) (k := 0) (by decide) hl), fun base hb hg => ?_⟩
    have lv := EV.levels (P := (PySem.Challenge.rw_blockwright_k09_lines_of_letters).prog) (w := w) (K := K) (mg := mg) (base := base) (fa := K9.faT K) (fuel := 200) (T := K9.T) (names := K9.names) (Ds := K9.Ds) (n := 80) rfl rfl K9.rowsD (K9.bltD KX G c) (K9.defsD KX G c) 6
    exact EV.fnG_step (n := 80) (d := K9.r_law) rfl (List.all_eq_true.mp K9.rowsD _ (List.mem_of_getElem? (i := 16) rfl)) F (K9.bltD KX G c) lv
