import PyProof.Rows.All
import Wide.All
import OpenK.AllK
import Wide.FinOn
import HandS.ForMost
import HandS.ForExc
import HandS.CallSlots
import HandS.TupAny
import HandS.TupMul
import HandS.TupLe
import HandS.Wide
import HandS.Flow
import HandS.Style
import HandS.Conv
import HandS.IsInst
import HandS.Defaults
import HandS.MakeKw
import HandS.Head0
import HandS.Head1
import HandS.Head2
import HandS.HeadEnd
import HandS.EndBits
import HandS.HeadHook1
import HandS.HeadHook2
import PySem.Challenge.RW_everbounded_k08_fractions
set_option Elab.async false
set_option linter.all false
set_option maxRecDepth 100000
set_option maxHeartbeats 4000000
/-! A small language with a store: its terms and what they are worth. -/
namespace MP
open PySem

/-- values: tuples are values, lists stand in the store (ref), fro: a list that nobody writes, lst: a list just made that no name has yet, exn: a caught exception -/
inductive D where
  | non | bl (b : Bool) | int (i : Int) | str (x : Str) | tup (xs : List D) | fro (xs : List D) | lst (xs : List D) | ref (n : Nat) | exn (c : Nat) (fs : List D)

mutual
def D.eq : D → D → Bool
  | .non, .non => true
  | .bl a, .bl b => a == b
  | .int a, .int b => decide (a = b)
  | .str a, .str b => decide (a = b)
  | .tup a, .tup b => D.eqs a b
  | .fro a, .fro b => D.eqs a b
  | .lst a, .lst b => D.eqs a b
  | .ref a, .ref b => a == b
  | .exn a f, .exn b g => a == b && D.eqs f g
  | _, _ => false
def D.eqs : List D → List D → Bool
  | [], [] => true
  | a :: as, b :: bs => D.eq a b && D.eqs as bs
  | _, _ => false
end
mutual
theorem D.eq_ok : ∀ (a b : D), D.eq a b = true → a = b := fun a b h => by
  cases a <;> cases b <;> (try rfl) <;> (try (simp only [D.eq, Bool.false_eq_true] at h; done))
  · rw [D.eq] at h; rw [eq_of_beq h]
  · rw [D.eq] at h; rw [of_decide_eq_true h]
  · rw [D.eq] at h; rw [of_decide_eq_true h]
  · rw [D.eq] at h; rw [D.eqs_ok _ _ h]
  · rw [D.eq] at h; rw [D.eqs_ok _ _ h]
  · rw [D.eq] at h; rw [D.eqs_ok _ _ h]
  · rw [D.eq] at h; rw [eq_of_beq h]
  · rw [D.eq, Bool.and_eq_true] at h; rw [eq_of_beq h.1, D.eqs_ok _ _ h.2]
theorem D.eqs_ok : ∀ (a b : List D), D.eqs a b = true → a = b
  | [], [], _ => rfl
  | [], _ :: _, h => by simp [D.eqs] at h
  | _ :: _, [], h => by simp [D.eqs] at h
  | a :: as, b :: bs, h => by
    rw [D.eqs, Bool.and_eq_true] at h
    rw [D.eq_ok a b h.1, D.eqs_ok as bs h.2]
end
mutual
theorem D.eq_self : ∀ a : D, D.eq a a = true
  | .non => rfl
  | .bl b => by simp [D.eq]
  | .int i => by simp [D.eq]
  | .str x => by simp [D.eq]
  | .tup xs => by rw [D.eq]; exact D.eqs_self xs
  | .fro xs => by rw [D.eq]; exact D.eqs_self xs
  | .lst xs => by rw [D.eq]; exact D.eqs_self xs
  | .ref n => by simp [D.eq]
  | .exn c fs => by rw [D.eq, D.eqs_self fs]; simp
theorem D.eqs_self : ∀ a : List D, D.eqs a a = true
  | [] => rfl
  | a :: as => by rw [D.eqs, D.eq_self a, D.eqs_self as]; rfl
end
instance : DecidableEq D := fun a b => if h : D.eq a b = true then .isTrue (D.eq_ok a b h) else .isFalse fun e => h (e ▸ D.eq_self a)

/-- what stands in the store -/
inductive O where
  | lst (xs : List D) | dic (kvs : List (D × D)) | ins (c : Nat) (fs : List (Nat × D))
  deriving DecidableEq
abbrev Sto := List O
abbrev Fr := List (Option D)

inductive R (α : Type) where
  | ok (a : α) (s : Sto) | exc (c : Nat) (fs : List D) (s : Sto) | no
def R.bind {α β : Type} : R α → (α → Sto → R β) → R β
  | .ok a s, f => f a s
  | .exc c fs s, _ => .exc c fs s
  | .no, _ => .no
def optR {α : Type} (s : Sto) : Option α → R α
  | some a => .ok a s
  | none => .no

/-! ### terms -/
inductive Op where | add | sub | mul | fdiv | mod | pow | shl | shr | band
  deriving DecidableEq
inductive Cm where | eq | ne | lt | le | gt | ge | isin | notin | is | isnot
  deriving DecidableEq
inductive Ty where | int | bool | str | tuple | list
  deriving DecidableEq
inductive Bt where | len | abs | int | sum | min | max | all | any | tuple | list | str | sorted
  deriving DecidableEq
inductive Mt where | append | pop | popAt | insert | extend | index
  deriving DecidableEq
/-- targets -/
inductive Tg where | name (i : Nat) | tup (ts : List Tg)

mutual
inductive Ex where
  | var (i : Nat) | con (d : D)
  | bin (o : Op) (a b : Ex) | neg (a : Ex) | not (a : Ts) | and (a b : Ex) | or (a b : Ex) | ife (c : Ts) (a b : Ex)
  | cmp (o : Cm) (a b : Ex) | chain (o o' : Cm) (a b c : Ex)
  | tup (es : Exs) | lst (es : Exs) | ix (a b : Ex) | slice (a : Ex) (lo hi : Op1) | rev (a : Ex)
  | isin (a : Ex) (t : Ty) | bt (f : Bt) (a : Ex) | bt2 (f : Bt) (a b : Ex) | lrng (t : Bool) (lo hi : Ex) | call (f : Nat) (es : Exs) | callk (f : Nat) (ks : List Nat) (es kes : Exs) | mt (m : Mt) (a : Ex) (es : Exs)
  | comp (ws : List Nat) (t : Tg) (it : It) (c : Ts) (e : Ex)
inductive Ts where | e (x : Ex) | cmp (o : Cm) (a b : Ex) | chain (o o' : Cm) (a b c : Ex) | not (a : Ts) | and (a b : Ts) | or (a b : Ts) | tt
inductive Exs where | nil | cons (e : Ex) (es : Exs)
inductive Op1 where | none | some (e : Ex)
inductive It where | seq (e : Ex) | rng (lo hi : Ex)
end
mutual
inductive Sm where
  | ex (e : Ex) | asg (t : Tg) (e : Ex) | par (is : List Nat) (es : Exs) | sub (a i e : Ex) | aug (i : Nat) (o : Op) (e : Ex)
  | ret (e : Ex) | ret0 | ife (c : Ts) (a b : Sms) | whl (c : Ts) (b : Sms) | for_ (t : Tg) (it : It) (b : Sms) | brk | cnt | pass
inductive Sms where | nil | cons (a : Sm) (b : Sms)
end

/-! ### values -/
def cut (xs : List D) (lo hi : Option Int) : List D := (xs.drop (HT.sIx xs.length 0 lo)).take (HT.sIx xs.length xs.length hi - HT.sIx xs.length 0 lo)
def at? (xs : List D) (i : Int) : Option D := if 0 ≤ i then xs[i.toNat]? else if -(xs.length : Int) ≤ i then xs[(i + xs.length).toNat]? else none
def ixOf (n : Nat) (i : Int) : Option Nat := if 0 ≤ i then (if i < n then some i.toNat else none) else if -(n : Int) ≤ i then some (i + n).toNat else none
/-- the items of a list -/
def lstOf (s : Sto) : D → Option (List D)
  | .fro xs => some xs
  | .lst xs => some xs
  | .ref n => match s[n]? with
    | some (.lst xs) => some xs
    | _ => none
  | _ => none
/-- the items of a list or a tuple -/
def seqOf (s : Sto) : D → Option (List D)
  | .tup xs => some xs
  | d => lstOf s d
/-- lists and tuples are short -/
def lim : Nat := 16777216
/-- as a Prop of its own: its decision never counts down a great number -/
def Short (n : Nat) : Prop := n ≤ lim
instance (n : Nat) : Decidable (Short n) := decidable_of_iff (n / 16777217 = 0) (by unfold Short lim; omega)
def LogOk (j : Int) : Prop := j.natAbs.log2 < 9000
instance (j : Int) : Decidable (LogOk j) := decidable_of_iff (j.natAbs.log2 / 9000 = 0) (by unfold LogOk; omega)
-- a value as plain data; lists of the store one deep
mutual
def D.py : D → Option PyData
  | .non => some .none
  | .bl b => some (.bool b)
  | .int i => some (.int i)
  | .str x => some (.str x)
  | .tup xs => (D.pys xs).map .tuple
  | .fro xs => (D.pys xs).map .list
  | _ => none
def D.pys : List D → Option (List PyData)
  | [] => some []
  | x :: xs => match D.py x, D.pys xs with
    | some a, some as => some (a :: as)
    | _, _ => none
end
def pyOf (s : Sto) : D → Option PyData
  | .lst xs => (D.pys xs).map .list
  | .ref n => match s[n]? with
    | some (.lst xs) => (D.pys xs).map .list
    | _ => none
  | d => d.py
def eqD (s : Sto) (x y : D) : Option Bool := match pyOf s x, pyOf s y with
  | some a, some b => if SeqAt.shaped a && SeqAt.shaped b then some (PyData.eqv a b) else none
  | _, _ => none
/-- the simple values, for in -/
def D.flat : D → Bool
  | .non => true | .bl _ => true | .int _ => true | .str _ => true | _ => false
def eqF : D → D → Bool
  | .non, .non => true
  | .bl a, .bl b => a == b
  | .int a, .int b => a == b
  | .str a, .str b => decide (a = b)
  | .bl a, .int b => (if a then 1 else 0) == b
  | .int a, .bl b => a == (if b then 1 else 0)
  | _, _ => false
def small (i : Int) : Bool := decide (-(2 ^ 64) < i) && decide (i < 2 ^ 64)
def mulOk (i j : Int) : Bool := small i || small j || decide (i.natAbs.log2 + j.natAbs.log2 < 1000000)
/-- the items of a list that may be written -/
def wOf (s : Sto) : D → Option (List D)
  | .lst xs => some xs
  | .ref n => match s[n]? with
    | some (.lst xs) => some xs
    | _ => none
  | _ => none
def addD (s : Sto) (x y : D) : Option D := match x, y with
  | .int i, .int j => some (.int (i + j))
  | .str i, .str j => if Short (i.length + j.length) then some (.str (i ++ j)) else none
  | .tup xs, .tup ys => if Short (xs.length + ys.length) then some (.tup (xs ++ ys)) else none
  | x, y => match wOf s x, wOf s y with
    | some xs, some ys => if Short (xs.length + ys.length) then some (.lst (xs ++ ys)) else none
    | _, _ => none
def mulD (s : Sto) (x y : D) : Option D := match x, y with
  | .int i, .int j => if mulOk i j then some (.int (i * j)) else none
  | .tup xs, .int k => if xs ≠ [] ∧ 2 ≤ k ∧ k ≤ 1000 ∧ xs.length ≤ 1000 then some (.tup (List.replicate k.toNat xs).flatten) else none
  | x, .int k => match wOf s x with
    | some xs => if -(2 ^ 63) ≤ k ∧ k < 2 ^ 63 ∧ Short (xs.length * k.toNat) then some (.lst (List.replicate k.toNat xs).flatten) else none
    | none => none
  | _, _ => none
def intsOp (f : Int → Int → Option Int) (x y : D) : Option D := match x, y with
  | .int i, .int j => (f i j).map .int
  | _, _ => none
def fdivI (i j : Int) : Option Int := if 0 < j ∧ LogOk j then some (i / j) else if j < 0 ∧ LogOk j then some (i.fdiv j) else none
def modI (i j : Int) : Option Int := if 0 < j then some (i % j) else if j < 0 then some (i.fmod j) else none
def powI (i j : Int) : Option Int := if 0 ≤ j ∧ j ≤ 1000000 ∧ i.natAbs < 2 ^ 64 then some (i ^ j.toNat) else none
def shlI (i j : Int) : Option Int := if 0 ≤ j ∧ j ≤ 1000000 ∧ i.natAbs < 2 ^ 64 then some (i * 2 ^ j.toNat) else none
def shrI (i j : Int) : Option Int := if 0 ≤ j then some (i / 2 ^ j.toNat) else none
def bop (o : Op) (s : Sto) (x y : D) : Option D := match o with
  | .add => addD s x y
  | .sub => intsOp (fun i j => some (i - j)) x y
  | .mul => mulD s x y
  | .fdiv => intsOp fdivI x y
  | .mod => intsOp modI x y
  | .pow => intsOp powI x y
  | .shl => intsOp shlI x y
  | .shr => intsOp shrI x y
  | .band => intsOp (fun i j => some (Builtin.bitAnd i j)) x y
def lexLt : List Int → List Int → Bool
  | [], [] => false
  | [], _ :: _ => true
  | _ :: _, [] => false
  | x :: xs, y :: ys => if x = y then lexLt xs ys else decide (x < y)
def intsD : List D → Option (List Int)
  | [] => some []
  | .int i :: r => (intsD r).map (i :: ·)
  | _ => none
def strsD : List D → Option (List Str)
  | [] => some []
  | .str i :: r => (strsD r).map (i :: ·)
  | _ => none
def blsD : List D → Option (List Bool)
  | [] => some []
  | .bl i :: r => (blsD r).map (i :: ·)
  | _ => none
def inD (s : Sto) (x y : D) : Option Bool := match seqOf s y with
  | some ys => if x.flat && ys.all D.flat then some (ys.any fun z => eqF z x) else none
  | none => none
def ordI (f : Int → Int → Bool) (x y : D) : Option Bool := match x, y with
  | .int i, .int j => some (f i j)
  | _, _ => none
def isD (x y : D) : Option Bool := match x, y with
  | x, .non => some (decide (x = .non))
  | .bl a, .bl b => some (decide (a = b))
  | _, _ => none
def cop (o : Cm) (s : Sto) (x y : D) : Option Bool := match o with
  | .lt => ordI (fun i j => decide (i < j)) x y
  | .le => ordI (fun i j => decide (i ≤ j)) x y
  | .gt => ordI (fun i j => decide (j < i)) x y
  | .ge => ordI (fun i j => decide (j ≤ i)) x y
  | .eq => eqD s x y
  | .ne => (eqD s x y).map (!·)
  | .isin => inD s x y
  | .notin => (inD s x y).map (!·)
  | .is => isD x y
  | .isnot => (isD x y).map (!·)
def tru (s : Sto) : D → Option Bool
  | .non => some false
  | .bl b => some b
  | .int i => some (i != 0)
  | .str x => if Short (x.length) then some ((x.length : Int) != 0) else none
  | .exn .. => none
  | d => (seqOf s d).map fun xs => !xs.isEmpty
def isTy (s : Sto) (d : D) (t : Ty) : Option Bool := match d with
  | .non => some false
  | .bl _ => some (decide (t = .int ∨ t = .bool))
  | .int _ => some (decide (t = .int))
  | .str _ => some (decide (t = .str))
  | .tup _ => some (decide (t = .tuple))
  | .fro _ => some (decide (t = .list))
  | .lst _ => some (decide (t = .list))
  | .ref n => match s[n]? with
    | some (.lst _) => some (decide (t = .list))
    | _ => none
  | .exn .. => none
def ix (s : Sto) (x y : D) : Option D := match y with
  | .int i => match x with
    | .str z => if Short (z.length) then (L2.atI z.cps.toList i).map fun c => .str ⟨#[c]⟩ else none
    | x => (seqOf s x).bind fun xs => L2.atI xs i
  | _ => none
def slc (s : Sto) (x : D) (lo hi : Option Int) : Option D := match x with
  | .tup xs => some (.tup (cut xs lo hi))
  | x => (lstOf s x).map fun xs => .lst (cut xs lo hi)
def minI : Int → List Int → Int
  | m, [] => m
  | m, x :: xs => minI (if x < m then x else m) xs
def maxI : Int → List Int → Int
  | m, [] => m
  | m, x :: xs => maxI (if x > m then x else m) xs
end MP

set_option Elab.async false
set_option linter.all false
set_option maxRecDepth 100000
set_option maxHeartbeats 4000000
/-! What the terms are worth. -/
namespace MP
open PySem

def lenD (s : Sto) (d : D) : Option D := match d with
  | .str z => if Short (z.length) then some (.int z.length) else none
  | d => (seqOf s d).map fun xs => .int xs.length
def absD (d : D) : Option D := match d with
  | .int i => some (.int (if i < 0 then -i else i))
  | _ => none
def intD (d : D) : Option D := match d with
  | .int i => some (.int i)
  | .bl b => some (.int (if b then 1 else 0))
  | _ => none
def strD (d : D) : Option D := match d with
  | .int i => if i.natAbs.log2 < 1920 then some (.str (toString i)) else none
  | _ => none
def minD (ns : List Int) : Option D := match ns with
  | n :: r => some (.int (minI n r))
  | [] => none
def maxD (ns : List Int) : Option D := match ns with
  | n :: r => some (.int (maxI n r))
  | [] => none
def tupD (s : Sto) (d : D) : Option D := match d with
  | .tup xs => some (.tup xs)
  | d => (lstOf s d).map .tup
def bt1 (s : Sto) (f : Bt) (d : D) : Option D := match f with
  | .len => lenD s d
  | .abs => absD d
  | .int => intD d
  | .str => strD d
  | .sum => ((lstOf s d).bind intsD).map fun ns => .int ns.sum
  | .min => ((lstOf s d).bind intsD).bind minD
  | .max => ((lstOf s d).bind intsD).bind maxD
  | .all => ((lstOf s d).bind blsD).map fun bs => .bl (bs.all id)
  | .any => ((lstOf s d).bind blsD).map fun bs => .bl (bs.any id)
  | .tuple => tupD s d
  | .list => (seqOf s d).map .lst
  | .sorted => none
def bt2 : Bt → D → D → Option D
  | .min, .int i, .int j => some (.int (if j < i then j else i))
  | .max, .int i, .int j => some (.int (if j > i then j else i))
  | _, _, _ => none
/-- the ints of a range, as a list -/
def rngD (lo hi : Int) : List D := (List.range (hi - lo).toNat).map fun i => .int (lo + (i : Nat))
@[irreducible] def rngOk (lo hi : Int) : Bool := decide (lo.natAbs / 4611686018427387904 = 0) && decide (hi.natAbs / 4611686018427387904 = 0)
theorem rngOk_iff {lo hi : Int} (h : rngOk lo hi = true) : (-(2 ^ 62) ≤ lo ∧ lo < 2 ^ 62) ∧ -(2 ^ 62) ≤ hi ∧ hi < 2 ^ 62 := by
  unfold rngOk at h
  simp only [Bool.and_eq_true, decide_eq_true_eq] at h
  obtain ⟨h1, h2⟩ := h
  omega
/-- a list just made is laid into the store -/
def settle (d : D) (s : Sto) : D × Sto := match d with
  | .lst xs => (.ref s.length, s ++ [.lst xs])
  | d => (d, s)
def R.settled (r : R D) : R D := r.bind fun d s => .ok (settle d s).1 (settle d s).2
/-- an error within a comprehension has no worth here -/
def R.noexc {α : Type} : R α → R α
  | .exc .. => .no
  | r => r
mutual
def D.clean : D → Nat → Bool
  | .ref m, n => decide (m < n)
  | .tup xs, n => D.cleans xs n
  | .fro xs, n => D.cleans xs n
  | .lst xs, n => D.cleans xs n
  | .exn _ xs, n => D.cleans xs n
  | _, _ => true
def D.cleans : List D → Nat → Bool
  | [], _ => true
  | x :: xs, n => D.clean x n && D.cleans xs n
end
def O.clean : O → Nat → Bool
  | .lst xs, n => D.cleans xs n
  | .dic kvs, n => kvs.all fun p => D.clean p.1 n && D.clean p.2 n
  | .ins _ fs, n => fs.all fun p => D.clean p.2 n
/-- behind a call: what only the call knew is let go -/
def leave (s₀ : Sto) (v : D) (s : Sto) : R D :=
  if s.take s₀.length = s₀ ∨ (s.take s₀.length).all (O.clean · s₀.length) = true then
    (if v.clean s₀.length then .ok v (s.take s₀.length) else
      match v with
      | .ref n => (match s[n]? with
        | some (.lst xs) => if D.cleans xs s₀.length then .ok (.lst xs) (s.take s₀.length) else .ok v s
        | _ => .ok v s)
      | v => .ok v s)
  else .ok v s
structure G where
  call : Nat → List D → Sto → R D
  fuel : Nat
/-- what a method does: to whom, the arguments -/
def appendD (n : Nat) (vs : List D) (s : Sto) : R D := match vs, s[n]? with
  | [v], some (.lst xs) => if Short (xs.length + 1) then .ok .non (s.set n (.lst (xs ++ [v]))) else .no
  | _, _ => .no
def popD (n : Nat) (vs : List D) (s : Sto) : R D := match vs, s[n]? with
  | [], some (.lst xs) => (match xs[xs.length - 1]? with
    | some y => .ok y (s.set n (.lst xs.dropLast))
    | none => .no)
  | _, _ => .no
def popAtD (n : Nat) (vs : List D) (s : Sto) : R D := match vs, s[n]? with
  | [.int i], some (.lst xs) => (match L2.ixN xs.length i with
    | some k => (match xs[k]? with
      | some y => if -(2 ^ 63) ≤ i ∧ i < 2 ^ 63 then .ok y (s.set n (.lst (xs.eraseIdx k))) else .no
      | none => .no)
    | none => .no)
  | _, _ => .no
def extendD (n : Nat) (vs : List D) (s : Sto) : R D := match vs, s[n]? with
  | [.ref m], some (.lst xs) => (match s[m]? with
    | some (.lst ys) => if Short (xs.length + ys.length) then .ok .non (s.set n (.lst (xs ++ ys))) else .no
    | _ => .no)
  | _, _ => .no
def meth (m : Mt) (x : D) (vs : List D) (s : Sto) : R D := match x with
  | .ref n => (match m with
    | .append => appendD n vs s
    | .pop => popD n vs s
    | .popAt => popAtD n vs s
    | .extend => extendD n vs s
    | _ => .no)
  | _ => .no
/-- a list of the store -/
def recv (s : Sto) (x : D) : Bool := match x with
  | .ref n => (match s[n]? with
    | some (.lst _) => true
    | _ => false)
  | _ => false
/-- o[i] = v -/
def putAt (o i v : D) (s : Sto) : R Unit := match o, i with
  | .ref n, .int i => (match s[n]? with
    | some (.lst xs) => (match L2.ixN xs.length i with
      | some k => .ok () (s.set n (.lst (xs.set k v)))
      | none => .no)
    | _ => .no)
  | _, _ => .no
mutual
/-- a value to a target of names -/
def bindT : Tg → D → Fr → Option Fr
  | .name i, d, fr => if i < fr.length then some (fr.set i (some d)) else none
  | .tup ts, d, fr => match d with
    | .tup xs => bindTs ts xs fr
    | _ => none
def bindTs : List Tg → List D → Fr → Option Fr
  | [], [], fr => some fr
  | t :: ts, x :: xs, fr => (bindT t x fr).bind (bindTs ts xs)
  | _, _, _ => none
end
def wipeF (fr : Fr) : List Nat → Fr
  | [] => fr
  | v :: vs => (wipeF fr vs).set v none
/-- the walked list is as it was -/
def gok (gd : Option (Nat × List D)) (s : Sto) : Bool := match gd with
  | none => true
  | some (n, xs) => decide (s[n]? = some (.lst xs))
def consO : Option D → List D → List D
  | some y, ys => y :: ys
  | none, ys => ys
def compL (gd : Option (Nat × List D)) (f : D → Sto → R (Option D)) : List D → Sto → R (List D)
  | [], s => if gok gd s then .ok [] s else .no
  | x :: xs, s => if gok gd s then (f x s).bind fun o s1 => (compL gd f xs s1).bind fun ys s2 => .ok (consO o ys) s2 else .no
abbrev ItV := Option (Nat × List D) × List D
def itOf (s : Sto) (d : D) : Option ItV := match d with
  | .ref n => (match s[n]? with
    | some (.lst xs) => some (some (n, xs), xs)
    | _ => none)
  | d => (seqOf s d).map fun xs => (none, xs)
/-- arguments by place, then by the parameters' numbers -/
def kwPut (vs : List D) (ks : List Nat) (zs : List D) : List D := vs ++ (List.range ks.length).filterMap fun j => (ks.zip zs).lookup (vs.length + j)
def partOf : D → Option (Option Int)
  | .int i => some (some i)
  | _ => none

mutual
def ev (g : G) : Ex → Fr → Sto → R D
  | .var i, fr, s => (match fr[i]? with
    | some (some d) => .ok d s
    | _ => .no)
  | .con d, _, s => .ok d s
  | .bin o a b, fr, s => (ev g a fr s).bind fun x s1 => (ev g b fr s1).bind fun y s2 => optR s2 (bop o s2 x y)
  | .neg a, fr, s => (ev g a fr s).bind fun x s1 => (match x with
    | .int i => .ok (.int (-i)) s1
    | _ => .no)
  | .not a, fr, s => (tst g a fr s).bind fun b s1 => .ok (.bl (!b)) s1
  | .and a b, fr, s => (ev g a fr s).bind fun x s1 => (optR s1 (tru s1 x)).bind fun t s1 => (cond t (ev g b fr s1) (.ok x s1))
  | .or a b, fr, s => (ev g a fr s).bind fun x s1 => (optR s1 (tru s1 x)).bind fun t s1 => (cond t (.ok x s1) (ev g b fr s1))
  | .ife c a b, fr, s => (tst g c fr s).bind fun t s1 => (cond t (ev g a fr s1) (ev g b fr s1))
  | .cmp o a b, fr, s => (ev g a fr s).bind fun x s1 => (ev g b fr s1).bind fun y s2 => (optR s2 (cop o s2 x y)).bind fun t s3 => .ok (.bl t) s3
  | .chain o o' a b c, fr, s => (ev g a fr s).bind fun x s1 => (ev g b fr s1).bind fun y s2 => (optR s2 (cop o s2 x y)).bind fun t s3 => (cond t ((ev g c fr s3).bind fun z s4 => (optR s4 (cop o' s4 y z)).bind fun u s5 => .ok (.bl u) s5) (.ok (.bl false) s3))
  | .tup es, fr, s => (evs g es fr s).bind fun xs s1 => if Short (xs.length) then .ok (.tup xs) s1 else .no
  | .lst es, fr, s => (evs g es fr s).bind fun xs s1 => if Short (xs.length) then .ok (.lst xs) s1 else .no
  | .ix a b, fr, s => (ev g a fr s).bind fun x s1 => (ev g b fr s1).bind fun y s2 => optR s2 (ix s2 x y)
  | .slice a lo hi, fr, s => (ev g a fr s).bind fun x s1 => (evo g lo fr s1).bind fun l s2 => (evo g hi fr s2).bind fun h s3 => optR s3 (slc s3 x l h)
  | .rev a, fr, s => (ev g a fr s).bind fun x s1 => (match x with
    | .tup xs => .ok (.tup xs.reverse) s1
    | x => optR s1 ((lstOf s1 x).map fun xs => .lst xs.reverse))
  | .isin a t, fr, s => (ev g a fr s).bind fun x s1 => (optR s1 (isTy s1 x t)).bind fun b s2 => .ok (.bl b) s2
  | .bt f a, fr, s => (ev g a fr s).bind fun x s1 => optR s1 (bt1 s1 f x)
  | .bt2 f a b, fr, s => (ev g a fr s).bind fun x s1 => (ev g b fr s1).bind fun y s2 => optR s2 (bt2 f x y)
  | .lrng t a b, fr, s => (ev g a fr s).bind fun x s1 => (ev g b fr s1).bind fun y s2 => (match x, y with
    | .int i, .int j => if rngOk i j = true ∧ Short (j - i).toNat then .ok (if t then .tup (rngD i j) else .lst (rngD i j)) s2 else .no
    | _, _ => .no)
  | .call f es, fr, s => (evs g es fr s).bind fun xs s1 => g.call f xs s1
  | .callk f ks es kes, fr, s => (evs g es fr s).bind fun xs s1 => (evs g kes fr s1).bind fun zs s2 => g.call f (kwPut xs ks zs) s2
  | .mt m a es, fr, s => (ev g a fr s).bind fun x s1 => if recv s1 x then (evs g es fr s1).bind fun xs s2 => meth m x xs s2 else .no
  | .comp ws t it c e, fr, s => (evi g it fr s).bind fun iv s1 => if Short (iv.2.length) then (compL iv.1 (fun x s2 => match bindT t x (wipeF fr ws) with
    | some fr2 => ((tst g c fr2 s2).bind fun b s3 => (cond b (((ev g e fr2 s3).settled).bind fun y s4 => .ok (some y) s4) (.ok none s3))).noexc
    | none => .no) iv.2 s1).bind fun ys s5 => .ok (.lst ys) s5 else .no
def evs (g : G) : Exs → Fr → Sto → R (List D)
  | .nil, _, s => .ok [] s
  | .cons e es, fr, s => ((ev g e fr s).settled).bind fun x s1 => (evs g es fr s1).bind fun xs s2 => .ok (x :: xs) s2
def evo (g : G) : Op1 → Fr → Sto → R (Option Int)
  | .none, _, s => .ok none s
  | .some e, fr, s => (ev g e fr s).bind fun x s1 => optR s1 (partOf x)
def evi (g : G) : It → Fr → Sto → R ItV
  | .seq e, fr, s => (ev g e fr s).bind fun x s1 => optR s1 (itOf s1 x)
  | .rng a b, fr, s => (ev g a fr s).bind fun x s1 => (ev g b fr s1).bind fun y s2 => (match x, y with
    | .int i, .int j => if rngOk i j = true then .ok (none, rngD i j) s2 else .no
    | _, _ => .no)
/-- an expression as a test -/
def tst (g : G) : Ts → Fr → Sto → R Bool
  | .tt, _, s => .ok true s
  | .cmp o a b, fr, s => (ev g a fr s).bind fun x s1 => (ev g b fr s1).bind fun y s2 => optR s2 (cop o s2 x y)
  | .chain o o' a b c, fr, s => (ev g a fr s).bind fun x s1 => (ev g b fr s1).bind fun y s2 => (optR s2 (cop o s2 x y)).bind fun t s3 => (cond t ((ev g c fr s3).bind fun z s4 => optR s4 (cop o' s4 y z)) (.ok false s3))
  | .not a, fr, s => (tst g a fr s).bind fun b s1 => .ok (!b) s1
  | .and a b, fr, s => (tst g a fr s).bind fun t s1 => (cond t (tst g b fr s1) (.ok false s1))
  | .or a b, fr, s => (tst g a fr s).bind fun t s1 => (cond t (.ok true s1) (tst g b fr s1))
  | .e x, fr, s => (ev g x fr s).bind fun x s1 => optR s1 (tru s1 x)
termination_by structural x => x
end

/-! ### statements -/
inductive Wo where
  | nx (fr : Fr) (s : Sto) | rt (d : D) (s : Sto) | bk (fr : Fr) (s : Sto) | ct (fr : Fr) (s : Sto) | exc (c : Nat) (fs : List D) (fr : Fr) (s : Sto) | no
/-- behind an expression of a statement -/
def R.w {α : Type} (r : R α) (fr : Fr) (f : α → Sto → Wo) : Wo := match r with
  | .ok a s => f a s
  | .exc c fs s => .exc c fs fr s
  | .no => .no
def parF : List Nat → List D → Fr → Option Fr
  | [], [], fr => some fr
  | i :: is, x :: xs, fr => if i < fr.length then parF is xs (fr.set i (some x)) else none
  | _, _, _ => none
def augW (i : Nat) (o : Op) (fr : Fr) (x y : D) (s : Sto) : Wo := match x, y with
  | .int a, .int b => (optR s (bop o s (.int a) (.int b))).w fr fun z s3 => .nx (fr.set i (some z)) s3
  | _, _ => .no
def frAt (fr : Fr) (i : Nat) (s : Sto) : R D := match fr[i]? with
  | some (some d) => .ok d s
  | _ => .no
def whlL (c : Fr → Sto → R Bool) (b : Fr → Sto → Wo) : Nat → Fr → Sto → Wo
  | 0, _, _ => .no
  | n + 1, fr, s => (c fr s).w fr fun t s1 => match t with
    | false => .nx fr s1
    | true => match b fr s1 with
      | .nx fr2 s2 => whlL c b n fr2 s2
      | .ct fr2 s2 => whlL c b n fr2 s2
      | .bk fr2 s2 => .nx fr2 s2
      | r => r
def forL (gd : Option (Nat × List D)) (b : D → Fr → Sto → Wo) : List D → Fr → Sto → Wo
  | [], fr, s => if gok gd s then .nx fr s else .no
  | x :: xs, fr, s => if gok gd s then (match b x fr s with
      | .nx fr2 s2 => forL gd b xs fr2 s2
      | .ct fr2 s2 => forL gd b xs fr2 s2
      | .bk fr2 s2 => .nx fr2 s2
      | r => r) else .no
mutual
def sx (g : G) : Sm → Fr → Sto → Wo
  | .ex e, fr, s => (ev g e fr s).w fr fun _ s1 => .nx fr s1
  | .asg t e, fr, s => ((ev g e fr s).settled).w fr fun d s1 => (match bindT t d fr with
    | some fr2 => .nx fr2 s1
    | none => .no)
  | .par is es, fr, s => (evs g es fr s).w fr fun ds s1 => (match parF is ds fr with
    | some fr2 => .nx fr2 s1
    | none => .no)
  | .sub a i e, fr, s => ((ev g e fr s).settled).w fr fun v s1 => (ev g a fr s1).w fr fun o s2 => (ev g i fr s2).w fr fun i s3 => (putAt o i v s3).w fr fun _ s4 => .nx fr s4
  | .aug i o e, fr, s => (frAt fr i s).w fr fun x s1 => (ev g e fr s1).w fr fun y s2 => augW i o fr x y s2
  | .ret e, fr, s => (ev g e fr s).w fr fun d s1 => .rt d s1
  | .ret0, _, s => .rt .non s
  | .ife c a b, fr, s => (tst g c fr s).w fr fun t s1 => (cond t (sxs g a fr s1) (sxs g b fr s1))
  | .whl c b, fr, s => whlL (tst g c) (sxs g b) g.fuel fr s
  | .for_ t it b, fr, s => (evi g it fr s).w fr fun iv s1 => forL iv.1 (fun x fr s => match bindT t x fr with
    | some fr2 => sxs g b fr2 s
    | none => .no) iv.2 fr s1
  | .brk, fr, s => .bk fr s
  | .cnt, fr, s => .ct fr s
  | .pass, fr, s => .nx fr s
def sxs (g : G) : Sms → Fr → Sto → Wo
  | .nil, fr, s => .nx fr s
  | .cons a b, fr, s => (match sx g a fr s with
    | .nx fr2 s2 => sxs g b fr2 s2
    | r => r)
end

/-! ### functions -/
structure Fn where
  ar : Nat
  sz : Nat
  body : Sms
def startF (sz : Nat) (ds : List D) : Fr := ds.map some ++ List.replicate (sz - ds.length) none
def ofW (s₀ : Sto) : Wo → R D
  | .nx _ s => leave s₀ .non s
  | .rt d s => leave s₀ d s
  | .exc c fs _ s => .exc c fs s
  | _ => .no
/-- the functions, so deep -/
def gam (T : List Fn) (fuel : Nat) : Nat → G
  | 0 => ⟨fun _ _ _ => .no, fuel⟩
  | k + 1 => ⟨fun f ds s => match T[f]? with
    | some F => if ds.length = F.ar then ofW s (sxs (gam T fuel k) F.body (startF F.sz ds) s) else .no
    | none => .no, fuel⟩
end MP

set_option Elab.async false
set_option linter.all false
set_option maxRecDepth 100000
set_option maxHeartbeats 4000000
/-! How the store of the small language lies in the heap. -/
namespace MP
open PySem L2

abbrev Io := Nat → Addr
/-- a list that nobody writes -/
def Fro (K : PySem.W.Frag) (H : Hp) (a : Addr) (xs : List V) : Prop :=
  (∃ o, H a = some (.frz o (.lst xs))) ∨
    ∃ (o : Obj) (its : Array Value) (n : Nat), K.lookup a = some o ∧ o.cls = .type "list" ∧ o.dict = none ∧ o.data = .seq its n ∧ its.size ≤ sizeLine ∧ Vals xs its.toList
theorem Fro.sq {K : PySem.W.Frag} {H : Hp} {a : Addr} {xs : List V} (h : Fro K H a xs) : SqL K H a xs := by
  rcases h with ⟨o, h⟩ | h
  · exact .inl (.inr ⟨o, h⟩)
  · exact .inr h

mutual
def Rel (K : PySem.W.Frag) (ι : Io) (n : Nat) (H : Hp) : V → D → Prop
  | v, .non => v = .non
  | v, .bl b => v = .bl b
  | v, .int i => v = .int i
  | v, .str x => v = .str x
  | v, .tup xs => ∃ a vs, v = .ref a ∧ H a = some (.tup vs) ∧ Rels K ι n H vs xs
  | v, .fro xs => ∃ a vs, v = .ref a ∧ Fro K H a vs ∧ Rels K ι n H vs xs
  | _, .lst _ => False
  | v, .ref m => m < n ∧ v = .ref (ι m)
  | _, .exn _ _ => False
def Rels (K : PySem.W.Frag) (ι : Io) (n : Nat) (H : Hp) : List V → List D → Prop
  | vs, [] => vs = []
  | vs, d :: ds => ∃ v us, vs = v :: us ∧ Rel K ι n H v d ∧ Rels K ι n H us ds
end
def RelO (K : PySem.W.Frag) (ι : Io) (n : Nat) (H : Hp) (a : Addr) : O → Prop
  | .lst xs => ∃ vs, H a = some (.lst vs) ∧ Rels K ι n H vs xs
  | .dic _ => False
  | .ins _ _ => False
structure SR (K : PySem.W.Frag) (ι : Io) (s : Sto) (H : Hp) : Prop where
  inj : ∀ m n, m < s.length → n < s.length → ι m = ι n → m = n
  obj : ∀ n o, s[n]? = some o → RelO K ι s.length H (ι n) o
structure Gr (ι : Io) (n : Nat) (H : Hp) (ι' : Io) (n' : Nat) (H' : Hp) : Prop where
  le : n ≤ n'
  eq : ∀ m, m < n → ι' m = ι m
  tup : ∀ b vs, H b = some (.tup vs) → H' b = some (.tup vs)
  frz : ∀ b o u, H b = some (.frz o u) → H' b = some (.frz o u)
structure Ext (ι : Io) (n : Nat) (H : Hp) (ι' : Io) (n' : Nat) (H' : Hp) : Prop where
  le : n ≤ n'
  eq : ∀ m, m < n → ι' m = ι m
  new : ∀ m, n ≤ m → m < n' → H (ι' m) = none
  keep : ∀ b o, H b = some o → (∀ m, m < n → ι m ≠ b) → H' b = some o
  tup : ∀ b vs, H b = some (.tup vs) → H' b = some (.tup vs)
  frz : ∀ b o u, H b = some (.frz o u) → H' b = some (.frz o u)
  back : ∀ b, H' b = none → H b = none
/-- a value that may be a list just made (at an address that was free in H0) -/
def RelT (K : PySem.W.Frag) (ι : Io) (n : Nat) (H0 H : Hp) (v : V) : D → Prop
  | .lst xs => ∃ a vs, v = .ref a ∧ H0 a = none ∧ (∀ m, m < n → ι m ≠ a) ∧ H a = some (.lst vs) ∧ Rels K ι n H vs xs
  | d => Rel K ι n H v d
def FrR (K : PySem.W.Frag) (ι : Io) (n : Nat) (H : Hp) (σ : St) (fr : Fr) : Prop :=
  σ.length = fr.length ∧ ∀ (i : Nat) (d : D), fr[i]? = some (some d) → ∃ v, σ[i]? = some (some v) ∧ Rel K ι n H v d

section
variable {K : PySem.W.Frag} {ι ι' ι2 : Io} {n n' n2 : Nat} {H H' H0 H2 : Hp} {s s' : Sto}
theorem Ext.refl : Ext ι n H ι n H := ⟨Nat.le_refl _, fun _ _ => rfl, fun m h1 h2 => absurd h2 (Nat.not_lt.mpr h1), fun _ _ h _ => h, fun _ _ h => h, fun _ _ _ h => h, fun _ h => h⟩
theorem Ext.trans (a : Ext ι n H ι' n' H') (b : Ext ι' n' H' ι2 n2 H2) : Ext ι n H ι2 n2 H2 where
  le := Nat.le_trans a.le b.le
  eq := fun m h => (b.eq m (Nat.lt_of_lt_of_le h a.le)).trans (a.eq m h)
  new := fun m h1 h2 => by
    by_cases h : m < n'
    · rw [b.eq m h]; exact a.new m h1 h
    · exact a.back _ (b.new m (Nat.not_lt.mp h) h2)
  keep := fun c o e h => b.keep c o (a.keep c o e h) fun m hm q => by
    by_cases hn : m < n
    · exact h m hn ((a.eq m hn).symm.trans q)
    · have := a.new m (Nat.not_lt.mp hn) hm
      rw [q, e] at this; cases this
  tup := fun c vs e => b.tup c vs (a.tup c vs e)
  frz := fun c o u e => b.frz c o u (a.frz c o u e)
  back := fun c e => a.back c (b.back c e)
theorem Ext.gr (e : Ext ι n H ι' n' H') : Gr ι n H ι' n' H' := ⟨e.le, e.eq, e.tup, e.frz⟩
theorem Fro.gr (e : Gr ι n H ι' n' H') {a : Addr} {xs : List V} (h : Fro K H a xs) : Fro K H' a xs := by
  rcases h with ⟨o, h⟩ | h
  · exact .inl ⟨o, e.frz _ _ _ h⟩
  · exact .inr h
mutual
theorem Rel.gr (e : Gr ι n H ι' n' H') : ∀ (d : D) (v : V), Rel K ι n H v d → Rel K ι' n' H' v d
  | .non, v, h => by rw [Rel] at h ⊢; exact h
  | .bl b, v, h => by rw [Rel] at h ⊢; exact h
  | .int i, v, h => by rw [Rel] at h ⊢; exact h
  | .str x, v, h => by rw [Rel] at h ⊢; exact h
  | .tup xs, v, h => by
    rw [Rel] at h ⊢
    obtain ⟨a, vs, h1, h2, h3⟩ := h
    exact ⟨a, vs, h1, e.tup _ _ h2, Rels.gr e xs vs h3⟩
  | .fro xs, v, h => by
    rw [Rel] at h ⊢
    obtain ⟨a, vs, h1, h2, h3⟩ := h
    exact ⟨a, vs, h1, h2.gr e, Rels.gr e xs vs h3⟩
  | .lst xs, v, h => by rw [Rel] at h; exact h.elim
  | .ref m, v, h => by
    rw [Rel] at h ⊢
    exact ⟨Nat.lt_of_lt_of_le h.1 e.le, by rw [h.2, e.eq m h.1]⟩
  | .exn _ _, v, h => by rw [Rel] at h; exact h.elim
theorem Rels.gr (e : Gr ι n H ι' n' H') : ∀ (ds : List D) (vs : List V), Rels K ι n H vs ds → Rels K ι' n' H' vs ds
  | [], vs, h => by rw [Rels] at h ⊢; exact h
  | d :: ds, vs, h => by
    rw [Rels] at h ⊢
    obtain ⟨v, us, h1, h2, h3⟩ := h
    exact ⟨v, us, h1, Rel.gr e d v h2, Rels.gr e ds us h3⟩
end
theorem Rel.ext (e : Ext ι n H ι' n' H') (d : D) (v : V) (h : Rel K ι n H v d) : Rel K ι' n' H' v d := Rel.gr e.gr d v h
theorem Rels.ext (e : Ext ι n H ι' n' H') (ds : List D) (vs : List V) (h : Rels K ι n H vs ds) : Rels K ι' n' H' vs ds := Rels.gr e.gr ds vs h
theorem RelT.of {v : V} {d : D} (h : Rel K ι n H v d) : RelT K ι n H0 H v d := by
  cases d <;> first | exact h | (rw [Rel] at h; exact h.elim)
theorem RelT.ext (e : Ext ι n H ι' n' H') {v : V} {d : D} (h : RelT K ι n H0 H v d) : RelT K ι' n' H0 H' v d := by
  cases d with
  | lst xs =>
    obtain ⟨a, vs, h1, h2, h3, h4, h5⟩ := h
    refine ⟨a, vs, h1, h2, fun m hm q => ?_, e.keep _ _ h4 h3, Rels.ext e xs vs h5⟩
    by_cases hn : m < n
    · exact h3 m hn ((e.eq m hn).symm.trans q)
    · have := e.new m (Nat.not_lt.mp hn) hm
      rw [q, h4] at this; cases this
  | _ => exact Rel.ext e _ _ h
theorem RelT.free {Ha Hb : Hp} (k : ∀ b, Hb b = none → Ha b = none) {v : V} {d : D} (h : RelT K ι n Hb H v d) : RelT K ι n Ha H v d := by
  cases d with
  | lst xs =>
    obtain ⟨a, vs, h1, h2, h3⟩ := h
    exact ⟨a, vs, h1, k a h2, h3⟩
  | _ => exact h
theorem FrR.ext (e : Ext ι n H ι' n' H') {σ : St} {fr : Fr} (h : FrR K ι n H σ fr) : FrR K ι' n' H' σ fr :=
  ⟨h.1, fun i d q => by
    obtain ⟨v, h1, h2⟩ := h.2 i d q
    exact ⟨v, h1, Rel.ext e d v h2⟩⟩
theorem Rels.length : ∀ {ds : List D} {vs : List V}, Rels K ι n H vs ds → vs.length = ds.length
  | [], vs, h => by rw [Rels] at h; rw [h]; rfl
  | d :: ds, vs, h => by
    rw [Rels] at h
    obtain ⟨v, us, rfl, _, h3⟩ := h
    rw [List.length_cons, List.length_cons, Rels.length h3]
theorem Rels.get : ∀ {ds : List D} {vs : List V} {i : Nat} {d : D}, Rels K ι n H vs ds → ds[i]? = some d → ∃ v, vs[i]? = some v ∧ Rel K ι n H v d
  | [], _, _, _, _, e => by simp at e
  | d :: ds, vs, 0, _, h, e => by
    rw [Rels] at h
    obtain ⟨v, us, rfl, h2, _⟩ := h
    simp at e; subst e
    exact ⟨v, rfl, h2⟩
  | d :: ds, vs, i + 1, _, h, e => by
    rw [Rels] at h
    obtain ⟨v, us, rfl, _, h3⟩ := h
    obtain ⟨w, h4, h5⟩ := Rels.get (i := i) h3 (by simpa using e)
    exact ⟨w, by simpa using h4, h5⟩
theorem Rels.append : ∀ {ds es : List D} {vs us : List V}, Rels K ι n H vs ds → Rels K ι n H us es → Rels K ι n H (vs ++ us) (ds ++ es)
  | [], _, vs, us, h, q => by rw [Rels] at h; subst h; exact q
  | d :: ds, es, vs, us, h, q => by
    rw [Rels] at h
    obtain ⟨v, ws, rfl, h2, h3⟩ := h
    rw [List.cons_append, List.cons_append, Rels]
    exact ⟨v, ws ++ us, rfl, h2, Rels.append h3 q⟩
theorem Rels.cons {d : D} {ds : List D} {v : V} {vs : List V} (h : Rel K ι n H v d) (q : Rels K ι n H vs ds) : Rels K ι n H (v :: vs) (d :: ds) := by
  rw [Rels]; exact ⟨v, vs, rfl, h, q⟩
theorem Rels.nil : Rels K ι n H [] [] := by rw [Rels]
theorem Rels.take : ∀ (k : Nat) {ds : List D} {vs : List V}, Rels K ι n H vs ds → Rels K ι n H (vs.take k) (ds.take k)
  | 0, _, _, _ => Rels.nil
  | k + 1, [], vs, h => by rw [Rels] at h; subst h; exact Rels.nil
  | k + 1, d :: ds, vs, h => by
    rw [Rels] at h
    obtain ⟨v, ws, rfl, h2, h3⟩ := h
    exact Rels.cons h2 (Rels.take k h3)
theorem Rels.drop : ∀ (k : Nat) {ds : List D} {vs : List V}, Rels K ι n H vs ds → Rels K ι n H (vs.drop k) (ds.drop k)
  | 0, _, _, h => h
  | k + 1, [], vs, h => by rw [Rels] at h; subst h; exact Rels.nil
  | k + 1, d :: ds, vs, h => by
    rw [Rels] at h
    obtain ⟨v, ws, rfl, h2, h3⟩ := h
    exact Rels.drop k h3
theorem Rels.set : ∀ (k : Nat) {ds : List D} {vs : List V} {d : D} {v : V}, Rels K ι n H vs ds → Rel K ι n H v d → Rels K ι n H (vs.set k v) (ds.set k d)
  | _, [], vs, _, _, h, _ => by rw [Rels] at h; subst h; exact Rels.nil
  | 0, d :: ds, vs, _, _, h, q => by
    rw [Rels] at h
    obtain ⟨v, ws, rfl, h2, h3⟩ := h
    exact Rels.cons q h3
  | k + 1, d :: ds, vs, _, _, h, q => by
    rw [Rels] at h
    obtain ⟨v, ws, rfl, h2, h3⟩ := h
    exact Rels.cons h2 (Rels.set k h3 q)
theorem Rels.eraseIdx : ∀ (k : Nat) {ds : List D} {vs : List V}, Rels K ι n H vs ds → Rels K ι n H (vs.eraseIdx k) (ds.eraseIdx k)
  | _, [], vs, h => by rw [Rels] at h; subst h; simpa using Rels.nil
  | 0, d :: ds, vs, h => by
    rw [Rels] at h
    obtain ⟨v, ws, rfl, h2, h3⟩ := h
    exact h3
  | k + 1, d :: ds, vs, h => by
    rw [Rels] at h
    obtain ⟨v, ws, rfl, h2, h3⟩ := h
    exact Rels.cons h2 (Rels.eraseIdx k h3)
theorem Rels.reverse : ∀ {ds : List D} {vs : List V}, Rels K ι n H vs ds → Rels K ι n H vs.reverse ds.reverse
  | [], vs, h => by rw [Rels] at h; subst h; exact Rels.nil
  | d :: ds, vs, h => by
    rw [Rels] at h
    obtain ⟨v, ws, rfl, h2, h3⟩ := h
    rw [List.reverse_cons, List.reverse_cons]
    exact Rels.append (Rels.reverse h3) (Rels.cons h2 Rels.nil)
theorem Rels.rep {ds : List D} {vs : List V} (h : Rels K ι n H vs ds) : ∀ k : Nat, Rels K ι n H (List.replicate k vs).flatten (List.replicate k ds).flatten
  | 0 => Rels.nil
  | k + 1 => by
    rw [List.replicate_succ, List.replicate_succ, List.flatten_cons, List.flatten_cons]
    exact Rels.append h (Rels.rep h k)
theorem Rels.cutV {ds : List D} {vs : List V} (h : Rels K ι n H vs ds) (lo hi : Option Int) : Rels K ι n H (L2.cutV vs lo hi) (cut ds lo hi) := by
  unfold L2.cutV cut
  rw [h.length]
  exact Rels.take _ (Rels.drop _ h)
/-! ### what is where -/
theorem SR.lst (S : SR K ι s H) {m : Nat} {xs : List D} (e : s[m]? = some (.lst xs)) : ∃ vs, H (ι m) = some (.lst vs) ∧ Rels K ι s.length H vs xs := S.obj m _ e
theorem lt_of_some {α : Type} {l : List α} {i : Nat} {a : α} (e : l[i]? = some a) : i < l.length := (List.getElem?_eq_some_iff.mp e).1
theorem SR.there (S : SR K ι s H) {m : Nat} (h : m < s.length) : ∃ o, H (ι m) = some o ∧ (∀ vs, o ≠ .tup vs) ∧ ∀ a u, o ≠ .frz a u := by
  obtain ⟨o, e⟩ : ∃ o, s[m]? = some o := ⟨_, List.getElem?_eq_getElem h⟩
  have q := S.obj m o e
  cases o with
  | lst xs =>
    obtain ⟨vs, h1, _⟩ := q
    exact ⟨_, h1, (fun _ z => nomatch z), fun _ _ z => nomatch z⟩
  | dic _ => exact q.elim
  | ins _ _ => exact q.elim
/-- a new object that the store does not tell -/
theorem Ext.put {p : Addr} {o : HO} (S : SR K ι s H) (h : H p = none) : Ext ι s.length H ι s.length (upd H p o) :=
  ⟨Nat.le_refl _, fun _ _ => rfl, fun m h1 h2 => absurd h2 (Nat.not_lt.mpr h1), fun b u e _ => by rw [upd_ne (ne_of_none e h)]; exact e,
    fun b u e => by rw [upd_ne (ne_of_none e h)]; exact e, fun b u e q => by rw [upd_ne (ne_of_none q h)]; exact q, fun b e => by
      by_cases hb : b = p
      · subst hb; rw [upd_same] at e; cases e
      · rw [upd_ne hb] at e; exact e⟩
theorem RelO.ext (e : Ext ι n H ι' n' H') {a : Addr} {o : O} (k : ∀ vs, H a = some (.lst vs) → H' a = some (.lst vs)) (h : RelO K ι n H a o) : RelO K ι' n' H' a o := by
  cases o with
  | lst xs =>
    obtain ⟨vs, h1, h2⟩ := h
    exact ⟨vs, k vs h1, Rels.ext e xs vs h2⟩
  | dic _ => exact h.elim
  | ins _ _ => exact h.elim
theorem SR.put {p : Addr} {o : HO} (S : SR K ι s H) (h : H p = none) : SR K ι s (upd H p o) :=
  ⟨S.inj, fun m u e => RelO.ext (Ext.put S h) (fun vs q => by rw [upd_ne (ne_of_none q h)]; exact q) (S.obj m u e)⟩
/-- a list of the store is written -/
theorem Ext.write {m : Nat} {vs ws : List V} (h : m < s.length) (e : H (ι m) = some (.lst vs)) : Ext ι s.length H ι s.length (upd H (ι m) (.lst ws)) :=
  ⟨Nat.le_refl _, fun _ _ => rfl, fun m h1 h2 => absurd h2 (Nat.not_lt.mpr h1), fun b u q k => by rw [upd_ne (fun z => k m h z.symm)]; exact q,
    fun b u q => by rw [upd_ne (ne_of q e (by intro z; cases z))]; exact q, fun b u z q => by rw [upd_ne (ne_of q e (by intro z; cases z))]; exact q, fun b q => by
      by_cases hb : b = ι m
      · subst hb; rw [upd_same] at q; cases q
      · rw [upd_ne hb] at q; exact q⟩
theorem SR.write {m : Nat} {vs ws : List V} {zs : List D} (S : SR K ι s H) (h : m < s.length) (e : H (ι m) = some (.lst vs)) (r : Rels K ι s.length H ws zs) : SR K ι (s.set m (.lst zs)) (upd H (ι m) (.lst ws)) := by
  have x := Ext.write (ws := ws) h e
  refine ⟨fun a b ha hb q => S.inj a b (by simpa using ha) (by simpa using hb) q, fun k o q => ?_⟩
  rw [List.length_set]
  by_cases hk : m = k
  · subst hk
    rw [List.getElem?_set_self h] at q
    cases q
    exact ⟨ws, upd_same, Rels.ext x _ _ r⟩
  · rw [List.getElem?_set_ne hk] at q
    refine RelO.ext x (fun us z => ?_) (S.obj k o q)
    rw [upd_ne (fun z => hk (S.inj m k h (lt_of_some q) z.symm))]
    exact z
/-- a list just made is laid into the store -/
def Io.put (ι : Io) (n : Nat) (a : Addr) : Io := fun m => if m = n then a else ι m
theorem Io.put_same {ι : Io} {n : Nat} {a : Addr} : ι.put n a n = a := if_pos rfl
theorem Io.put_lt {ι : Io} {n m : Nat} {a : Addr} (h : m < n) : ι.put n a m = ι m := if_neg (Nat.ne_of_lt h)
theorem Gr.lay (ι : Io) (n : Nat) (H : Hp) (a : Addr) : Gr ι n H (ι.put n a) (n + 1) H := ⟨Nat.le_succ _, fun m h => Io.put_lt h, fun _ _ h => h, fun _ _ _ h => h⟩
theorem SR.lay {a : Addr} {vs : List V} {xs : List D} (S : SR K ι s H) (na : ∀ m, m < s.length → ι m ≠ a) (e : H a = some (.lst vs)) (r : Rels K ι s.length H vs xs) :
    SR K (ι.put s.length a) (s ++ [.lst xs]) H := by
  have hl : (s ++ [O.lst xs]).length = s.length + 1 := by simp
  have g := Gr.lay ι s.length H a
  refine ⟨fun m n hm hn q => ?_, fun m o q => ?_⟩
  · rw [hl] at hm hn
    by_cases h1 : m < s.length
    · rw [Io.put_lt h1] at q
      by_cases h2 : n < s.length
      · rw [Io.put_lt h2] at q
        exact S.inj m n h1 h2 q
      · have : n = s.length := by omega
        subst this
        rw [Io.put_same] at q
        exact absurd q (na m h1)
    · have : m = s.length := by omega
      subst this
      rw [Io.put_same] at q
      by_cases h2 : n < s.length
      · rw [Io.put_lt h2] at q
        exact absurd q.symm (na n h2)
      · omega
  · rw [hl]
    by_cases h1 : m < s.length
    · rw [List.getElem?_append_left h1] at q
      rw [Io.put_lt h1]
      have z := S.obj m o q
      cases o with
      | lst ys =>
        obtain ⟨us, h2, h3⟩ := z
        exact ⟨us, h2, Rels.gr g _ _ h3⟩
      | dic _ => exact z.elim
      | ins _ _ => exact z.elim
    · have hm := lt_of_some q
      rw [hl] at hm
      have : m = s.length := by omega
      subst this
      rw [List.getElem?_append_right (Nat.le_refl _)] at q
      simp at q
      subst q
      rw [Io.put_same]
      exact ⟨vs, e, Rels.gr g _ _ r⟩
end
end MP

set_option Elab.async false
set_option linter.all false
set_option maxRecDepth 100000
set_option maxHeartbeats 4000000
/-! The readings of the small language's terms, and their rules: expressions. -/
namespace MP
open PySem L2

/-- the exceptions' classes: where they stand, their fields -/
structure Ctb where
  ca : Nat → Addr
  cn : Nat → List Str
abbrev EK := Value → Option Addr → Hp → Prop
def RelX (K : PySem.W.Frag) (C : Ctb) (ι : Io) (n : Nat) (H : Hp) (c : Nat) (fs : List D) (cls : Value) (d : Option Addr) : Prop :=
  cls = .ref (C.ca c) ∧ ∃ dd fvs, d = some dd ∧ H dd = some (.xd fvs) ∧ (C.cn c).length = fs.length ∧ ∀ (j : Nat) (f : Str) (x : D), (C.cn c)[j]? = some f → fs[j]? = some x → ∃ v, fvs.lookup f = some v ∧ Rel K ι n H v x
/-- what is wanted of a result -/
def Out {α : Type} (K : PySem.W.Frag) (C : Ctb) (E : EK) (ι : Io) (n : Nat) (H : Hp) (r : R α) (P : Io → Sto → Hp → α → Prop) : Prop := match r with
  | .ok a s => ∀ ι' H', Ext ι n H ι' s.length H' → SR K ι' s H' → P ι' s H' a
  | .exc c fs s => ∀ ι' H' cls d, Ext ι n H ι' s.length H' → SR K ι' s H' → RelX K C ι' s.length H' c fs cls d → E cls d H'
  | .no => False
section
variable {α β : Type} {K : PySem.W.Frag} {C : Ctb} {E : EK} {ι ι' : Io} {n n' : Nat} {H H' : Hp}
theorem Out.start (x : Ext ι n H ι' n' H') {r : R α} {P : Io → Sto → Hp → α → Prop} (h : Out K C E ι n H r P) : Out K C E ι' n' H' r P := by
  cases r with
  | ok a s => exact fun ι2 H2 y S => h ι2 H2 (x.trans y) S
  | exc c fs s => exact fun ι2 H2 cls d y S => h ι2 H2 cls d (x.trans y) S
  | no => exact h
theorem Out.bind {r : R α} {f : α → Sto → R β} {P : Io → Sto → Hp → β → Prop} (h : Out K C E ι n H (r.bind f) P) :
    Out K C E ι n H r (fun ι1 s1 H1 a => Ext ι n H ι1 s1.length H1 ∧ SR K ι1 s1 H1 ∧ Out K C E ι1 s1.length H1 (f a s1) P) := by
  cases r with
  | ok a s => exact fun ι1 H1 x S => ⟨x, S, Out.start x h⟩
  | exc c fs s => exact h
  | no => exact h
theorem Out.imp {r : R α} {P P' : Io → Sto → Hp → α → Prop} (h : Out K C E ι n H r P) (k : ∀ ι' s' H' a, Ext ι n H ι' s'.length H' → SR K ι' s' H' → P ι' s' H' a → P' ι' s' H' a) : Out K C E ι n H r P' := by
  cases r with
  | ok a s => exact fun ι1 H1 x S => k ι1 s H1 a x S (h ι1 H1 x S)
  | exc c fs s => exact h
  | no => exact h
theorem Out.impE {r : R α} {P P' : Io → Sto → Hp → α → Prop} (h : Out K C E ι n H r P) (k : ∀ ι' s' H' a, r = .ok a s' → Ext ι n H ι' s'.length H' → SR K ι' s' H' → P ι' s' H' a → P' ι' s' H' a) : Out K C E ι n H r P' := by
  cases r with
  | ok a s => exact fun ι1 H1 x S => k ι1 s H1 a rfl x S (h ι1 H1 x S)
  | exc c fs s => exact h
  | no => exact h
theorem R.bind_ok {r : R α} {f : α → Sto → R β} {b : β} {s : Sto} (h : r.bind f = .ok b s) : ∃ a s1, r = .ok a s1 ∧ f a s1 = .ok b s := by
  cases r with
  | ok a s1 => exact ⟨a, s1, rfl, h⟩
  | exc c fs s1 => cases h
  | no => cases h
theorem optR_ok {s s' : Sto} {o : Option α} {a : α} (h : optR s o = .ok a s') : o = some a ∧ s' = s := by
  cases o with
  | none => cases h
  | some b => cases h; exact ⟨rfl, rfl⟩
theorem Out.opt {s : Sto} {o : Option α} {P : Io → Sto → Hp → α → Prop} (S : SR K ι s H) (h : Out K C E ι s.length H (optR s o) P) : ∃ a, o = some a ∧ ∀ ι' H', Ext ι s.length H ι' s.length H' → SR K ι' s H' → P ι' s H' a := by
  cases o with
  | none => exact h.elim
  | some a => exact ⟨a, rfl, fun ι' H' x S => h ι' H' x S⟩
end

abbrev Fin1 (K : PySem.W.Frag) (H : Hp) (Q : VK) : Io → Sto → Hp → D → Prop := fun ι' s' H' d => ∀ v, RelT K ι' s'.length H H' v d → Q v H'
/-- the reading of a term -/
def tE (g : G) (K : PySem.W.Frag) (C : Ctb) (W : WX) (x : Ex) : TE := fun σ H Q => ∃ ι s fr, SR K ι s H ∧ FrR K ι s.length H σ fr ∧ Out K C (fun c d H' => W c d σ H') ι s.length H (ev g x fr s) (Fin1 K H Q)
/-- of a test -/
def tT (g : G) (K : PySem.W.Frag) (C : Ctb) (W : WX) (x : Ts) : TT := fun σ H Q => ∃ ι s fr, SR K ι s H ∧ FrR K ι s.length H σ fr ∧ Out K C (fun c d H' => W c d σ H') ι s.length H (tst g x fr s) (fun _ _ H' b => Q b H')
/-- of arguments -/
def tA (g : G) (K : PySem.W.Frag) (C : Ctb) (W : WX) (x : Exs) : TA := fun σ H Q => ∃ ι s fr, SR K ι s H ∧ FrR K ι s.length H σ fr ∧ Out K C (fun c d H' => W c d σ H') ι s.length H (evs g x fr s) (fun ι' s' H' ds => ∀ vs, Rels K ι' s'.length H' vs ds → Q vs H')
/-- of one value, of two, of arguments: what is wanted -/
def rV1 (K : PySem.W.Frag) (C : Ctb) (E : EK) (f : D → Sto → R D) : V → Hp → VK → Prop := fun v H Q => ∃ ι s d H0, SR K ι s H ∧ RelT K ι s.length H0 H v d ∧ Out K C E ι s.length H (f d s) (Fin1 K H Q)
def rV2 (K : PySem.W.Frag) (C : Ctb) (E : EK) (f : D → D → Sto → R D) : R2 := fun v u H Q => ∃ ι s d e H0 H1, SR K ι s H ∧ RelT K ι s.length H0 H v d ∧ RelT K ι s.length H1 H u e ∧ Out K C E ι s.length H (f d e s) (Fin1 K H Q)
def rVs (K : PySem.W.Frag) (C : Ctb) (E : EK) (f : List D → Sto → R D) : List V → Hp → VK → Prop := fun vs H Q => ∃ ι s ds, SR K ι s H ∧ Rels K ι s.length H vs ds ∧ Out K C E ι s.length H (f ds s) (Fin1 K H Q)
section
variable {g : G} {K : PySem.W.Frag} {C : Ctb} {W : WX} {σ : St} {H : Hp} {Q : VK}
theorem Fin1.of {H H1 : Hp} (k : ∀ b, H1 b = none → H b = none) {ι : Io} {s : Sto} {H' : Hp} {d : D} (h : Fin1 K H Q ι s H' d) : Fin1 K H1 Q ι s H' d := fun v r => h v (r.free k)
theorem Out.fin {E : EK} {ι : Io} {n : Nat} {H0 H1 : Hp} {r : R D} (k : ∀ b, H1 b = none → H b = none) (h : Out K C E ι n H0 r (Fin1 K H Q)) : Out K C E ι n H0 r (Fin1 K H1 Q) := h.imp fun _ _ _ _ _ _ q => q.of k
/-- one part, then something -/
theorem tE.one {x a : Ex} {f : D → Sto → R D} (e : ∀ fr s, ev g x fr s = (ev g a fr s).bind f) (h : tE g K C W x σ H Q) : tE g K C W a σ H (fun v H1 => rV1 K C (fun c d H' => W c d σ H') f v H1 Q) := by
  obtain ⟨ι, s, fr, S, F, o⟩ := h
  rw [e] at o
  exact ⟨ι, s, fr, S, F, o.bind.imp fun ι1 s1 H1 d x S1 ⟨_, _, q⟩ v r => ⟨ι1, s1, d, H, S1, r, q.fin x.back⟩⟩
theorem tE.two {x a b : Ex} {f : D → D → Sto → R D} (e : ∀ fr s, ev g x fr s = (ev g a fr s).bind fun d s1 => (ev g b fr s1).bind fun d' s2 => f d d' s2) (h : tE g K C W x σ H Q) :
    tE g K C W a σ H (fun v H1 => tE g K C W b σ H1 fun u H2 => rV2 K C (fun c d H' => W c d σ H') f v u H2 Q) := by
  obtain ⟨ι, s, fr, S, F, o⟩ := h
  rw [e] at o
  refine ⟨ι, s, fr, S, F, o.bind.imp fun ι1 s1 H1 d x S1 ⟨_, _, q⟩ v r => ⟨ι1, s1, fr, S1, F.ext x, q.bind.imp fun ι2 s2 H2 d' y S2 ⟨_, _, q2⟩ u r2 => ⟨ι2, s2, d, d', H, H1, S2, r.ext y, r2, q2.fin (x.trans y).back⟩⟩⟩
end

/-! ### weaker readings -/
section
variable {X : Cx}
theorem pe_mono {e : Expr} {t t' : TE} (h : PE X e t) (k : ∀ σ H Q, t' σ H Q → t σ H Q) : PE X e t' := ⟨fun pins s σ H Q I q => h.run pins s σ H Q I (k σ H Q q)⟩
theorem pt_mono {e : Expr} {t t' : TT} (h : PT X e t) (k : ∀ σ H Q, t' σ H Q → t σ H Q) : PT X e t' := ⟨fun pins s σ H Q I q => h.run pins s σ H Q I (k σ H Q q)⟩
theorem pw_mono {e : Expr} {t t' : TT} (h : PW X e t) (k : ∀ σ H Q, t' σ H Q → t σ H Q) : PW X e t' := ⟨fun w pins s σ H Q I q => h.run w pins s σ H Q I (k σ H Q q)⟩
theorem pa_mono {e : List Expr} {t t' : TA} (h : PA X e t) (k : ∀ σ H Q, t' σ H Q → t σ H Q) : PA X e t' := ⟨fun pos pins s σ H Q I q => h.run pos pins s σ H Q I (k σ H Q q)⟩
theorem ps_mono {e : Stmt} {t t' : TS} (h : PS X e t) (k : ∀ D σ H, t' D σ H → t D σ H) : PS X e t' := ⟨fun pins s σ H D I q => h.run pins s σ H D I (k D σ H q)⟩
theorem pss_mono {e : List Stmt} {t t' : TS} (h : PSs X e t) (k : ∀ D σ H, t' D σ H → t D σ H) : PSs X e t' := ⟨fun pins s σ H D I q => h.run pins s σ H D I (k D σ H q)⟩
end

/-! ### names, constants -/
section
variable {X : Cx} {g : G} {C : Ctb} {W : WX} {pos : Pos}
theorem e_var {i : Nat} {x : Str} (hN : X.N[i]? = some x) (hv : Vis X.env.scope x) (hd : (x == ("__debug__" : Str)) = false) (hcd : (x == ("__classdict__" : Str)) = false) : PE X (.Name x pos) (tE g X.K C W (.var i)) := by
  refine pe_mono (pe_var hN hv hd hcd) fun σ H Q h => ?_
  obtain ⟨ι, s, fr, S, F, o⟩ := h
  rw [ev] at o
  cases e : fr[i]? with
  | none => rw [e] at o; exact o.elim
  | some d =>
    rw [e] at o
    cases d with
    | none => exact o.elim
    | some d =>
      obtain ⟨v, h1, h2⟩ := F.2 i d e
      exact ⟨v, h1, o ι H .refl S v (.of h2)⟩
/-- a constant's value -/
def conOk : Const → D → Bool
  | .int i, .int j => decide (i = j)
  | .bool a, .bl b => a == b
  | .none, .non => true
  | .str x, .str y => decide (x = y)
  | _, _ => false
theorem e_con {c : Const} {k : Nat} {d : D} (h : conOk c d = true) : PE X (.Constant c k pos) (tE g X.K C W (.con d)) := by
  have fin : ∀ {v : V} {σ H Q}, (∀ ι n, Rel X.K ι n H v d) → tE g X.K C W (.con d) σ H Q → Q v H := fun {v σ H Q} r q => by
    obtain ⟨ι, s, fr, S, F, o⟩ := q
    rw [ev] at o
    exact o ι H .refl S v (.of (r _ _))
  cases c <;> cases d <;> first | (simp [conOk] at h; done) | skip
  · exact pe_mono pe_non fun σ H Q q => fin (fun _ _ => by rw [Rel]) q
  · rename_i a b; simp [conOk] at h; subst h; exact pe_mono pe_bl fun σ H Q q => fin (fun _ _ => by rw [Rel]) q
  · rename_i a b; simp [conOk] at h; subst h; exact pe_mono pe_int fun σ H Q q => fin (fun _ _ => by rw [Rel]) q
  · rename_i a b; simp [conOk] at h; subst h; exact pe_mono pe_str fun σ H Q q => fin (fun _ _ => by rw [Rel]) q
end
end MP

set_option Elab.async false
set_option linter.all false
set_option maxRecDepth 100000
set_option maxHeartbeats 4000000
/-! Operators, comparisons, truth. -/
namespace MP
open PySem L2

section
variable {K : PySem.W.Frag} {C : Ctb} {ι : Io} {s : Sto} {H H0 : Hp} {v : V} {Q : VK} {n : Nat}
theorem RelT.int {i : Int} (h : RelT K ι n H0 H v (.int i)) : v = .int i := by
  have h : Rel K ι n H v (.int i) := h
  rw [Rel] at h; exact h
theorem RelT.bl {i : Bool} (h : RelT K ι n H0 H v (.bl i)) : v = .bl i := by
  have h : Rel K ι n H v (.bl i) := h
  rw [Rel] at h; exact h
theorem RelT.str {i : Str} (h : RelT K ι n H0 H v (.str i)) : v = .str i := by
  have h : Rel K ι n H v (.str i) := h
  rw [Rel] at h; exact h
theorem RelT.non (h : RelT K ι n H0 H v .non) : v = .non := by
  have h : Rel K ι n H v .non := h
  rw [Rel] at h; exact h
theorem RelT.tup {xs : List D} (h : RelT K ι n H0 H v (.tup xs)) : ∃ a vs, v = .ref a ∧ H a = some (.tup vs) ∧ Rels K ι n H vs xs := by
  have h : Rel K ι n H v (.tup xs) := h
  rw [Rel] at h; exact h
theorem RelT.fro {xs : List D} (h : RelT K ι n H0 H v (.fro xs)) : ∃ a vs, v = .ref a ∧ Fro K H a vs ∧ Rels K ι n H vs xs := by
  have h : Rel K ι n H v (.fro xs) := h
  rw [Rel] at h; exact h
theorem RelT.ref {m : Nat} (h : RelT K ι n H0 H v (.ref m)) : m < n ∧ v = .ref (ι m) := by
  have h : Rel K ι n H v (.ref m) := h
  rw [Rel] at h; exact h
theorem RelT.exn {c : Nat} {fs : List D} (h : RelT K ι n H0 H v (.exn c fs)) : False := by
  have h : Rel K ι n H v (.exn c fs) := h
  rw [Rel] at h; exact h
theorem Rels.nil_of : ∀ {ds : List D}, Rels K ι n H [] ds → ds = []
  | [], _ => rfl
  | d :: ds, h => by
    rw [Rels] at h
    obtain ⟨_, _, z, _⟩ := h
    cases z
theorem lstOf_ok (S : SR K ι s H) {d : D} {xs : List D} (h : RelT K ι s.length H0 H v d) (e : lstOf s d = some xs) :
    ∃ a vs, v = .ref a ∧ SqL K H a vs ∧ Rels K ι s.length H vs xs ∧ ((∀ ys, d ≠ .fro ys) → H a = some (.lst vs)) := by
  cases d with
  | fro ys =>
    cases e
    obtain ⟨a, vs, h1, h2, h3⟩ := h.fro
    exact ⟨a, vs, h1, h2.sq, h3, fun z => absurd rfl (z _)⟩
  | lst ys =>
    cases e
    obtain ⟨a, vs, h1, _, _, h4, h5⟩ := h
    exact ⟨a, vs, h1, .of h4, h5, fun _ => h4⟩
  | ref m =>
    obtain ⟨hm, rfl⟩ := h.ref
    have e2 : (match s[m]? with
      | some (.lst xs) => some xs
      | _ => none) = some xs := e
    cases q : s[m]? with
    | none => rw [q] at e2; cases e2
    | some o =>
      rw [q] at e2
      cases o with
      | lst ys =>
        cases e2
        obtain ⟨vs, h4, h5⟩ := S.lst q
        exact ⟨ι m, vs, rfl, .of h4, h5, fun _ => h4⟩
      | _ => cases e2
  | _ => cases e
theorem wOf_ok (S : SR K ι s H) {d : D} {xs : List D} (h : RelT K ι s.length H0 H v d) (e : wOf s d = some xs) :
    ∃ a vs, v = .ref a ∧ H a = some (.lst vs) ∧ Rels K ι s.length H vs xs := by
  have nf : ∀ ys, d ≠ .fro ys := fun ys z => by subst z; cases e
  have e2 : lstOf s d = some xs := by
    cases d <;> first | exact e | cases e
  obtain ⟨a, vs, h1, _, h3, h4⟩ := lstOf_ok S h e2
  exact ⟨a, vs, h1, h4 nf, h3⟩
theorem seqOf_ok (S : SR K ι s H) {d : D} {xs : List D} (h : RelT K ι s.length H0 H v d) (e : seqOf s d = some xs) :
    ∃ a vs, v = .ref a ∧ (SqL K H a vs ∨ SqT K H a vs) ∧ Rels K ι s.length H vs xs ∧ ((∃ ys, d = .tup ys) → SqT K H a vs) ∧ ((∀ ys, d ≠ .tup ys) → SqL K H a vs) := by
  cases d with
  | tup ys =>
    cases e
    obtain ⟨a, vs, h1, h2, h3⟩ := h.tup
    exact ⟨a, vs, h1, .inr (.of h2), h3, fun _ => .of h2, fun z => absurd rfl (z _)⟩
  | fro ys => obtain ⟨a, vs, h1, h2, h3, _⟩ := lstOf_ok S h e; exact ⟨a, vs, h1, .inl h2, h3, (fun ⟨_, z⟩ => nomatch z), fun _ => h2⟩
  | lst ys => obtain ⟨a, vs, h1, h2, h3, _⟩ := lstOf_ok S h e; exact ⟨a, vs, h1, .inl h2, h3, (fun ⟨_, z⟩ => nomatch z), fun _ => h2⟩
  | ref m => obtain ⟨a, vs, h1, h2, h3, _⟩ := lstOf_ok S h e; exact ⟨a, vs, h1, .inl h2, h3, (fun ⟨_, z⟩ => nomatch z), fun _ => h2⟩
  | _ => cases e
/-! ### what a result is -/
abbrev FinS (K : PySem.W.Frag) (ι : Io) (s : Sto) (H : Hp) (Q : VK) (d : D) : Prop := ∀ ι' H', Ext ι s.length H ι' s.length H' → SR K ι' s H' → Fin1 K H Q ι' s H' d
theorem FinS.same {d : D} (S : SR K ι s H) (f : FinS K ι s H Q d) (r : Rel K ι s.length H v d) : Q v H := f ι H .refl S v (.of r)
theorem FinS.sameT {d : D} (S : SR K ι s H) (f : FinS K ι s H Q d) (r : RelT K ι s.length H H v d) : Q v H := f ι H .refl S v r
theorem FinS.int {i : Int} (S : SR K ι s H) (f : FinS K ι s H Q (.int i)) : Q (.int i) H := f.same S (by rw [Rel])
theorem FinS.bl {i : Bool} (S : SR K ι s H) (f : FinS K ι s H Q (.bl i)) : Q (.bl i) H := f.same S (by rw [Rel])
theorem FinS.str {i : Str} (S : SR K ι s H) (f : FinS K ι s H Q (.str i)) : Q (.str i) H := f.same S (by rw [Rel])
theorem FinS.non (S : SR K ι s H) (f : FinS K ι s H Q .non) : Q .non H := f.same S (by rw [Rel])
theorem FinS.tup {p : Addr} {vs : List V} {xs : List D} (S : SR K ι s H) (hp : H p = none) (r : Rels K ι s.length H vs xs) (f : FinS K ι s H Q (.tup xs)) : Q (.ref p) (upd H p (.tup vs)) := by
  refine f ι _ (.put S hp) (S.put hp) _ (.of ?_)
  rw [Rel]
  exact ⟨p, vs, rfl, upd_same, Rels.ext (.put S hp) _ _ r⟩
theorem FinS.lst {p : Addr} {vs : List V} {xs : List D} (S : SR K ι s H) (hp : H p = none) (r : Rels K ι s.length H vs xs) (f : FinS K ι s H Q (.lst xs)) : Q (.ref p) (upd H p (.lst vs)) := by
  refine f ι _ (.put S hp) (S.put hp) _ ⟨p, vs, rfl, hp, fun m hm z => ?_, upd_same, Rels.ext (.put S hp) _ _ r⟩
  obtain ⟨o, e, _⟩ := S.there hm
  rw [z, hp] at e; cases e
end
theorem lim_eq : lim = sizeLine := by rw [sizeLine_eq]; rfl
theorem lim_le {n : Nat} (h : Short n) : n ≤ sizeLine := by rw [← lim_eq]; exact h

/-! ### operators -/
section
variable {X : Cx} {C : Ctb} {E : EK}
abbrev rB (X : Cx) (C : Ctb) (E : EK) (o : Op) : R2 := rV2 X.K C E fun d e s => optR s (bop o s d e)
theorem cmul_of {i j : Int} (h : mulOk i j = true) : CMul i j ∨ CMulW i j := by
  unfold mulOk small at h
  simp only [Bool.or_eq_true, Bool.and_eq_true, decide_eq_true_eq] at h
  rcases h with (h | h) | h
  · exact .inl (.inl h)
  · exact .inl (.inr h)
  · exact .inr h
theorem b_add : OpR X (binaryOp .Add) (rB X C E .add) := by
  rintro pins s0 σ H x y v u Q I rx ry ⟨ι, s, d, e, H0, H1, S, r1, r2, o⟩
  obtain ⟨z, hz, fin⟩ := o.opt S
  simp only [bop, addD] at hz
  split at hz
  · cases r1.int; cases r2.int; cases hz
    exact op_add pins s0 σ H _ _ v u Q I rx ry ⟨_, _, rfl, rfl, FinS.int S fin⟩
  · cases r1.str; cases r2.str
    split at hz <;> cases hz
    exact op_add_str pins s0 σ H _ _ v u Q I rx ry ⟨_, _, rfl, rfl, lim_le (by assumption), FinS.str S fin⟩
  · obtain ⟨a, vs, rfl, h1, h2⟩ := r1.tup
    obtain ⟨b, us, rfl, h3, h4⟩ := r2.tup
    split at hz <;> cases hz
    rename_i hl
    refine op_catA pins s0 σ H _ _ v u Q I rx ry ⟨a, b, vs, us, rfl, rfl, .of h1, .of h3, lim_le (by rw [h2.length, h4.length]; exact hl), fun z => ?_, fun _ z => ?_, fun _ _ p hp => FinS.tup S hp (h2.append h4) fin⟩
    · subst z
      have e := Rels.nil_of h2
      subst e
      exact FinS.same S fin (by rw [List.nil_append, Rel]; exact ⟨b, us, rfl, h3, h4⟩)
    · subst z
      have e := Rels.nil_of h4
      subst e
      exact FinS.same S fin (by rw [List.append_nil, Rel]; exact ⟨a, vs, rfl, h1, h2⟩)
  · split at hz
    · rename_i e1 e2
      split at hz <;> cases hz
      rename_i hl
      obtain ⟨a, vs, rfl, q1, r3⟩ := wOf_ok S r1 e1
      obtain ⟨b, us, rfl, q2, r4⟩ := wOf_ok S r2 e2
      exact op_cat pins s0 σ H _ _ v u Q I rx ry ⟨a, b, vs, us, rfl, rfl, q1, q2, lim_le (by rw [r3.length, r4.length]; exact hl), fun p hp => FinS.lst S hp (r3.append r4) fin⟩
    · cases hz
theorem b_mul : OpR X (binaryOp .Mult) (rB X C E .mul) := by
  rintro pins s0 σ H x y v u Q I rx ry ⟨ι, s, d, e, H0, H1, S, r1, r2, o⟩
  obtain ⟨z, hz, fin⟩ := o.opt S
  simp only [bop, mulD] at hz
  split at hz
  · cases r1.int; cases r2.int
    split at hz <;> cases hz
    rename_i hl
    rcases cmul_of hl with h | h
    · exact op_mul pins s0 σ H _ _ v u Q I rx ry ⟨_, _, rfl, rfl, h, FinS.int S fin⟩
    · exact op_mulW pins s0 σ H _ _ v u Q I rx ry ⟨_, _, rfl, rfl, h, FinS.int S fin⟩
  · obtain ⟨a, vs, rfl, h1, h2⟩ := r1.tup
    cases r2.int
    split at hz <;> cases hz
    rename_i hl
    obtain ⟨k1, k2, k3, k4⟩ := hl
    refine op_repT pins s0 σ H _ _ v u Q I rx ry ⟨a, _, vs, rfl, rfl, .of h1, fun z => k1 ?_, k2, k3, by rw [h2.length]; exact k4, fun p hp => FinS.tup S hp (h2.rep _) fin⟩
    subst z
    have := h2.length
    exact List.length_eq_zero_iff.mp this.symm
  · cases r2.int
    split at hz
    · rename_i e1
      split at hz <;> cases hz
      rename_i hl
      obtain ⟨k1, k2, k3⟩ := hl
      obtain ⟨a, vs, rfl, q1, r3⟩ := wOf_ok S r1 e1
      exact op_rep pins s0 σ H _ _ v u Q I rx ry ⟨a, _, vs, rfl, rfl, q1, k1, k2, lim_le (by rw [r3.length]; exact k3), fun p hp => FinS.lst S hp (r3.rep _) fin⟩
    · cases hz
  · cases hz
/-- an operator of ints -/
theorem b_ints {op : Operator} {f : Int → Int → Option Int} (k : ∀ i j z, f i j = some z → ∀ (pins : List (Addr × Obj)) (s : Shared) (σ : St) (H : Hp) (v u : Value) (Q : VK), L2.Inv X pins σ H s → RelV (.int i) v → RelV (.int j) u → Q (.int z) H → wpAny (model X.prog X.w) X.A (binaryOp op v u) (EP X pins σ Q) X.xe s) :
    OpR X (binaryOp op) (rV2 X.K C E fun d e s => optR s (intsOp f d e)) := by
  rintro pins s0 σ H x y v u Q I rx ry ⟨ι, s, d, e, H0, H1, S, r1, r2, o⟩
  obtain ⟨z, hz, fin⟩ := o.opt S
  simp only [intsOp] at hz
  split at hz
  · cases r1.int; cases r2.int
    obtain ⟨a, h1, rfl⟩ := Option.map_eq_some_iff.mp hz
    exact k _ _ a h1 pins s0 σ H v u Q I rx ry (FinS.int S fin)
  · cases hz
def CDivNW (_ j : Int) : Prop := j ≠ 0 ∧ j.natAbs.log2 < 9000
theorem op_fdivNW {X : Cx} : OpR X (binaryOp .FloorDiv) (rI CDivNW fun i j => .int (i.fdiv j)) := opI fun i j _ _ _ _ _ hc q => PyProof.Rows.floordiv_int hc.1 q (.inl (PyProof.noPylong_of_log2 hc.2))
theorem b_all {o : Op} {op : Operator} (h : (match o, op with
    | .add, .Add | .sub, .Sub | .mul, .Mult | .fdiv, .FloorDiv | .mod, .Mod | .pow, .Pow | .shl, .LShift | .shr, .RShift | .band, .BitAnd => true
    | _, _ => false) = true) : OpR X (binaryOp op) (rB X C E o) := by
  cases o <;> cases op <;> first | (exact absurd h (by decide)) | skip
  · exact b_add
  · exact b_ints fun i j z e pins s σ H v u Q I rx ry q => by
      cases e
      exact op_sub pins s σ H _ _ v u Q I rx ry ⟨_, _, rfl, rfl, q⟩
  · exact b_mul
  · exact b_ints fun i j z e pins s σ H v u Q I rx ry q => by
      simp only [fdivI] at e
      split at e
      · cases e
        exact op_fdivW pins s σ H _ _ v u Q I rx ry ⟨_, _, rfl, rfl, (by assumption), q⟩
      · split at e
        · rename_i h
          cases e
          exact op_fdivNW pins s σ H _ _ v u Q I rx ry ⟨_, _, rfl, rfl, ⟨by have := h.1; omega, h.2⟩, q⟩
        · cases e
  · exact b_ints fun i j z e pins s σ H v u Q I rx ry q => by
      simp only [modI] at e
      split at e
      · cases e
        exact op_mod pins s σ H _ _ v u Q I rx ry ⟨_, _, rfl, rfl, (by assumption), q⟩
      · split at e
        · rename_i h
          cases e
          exact op_modN pins s σ H _ _ v u Q I rx ry ⟨_, _, rfl, rfl, (by omega), q⟩
        · cases e
  · exact b_ints fun i j z e pins s σ H v u Q I rx ry q => by
      simp only [powI] at e
      split at e <;> cases e
      exact op_pow pins s σ H _ _ v u Q I rx ry ⟨_, _, rfl, rfl, (by assumption), q⟩
  · exact b_ints fun i j z e pins s σ H v u Q I rx ry q => by
      simp only [shlI] at e
      split at e <;> cases e
      exact op_shl pins s σ H _ _ v u Q I rx ry ⟨_, _, rfl, rfl, (by assumption), q⟩
  · exact b_ints fun i j z e pins s σ H v u Q I rx ry q => by
      simp only [shrI] at e
      split at e <;> cases e
      exact op_shr pins s σ H _ _ v u Q I rx ry ⟨_, _, rfl, rfl, (by assumption), q⟩
  · exact b_ints fun i j z e pins s σ H v u Q I rx ry q => by
      cases e
      exact op_and pins s σ H _ _ v u Q I rx ry ⟨_, _, rfl, rfl, q⟩
end
end MP

set_option Elab.async false
set_option linter.all false
set_option maxRecDepth 100000
set_option maxHeartbeats 4000000
/-! Comparisons, truth, tests, displays, subscripts, slices. -/
namespace MP
open PySem L2

section
variable {K : PySem.W.Frag} {ι : Io} {s : Sto} {H H0 : Hp} {n : Nat}
mutual
theorem py_ok : ∀ (d : D) (v : V) (p : PyData), Rel K ι n H v d → D.py d = some p → Dp K H v p
  | .non, v, p, h, e => by rw [Rel] at h; rw [D.py] at e; cases e; subst h; exact .non
  | .bl b, v, p, h, e => by rw [Rel] at h; rw [D.py] at e; cases e; subst h; exact .bl b
  | .int b, v, p, h, e => by rw [Rel] at h; rw [D.py] at e; cases e; subst h; exact .int b
  | .str b, v, p, h, e => by rw [Rel] at h; rw [D.py] at e; cases e; subst h; exact .str b
  | .tup xs, v, p, h, e => by
    rw [Rel] at h; rw [D.py] at e
    obtain ⟨a, vs, rfl, h1, h2⟩ := h
    obtain ⟨ps, e1, rfl⟩ := Option.map_eq_some_iff.mp e
    exact .tup (.of h1) (pys_ok xs vs ps h2 e1)
  | .fro xs, v, p, h, e => by
    rw [Rel] at h; rw [D.py] at e
    obtain ⟨a, vs, rfl, h1, h2⟩ := h
    obtain ⟨ps, e1, rfl⟩ := Option.map_eq_some_iff.mp e
    exact .lst h1.sq (pys_ok xs vs ps h2 e1)
  | .lst xs, v, p, h, e => by rw [Rel] at h; exact h.elim
  | .ref m, v, p, h, e => by simp [D.py] at e
  | .exn c fs, v, p, h, e => by rw [Rel] at h; exact h.elim
theorem pys_ok : ∀ (ds : List D) (vs : List V) (ps : List PyData), Rels K ι n H vs ds → D.pys ds = some ps → DpAll K H vs ps
  | [], vs, ps, h, e => by rw [Rels] at h; rw [D.pys] at e; cases e; subst h; exact .nil
  | d :: ds, vs, ps, h, e => by
    rw [Rels] at h; rw [D.pys] at e
    obtain ⟨v, us, rfl, h1, h2⟩ := h
    split at e
    · rename_i a as e1 e2
      cases e
      exact .cons (py_ok d v a h1 e1) (pys_ok ds us as h2 e2)
    · cases e
end
theorem pyOf_ok (S : SR K ι s H) {d : D} {v : V} {p : PyData} (h : RelT K ι s.length H0 H v d) (e : pyOf s d = some p) : Dp K H v p := by
  cases d with
  | lst xs =>
    obtain ⟨a, vs, rfl, _, _, h1, h2⟩ := h
    obtain ⟨ps, e1, rfl⟩ := Option.map_eq_some_iff.mp (show (D.pys xs).map PyData.list = some p from e)
    exact .lst (.of h1) (pys_ok xs vs ps h2 e1)
  | ref m =>
    obtain ⟨hm, rfl⟩ := h.ref
    simp only [pyOf] at e
    split at e
    · rename_i xs q
      obtain ⟨vs, h1, h2⟩ := S.lst q
      obtain ⟨ps, e1, rfl⟩ := Option.map_eq_some_iff.mp e
      exact .lst (.of h1) (pys_ok xs vs ps h2 e1)
    · cases e
  | non => exact py_ok _ v p h e
  | bl _ => exact py_ok _ v p h e
  | int _ => exact py_ok _ v p h e
  | str _ => exact py_ok _ v p h e
  | tup _ => exact py_ok _ v p h e
  | fro _ => exact py_ok _ v p h e
  | exn _ _ => exact h.exn.elim
theorem flat_ok {d : D} {v : V} (h : Rel K ι n H v d) (f : D.flat d = true) : flatV v = true := by
  cases d <;> first | (rw [Rel] at h; subst h; rfl) | (simp [D.flat] at f; done)
theorem eqF_ok {d e : D} {v u : V} (h : Rel K ι n H v d) (q : Rel K ι n H u e) (fd : D.flat d = true) (fe : D.flat e = true) : eqV v u = eqF d e := by
  cases d <;> cases e <;> first
    | (exfalso; simp [D.flat] at fd; done)
    | (exfalso; simp [D.flat] at fe; done)
    | (simp only [Rel] at h q; subst h; subst q; rfl)
    | (simp only [Rel] at h q; subst h; subst q; simp [eqV, eqF]; done)
theorem flats_ok : ∀ {ds : List D} {vs : List V}, Rels K ι n H vs ds → ds.all D.flat = true → vs.all flatV = true
  | [], vs, h, _ => by rw [Rels] at h; subst h; rfl
  | d :: ds, vs, h, f => by
    rw [Rels] at h
    obtain ⟨v, us, rfl, h1, h2⟩ := h
    rw [List.all_cons, Bool.and_eq_true] at f ⊢
    exact ⟨flat_ok h1 f.1, flats_ok h2 f.2⟩
theorem inV_ok {x : D} {v : V} (hx : Rel K ι n H v x) (fx : D.flat x = true) : ∀ {ds : List D} {vs : List V}, Rels K ι n H vs ds → ds.all D.flat = true → inV v vs = ds.any fun z => eqF z x
  | [], vs, h, _ => by rw [Rels] at h; subst h; rfl
  | d :: ds, vs, h, f => by
    rw [Rels] at h
    obtain ⟨u, us, rfl, h1, h2⟩ := h
    rw [List.all_cons, Bool.and_eq_true] at f
    have ih := inV_ok hx fx h2 f.2
    unfold inV at ih ⊢
    rw [List.any_cons, List.any_cons, ih, eqF_ok h1 hx f.1 fx]
theorem Rel.ofT {d : D} {v : V} (f : D.flat d = true) (h : RelT K ι n H0 H v d) : Rel K ι n H v d := by
  cases d <;> first | exact h | (simp [D.flat] at f; done)
theorem non_iff {d : D} {v : V} (h : RelT K ι n H0 H v d) : decide (v = .non) = decide (d = .non) := by
  cases d with
  | non => cases h.non; rfl
  | bl b => cases h.bl; rfl
  | int b => cases h.int; rfl
  | str b => cases h.str; rfl
  | tup b => obtain ⟨a, vs, rfl, _⟩ := h.tup; rfl
  | fro b => obtain ⟨a, vs, rfl, _⟩ := h.fro; rfl
  | lst b => obtain ⟨a, vs, rfl, _⟩ := h; rfl
  | ref b => obtain ⟨_, rfl⟩ := h.ref; rfl
  | exn _ _ => exact h.exn.elim
theorem tru_rel (S : SR K ι s H) {d : D} {v : V} {k : Bool} (h : RelT K ι s.length H0 H v d) (e : tru s d = some k) : TruV K v H k := by
  have lists : seqOf s d = seqOf s d → (seqOf s d).map (fun xs => !xs.isEmpty) = some k → TruV K v H k := fun _ e => by
    obtain ⟨xs, e1, rfl⟩ := Option.map_eq_some_iff.mp e
    obtain ⟨a, vs, rfl, h1, h2, _⟩ := seqOf_ok S h e1
    have hl : vs.isEmpty = xs.isEmpty := by
      have := h2.length
      cases vs <;> cases xs <;> first | rfl | simp at this
    rcases h1 with h1 | h1
    · exact .inl ⟨vs, h1, by rw [hl]⟩
    · exact .inr (.inl ⟨vs, h1, by rw [hl]⟩)
  cases d with
  | non => cases h.non; cases e; rfl
  | bl b => cases h.bl; cases e; rfl
  | int b => cases h.int; cases e; rfl
  | str b =>
    cases h.str
    simp only [tru] at e
    split at e <;> cases e
    exact ⟨lim_le (by assumption), rfl⟩
  | exn _ _ => exact h.exn.elim
  | tup _ => exact lists rfl e
  | fro _ => exact lists rfl e
  | lst _ => exact lists rfl e
  | ref _ => exact lists rfl e
end

/-! ### comparisons -/
section
variable {X : Cx} {C : Ctb} {E : EK}
def fC (o : Cm) : D → D → Sto → R D := fun d e s => (optR s (cop o s d e)).bind fun t s => .ok (.bl t) s
abbrev rC (X : Cx) (C : Ctb) (E : EK) (o : Cm) : R2 := rV2 X.K C E (fC o)
theorem Out.optb {K : PySem.W.Frag} {ι : Io} {s : Sto} {H : Hp} {Q : VK} {o : Option Bool} (S : SR K ι s H) (h : Out K C E ι s.length H ((optR s o).bind fun t s => .ok (.bl t) s) (Fin1 K H Q)) : ∃ b, o = some b ∧ Q (.bl b) H := by
  cases o with
  | none => exact h.elim
  | some b => exact ⟨b, rfl, FinS.bl S h⟩
def cmOk : Cm → CmpOp → Bool
  | .eq, .Eq | .ne, .NotEq | .lt, .Lt | .le, .LtE | .gt, .Gt | .ge, .GtE | .isin, .In | .notin, .NotIn | .is, .Is | .isnot, .IsNot => true
  | _, _ => false
theorem c_ord {op : CmpOp} {f : Int → Int → Bool} {k : Cm} (hk : ∀ s x y, cop k s x y = ordI f x y) (ho : OpR X (compareOp op) (rI0 fun i j => .bl (f i j))) : OpR X (compareOp op) (rC X C E k) := by
  rintro pins s0 σ H x y v u Q I rx ry ⟨ι, s, d, e, H0, H1, S, r1, r2, o⟩
  obtain ⟨b, hb, q⟩ := Out.optb S o
  rw [hk] at hb
  simp only [ordI] at hb
  split at hb
  · cases r1.int; cases r2.int; cases hb
    exact ho pins s0 σ H _ _ v u Q I rx ry ⟨_, _, rfl, rfl, q⟩
  · cases hb
theorem c_eq (hu : X.A.units + 64 < cLine) : OpR X (compareOp .Eq) (rC X C E .eq) := by
  rintro pins s0 σ H x y v u Q I rx ry ⟨ι, s, d, e, H0, H1, S, r1, r2, o⟩
  obtain ⟨b, hb, q⟩ := Out.optb S o
  simp only [cop, eqD] at hb
  split at hb
  · rename_i p p' e1 e2
    split at hb <;> cases hb
    rename_i sh
    rw [Bool.and_eq_true] at sh
    exact op_eqD hu pins s0 σ H _ _ v u Q I rx ry ⟨p, p', pyOf_ok S r1 e1, pyOf_ok S r2 e2, sh.1, sh.2, q⟩
  · cases hb
theorem c_ne (hu : X.A.units + 64 < cLine) : OpR X (compareOp .NotEq) (rC X C E .ne) := by
  rintro pins s0 σ H x y v u Q I rx ry ⟨ι, s, d, e, H0, H1, S, r1, r2, o⟩
  obtain ⟨b, hb, q⟩ := Out.optb S o
  obtain ⟨b', h2, rfl⟩ := Option.map_eq_some_iff.mp (show (eqD s d e).map (!·) = some b from hb)
  simp only [eqD] at h2
  split at h2
  · rename_i p p' e1 e2
    split at h2 <;> cases h2
    rename_i sh
    rw [Bool.and_eq_true] at sh
    exact op_neD hu pins s0 σ H _ _ v u Q I rx ry ⟨p, p', pyOf_ok S r1 e1, pyOf_ok S r2 e2, sh.1, sh.2, q⟩
  · cases h2
theorem in_parts {K : PySem.W.Frag} {ι : Io} {s : Sto} {H H0 H1 : Hp} {d e : D} {x y : V} {b : Bool} (S : SR K ι s H) (r1 : RelT K ι s.length H0 H x d) (r2 : RelT K ι s.length H1 H y e) (h : inD s d e = some b) :
    ∃ p vs, y = .ref p ∧ (SqL K H p vs ∨ SqT K H p vs) ∧ flatV x = true ∧ vs.all flatV = true ∧ inV x vs = b := by
  simp only [inD] at h
  split at h
  · rename_i ys e1
    split at h <;> cases h
    rename_i f
    rw [Bool.and_eq_true] at f
    obtain ⟨a, vs, rfl, h1, h2, _⟩ := seqOf_ok S r2 e1
    have rx := Rel.ofT f.1 r1
    exact ⟨a, vs, rfl, h1, flat_ok rx f.1, flats_ok h2 f.2, inV_ok rx f.1 h2 f.2⟩
  · cases h
theorem c_in : OpR X (compareOp .In) (rC X C E .isin) := by
  rintro pins s0 σ H x y v u Q I rx ry ⟨ι, s, d, e, H0, H1, S, r1, r2, o⟩
  obtain ⟨b, hb, q⟩ := Out.optb S o
  obtain ⟨p, vs, rfl, h1, h2, h3, h4⟩ := in_parts S r1 r2 hb
  exact op_in_seq pins s0 σ H _ _ v u Q I rx ry ⟨p, vs, rfl, h1, h2, h3, by show Q (.bl (inV x vs)) H; rw [h4]; exact q⟩
theorem c_notin : OpR X (compareOp .NotIn) (rC X C E .notin) := by
  rintro pins s0 σ H x y v u Q I rx ry ⟨ι, s, d, e, H0, H1, S, r1, r2, o⟩
  obtain ⟨b, hb, q⟩ := Out.optb S o
  obtain ⟨b', hb2, rfl⟩ := Option.map_eq_some_iff.mp (show (inD s d e).map (!·) = some b from hb)
  obtain ⟨p, vs, rfl, h1, h2, h3, h4⟩ := in_parts S r1 r2 hb2
  exact op_notIn_seq pins s0 σ H _ _ v u Q I rx ry ⟨p, vs, rfl, h1, h2, h3, by show Q (.bl (!inV x vs)) H; rw [h4]; exact q⟩
theorem c_is : OpR X (compareOp .Is) (rC X C E .is) := by
  rintro pins s0 σ H x y v u Q I rx ry ⟨ι, s, d, e, H0, H1, S, r1, r2, o⟩
  obtain ⟨b, hb, q⟩ := Out.optb S o
  simp only [cop, isD] at hb
  split at hb
  · cases r2.non; cases hb
    rw [← non_iff r1] at q
    exact op_isN pins s0 σ H _ _ v u Q I rx ry ⟨rfl, q⟩
  · cases r1.bl; cases r2.bl; cases hb
    exact op_isBl pins s0 σ H _ _ v u Q I rx ry ⟨_, _, rfl, rfl, q⟩
  · cases hb
theorem c_isnot : OpR X (compareOp .IsNot) (rC X C E .isnot) := by
  rintro pins s0 σ H x y v u Q I rx ry ⟨ι, s, d, e, H0, H1, S, r1, r2, o⟩
  obtain ⟨b, hb, q⟩ := Out.optb S o
  obtain ⟨b', h2, rfl⟩ := Option.map_eq_some_iff.mp (show (isD d e).map (!·) = some b from hb)
  simp only [isD] at h2
  split at h2
  · cases r2.non; cases h2
    rw [← non_iff r1] at q
    exact op_notN pins s0 σ H _ _ v u Q I rx ry ⟨rfl, q⟩
  · cases r1.bl; cases r2.bl; cases h2
    exact op_notBl pins s0 σ H _ _ v u Q I rx ry ⟨_, _, rfl, rfl, q⟩
  · cases h2
theorem c_all (hu : X.A.units + 64 < cLine) {o : Cm} {op : CmpOp} (h : cmOk o op = true) : OpR X (compareOp op) (rC X C E o) := by
  cases o <;> cases op <;> first | (exact absurd h (by decide)) | skip
  · exact c_eq hu
  · exact c_ne hu
  · exact c_ord (fun _ _ _ => rfl) op_lt
  · exact c_ord (fun _ _ _ => rfl) op_le
  · exact c_ord (fun _ _ _ => rfl) op_gt
  · exact c_ord (fun _ _ _ => rfl) op_ge
  · exact c_in
  · exact c_notin
  · exact c_is
  · exact c_isnot
end
end MP

set_option Elab.async false
set_option linter.all false
set_option maxRecDepth 100000
set_option maxHeartbeats 4000000
/-! The rules of the small language's terms: operators, tests, displays, subscripts. -/
namespace MP
open PySem L2

section
variable {X : Cx} {g : G} {C : Ctb} {W : WX} {pos : Pos} {e e2 e3 : Expr} {a b c : Ex}
abbrev EE (X : Cx) (g : G) (C : Ctb) (W : WX) (e : Expr) (x : Ex) : Prop := PE X e (tE g X.K C W x)
abbrev TT' (X : Cx) (g : G) (C : Ctb) (W : WX) (e : Expr) (x : Ts) : Prop := PT X e (tT g X.K C W x)
abbrev AA (X : Cx) (g : G) (C : Ctb) (W : WX) (e : List Expr) (x : Exs) : Prop := PA X e (tA g X.K C W x)

def opOk : Op → Operator → Bool := fun o op => match o, op with
    | .add, .Add | .sub, .Sub | .mul, .Mult | .fdiv, .FloorDiv | .mod, .Mod | .pow, .Pow | .shl, .LShift | .shr, .RShift | .band, .BitAnd => true
    | _, _ => false
theorem e_bin {o : Op} {op : Operator} (ha : EE X g C W e a) (hb : EE X g C W e2 b) (h : opOk o op = true) : EE X g C W (.BinOp e op e2 pos) (.bin o a b) := by
  refine ⟨fun pins s σ H Q I q => ?_⟩
  refine (pe_op (b_all (C := C) (E := fun c d H' => W c d σ H') h) ha hb).run pins s σ H Q I ?_
  exact tE.two (fun fr s => by rw [ev]) q
theorem e_neg (ha : EE X g C W e a) : EE X g C W (.UnaryOp .USub e pos) (.neg a) := by
  refine pe_mono (pe_un un_neg ha) fun σ H Q q => ?_
  have q2 := tE.one (a := a) (fun fr s => by rw [ev]) q
  obtain ⟨ι, s, fr, S, F, o⟩ := q2
  refine ⟨ι, s, fr, S, F, o.imp fun ι1 s1 H1 d x S1 k v r => ?_⟩
  obtain ⟨ι2, s2, d2, H0, S2, r2, o2⟩ := k v r
  cases d2 with
  | int i =>
    cases r2.int
    exact ⟨i, rfl, FinS.int S2 (fun ι' H' x S => o2 ι' H' x S)⟩
  | _ => exact o2.elim
theorem e_cmp {o : Cm} {op : CmpOp} (hu : X.A.units + 64 < cLine) (ha : EE X g C W e a) (hb : EE X g C W e2 b) (h : cmOk o op = true) (hm : behindInMarks op e2 = false) : EE X g C W (.Compare e [op] [e2] pos) (.cmp o a b) := by
  refine ⟨fun pins s σ H Q I q => ?_⟩
  refine (pe_cmpR (c_all (C := C) (E := fun c d H' => W c d σ H') hu h) ha hb hm).run pins s σ H Q I ?_
  exact tE.two (f := fC o) (fun fr s => by rw [ev]; rfl) q
theorem bind_assoc' {α β γ : Type} {r : R α} {f : α → Sto → R β} {h : β → Sto → R γ} : (r.bind f).bind h = r.bind fun a s => (f a s).bind h := by
  cases r <;> rfl
theorem ev_cmp {o : Cm} (fr : Fr) (s : Sto) : ev g (.cmp o a b) fr s = (tst g (.cmp o a b) fr s).bind fun t s => .ok (.bl t) s := by
  rw [ev, tst, bind_assoc']
  simp only [bind_assoc']
theorem ev_chain {o o' : Cm} (fr : Fr) (s : Sto) : ev g (.chain o o' a b c) fr s = (tst g (.chain o o' a b c) fr s).bind fun t s => .ok (.bl t) s := by
  rw [ev, tst]
  simp only [bind_assoc']
  congr 1; funext x s1; congr 1; funext y s2; congr 1; funext t s3
  cases t with
  | true => simp only [bind_assoc', cond_true]
  | false => rfl
/-- a test that is a bool's, as a term -/
theorem tE.boolT {t : Ts} {x : Ex} (hx : ∀ fr s, ev g x fr s = (tst g t fr s).bind fun t s => .ok (.bl t) s) {σ : St} {H : Hp} {Q : Bool → Hp → Prop} (q : tT g X.K C W t σ H Q) : tE g X.K C W x σ H fun v H1 => ∃ t, v = .bl t ∧ Q t H1 := by
  obtain ⟨ι, s, fr, S, F, o1⟩ := q
  refine ⟨ι, s, fr, S, F, ?_⟩
  rw [hx]
  cases hr : tst g t fr s with
  | ok d s1 => rw [hr] at o1; exact fun ι1 H1 y S1 v r => by cases r.bl; exact ⟨d, rfl, o1 ι1 H1 y S1⟩
  | exc c fs s1 => rw [hr] at o1; exact o1
  | no => rw [hr] at o1; exact o1
theorem t_cmp {o : Cm} {op : CmpOp} (hu : X.A.units + 64 < cLine) (ha : EE X g C W e a) (hb : EE X g C W e2 b) (h : cmOk o op = true) (hm : behindInMarks op e2 = false) : TT' X g C W (.Compare e [op] [e2] pos) (.cmp o a b) := by
  refine ⟨fun pins s σ H Q I q => ?_⟩
  refine (pt_cmpR (c_all (C := C) (E := fun c d H' => W c d σ H') hu h) ha hb hm).run pins s σ H Q I ?_
  exact tE.two (f := fC o) (fun fr s => by rw [ev]; rfl) (tE.boolT ev_cmp q)
theorem chain_rd {o o' : Cm} {σ : St} {H : Hp} {Q : VK} (q : tE g X.K C W (.chain o o' a b c) σ H Q) :
    tChain (rC X C (fun c d H' => W c d σ H') o) (rC X C (fun c d H' => W c d σ H') o') (tE g X.K C W a) (tE g X.K C W b) (tE g X.K C W c) σ H Q := by
  obtain ⟨ι, s, fr, S, F, o1⟩ := q
  rw [ev] at o1
  refine ⟨ι, s, fr, S, F, o1.bind.imp fun ι1 s1 H1 d x S1 ⟨_, _, q1⟩ v r => ⟨ι1, s1, fr, S1, F.ext x, q1.bind.imp fun ι2 s2 H2 d' y S2 ⟨_, _, q2⟩ u r2 => ?_⟩⟩
  refine ⟨ι2, s2, d, d', H, H1, S2, r.ext y, r2, ?_⟩
  refine Out.imp (P := fun ι' s' H' d2 => Ext ι2 s2.length H2 ι' s'.length H' ∧ SR X.K ι' s' H' ∧ ∃ t, d2 = .bl t ∧ Out X.K C (fun c d H' => W c d σ H') ι' s'.length H' (match t with
    | true => (ev g c fr s').bind fun z s4 => (optR s4 (cop o' s4 d' z)).bind fun u s5 => .ok (.bl u) s5
    | false => .ok (.bl false) s') (Fin1 X.K H Q)) ?_ fun ι3 s3 H3 d2 z S3 ⟨_, _, t, e, q3⟩ v3 r3 => ?_
  · unfold fC
    cases hc : cop o s2 d d' with
    | none => rw [hc] at q2; exact q2.elim
    | some t =>
      rw [hc] at q2
      exact fun ι' H' z S3 => ⟨z, S3, t, rfl, Out.start z q2⟩
  · subst e
    cases r3.bl
    refine ⟨t, rfl, ?_⟩
    cases t with
    | true =>
      rw [if_pos rfl]
      exact ⟨ι3, s3, fr, S3, (F.ext x).ext (y.trans z), q3.bind.imp fun ι4 s4 H4 d4 w S4 ⟨_, _, q4⟩ v4 r4 => ⟨ι4, s4, d', d4, H1, H3, S4, (r2.ext z).ext w, r4, Out.fin (x.trans (y.trans (z.trans w))).back q4⟩⟩
    | false =>
      rw [if_neg (by decide)]
      exact (q3 ι3 H3 .refl S3).of (x.trans (y.trans z)).back _ (.of (by rw [Rel]))
theorem e_chain {o o' : Cm} {op op' : CmpOp} (hu : X.A.units + 64 < cLine) (ha : EE X g C W e a) (hb : EE X g C W e2 b) (hc : EE X g C W e3 c) (h : cmOk o op = true) (h' : cmOk o' op' = true) (hm : lastMarks [op, op'] [e2, e3] = false) :
    EE X g C W (.Compare e [op, op'] [e2, e3] pos) (.chain o o' a b c) := by
  refine ⟨fun pins s σ H Q I q => ?_⟩
  exact (pe_chain (c_all (C := C) (E := fun c d H' => W c d σ H') hu h) (c_all (C := C) (E := fun c d H' => W c d σ H') hu h') ha hb hc hm).run pins s σ H Q I (chain_rd q)
theorem t_chain {o o' : Cm} {op op' : CmpOp} (hu : X.A.units + 64 < cLine) (ha : EE X g C W e a) (hb : EE X g C W e2 b) (hc : EE X g C W e3 c) (h : cmOk o op = true) (h' : cmOk o' op' = true) (hm : lastMarks [op, op'] [e2, e3] = false) :
    TT' X g C W (.Compare e [op, op'] [e2, e3] pos) (.chain o o' a b c) := by
  refine ⟨fun pins s σ H Q I q => ?_⟩
  exact (pt_chain (c_all (C := C) (E := fun c d H' => W c d σ H') hu h) (c_all (C := C) (E := fun c d H' => W c d σ H') hu h') ha hb hc hm).run pins s σ H Q I (chain_rd (tE.boolT ev_chain q))
end
end MP

set_option Elab.async false
set_option linter.all false
set_option maxRecDepth 100000
set_option maxHeartbeats 4000000
/-! Tests, truth, displays, subscripts, slices, arguments. -/
namespace MP
open PySem L2

section
variable {X : Cx} {g : G} {C : Ctb} {W : WX} {pos : Pos} {e e2 e3 : Expr} {a b c : Ex}
/-! ### tests -/
theorem t_leaf (ha : EE X g C W e a) (he : ∀ whole, isTrue e X.env whole = (do let v ← whole; standAt e.pos; holding [v] (truthy v))) : TT' X g C W e (.e a) := by
  refine pt_mono (pt_truth ha he) fun σ H Q q => ?_
  obtain ⟨ι, s, fr, S, F, o⟩ := q
  rw [tst] at o
  refine ⟨ι, s, fr, S, F, o.bind.imp fun ι1 s1 H1 d x S1 ⟨_, _, k⟩ v r => ?_⟩
  obtain ⟨t, ht, k⟩ := Out.opt S1 k
  exact ⟨t, tru_rel S1 r ht, k ι1 H1 .refl S1⟩
theorem t_not {t : Ts} (h : TT' X g C W e t) : TT' X g C W (.UnaryOp .Not e pos) (.not t) := by
  refine pt_mono (pt_not h) fun σ H Q q => ?_
  obtain ⟨ι, s, fr, S, F, o⟩ := q
  rw [tst] at o
  exact ⟨ι, s, fr, S, F, o.bind.imp fun ι1 s1 H1 d x S1 ⟨_, _, k⟩ => k ι1 H1 .refl S1⟩
abbrev WW (X : Cx) (g : G) (C : Ctb) (W : WX) (e : Expr) (x : Ts) : Prop := PW X e (tT g X.K C W x)
theorem w_and1 {t : Ts} (h : TT' X g C W e t) : WW X g C W (.BoolOp .And [e] pos) t := pw_and1 h
theorem w_or1 {t : Ts} (h : TT' X g C W e t) : WW X g C W (.BoolOp .Or [e] pos) t := pw_or1 h
theorem w_and {t u : Ts} {rest : List Expr} (h : TT' X g C W e t) (h2 : WW X g C W (.BoolOp .And (e2 :: rest) pos) u) : WW X g C W (.BoolOp .And (e :: e2 :: rest) pos) (.and t u) := by
  refine pw_mono (pw_and h h2) fun σ H Q q => ?_
  obtain ⟨ι, s, fr, S, F, o⟩ := q
  rw [tst] at o
  refine ⟨ι, s, fr, S, F, o.bind.imp fun ι1 s1 H1 d x S1 ⟨_, _, k⟩ => ?_⟩
  cases d with
  | true => rw [if_pos rfl]; exact ⟨ι1, s1, fr, S1, F.ext x, k⟩
  | false => rw [if_neg (by decide)]; exact k ι1 H1 .refl S1
theorem w_or {t u : Ts} {rest : List Expr} (h : TT' X g C W e t) (h2 : WW X g C W (.BoolOp .Or (e2 :: rest) pos) u) : WW X g C W (.BoolOp .Or (e :: e2 :: rest) pos) (.or t u) := by
  refine pw_mono (pw_or h h2) fun σ H Q q => ?_
  obtain ⟨ι, s, fr, S, F, o⟩ := q
  rw [tst] at o
  refine ⟨ι, s, fr, S, F, o.bind.imp fun ι1 s1 H1 d x S1 ⟨_, _, k⟩ => ?_⟩
  cases d with
  | true => rw [if_pos rfl]; exact k ι1 H1 .refl S1
  | false => rw [if_neg (by decide)]; exact ⟨ι1, s1, fr, S1, F.ext x, k⟩
/-! ### not, and, or, if else as values -/
theorem e_andT {rest : List Expr} (h : EE X g C W e a) (h2 : EE X g C W (.BoolOp .And (e2 :: rest) pos) b) : EE X g C W (.BoolOp .And (e :: e2 :: rest) pos) (.and a b) := by
  refine pe_mono (pe_andT h h2) fun σ H Q q => ?_
  obtain ⟨ι, s, fr, S, F, o⟩ := q
  rw [ev] at o
  refine ⟨ι, s, fr, S, F, o.bind.imp fun ι1 s1 H1 d x S1 ⟨_, _, k⟩ v r => ?_⟩
  cases ht : tru s1 d with
  | none => rw [ht] at k; exact k.elim
  | some t =>
    rw [ht] at k
    refine ⟨t, tru_rel S1 r ht, ?_⟩
    cases t with
    | true => rw [if_pos rfl]; exact ⟨ι1, s1, fr, S1, F.ext x, k.fin x.back⟩
    | false => rw [if_neg (by decide)]; exact k ι1 H1 .refl S1 v r
theorem e_orT {rest : List Expr} (h : EE X g C W e a) (h2 : EE X g C W (.BoolOp .Or (e2 :: rest) pos) b) : EE X g C W (.BoolOp .Or (e :: e2 :: rest) pos) (.or a b) := by
  refine pe_mono (pe_orT h h2) fun σ H Q q => ?_
  obtain ⟨ι, s, fr, S, F, o⟩ := q
  rw [ev] at o
  refine ⟨ι, s, fr, S, F, o.bind.imp fun ι1 s1 H1 d x S1 ⟨_, _, k⟩ v r => ?_⟩
  cases ht : tru s1 d with
  | none => rw [ht] at k; exact k.elim
  | some t =>
    rw [ht] at k
    refine ⟨t, tru_rel S1 r ht, ?_⟩
    cases t with
    | true => rw [if_pos rfl]; exact k ι1 H1 .refl S1 v r
    | false => rw [if_neg (by decide)]; exact ⟨ι1, s1, fr, S1, F.ext x, k.fin x.back⟩
/-- not e, e a plain expression -/
theorem e_not {x : Ex} (h : EE X g C W e x) : EE X g C W (.UnaryOp .Not e pos) (.not (.e x)) := by
  refine pe_mono (pe_notT h) fun σ H Q q => ?_
  obtain ⟨ι, s, fr, S, F, o⟩ := q
  rw [ev, tst] at o
  refine ⟨ι, s, fr, S, F, ?_⟩
  have o2 : Out X.K C (fun c d H' => W c d σ H') ι s.length H ((ev g x fr s).bind fun d s1 => (optR s1 (tru s1 d)).bind fun t s2 => .ok (.bl (!t)) s2) (Fin1 X.K H Q) := by
    cases he : ev g x fr s with
    | ok d s1 =>
      rw [he] at o
      show Out _ _ _ _ _ _ ((optR s1 (tru s1 d)).bind _) _
      exact o
    | exc c fs s1 => rw [he] at o; exact o
    | no => rw [he] at o; exact o.elim
  refine o2.bind.imp fun ι1 s1 H1 d x S1 ⟨_, _, k⟩ v r => ?_
  cases ht : tru s1 d with
  | none => rw [ht] at k; exact k.elim
  | some t =>
    rw [ht] at k
    exact ⟨t, tru_rel S1 r ht, k ι1 H1 .refl S1 _ (.of (by rw [Rel]))⟩
theorem e_ife {t : Ts} (ht : TT' X g C W e t) (ha : EE X g C W e2 a) (hb : EE X g C W e3 b) : EE X g C W (.IfExp e e2 e3 pos) (.ife t a b) := by
  refine pe_mono (pe_ifExp ht ha hb) fun σ H Q q => ?_
  obtain ⟨ι, s, fr, S, F, o⟩ := q
  rw [ev] at o
  refine ⟨ι, s, fr, S, F, o.bind.imp fun ι1 s1 H1 d x S1 ⟨_, _, k⟩ => ?_⟩
  cases d with
  | true => rw [if_pos rfl]; exact ⟨ι1, s1, fr, S1, F.ext x, k.fin x.back⟩
  | false => rw [if_neg (by decide)]; exact ⟨ι1, s1, fr, S1, F.ext x, k.fin x.back⟩
/-! ### arguments: settled -/
theorem Ext.settle {K : PySem.W.Frag} {ι ι1 : Io} {n : Nat} {s1 : Sto} {H H1 : Hp} {v : V} {d : D} (x : Ext ι n H ι1 s1.length H1) (S1 : SR K ι1 s1 H1) (r : RelT K ι1 s1.length H H1 v d) :
    ∃ ι2, Ext ι n H ι2 (settle d s1).2.length H1 ∧ SR K ι2 (settle d s1).2 H1 ∧ Rel K ι2 (settle d s1).2.length H1 v (settle d s1).1 := by
  cases d with
  | lst xs =>
    obtain ⟨a, vs, rfl, h2, h3, h4, h5⟩ := r
    have hl : (s1 ++ [O.lst xs]).length = s1.length + 1 := by simp
    refine ⟨ι1.put s1.length a, ?_, SR.lay S1 h3 h4 h5, ?_⟩
    · show Ext ι n H _ (s1 ++ [O.lst xs]).length H1
      rw [hl]
      refine ⟨Nat.le_succ_of_le x.le, fun m h => ?_, fun m h1 h2' => ?_, x.keep, x.tup, x.frz, x.back⟩
      · rw [Io.put_lt (Nat.lt_of_lt_of_le h x.le)]; exact x.eq m h
      · by_cases hm : m < s1.length
        · rw [Io.put_lt hm]; exact x.new m h1 hm
        · have : m = s1.length := by omega
          subst this
          rw [Io.put_same]; exact h2
    · show Rel K _ (s1 ++ [O.lst xs]).length H1 _ (.ref s1.length)
      rw [hl, Rel, Io.put_same]
      exact ⟨Nat.lt_succ_self _, rfl⟩
  | _ => exact ⟨ι1, x, S1, r⟩
theorem Out.settled {K : PySem.W.Frag} {E : EK} {ι : Io} {n : Nat} {H : Hp} {r : R D} {P : Io → Sto → Hp → D → Prop} (h : Out K C E ι n H r.settled P) :
    Out K C E ι n H r (fun ι1 s1 H1 d => ∀ v, RelT K ι1 s1.length H H1 v d → ∃ ι2, Ext ι n H ι2 (settle d s1).2.length H1 ∧ SR K ι2 (settle d s1).2 H1 ∧ Rel K ι2 (settle d s1).2.length H1 v (settle d s1).1 ∧ P ι2 (settle d s1).2 H1 (settle d s1).1) := by
  cases r with
  | ok d s =>
    intro ι1 H1 x S v r
    obtain ⟨ι2, h1, h2, h3⟩ := Ext.settle x S r
    exact ⟨ι2, h1, h2, h3, h ι2 H1 h1 h2⟩
  | exc c fs s => exact h
  | no => exact h
theorem a_nil : AA X g C W [] .nil := by
  refine pa_mono pa_nil fun σ H Q q => ?_
  obtain ⟨ι, s, fr, S, F, o⟩ := q
  rw [evs] at o
  exact o ι H .refl S [] Rels.nil
theorem a_cons {es : List Expr} {xs : Exs} (h : EE X g C W e a) (hr : AA X g C W es xs) (hs : starEach (e :: es) X.env = (false, eval e X.env) :: starEach es X.env) : AA X g C W (e :: es) (.cons a xs) := by
  refine pa_mono (pa_cons h hr hs) fun σ H Q q => ?_
  obtain ⟨ι, s, fr, S, F, o⟩ := q
  rw [evs] at o
  refine ⟨ι, s, fr, S, F, ?_⟩
  have o2 := Out.settled o.bind |>.imp (P' := Fin1 X.K H fun x H1 => tA g X.K C W xs σ H1 fun vs H2 => Q (x :: vs) H2) fun ι1 s1 H1 d x S1 k v r => ?_
  · exact o2
  · obtain ⟨ι2, x2, S2, r2, x3, _, k⟩ := k v r
    refine ⟨ι2, _, fr, S2, F.ext x2, k.bind.imp fun ι3 s3 H3 ds y S3 ⟨_, _, k3⟩ vs rs => ?_⟩
    exact k3 ι3 H3 .refl S3 (v :: vs) (Rels.cons (r2.ext y) rs)
end
end MP

set_option Elab.async false
set_option linter.all false
set_option maxRecDepth 100000
set_option maxHeartbeats 4000000
/-! Displays, subscripts, slices, isinstance, built-in functions. -/
namespace MP
open PySem L2

section
variable {K : PySem.W.Frag} {C : Ctb} {E : EK} {ι : Io} {s : Sto} {H H0 : Hp} {n : Nat} {Q : VK}
theorem Rels.atI {ds : List D} {vs : List V} {i : Int} {d : D} (h : Rels K ι n H vs ds) (e : L2.atI ds i = some d) : ∃ v, L2.atI vs i = some v ∧ Rel K ι n H v d := by
  unfold L2.atI at e ⊢
  rw [h.length]
  obtain ⟨j, h1, h2⟩ := Option.bind_eq_some_iff.mp e
  obtain ⟨v, h3, h4⟩ := h.get h2
  exact ⟨v, by rw [h1]; exact h3, h4⟩
theorem RelT.isFro {d : D} {v : V} : (∀ ys, d ≠ .fro ys) ∨ ∃ ys, d = .fro ys := by
  cases d <;> first | (right; exact ⟨_, rfl⟩) | (left; intro ys z; cases z)
theorem intsD_ok : ∀ {ds : List D} {vs : List V} {ns : List Int}, Rels K ι n H vs ds → intsD ds = some ns → vs = ns.map V.int
  | [], vs, ns, h, e => by rw [Rels] at h; cases e; rw [h]; rfl
  | d :: ds, vs, ns, h, e => by
    rw [Rels] at h
    obtain ⟨v, us, rfl, h1, h2⟩ := h
    cases d with
    | int i =>
      rw [Rel] at h1; subst h1
      obtain ⟨ms, e1, rfl⟩ := Option.map_eq_some_iff.mp (show (intsD ds).map (i :: ·) = some ns from e)
      rw [intsD_ok h2 e1]; rfl
    | _ => cases e
theorem strsD_ok : ∀ {ds : List D} {vs : List V} {ns : List Str}, Rels K ι n H vs ds → strsD ds = some ns → vs = ns.map V.str
  | [], vs, ns, h, e => by rw [Rels] at h; cases e; rw [h]; rfl
  | d :: ds, vs, ns, h, e => by
    rw [Rels] at h
    obtain ⟨v, us, rfl, h1, h2⟩ := h
    cases d with
    | str i =>
      rw [Rel] at h1; subst h1
      obtain ⟨ms, e1, rfl⟩ := Option.map_eq_some_iff.mp (show (strsD ds).map (i :: ·) = some ns from e)
      rw [strsD_ok h2 e1]; rfl
    | _ => cases e
theorem blsD_ok : ∀ {ds : List D} {vs : List V} {ns : List Bool}, Rels K ι n H vs ds → blsD ds = some ns → vs = ns.map V.bl
  | [], vs, ns, h, e => by rw [Rels] at h; cases e; rw [h]; rfl
  | d :: ds, vs, ns, h, e => by
    rw [Rels] at h
    obtain ⟨v, us, rfl, h1, h2⟩ := h
    cases d with
    | bl i =>
      rw [Rel] at h1; subst h1
      obtain ⟨ms, e1, rfl⟩ := Option.map_eq_some_iff.mp (show (blsD ds).map (i :: ·) = some ns from e)
      rw [blsD_ok h2 e1]; rfl
    | _ => cases e
theorem Rels.intsD : ∀ (ns : List Int), Rels K ι n H (ns.map V.int) (ns.map D.int)
  | [] => Rels.nil
  | i :: ns => Rels.cons (by rw [Rel]) (Rels.intsD ns)
theorem rgV_ok (i j : Int) : Rels K ι n H (rgV i j) (rngD i j) := by
  unfold rgV rngD
  have : ∀ l : List Nat, Rels K ι n H (l.map fun k => V.int (i + (k : Nat))) (l.map fun k => D.int (i + (k : Nat))) := by
    intro l
    induction l with
    | nil => exact Rels.nil
    | cons a l ih => exact Rels.cons (by rw [Rel]) ih
  exact this _
theorem minI_le : ∀ (ns : List Int) (m : Int), minI m ns ≤ m ∧ ∀ y ∈ ns, minI m ns ≤ y
  | [], m => ⟨Int.le_refl _, fun _ h => nomatch h⟩
  | x :: xs, m => by
    have ih := minI_le xs (if x < m then x else m)
    rw [minI]
    have h2 : (if x < m then x else m) ≤ m ∧ (if x < m then x else m) ≤ x := by split <;> constructor <;> omega
    refine ⟨by omega, fun y hy => ?_⟩
    rcases List.mem_cons.mp hy with rfl | hy
    · omega
    · exact ih.2 y hy
theorem minI_mem : ∀ (ns : List Int) (m : Int), minI m ns = m ∨ minI m ns ∈ ns
  | [], m => .inl rfl
  | x :: xs, m => by
    have ih := minI_mem xs (if x < m then x else m)
    rw [minI]
    rcases ih with ih | ih
    · rw [ih]
      split
      · exact .inr List.mem_cons_self
      · exact .inl rfl
    · exact .inr (List.mem_cons_of_mem _ ih)
theorem maxI_le : ∀ (ns : List Int) (m : Int), m ≤ maxI m ns ∧ ∀ y ∈ ns, y ≤ maxI m ns
  | [], m => ⟨Int.le_refl _, fun _ h => nomatch h⟩
  | x :: xs, m => by
    have ih := maxI_le xs (if x > m then x else m)
    rw [maxI]
    have h2 : m ≤ (if x > m then x else m) ∧ x ≤ (if x > m then x else m) := by split <;> constructor <;> omega
    refine ⟨by omega, fun y hy => ?_⟩
    rcases List.mem_cons.mp hy with rfl | hy
    · omega
    · exact ih.2 y hy
theorem maxI_mem : ∀ (ns : List Int) (m : Int), maxI m ns = m ∨ maxI m ns ∈ ns
  | [], m => .inl rfl
  | x :: xs, m => by
    have ih := maxI_mem xs (if x > m then x else m)
    rw [maxI]
    rcases ih with ih | ih
    · rw [ih]
      split
      · exact .inr List.mem_cons_self
      · exact .inl rfl
    · exact .inr (List.mem_cons_of_mem _ ih)
/-- a fresh list's elements, told once more as a list or a tuple -/
theorem lstOf_rels (S : SR K ι s H) {d : D} {xs : List D} {v : V} (h : RelT K ι s.length H0 H v d) (e : lstOf s d = some xs) : ∃ a vs, v = .ref a ∧ SqL K H a vs ∧ Rels K ι s.length H vs xs := by
  obtain ⟨a, vs, h1, h2, h3, _⟩ := lstOf_ok S h e
  exact ⟨a, vs, h1, h2, h3⟩
end

section
variable {X : Cx} {g : G} {C : Ctb} {W : WX} {pos : Pos} {e e2 e3 : Expr} {a b c : Ex} {E : EK}
/-! ### displays -/
theorem e_tup {es : List Expr} {xs : Exs} {k} (h : AA X g C W es xs) : EE X g C W (.Tuple es k pos) (.tup xs) := by
  refine pe_mono (pe_tup h) fun σ H Q q => ?_
  obtain ⟨ι, s, fr, S, F, o⟩ := q
  rw [ev] at o
  refine ⟨ι, s, fr, S, F, o.bind.imp fun ι1 s1 H1 d x S1 ⟨_, _, q⟩ vs r => ?_⟩
  by_cases hl : Short d.length
  · rw [if_pos hl] at q
    exact ⟨lim_le (by rw [r.length]; exact hl), fun p hp => FinS.tup S1 hp r fun ι' H' x2 S2 => (q ι' H' x2 S2).of x.back⟩
  · rw [if_neg hl] at q
    exact q.elim
theorem e_lst {es : List Expr} {xs : Exs} (h : AA X g C W es xs) : EE X g C W (.List es pos) (.lst xs) := by
  refine pe_mono (pe_lst h) fun σ H Q q => ?_
  obtain ⟨ι, s, fr, S, F, o⟩ := q
  rw [ev] at o
  refine ⟨ι, s, fr, S, F, o.bind.imp fun ι1 s1 H1 d x S1 ⟨_, _, q⟩ vs r => ?_⟩
  by_cases hl : Short d.length
  · rw [if_pos hl] at q
    exact ⟨lim_le (by rw [r.length]; exact hl), fun p hp => FinS.lst S1 hp r fun ι' H' x2 S2 => (q ι' H' x2 S2).of x.back⟩
  · rw [if_neg hl] at q
    exact q.elim
/-! ### subscripts -/
theorem i_all : IxR X (rV2 X.K C E fun x y s => optR s (ix s x y)) := by
  rintro value slice pins s0 σ H x y v u Q I rx ry ⟨ι, s, d, e, H0, H1, S, r1, r2, o⟩ hs
  obtain ⟨z, hz, fin⟩ := o.opt S
  refine ix_seq value slice pins s0 σ H x y v u Q I rx ry ?_ hs
  unfold ix at hz
  split at hz
  · cases r2.int
    split at hz
    · cases r1.str
      split at hz
      · obtain ⟨k, h1, rfl⟩ := Option.map_eq_some_iff.mp hz
        exact .inr (.inr ⟨_, _, k, rfl, rfl, lim_le (by assumption), h1, FinS.str S fin⟩)
      · cases hz
    · obtain ⟨xs, h1, h2⟩ := Option.bind_eq_some_iff.mp hz
      obtain ⟨a, vs, rfl, h3, h4, _⟩ := seqOf_ok S r1 h1
      obtain ⟨w, h5, h6⟩ := h4.atI h2
      rcases h3 with h3 | h3
      · exact .inl ⟨a, vs, _, w, rfl, rfl, h3, h5, FinS.same S fin h6⟩
      · exact .inr (.inl ⟨a, vs, _, w, rfl, rfl, h3, h5, FinS.same S fin h6⟩)
  · cases hz
theorem e_ix (ha : EE X g C W e a) (hb : EE X g C W e2 b) (hs : PlainIx e2) : EE X g C W (.Subscript e e2 pos) (.ix a b) := by
  refine ⟨fun pins s σ H Q I q => ?_⟩
  exact (pe_ix (i_all (C := C) (E := fun c d H' => W c d σ H')) ha hb hs).run pins s σ H Q I (tE.two (fun fr s => by rw [ev]) q)
/-! ### slices -/
def tO (g : G) (K : PySem.W.Frag) (C : Ctb) (W : WX) (x : Op1) : TO := fun σ H Q => ∃ ι s fr, SR K ι s H ∧ FrR K ι s.length H σ fr ∧ Out K C (fun c d H' => W c d σ H') ι s.length H (evo g x fr s) (fun _ _ H' d => Q d H')
theorem o_none : PO X none (tO g X.K C W .none) := ⟨fun pins s σ H Q I q => by
  obtain ⟨ι, s1, fr, S, F, o⟩ := q
  rw [evo] at o
  exact po_none.run pins s σ H Q I (o ι H .refl S)⟩
theorem o_some (h : EE X g C W e a) : PO X (some e) (tO g X.K C W (.some a)) := ⟨fun pins s σ H Q I q => by
  obtain ⟨ι, s1, fr, S, F, o⟩ := q
  rw [evo] at o
  refine (po_some h).run pins s σ H Q I ⟨ι, s1, fr, S, F, o.bind.imp fun ι1 s2 H1 d x S1 ⟨_, _, q⟩ v r => ?_⟩
  cases d with
  | int i => cases r.int; exact ⟨i, rfl, q ι1 H1 .refl S1⟩
  | _ => exact q.elim⟩
def rS (K : PySem.W.Frag) (C : Ctb) (E : EK) : V → Option Int → Option Int → Hp → VK → Prop := fun v lo hi H Q => ∃ ι s d H0, SR K ι s H ∧ RelT K ι s.length H0 H v d ∧ Out K C E ι s.length H (optR s (slc s d lo hi)) (Fin1 K H Q)
theorem cut_whole {xs : List D} {lo hi : Option Int} (h : HT.sIx xs.length 0 lo = 0 ∧ HT.sIx xs.length xs.length hi = xs.length) : cut xs lo hi = xs := by
  unfold cut
  rw [h.1, h.2]
  simp
theorem s_all : SlR X (rS X.K C E) := by
  rintro pins s0 σ H x v vl vu lo hi sl Q I rx hs pl pu ⟨ι, s, d, H0, S, r, o⟩
  obtain ⟨z, hz, fin⟩ := o.opt S
  unfold slc at hz
  split at hz
  · cases hz
    obtain ⟨a, vs, rfl, h1, h2⟩ := r.tup
    refine sl_tupA pins s0 σ H _ v vl vu lo hi sl Q I rx hs pl pu ⟨a, vs, rfl, .of h1, fun w => ?_, fun _ p hp => FinS.tup S hp (h2.cutV lo hi) fin⟩
    rw [h2.length] at w
    rw [cut_whole w] at fin
    exact FinS.same S fin (by rw [Rel]; exact ⟨a, vs, rfl, h1, h2⟩)
  · obtain ⟨xs, h1, rfl⟩ := Option.map_eq_some_iff.mp hz
    obtain ⟨a, vs, rfl, h2, h3, _⟩ := lstOf_ok S r h1
    exact sl_list pins s0 σ H _ v vl vu lo hi sl Q I rx hs pl pu ⟨a, vs, rfl, h2, fun p hp => FinS.lst S hp (h3.cutV lo hi) fin⟩
theorem e_slice {lo hi : Option Expr} {l h : Op1} {p2 : Pos} (ha : EE X g C W e a) (hl : PO X lo (tO g X.K C W l)) (hh : PO X hi (tO g X.K C W h)) : EE X g C W (.Subscript e (.Slice lo hi none p2) pos) (.slice a l h) := by
  refine ⟨fun pins s σ H Q I q => ?_⟩
  refine (pe_slice (s_all (C := C) (E := fun c d H' => W c d σ H')) ha hl hh).run pins s σ H Q I ?_
  obtain ⟨ι, s1, fr, S, F, o⟩ := q
  rw [ev] at o
  exact ⟨ι, s1, fr, S, F, o.bind.imp fun ι1 s2 H1 d x S1 ⟨_, _, q⟩ v r => ⟨ι1, s2, fr, S1, F.ext x, q.bind.imp fun ι2 s3 H2 l2 y S2 ⟨_, _, q2⟩ =>
    ⟨ι2, s3, fr, S2, (F.ext x).ext y, q2.bind.imp fun ι3 s4 H3 h2 z S3 ⟨_, _, q3⟩ => ⟨ι3, s4, d, H, S3, (r.ext y).ext z, q3.fin (x.trans (y.trans z)).back⟩⟩⟩⟩
/-! ### isinstance -/
def tyS : Ty → String
  | .int => "int" | .bool => "bool" | .str => "str" | .tuple => "tuple" | .list => "list"
theorem isTy_ok {K : PySem.W.Frag} {ι : Io} {s : Sto} {H H0 : Hp} {v : V} {d : D} {t : Ty} {b : Bool} (S : SR K ι s H) (r : RelT K ι s.length H0 H v d) (h : isTy s d t = some b) : ∃ w, TyX K H v w ∧ PySem.W.kitOne K w (.type (tyS t)) = some b := by
  cases d with
  | non => cases r.non; cases h; refine ⟨_, .base .non, ?_⟩; cases t <;> exact kit_ty (by decide +kernel)
  | bl x => cases r.bl; cases h; refine ⟨_, .base (.bl x), ?_⟩; cases t <;> exact kit_ty (by decide +kernel)
  | int x => cases r.int; cases h; refine ⟨_, .base (.int x), ?_⟩; cases t <;> exact kit_ty (by decide +kernel)
  | str x => cases r.str; cases h; refine ⟨_, .base (.str x), ?_⟩; cases t <;> exact kit_ty (by decide +kernel)
  | tup x => obtain ⟨a, vs, rfl, h1, _⟩ := r.tup; cases h; refine ⟨_, .base (.tup h1), ?_⟩; cases t <;> exact kit_ty (by decide +kernel)
  | fro x =>
    obtain ⟨a, vs, rfl, h1, _⟩ := r.fro
    cases h
    rcases h1 with ⟨o, h1⟩ | ⟨o, its, n, h1, h2, _⟩
    · refine ⟨_, .base (.frz h1), ?_⟩; cases t <;> exact kit_ty (by decide +kernel)
    · refine ⟨_, .kList h1 h2, ?_⟩; cases t <;> exact kit_ty (by decide +kernel)
  | lst x => obtain ⟨a, vs, rfl, _, _, h1, _⟩ := r; cases h; refine ⟨_, .base (.lst h1), ?_⟩; cases t <;> exact kit_ty (by decide +kernel)
  | ref m =>
    obtain ⟨_, rfl⟩ := r.ref
    simp only [isTy] at h
    split at h
    · rename_i xs q
      obtain ⟨vs, h1, _⟩ := S.lst q
      cases h; refine ⟨_, .base (.lst h1), ?_⟩; cases t <;> exact kit_ty (by decide +kernel)
    · cases h
  | exn _ _ => exact r.exn.elim
end
end MP

set_option Elab.async false
set_option linter.all false
set_option maxRecDepth 100000
set_option maxHeartbeats 4000000
/-! Calls: isinstance, built-in functions, own functions. -/
namespace MP
open PySem L2

section
variable {X : Cx} {g : G} {C : Ctb} {W : WX} {pos p p2 : Pos} {e e2 e3 : Expr} {a b c : Ex} {E : EK} {x y : Str}
theorem star1 : (backTo pos (starEach [] X.env)).any (·.1) = false := rfl
def notStar : Expr → Bool
  | .Starred .. => false
  | _ => true
theorem star_of {es : List Expr} {env : Env} (h : notStar e = true) : starEach (e :: es) env = (false, eval e env) :: starEach es env := by
  cases e <;> first | rfl | (simp [notStar] at h; done)
theorem star_plain {env : Env} : ∀ {es : List Expr}, es.all notStar = true → (backTo pos (starEach es env)).any (·.1) = false
  | [], _ => rfl
  | e :: es, h => by
    rw [List.all_cons, Bool.and_eq_true] at h
    rw [star_of h.1]
    show (false || (backTo pos (starEach es env)).any (·.1)) = false
    rw [star_plain h.2] <;> rfl
/-- isinstance(e, T) -/
theorem e_isin {t : Ty} (hg : Gl X "isinstance") (hm : X.mg "isinstance" = none) (hg2 : Gl X y) (hm2 : X.mg y = none) (hv : bootBuiltins y = some (.type (tyS t))) (hn : y ≠ "__name__") (hdb : (y == ("__debug__" : Str)) = false) (ha : EE X g C W e a) (hs : notStar e = true) :
    EE X g C W (.Call (.Name "isinstance" p) [e, .Name y p2] [] pos) (.isin a t) := by
  have q := pe_callB (pos := pos) (p := p) call_isi hg hm (by decide +kernel) (pa_cons ha (pa_cons (pe_bltn (v := .ty (tyS t)) (pos := p2) hg2 hm2 hv rfl hn hdb) pa_nil) (star_of hs)) (by decide) (by decide) (star_of hs) rfl
  refine pe_mono q fun σ H Q q => ?_
  have q2 := tE.one (a := a) (fun fr s => by rw [ev]) q
  obtain ⟨ι, s, fr, S, F, o⟩ := q2
  refine ⟨ι, s, fr, S, F, o.imp fun ι1 s1 H1 d x S1 k v r => ?_⟩
  obtain ⟨ι2, s2, d2, H0, S2, r2, o2⟩ := k v r
  obtain ⟨t2, ht, o2⟩ := Out.opt S2 (Out.bind o2)
  obtain ⟨w, h1, h2⟩ := isTy_ok S2 r2 ht
  obtain ⟨_, _, o3⟩ := o2 ι2 H1 .refl S2
  exact ⟨v, .ty (tyS t), w, _, t2, rfl, .ty _, h1, h2, FinS.bl S2 (fun ι' H' x S => o3 ι' H' x S)⟩
/-! ### built-in functions -/
def rB1 (K : PySem.W.Frag) (C : Ctb) (E : EK) (f : Bt) : List V → Hp → VK → Prop := fun vs H Q => ∃ v, vs = [v] ∧ rV1 K C E (fun d s => optR s (bt1 s f d)) v H Q
def btS : Bt → String
  | .len => "len" | .abs => "abs" | .int => "int" | .sum => "sum" | .min => "min" | .max => "max" | .all => "all" | .any => "any" | .tuple => "tuple" | .list => "list" | .str => "str" | .sorted => "sorted"
def btTy : Bt → Bool
  | .int => true | .tuple => true | .list => true | .str => true | _ => false
theorem f_len : CallR X (.builtin "len") (rB1 X.K C E .len) := by
  rintro pins s0 σ H xs us Q I r ⟨v, rfl, ι, s, d, H0, S, r1, o⟩
  obtain ⟨z, hz, fin⟩ := o.opt S
  refine call_len pins s0 σ H _ us Q I r ?_
  simp only [bt1, lenD] at hz
  split at hz
  · cases r1.str
    split at hz <;> cases hz
    exact ⟨_, _, rfl, ⟨lim_le (by assumption), rfl⟩, FinS.int S fin⟩
  · obtain ⟨xs, h1, rfl⟩ := Option.map_eq_some_iff.mp hz
    obtain ⟨a, vs, rfl, h3, h4, _⟩ := seqOf_ok S r1 h1
    refine ⟨_, vs.length, rfl, ?_, by rw [h4.length]; exact FinS.int S fin⟩
    rcases h3 with h3 | h3
    · exact .inl ⟨vs, h3, rfl⟩
    · exact .inr ⟨vs, h3, rfl⟩
theorem f_abs : CallR X (.builtin "abs") (rB1 X.K C E .abs) := by
  rintro pins s0 σ H xs us Q I r ⟨v, rfl, ι, s, d, H0, S, r1, o⟩
  obtain ⟨z, hz, fin⟩ := o.opt S
  simp only [bt1, absD] at hz
  split at hz <;> cases hz
  cases r1.int
  exact call_abs pins s0 σ H _ us Q I r ⟨_, rfl, FinS.int S fin⟩
theorem f_int : CallR X (.type "int") (rB1 X.K C E .int) := by
  rintro pins s0 σ H xs us Q I r ⟨v, rfl, ι, s, d, H0, S, r1, o⟩
  obtain ⟨z, hz, fin⟩ := o.opt S
  simp only [bt1, intD] at hz
  split at hz <;> cases hz
  · cases r1.int
    exact call_int1 pins s0 σ H _ us Q I r (.inl ⟨_, rfl, FinS.int S fin⟩)
  · cases r1.bl
    exact call_int1 pins s0 σ H _ us Q I r (.inr ⟨_, rfl, FinS.int S fin⟩)
theorem f_str : CallR X (.type "str") (rB1 X.K C E .str) := by
  rintro pins s0 σ H xs us Q I r ⟨v, rfl, ι, s, d, H0, S, r1, o⟩
  obtain ⟨z, hz, fin⟩ := o.opt S
  simp only [bt1, strD] at hz
  split at hz
  · split at hz <;> cases hz
    cases r1.int
    exact call_str_int pins s0 σ H _ us Q I r ⟨_, rfl, (by assumption), FinS.str S fin⟩
  · cases hz
theorem f_sum (hc : X.calm = true) : CallR X (.builtin "sum") (rB1 X.K C E .sum) := by
  rintro pins s0 σ H xs us Q I r ⟨v, rfl, ι, s, d, H0, S, r1, o⟩
  obtain ⟨z, hz, fin⟩ := o.opt S
  obtain ⟨ns, h1, rfl⟩ := Option.map_eq_some_iff.mp (show ((lstOf s d).bind intsD).map (fun ns => D.int ns.sum) = some z from hz)
  obtain ⟨ds, h2, h3⟩ := Option.bind_eq_some_iff.mp h1
  obtain ⟨a, vs, rfl, h4, h5⟩ := lstOf_rels S r1 h2
  cases intsD_ok h5 h3
  exact cr_sum hc pins s0 σ H _ us Q I r ⟨a, ns, rfl, h4, FinS.int S fin⟩
theorem f_min (hc : X.calm = true) : CallR X (.builtin "min") (rB1 X.K C E .min) := by
  rintro pins s0 σ H xs us Q I r ⟨v, rfl, ι, s, d, H0, S, r1, o⟩
  obtain ⟨z, hz, fin⟩ := o.opt S
  obtain ⟨ns, h1, hz⟩ := Option.bind_eq_some_iff.mp (show ((lstOf s d).bind intsD).bind minD = some z from hz)
  obtain ⟨ds, h2, h3⟩ := Option.bind_eq_some_iff.mp h1
  obtain ⟨a, vs, rfl, h4, h5⟩ := lstOf_rels S r1 h2
  cases intsD_ok h5 h3
  cases ns with
  | nil => cases hz
  | cons n ns =>
    cases hz
    refine cr_min hc pins s0 σ H _ us Q I r ⟨a, n :: ns, rfl, h4, Nat.succ_pos _, fun m hm hl => ?_⟩
    have e : m = minI n ns := by
      have h6 := minI_le ns n
      have h7 := minI_mem ns n
      have h8 : minI n ns ∈ n :: ns := by rcases h7 with h | h <;> simp [h]
      have h9 := hl _ h8
      rcases List.mem_cons.mp hm with rfl | hm
      · omega
      · have := h6.2 m hm; omega
    rw [e]
    exact FinS.int S fin
theorem f_max (hc : X.calm = true) : CallR X (.builtin "max") (rB1 X.K C E .max) := by
  rintro pins s0 σ H xs us Q I r ⟨v, rfl, ι, s, d, H0, S, r1, o⟩
  obtain ⟨z, hz, fin⟩ := o.opt S
  obtain ⟨ns, h1, hz⟩ := Option.bind_eq_some_iff.mp (show ((lstOf s d).bind intsD).bind maxD = some z from hz)
  obtain ⟨ds, h2, h3⟩ := Option.bind_eq_some_iff.mp h1
  obtain ⟨a, vs, rfl, h4, h5⟩ := lstOf_rels S r1 h2
  cases intsD_ok h5 h3
  cases ns with
  | nil => cases hz
  | cons n ns =>
    cases hz
    refine cr_max hc pins s0 σ H _ us Q I r ⟨a, n :: ns, rfl, h4, Nat.succ_pos _, fun m hm hl => ?_⟩
    have e : m = maxI n ns := by
      have h6 := maxI_le ns n
      have h7 := maxI_mem ns n
      have h8 : maxI n ns ∈ n :: ns := by rcases h7 with h | h <;> simp [h]
      have h9 := hl _ h8
      rcases List.mem_cons.mp hm with rfl | hm
      · omega
      · have := h6.2 m hm; omega
    rw [e]
    exact FinS.int S fin
theorem f_all (hc : X.calm = true) : CallR X (.builtin "all") (rB1 X.K C E .all) := by
  rintro pins s0 σ H xs us Q I r ⟨v, rfl, ι, s, d, H0, S, r1, o⟩
  obtain ⟨z, hz, fin⟩ := o.opt S
  obtain ⟨ns, h1, rfl⟩ := Option.map_eq_some_iff.mp (show ((lstOf s d).bind blsD).map (fun bs => D.bl (bs.all id)) = some z from hz)
  obtain ⟨ds, h2, h3⟩ := Option.bind_eq_some_iff.mp h1
  obtain ⟨a, vs, rfl, h4, h5⟩ := lstOf_rels S r1 h2
  cases blsD_ok h5 h3
  exact cr_all hc pins s0 σ H _ us Q I r ⟨a, ns, rfl, h4, FinS.bl S fin⟩
theorem f_any (hc : X.calm = true) : CallR X (.builtin "any") (rB1 X.K C E .any) := by
  rintro pins s0 σ H xs us Q I r ⟨v, rfl, ι, s, d, H0, S, r1, o⟩
  obtain ⟨z, hz, fin⟩ := o.opt S
  obtain ⟨ns, h1, rfl⟩ := Option.map_eq_some_iff.mp (show ((lstOf s d).bind blsD).map (fun bs => D.bl (bs.any id)) = some z from hz)
  obtain ⟨ds, h2, h3⟩ := Option.bind_eq_some_iff.mp h1
  obtain ⟨a, vs, rfl, h4, h5⟩ := lstOf_rels S r1 h2
  cases blsD_ok h5 h3
  exact cr_any hc pins s0 σ H _ us Q I r ⟨a, ns, rfl, h4, FinS.bl S fin⟩
theorem f_tuple : CallR X (.type "tuple") (rB1 X.K C E .tuple) := by
  rintro pins s0 σ H xs us Q I r ⟨v, rfl, ι, s, d, H0, S, r1, o⟩
  obtain ⟨z, hz, fin⟩ := o.opt S
  simp only [bt1, tupD] at hz
  split at hz
  · cases hz
    obtain ⟨a, vs, rfl, h1, h2⟩ := r1.tup
    exact call_tuple_of pins s0 σ H _ us Q I r ⟨a, vs, rfl, .inr ⟨.of h1, FinS.same S fin (by rw [Rel]; exact ⟨a, vs, rfl, h1, h2⟩)⟩⟩
  · obtain ⟨ds, h1, rfl⟩ := Option.map_eq_some_iff.mp hz
    obtain ⟨a, vs, rfl, h3, h4⟩ := lstOf_rels S r1 h1
    exact call_tuple_of pins s0 σ H _ us Q I r ⟨a, vs, rfl, .inl ⟨h3, fun p hp => FinS.tup S hp h4 fin⟩⟩
theorem f_list : CallR X (.type "list") (rB1 X.K C E .list) := by
  rintro pins s0 σ H xs us Q I r ⟨v, rfl, ι, s, d, H0, S, r1, o⟩
  obtain ⟨z, hz, fin⟩ := o.opt S
  obtain ⟨ds, h1, rfl⟩ := Option.map_eq_some_iff.mp (show (seqOf s d).map D.lst = some z from hz)
  obtain ⟨a, vs, rfl, h3, h4, _⟩ := seqOf_ok S r1 h1
  exact call_list_of pins s0 σ H _ us Q I r ⟨a, vs, rfl, h3, fun p hp => FinS.lst S hp h4 fin⟩
/-- f(e), f a built-in function or type -/
theorem bt_rd {f : Bt} {σ : St} {H : Hp} {Q : VK} (q : tE g X.K C W (.bt f a) σ H Q) : tCB (rB1 X.K C (fun c d H' => W c d σ H') f) (tCons (tE g X.K C W a) tNil) σ H Q := by
  have q2 := tE.one (a := a) (fun fr s => by rw [ev]) q
  obtain ⟨ι, s, fr, S, F, o⟩ := q2
  exact ⟨ι, s, fr, S, F, o.imp fun ι1 s1 H1 d x S1 k v r => ⟨v, rfl, k v r⟩⟩
theorem e_bt {f : Bt} (hf : f ≠ .sorted) (hc : X.calm = true) (hg : Gl X x) (hm : X.mg x = none) (hx : x = Str.ofString (btS f)) (ha : EE X g C W e a) (hs : notStar e = true) : EE X g C W (.Call (.Name x p) [e] [] pos) (.bt f a) := by
  subst hx
  refine ⟨fun pins s σ H Q I q => ?_⟩
  have q2 := bt_rd q
  cases f with
  | len => exact (pe_callB f_len hg hm (by decide +kernel) (pa_cons ha pa_nil (star_of hs)) (by decide) (by decide) (star_of hs) rfl).run pins s σ H Q I q2
  | abs => exact (pe_callB f_abs hg hm (by decide +kernel) (pa_cons ha pa_nil (star_of hs)) (by decide) (by decide) (star_of hs) rfl).run pins s σ H Q I q2
  | int => exact (pe_callTy f_int hg hm (by decide +kernel) (pa_cons ha pa_nil (star_of hs)) (by decide) (by decide) (star_of hs) rfl).run pins s σ H Q I q2
  | str => exact (pe_callTy f_str hg hm (by decide +kernel) (pa_cons ha pa_nil (star_of hs)) (by decide) (by decide) (star_of hs) rfl).run pins s σ H Q I q2
  | sum => exact (pe_callB (f_sum hc) hg hm (by decide +kernel) (pa_cons ha pa_nil (star_of hs)) (by decide) (by decide) (star_of hs) rfl).run pins s σ H Q I q2
  | min => exact (pe_callB (f_min hc) hg hm (by decide +kernel) (pa_cons ha pa_nil (star_of hs)) (by decide) (by decide) (star_of hs) rfl).run pins s σ H Q I q2
  | max => exact (pe_callB (f_max hc) hg hm (by decide +kernel) (pa_cons ha pa_nil (star_of hs)) (by decide) (by decide) (star_of hs) rfl).run pins s σ H Q I q2
  | all => exact (pe_callB (f_all hc) hg hm (by decide +kernel) (pa_cons ha pa_nil (star_of hs)) (by decide) (by decide) (star_of hs) rfl).run pins s σ H Q I q2
  | any => exact (pe_callB (f_any hc) hg hm (by decide +kernel) (pa_cons ha pa_nil (star_of hs)) (by decide) (by decide) (star_of hs) rfl).run pins s σ H Q I q2
  | tuple => exact (pe_callTy f_tuple hg hm (by decide +kernel) (pa_cons ha pa_nil (star_of hs)) (by decide) (by decide) (star_of hs) rfl).run pins s σ H Q I q2
  | list => exact (pe_callTy f_list hg hm (by decide +kernel) (pa_cons ha pa_nil (star_of hs)) (by decide) (by decide) (star_of hs) rfl).run pins s σ H Q I q2
  | sorted => exact absurd rfl hf
end
end MP

set_option Elab.async false
set_option linter.all false
set_option maxRecDepth 100000
set_option maxHeartbeats 4000000
/-! Calls of own functions, methods, what is walked, comprehensions. -/
namespace MP
open PySem L2

section
variable {X : Cx} {g : G} {C : Ctb} {W : WX} {pos p p2 : Pos} {e e2 e3 : Expr} {a b c : Ex} {E : EK} {x y : Str}
theorem f_min2 (hc : X.calm = true) : CallR X (.builtin "min") (fun vs H Q => ∃ v u, vs = [v, u] ∧ rV2 X.K C E (fun d e s => optR s (bt2 .min d e)) v u H Q) := by
  rintro pins s0 σ H xs us Q I r ⟨v, u, rfl, ι, s, d, e, H0, H1, S, r1, r2, o⟩
  obtain ⟨z, hz, fin⟩ := o.opt S
  simp only [bt2] at hz
  split at hz <;> first | (cases hz; done) | skip
  · cases hz
    cases r1.int; cases r2.int
    exact call_min2 hc pins s0 σ H _ us Q I r ⟨_, _, rfl, FinS.int S fin⟩
  all_goals (rename_i h; cases h)
theorem f_max2 (hc : X.calm = true) : CallR X (.builtin "max") (fun vs H Q => ∃ v u, vs = [v, u] ∧ rV2 X.K C E (fun d e s => optR s (bt2 .max d e)) v u H Q) := by
  rintro pins s0 σ H xs us Q I r ⟨v, u, rfl, ι, s, d, e, H0, H1, S, r1, r2, o⟩
  obtain ⟨z, hz, fin⟩ := o.opt S
  simp only [bt2] at hz
  split at hz <;> first | (cases hz; done) | skip
  · rename_i h; cases h
  · cases hz
    cases r1.int; cases r2.int
    exact call_max2 hc pins s0 σ H _ us Q I r ⟨_, _, rfl, FinS.int S fin⟩
theorem bt2_rd {f : Bt} {σ : St} {H : Hp} {Q : VK} (q : tE g X.K C W (.bt2 f a b) σ H Q) :
    tCB (fun vs H Q => ∃ v u, vs = [v, u] ∧ rV2 X.K C (fun c d H' => W c d σ H') (fun d e s => optR s (bt2 f d e)) v u H Q) (tCons (tE g X.K C W a) (tCons (tE g X.K C W b) tNil)) σ H Q := by
  have q2 := tE.two (a := a) (b := b) (fun fr s => by rw [ev]) q
  obtain ⟨ι, s, fr, S, F, o⟩ := q2
  refine ⟨ι, s, fr, S, F, o.imp fun ι1 s1 H1 d x S1 k v r => ?_⟩
  obtain ⟨ι2, s2, fr2, S2, F2, o2⟩ := k v r
  exact ⟨ι2, s2, fr2, S2, F2, o2.imp fun ι3 s3 H3 d3 x3 S3 k3 u r3 => ⟨v, u, rfl, k3 u r3⟩⟩
theorem e_min2 (hc : X.calm = true) (hg : Gl X "min") (hm : X.mg "min" = none) (ha : EE X g C W e a) (hb : EE X g C W e2 b) (hs : notStar e = true) (hs2 : notStar e2 = true) : EE X g C W (.Call (.Name "min" p) [e, e2] [] pos) (.bt2 .min a b) := by
  refine ⟨fun pins s σ H Q I q => ?_⟩
  exact (pe_callB (f_min2 hc) hg hm (by decide +kernel) (pa_cons ha (pa_cons hb pa_nil (star_of hs2)) (star_of hs)) (by decide) (by decide) (star_of hs) (star_plain (by rw [List.all_cons, hs2]; rfl))).run pins s σ H Q I (bt2_rd q)
theorem e_max2 (hc : X.calm = true) (hg : Gl X "max") (hm : X.mg "max" = none) (ha : EE X g C W e a) (hb : EE X g C W e2 b) (hs : notStar e = true) (hs2 : notStar e2 = true) : EE X g C W (.Call (.Name "max" p) [e, e2] [] pos) (.bt2 .max a b) := by
  refine ⟨fun pins s σ H Q I q => ?_⟩
  exact (pe_callB (f_max2 hc) hg hm (by decide +kernel) (pa_cons ha (pa_cons hb pa_nil (star_of hs2)) (star_of hs)) (by decide) (by decide) (star_of hs) (star_plain (by rw [List.all_cons, hs2]; rfl))).run pins s σ H Q I (bt2_rd q)
/-! ### list(range(..)), tuple(range(..)) -/
theorem rgOk_of {i j : Int} (h : rngOk i j = true ∧ Short (j - i).toNat) : RgOk i j := by
  obtain ⟨⟨h1, h2⟩, h3, h4⟩ := rngOk_iff h.1
  have h5 : (j - i).toNat ≤ 16777216 := h.2
  exact ⟨h1, h2, h3, h4, by omega⟩
theorem lrng_rd {t : Bool} {σ : St} {H : Hp} {Q : VK} (q : tE g X.K C W (.lrng t a b) σ H Q) (mk : Int → Int → Hp → Prop)
    (k : ∀ i j H1, RgOk i j → (∀ q, H1 q = none → Q (.ref q) (upd H1 q (if t then .tup (rgV i j) else .lst (rgV i j)))) → mk i j H1) :
    tE g X.K C W a σ H fun v H1 => tE g X.K C W b σ H1 fun u H2 => ∃ i j, v = .int i ∧ u = .int j ∧ mk i j H2 := by
  have q2 := tE.two (a := a) (b := b) (fun fr s => by rw [ev]) q
  obtain ⟨ι, s, fr, S, F, o⟩ := q2
  refine ⟨ι, s, fr, S, F, o.imp fun ι1 s1 H1 d x S1 k1 v r => ?_⟩
  obtain ⟨ι2, s2, fr2, S2, F2, o2⟩ := k1 v r
  refine ⟨ι2, s2, fr2, S2, F2, o2.imp fun ι3 s3 H3 d3 x3 S3 k3 u r3 => ?_⟩
  obtain ⟨ι4, s4, d4, e4, H5, H6, S4, r4, r5, o4⟩ := k3 u r3
  dsimp only at o4
  split at o4
  · cases r4.int; cases r5.int
    split at o4
    · rename_i hl
      refine ⟨_, _, rfl, rfl, k _ _ _ (rgOk_of hl) fun q hq => ?_⟩
      cases t with
      | true => exact FinS.tup S4 hq (rgV_ok _ _) (fun ι' H' x S => o4 ι' H' x S)
      | false => exact FinS.lst S4 hq (rgV_ok _ _) (fun ι' H' x S => o4 ι' H' x S)
    · exact o4.elim
  · exact o4.elim
theorem e_lrng1 (hc : X.calm = true) (hg : Gl X "list") (hm : X.mg "list" = none) (hg2 : Gl X "range") (hm2 : X.mg "range" = none) (hb : EE X g C W e b) (hs : notStar e = true) {pr : Pos} :
    EE X g C W (.Call (.Name "list" p) [.Call (.Name "range" p2) [e] [] pr] [] pos) (.lrng false (.con (.int 0)) b) := by
  refine pe_mono (pe_listRg hc hg hm (prg_1 hg2 hm2 hb (star_of hs)) rfl) fun σ H Q q => ?_
  obtain ⟨ι, s, fr, S, F, o⟩ := lrng_rd q (fun i j H1 => RgOk i j ∧ ∀ q, H1 q = none → Q (.ref q) (upd H1 q (.lst (rgV i j)))) fun i j H1 h1 h2 => ⟨h1, h2⟩
  rw [ev] at o
  have q3 := o ι H .refl S (.int 0) (.of (by rw [Rel]))
  obtain ⟨ι2, s2, fr2, S2, F2, o2⟩ := q3
  refine ⟨ι2, s2, fr2, S2, F2, o2.imp fun ι3 s3 H3 d3 x3 S3 k3 u r3 => ?_⟩
  obtain ⟨i, j, e1, e2, h1, h2⟩ := k3 u r3
  cases e1
  exact ⟨j, e2, h1, h2⟩
theorem e_lrng2 (hc : X.calm = true) (hg : Gl X "list") (hm : X.mg "list" = none) (hg2 : Gl X "range") (hm2 : X.mg "range" = none) (ha : EE X g C W e a) (hb : EE X g C W e2 b) (hs : notStar e = true) (hs2 : notStar e2 = true) {pr : Pos} :
    EE X g C W (.Call (.Name "list" p) [.Call (.Name "range" p2) [e, e2] [] pr] [] pos) (.lrng false a b) := by
  refine pe_mono (pe_listRg hc hg hm (prg_2 hg2 hm2 ha hb (star_of hs) (star_of hs2) (star_plain (by rw [List.all_cons, hs2]; rfl))) rfl) fun σ H Q q => ?_
  exact lrng_rd q (fun i j H1 => RgOk i j ∧ ∀ q, H1 q = none → Q (.ref q) (upd H1 q (.lst (rgV i j)))) fun i j H1 h1 h2 => ⟨h1, h2⟩
theorem e_trng1 (hc : X.calm = true) (hg : Gl X "tuple") (hm : X.mg "tuple" = none) (hg2 : Gl X "range") (hm2 : X.mg "range" = none) (hb : EE X g C W e b) (hs : notStar e = true) {pr : Pos} :
    EE X g C W (.Call (.Name "tuple" p) [.Call (.Name "range" p2) [e] [] pr] [] pos) (.lrng true (.con (.int 0)) b) := by
  refine pe_mono (pe_tupRg hc hg hm (prg_1 hg2 hm2 hb (star_of hs)) rfl) fun σ H Q q => ?_
  obtain ⟨ι, s, fr, S, F, o⟩ := lrng_rd q (fun i j H1 => RgOk i j ∧ ∀ q, H1 q = none → Q (.ref q) (upd H1 q (.tup (rgV i j)))) fun i j H1 h1 h2 => ⟨h1, h2⟩
  rw [ev] at o
  have q3 := o ι H .refl S (.int 0) (.of (by rw [Rel]))
  obtain ⟨ι2, s2, fr2, S2, F2, o2⟩ := q3
  refine ⟨ι2, s2, fr2, S2, F2, o2.imp fun ι3 s3 H3 d3 x3 S3 k3 u r3 => ?_⟩
  obtain ⟨i, j, e1, e2, h1, h2⟩ := k3 u r3
  cases e1
  exact ⟨j, e2, h1, h2⟩
theorem e_trng2 (hc : X.calm = true) (hg : Gl X "tuple") (hm : X.mg "tuple" = none) (hg2 : Gl X "range") (hm2 : X.mg "range" = none) (ha : EE X g C W e a) (hb : EE X g C W e2 b) (hs : notStar e = true) (hs2 : notStar e2 = true) {pr : Pos} :
    EE X g C W (.Call (.Name "tuple" p) [.Call (.Name "range" p2) [e, e2] [] pr] [] pos) (.lrng true a b) := by
  refine pe_mono (pe_tupRg hc hg hm (prg_2 hg2 hm2 ha hb (star_of hs) (star_of hs2) (star_plain (by rw [List.all_cons, hs2]; rfl))) rfl) fun σ H Q q => ?_
  exact lrng_rd q (fun i j H1 => RgOk i j ∧ ∀ q, H1 q = none → Q (.ref q) (upd H1 q (.tup (rgV i j)))) fun i j H1 h1 h2 => ⟨h1, h2⟩
/-! ### own functions -/
def spI (K : PySem.W.Frag) (C : Ctb) (g : G) (f ar : Nat) : Sp := fun vs H Q E => vs.length = ar ∧ ∃ ι s ds, SR K ι s H ∧ Rels K ι s.length H vs ds ∧ Out K C E ι s.length H (g.call f ds s) (Fin1 K H Q)
/-- how keywords bind: f's number, the number of values by place, the keywords, their parameters' numbers -/
abbrev KwS := Nat × Nat × List Str × List Nat
def kwPutG {α : Type} (vs : List α) (ks : List Nat) (zs : List α) : List α := vs ++ (List.range ks.length).filterMap fun j => (ks.zip zs).lookup (vs.length + j)
/-- a function of the text, for its callers -/
structure FnC (X : Cx) (C : Ctb) (g : G) (x : Str) (f ar : Nat) (kw : List KwS) : Prop where
  ex : ∃ (a : Addr) (fd : FuncData) (ps : List Str) (k : Nat), FnOk X.prog X.w X.K X.mg X.base (L2.CX X.prog X.w) k a fd ps (spI X.K C g f ar) ∧ Room k X.A ∧ X.mg x = some (.ref a) ∧ PySem.W.keepIn X.K (.ref a) = true ∧ Binds X.K fd ps [] ∧ ps.length = ar ∧
    ∀ q ∈ kw, q.1 = f → ∀ (s : Shared) (us ws : List Value), X.K.In s.heap → us.length = q.2.1 → ws.length = q.2.2.1.length → BindsTo s fd ⟨us, q.2.2.1.zip ws⟩ (ps.zip (kwPutG us q.2.2.2 ws))
  db : (x == ("__debug__" : Str)) = false
  ln : ∀ ds s, g.call f ds s ≠ .no → ds.length = ar
theorem Out.live {α : Type} {K : PySem.W.Frag} {ι : Io} {n : Nat} {H : Hp} {r : R α} {P : Io → Sto → Hp → α → Prop} (h : Out K C E ι n H r P) : r ≠ .no := fun e => by rw [e] at h; exact h
theorem call_rd {f ar : Nat} {es : Exs} (ln : ∀ ds s, g.call f ds s ≠ .no → ds.length = ar) {σ : St} {H : Hp} {Q : VK} (q : tE g X.K C W (.call f es) σ H Q) : tCallSD (spI X.K C g f ar) [] (fun σ c d H' => W c d σ H') (tA g X.K C W es) σ H Q := by
  obtain ⟨ι, s, fr, S, F, o⟩ := q
  rw [ev] at o
  refine ⟨ι, s, fr, S, F, o.bind.imp fun ι1 s1 H1 ds x S1 ⟨_, _, k⟩ vs r => ?_⟩
  show spI X.K C g f ar (vs ++ []) H1 Q (fun c d H' => W c d σ H')
  rw [List.append_nil]
  exact ⟨by rw [r.length]; exact ln _ _ k.live, ι1, s1, ds, S1, r, k.fin x.back⟩
theorem e_call {f ar : Nat} {kw : List KwS} {es : List Expr} {xs : Exs} (T : FnC X C g x f ar kw) (tk : Takes X W) (hg : Gl X x) (ha : AA X g C W (e :: es) xs) (hs : (e :: es).all notStar = true) : EE X g C W (.Call (.Name x p) (e :: es) [] pos) (.call f xs) := by
  obtain ⟨a, fd, ps, k, F, hr, hm, hk, hb, hl, _⟩ := T.ex
  rw [List.all_cons, Bool.and_eq_true] at hs
  exact pe_mono (pe_callSD F hr hg hm hk hb .nil (fun σ => passAt tk σ) ha T.db (star_of hs.1) (star_plain hs.2)) fun σ H Q q => call_rd T.ln q
theorem e_call0 {f ar : Nat} {kw : List KwS} (T : FnC X C g x f ar kw) (tk : Takes X W) (hg : Gl X x) : EE X g C W (.Call (.Name x p) [] [] pos) (.call f .nil) := by
  obtain ⟨a, fd, ps, k, F, hr, hm, hk, hb, hl, _⟩ := T.ex
  refine ⟨fun pins s σ H Q I q => ?_⟩
  refine wpAny_Call_Name_kw (ld_glob I hg hm ?_ T.db)
  obtain ⟨ι, s1, fr, S, F1, o⟩ := q
  rw [ev, evs] at o
  have o : Out X.K C (fun c d H' => W c d σ H') ι s1.length H (g.call f [] s1) (Fin1 X.K H Q) := o
  refine PySem.W.callWith_K0 I.kIn hk (run_fnSD (E := fun σ c d H' => W c d σ H') (us := []) F hr hb .nil (passAt tk σ) I .nil ?_)
  exact ⟨(T.ln _ _ o.live), ι, s1, [], S, Rels.nil, o⟩
end
end MP

set_option Elab.async false
set_option linter.all false
set_option maxRecDepth 100000
set_option maxHeartbeats 4000000
/-! Keywords, methods, what is walked. -/
namespace MP
open PySem L2

section
variable {X : Cx} {g : G} {C : Ctb} {W : WX} {pos p p2 apos : Pos} {e e2 e3 : Expr} {a b c : Ex} {E : EK} {x y : Str}
/-! ### keywords -/
abbrev KK (X : Cx) (g : G) (C : Ctb) (W : WX) (kws : List Keyword) (x : Exs) : Prop := PK X kws (tA g X.K C W x)
theorem k_nil : KK X g C W [] .nil := ⟨fun pos pins s σ H Q I q => by
  obtain ⟨ι, s1, fr, S, F, o⟩ := q
  rw [evs] at o
  exact pk_nil.run pos pins s σ H Q I (o ι H .refl S [] Rels.nil)⟩
theorem a_rd {xs : Exs} {σ : St} {H : Hp} {Q : List V → Hp → Prop} (q : tA g X.K C W (.cons a xs) σ H Q) : tE g X.K C W a σ H fun x H1 => tA g X.K C W xs σ H1 fun vs H2 => Q (x :: vs) H2 := by
  obtain ⟨ι, s, fr, S, F, o⟩ := q
  rw [evs] at o
  refine ⟨ι, s, fr, S, F, ?_⟩
  have o2 := Out.settled o.bind |>.imp (P' := Fin1 X.K H fun x H1 => tA g X.K C W xs σ H1 fun vs H2 => Q (x :: vs) H2) fun ι1 s1 H1 d x S1 k v r => ?_
  · exact o2
  · obtain ⟨ι2, x2, S2, r2, x3, _, k⟩ := k v r
    refine ⟨ι2, _, fr, S2, F.ext x2, k.bind.imp fun ι3 s3 H3 ds y S3 ⟨_, _, k3⟩ vs rs => ?_⟩
    exact k3 ι3 H3 .refl S3 (v :: vs) (Rels.cons (r2.ext y) rs)
theorem k_cons {nm : Option Str} {kp : Pos} {kws : List Keyword} {xs : Exs} (h : EE X g C W e a) (hr : KK X g C W kws xs) : KK X g C W (⟨nm, e, kp⟩ :: kws) (.cons a xs) :=
  ⟨fun pos pins s σ H Q I q => (pk_cons (nm := nm) (kpos := kp) h hr).run pos pins s σ H Q I (a_rd q)⟩
theorem kwPut_rel {K : PySem.W.Frag} {ι : Io} {n : Nat} {H : Hp} {vs zs : List V} {ds es : List D} (ks : List Nat) (h : Rels K ι n H vs ds) (q : Rels K ι n H zs es) : Rels K ι n H (kwPutG vs ks zs) (kwPut ds ks es) := by
  unfold kwPutG kwPut
  rw [h.length]
  refine h.append ?_
  have look : ∀ (ks : List Nat) {zs : List V} {es : List D} (j : Nat), Rels K ι n H zs es → (∃ v d, (ks.zip zs).lookup j = some v ∧ (ks.zip es).lookup j = some d ∧ Rel K ι n H v d) ∨ ((ks.zip zs).lookup j = none ∧ (ks.zip es).lookup j = none) := by
    intro ks
    induction ks with
    | nil => intro zs es j _; exact .inr ⟨rfl, rfl⟩
    | cons k ks ih =>
      intro zs es j r
      cases es with
      | nil => rw [Rels] at r; subst r; exact .inr ⟨rfl, rfl⟩
      | cons d es =>
        rw [Rels] at r
        obtain ⟨v, us, rfl, r1, r2⟩ := r
        rw [List.zip_cons_cons, List.zip_cons_cons, List.lookup_cons, List.lookup_cons]
        cases hj : j == k with
        | true => exact .inl ⟨v, d, rfl, rfl, r1⟩
        | false => exact ih j r2
  have all : ∀ l : List Nat, Rels K ι n H (l.filterMap fun j => (ks.zip zs).lookup (ds.length + j)) (l.filterMap fun j => (ks.zip es).lookup (ds.length + j)) := by
    intro l
    induction l with
    | nil => exact Rels.nil
    | cons j l ih =>
      rcases look ks (ds.length + j) q with ⟨v, d, e1, e2, r⟩ | ⟨e1, e2⟩
      · rw [List.filterMap_cons, e1, List.filterMap_cons, e2]
        exact Rels.cons r ih
      · rw [List.filterMap_cons, e1, List.filterMap_cons, e2]
        exact ih
  exact all _
theorem kwPutG_vals {vs zs : List V} {us ws : List Value} (ks : List Nat) (h : Vals vs us) (q : Vals zs ws) : Vals (kwPutG vs ks zs) (kwPutG us ks ws) := by
  unfold kwPutG
  rw [h.length]
  refine h.append ?_
  have look : ∀ (ks : List Nat) {zs : List V} {es : List Value} (j : Nat), Vals zs es → (∃ v d, (ks.zip zs).lookup j = some v ∧ (ks.zip es).lookup j = some d ∧ RelV v d) ∨ ((ks.zip zs).lookup j = none ∧ (ks.zip es).lookup j = none) := by
    intro ks
    induction ks with
    | nil => intro zs es j _; exact .inr ⟨rfl, rfl⟩
    | cons k ks ih =>
      intro zs es j r
      cases r with
      | nil => exact .inr ⟨rfl, rfl⟩
      | @cons v d us es r1 r2 =>
        rw [List.zip_cons_cons, List.zip_cons_cons, List.lookup_cons, List.lookup_cons]
        cases hj : j == k with
        | true => exact .inl ⟨v, d, rfl, rfl, r1⟩
        | false => exact ih j r2
  have all : ∀ l : List Nat, Vals (l.filterMap fun j => (ks.zip zs).lookup (us.length + j)) (l.filterMap fun j => (ks.zip ws).lookup (us.length + j)) := by
    intro l
    induction l with
    | nil => exact .nil
    | cons j l ih =>
      rcases look ks (us.length + j) q with ⟨v, d, e1, e2, r⟩ | ⟨e1, e2⟩
      · rw [List.filterMap_cons, e1, List.filterMap_cons, e2]
        exact .cons r ih
      · rw [List.filterMap_cons, e1, List.filterMap_cons, e2]
        exact ih
  exact all _
/-- the names of written keywords -/
def kwN : List Keyword → Option (List Str)
  | [] => some []
  | ⟨some n, _, _⟩ :: r => (kwN r).map (n :: ·)
  | _ => none
theorem kwN_all {env : Env} : ∀ {kws : List Keyword} {ns : List Str}, kwN kws = some ns → (backToKw pos (keywordEach kws env)).all (·.1.isSome) = true ∧ (backToKw pos (keywordEach kws env)).filterMap (·.1) = ns ∧ (backToKw pos (keywordEach kws env)).any (·.1.isNone) = false
  | [], ns, h => by cases h; exact ⟨rfl, rfl, rfl⟩
  | ⟨some n, v, kp⟩ :: r, ns, h => by
    obtain ⟨ms, h1, rfl⟩ := Option.map_eq_some_iff.mp (show (kwN r).map (n :: ·) = some ns from h)
    obtain ⟨i1, i2, i3⟩ := kwN_all (env := env) h1
    refine ⟨?_, ?_, ?_⟩
    · show (true && (backToKw pos (keywordEach r env)).all (·.1.isSome)) = true
      rw [i1] <;> rfl
    · show n :: (backToKw pos (keywordEach r env)).filterMap (·.1) = _
      rw [i2]
    · show (false || (backToKw pos (keywordEach r env)).any (·.1.isNone)) = false
      rw [i3] <;> rfl
  | ⟨none, _, _⟩ :: r, ns, h => by cases h
def exsLen : Exs → Nat
  | .nil => 0
  | .cons _ xs => exsLen xs + 1
theorem exsLen_ok : ∀ {xs : Exs} {fr : Fr} {s : Sto} {ds : List D} {s' : Sto}, evs g xs fr s = .ok ds s' → ds.length = exsLen xs
  | .nil, fr, s, ds, s', h => by rw [evs] at h; cases h; rfl
  | .cons e xs, fr, s, ds, s', h => by
    rw [evs] at h
    obtain ⟨d, s1, _, h⟩ := R.bind_ok h
    obtain ⟨ds1, s2, h1, h⟩ := R.bind_ok h
    cases h
    rw [List.length_cons, exsLen_ok h1]; rfl
theorem e_callk {f ar : Nat} {kw : List KwS} {es : List Expr} {kws : List Keyword} {xs zs : Exs} {ks : List Nat} {ns : List Str} (T : FnC X C g x f ar kw) (tk : Takes X W) (hg : Gl X x) (ha : AA X g C W es xs) (hk2 : KK X g C W kws zs) (hs : es.all notStar = true)
    (hn : kwN kws = some ns) (hin : (f, exsLen xs, ns, ks) ∈ kw) (hlen : exsLen zs = ns.length) (h0 : es = [] → xs = .nil) : EE X g C W (.Call (.Name x p) es kws pos) (.callk f ks xs zs) := by
  obtain ⟨a, fd, ps, k, F, hr, hm, hk, hb, hl, hkw⟩ := T.ex
  obtain ⟨n1, n2, n3⟩ := kwN_all (pos := pos) (env := X.env) hn
  refine ⟨fun pins s σ H Q I q => ?_⟩
  refine wpAny_Call_Name_kw (ld_glob I hg hm ?_ T.db)
  have fin : ∀ (us ws : List Value) (vs us2 : List V) (s2 : Shared) (H2 : Hp), L2.Inv X pins σ H2 s2 → Vals vs us → Vals us2 ws → us.length = exsLen xs → ws.length = ns.length → spI X.K C g f ar (kwPutG vs ks us2) H2 Q (fun c d H' => W c d σ H') →
      wpAny (model X.prog X.w) X.A (call (.ref a) us (ns.zip ws)) (EP X pins σ Q) X.xe s2 := fun us ws vs us2 s2 H2 I2 r rz l1 l2 h => by
    refine wpAny_call (codeAny_mono (F.run X.A X.stack s2 H2 ⟨us, ns.zip ws⟩ (kwPutG us ks ws) (kwPutG vs ks us2) Q (fun c d H' => W c d σ H') hr I2.env0 (hkw _ hin rfl s2 us ws I2.kIn l1 l2) (kwPutG_vals ks r rz) h) fun r s' hq => ?_)
    cases r with
    | error e => exact passAt tk σ pins H2 s2 e s' I2 hq
    | ok fl =>
      cases fl with
      | ret u => exact I2.after hq
      | next => exact False.elim hq
      | brk => exact False.elim hq
      | cont => exact False.elim hq
  obtain ⟨ι, s1, fr, S, F1, o⟩ := q
  rw [ev] at o
  -- the keywords' part, from any state
  have kpart : ∀ (ι1 : Io) (st : Sto) (H1 : Hp) (ds : List D) (vs : List V) (us : List Value) (s2 : Shared), L2.Inv X pins σ H1 s2 → Ext ι s1.length H ι1 st.length H1 → SR X.K ι1 st H1 → Rels X.K ι1 st.length H1 vs ds → Vals vs us → ds.length = exsLen xs →
      Out X.K C (fun c d H' => W c d σ H') ι1 st.length H1 ((evs g zs fr st).bind fun zs s2 => g.call f (kwPut ds ks zs) s2) (Fin1 X.K H Q) →
      wpAny (model X.prog X.w) X.A (evalAll ((backToKw pos (keywordEach kws X.env)).map (·.2))) (fun ws s3 => X.K.In s3.heap ∧ wpAny (model X.prog X.w) X.A (call (.ref a) us (((backToKw pos (keywordEach kws X.env)).filterMap (·.1)).zip ws)) (EP X pins σ Q) X.xe s3) X.xe s2 :=
    fun ι1 st H1 ds vs us s2 I1 x1 S1 rv vv ld o1 => by
    refine thn (hk2.run pos pins s2 σ H1 (fun us2 H2 => us2.length = ns.length ∧ spI X.K C g f ar (kwPutG vs ks us2) H2 Q (fun c d H' => W c d σ H')) I1 ⟨ι1, st, fr, S1, F1.ext x1, o1.bind.impE fun ι2 s3 H2 es2 e2 x2 S2 ⟨_, _, k2⟩ us2 r2 => ?_⟩) fun ws s3 ⟨us2, H2, I2, rz, l2, h⟩ => ⟨I2.kIn, ?_⟩
    · refine ⟨by rw [r2.length, exsLen_ok e2, hlen], ?_, ι2, s3, kwPut ds ks es2, S2, kwPut_rel ks (Rels.ext x2 _ _ rv) r2, k2.fin (x1.trans x2).back⟩
      rw [(kwPut_rel ks (Rels.ext x2 _ _ rv) r2).length]
      exact T.ln _ _ k2.live
    · rw [n2]
      exact fin us ws vs us2 s3 H2 I2 vv rz (by rw [← vv.length, rv.length, ld]) (by rw [← rz.length, l2]) h
  cases es with
  | nil =>
    have hx := h0 rfl
    subst hx
    rw [evs] at o
    exact PySem.W.callWith_KW0 (h₀ := X.base) I.ok.mod.kin hk n1 (kpart ι s1 H [] [] [] s I .refl S Rels.nil .nil rfl o) (by rw [n3] <;> rfl)
  | cons e es =>
    rw [List.all_cons, Bool.and_eq_true] at hs
    refine PySem.W.callWith_KW (h₀ := X.base) I.ok.mod.kin hk n1 (thn (ha.run pos pins s σ H (fun vs H1 => ∃ ι1 st ds, Ext ι s1.length H ι1 st.length H1 ∧ SR X.K ι1 st H1 ∧ Rels X.K ι1 st.length H1 vs ds ∧ ds.length = exsLen xs ∧
      Out X.K C (fun c d H' => W c d σ H') ι1 st.length H1 ((evs g zs fr st).bind fun zs s2 => g.call f (kwPut ds ks zs) s2) (Fin1 X.K H Q)) I ⟨ι, s1, fr, S, F1, o.bind.impE fun ι1 st H1 ds e1 x1 S1 ⟨_, _, k1⟩ vs r => ⟨ι1, st, ds, x1, S1, r, exsLen_ok e1, k1⟩⟩)
      fun us s2 ⟨vs, H1, I1, vv, ι1, st, ds, x1, S1, rv, ld, k1⟩ => kpart ι1 st H1 ds vs us s2 I1 x1 S1 rv vv ld k1) (by rw [star_of hs.1]; show (false || (backTo pos (starEach es X.env)).any (·.1) || _) = false; rw [star_plain hs.2, n3] <;> rfl) (star_of hs.1)
/-! ### methods of lists -/
theorem tyV_list {K : PySem.W.Frag} {ι : Io} {s : Sto} {H H0 : Hp} {v : V} {d : D} (S : SR K ι s H) (r : RelT K ι s.length H0 H v d) (h : recv s d = true) : tyV K "list" v H := by
  unfold recv at h
  split at h
  · obtain ⟨hm, rfl⟩ := r.ref
    split at h
    · rename_i xs q
      obtain ⟨vs, h1, _⟩ := S.lst q
      exact .inl ⟨rfl, vs, .of h1⟩
    · cases h
  · cases h
def rM (K : PySem.W.Frag) (C : Ctb) (E : EK) (m : Mt) : V → List V → Hp → VK → Prop := fun v vs H Q => ∃ ι s d ds H0, SR K ι s H ∧ RelT K ι s.length H0 H v d ∧ Rels K ι s.length H vs ds ∧ Out K C E ι s.length H (meth m d ds s) (Fin1 K H Q)
theorem mt_rd {m : Mt} {xs : Exs} {σ : St} {H : Hp} {Q : VK} (q : tE g X.K C W (.mt m a xs) σ H Q) :
    tE g X.K C W a σ H fun v H1 => tyV X.K "list" v H1 ∧ tA g X.K C W xs σ H1 fun vs H2 => rM X.K C (fun c d H' => W c d σ H') m v vs H2 Q := by
  obtain ⟨ι, s, fr, S, F, o⟩ := q
  rw [ev] at o
  refine ⟨ι, s, fr, S, F, o.bind.imp fun ι1 s1 H1 d x S1 ⟨_, _, k⟩ v r => ?_⟩
  by_cases h : recv s1 d = true
  · rw [if_pos h] at k
    refine ⟨tyV_list S1 r h, ι1, s1, fr, S1, F.ext x, k.bind.imp fun ι2 s2 H2 ds y S2 ⟨_, _, k2⟩ vs rs => ?_⟩
    exact ⟨ι2, s2, d, ds, H, S2, r.ext y, rs, k2.fin (x.trans y).back⟩
  · rw [if_neg h] at k
    exact k.elim
theorem Rels.one {K : PySem.W.Frag} {ι : Io} {n : Nat} {H : Hp} {d : D} {vs : List V} (h : Rels K ι n H vs [d]) : ∃ v, vs = [v] ∧ Rel K ι n H v d := by
  rw [Rels] at h
  obtain ⟨v, us, rfl, h1, h2⟩ := h
  rw [Rels] at h2
  exact ⟨v, by rw [h2], h1⟩
theorem Rels.nil' {K : PySem.W.Frag} {ι : Io} {n : Nat} {H : Hp} {vs : List V} (h : Rels K ι n H vs []) : vs = [] := by rw [Rels] at h; exact h
/-- a list of the store is written, then the answer -/
theorem Out.put {K : PySem.W.Frag} {E : EK} {ι : Io} {s : Sto} {H : Hp} {Q : VK} {m : Nat} {vs ws : List V} {zs : List D} {d : D} {v : V} (S : SR K ι s H) (hm : m < s.length) (e : H (ι m) = some (.lst vs)) (r : Rels K ι s.length H ws zs) (rv : Rel K ι s.length H v d)
    (o : Out K C E ι s.length H (.ok d (s.set m (.lst zs))) (Fin1 K H Q)) : Q v (upd H (ι m) (.lst ws)) := by
  have x := Ext.write (ws := ws) hm e
  have hl : (s.set m (O.lst zs)).length = s.length := List.length_set
  refine o ι _ (by rw [hl]; exact x) (S.write hm e r) v (.of ?_)
  rw [hl]
  exact Rel.ext x _ _ rv
theorem m_append : MtR X "list.append" (rM X.K C E .append) := by
  rintro pins s0 σ H x xs v us Q I rx rs ⟨ι, s, d, ds, H0, S, r, rr, o⟩
  simp only [meth] at o
  split at o
  · obtain ⟨hm, rfl⟩ := r.ref
    simp only [appendD] at o
    split at o
    · rename_i ys q
      obtain ⟨w, rfl, rw'⟩ := rr.one
      obtain ⟨vs, h1, h2⟩ := S.lst q
      split at o
      · rename_i hl
        refine mt_append pins s0 σ H _ _ v us Q I rx rs ⟨_, vs, w, rfl, rfl, h1, by rw [h2.length, ← lim_eq]; exact hl, ?_⟩
        exact Out.put S hm h1 (h2.append (Rels.cons rw' Rels.nil)) (by rw [Rel]) o
      · exact o.elim
    · exact o.elim
  · exact o.elim
theorem m_pop : MtR X "list.pop" (rM X.K C E .pop) := by
  rintro pins s0 σ H x xs v us Q I rx rs ⟨ι, s, d, ds, H0, S, r, rr, o⟩
  simp only [meth] at o
  split at o
  · obtain ⟨hm, rfl⟩ := r.ref
    simp only [popD] at o
    split at o
    · rename_i ys q
      have e0 := rr.nil'
      subst e0
      obtain ⟨vs, h1, h2⟩ := S.lst q
      split at o
      · rename_i y hy
        obtain ⟨w, h3, h4⟩ := h2.get hy
        refine mt_pop pins s0 σ H _ _ v us Q I rx rs ⟨_, vs, w, rfl, rfl, h1, by rw [h2.length]; exact h3, ?_⟩
        refine Out.put S hm h1 ?_ h4 o
        rw [List.dropLast_eq_take, List.dropLast_eq_take, h2.length]
        exact Rels.take _ h2
      · exact o.elim
    · exact o.elim
  · exact o.elim
theorem m_popAt : MtR X "list.pop" (rM X.K C E .popAt) := by
  rintro pins s0 σ H x xs v us Q I rx rs ⟨ι, s, d, ds, H0, S, r, rr, o⟩
  simp only [meth] at o
  split at o
  · obtain ⟨hm, rfl⟩ := r.ref
    simp only [popAtD] at o
    split at o
    · rename_i i ys q
      obtain ⟨w, rfl, rw'⟩ := rr.one
      rw [Rel] at rw'
      subst rw'
      obtain ⟨vs, h1, h2⟩ := S.lst q
      split at o
      · rename_i k hk
        split at o
        · rename_i y hy
          split at o
          · rename_i hb
            obtain ⟨w, h3, h4⟩ := h2.get hy
            obtain ⟨e1, _⟩ := ixN_seq hk
            refine mt_popAt pins s0 σ H _ _ v us Q I rx rs ⟨_, vs, i, k, w, rfl, rfl, h1, hb.1, hb.2, by rw [h2.length]; exact e1, h3, ?_⟩
            exact Out.put S hm h1 (Rels.eraseIdx _ h2) h4 o
          · exact o.elim
        · exact o.elim
      · exact o.elim
    · exact o.elim
  · exact o.elim
theorem m_extend : MtR X "list.extend" (rM X.K C E .extend) := by
  rintro pins s0 σ H x xs v us Q I rx rs ⟨ι, s, d, ds, H0, S, r, rr, o⟩
  simp only [meth] at o
  split at o
  · obtain ⟨hm, rfl⟩ := r.ref
    simp only [extendD] at o
    split at o
    · rename_i k ys q
      obtain ⟨w, rfl, rw'⟩ := rr.one
      rw [Rel] at rw'
      obtain ⟨hk, rfl⟩ := rw'
      obtain ⟨vs, h1, h2⟩ := S.lst q
      split at o
      · rename_i zs q2
        obtain ⟨ws, h3, h4⟩ := S.lst q2
        split at o
        · rename_i hl
          refine mt_extend pins s0 σ H _ _ v us Q I rx rs ⟨_, _, vs, ws, rfl, rfl, h1, h3, lim_le (by rw [h2.length, h4.length]; exact hl), ?_⟩
          exact Out.put S hm h1 (h2.append h4) (by rw [Rel]) o
        · exact o.elim
      · exact o.elim
    · exact o.elim
  · exact o.elim
def baseOk : Expr → Bool
  | .Call .. => false
  | _ => true
theorem base_of {n : Str} {env : Env} {whole : Sem Value} (h : baseOk e = true) : attributeBase e n env whole = whole := by
  cases e <;> first | rfl | (simp [baseOk] at h; done)
theorem few1 {env : Env} {cpos : Pos} (h : notStar e = true) : ((backTo cpos (starEach [e] env)).all (fun x => !x.1) && (backToKw cpos (keywordEach [] env)).all (fun x => x.1.isSome)
      && decide ([e].length + ([] : List Keyword).length + (if ([] : List Keyword).isEmpty then 0 else 1) < 30)) = true := by
  rw [star_of h]
  rfl
theorem e_append (hb : baseOk e = true) (hl : (apos.endLine == pos.line) = true) (hs : notStar e2 = true) {xs : Exs} (ha : EE X g C W e a) (hr : AA X g C W [e2] xs) : EE X g C W (.Call (.Attribute e "append" apos) [e2] [] pos) (.mt .append a xs) := by
  refine ⟨fun pins s σ H Q I q => ?_⟩
  exact (pe_bm PySem.F.plainAttrs_list PySem.F.slot_list_append PySem.F.type_list_append (m_append (C := C) (E := fun c d H' => W c d σ H')) ha hr (base_of hb) (few1 hs) hl (star_of hs) rfl).run pins s σ H Q I (mt_rd q)
theorem e_pop (hb : baseOk e = true) (hl : (apos.endLine == pos.line) = true) (ha : EE X g C W e a) : EE X g C W (.Call (.Attribute e "pop" apos) [] [] pos) (.mt .pop a .nil) := by
  refine ⟨fun pins s σ H Q I q => ?_⟩
  refine (pe_bm0 PySem.F.plainAttrs_list PySem.F.slot_list_pop PySem.F.type_list_pop (m_pop (C := C) (E := fun c d H' => W c d σ H')) ha (base_of hb) hl).run pins s σ H Q I ?_
  obtain ⟨ι, s, fr, S, F, o⟩ := mt_rd q
  refine ⟨ι, s, fr, S, F, o.imp fun ι1 s1 H1 d x S1 k v r => ?_⟩
  obtain ⟨h1, ι2, s2, fr2, S2, F2, o2⟩ := k v r
  rw [evs] at o2
  exact ⟨h1, o2 ι2 H1 .refl S2 [] Rels.nil⟩
theorem e_popAt (hb : baseOk e = true) (hl : (apos.endLine == pos.line) = true) (hs : notStar e2 = true) {xs : Exs} (ha : EE X g C W e a) (hr : AA X g C W [e2] xs) : EE X g C W (.Call (.Attribute e "pop" apos) [e2] [] pos) (.mt .popAt a xs) := by
  refine ⟨fun pins s σ H Q I q => ?_⟩
  exact (pe_bm PySem.F.plainAttrs_list PySem.F.slot_list_pop PySem.F.type_list_pop (m_popAt (C := C) (E := fun c d H' => W c d σ H')) ha hr (base_of hb) (few1 hs) hl (star_of hs) rfl).run pins s σ H Q I (mt_rd q)
theorem e_extend (hb : baseOk e = true) (hl : (apos.endLine == pos.line) = true) (hs : notStar e2 = true) {xs : Exs} (ha : EE X g C W e a) (hr : AA X g C W [e2] xs) : EE X g C W (.Call (.Attribute e "extend" apos) [e2] [] pos) (.mt .extend a xs) := by
  refine ⟨fun pins s σ H Q I q => ?_⟩
  exact (pe_bm PySem.F.plainAttrs_list PySem.F.slot_list_extend PySem.F.type_list_extend (m_extend (C := C) (E := fun c d H' => W c d σ H')) ha hr (base_of hb) (few1 hs) hl (star_of hs) rfl).run pins s σ H Q I (mt_rd q)
end
end MP

set_option Elab.async false
set_option linter.all false
set_option maxRecDepth 100000
set_option maxHeartbeats 4000000
/-! What is walked; targets; comprehensions. -/
namespace MP
open PySem L2

/-! ### targets -/
mutual
def tgR (K : PySem.W.Frag) : Tg → TG
  | .name i => gName i
  | .tup ts => gTup K ts.length (tgRs K ts)
def tgRs (K : PySem.W.Frag) : List Tg → TGs
  | [] => gNil
  | t :: ts => gCons (tgR K t) (tgRs K ts)
end
mutual
def tgN : Tg → List Nat
  | .name i => [i]
  | .tup ts => tgNs ts
def tgNs : List Tg → List Nat
  | [] => []
  | t :: ts => tgN t ++ tgNs ts
end
section
variable {K : PySem.W.Frag} {ι : Io} {n : Nat} {H : Hp}
theorem FrR.set {σ : St} {fr : Fr} {i : Nat} {v : V} {d : D} (F : FrR K ι n H σ fr) (r : Rel K ι n H v d) : FrR K ι n H (σ.set i (some v)) (fr.set i (some d)) := by
  refine ⟨by rw [List.length_set, List.length_set]; exact F.1, fun j e q => ?_⟩
  by_cases hj : i = j
  · subst hj
    have hl := lt_of_some q
    rw [List.length_set] at hl
    rw [List.getElem?_set_self hl] at q
    cases q
    exact ⟨v, List.getElem?_set_self (by rw [F.1]; exact hl), r⟩
  · rw [List.getElem?_set_ne hj] at q ⊢
    exact F.2 j e q
theorem FrR.wipe {σ : St} {fr : Fr} (F : FrR K ι n H σ fr) : ∀ ws : List Nat, FrR K ι n H (wipe σ ws) (wipeF fr ws)
  | [] => F
  | w :: ws => by
    have ih := FrR.wipe F ws
    show FrR K ι n H ((L2.wipe σ ws).set w none) ((wipeF fr ws).set w none)
    refine ⟨by rw [List.length_set, List.length_set]; exact ih.1, fun j e q => ?_⟩
    by_cases hj : w = j
    · subst hj
      have hl := lt_of_some q
      rw [List.length_set] at hl
      rw [List.getElem?_set_self hl] at q
      cases q
    · rw [List.getElem?_set_ne hj] at q ⊢
      exact ih.2 j e q
theorem wipe_at (σ : St) (j : Nat) : ∀ ws : List Nat, (wipe σ ws)[j]? = if j ∈ ws then (σ[j]?).map (fun _ => none) else σ[j]?
  | [] => by simp [L2.wipe]
  | w :: ws => by
    show ((L2.wipe σ ws).set w none)[j]? = _
    have ih := wipe_at σ j ws
    by_cases hj : w = j
    · subst hj
      rw [if_pos List.mem_cons_self]
      by_cases hl : w < σ.length
      · rw [List.getElem?_set_self (by rw [wipe_length]; exact hl), List.getElem?_eq_getElem hl]; rfl
      · rw [List.getElem?_eq_none (by rw [List.length_set, wipe_length]; omega), List.getElem?_eq_none (by omega)]; rfl
    · rw [List.getElem?_set_ne hj, ih]
      have : (j ∈ w :: ws) ↔ j ∈ ws := by
        simp only [List.mem_cons]
        exact ⟨fun h => h.elim (fun e => absurd e.symm hj) id, .inr⟩
      simp only [this]
theorem wipe_set {σ : St} {i : Nat} {x : Option V} {ws : List Nat} (h : i ∈ ws) : wipe (σ.set i x) ws = wipe σ ws := by
  apply List.ext_getElem?
  intro j
  rw [wipe_at, wipe_at]
  by_cases hj : i = j
  · subst hj
    rw [if_pos h, if_pos h]
    by_cases hl : i < σ.length
    · rw [List.getElem?_set_self hl, List.getElem?_eq_getElem hl]; rfl
    · rw [List.getElem?_eq_none (by rw [List.length_set]; omega), List.getElem?_eq_none (by omega)]
  · rw [List.getElem?_set_ne hj]
mutual
theorem bind_rd : ∀ (t : Tg) (d : D) (fr fr2 : Fr) (v : V) (σ : St) (Q : St → Hp → Prop), bindT t d fr = some fr2 → Rel K ι n H v d → FrR K ι n H σ fr →
    (∀ σ2, FrR K ι n H σ2 fr2 → (∀ ws, (∀ i ∈ tgN t, i ∈ ws) → wipe σ2 ws = wipe σ ws) → Q σ2 H) → tgR K t v σ H Q
  | .name i, d, fr, fr2, v, σ, Q, h, r, F, k => by
    rw [bindT] at h
    split at h <;> cases h
    rw [tgR]
    exact k _ (F.set r) fun ws hw => wipe_set (hw i (by rw [tgN]; exact List.mem_singleton.mpr rfl))
  | .tup ts, d, fr, fr2, v, σ, Q, h, r, F, k => by
    cases d with
    | tup xs =>
      rw [bindT] at h
      rw [Rel] at r
      obtain ⟨a, vs, rfl, h1, h2⟩ := r
      rw [tgR]
      obtain ⟨hl, q⟩ := binds_rd ts xs fr fr2 vs σ Q h h2 F fun σ2 F2 w => k σ2 F2 fun ws hw => w ws (by rw [tgN] at hw; exact hw)
      exact ⟨a, vs, rfl, .of h1, by rw [h2.length, hl], q⟩
    | _ => simp [bindT] at h
theorem binds_rd : ∀ (ts : List Tg) (ds : List D) (fr fr2 : Fr) (vs : List V) (σ : St) (Q : St → Hp → Prop), bindTs ts ds fr = some fr2 → Rels K ι n H vs ds → FrR K ι n H σ fr →
    (∀ σ2, FrR K ι n H σ2 fr2 → (∀ ws, (∀ i ∈ tgNs ts, i ∈ ws) → wipe σ2 ws = wipe σ ws) → Q σ2 H) → ds.length = ts.length ∧ tgRs K ts vs σ H Q
  | [], [], fr, fr2, vs, σ, Q, h, r, F, k => by
    rw [bindTs] at h
    cases h
    rw [Rels] at r
    rw [tgRs]
    exact ⟨rfl, r, k σ F fun _ _ => rfl⟩
  | t :: ts, d :: ds, fr, fr2, vs, σ, Q, h, r, F, k => by
    rw [bindTs] at h
    obtain ⟨fr1, h1, h2⟩ := Option.bind_eq_some_iff.mp h
    rw [Rels] at r
    obtain ⟨v, us, rfl, r1, r2⟩ := r
    rw [tgRs]
    have hl : ds.length = ts.length := by
      have := binds_len ts ds fr1 fr2 h2
      exact this
    refine ⟨by rw [List.length_cons, List.length_cons, hl], v, us, rfl, ?_⟩
    refine bind_rd t d fr fr1 v σ _ h1 r1 F fun σ1 F1 w1 => ?_
    refine (binds_rd ts ds fr1 fr2 us σ1 Q h2 r2 F1 fun σ2 F2 w2 => k σ2 F2 fun ws hw => ?_).2
    rw [tgNs] at hw
    rw [w2 ws fun i hi => hw i (List.mem_append_right _ hi), w1 ws fun i hi => hw i (List.mem_append_left _ hi)]
  | [], _ :: _, fr, fr2, vs, σ, Q, h, r, F, k => by simp [bindTs] at h
  | _ :: _, [], fr, fr2, vs, σ, Q, h, r, F, k => by simp [bindTs] at h
theorem binds_len : ∀ (ts : List Tg) (ds : List D) (fr fr2 : Fr), bindTs ts ds fr = some fr2 → ds.length = ts.length
  | [], [], _, _, _ => rfl
  | t :: ts, d :: ds, fr, fr2, h => by
    rw [bindTs] at h
    obtain ⟨fr1, h1, h2⟩ := Option.bind_eq_some_iff.mp h
    rw [List.length_cons, List.length_cons, binds_len ts ds fr1 fr2 h2]
  | [], _ :: _, _, _, h => by simp [bindTs] at h
  | _ :: _, [], _, _, h => by simp [bindTs] at h
end
end

/-! ### what is walked -/
/-- J walks the items, as long as the walked list is as it was -/
def JOk (K : PySem.W.Frag) (ι : Io) (s : Sto) (H : Hp) (iv : ItV) (J : L2.It) : Prop := ∀ ι2 s2 H2, Ext ι s.length H ι2 s2.length H2 → SR K ι2 s2 H2 → gok iv.1 s2 = true → ∀ i : Nat,
  (∀ d : D, iv.2[i]? = some d → J.go i H2 ∧ ∀ x H3, J.yld i H2 x H3 → H3 = H2 ∧ Rel K ι2 s2.length H2 x d) ∧ (i = iv.2.length → J.stop i H2)
def tI (g : G) (K : PySem.W.Frag) (C : Ctb) (W : WX) (x : It) : TI := fun σ H R => ∃ ι s fr, SR K ι s H ∧ FrR K ι s.length H σ fr ∧ Out K C (fun c d H' => W c d σ H') ι s.length H (evi g x fr s) (fun ι' s' H' iv => ∀ J, JOk K ι' s' H' iv J → R J H')
section
variable {X : Cx} {g : G} {C : Ctb} {W : WX} {pos p p2 : Pos} {e e2 e3 tg : Expr} {a b c : Ex}
theorem pi_mono {iter : Expr} {t t' : TI} (h : PI X tg iter t) (k : ∀ σ H R, t' σ H R → t σ H R) : PI X tg iter t' := ⟨fun pins s σ H R I q => h.run pins s σ H R I (k σ H R q)⟩
def iSeq (K : PySem.W.Frag) (tl : TE) : TI := fun σ H R => tl σ H fun x H1 => ∃ a, x = .ref a ∧ (((∃ xs, SqL K H1 a xs) ∧ R (Itl K a) H1) ∨ ((∃ xs, SqT K H1 a xs) ∧ R (Itt K a) H1))
theorem pi_seq {l : Expr} {tl : TE} (hl : PE X l tl) : PI X tg l (iSeq X.K tl) := by
  refine ⟨fun pins s σ H R I h => ?_⟩
  refine thn (hl.run pins s σ H _ I h) fun v s1 ⟨x, H1, I1, r1, q1⟩ => ?_
  obtain ⟨a, e, q1⟩ := q1
  subst e
  cases r1
  rcases q1 with ⟨⟨xs, hq⟩, q⟩ | ⟨⟨xs, hq⟩, q⟩
  · obtain ⟨its, rv, p, hz⟩ := I1.list hq
    refine wpAny_pyIter_list p.isList ?_
    refine ⟨s1.heap.objs.size, [s1.heap.objs.size], _, _, H1, rfl, I1.kept (t' := s1.toks) fun b o e => Heap.get?_push_of_some _ e, turn_list a _, ⟨_, Heap.get?_push_size _ rfl, rfl, rfl⟩, fun b hb => ?_, q⟩
    have e : b = s1.heap.objs.size := by simpa using hb
    subst e
    exact I1.fpOk (Nat.le_refl _) (I1.hok.fresh (Nat.le_refl _))
  · obtain ⟨its, rv, p, hz⟩ := I1.tuple hq
    refine wpAny_pyIter_tuple (show s1.heap.IsTuple a its.toArray from p) ?_
    refine ⟨s1.heap.objs.size, [s1.heap.objs.size], _, _, H1, rfl, I1.kept (t' := s1.toks) fun b o e => Heap.get?_push_of_some _ e, turn_tuple a _, ⟨_, Heap.get?_push_size _ rfl, rfl, rfl⟩, fun b hb => ?_, q⟩
    have e : b = s1.heap.objs.size := by simpa using hb
    subst e
    exact I1.fpOk (Nat.le_refl _) (I1.hok.fresh (Nat.le_refl _))
theorem itl_ok {K : PySem.W.Frag} {ι2 : Io} {s2 : Sto} {H2 : Hp} {a : Addr} {vs : List V} {xs : List D} (h : SqL K H2 a vs) (r : Rels K ι2 s2.length H2 vs xs) (i : Nat) :
    (∀ d : D, xs[i]? = some d → (Itl K a).go i H2 ∧ ∀ x H3, (Itl K a).yld i H2 x H3 → H3 = H2 ∧ Rel K ι2 s2.length H2 x d) ∧ (i = xs.length → (Itl K a).stop i H2) := by
  refine ⟨fun d hd => ?_, fun e => ⟨vs, h, by rw [r.length]; omega⟩⟩
  obtain ⟨v, h1, h2⟩ := r.get hd
  refine ⟨⟨vs, v, h, h1⟩, fun x H3 ⟨e, y⟩ => ⟨e, ?_⟩⟩
  have := y vs h
  rw [h1] at this
  cases this
  exact h2
theorem itt_ok {K : PySem.W.Frag} {ι2 : Io} {s2 : Sto} {H2 : Hp} {a : Addr} {vs : List V} {xs : List D} (h : SqT K H2 a vs) (r : Rels K ι2 s2.length H2 vs xs) (i : Nat) :
    (∀ d : D, xs[i]? = some d → (Itt K a).go i H2 ∧ ∀ x H3, (Itt K a).yld i H2 x H3 → H3 = H2 ∧ Rel K ι2 s2.length H2 x d) ∧ (i = xs.length → (Itt K a).stop i H2) := by
  refine ⟨fun d hd => ?_, fun e => ⟨vs, h, by rw [r.length]; omega⟩⟩
  obtain ⟨v, h1, h2⟩ := r.get hd
  refine ⟨⟨vs, v, h, h1⟩, fun x H3 ⟨e, y⟩ => ⟨e, ?_⟩⟩
  have := y vs h
  rw [h1] at this
  cases this
  exact h2
/-- a value that is walked: its object, at any later time -/
theorem walk_of {K : PySem.W.Frag} {ι : Io} {s : Sto} {H H0 : Hp} {v : V} {d : D} {iv : ItV} {R : L2.It → Hp → Prop} (S : SR K ι s H) (r : RelT K ι s.length H0 H v d) (h : itOf s d = some iv) (k : ∀ J, JOk K ι s H iv J → R J H) :
    ∃ a, v = .ref a ∧ (((∃ xs, SqL K H a xs) ∧ R (Itl K a) H) ∨ ((∃ xs, SqT K H a xs) ∧ R (Itt K a) H)) := by
  cases d with
  | ref m =>
    obtain ⟨hm, rfl⟩ := r.ref
    simp only [itOf] at h
    split at h
    · rename_i xs hq
      cases h
      obtain ⟨vs, h1, h2⟩ := S.lst hq
      refine ⟨_, rfl, .inl ⟨⟨vs, .of h1⟩, k _ fun ι2 s2 H2 y S2 g2 i => ?_⟩⟩
      have g3 : s2[m]? = some (O.lst xs) := of_decide_eq_true g2
      obtain ⟨us, h3, h4⟩ := S2.lst g3
      rw [y.eq m hm] at h3
      exact itl_ok (.of h3) h4 i
    · cases h
  | tup xs =>
    cases h
    obtain ⟨a, vs, rfl, h1, h2⟩ := r.tup
    exact ⟨a, rfl, .inr ⟨⟨vs, .of h1⟩, k _ fun ι2 s2 H2 y S2 g2 i => itt_ok (.of (y.tup _ _ h1)) (Rels.ext y _ _ h2) i⟩⟩
  | fro xs =>
    cases h
    obtain ⟨a, vs, rfl, h1, h2⟩ := r.fro
    exact ⟨a, rfl, .inl ⟨⟨vs, h1.sq⟩, k _ fun ι2 s2 H2 y S2 g2 i => itl_ok (h1.gr y.gr).sq (Rels.ext y _ _ h2) i⟩⟩
  | lst xs =>
    cases h
    obtain ⟨a, vs, rfl, h0, hn, h1, h2⟩ := r
    exact ⟨a, rfl, .inl ⟨⟨vs, .of h1⟩, k _ fun ι2 s2 H2 y S2 g2 i => itl_ok (.of (y.keep _ _ h1 hn)) (Rels.ext y _ _ h2) i⟩⟩
  | _ => cases h
theorem it_seq (ha : EE X g C W e a) : PI X tg e (tI g X.K C W (.seq a)) := by
  refine pi_mono (pi_seq ha) fun σ H R q => ?_
  obtain ⟨ι, s, fr, S, F, o⟩ := q
  rw [evi] at o
  refine ⟨ι, s, fr, S, F, o.bind.imp fun ι1 s1 H1 d x S1 ⟨_, _, k⟩ v r => ?_⟩
  obtain ⟨iv, hiv, k⟩ := Out.opt S1 k
  exact walk_of S1 r hiv (k ι1 H1 .refl S1)
theorem itr_ok {K : PySem.W.Frag} {ι : Io} {s : Sto} {H : Hp} (i j : Int) : JOk K ι s H (none, rngD i j) (Itr i (j - i).toNat) := by
  intro ι2 s2 H2 y S2 g2 k
  have hl : (rngD i j).length = (j - i).toNat := by unfold rngD; rw [List.length_map, List.length_range]
  refine ⟨fun d hd => ?_, fun e => by show (j - i).toNat ≤ k; rw [e]; exact Nat.le_of_eq hl.symm⟩
  have hk := lt_of_some hd
  have hk : k < (rngD i j).length := hk
  rw [hl] at hk
  refine ⟨hk, fun x H3 ⟨e1, e2⟩ => ⟨e1, ?_⟩⟩
  have hd : (rngD i j)[k]? = some d := hd
  unfold rngD at hd
  rw [List.getElem?_map, List.getElem?_range hk] at hd
  cases hd
  subst e2
  rw [Rel]
theorem rng_rd {σ : St} {H : Hp} {R : L2.It → Hp → Prop} (q : tI g X.K C W (.rng a b) σ H R) : tE g X.K C W a σ H fun v H1 => tE g X.K C W b σ H1 fun u H2 => ∃ i j, v = .int i ∧ u = .int j ∧ (-(2 ^ 62) ≤ i ∧ i < 2 ^ 62 ∧ -(2 ^ 62) ≤ j ∧ j < 2 ^ 62) ∧ R (Itr i (j - i).toNat) H2 := by
  obtain ⟨ι, s, fr, S, F, o⟩ := q
  rw [evi] at o
  refine ⟨ι, s, fr, S, F, o.bind.imp fun ι1 s1 H1 d x S1 ⟨_, _, k⟩ v r => ⟨ι1, s1, fr, S1, F.ext x, k.bind.imp fun ι2 s2 H2 e y S2 ⟨_, _, k2⟩ u r2 => ?_⟩⟩
  split at k2
  · have e1 := r.int; have e2 := r2.int
    subst e1; subst e2
    split at k2
    · rename_i hl
      have hl := rngOk_iff hl
      exact ⟨_, _, rfl, rfl, ⟨hl.1.1, hl.1.2, hl.2.1, hl.2.2⟩, k2 ι2 H2 .refl S2 _ (itr_ok _ _)⟩
    · exact k2.elim
  · exact k2.elim
theorem it_rng1 (hg : Gl X "range") (hm : X.mg "range" = none) (hb : EE X g C W e b) (hs : notStar e = true) : PI X tg (.Call (.Name "range" p) [e] [] pos) (tI g X.K C W (.rng (.con (.int 0)) b)) := by
  refine pi_mono (pi_range1 hg hm (pa_cons hb pa_nil (star_of hs)) (star_of hs)) fun σ H R q => ?_
  obtain ⟨ι, s, fr, S, F, o⟩ := rng_rd q
  rw [ev] at o
  obtain ⟨ι2, s2, fr2, S2, F2, o2⟩ := o ι H .refl S (.int 0) (.of (by rw [Rel]))
  refine ⟨ι2, s2, fr2, S2, F2, o2.imp fun ι3 s3 H3 d3 x3 S3 k3 u r3 => ?_⟩
  obtain ⟨i, j, e1, e2, hl, h2⟩ := k3 u r3
  cases e1
  subst e2
  exact ⟨j, rfl, hl.2.2.1, hl.2.2.2, by rw [Int.sub_zero] at h2; exact h2⟩
theorem it_rng2 (hg : Gl X "range") (hm : X.mg "range" = none) (ha : EE X g C W e a) (hb : EE X g C W e2 b) (hs : notStar e = true) (hs2 : notStar e2 = true) : PI X tg (.Call (.Name "range" p) [e, e2] [] pos) (tI g X.K C W (.rng a b)) := by
  refine pi_mono (pi_range2 hg hm (pa_cons ha (pa_cons hb pa_nil (star_of hs2)) (star_of hs)) (by rw [star_of hs, star_of hs2]; rfl) (by rw [star_of hs2]; rfl)) fun σ H R q => ?_
  obtain ⟨ι, s, fr, S, F, o⟩ := rng_rd q
  refine ⟨ι, s, fr, S, F, o.imp fun ι1 s1 H1 d x S1 k v r => ?_⟩
  obtain ⟨ι2, s2, fr2, S2, F2, o2⟩ := k v r
  refine ⟨ι2, s2, fr2, S2, F2, o2.imp fun ι3 s3 H3 d3 x3 S3 k3 u r3 => ?_⟩
  obtain ⟨i, j, e1, e2, hl, h2⟩ := k3 u r3
  exact ⟨i, j, by rw [e1, e2], hl, h2⟩
end
end MP

set_option Elab.async false
set_option linter.all false
set_option maxRecDepth 100000
set_option maxHeartbeats 4000000
/-! Comprehensions. -/
namespace MP
open PySem L2

/-- the heap without the list that is being made -/
def rm (H : Hp) (D : Addr) : Hp := fun b => if b = D then none else H b
theorem rm_same {H : Hp} {D : Addr} : rm H D D = none := if_pos rfl
theorem rm_ne {H : Hp} {D b : Addr} (h : b ≠ D) : rm H D b = H b := if_neg h
section
variable {K : PySem.W.Frag} {ι ι' : Io} {n n' : Nat} {H H' : Hp} {D : Addr} {acc : List V} {s s' : Sto}
theorem Ext.rm (x : Ext ι n H ι' n' H') : Ext ι n (rm H D) ι' n' (MP.rm H' D) where
  le := x.le
  eq := x.eq
  new := fun m h1 h2 => by
    by_cases h : ι' m = D
    · rw [h]; exact rm_same
    · rw [rm_ne h]; exact x.new m h1 h2
  keep := fun b o e k => by
    by_cases h : b = D
    · rw [h, rm_same] at e; cases e
    · rw [rm_ne h] at e ⊢; exact x.keep b o e k
  tup := fun b o e => by
    by_cases h : b = D
    · rw [h, rm_same] at e; cases e
    · rw [rm_ne h] at e ⊢; exact x.tup b o e
  frz := fun b o u e => by
    by_cases h : b = D
    · rw [h, rm_same] at e; cases e
    · rw [rm_ne h] at e ⊢; exact x.frz b o u e
  back := fun b e => by
    by_cases h : b = D
    · rw [h]; exact rm_same
    · rw [rm_ne h] at e ⊢; exact x.back b e
/-- from without it to with it -/
theorem Ext.unrm (h : n ≤ n) : Ext ι n (MP.rm H D) ι n H where
  le := h
  eq := fun _ _ => rfl
  new := fun m h1 h2 => absurd h2 (Nat.not_lt.mpr h1)
  keep := fun b o e _ => by
    by_cases h : b = D
    · rw [h, rm_same] at e; cases e
    · rw [rm_ne h] at e; exact e
  tup := fun b o e => by
    by_cases h : b = D
    · rw [h, rm_same] at e; cases e
    · rw [rm_ne h] at e; exact e
  frz := fun b o u e => by
    by_cases h : b = D
    · rw [h, rm_same] at e; cases e
    · rw [rm_ne h] at e; exact e
  back := fun b e => by
    by_cases h : b = D
    · rw [h]; exact rm_same
    · rw [rm_ne h]; exact e
theorem Gr.rm (hD : H D = some (.lst acc)) : Gr ι n H ι n (MP.rm H D) :=
  ⟨Nat.le_refl _, fun _ _ => rfl, fun b vs e => by rw [rm_ne (ne_of e hD (by intro z; cases z))]; exact e, fun b o u e => by rw [rm_ne (ne_of e hD (by intro z; cases z))]; exact e⟩
theorem SR.rm (S : SR K ι s H) (hD : H D = some (.lst acc)) (nD : ∀ m, m < s.length → ι m ≠ D) : SR K ι s (MP.rm H D) := by
  refine ⟨S.inj, fun m o e => ?_⟩
  have z := S.obj m o e
  cases o with
  | lst xs =>
    obtain ⟨vs, h1, h2⟩ := z
    exact ⟨vs, by rw [rm_ne (nD m (lt_of_some e))]; exact h1, Rels.gr (Gr.rm hD) _ _ h2⟩
  | dic _ => exact z.elim
  | ins _ _ => exact z.elim
theorem Gr.other {ws : List V} (hD : H D = some (.lst acc)) : Gr ι n H ι n (upd H D (.lst ws)) :=
  ⟨Nat.le_refl _, fun _ _ => rfl, fun b vs e => by rw [upd_ne (ne_of e hD (by intro z; cases z))]; exact e, fun b o u e => by rw [upd_ne (ne_of e hD (by intro z; cases z))]; exact e⟩
theorem SR.other {ws : List V} (S : SR K ι s H) (hD : H D = some (.lst acc)) (nD : ∀ m, m < s.length → ι m ≠ D) : SR K ι s (upd H D (.lst ws)) := by
  refine ⟨S.inj, fun m o e => ?_⟩
  have z := S.obj m o e
  cases o with
  | lst xs =>
    obtain ⟨vs, h1, h2⟩ := z
    exact ⟨vs, by rw [upd_ne (nD m (lt_of_some e))]; exact h1, Rels.gr (Gr.other hD) _ _ h2⟩
  | dic _ => exact z.elim
  | ins _ _ => exact z.elim
theorem rm_upd {o : HO} : MP.rm (upd H D o) D = MP.rm H D := by
  funext b
  by_cases h : b = D
  · rw [h, rm_same, rm_same]
  · rw [rm_ne h, rm_ne h, upd_ne h]
theorem rm_none (h : H D = none) : MP.rm H D = H := by
  funext b
  by_cases e : b = D
  · rw [e, rm_same, h]
  · rw [rm_ne e]
theorem Ext.notD (x : Ext ι n H ι' n' H') (hD : H D = some (.lst acc)) (nD : ∀ m, m < n → ι m ≠ D) : ∀ m, m < n' → ι' m ≠ D := fun m hm q => by
  by_cases h : m < n
  · exact nD m h ((x.eq m h).symm.trans q)
  · have := x.new m (Nat.not_lt.mp h) hm
    rw [q, hD] at this; cases this
end
theorem Out.of_ok {α : Type} {K : PySem.W.Frag} {C : Ctb} {E : EK} {ι : Io} {n : Nat} {H : Hp} {r : R α} {a : α} {s' : Sto} {P : Io → Sto → Hp → α → Prop} (e : r = .ok a s') (h : ∀ ι' H', Ext ι n H ι' s'.length H' → SR K ι' s' H' → P ι' s' H' a) : Out K C E ι n H r P := by
  rw [e]; exact h
theorem noexc_ok {α : Type} {r : R α} {a : α} {s : Sto} (h : r.noexc = .ok a s) : r = .ok a s := by
  cases r <;> first | exact h | cases h
theorem Out.noexc_ex {α : Type} {K : PySem.W.Frag} {C : Ctb} {E : EK} {ι : Io} {n : Nat} {H : Hp} {r : R α} {P : Io → Sto → Hp → α → Prop} (h : Out K C E ι n H r.noexc P) : ∃ a s', r = .ok a s' := by
  cases r with
  | ok a s => exact ⟨a, s, rfl⟩
  | exc c fs s => exact h.elim
  | no => exact h.elim
theorem wipe_wipe {σ : St} {ws : List Nat} : wipe (wipe σ ws) ws = wipe σ ws := by
  apply List.ext_getElem?
  intro j
  rw [wipe_at, wipe_at]
  by_cases h : j ∈ ws
  · rw [if_pos h, if_pos h]
    cases σ[j]? <;> rfl
  · rw [if_neg h, if_neg h]
abbrev Wf : WX := fun _ _ _ _ => False
section
variable {X : Cx} {g : G} {C : Ctb} {W : WX} {pos p p2 : Pos} {e e2 e3 tg iter elt : Expr} {a b c : Ex}
theorem ts_tt : PTs X [] (tT g X.K C W .tt) := ⟨fun pins s σ H Q I q => by
  obtain ⟨ι, s1, fr, S, F, o⟩ := q
  rw [tst] at o
  exact pts_nil.run pins s σ H Q I (o ι H .refl S)⟩
theorem ts_one {t : Ts} (h : TT' X g C W e t) : PTs X [e] (tT g X.K C W t) := pts_one h
/-- one turn's worth -/
def turnF (g : G) (ws : List Nat) (t : Tg) (c : Ts) (e : Ex) (fr : Fr) : D → Sto → R (Option D) := fun x s2 => match bindT t x (wipeF fr ws) with
    | some fr2 => ((tst g c fr2 s2).bind fun b s3 => (match b with
      | true => ((ev g e fr2 s3).settled).bind fun y s4 => .ok (some y) s4
      | false => .ok none s3)).noexc
    | none => .no
theorem comp_rd {own : List (Str × Nat)} {t : Tg} {it : It} {c : Ts} {x : Ex} {σ : St} {H : Hp} {Q : VK} (hw : ∀ i ∈ tgN t, i ∈ own.map (·.2)) (q : tE g X.K C W (.comp (own.map (·.2)) t it c x) σ H Q) :
    tLc (tI g X.K C W it) (tgR X.K t) (tT g X.K C Wf c) (tE g X.K C Wf x) (own.map (·.2)) σ H Q := by
  obtain ⟨ι, s, fr, S, F, o⟩ := q
  rw [ev] at o
  refine ⟨ι, s, fr, S, F, o.bind.imp fun ι1 s1 H1 iv x1 S1 ⟨_, _, k⟩ J jok => ?_⟩
  intro D hD
  by_cases hlim : Short iv.2.length
  case neg => rw [if_neg hlim] at k; exact k.elim
  rw [if_pos hlim] at k
  have hlim : iv.2.length ≤ lim := hlim
  have k : Out X.K C (fun c d H' => W c d σ H') ι1 s1.length H1 ((compL iv.1 (turnF g (own.map (·.2)) t c x fr) iv.2 s1).bind fun ys s5 => .ok (.lst ys) s5) (Fin1 X.K H Q) := k
  have hD0 : H D = none := x1.back _ hD
  -- the rest of the walk, behind i turns
  let Wi : Nat → Nat → Hp → Prop := fun i m H2 => m = iv.2.length - i ∧ i ≤ iv.2.length ∧ ∃ ι2 s2 acc accD, Ext ι1 s1.length H1 ι2 s2.length (rm H2 D) ∧ SR X.K ι2 s2 H2 ∧ (∀ m, m < s2.length → ι2 m ≠ D) ∧ H2 D = some (.lst acc) ∧ Rels X.K ι2 s2.length H2 acc accD ∧ accD.length ≤ i ∧
    Out X.K C (fun c d H' => W c d σ H') ι2 s2.length (rm H2 D) (compL iv.1 (turnF g (own.map (·.2)) t c x fr) (iv.2.drop i) s2) (fun ι' s' H' ys => ∀ acc', (∀ m, m < s'.length → ι' m ≠ D) → H' D = some (.lst acc') → Rels X.K ι' s'.length H' acc' (accD ++ ys) → Q (.ref D) H')
  refine ⟨Wi, ⟨_, rfl, Nat.zero_le _, ι1, s1, [], [], ?_, S1.put hD, fun m hm z => ?_, upd_same, Rels.nil, Nat.le_refl _, ?_⟩, ?_⟩
  · rw [rm_upd, rm_none hD]; exact .refl
  · obtain ⟨o, e1, _⟩ := S1.there hm
    rw [z, hD] at e1; cases e1
  · rw [rm_upd, rm_none hD, List.drop_zero]
    refine k.bind.imp fun ι' s' H' ys x2 S2 ⟨_, _, k2⟩ => ?_
    rw [List.nil_append]
    exact fun acc' nD e1 r1 => k2 ι' H' .refl S2 (.ref D) ⟨D, acc', rfl, hD0, nD, e1, r1⟩
  · rintro i m H2 ⟨rfl, hi, ι2, s2, acc, accD, x2, S2, nD, e2, r2, hacc, k2⟩
    have xr : Ext ι1 s1.length H1 ι2 s2.length H2 := x2.trans (Ext.unrm (Nat.le_refl _))
    by_cases hlt : i < iv.2.length
    · -- a turn
      obtain ⟨d, hd⟩ : ∃ d : MP.D, iv.2[i]? = some d := ⟨_, List.getElem?_eq_getElem hlt⟩
      have hdrop : iv.2.drop i = d :: iv.2.drop (i + 1) := by
        rw [List.drop_eq_getElem_cons hlt]
        rw [List.getElem?_eq_getElem hlt] at hd
        cases hd; rfl
      rw [hdrop, compL] at k2
      have hgok : gok iv.1 s2 = true := by
        cases h : gok iv.1 s2 with
        | true => rfl
        | false => rw [h] at k2; exact k2.elim
      rw [if_pos hgok] at k2
      obtain ⟨j1, j2⟩ := jok ι2 s2 H2 xr S2 hgok i
      obtain ⟨jg, jy⟩ := j1 d hd
      -- the turn's worth
      have k3 := k2.bind
      cases hb : bindT t d (wipeF fr (own.map (·.2))) with
      | none =>
        exfalso
        unfold turnF at k3
        rw [hb] at k3
        exact k3
      | some fr2 =>
        have ht2 : turnF g (own.map (·.2)) t c x fr d s2 = ((tst g c fr2 s2).bind fun b s3 => (match b with
          | true => ((ev g x fr2 s3).settled).bind fun y s4 => .ok (some y) s4
          | false => .ok none s3)).noexc := by unfold turnF; rw [hb]
        rw [ht2] at k3
        obtain ⟨o3, s6, hr⟩ := Out.noexc_ex k3
        have hr' : ((tst g c fr2 s2).bind fun b s3 => (match b with
          | true => ((ev g x fr2 s3).settled).bind fun y s4 => .ok (some y) s4
          | false => .ok none s3)).noexc = .ok o3 s6 := by rw [hr]; rfl
        rw [hr'] at k3
        have k4 : ∀ ι' H', Ext ι2 s2.length (rm H2 D) ι' s6.length H' → SR X.K ι' s6 H' → Out X.K C (fun c d H' => W c d σ H') ι' s6.length H' ((compL iv.1 (turnF g (own.map (·.2)) t c x fr) (iv.2.drop (i + 1)) s6).bind fun ys s2 => .ok (consO o3 ys) s2) (fun ι' s' H' ys => ∀ acc', (∀ m, m < s'.length → ι' m ≠ D) → H' D = some (.lst acc') → Rels X.K ι' s'.length H' acc' (accD ++ ys) → Q (.ref D) H') := fun ι' H' y S' => (k3 ι' H' y S').2.2
        obtain ⟨b, s3, hb1, hb2⟩ := R.bind_ok hr
        refine .inr ⟨jg, Wi (i + 1) (iv.2.length - (i + 1)), fun H' w => ⟨_, by omega, w⟩, fun v H3 hy => ?_⟩
        obtain ⟨rfl, rd⟩ := jy v H3 hy
        refine bind_rd t d _ fr2 v _ _ hb rd (((F.ext x1).ext xr).wipe _) fun σ2 F2 wi => ⟨(wi _ hw).trans wipe_wipe, ?_⟩
        refine ⟨ι2, s2, fr2, S2, F2, Out.of_ok hb1 fun ι3 H4 x3 S3 => ?_⟩
        have nD3 := x3.notD e2 nD
        have e3 := x3.keep _ _ e2 nD
        cases b with
        | false =>
          dsimp only
          rw [if_neg (by decide)]
          cases hb2
          refine ⟨rfl, hlt, ι3, _, acc, accD, x2.trans x3.rm, S3, nD3, e3, Rels.ext x3 _ _ r2, by omega, ?_⟩
          have k5 := k4 ι3 (rm H4 D) x3.rm (S3.rm e3 nD3)
          exact k5.bind.imp fun ι' s' H' ys y S' ⟨_, _, k6⟩ => k6 ι' H' .refl S'
        | true =>
          dsimp only
          rw [if_pos rfl]
          obtain ⟨y, s4, hy1, hy2⟩ := R.bind_ok hb2
          cases hy2
          obtain ⟨y0, s5, hy3, hy4⟩ := R.bind_ok hy1
          cases hy4
          refine ⟨ι3, s3, fr2, S3, F2.ext x3, Out.of_ok hy3 fun ι4 H5 x4 S4 w rw' => ?_⟩
          have nD4 := x4.notD e3 nD3
          have e4 := x4.keep _ _ e3 nD3
          obtain ⟨ι5, x5, S5, r5⟩ := Ext.settle x4 S4 rw'
          have nD5 := x5.notD e3 nD3
          have r6 : Rels X.K ι5 (settle y0 s5).2.length H5 (acc ++ [w]) (accD ++ [(settle y0 s5).1]) := (Rels.ext x5 _ _ (Rels.ext x3 _ _ r2)).append (Rels.cons r5 Rels.nil)
          have x6 := (x3.trans x5)
          have S7 : SR X.K ι5 (settle y0 s5).2 (rm H5 D) := S5.rm e4 nD5
          have k5 := k4 ι5 (rm H5 D) x6.rm S7
          have hlen : acc.length < sizeLine := by
            rw [r2.length, ← lim_eq]; omega
          refine ⟨acc, e4, hlen, rfl, hlt, ι5, (settle y0 s5).2, acc ++ [w], accD ++ [(settle y0 s5).1], ?_, ?_, nD5, upd_same, ?_, by rw [List.length_append, List.length_singleton]; omega, ?_⟩
          · rw [rm_upd]; exact x2.trans x6.rm
          · exact S5.other e4 nD5
          · exact Rels.gr (Gr.other e4) _ _ r6
          · rw [rm_upd]
            exact k5.bind.imp fun ι' s' H' ys y S' ⟨_, _, k6⟩ => by
              have := k6 ι' H' .refl S'
              rw [List.append_assoc]
              exact this
    · have hi' : i = iv.2.length := by omega
      subst hi'
      rw [List.drop_length, compL] at k2
      have hgok : gok iv.1 s2 = true := by
        cases h : gok iv.1 s2 with
        | true => rfl
        | false => rw [h] at k2; exact k2.elim
      rw [if_pos hgok] at k2
      obtain ⟨_, j2⟩ := jok ι2 s2 H2 xr S2 hgok iv.2.length
      have k3 := k2 ι2 H2 (Ext.unrm (Nat.le_refl _)) S2
      exact .inl ⟨j2 rfl, k3 acc nD e2 (by rw [List.append_nil]; exact r2)⟩
theorem e_comp {ifs : List Expr} {scope : Scope} {own : List (Str × Nat)} {t : Tg} {it : It} {c : Ts} {x : Ex} (hc : X.calm = true) (hN : X.N.Nodup) (hi : PI X tg iter (tI g X.K C W it)) (ok : BlkOk X.N X.env.scope scope own)
    (hg : ∀ (s : Shared) (H : Hp) (C' : Addr) (cl : List (Str × Addr)) (fp : List Addr), PG (X.blk s H scope (compEnvC scope cl C' X.env) fp) tg (tgR X.K t))
    (ht : ∀ (s : Shared) (H : Hp) (C' : Addr) (cl : List (Str × Addr)) (fp : List Addr), PTs (X.blk s H scope (compEnvC scope cl C' X.env) fp) ifs (tT g X.K C Wf c))
    (he : ∀ (s : Shared) (H : Hp) (C' : Addr) (cl : List (Str × Addr)) (fp : List Addr), PE (X.blk s H scope (compEnvC scope cl C' X.env) fp) elt (tE g X.K C Wf x)) (hs : ∀ x, foldedSetIterable iter X.env x = pure x)
    (hw : ∀ i ∈ tgN t, i ∈ own.map (·.2)) : EE X g C W (.ListComp elt [⟨tg, iter, ifs, 0⟩] scope pos) (.comp (own.map (·.2)) t it c x) :=
  pe_mono (pe_lc hc hN hi ok hg ht he hs) fun σ H Q q => comp_rd hw q
end
end MP

set_option Elab.async false
set_option linter.all false
set_option maxRecDepth 100000
set_option maxHeartbeats 4000000
/-! Statements. -/
namespace MP
open PySem L2

def OutS (K : PySem.W.Frag) (C : Ctb) (W : WX) (D : Ends) (ι : Io) (n : Nat) (H : Hp) (r : Wo) : Prop := match r with
  | .nx fr s => ∀ ι' σ' H', Ext ι n H ι' s.length H' → SR K ι' s H' → FrR K ι' s.length H' σ' fr → D.nx σ' H'
  | .rt d s => ∀ ι' v H', Ext ι n H ι' s.length H' → SR K ι' s H' → RelT K ι' s.length H H' v d → D.rt v H'
  | .bk fr s => ∀ ι' σ' H', Ext ι n H ι' s.length H' → SR K ι' s H' → FrR K ι' s.length H' σ' fr → D.bk σ' H'
  | .ct fr s => ∀ ι' σ' H', Ext ι n H ι' s.length H' → SR K ι' s H' → FrR K ι' s.length H' σ' fr → D.ct σ' H'
  | .exc c fs fr s => ∀ ι' σ' H' cls d, Ext ι n H ι' s.length H' → SR K ι' s H' → FrR K ι' s.length H' σ' fr → RelX K C ι' s.length H' c fs cls d → W cls d σ' H'
  | .no => False
section
variable {α : Type} {K : PySem.W.Frag} {C : Ctb} {W : WX} {D : Ends} {ι ι' : Io} {n n' : Nat} {H H' : Hp} {r : Wo}
theorem OutS.start (x : Ext ι n H ι' n' H') (h : OutS K C W D ι n H r) : OutS K C W D ι' n' H' r := by
  cases r with
  | nx fr s => exact fun ι2 σ2 H2 y S F => h ι2 σ2 H2 (x.trans y) S F
  | rt d s => exact fun ι2 v H2 y S r => h ι2 v H2 (x.trans y) S (r.free x.back)
  | bk fr s => exact fun ι2 σ2 H2 y S F => h ι2 σ2 H2 (x.trans y) S F
  | ct fr s => exact fun ι2 σ2 H2 y S F => h ι2 σ2 H2 (x.trans y) S F
  | exc c fs fr s => exact fun ι2 σ2 H2 cls d y S F q => h ι2 σ2 H2 cls d (x.trans y) S F q
  | no => exact h
theorem OutS.w {σ : St} {fr : Fr} {q : R α} {f : α → Sto → Wo} (F : FrR K ι n H σ fr) (h : OutS K C W D ι n H (q.w fr f)) :
    Out K C (fun c d H' => W c d σ H') ι n H q (fun ι1 s1 H1 a => Ext ι n H ι1 s1.length H1 ∧ SR K ι1 s1 H1 ∧ OutS K C W D ι1 s1.length H1 (f a s1)) := by
  cases q with
  | ok a s => exact fun ι1 H1 x S => ⟨x, S, OutS.start x h⟩
  | exc c fs s => exact fun ι1 H1 cls d x S rx => h ι1 σ H1 cls d x S (F.ext x) rx
  | no => exact h
end
def tS (g : G) (K : PySem.W.Frag) (C : Ctb) (W : WX) (x : Sm) : TS := fun D σ H => ∃ ι s fr, SR K ι s H ∧ FrR K ι s.length H σ fr ∧ OutS K C W D ι s.length H (sx g x fr s)
def tSs (g : G) (K : PySem.W.Frag) (C : Ctb) (W : WX) (x : Sms) : TS := fun D σ H => ∃ ι s fr, SR K ι s H ∧ FrR K ι s.length H σ fr ∧ OutS K C W D ι s.length H (sxs g x fr s)
section
variable {X : Cx} {g : G} {C : Ctb} {W : WX} {pos p p2 : Pos} {e e2 e3 tg iter elt : Expr} {a b c : Ex} {st : Stmt} {sts sts2 : List Stmt} {x : Sm} {xs ys : Sms}
abbrev SS1 (X : Cx) (g : G) (C : Ctb) (W : WX) (st : Stmt) (x : Sm) : Prop := PS X st (tS g X.K C W x)
abbrev SSs (X : Cx) (g : G) (C : Ctb) (W : WX) (sts : List Stmt) (x : Sms) : Prop := PSs X sts (tSs g X.K C W x)
theorem s_nil : SSs X g C W [] .nil := by
  refine pss_mono pss_nil fun D σ H q => ?_
  obtain ⟨ι, s, fr, S, F, o⟩ := q
  rw [sxs] at o
  exact o ι σ H .refl S F
theorem s_cons (h : SS1 X g C W st x) (h2 : SSs X g C W sts xs) : SSs X g C W (st :: sts) (.cons x xs) := by
  refine pss_mono (pss_cons h h2) fun D σ H q => ?_
  obtain ⟨ι, s, fr, S, F, o⟩ := q
  rw [sxs] at o
  refine ⟨ι, s, fr, S, F, ?_⟩
  cases hr : sx g x fr s with
  | nx fr2 s2 =>
    rw [hr] at o
    exact fun ι1 σ1 H1 y S1 F1 => ⟨ι1, s2, fr2, S1, F1, OutS.start y o⟩
  | _ => rw [hr] at o; exact o
theorem s_ex (h : EE X g C W e a) (hs : swapsWith e none pos.line X.env = pure false) : SS1 X g C W (.Expr e pos) (.ex a) := by
  refine ps_mono (ps_expr h hs) fun D σ H q => ?_
  obtain ⟨ι, s, fr, S, F, o⟩ := q
  rw [sx] at o
  exact ⟨ι, s, fr, S, F, (OutS.w F o).imp fun ι1 s1 H1 d x S1 ⟨_, _, k⟩ v r => k ι1 σ H1 .refl S1 (F.ext x)⟩
theorem s_ret (h : EE X g C W e a) : SS1 X g C W (.Return (some e) pos) (.ret a) := by
  refine ps_mono (ps_ret h) fun D σ H q => ?_
  obtain ⟨ι, s, fr, S, F, o⟩ := q
  rw [sx] at o
  refine ⟨ι, s, fr, S, F, ?_⟩
  cases hr : ev g a fr s with
  | ok d s1 => rw [hr] at o; exact fun ι1 H1 y S1 v r => o ι1 v H1 y S1 r
  | exc c fs s1 => rw [hr] at o; exact fun ι1 H1 cls d y S1 rx => o ι1 σ H1 cls d y S1 (F.ext y) rx
  | no => rw [hr] at o; exact o.elim
theorem s_ret0 : SS1 X g C W (.Return none pos) .ret0 := by
  refine ps_mono ps_retN fun D σ H q => ?_
  obtain ⟨ι, s, fr, S, F, o⟩ := q
  rw [sx] at o
  exact o ι .non H .refl S (.of (by rw [Rel]))
theorem s_pass : SS1 X g C W (.Pass pos) .pass := by
  refine ps_mono ps_pass fun D σ H q => ?_
  obtain ⟨ι, s, fr, S, F, o⟩ := q
  rw [sx] at o
  exact o ι σ H .refl S F
theorem s_brk : SS1 X g C W (.Break pos) .brk := by
  refine ps_mono ps_break fun D σ H q => ?_
  obtain ⟨ι, s, fr, S, F, o⟩ := q
  rw [sx] at o
  exact o ι σ H .refl S F
theorem s_cnt : SS1 X g C W (.Continue pos) .cnt := by
  refine ps_mono ps_continue fun D σ H q => ?_
  obtain ⟨ι, s, fr, S, F, o⟩ := q
  rw [sx] at o
  exact o ι σ H .refl S F
theorem s_if {t : Ts} (h : TT' X g C W e t) (h1 : SSs X g C W sts xs) (h2 : SSs X g C W sts2 ys) : SS1 X g C W (.If e sts sts2 pos) (.ife t xs ys) := by
  refine ps_mono (ps_if h h1 h2) fun D σ H q => ?_
  obtain ⟨ι, s, fr, S, F, o⟩ := q
  rw [sx] at o
  refine ⟨ι, s, fr, S, F, (OutS.w F o).imp fun ι1 s1 H1 d x S1 ⟨_, _, k⟩ => ?_⟩
  cases d with
  | true => rw [if_pos rfl]; exact ⟨ι1, s1, fr, S1, F.ext x, k⟩
  | false => rw [if_neg (by decide)]; exact ⟨ι1, s1, fr, S1, F.ext x, k⟩
/-! ### stores -/
theorem asg_rd {t : Tg} {D : Ends} {σ : St} {H : Hp} (q : tS g X.K C W (.asg t a) D σ H) : tAsg (tE g X.K C W a) (tgR X.K t) D σ H := by
  obtain ⟨ι, s, fr, S, F, o⟩ := q
  rw [sx] at o
  refine ⟨ι, s, fr, S, F, ?_⟩
  have o2 := Out.settled (OutS.w F o) |>.imp (P' := Fin1 X.K H fun x H1 => tgR X.K t x σ H1 D.nx) fun ι1 s1 H1 d x S1 k v r => ?_
  · exact o2
  · obtain ⟨ι2, x2, S2, r2, x3, _, k⟩ := k v r
    cases hb : bindT t (settle d s1).1 fr with
    | none => rw [hb] at k; exact k.elim
    | some fr2 =>
      rw [hb] at k
      exact bind_rd t _ fr fr2 v σ _ hb r2 (F.ext x2) fun σ2 F2 _ => k ι2 σ2 H1 .refl S2 F2
theorem s_asg {t : Tg} (h : EE X g C W e a) (hg : PG X tg (tgR X.K t)) (hs : swapsWithSole [tg] e pos.line X.env = pure false) (hw : swappedStores [tg] e X.env = pure none) (h1 : (assignEach [tg] X.env).map (·.2) = [assign tg X.env]) : SS1 X g C W (.Assign [tg] e pos) (.asg t a) :=
  ps_mono (ps_asg h hg hs hw h1) fun D σ H q => asg_rd q
theorem s_setLc {i : Nat} {y : Str} {py cp spos : Pos} {ifs : List Expr} {scope : Scope} {own : List (Str × Nat)} {t : Tg} {it : It} {c : Ts} {x : Ex} (hc : X.calm = true) (hN : X.N.Nodup) (hy : X.N[i]? = some y) (hyl : X.env.scope.names.lookup y = some .local)
    (hsw : swapsWith (.ListComp elt [⟨tg, iter, ifs, 0⟩] scope cp) (some (.Name y py)) spos.line X.env = pure true) (hi : PI X tg iter (tI g X.K C W it)) (ok : BlkOk X.N X.env.scope scope own)
    (hg : ∀ (s : Shared) (H : Hp) (C' : Addr) (cl : List (Str × Addr)) (fp : List Addr), PG (X.blk s H scope (compEnvC scope cl C' X.env) fp) tg (tgR X.K t))
    (ht : ∀ (s : Shared) (H : Hp) (C' : Addr) (cl : List (Str × Addr)) (fp : List Addr), PTs (X.blk s H scope (compEnvC scope cl C' X.env) fp) ifs (tT g X.K C Wf c))
    (he : ∀ (s : Shared) (H : Hp) (C' : Addr) (cl : List (Str × Addr)) (fp : List Addr), PE (X.blk s H scope (compEnvC scope cl C' X.env) fp) elt (tE g X.K C Wf x)) (hs : ∀ x, foldedSetIterable iter X.env x = pure x)
    (hw : ∀ i ∈ tgN t, i ∈ own.map (·.2)) : SS1 X g C W (.Assign [.Name y py] (.ListComp elt [⟨tg, iter, ifs, 0⟩] scope cp) spos) (.asg (.name i) (.comp (own.map (·.2)) t it c x)) := by
  refine ps_mono (ps_setLc hc hN hy hyl hsw hi ok hg ht he hs) fun D σ H q => ?_
  have q2 := asg_rd q
  have q3 : tE g X.K C W (.comp (own.map (·.2)) t it c x) σ H (fun v H1 => tgR X.K (.name i) v σ H1 D.nx) := q2
  rw [tgR] at q3
  exact comp_rd hw q3
/-- several names at once, a tuple stored -/
theorem parF_ok {K : PySem.W.Frag} {ι : Io} {n : Nat} {H : Hp} : ∀ (is : List Nat) (ds : List D) (fr fr2 : Fr) (vs : List V) (σ : St), parF is ds fr = some fr2 → Rels K ι n H vs ds → FrR K ι n H σ fr →
    vs.length = is.length ∧ FrR K ι n H ((is.zip vs).foldl (fun σ p => σ.set p.1 (some p.2)) σ) fr2
  | [], [], fr, fr2, vs, σ, h, r, F => by rw [Rels] at r; subst r; cases h; exact ⟨rfl, F⟩
  | i :: is, d :: ds, fr, fr2, vs, σ, h, r, F => by
    rw [Rels] at r
    obtain ⟨v, us, rfl, r1, r2⟩ := r
    rw [parF] at h
    split at h
    · obtain ⟨h1, h2⟩ := parF_ok is ds _ fr2 us (σ.set i (some v)) h r2 (F.set r1)
      exact ⟨by rw [List.length_cons, List.length_cons, h1], h2⟩
    · cases h
  | [], _ :: _, fr, fr2, vs, σ, h, r, F => by cases h
  | _ :: _, [], fr, fr2, vs, σ, h, r, F => by cases h
theorem par_rd {is : List Nat} {es : Exs} {D : Ends} {σ : St} {H : Hp} (q : tS g X.K C W (.par is es) D σ H) :
    tA g X.K C W es σ H fun vs H1 => vs.length = is.length ∧ D.nx ((is.zip vs).foldl (fun σ p => σ.set p.1 (some p.2)) σ) H1 := by
  obtain ⟨ι, s, fr, S, F, o⟩ := q
  rw [sx] at o
  refine ⟨ι, s, fr, S, F, (OutS.w F o).imp fun ι1 s1 H1 ds x S1 ⟨_, _, k⟩ vs r => ?_⟩
  cases hb : parF is ds fr with
  | none => rw [hb] at k; exact k.elim
  | some fr2 =>
    rw [hb] at k
    obtain ⟨h1, h2⟩ := parF_ok is ds fr fr2 vs σ hb r (F.ext x)
    exact ⟨h1, k ι1 _ H1 .refl S1 h2⟩
theorem s_par2 {i j : Nat} {x y : Str} {px py pt : Pos} {kt k2 pt2} {es : Exs} (hc : X.calm = true) (hN : X.N.Nodup) (hi : X.N[i]? = some x) (hj : X.N[j]? = some y) (hij : i ≠ j)
    (hx : X.env.scope.names.lookup x = some .local) (hy : X.env.scope.names.lookup y = some .local) (ha : AA X g C W [e, e2] es)
    (hw : swappedStores [.Tuple [.Name x px, .Name y py] kt pt] (.Tuple [e, e2] k2 pt2) X.env = pure (some [x, y])) :
    SS1 X g C W (.Assign [.Tuple [.Name x px, .Name y py] kt pt] (.Tuple [e, e2] k2 pt2) pos) (.par [i, j] es) := by
  refine ps_mono (ps_par hc hN hi hj hij hx hy ha hw rfl) fun D σ H q => ?_
  obtain ⟨ι, s, fr, S, F, o⟩ := par_rd q
  refine ⟨ι, s, fr, S, F, o.imp fun ι1 s1 H1 ds x S1 k vs r => ?_⟩
  obtain ⟨h1, h2⟩ := k vs r
  match vs, h1 with
  | [v, w], _ => exact ⟨v, w, rfl, h2⟩
theorem s_par3 {i j l : Nat} {x y z : Str} {px py pz pt : Pos} {kt k2 pt2} {es : Exs} (hc : X.calm = true) (hN : X.N.Nodup) (hi : X.N[i]? = some x) (hj : X.N[j]? = some y) (hl : X.N[l]? = some z) (hij : i ≠ j) (hil : i ≠ l) (hjl : j ≠ l)
    (hx : X.env.scope.names.lookup x = some .local) (hy : X.env.scope.names.lookup y = some .local) (hz : X.env.scope.names.lookup z = some .local) (ha : AA X g C W [e, e2, e3] es)
    (hw : swappedStores [.Tuple [.Name x px, .Name y py, .Name z pz] kt pt] (.Tuple [e, e2, e3] k2 pt2) X.env = pure (some [x, y, z])) :
    SS1 X g C W (.Assign [.Tuple [.Name x px, .Name y py, .Name z pz] kt pt] (.Tuple [e, e2, e3] k2 pt2) pos) (.par [i, j, l] es) := by
  refine ps_mono (ps_par3 hc hN hi hj hl hij hil hjl hx hy hz ha hw rfl) fun D σ H q => ?_
  obtain ⟨ι, s, fr, S, F, o⟩ := par_rd q
  refine ⟨ι, s, fr, S, F, o.imp fun ι1 s1 H1 ds x S1 k vs r => ?_⟩
  obtain ⟨h1, h2⟩ := k vs r
  match vs, h1 with
  | [v, w, u], _ => exact ⟨v, w, u, rfl, h2⟩
/-- a tuple made, then unpacked into names -/
theorem gNames {K : PySem.W.Frag} : ∀ (is : List Nat) (vs : List V) (σ : St) (H : Hp) (Q : St → Hp → Prop), vs.length = is.length → Q ((is.zip vs).foldl (fun σ p => σ.set p.1 (some p.2)) σ) H → tgRs K (is.map Tg.name) vs σ H Q
  | [], [], σ, H, Q, _, q => by rw [List.map_nil, tgRs]; exact ⟨rfl, q⟩
  | i :: is, v :: vs, σ, H, Q, hl, q => by
    rw [List.map_cons, tgRs]
    refine ⟨v, vs, rfl, ?_⟩
    rw [tgR]
    exact gNames is vs _ H Q (by simpa using hl) q
  | [], _ :: _, _, _, _, hl, _ => by simp at hl
  | _ :: _, [], _, _, _, hl, _ => by simp at hl
theorem s_parT {is : List Nat} {es : List Expr} {xs : Exs} {k p2} (ha : AA X g C W es xs) (hg : PG X tg (tgR X.K (.tup (is.map Tg.name)))) (hs : swapsWithSole [tg] (.Tuple es k p2) pos.line X.env = pure false) (hw : swappedStores [tg] (.Tuple es k p2) X.env = pure none) (h1 : (assignEach [tg] X.env).map (·.2) = [assign tg X.env]) (hl : is.length ≤ 1000) :
    SS1 X g C W (.Assign [tg] (.Tuple es k p2) pos) (.par is xs) := by
  refine ps_mono (ps_asg (pe_tup ha) hg hs hw h1) fun D σ H q => ?_
  obtain ⟨ι, s, fr, S, F, o⟩ := q
  have o := o
  rw [sx] at o
  refine ⟨ι, s, fr, S, F, (OutS.w F o).imp fun ι1 s1 H1 ds x S1 ⟨_, _, k⟩ vs r => ?_⟩
  cases hb : parF is ds fr with
  | none => rw [hb] at k; exact k.elim
  | some fr2 =>
    rw [hb] at k
    obtain ⟨h1, _⟩ := parF_ok is ds fr fr2 vs σ hb r (F.ext x)
    refine ⟨?_, fun p hp => ?_⟩
    · exact Nat.le_of_lt (small1000 (by omega))
    · have x2 := Ext.put (o := .tup vs) S1 hp
      obtain ⟨_, h2⟩ := parF_ok is ds fr fr2 vs σ hb (Rels.ext x2 _ _ r) ((F.ext x).ext x2)
      rw [tgR]
      exact ⟨p, vs, rfl, .of upd_same, by rw [h1, List.length_map], gNames is vs σ _ _ h1 (k ι1 _ _ x2 (S1.put hp) h2)⟩
theorem sub_rd {D : Ends} {σ : St} {H : Hp} (q : tS g X.K C W (.sub a b c) D σ H) : tAsg (tE g X.K C W c) (gSub (tE g X.K C W a) (tE g X.K C W b) rSetL) D σ H := by
  obtain ⟨ι, s, fr, S, F, o⟩ := q
  rw [sx] at o
  refine ⟨ι, s, fr, S, F, ?_⟩
  have o2 := Out.settled (OutS.w F o) |>.imp (P' := Fin1 X.K H fun x H1 => gSub (tE g X.K C W a) (tE g X.K C W b) rSetL x σ H1 D.nx) fun ι1 s1 H1 d x S1 k v r => ?_
  · exact o2
  · obtain ⟨ι2, x2, S2, r2, x3, _, k⟩ := k v r
    refine ⟨ι2, _, fr, S2, F.ext x2, (OutS.w (F.ext x2) k).imp fun ι3 s3 H3 d3 x3 S3 ⟨_, _, k3⟩ v3 r3 => ?_⟩
    refine ⟨ι3, s3, fr, S3, (F.ext x2).ext x3, (OutS.w ((F.ext x2).ext x3) k3).imp fun ι4 s4 H4 d4 x4 S4 ⟨_, _, k4⟩ v4 r4 => ?_⟩
    have k5 := OutS.w (((F.ext x2).ext x3).ext x4) k4
    have r3' := r3.ext x4
    cases d3 with
    | ref m =>
      obtain ⟨hm, rfl⟩ := r3'.ref
      cases d4 with
      | int z =>
        have e4 := r4.int
        subst e4
        simp only [putAt] at k5
        split at k5
        · rename_i ys hq
          obtain ⟨vs, h1, h2⟩ := S4.lst hq
          split at k5
          · rename_i j hj
            refine ⟨_, vs, _, j, rfl, rfl, h1, by rw [h2.length]; exact hj, ?_⟩
            have rs := Rels.set j h2 (Rel.ext (x3.trans x4) _ _ r2)
            have xw := Ext.write (ws := vs.set j v) hm h1
            have hl : (s4.set m (O.lst (ys.set j (settle d s1).1))).length = s4.length := List.length_set
            obtain ⟨_, _, k6⟩ := k5 ι4 _ (by rw [hl]; exact xw) (S4.write hm h1 rs)
            refine k6 ι4 σ _ .refl (S4.write hm h1 rs) ?_
            rw [hl]
            exact (((F.ext x2).ext x3).ext x4).ext xw
          · exact k5.elim
        · exact k5.elim
      | _ => exact k5.elim
    | _ => exact k5.elim
theorem s_sub {o i : Expr} {sp : Pos} (ho : EE X g C W o a) (hi : EE X g C W i b) (h : EE X g C W e c) (hs : swapsWithSole [.Subscript o i sp] e pos.line X.env = pure false) (hw : swappedStores [.Subscript o i sp] e X.env = pure none) (h1 : (assignEach [.Subscript o i sp] X.env).map (·.2) = [assign (.Subscript o i sp) X.env])
    (hg : PG X (.Subscript o i sp) (gSub (tE g X.K C W a) (tE g X.K C W b) rSetL)) : SS1 X g C W (.Assign [.Subscript o i sp] e pos) (.sub a b c) :=
  ps_mono (ps_asg h hg hs hw h1) fun D σ H q => sub_rd q
def augOk : Op → Operator → Bool := fun o op => match o, op with
  | .add, .Add | .sub, .Sub => true
  | _, _ => false
theorem s_aug {i : Nat} {o : Op} {op : Operator} {x : Str} {px : Pos} (hN : X.N.Nodup) (hi : X.N[i]? = some x) (hx : Loc X.env.scope x) (hf : X.fn x = true ∨ X.env.scope.names.lookup x = some .local) (h : EE X g C W e a) (ho : augOk o op = true) : SS1 X g C W (.AugAssign (.Name x px) op e pos) (.aug i o a) := by
  have main : ∀ {f : Int → Int → Int} (hb : ∀ s a b z, bop o s (.int a) (.int b) = some z → z = .int (f a b)) {D : Ends} {σ : St} {H : Hp}, tS g X.K C W (.aug i o a) D σ H → tAug i (tE g X.K C W a) (ipI f) D σ H := by
    intro f hb D σ H q
    obtain ⟨ι, s, fr, S, F, k⟩ := q
    rw [sx] at k
    cases hfr : fr[i]? with
    | none => unfold frAt at k; rw [hfr] at k; exact k.elim
    | some od =>
      cases od with
      | none => unfold frAt at k; rw [hfr] at k; exact k.elim
      | some d =>
        obtain ⟨v, hv, rv⟩ := F.2 i d hfr
        have e0 : frAt fr i s = .ok d s := by unfold frAt; rw [hfr]
        rw [e0] at k
        have k : OutS X.K C W D ι s.length H ((ev g a fr s).w fr fun y s2 => augW i o fr d y s2) := k
        refine ⟨v, hv, ι, s, fr, S, F, (OutS.w F k).imp fun ι1 s1 H1 y x S1 ⟨_, _, k1⟩ u ru => ?_⟩
        cases d with
        | int a1 =>
          cases y with
          | int b1 =>
            rw [Rel] at rv
            subst rv
            have e2 := ru.int
            subst e2
            simp only [augW] at k1
            cases hz : bop o s1 (.int a1) (.int b1) with
            | none => rw [hz] at k1; exact k1.elim
            | some z =>
              rw [hz] at k1
              have ez := hb _ _ _ _ hz
              subst ez
              exact ⟨a1, b1, rfl, rfl, k1 ι1 _ H1 .refl S1 ((F.ext x).set (by rw [Rel]))⟩
          | _ => exact k1.elim
        | _ => exact k1.elim
  cases o <;> cases op <;> first | (simp [augOk] at ho; done) | skip
  · exact ps_mono (ps_aug hN hi hx h ip_add hf) fun D σ H q => main (fun s a b z e => by cases e; rfl) q
  · exact ps_mono (ps_aug hN hi hx h ip_sub hf) fun D σ H q => main (fun s a b z e => by cases e; rfl) q
/-! ### loops -/
theorem s_whl {t : Ts} (hp : PassesOwn (model X.prog X.w) X.A X.env X.xe) (h : TT' X g C W e t) (hb : SSs X g C W sts xs) : SS1 X g C W (.While e sts [] pos) (.whl t xs) := by
  refine ps_mono (ps_while hp h hb) fun D σ H q => ?_
  obtain ⟨ι, s, fr, S, F, o⟩ := q
  rw [sx] at o
  refine ⟨fun m σ2 H2 => ∃ ι2 s2 fr2, SR X.K ι2 s2 H2 ∧ FrR X.K ι2 s2.length H2 σ2 fr2 ∧ (∀ b, H2 b = none → H b = none) ∧ OutS X.K C W { D with rt := fun v H' => D.rt v H' } ι2 s2.length H2 (whlL (tst g t) (sxs g xs) m fr2 s2), ⟨g.fuel, ι, s, fr, S, F, fun _ h => h, o⟩, ?_⟩
  rintro m σ2 H2 ⟨ι2, s2, fr2, S2, F2, hb2, o2⟩
  cases m with
  | zero => exact o2.elim
  | succ m =>
    rw [whlL] at o2
    refine ⟨ι2, s2, fr2, S2, F2, (OutS.w F2 o2).imp fun ι3 s3 H3 b x3 S3 ⟨_, _, k3⟩ => ?_⟩
    cases b with
    | false => rw [if_neg (by decide)]; exact k3 ι3 σ2 H3 .refl S3 (F2.ext x3)
    | true =>
      rw [if_pos rfl]
      refine ⟨fun σ' H' => ∃ ι2 s2 fr2, SR X.K ι2 s2 H' ∧ FrR X.K ι2 s2.length H' σ' fr2 ∧ (∀ b, H' b = none → H b = none) ∧ OutS X.K C W { D with rt := fun v H' => D.rt v H' } ι2 s2.length H' (whlL (tst g t) (sxs g xs) m fr2 s2), fun σ' H' w => ⟨m, Nat.lt_succ_self _, w⟩, ι3, s3, fr2, S3, F2.ext x3, ?_⟩
      cases hr : sxs g xs fr2 s3 with
      | nx fr4 s4 => rw [hr] at k3; exact fun ι4 σ4 H4 x4 S4 F4 => ⟨ι4, s4, fr4, S4, F4, fun b h => hb2 b (x3.back b (x4.back b h)), OutS.start x4 k3⟩
      | ct fr4 s4 => rw [hr] at k3; exact fun ι4 σ4 H4 x4 S4 F4 => ⟨ι4, s4, fr4, S4, F4, fun b h => hb2 b (x3.back b (x4.back b h)), OutS.start x4 k3⟩
      | bk fr4 s4 => rw [hr] at k3; exact k3
      | rt d s4 => rw [hr] at k3; exact k3
      | exc c fs fr4 s4 => rw [hr] at k3; exact k3
      | no => rw [hr] at k3; exact k3.elim
theorem s_for {t : Tg} {it : It} (hp : PassesOwn (model X.prog X.w) X.A X.env X.xe) (hc : X.calm = true) (hi : PI X tg iter (tI g X.K C W it)) (hg : PG X tg (tgR X.K t)) (hb : SSs X g C W sts xs) (hs : ∀ x, foldedSetIterable iter X.env x = pure x) : SS1 X g C W (.For tg iter sts [] pos) (.for_ t it xs) := by
  refine ps_mono (ps_for hp hc hi hg hb hs) fun D σ H q => ?_
  obtain ⟨ι, s, fr, S, F, o⟩ := q
  rw [sx] at o
  refine ⟨ι, s, fr, S, F, (OutS.w F o).imp fun ι1 s1 H1 iv x1 S1 ⟨_, _, k⟩ J jok => ?_⟩
  let body : MP.D → Fr → Sto → Wo := fun x fr s => match bindT t x fr with
    | some fr2 => sxs g xs fr2 s
    | none => .no
  have k : OutS X.K C W D ι1 s1.length H1 (forL iv.1 body iv.2 fr s1) := k
  let Wi : Nat → Nat → St → Hp → Prop := fun i m σ2 H2 => m = iv.2.length - i ∧ i ≤ iv.2.length ∧ ∃ ι2 s2 fr2, Ext ι1 s1.length H1 ι2 s2.length H2 ∧ SR X.K ι2 s2 H2 ∧ FrR X.K ι2 s2.length H2 σ2 fr2 ∧ OutS X.K C W D ι2 s2.length H2 (forL iv.1 body (iv.2.drop i) fr2 s2)
  refine ⟨Wi, ⟨_, rfl, Nat.zero_le _, ι1, s1, fr, .refl, S1, F.ext x1, by rw [List.drop_zero]; exact k⟩, ?_⟩
  rintro i m σ2 H2 ⟨rfl, hi, ι2, s2, fr2, x2, S2, F2, k2⟩
  by_cases hlt : i < iv.2.length
  · obtain ⟨d, hd⟩ : ∃ d : MP.D, iv.2[i]? = some d := ⟨_, List.getElem?_eq_getElem hlt⟩
    have hdrop : iv.2.drop i = d :: iv.2.drop (i + 1) := by
      rw [List.drop_eq_getElem_cons hlt]
      rw [List.getElem?_eq_getElem hlt] at hd
      cases hd; rfl
    rw [hdrop, forL] at k2
    have hgok : gok iv.1 s2 = true := by
      cases h : gok iv.1 s2 with
      | true => rfl
      | false => rw [h] at k2; exact k2.elim
    rw [if_pos hgok] at k2
    obtain ⟨j1, j2⟩ := jok ι2 s2 H2 x2 S2 hgok i
    obtain ⟨jg, jy⟩ := j1 d hd
    refine .inr ⟨jg, Wi (i + 1) (iv.2.length - (i + 1)), fun σ' H' w => ⟨_, by omega, w⟩, fun v H3 hy => ?_⟩
    obtain ⟨rfl, rd⟩ := jy v H3 hy
    cases hb : bindT t d fr2 with
    | none =>
      have e0 : body d fr2 s2 = .no := by show (match bindT t d fr2 with | some fr2 => sxs g xs fr2 s2 | none => .no) = _; rw [hb]
      rw [e0] at k2
      exact k2.elim
    | some fr3 =>
      have e0 : body d fr2 s2 = sxs g xs fr3 s2 := by show (match bindT t d fr2 with | some fr2 => sxs g xs fr2 s2 | none => .no) = _; rw [hb]
      rw [e0] at k2
      refine bind_rd t d _ fr3 v _ _ hb rd F2 fun σ3 F3 _ => ⟨ι2, s2, fr3, S2, F3, ?_⟩
      cases hr : sxs g xs fr3 s2 with
      | nx fr4 s4 => rw [hr] at k2; exact fun ι4 σ4 H4 x4 S4 F4 => ⟨rfl, hlt, ι4, s4, fr4, x2.trans x4, S4, F4, OutS.start x4 k2⟩
      | ct fr4 s4 => rw [hr] at k2; exact fun ι4 σ4 H4 x4 S4 F4 => ⟨rfl, hlt, ι4, s4, fr4, x2.trans x4, S4, F4, OutS.start x4 k2⟩
      | bk fr4 s4 => rw [hr] at k2; exact k2
      | rt d s4 => rw [hr] at k2; exact k2
      | exc c fs fr4 s4 => rw [hr] at k2; exact k2
      | no => rw [hr] at k2; exact k2.elim
  · have hi' : i = iv.2.length := by omega
    subst hi'
    rw [List.drop_length, forL] at k2
    have hgok : gok iv.1 s2 = true := by
      cases h : gok iv.1 s2 with
      | true => rfl
      | false => rw [h] at k2; exact k2.elim
    rw [if_pos hgok] at k2
    obtain ⟨_, j2⟩ := jok ι2 s2 H2 x2 S2 hgok iv.2.length
    exact .inl ⟨j2 rfl, k2 ι2 σ2 H2 .refl S2 F2⟩
end
end MP

set_option Elab.async false
set_option linter.all false
set_option maxRecDepth 100000
set_option maxHeartbeats 4000000
/-! t[::-1], of lists and tuples. -/
namespace MP
open PySem L2 PySem.Spec PyProof.Rows

section
variable {prog : Program} {w : World} {A : Around} {E : Value → Shared → Prop} {s : Shared}
theorem rev_pick (xs : Array Value) : ((List.range xs.size).filterMap fun (m : Nat) => xs[(((xs.size : Int) - 1) + (m : Int) * (-1)).toNat]?).toArray = xs.toList.reverse.toArray := by
  have e : (List.range xs.size).filterMap (fun (m : Nat) => xs[(((xs.size : Int) - 1) + (m : Int) * (-1)).toNat]?) = ((List.range xs.size).map fun k => xs.size - 1 - k).filterMap (xs[·]?) := by
    rw [List.filterMap_map]
    congr 1
    funext m
    have : (((xs.size : Int) - 1) + (m : Int) * (-1)).toNat = xs.size - 1 - m := by omega
    rw [this]; rfl
  rw [e, PySem.W.krv_range, List.filterMap_reverse, PySem.W.krv_all]
theorem places_rev (n : Nat) : Builtin.Slice.slicePlaces ((n : Int) - 1) (-1) (-1) = n := by
  unfold Builtin.Slice.slicePlaces
  have h1 : ¬ ((-1 : Int) > 0) := by decide
  simp only [h1, if_false]
  first
    | (split <;> simp <;> omega)
    | omega
    | simp
theorem sliceApplied_rev {sl : Addr} {vl vu vs : Value} {n : Nat} {Q : Int × Int × Nat → Shared → Prop} (hs : s.heap.IsSliceOf sl vl vu vs) (pl : IsPart vl none) (pu : IsPart vu none) (ps : IsPart vs (some (-1)))
    (h : Q ((n : Int) - 1, -1, n) s) : wpAny (model prog w) A (Builtin.Slice.sliceApplied (.ref sl) (pure (n : Int))) Q E s := by
  obtain ⟨os, hos, hcs, hds⟩ := id hs
  unfold Builtin.Slice.sliceApplied Builtin.Slice.sliceFields
  refine wpAny_bind (wpAny_bind (wpAny_field hos hds (x := vl) rfl (wpAny_bind (wpAny_field hos hds (x := vu) rfl (wpAny_bind (wpAny_field hos hds (x := vs) rfl (wpAny_pure ?_)))))))
  refine wpAny_bind (HT.slicePart_ ps ?_)
  show wpAny _ _ (if ((-1 : Int) == 0) = true then _ else _) _ _ s
  rw [if_neg (by decide)]
  refine wpAny_bind (HT.slicePart_ pl (wpAny_bind (HT.slicePart_ pu (wpAny_bind (wpAny_pure ?_)))))
  show wpAny _ _ (pure ((n : Int) - 1, (-1 : Int), Builtin.Slice.slicePlaces ((n : Int) - 1) (-1) (-1))) _ _ s
  rw [places_rev]
  exact wpAny_pure h
theorem getItem_tuple_rev {t sl : Addr} {items : Array Value} {vl vu vs : Value} {Q : Value → Shared → Prop} (ht : IsTup s.heap t items) (hs : s.heap.IsSliceOf sl vl vu vs) (pl : IsPart vl none) (pu : IsPart vu none) (ps : IsPart vs (some (-1)))
    (h : Q (.ref s.heap.objs.size) { s with heap := s.heap.push { cls := .type "tuple", data := .seq items.toList.reverse.toArray } })
    (hsz : items.size ≤ sizeLine) : wpAny (model prog w) A (getItem (.ref t) (.ref sl)) Q E s := by
  have htake : sizeOk (.seq items.toList.reverse.toArray) := by
    show items.toList.reverse.toArray.size ≤ sizeLine
    rw [List.size_toArray, List.length_reverse, Array.length_toList]
    exact hsz
  obtain ⟨os, hos, hcs, hds⟩ := id hs
  have hTs : s.TypeIs (.ref sl) "slice" := ⟨os, hos, hcs⟩
  unfold getItem
  try with_reducible refine wpAny_holding ?_
  first | refine wpAny_bind (wpAny_pure ?_) | skip
  refine wpAny_bind (wpAny_sequenceKey ht.typeIs (by decide) ?_)
  refine wpAny_bind (wpAny_callSpecial?_slot (name := Str.ofString "__getitem__") ht.typeIs PyProof.Rows.slot_tuple_getitem
    (wpAny_call_entry PyProof.Rows.slot_tuple_getitem ht.typeIs entry_tuple_getitem ?_ (args_tuple_getitem _ _)))
  show wpAny _ _ (Builtin.Tuple.tupleItemsOf (.ref t) >>= _) _ _ s
  refine wpAny_bind (tupleItemsOf_ ht ?_)
  refine wpAny_bind (wpAny_typeOf hTs ?_)
  rw [if_pos (by decide)]
  refine wpAny_bind (sliceApplied_rev hs pl pu ps ?_)
  have hno : ¬ ((((items.size : Int) - 1) == 0 && (-1 : Int) == 1 && items.size == items.size) = true) := by
    intro q
    rw [Bool.and_eq_true, Bool.and_eq_true] at q
    exact absurd q.1.2 (by decide)
  show wpAny _ _ (if (((items.size : Int) - 1) == 0 && (-1 : Int) == 1 && items.size == items.size) = true then _ else _) _ _ s
  rw [if_neg hno, rev_pick]
  first
    | exact wpAny_bind (m := Builtin.Tuple.tupleExact _) (wpAny_newObj_type (wpAny_pure ⟨_, rfl, wpAny_pure h⟩) htake)
    | exact wpAny_bind (m := Builtin.Tuple.tupleExact _) (wpAny_newObj_type (wpAny_bind (wpAny_pure (wpAny_pure ⟨_, rfl, wpAny_pure h⟩))) htake)
    | exact wpAny_bind (wpAny_bind (m := Builtin.Tuple.tupleExact _) (wpAny_newObj_type (wpAny_pure (wpAny_pure ⟨_, rfl, wpAny_pure h⟩)) htake))
    | exact wpAny_bind (wpAny_bind (m := Builtin.Tuple.tupleExact _) (wpAny_newObj_type (wpAny_pure ⟨_, rfl, wpAny_pure h⟩) htake))
end
section
variable {X : Cx} {g : G} {C : Ctb} {W : WX} {pos : Pos} {e : Expr} {a : Ex}
def tRev1 (K : PySem.W.Frag) (x : V) (H1 : Hp) (Q : VK) : Prop := (∃ a xs, x = .ref a ∧ SqL K H1 a xs ∧ ∀ p, H1 p = none → Q (.ref p) (upd H1 p (.lst xs.reverse))) ∨ ∃ a xs, x = .ref a ∧ SqT K H1 a xs ∧ ∀ p, H1 p = none → Q (.ref p) (upd H1 p (.tup xs.reverse))
def tRev (K : PySem.W.Frag) (te : TE) : TE := fun σ H Q => te σ H fun x H1 => tRev1 K x H1 Q
theorem pe_rev {te : TE} {k : Nat} {p1 p2 p3 : Pos} (he : PE X e te) : PE X (.Subscript e (.Slice none none (some (.UnaryOp .USub (.Constant (.int 1) k p1) p2)) p3) pos) (tRev X.K te) := by
  refine ⟨fun pins s σ H Q I h => ?_⟩
  refine Subscript_ (thn (he.run pins s σ H _ I h) fun v s1 ⟨x, H1, I1, r1, q1⟩ => ?_)
  have hst : PO X (some (.UnaryOp .USub (.Constant (.int 1) k p1) p2)) (tPart (tUn (rU fun i => .int (-i)) (tC (.int 1)))) := po_some (pe_un un_neg pe_int)
  refine wpAny_Slice (thn (po_none.run pins s1 σ H1 (fun o H2 => o = none ∧ H2 = H1) I1 ⟨rfl, rfl⟩) fun vl s2 ⟨l, H2, I2, pl, el, e2⟩ => ?_)
  subst el e2
  refine thn (po_none.run pins s2 σ H2 (fun o H3 => o = none ∧ H3 = H2) I2 ⟨rfl, rfl⟩) fun vu s3 ⟨u, H3, I3, pu, eu, e3⟩ => ?_
  subst eu e3
  refine thn (hst.run pins s3 σ H3 (fun o H4 => o = some (-1) ∧ H4 = H3) I3 ⟨1, rfl, -1, rfl, rfl, rfl⟩) fun vs s4 ⟨o, H4, I4, ps, eo, e4⟩ => ?_
  subst eo e4
  have I5 : Inv X pins σ H4 { s4 with heap := s4.heap.push { cls := .type "slice", data := .fields #[vl, vu, vs] } } := I4.kept (t' := s4.toks) fun b ob q => Heap.get?_push_of_some _ q
  rcases q1 with ⟨a, xs, ex, hx, q⟩ | ⟨a, xs, ex, hx, q⟩
  · subst ex
    cases r1
    obtain ⟨its, r, ht, hz⟩ := I5.list hx
    have hlen := r.length
    show wpAny (model X.prog X.w) X.A (subscriptTail e (.Slice none none (some (.UnaryOp .USub (.Constant (.int 1) k p1) p2)) p3) (.ref a) (.ref s4.heap.objs.size)) (EP X pins σ Q) X.xe { s4 with heap := s4.heap.push { cls := .type "slice", data := .fields #[vl, vu, vs] } }
    refine tail_any (ops := [.ref a, .ref s4.heap.objs.size]) ht.isList.typeIs (PySem.slot_list_getitem.lookup) ?_ (by with_unfolding_all rfl)
    refine wpAny_getItem_list_slice ht.isList (Heap.IsSliceOf.new _ vl vu vs) pl pu ps (by decide) ?_ (by rw [List.size_toArray]; omega)
    rw [PySem.W.krv_pick]
    refine ⟨.ref _, _, I5.laid (t' := s4.toks) (o := .lst xs.reverse) (fun b ob q => Heap.get?_push_of_some _ q) (Nat.le_refl _) ?_, rfl, q _ (I5.hok.fresh (Nat.le_refl _))⟩
    exact ⟨by rw [List.length_reverse]; exact hz, _, 0, r.reverse, Heap.get?_push_size _ rfl⟩
  · subst ex
    cases r1
    obtain ⟨its, r, ht, hz⟩ := I5.tuple hx
    have hlen : its.toArray.size = xs.length := by rw [List.size_toArray]; exact r.length.symm
    show wpAny (model X.prog X.w) X.A (subscriptTail e (.Slice none none (some (.UnaryOp .USub (.Constant (.int 1) k p1) p2)) p3) (.ref a) (.ref s4.heap.objs.size)) (EP X pins σ Q) X.xe { s4 with heap := s4.heap.push { cls := .type "slice", data := .fields #[vl, vu, vs] } }
    refine tail_any (ops := [.ref a, .ref s4.heap.objs.size]) ht.typeIs PyProof.Rows.slot_tuple_getitem.lookup ?_ (by with_unfolding_all rfl)
    refine getItem_tuple_rev ht (Heap.IsSliceOf.new _ vl vu vs) pl pu ps ?_ (by rw [hlen]; exact hz)
    refine ⟨.ref _, _, I5.laid (t' := s4.toks) (o := .tup xs.reverse) (fun b ob q => Heap.get?_push_of_some _ q) (Nat.le_refl _) ?_, rfl, q _ (I5.hok.fresh (Nat.le_refl _))⟩
    exact ⟨by rw [List.length_reverse]; exact hz, _, r.reverse, IsTup.new _ _⟩
theorem e_rev {k : Nat} {p1 p2 p3 : Pos} (ha : EE X g C W e a) : EE X g C W (.Subscript e (.Slice none none (some (.UnaryOp .USub (.Constant (.int 1) k p1) p2)) p3) pos) (.rev a) := by
  refine pe_mono (pe_rev ha) fun σ H Q q => ?_
  obtain ⟨ι, s, fr, S, F, o⟩ := q
  rw [ev] at o
  refine ⟨ι, s, fr, S, F, o.bind.imp fun ι1 s1 H1 d x S1 ⟨_, _, k⟩ v r => ?_⟩
  have k := k.fin x.back
  have kl : ∀ {xs : List MP.D}, lstOf s1 d = some xs → Out X.K C (fun c d H' => W c d σ H') ι1 s1.length H1 (.ok (.lst xs.reverse) s1) (Fin1 X.K H1 Q) → tRev1 X.K v H1 Q := fun {xs} hx k => by
    obtain ⟨a, vs, h1, h2, h3, _⟩ := lstOf_ok S1 r hx
    exact .inl ⟨a, vs, h1, h2, fun p hp => FinS.lst S1 hp h3.reverse (fun ι' H' x S => k ι' H' x S)⟩
  cases d with
  | tup xs =>
    obtain ⟨a, vs, h1, h2, h3⟩ := r.tup
    exact .inr ⟨a, vs, h1, .inl (.inl h2), fun p hp => FinS.tup S1 hp h3.reverse (fun ι' H' x S => k ι' H' x S)⟩
  | fro xs => exact kl rfl k
  | lst xs => exact kl rfl k
  | ref m =>
    obtain ⟨z, hz, k⟩ := k.opt S1
    cases hq : lstOf s1 (.ref m) with
    | none => rw [hq] at hz; cases hz
    | some xs =>
      rw [hq] at hz
      cases hz
      exact kl hq (fun ι' H' x S => k ι' H' x S)
  | _ => obtain ⟨z, hz, k⟩ := k.opt S1; cases hz
end
end MP

set_option Elab.async false
set_option linter.all false
set_option maxRecDepth 100000
set_option maxHeartbeats 4000000
/-! Does a term tell what the text says? -/
namespace MP
open PySem L2

/-- what a text's defs may name: the functions (name, number of parameters), the ways of keywords, the built-in names that nobody has taken -/
structure Tab where
  fns : List (Str × Nat)
  kws : List KwS
  blt : List Str
def gl (sc : Scope) (x : Str) : Bool := decide (sc.names.lookup x = some .globalImplicit)
def visB (sc : Scope) (x : Str) : Bool := match sc.names.lookup x with
  | some .local => true | some .cell => true | some .free => true | _ => false
def freeB (T : Tab) (x : Str) : Bool := T.blt.any fun y => decide (y = x)
def strip1 : Expr → Expr
  | .BoolOp _ [e] _ => e
  | e => e
def notSlice : Expr → Bool
  | .Slice .. => false
  | _ => true
def notSet : Expr → Bool
  | .Set .. => false
  | _ => true
/-- a test that is its value's truth -/
def leafT : Expr → Bool
  | .UnaryOp .Not .. => false
  | .BoolOp .. => false
  | .IfExp .. => false
  | .Compare .. => false
  | _ => true
def own (N : List Str) (ws : List Nat) : List (Str × Nat) := ws.map fun i => (N.getD i "", i)
def locB (sc : Scope) (fk : Str → Bool) (x : Str) : Bool := decide (sc.names.lookup x = some .local) || (decide (sc.names.lookup x = some .cell) && fk x)
mutual
def chkG (N : List Str) (sc : Scope) (fk : Str → Bool) : Tg → Expr → Bool
  | .name i, e => match e with
    | .Name x _ => decide (N[i]? = some x) && locB sc fk x
    | _ => false
  | .tup ts, e => match e with
    | .Tuple es _ _ => chkGs N sc fk ts es && es.all notStar
    | _ => false
def chkGs (N : List Str) (sc : Scope) (fk : Str → Bool) : List Tg → List Expr → Bool
  | [], es => match es with
    | [] => true
    | _ => false
  | t :: ts, es => match es with
    | e :: r => chkG N sc fk t e && chkGs N sc fk ts r
    | _ => false
end
def isTT : Ts → Bool
  | .tt => true
  | _ => false
mutual
def chkE (T : Tab) (N : List Str) : Ex → Scope → Expr → Bool
  | .var i, sc, e => match e with
    | .Name x _ => decide (N[i]? = some x) && visB sc x && !(x == ("__debug__" : Str)) && !(x == ("__classdict__" : Str))
    | _ => false
  | .con d, sc, e => match e with
    | .Constant c _ _ => conOk c d
    | _ => false
  | .bin o a b, sc, e => match e with
    | .BinOp l op r _ => opOk o op && chkE T N a sc l && chkE T N b sc r
    | _ => false
  | .neg a, sc, e => match e with
    | .UnaryOp .USub l _ => chkE T N a sc l
    | _ => false
  | .not t, sc, e => match e with
    | .UnaryOp .Not l _ => chkNV T N t sc l
    | _ => false
  | .and a b, sc, e => match e with
    | .BoolOp .And (l :: r :: rs) p => chkE T N a sc l && chkE T N b sc (strip1 (.BoolOp .And (r :: rs) p))
    | _ => false
  | .or a b, sc, e => match e with
    | .BoolOp .Or (l :: r :: rs) p => chkE T N a sc l && chkE T N b sc (strip1 (.BoolOp .Or (r :: rs) p))
    | _ => false
  | .ife t a b, sc, e => match e with
    | .IfExp c l r _ => chkT T N t sc c && chkE T N a sc l && chkE T N b sc r
    | _ => false
  | .cmp o a b, sc, e => match e with
    | .Compare l [op] [r] _ => cmOk o op && chkE T N a sc l && chkE T N b sc r && !behindInMarks op r
    | _ => false
  | .chain o o' a b c, sc, e => match e with
    | .Compare l [op, op'] [r, q] _ => cmOk o op && cmOk o' op' && chkE T N a sc l && chkE T N b sc r && chkE T N c sc q && !lastMarks [op, op'] [r, q]
    | _ => false
  | .tup xs, sc, e => match e with
    | .Tuple es _ _ => chkA T N xs sc es
    | _ => false
  | .lst xs, sc, e => match e with
    | .List es _ => chkA T N xs sc es
    | _ => false
  | .ix a b, sc, e => match e with
    | .Subscript l r _ => chkE T N a sc l && chkE T N b sc r && notSlice r
    | _ => false
  | .slice a lo hi, sc, e => match e with
    | .Subscript l (.Slice x y none _) _ => chkE T N a sc l && chkO T N lo sc x && chkO T N hi sc y
    | _ => false
  | .rev a, sc, e => match e with
    | .Subscript l (.Slice none none (some (.UnaryOp .USub (.Constant (.int 1) _ _) _)) _) _ => chkE T N a sc l
    | _ => false
  | .isin a t, sc, e => match e with
    | .Call (.Name f _) [l, .Name y _] [] _ => decide (f = "isinstance") && gl sc f && freeB T f && decide (y = Str.ofString (tyS t)) && gl sc y && freeB T y && chkE T N a sc l && notStar l
    | _ => false
  | .bt f a, sc, e => match e with
    | .Call (.Name n _) [l] [] _ => decide (f ≠ .sorted) && decide (n = Str.ofString (btS f)) && gl sc n && freeB T n && chkE T N a sc l && notStar l
    | _ => false
  | .bt2 f a b, sc, e => match e with
    | .Call (.Name n _) [l, r] [] _ => (match f with
      | .min => true | .max => true | _ => false) && decide (n = Str.ofString (btS f)) && gl sc n && freeB T n && chkE T N a sc l && notStar l && chkE T N b sc r && notStar r
    | _ => false
  | .lrng t lo hi, sc, e => match e with
    | .Call (.Name n _) [.Call (.Name r _) [x] [] _] [] _ => (match lo with
      | .con (.int 0) => true
      | _ => false) && decide (n = Str.ofString (if t then "tuple" else "list")) && decide (r = "range") && gl sc n && freeB T n && gl sc r && freeB T r && chkE T N hi sc x && notStar x
    | .Call (.Name n _) [.Call (.Name r _) [x, y] [] _] [] _ => decide (n = Str.ofString (if t then "tuple" else "list")) && decide (r = "range") && gl sc n && freeB T n && gl sc r && freeB T r && chkE T N lo sc x && notStar x && chkE T N hi sc y && notStar y
    | _ => false
  | .call f xs, sc, e => match e with
    | .Call (.Name n _) es [] _ => (match T.fns[f]? with
      | some (m, _) => decide (m = n)
      | none => false) && gl sc n && chkA T N xs sc es && es.all notStar
    | _ => false
  | .callk f ks xs zs, sc, e => match e with
    | .Call (.Name n _) es kws _ => (match T.fns[f]? with
      | some (m, _) => decide (m = n)
      | none => false) && gl sc n && chkA T N xs sc es && es.all notStar && chkK T N zs sc kws && (match kwN kws with
        | some ns => (T.kws.any fun q => decide (q = (f, exsLen xs, ns, ks))) && decide (exsLen zs = ns.length)
        | none => false)
    | _ => false
  | .mt m a xs, sc, e => match e with
    | .Call (.Attribute o n ap) es [] p => baseOk o && (ap.endLine == p.line) && chkE T N a sc o && chkA T N xs sc es && es.all notStar && (match m, es with
      | .append, [_] => decide (n = "append")
      | .pop, [] => decide (n = "pop")
      | .popAt, [_] => decide (n = "pop")
      | .extend, [_] => decide (n = "extend")
      | _, _ => false)
    | _ => false
  | .comp ws t it c x, sc, e => match e with
    | .ListComp elt [⟨tg, iter, ifs, 0⟩] scope _ => blkC N sc scope (own N ws) && chkI T N it sc iter && notSet iter && chkG N (relS scope sc) (fun y => scope.names.lookup y == some .cell) t tg && (match ifs with
      | [] => isTT c
      | [q] => chkT T N c (relS scope sc) q
      | _ => false) && chkE T N x (relS scope sc) elt && (tgN t).all fun i => decide (i ∈ ws)
    | _ => false
/-- the operand of a not as a value -/
def chkNV (T : Tab) (N : List Str) : Ts → Scope → Expr → Bool
  | .e x, sc, e => chkE T N x sc e
  | _, _, _ => false
def chkT (T : Tab) (N : List Str) : Ts → Scope → Expr → Bool
  | .tt, _, _ => false
  | .e x, sc, e => chkE T N x sc e && leafT e
  | .cmp o a b, sc, e => match e with
    | .Compare l [op] [r] _ => cmOk o op && chkE T N a sc l && chkE T N b sc r && !behindInMarks op r
    | _ => false
  | .chain o o' a b c, sc, e => match e with
    | .Compare l [op, op'] [r, q] _ => cmOk o op && cmOk o' op' && chkE T N a sc l && chkE T N b sc r && chkE T N c sc q && !lastMarks [op, op'] [r, q]
    | _ => false
  | .not t, sc, e => match e with
    | .UnaryOp .Not l _ => chkT T N t sc l
    | _ => false
  | .and a b, sc, e => match e with
    | .BoolOp .And (l :: r :: rs) p => chkT T N a sc l && chkT T N b sc (strip1 (.BoolOp .And (r :: rs) p))
    | _ => false
  | .or a b, sc, e => match e with
    | .BoolOp .Or (l :: r :: rs) p => chkT T N a sc l && chkT T N b sc (strip1 (.BoolOp .Or (r :: rs) p))
    | _ => false
def chkA (T : Tab) (N : List Str) : Exs → Scope → List Expr → Bool
  | .nil, _, es => match es with
    | [] => true
    | _ => false
  | .cons x xs, sc, es => match es with
    | e :: r => chkE T N x sc e && notStar e && chkA T N xs sc r
    | _ => false
def chkK (T : Tab) (N : List Str) : Exs → Scope → List Keyword → Bool
  | .nil, _, es => match es with
    | [] => true
    | _ => false
  | .cons x xs, sc, es => match es with
    | ⟨_, e, _⟩ :: r => chkE T N x sc e && chkK T N xs sc r
    | _ => false
def chkO (T : Tab) (N : List Str) : Op1 → Scope → Option Expr → Bool
  | .none, _, e => match e with
    | none => true
    | _ => false
  | .some x, sc, e => match e with
    | some e => chkE T N x sc e
    | _ => false
def chkI (T : Tab) (N : List Str) : It → Scope → Expr → Bool
  | .seq x, sc, e => chkE T N x sc e
  | .rng lo hi, sc, e => match e with
    | .Call (.Name r _) [x] [] _ => (match lo with
      | .con (.int 0) => true
      | _ => false) && decide (r = "range") && gl sc r && freeB T r && chkE T N hi sc x && notStar x
    | .Call (.Name r _) [x, y] [] _ => decide (r = "range") && gl sc r && freeB T r && chkE T N lo sc x && notStar x && chkE T N hi sc y && notStar y
    | _ => false
  termination_by structural x => x
end
end MP

set_option Elab.async false
set_option linter.all false
set_option maxRecDepth 100000
set_option maxHeartbeats 4000000
/-! A term that tells what the text says is worth what the text is: expressions. -/
namespace MP
open PySem L2

structure Good (T : Tab) (g : G) (C : Ctb) (X : Cx) (W : WX) (N : List Str) (sc : Scope) (fk : Str → Bool) : Prop where
  hN : X.N = N
  hsc : X.env.scope = sc
  nd : N.Nodup
  fn : ∀ x, fk x = true → X.fn x = true
  calm : X.calm = true
  tk : Takes X W
  bl : ∀ x ∈ T.blt, X.mg x = none
  fns : ∀ f x ar, T.fns[f]? = some (x, ar) → FnC X C g x f ar T.kws
  un : X.A.units + 64 < cLine
section
variable {T : Tab} {g : G} {C : Ctb} {X : Cx} {W : WX} {N : List Str} {sc : Scope} {fk : Str → Bool}
theorem Good.gl (G : Good T g C X W N sc fk) {x : Str} (h : gl sc x = true) : Gl X x := by
  have := of_decide_eq_true h
  rw [← G.hsc] at this
  exact this
theorem Good.free (G : Good T g C X W N sc fk) {x : Str} (h : freeB T x = true) : X.mg x = none := by
  obtain ⟨y, hy, e⟩ := List.any_eq_true.mp h
  have e := of_decide_eq_true e
  subst e
  exact G.bl _ hy
theorem Good.blk (G : Good T g C X W N sc fk) {s : Shared} {H : Hp} {scope : Scope} {cl : List (Str × Addr)} {C' : Addr} {fp : List Addr} :
    Good T g C (X.blk s H scope (compEnvC scope cl C' X.env) fp) Wf N (relS scope sc) (fun y => scope.names.lookup y == some .cell) := by
  refine ⟨G.hN, by rw [← G.hsc]; rfl, G.nd, fun x h => h, G.calm, fun _ _ x => ?_, G.bl, fun f x ar h => ?_, G.un⟩
  · obtain ⟨_, _, _, _, _, _, _, _, _, _, _, _, _, _, _, _, w⟩ := x
    exact w
  · have F := G.fns f x ar h
    exact ⟨F.ex, F.db, F.ln⟩
theorem Good.vis (G : Good T g C X W N sc fk) {x : Str} (h : visB sc x = true) : Vis X.env.scope x := by
  rw [G.hsc]
  unfold visB at h
  split at h
  · exact .inl (by assumption)
  · exact .inr (.inl (by assumption))
  · exact .inr (.inr (by assumption))
  · cases h
mutual
theorem okG (G : Good T g C X W N sc fk) : ∀ (t : Tg) (e : Expr), chkG N sc fk t e = true → PG X e (tgR X.K t)
  | .name i, e, h => by
    unfold chkG at h
    split at h
    · rw [Bool.and_eq_true] at h
      obtain ⟨h1, h2⟩ := h
      have h1 := of_decide_eq_true h1
      unfold locB at h2
      rw [Bool.or_eq_true, Bool.and_eq_true] at h2
      rw [tgR]
      rcases h2 with h2 | ⟨h2, h3⟩
      · have h2 := of_decide_eq_true h2
        rw [← G.hsc] at h2
        exact pg_name (by rw [G.hN]; exact G.nd) (by rw [G.hN]; exact h1) (.inl h2) (.inr h2)
      · have h2 := of_decide_eq_true h2
        rw [← G.hsc] at h2
        exact pg_name (by rw [G.hN]; exact G.nd) (by rw [G.hN]; exact h1) (.inr h2) (.inl (G.fn _ h3))
    · cases h
  | .tup ts, e, h => by
    unfold chkG at h
    split at h
    · rename_i es _ _
      rw [Bool.and_eq_true] at h
      obtain ⟨h1, h2⟩ := h
      obtain ⟨hl, q⟩ := okGs G ts es h1
      rw [tgR]
      have hall : ∀ (es : List Expr), es.all notStar = true → (assignEach es X.env).length = es.length ∧ (assignEach es X.env).findIdx? (·.1) = none := by
        intro es
        induction es with
        | nil => intro _; exact ⟨rfl, rfl⟩
        | cons e es ih =>
          intro h
          rw [List.all_cons, Bool.and_eq_true] at h
          obtain ⟨i1, i2⟩ := ih h.2
          have e0 : assignEach (e :: es) X.env = (false, assign e X.env) :: assignEach es X.env := by
            cases e <;> first | rfl | (simp [notStar] at h; done)
          rw [e0]
          refine ⟨by rw [List.length_cons, List.length_cons, i1], ?_⟩
          rw [List.findIdx?_cons, i2] <;> rfl
      obtain ⟨a1, a2⟩ := hall es h2
      exact pg_tup G.calm q (by rw [a1, hl]) a2
    · cases h
theorem okGs (G : Good T g C X W N sc fk) : ∀ (ts : List Tg) (es : List Expr), chkGs N sc fk ts es = true → es.length = ts.length ∧ PGs X es (tgRs X.K ts)
  | [], es, h => by
    unfold chkGs at h
    split at h
    · rw [tgRs]; exact ⟨rfl, pgs_nil⟩
    · cases h
  | t :: ts, es, h => by
    unfold chkGs at h
    split at h
    · rename_i e r
      rw [Bool.and_eq_true] at h
      obtain ⟨hl, q⟩ := okGs G ts r h.2
      have q1 := okG G t e h.1
      rw [tgRs]
      refine ⟨by rw [List.length_cons, List.length_cons, hl], pgs_cons q1 q ?_⟩
      cases e <;> first | rfl | (exfalso; have h1 := h.1; cases t <;> (unfold chkG at h1; cases h1; done))
    · cases h
end
theorem strip_ok {e : Expr} {x : Ex} (h : EE X g C W (strip1 e) x) : EE X g C W e x := by
  unfold strip1 at h
  split at h
  · exact pe_one h
  · exact h
theorem plain_of {e : Expr} (h : notSlice e = true) : PlainIx e := fun o i => by
  cases e <;> first | rfl | (simp [notSlice] at h; done)
theorem nset_of {e : Expr} (h : notSet e = true) (x : Value) : foldedSetIterable e X.env x = pure x := by
  cases e <;> first | rfl | (simp [notSet] at h; done)
theorem leaf_of {e : Expr} (h : leafT e = true) (whole : Sem Value) : isTrue e X.env whole = (do let v ← whole; standAt e.pos; holding [v] (truthy v)) := by
  cases e <;> first | rfl | (simp [leafT] at h; done) | skip
  rename_i op x p
  cases op <;> first | rfl | (simp [leafT] at h; done)
theorem chkA_star : ∀ {xs : Exs} {es : List Expr}, chkA T N xs sc es = true → es.all notStar = true
  | .nil, es, h => by
    unfold chkA at h
    split at h
    · rfl
    · cases h
  | .cons x xs, es, h => by
    unfold chkA at h
    split at h
    · rename_i e r
      rw [Bool.and_eq_true, Bool.and_eq_true] at h
      rw [List.all_cons, h.1.2, chkA_star h.2]; rfl
    · cases h
theorem fns_of (G : Good T g C X W N sc fk) {f : Nat} {n : Str} (h : (match T.fns[f]? with
    | some (m, _) => decide (m = n)
    | none => false) = true) : ∃ ar, FnC X C g n f ar T.kws := by
  split at h
  · rename_i m ar e
    have h := of_decide_eq_true h
    subst h
    exact ⟨ar, G.fns f _ _ e⟩
  · cases h
theorem lo0 {lo : Ex} (h : (match lo with
    | .con (.int 0) => true
    | _ => false) = true) : lo = .con (.int 0) := by
  split at h
  · rfl
  · cases h
theorem own_fst {ws : List Nat} : (own N ws).map (·.2) = ws := by
  unfold own
  rw [List.map_map]
  exact List.map_id' ws
theorem isTT_ok {c : Ts} (h : isTT c = true) : c = .tt := by
  cases c <;> first | rfl | (simp [isTT] at h; done)
theorem pw_of {op : BoolOp} {vs : List Expr} {pos : Pos} {t : TT} (h : PT X (.BoolOp op vs pos) t) : PW X (.BoolOp op vs pos) t := ⟨fun whole pins s σ H Q I q => h.run pins s σ H Q I q⟩
theorem stripA {r : Expr} {rs : List Expr} {p : Pos} {t : Ts} (h : TT' X g C W (strip1 (.BoolOp .And (r :: rs) p)) t) : WW X g C W (.BoolOp .And (r :: rs) p) t := by
  cases rs with
  | nil => exact w_and1 h
  | cons _ _ => exact pw_of h
theorem stripO {r : Expr} {rs : List Expr} {p : Pos} {t : Ts} (h : TT' X g C W (strip1 (.BoolOp .Or (r :: rs) p)) t) : WW X g C W (.BoolOp .Or (r :: rs) p) t := by
  cases rs with
  | nil => exact w_or1 h
  | cons _ _ => exact pw_of h
mutual
theorem okE : ∀ (x : Ex) (sc : Scope) (e : Expr) (X : Cx) (W : WX) (fk : Str → Bool), chkE T N x sc e = true → Good T g C X W N sc fk → EE X g C W e x
  | .var i, sc, e, X, W, fk, h, G => by
    unfold chkE at h
    split at h
    · simp only [Bool.and_eq_true, Bool.not_eq_true', decide_eq_true_eq] at h
      exact e_var (by rw [G.hN]; exact h.1.1.1) (G.vis h.1.1.2) h.1.2 h.2
    · cases h
  | .con d, sc, e, X, W, fk, h, G => by
    unfold chkE at h
    split at h
    · exact e_con h
    · cases h
  | .bin o a b, sc, e, X, W, fk, h, G => by
    unfold chkE at h
    split at h
    · simp only [Bool.and_eq_true] at h
      exact e_bin (okE a _ _ _ _ _ h.1.2 G) (okE b _ _ _ _ _ h.2 G) h.1.1
    · cases h
  | .neg a, sc, e, X, W, fk, h, G => by
    unfold chkE at h
    split at h
    · exact e_neg (okE a _ _ _ _ _ h G)
    · cases h
  | .not t, sc, e, X, W, fk, h, G => by
    unfold chkE at h
    split at h
    · obtain ⟨x, rfl, q⟩ := okNV t _ _ _ _ _ h G
      exact e_not q
    · cases h
  | .and a b, sc, e, X, W, fk, h, G => by
    unfold chkE at h
    split at h
    · rw [Bool.and_eq_true] at h
      exact e_andT (okE a _ _ _ _ _ h.1 G) (strip_ok (okE b _ _ _ _ _ h.2 G))
    · cases h
  | .or a b, sc, e, X, W, fk, h, G => by
    unfold chkE at h
    split at h
    · rw [Bool.and_eq_true] at h
      exact e_orT (okE a _ _ _ _ _ h.1 G) (strip_ok (okE b _ _ _ _ _ h.2 G))
    · cases h
  | .ife t a b, sc, e, X, W, fk, h, G => by
    unfold chkE at h
    split at h
    · simp only [Bool.and_eq_true] at h
      exact e_ife (okT t _ _ _ _ _ h.1.1 G) (okE a _ _ _ _ _ h.1.2 G) (okE b _ _ _ _ _ h.2 G)
    · cases h
  | .cmp o a b, sc, e, X, W, fk, h, G => by
    unfold chkE at h
    split at h
    · simp only [Bool.and_eq_true, Bool.not_eq_true'] at h
      exact e_cmp G.un (okE a _ _ _ _ _ h.1.1.2 G) (okE b _ _ _ _ _ h.1.2 G) h.1.1.1 h.2
    · cases h
  | .chain o o' a b c, sc, e, X, W, fk, h, G => by
    unfold chkE at h
    split at h
    · simp only [Bool.and_eq_true, Bool.not_eq_true'] at h
      exact e_chain G.un (okE a _ _ _ _ _ h.1.1.1.2 G) (okE b _ _ _ _ _ h.1.1.2 G) (okE c _ _ _ _ _ h.1.2 G) h.1.1.1.1.1 h.1.1.1.1.2 h.2
    · cases h
  | .tup xs, sc, e, X, W, fk, h, G => by
    unfold chkE at h
    split at h
    · exact e_tup (okA xs _ _ _ _ _ h G)
    · cases h
  | .lst xs, sc, e, X, W, fk, h, G => by
    unfold chkE at h
    split at h
    · exact e_lst (okA xs _ _ _ _ _ h G)
    · cases h
  | .ix a b, sc, e, X, W, fk, h, G => by
    unfold chkE at h
    split at h
    · simp only [Bool.and_eq_true] at h
      exact e_ix (okE a _ _ _ _ _ h.1.1 G) (okE b _ _ _ _ _ h.1.2 G) (plain_of h.2)
    · cases h
  | .slice a lo hi, sc, e, X, W, fk, h, G => by
    unfold chkE at h
    split at h
    · simp only [Bool.and_eq_true] at h
      exact e_slice (okE a _ _ _ _ _ h.1.1 G) (okO lo _ _ _ _ _ h.1.2 G) (okO hi _ _ _ _ _ h.2 G)
    · cases h
  | .rev a, sc, e, X, W, fk, h, G => by
    unfold chkE at h
    split at h
    · exact e_rev (okE a _ _ _ _ _ h G)
    · cases h
  | .isin a t, sc, e, X, W, fk, h, G => by
    unfold chkE at h
    split at h
    · simp only [Bool.and_eq_true, decide_eq_true_eq] at h
      obtain ⟨⟨⟨⟨⟨⟨⟨h1, h2⟩, h3⟩, h4⟩, h5⟩, h6⟩, h7⟩, h8⟩ := h
      subst h1
      subst h4
      refine e_isin (G.gl h2) (G.free h3) (G.gl h5) (G.free h6) ?_ ?_ ?_ (okE a _ _ _ _ _ h7 G) h8
      · cases t <;> decide +kernel
      · cases t <;> decide +kernel
      · cases t <;> decide +kernel
    · cases h
  | .bt f a, sc, e, X, W, fk, h, G => by
    unfold chkE at h
    split at h
    · simp only [Bool.and_eq_true, decide_eq_true_eq] at h
      obtain ⟨⟨⟨⟨⟨h1, h2⟩, h3⟩, h4⟩, h5⟩, h6⟩ := h
      exact e_bt h1 G.calm (G.gl h3) (G.free h4) h2 (okE a _ _ _ _ _ h5 G) h6
    · cases h
  | .bt2 f a b, sc, e, X, W, fk, h, G => by
    unfold chkE at h
    split at h
    · simp only [Bool.and_eq_true, decide_eq_true_eq] at h
      obtain ⟨⟨⟨⟨⟨⟨⟨h1, h2⟩, h3⟩, h4⟩, h5⟩, h6⟩, h7⟩, h8⟩ := h
      subst h2
      cases f <;> first | (cases h1; done) | skip
      · exact e_min2 G.calm (G.gl h3) (G.free h4) (okE a _ _ _ _ _ h5 G) (okE b _ _ _ _ _ h7 G) h6 h8
      · exact e_max2 G.calm (G.gl h3) (G.free h4) (okE a _ _ _ _ _ h5 G) (okE b _ _ _ _ _ h7 G) h6 h8
    · cases h
  | .lrng t lo hi, sc, e, X, W, fk, h, G => by
    unfold chkE at h
    split at h
    · simp only [Bool.and_eq_true, decide_eq_true_eq] at h
      obtain ⟨⟨⟨⟨⟨⟨⟨⟨h1, h2⟩, h3⟩, h4⟩, h5⟩, h6⟩, h7⟩, h8⟩, h9⟩ := h
      have e1 := lo0 h1
      subst e1
      subst h2
      subst h3
      cases t with
      | true => exact e_trng1 G.calm (G.gl h4) (G.free h5) (G.gl h6) (G.free h7) (okE hi _ _ _ _ _ h8 G) h9
      | false => exact e_lrng1 G.calm (G.gl h4) (G.free h5) (G.gl h6) (G.free h7) (okE hi _ _ _ _ _ h8 G) h9
    · simp only [Bool.and_eq_true, decide_eq_true_eq] at h
      obtain ⟨⟨⟨⟨⟨⟨⟨⟨⟨h2, h3⟩, h4⟩, h5⟩, h6⟩, h7⟩, h8⟩, h9⟩, h10⟩, h11⟩ := h
      subst h2
      subst h3
      cases t with
      | true => exact e_trng2 G.calm (G.gl h4) (G.free h5) (G.gl h6) (G.free h7) (okE lo _ _ _ _ _ h8 G) (okE hi _ _ _ _ _ h10 G) h9 h11
      | false => exact e_lrng2 G.calm (G.gl h4) (G.free h5) (G.gl h6) (G.free h7) (okE lo _ _ _ _ _ h8 G) (okE hi _ _ _ _ _ h10 G) h9 h11
    · cases h
  | .call f xs, sc, e, X, W, fk, h, G => by
    unfold chkE at h
    split at h
    · rename_i n _ es _
      simp only [Bool.and_eq_true] at h
      obtain ⟨⟨⟨h1, h2⟩, h3⟩, h4⟩ := h
      obtain ⟨ar, F⟩ := fns_of G h1
      have q := okA xs _ _ _ _ _ h3 G
      cases es with
      | nil =>
        cases xs with
        | nil => exact e_call0 F G.tk (G.gl h2)
        | cons _ _ => unfold chkA at h3; cases h3
      | cons e es => exact e_call F G.tk (G.gl h2) q h4
    · cases h
  | .callk f ks xs zs, sc, e, X, W, fk, h, G => by
    unfold chkE at h
    split at h
    · rename_i n _ es kws _
      simp only [Bool.and_eq_true] at h
      obtain ⟨⟨⟨⟨⟨h1, h2⟩, h3⟩, h4⟩, h5⟩, h6⟩ := h
      obtain ⟨ar, F⟩ := fns_of G h1
      have q := okA xs _ _ _ _ _ h3 G
      have q2 := okK zs _ _ _ _ _ h5 G
      split at h6
      · rename_i ns hn
        simp only [Bool.and_eq_true, decide_eq_true_eq] at h6
        obtain ⟨y, hy, e1⟩ := List.any_eq_true.mp h6.1
        have e1 := of_decide_eq_true e1
        subst e1
        refine e_callk F G.tk (G.gl h2) q q2 h4 hn hy h6.2 fun z => ?_
        subst z
        cases xs with
        | nil => rfl
        | cons _ _ => unfold chkA at h3; cases h3
      · cases h6
    · cases h
  | .mt m a xs, sc, e, X, W, fk, h, G => by
    unfold chkE at h
    split at h
    · rename_i o n ap es p
      simp only [Bool.and_eq_true] at h
      obtain ⟨⟨⟨⟨⟨h1, h2⟩, h3⟩, h4⟩, h5⟩, h6⟩ := h
      have qa := okE a _ _ _ _ _ h3 G
      have qs := okA xs _ _ _ _ _ h4 G
      split at h6 <;> first | (cases h6; done) | skip
      · have e1 := of_decide_eq_true h6
        subst e1
        rw [List.all_cons, Bool.and_eq_true] at h5
        exact e_append h1 h2 h5.1 qa qs
      · have e1 := of_decide_eq_true h6
        subst e1
        cases xs with
        | nil => exact e_pop h1 h2 qa
        | cons _ _ => unfold chkA at h4; cases h4
      · have e1 := of_decide_eq_true h6
        subst e1
        rw [List.all_cons, Bool.and_eq_true] at h5
        exact e_popAt h1 h2 h5.1 qa qs
      · have e1 := of_decide_eq_true h6
        subst e1
        rw [List.all_cons, Bool.and_eq_true] at h5
        exact e_extend h1 h2 h5.1 qa qs
    · cases h
  | .comp ws t it c x, sc, e, X, W, fk, h, G => by
    unfold chkE at h
    split at h
    · rename_i elt tg iter ifs scope cp
      simp only [Bool.and_eq_true] at h
      obtain ⟨⟨⟨⟨⟨⟨h1, h2⟩, h3⟩, h4⟩, h5⟩, h6⟩, h7⟩ := h
      have hb : BlkOk X.N X.env.scope scope (own N ws) := by
        rw [G.hN, G.hsc]
        exact blkOk_by h1
      have h5' : (c = .tt ∧ ifs = []) ∨ ∃ q, ifs = [q] ∧ chkT T N c (relS scope sc) q = true := by
        split at h5
        · exact .inl ⟨isTT_ok h5, rfl⟩
        · exact .inr ⟨_, rfl, h5⟩
        · cases h5
      have q := e_comp (own := own N ws) (t := t) (c := c) (x := x) (ifs := ifs) (pos := cp) G.calm (by rw [G.hN]; exact G.nd) (okI it _ _ _ _ _ h2 G) hb (fun s H C' cl fp => okG (G.blk (s := s) (H := H) (C' := C') (cl := cl) (fp := fp)) t tg h4)
        (fun s H C' cl fp => by
          rcases h5' with ⟨rfl, rfl⟩ | ⟨q, rfl, h5⟩
          · exact ts_tt
          · exact ts_one (okT c _ _ _ _ _ h5 G.blk)) (fun s H C' cl fp => okE x _ _ _ _ _ h6 G.blk) (nset_of h3) (fun i hi => by
          rw [own_fst]
          have := List.all_eq_true.mp h7 i hi
          exact of_decide_eq_true this)
      rw [own_fst] at q
      exact q
    · cases h
theorem okNV : ∀ (t : Ts) (sc : Scope) (e : Expr) (X : Cx) (W : WX) (fk : Str → Bool), chkNV T N t sc e = true → Good T g C X W N sc fk → ∃ x, t = .e x ∧ EE X g C W e x
  | .e x, sc, e, X, W, fk, h, G => by
    unfold chkNV at h
    exact ⟨x, rfl, okE x _ _ _ _ _ h G⟩
  | .tt, sc, e, X, W, fk, h, G => by unfold chkNV at h; cases h
  | .cmp _ _ _, sc, e, X, W, fk, h, G => by unfold chkNV at h; cases h
  | .chain _ _ _ _ _, sc, e, X, W, fk, h, G => by unfold chkNV at h; cases h
  | .not _, sc, e, X, W, fk, h, G => by unfold chkNV at h; cases h
  | .and _ _, sc, e, X, W, fk, h, G => by unfold chkNV at h; cases h
  | .or _ _, sc, e, X, W, fk, h, G => by unfold chkNV at h; cases h
theorem okT : ∀ (t : Ts) (sc : Scope) (e : Expr) (X : Cx) (W : WX) (fk : Str → Bool), chkT T N t sc e = true → Good T g C X W N sc fk → TT' X g C W e t
  | .tt, sc, e, X, W, fk, h, G => by unfold chkT at h; cases h
  | .cmp o a b, sc, e, X, W, fk, h, G => by
    unfold chkT at h
    split at h
    · simp only [Bool.and_eq_true, Bool.not_eq_true'] at h
      exact t_cmp G.un (okE a _ _ _ _ _ h.1.1.2 G) (okE b _ _ _ _ _ h.1.2 G) h.1.1.1 h.2
    · cases h
  | .chain o o' a b c, sc, e, X, W, fk, h, G => by
    unfold chkT at h
    split at h
    · simp only [Bool.and_eq_true, Bool.not_eq_true'] at h
      exact t_chain G.un (okE a _ _ _ _ _ h.1.1.1.2 G) (okE b _ _ _ _ _ h.1.1.2 G) (okE c _ _ _ _ _ h.1.2 G) h.1.1.1.1.1 h.1.1.1.1.2 h.2
    · cases h
  | .e x, sc, e, X, W, fk, h, G => by
    unfold chkT at h
    rw [Bool.and_eq_true] at h
    exact t_leaf (okE x _ _ _ _ _ h.1 G) (leaf_of h.2)
  | .not t, sc, e, X, W, fk, h, G => by
    unfold chkT at h
    split at h
    · exact t_not (okT t _ _ _ _ _ h G)
    · cases h
  | .and a b, sc, e, X, W, fk, h, G => by
    unfold chkT at h
    split at h
    · rw [Bool.and_eq_true] at h
      exact (w_and (okT a _ _ _ _ _ h.1 G) (stripA (okT b _ _ _ _ _ h.2 G))).pt
    · cases h
  | .or a b, sc, e, X, W, fk, h, G => by
    unfold chkT at h
    split at h
    · rw [Bool.and_eq_true] at h
      exact (w_or (okT a _ _ _ _ _ h.1 G) (stripO (okT b _ _ _ _ _ h.2 G))).pt
    · cases h
theorem okA : ∀ (xs : Exs) (sc : Scope) (es : List Expr) (X : Cx) (W : WX) (fk : Str → Bool), chkA T N xs sc es = true → Good T g C X W N sc fk → AA X g C W es xs
  | .nil, sc, es, X, W, fk, h, G => by
    unfold chkA at h
    split at h
    · exact a_nil
    · cases h
  | .cons x xs, sc, es, X, W, fk, h, G => by
    unfold chkA at h
    split at h
    · simp only [Bool.and_eq_true] at h
      exact a_cons (okE x _ _ _ _ _ h.1.1 G) (okA xs _ _ _ _ _ h.2 G) (star_of h.1.2)
    · cases h
theorem okK : ∀ (xs : Exs) (sc : Scope) (es : List Keyword) (X : Cx) (W : WX) (fk : Str → Bool), chkK T N xs sc es = true → Good T g C X W N sc fk → KK X g C W es xs
  | .nil, sc, es, X, W, fk, h, G => by
    unfold chkK at h
    split at h
    · exact k_nil
    · cases h
  | .cons x xs, sc, es, X, W, fk, h, G => by
    unfold chkK at h
    split at h
    · simp only [Bool.and_eq_true] at h
      exact k_cons (okE x _ _ _ _ _ h.1 G) (okK xs _ _ _ _ _ h.2 G)
    · cases h
theorem okO : ∀ (o : Op1) (sc : Scope) (e : Option Expr) (X : Cx) (W : WX) (fk : Str → Bool), chkO T N o sc e = true → Good T g C X W N sc fk → PO X e (tO g X.K C W o)
  | .none, sc, e, X, W, fk, h, G => by
    unfold chkO at h
    split at h
    · exact o_none
    · cases h
  | .some x, sc, e, X, W, fk, h, G => by
    unfold chkO at h
    split at h
    · exact o_some (okE x _ _ _ _ _ h G)
    · cases h
theorem okI : ∀ (it : It) (sc : Scope) (e : Expr) (X : Cx) (W : WX) (fk : Str → Bool), chkI T N it sc e = true → Good T g C X W N sc fk → ∀ {tg : Expr}, PI X tg e (tI g X.K C W it)
  | .seq x, sc, e, X, W, fk, h, G => by
    unfold chkI at h
    exact it_seq (okE x _ _ _ _ _ h G)
  | .rng lo hi, sc, e, X, W, fk, h, G => by
    unfold chkI at h
    split at h
    · simp only [Bool.and_eq_true, decide_eq_true_eq] at h
      obtain ⟨⟨⟨⟨⟨h1, h2⟩, h3⟩, h4⟩, h5⟩, h6⟩ := h
      have e1 := lo0 h1
      subst e1
      subst h2
      exact it_rng1 (G.gl h3) (G.free h4) (okE hi _ _ _ _ _ h5 G) h6
    · simp only [Bool.and_eq_true, decide_eq_true_eq] at h
      obtain ⟨⟨⟨⟨⟨⟨h2, h3⟩, h4⟩, h5⟩, h6⟩, h7⟩, h8⟩ := h
      subst h2
      exact it_rng2 (G.gl h3) (G.free h4) (okE lo _ _ _ _ _ h5 G) (okE hi _ _ _ _ _ h7 G) h6 h8
    · cases h
end
end
end MP

set_option Elab.async false
set_option linter.all false
set_option maxRecDepth 100000
set_option maxHeartbeats 4000000
/-! A term that tells what the text says is worth what the text is: statements. -/
namespace MP
open PySem L2

def notComp : Expr → Bool
  | .ListComp .. => false
  | .SetComp .. => false
  | .DictComp .. => false
  | _ => true
def isTup : Expr → Bool
  | .Tuple .. => true
  | .List .. => true
  | _ => false
/-- a comprehension's value goes straight into a name of the def -/
def lcSwap (sc : Scope) (y : Str) (py : Pos) (scope : Scope) (cp : Pos) : Bool := decide (sc.names.lookup y = some .local) && (py.line == cp.line) && !(scope.names.any fun (n, k) => n == y && (k == .local || k == .cell))
def kindFn (sc : Scope) : Bool := match sc.kind with
  | .function => true
  | _ => false
/-- the names of a tuple's stores that are plain locals of one line -/
def swNames (sc : Scope) (ts : List Expr) : List Str := ts.filterMap fun
    | .Name id pos => if sc.names.lookup id == some .local && pos.line == (ts.head?.map (·.pos.line)).getD 0 then some id else none
    | _ => none
def isStar : Expr → Bool
  | .Starred .. => true
  | _ => false
def swNone (sc : Scope) (ts vs : List Expr) : Bool := (!(ts.length == 2 || ts.length == 3) || vs.length != ts.length) || (!(vs.any isStar) && ((swNames sc ts).length != ts.length || (swNames sc ts).eraseDups.length != (swNames sc ts).length || vs.all (foldedForSure 8)))
def swSome (sc : Scope) (ts vs : List Expr) : Bool := (ts.length == 2 || ts.length == 3) && vs.length == ts.length && !(vs.any isStar) && (swNames sc ts).length == ts.length && (swNames sc ts).eraseDups.length == (swNames sc ts).length && !(vs.all (foldedForSure 8)) && !(vs.all (constantsAlone 8))
theorem blk_fn {env : Env} (hk : env.scope.kind = .function) : env.blockKind = .function := by
  unfold Env.blockKind; rw [hk]; rfl
theorem sw_eq {sc : Scope} {ts vs : List Expr} {env : Env} {k k2 : Nat} {p p2 : Pos} (hsc : env.scope = sc) (hk : sc.kind = .function) : swappedStores [.Tuple ts k p] (.Tuple vs k2 p2) env =
    (if (!(ts.length == 2 || ts.length == 3) || vs.length != ts.length) = true then pure none else if vs.any isStar = true then pure none else
      if ((swNames sc ts).length != ts.length || (swNames sc ts).eraseDups.length != (swNames sc ts).length) = true then pure none else if vs.all (foldedForSure 8) = true then pure none else
      if vs.all (constantsAlone 8) = true then (do unsupported "assign.tuple-of-constant-expressions:order-of-the-stores"; pure (some (swNames sc ts))) else pure (some (swNames sc ts))) := by
  subst hsc
  have hb : env.blockKind = .function := blk_fn hk
  have e1 : (env.blockKind != .function) = false := by rw [hb]; rfl
  unfold swappedStores
  simp only [e1, Bool.or_false]
  have e2 : (vs.any fun | .Starred .. => true | _ => false) = vs.any isStar := rfl
  rfl
theorem sw_none {sc : Scope} {ts vs : List Expr} {env : Env} {k k2 : Nat} {p p2 : Pos} (hsc : env.scope = sc) (hk : sc.kind = .function) (h : swNone sc ts vs = true) : swappedStores [.Tuple ts k p] (.Tuple vs k2 p2) env = pure none := by
  rw [sw_eq hsc hk]
  unfold swNone at h
  rw [Bool.or_eq_true] at h
  rcases h with h | h
  · rw [if_pos h]
  · by_cases h1 : (!(ts.length == 2 || ts.length == 3) || vs.length != ts.length) = true
    · rw [if_pos h1]
    · rw [if_neg h1]
      rw [Bool.and_eq_true, Bool.or_eq_true] at h
      obtain ⟨h2, h⟩ := h
      have h2' : ¬ vs.any isStar = true := by
        intro z; rw [z] at h2; cases h2
      rw [if_neg h2']
      rcases h with h | h
      · rw [if_pos h]
      · by_cases h3 : ((swNames sc ts).length != ts.length || (swNames sc ts).eraseDups.length != (swNames sc ts).length) = true
        · rw [if_pos h3]
        · rw [if_neg h3, if_pos h]
theorem sw_some {sc : Scope} {ts vs : List Expr} {env : Env} {k k2 : Nat} {p p2 : Pos} (hsc : env.scope = sc) (hk : sc.kind = .function) (h : swSome sc ts vs = true) : swappedStores [.Tuple ts k p] (.Tuple vs k2 p2) env = pure (some (swNames sc ts)) := by
  rw [sw_eq hsc hk]
  unfold swSome at h
  simp only [Bool.and_eq_true, Bool.not_eq_true'] at h
  obtain ⟨⟨⟨⟨⟨⟨h1, h2⟩, h3⟩, h4⟩, h5⟩, h6⟩, h7⟩ := h
  have e1 : (!(ts.length == 2 || ts.length == 3) || vs.length != ts.length) = false := by
    rw [h1, bne, h2]; rfl
  have e4 : ((swNames sc ts).length != ts.length || (swNames sc ts).eraseDups.length != (swNames sc ts).length) = false := by
    rw [bne, h4, bne, h5]; rfl
  rw [e1, h3, e4, h6, h7]
  rfl
def nameIs (N : List Str) (sc : Scope) : List Nat → List Expr → Bool
  | [], [] => true
  | i :: is, .Name x _ :: es => decide (N[i]? = some x) && decide (sc.names.lookup x = some .local) && nameIs N sc is es
  | _, _ => false
def asgOk (sc : Scope) : Expr → Expr → Bool
  | .ListComp .., .Name .. => true
  | .Tuple vs _ _, .Tuple ts _ _ => swNone sc ts vs
  | .Tuple .., .Name .. => true
  | .List .., .Name .. => true
  | v, _ => notComp v && !(isTup v)
mutual
def chkS (T : Tab) (N : List Str) (sc : Scope) : Sm → Stmt → Bool
  | .ex x, s => match s with
    | .Expr v _ => chkE T N x sc v && notComp v
    | _ => false
  | .asg t x, s => match s with
    | .Assign [tg] v pos => chkG N sc (fun _ => true) t tg && chkE T N x sc v && asgOk sc v tg
    | _ => false
  | .par is xs, s => match s with
    | .Assign [.Tuple ts _ _] (.Tuple vs _ _) _ => chkA T N xs sc vs && decide (is.length ≤ 1000) && ((swSome sc ts vs && nameIs N sc is ts && decide (is.Nodup) && decide (swNames sc ts = ts.filterMap fun
      | .Name x _ => some x
      | _ => none)) || (swNone sc ts vs && chkG N sc (fun _ => true) (.tup (is.map Tg.name)) (.Tuple ts 0 ⟨0, 0, 0, 0⟩)))
    | _ => false
  | .sub a i x, s => match s with
    | .Assign [.Subscript o ix _] v _ => chkE T N a sc o && chkE T N i sc ix && chkE T N x sc v && notSlice ix
    | _ => false
  | .aug i o x, s => match s with
    | .AugAssign (.Name y _) op v _ => decide (N[i]? = some y) && locB sc (fun _ => true) y && augOk o op && chkE T N x sc v
    | _ => false
  | .ret x, s => match s with
    | .Return (some v) _ => chkE T N x sc v
    | _ => false
  | .ret0, s => match s with
    | .Return none _ => true
    | _ => false
  | .ife t a b, s => match s with
    | .If c x y _ => chkT T N t sc c && chkSs T N sc a x && chkSs T N sc b y
    | _ => false
  | .whl t b, s => match s with
    | .While c x [] _ => chkT T N t sc c && chkSs T N sc b x
    | _ => false
  | .for_ t it b, s => match s with
    | .For tg iter x [] _ => chkG N sc (fun _ => true) t tg && chkI T N it sc iter && notSet iter && chkSs T N sc b x
    | _ => false
  | .brk, s => match s with
    | .Break _ => true
    | _ => false
  | .cnt, s => match s with
    | .Continue _ => true
    | _ => false
  | .pass, s => match s with
    | .Pass _ => true
    | _ => false
def chkSs (T : Tab) (N : List Str) (sc : Scope) : Sms → List Stmt → Bool
  | .nil, s => match s with
    | [] => true
    | _ => false
  | .cons a b, s => match s with
    | x :: r => chkS T N sc a x && chkSs T N sc b r
    | _ => false
  termination_by structural x => x
end
section
variable {T : Tab} {g : G} {C : Ctb} {X : Cx} {W : WX} {N : List Str} {sc : Scope}
structure GoodS (T : Tab) (g : G) (C : Ctb) (X : Cx) (W : WX) (N : List Str) (sc : Scope) : Prop where
  gd : Good T g C X W N sc (fun _ => true)
  po : PassesOwn (model X.prog X.w) X.A X.env X.xe
  kd : sc.kind = .function
theorem swaps_no {e : Expr} {t : Option Expr} {l : Nat} {env : Env} (h : notComp e = true) : swapsWith e t l env = pure false := by
  cases e <;> first | rfl | (simp [notComp] at h; done)
theorem asg1 {e : Expr} {env : Env} (h : notStar e = true) : (assignEach [e] env).map (·.2) = [assign e env] := by
  cases e <;> first | rfl | (simp [notStar] at h; done)
theorem chkG_star {t : Tg} {fk : Str → Bool} {e : Expr} (h : chkG N sc fk t e = true) : notStar e = true := by
  cases t <;> (unfold chkG at h; split at h <;> first | rfl | cases h)
theorem swap_plain {tg v : Expr} {env : Env} (h : isTup v = false ∨ isTup tg = false) : swappedStores [tg] v env = pure none := by
  cases tg <;> cases v <;> first | rfl | (rcases h with h | h <;> (simp [isTup] at h; done))
theorem lcSwap_true {y : Str} {py cp : Pos} {scope : Scope} {elt : Expr} {gs : List Comprehension} {l : Nat} {env : Env} (hsc : env.scope = sc) (hk : sc.kind = .function) (h : lcSwap sc y py scope cp = true) : swapsWith (.ListComp elt gs scope cp) (some (.Name y py)) l env = pure true := by
  unfold lcSwap at h
  simp only [Bool.and_eq_true, Bool.not_eq_true', decide_eq_true_eq] at h
  subst hsc
  exact sw_true hk h.1.1 h.1.2 h.2
theorem lcSwap_false {y : Str} {py cp : Pos} {scope : Scope} {elt : Expr} {gs : List Comprehension} {l : Nat} {env : Env} (hsc : env.scope = sc) (hk : sc.kind = .function) (h : lcSwap sc y py scope cp = false) : swapsWith (.ListComp elt gs scope cp) (some (.Name y py)) l env = pure false := by
  subst hsc
  have hb : env.blockKind = .function := blk_fn hk
  unfold swapsWith
  have e0 : (env.blockKind == ScopeKind.function && env.kindOf y == some NameKind.local && py.line == (Expr.ListComp elt gs scope cp).pos.line && !(scope.names.any fun (n, k) => n == y && (k == .local || k == .cell))) = false := by
    unfold lcSwap at h
    rw [← h, hb]
    have e1 : (env.kindOf y == some NameKind.local) = decide (env.scope.names.lookup y = some NameKind.local) := by
      show (env.scope.names.lookup y == some NameKind.local) = _
      by_cases z : env.scope.names.lookup y = some NameKind.local
      · rw [z]; decide
      · rw [decide_eq_false z]; exact beq_eq_false_iff_ne.mpr z
    rw [e1]
    rfl
  show (do return (env.blockKind == ScopeKind.function && env.kindOf y == some NameKind.local && py.line == (Expr.ListComp elt gs scope cp).pos.line && !(scope.names.any fun (n, k) => n == y && (k == .local || k == .cell))) : Sem Bool) = pure false
  rw [e0]
end
end MP

set_option Elab.async false
set_option linter.all false
set_option maxRecDepth 100000
set_option maxHeartbeats 4000000
/-! A term that tells what the text says is worth what the text is: statements, the proof. -/
namespace MP
open PySem L2

section
variable {T : Tab} {g : G} {C : Ctb} {X : Cx} {W : WX} {N : List Str} {sc : Scope}
theorem solo_no {tg e : Expr} {l : Nat} {env : Env} (h : notComp e = true) : swapsWithSole [tg] e l env = pure false := by
  cases e <;> first | rfl | (simp [notComp] at h; done)
theorem chkG_pos {fk : Str → Bool} {is : List Tg} {ts : List Expr} {k k2 : Nat} {p p2 : Pos} (h : chkG N sc fk (.tup is) (.Tuple ts k2 p2) = true) : chkG N sc fk (.tup is) (.Tuple ts k p) = true := by
  unfold chkG at h ⊢
  exact h
theorem nameIs_cons {i : Nat} {is : List Nat} {e : Expr} {es : List Expr} (h : nameIs N sc (i :: is) (e :: es) = true) : ∃ x p, e = .Name x p ∧ N[i]? = some x ∧ sc.names.lookup x = some .local ∧ nameIs N sc is es = true := by
  unfold nameIs at h
  split at h
  · rename_i e1 e2
    cases e1
  · rename_i e1 e2
    cases e1; cases e2
    simp only [Bool.and_eq_true, decide_eq_true_eq] at h
    exact ⟨_, _, rfl, h.1.1, h.1.2, h.2⟩
  · cases h
theorem nameIs_nil {is : List Nat} (h : nameIs N sc is [] = true) : is = [] := by
  cases is with
  | nil => rfl
  | cons _ _ => simp [nameIs] at h
theorem nameIs_len : ∀ {is : List Nat} {ts : List Expr}, nameIs N sc is ts = true → is.length = ts.length
  | [], [], h => rfl
  | i :: is, e :: es, h => by
    obtain ⟨_, _, _, _, _, h⟩ := nameIs_cons h
    rw [List.length_cons, List.length_cons, nameIs_len h]
  | [], _ :: _, h => by simp [nameIs] at h
  | _ :: _, [], h => by simp [nameIs] at h
theorem GoodS.hsc (G : GoodS T g C X W N sc) {x : Str} (h : sc.names.lookup x = some .local) : X.env.scope.names.lookup x = some .local := by
  rw [G.gd.hsc]; exact h
theorem okPar (G : GoodS T g C X W N sc) {is : List Nat} {xs : Exs} {ts vs : List Expr} {k k2 : Nat} {p p2 pos : Pos} (ha : AA X g C W vs xs) (hl : is.length ≤ 1000)
    (h : ((swSome sc ts vs && nameIs N sc is ts && decide (is.Nodup) && decide (swNames sc ts = ts.filterMap fun
      | .Name x _ => some x
      | _ => none)) || (swNone sc ts vs && chkG N sc (fun _ => true) (.tup (is.map Tg.name)) (.Tuple ts 0 ⟨0, 0, 0, 0⟩))) = true) :
    SS1 X g C W (.Assign [.Tuple ts k p] (.Tuple vs k2 p2) pos) (.par is xs) := by
  rw [Bool.or_eq_true] at h
  have hNd : X.N.Nodup := by rw [G.gd.hN]; exact G.gd.nd
  rcases h with h | h
  · simp only [Bool.and_eq_true, decide_eq_true_eq] at h
    obtain ⟨⟨⟨h1, h2⟩, h3⟩, h4⟩ := h
    have hs := sw_some (k := k) (p := p) (k2 := k2) (p2 := p2) G.gd.hsc G.kd h1
    rw [h4] at hs
    have h5 := h1
    unfold swSome at h5
    simp only [Bool.and_eq_true, Bool.or_eq_true, beq_iff_eq] at h5
    have hlen := h5.1.1.1.1.1.1
    have hlv := h5.1.1.1.1.1.2
    have hli := nameIs_len h2
    match ts, vs, is, hlen with
    | [t1, t2], [v1, v2], [i, j], _ =>
      obtain ⟨x, px, rfl, q1, q2, h2⟩ := nameIs_cons h2
      obtain ⟨y, py, rfl, q3, q4, h2⟩ := nameIs_cons h2
      have hij : i ≠ j := by simpa using h3
      exact s_par2 G.gd.calm hNd (by rw [G.gd.hN]; exact q1) (by rw [G.gd.hN]; exact q3) hij (G.hsc q2) (G.hsc q4) ha hs
    | [t1, t2, t3], [v1, v2, v3], [i, j, l], _ =>
      obtain ⟨x, px, rfl, q1, q2, h2⟩ := nameIs_cons h2
      obtain ⟨y, py, rfl, q3, q4, h2⟩ := nameIs_cons h2
      obtain ⟨z, pz, rfl, q5, q6, h2⟩ := nameIs_cons h2
      have hij : (i ≠ j ∧ i ≠ l) ∧ j ≠ l := by simpa using h3
      exact s_par3 G.gd.calm hNd (by rw [G.gd.hN]; exact q1) (by rw [G.gd.hN]; exact q3) (by rw [G.gd.hN]; exact q5) hij.1.1 hij.1.2 hij.2 (G.hsc q2) (G.hsc q4) (G.hsc q6) ha hs
    | [t1, t2], [], _, _ => simp at hlv
    | [t1, t2], [_], _, _ => simp at hlv
    | [t1, t2], _ :: _ :: _ :: _, _, _ => simp at hlv
    | [t1, t2], [v1, v2], [], _ => simp at hli
    | [t1, t2], [v1, v2], [_], _ => simp at hli
    | [t1, t2], [v1, v2], _ :: _ :: _ :: _, _ => simp at hli
    | [t1, t2, t3], [], _, _ => simp at hlv
    | [t1, t2, t3], [_], _, _ => simp at hlv
    | [t1, t2, t3], [_, _], _, _ => simp at hlv
    | [t1, t2, t3], _ :: _ :: _ :: _ :: _, _, _ => simp at hlv
    | [t1, t2, t3], [v1, v2, v3], [], _ => simp at hli
    | [t1, t2, t3], [v1, v2, v3], [_], _ => simp at hli
    | [t1, t2, t3], [v1, v2, v3], [_, _], _ => simp at hli
    | [t1, t2, t3], [v1, v2, v3], _ :: _ :: _ :: _ :: _, _ => simp at hli
    | [], _, _, h => simp at h
    | [_], _, _, h => simp at h
    | _ :: _ :: _ :: _ :: _, _, _, h => simp at h
  · rw [Bool.and_eq_true] at h
    exact s_parT ha (okG G.gd _ _ (chkG_pos h.2)) (solo_no rfl) (sw_none G.gd.hsc G.kd h.1) (asg1 rfl) hl
theorem okAsgLc (G : GoodS T g C X W N sc) {t : Tg} {x : Ex} {y : Str} {py pos cp : Pos} {elt : Expr} {gs : List Comprehension} {scope : Scope} (hg : chkG N sc (fun _ => true) t (.Name y py) = true) (h : chkE T N x sc (.ListComp elt gs scope cp) = true) :
    SS1 X g C W (.Assign [.Name y py] (.ListComp elt gs scope cp) pos) (.asg t x) := by
  by_cases hl : lcSwap sc y py scope cp = true
  · have h0 := h
    cases x <;> first | (exfalso; unfold chkE at h; cases h; done) | skip
    rename_i ws t2 it c x
    unfold chkE at h
    split at h
    · rename_i elt tg iter ifs scope cp e1
      injection e1 with e1 e2 e3 e4
      subst e1; subst e2; subst e3; subst e4
      simp only [Bool.and_eq_true] at h
      obtain ⟨⟨⟨⟨⟨⟨h1, h2⟩, h3⟩, h4⟩, h5⟩, h6⟩, h7⟩ := h
      have hb : BlkOk X.N X.env.scope scope (own N ws) := by
        rw [G.gd.hN, G.gd.hsc]
        exact blkOk_by h1
      have h5' : (c = .tt ∧ ifs = []) ∨ ∃ q, ifs = [q] ∧ chkT T N c (relS scope sc) q = true := by
        split at h5
        · exact .inl ⟨isTT_ok h5, rfl⟩
        · exact .inr ⟨_, rfl, h5⟩
        · cases h5
      have hyl : sc.names.lookup y = some .local := by
        unfold lcSwap at hl
        simp only [Bool.and_eq_true, Bool.not_eq_true', decide_eq_true_eq] at hl
        exact hl.1.1
      cases t with
      | tup _ => unfold chkG at hg; cases hg
      | name i =>
        unfold chkG at hg
        rw [Bool.and_eq_true] at hg
        have hi := of_decide_eq_true hg.1
        have q := s_setLc (own := own N ws) (t := t2) (c := c) (x := x) (ifs := ifs) (cp := cp) (py := py) (spos := pos) G.gd.calm (by rw [G.gd.hN]; exact G.gd.nd) (by rw [G.gd.hN]; exact hi) (G.hsc hyl) (lcSwap_true G.gd.hsc G.kd hl)
          (okI it _ _ _ _ _ h2 G.gd) hb (fun s H C' cl fp => okG (G.gd.blk (s := s) (H := H) (C' := C') (cl := cl) (fp := fp)) t2 tg h4)
          (fun s H C' cl fp => by
            rcases h5' with ⟨rfl, rfl⟩ | ⟨q, rfl, h5⟩
            · exact ts_tt
            · exact ts_one (okT c _ _ _ _ _ h5 G.gd.blk)) (fun s H C' cl fp => okE x _ _ _ _ _ h6 G.gd.blk) (nset_of h3) (fun i hi => by
            rw [own_fst]
            have := List.all_eq_true.mp h7 i hi
            exact of_decide_eq_true this)
        rw [own_fst] at q
        exact q
    · cases h
  · have hl : lcSwap sc y py scope cp = false := by simpa using hl
    exact s_asg (okE x _ _ _ _ _ h G.gd) (okG G.gd _ _ hg) (lcSwap_false (l := pos.line) G.gd.hsc G.kd hl) (swap_plain (.inr rfl)) (asg1 rfl)
theorem okAsg (G : GoodS T g C X W N sc) {t : Tg} {x : Ex} {tg v : Expr} {pos : Pos} (hg : chkG N sc (fun _ => true) t tg = true) (h : chkE T N x sc v = true)
    (hm : asgOk sc v tg = true) : SS1 X g C W (.Assign [tg] v pos) (.asg t x) := by
  unfold asgOk at hm
  split at hm
  · exact okAsgLc G hg h
  · exact s_asg (okE x _ _ _ _ _ h G.gd) (okG G.gd _ _ hg) (solo_no rfl) (sw_none G.gd.hsc G.kd hm) (asg1 rfl)
  · exact s_asg (okE x _ _ _ _ _ h G.gd) (okG G.gd _ _ hg) (solo_no rfl) (swap_plain (.inr rfl)) (asg1 rfl)
  · exact s_asg (okE x _ _ _ _ _ h G.gd) (okG G.gd _ _ hg) (solo_no rfl) (swap_plain (.inr rfl)) (asg1 rfl)
  · rw [Bool.and_eq_true, Bool.not_eq_true'] at hm
    exact s_asg (okE x _ _ _ _ _ h G.gd) (okG G.gd _ _ hg) (solo_no hm.1) (swap_plain (.inl hm.2)) (asg1 (chkG_star hg))
mutual
theorem okS : ∀ (x : Sm) (st : Stmt), chkS T N sc x st = true → GoodS T g C X W N sc → SS1 X g C W st x
  | .ex x, st, h, G => by
    unfold chkS at h
    split at h
    · rw [Bool.and_eq_true] at h
      exact s_ex (okE x _ _ _ _ _ h.1 G.gd) (swaps_no h.2)
    · cases h
  | .asg t x, st, h, G => by
    unfold chkS at h
    split at h
    · simp only [Bool.and_eq_true] at h
      exact okAsg G h.1.1 h.1.2 h.2
    · cases h
  | .par is xs, st, h, G => by
    unfold chkS at h
    split at h
    · rw [Bool.and_eq_true, Bool.and_eq_true] at h
      exact okPar G (okA xs _ _ _ _ _ h.1.1 G.gd) (of_decide_eq_true h.1.2) h.2
    · cases h
  | .sub a i x, st, h, G => by
    unfold chkS at h
    split at h
    · simp only [Bool.and_eq_true] at h
      obtain ⟨⟨⟨h1, h2⟩, h3⟩, h4⟩ := h
      rename_i o ix sp v ap
      have qo := okE a _ _ _ _ _ h1 G.gd
      have qi := okE i _ _ _ _ _ h2 G.gd
      have qx := okE x _ _ _ _ _ h3 G.gd
      refine s_sub qo qi qx (by cases v <;> rfl) (swap_plain (.inr rfl)) (asg1 rfl) ?_
      clear h2 h1 h3 qx
      cases ix <;> first | exact pg_sub qo qi set_list | (simp [notSlice] at h4; done)
    · cases h
  | .aug i o x, st, h, G => by
    unfold chkS at h
    split at h
    · simp only [Bool.and_eq_true, decide_eq_true_eq] at h
      obtain ⟨⟨⟨h1, h2⟩, h3⟩, h4⟩ := h
      unfold locB at h2
      simp only [Bool.or_eq_true, Bool.and_eq_true, decide_eq_true_eq] at h2
      rcases h2 with h2 | ⟨h2, h5⟩
      · exact s_aug (by rw [G.gd.hN]; exact G.gd.nd) (by rw [G.gd.hN]; exact h1) (.inl (G.hsc h2)) (.inr (G.hsc h2)) (okE x _ _ _ _ _ h4 G.gd) h3
      · exact s_aug (by rw [G.gd.hN]; exact G.gd.nd) (by rw [G.gd.hN]; exact h1) (.inr (by rw [G.gd.hsc]; exact h2)) (.inl (G.gd.fn _ rfl)) (okE x _ _ _ _ _ h4 G.gd) h3
    · cases h
  | .ret x, st, h, G => by
    unfold chkS at h
    split at h
    · exact s_ret (okE x _ _ _ _ _ h G.gd)
    · cases h
  | .ret0, st, h, G => by
    unfold chkS at h
    split at h
    · exact s_ret0
    · cases h
  | .ife t a b, st, h, G => by
    unfold chkS at h
    split at h
    · simp only [Bool.and_eq_true] at h
      exact s_if (okT t _ _ _ _ _ h.1.1 G.gd) (okSs a _ h.1.2 G) (okSs b _ h.2 G)
    · cases h
  | .whl t b, st, h, G => by
    unfold chkS at h
    split at h
    · simp only [Bool.and_eq_true] at h
      exact s_whl G.po (okT t _ _ _ _ _ h.1 G.gd) (okSs b _ h.2 G)
    · cases h
  | .for_ t it b, st, h, G => by
    unfold chkS at h
    split at h
    · simp only [Bool.and_eq_true] at h
      exact s_for G.po G.gd.calm (okI it _ _ _ _ _ h.1.1.2 G.gd) (okG G.gd _ _ h.1.1.1) (okSs b _ h.2 G) (nset_of h.1.2)
    · cases h
  | .brk, st, h, G => by
    unfold chkS at h
    split at h
    · exact s_brk
    · cases h
  | .cnt, st, h, G => by
    unfold chkS at h
    split at h
    · exact s_cnt
    · cases h
  | .pass, st, h, G => by
    unfold chkS at h
    split at h
    · exact s_pass
    · cases h
theorem okSs : ∀ (xs : Sms) (sts : List Stmt), chkSs T N sc xs sts = true → GoodS T g C X W N sc → SSs X g C W sts xs
  | .nil, sts, h, G => by
    unfold chkSs at h
    split at h
    · exact s_nil
    · cases h
  | .cons a b, sts, h, G => by
    unfold chkSs at h
    split at h
    · rw [Bool.and_eq_true] at h
      exact s_cons (okS a _ h.1 G) (okSs b _ h.2 G)
    · cases h
end
end
end MP

set_option Elab.async false
set_option linter.all false
set_option maxRecDepth 100000
set_option maxHeartbeats 4000000
/-! Functions: what is let go behind a call, the whole table by depth. -/
namespace MP
open PySem L2

section
variable {K : PySem.W.Frag} {C : Ctb} {E : EK} {ι ι' : Io} {n n' : Nat} {H H' : Hp} {s s₀ : Sto}
mutual
theorem Rel.clean : ∀ (d : D) (v : V), Rel K ι n H v d → d.clean n = true
  | .non, v, h => rfl
  | .bl b, v, h => rfl
  | .int i, v, h => rfl
  | .str x, v, h => rfl
  | .tup xs, v, h => by
    rw [Rel] at h
    rw [D.clean]
    obtain ⟨a, vs, _, _, h3⟩ := h
    exact Rels.clean xs vs h3
  | .fro xs, v, h => by
    rw [Rel] at h
    rw [D.clean]
    obtain ⟨a, vs, _, _, h3⟩ := h
    exact Rels.clean xs vs h3
  | .lst xs, v, h => by rw [Rel] at h; exact h.elim
  | .ref m, v, h => by
    rw [Rel] at h
    rw [D.clean]
    exact decide_eq_true h.1
  | .exn _ _, v, h => by rw [Rel] at h; exact h.elim
theorem Rels.clean : ∀ (ds : List D) (vs : List V), Rels K ι n H vs ds → D.cleans ds n = true
  | [], vs, h => by rw [D.cleans]
  | d :: ds, vs, h => by
    rw [Rels] at h
    obtain ⟨v, us, _, h2, h3⟩ := h
    rw [D.cleans, Rel.clean d v h2, Rels.clean ds us h3]; rfl
end
mutual
theorem Rel.trim : ∀ (d : D) (v : V), d.clean n' = true → Rel K ι n H v d → Rel K ι n' H v d
  | .non, v, _, h => by rw [Rel] at h ⊢; exact h
  | .bl b, v, _, h => by rw [Rel] at h ⊢; exact h
  | .int i, v, _, h => by rw [Rel] at h ⊢; exact h
  | .str x, v, _, h => by rw [Rel] at h ⊢; exact h
  | .tup xs, v, c, h => by
    rw [Rel] at h ⊢
    rw [D.clean] at c
    obtain ⟨a, vs, h1, h2, h3⟩ := h
    exact ⟨a, vs, h1, h2, Rels.trim xs vs c h3⟩
  | .fro xs, v, c, h => by
    rw [Rel] at h ⊢
    rw [D.clean] at c
    obtain ⟨a, vs, h1, h2, h3⟩ := h
    exact ⟨a, vs, h1, h2, Rels.trim xs vs c h3⟩
  | .lst xs, v, _, h => by rw [Rel] at h; exact h.elim
  | .ref m, v, c, h => by
    rw [Rel] at h ⊢
    rw [D.clean] at c
    exact ⟨of_decide_eq_true c, h.2⟩
  | .exn _ _, v, _, h => by rw [Rel] at h; exact h.elim
theorem Rels.trim : ∀ (ds : List D) (vs : List V), D.cleans ds n' = true → Rels K ι n H vs ds → Rels K ι n' H vs ds
  | [], vs, _, h => by rw [Rels] at h ⊢; exact h
  | d :: ds, vs, c, h => by
    rw [Rels] at h ⊢
    rw [D.cleans, Bool.and_eq_true] at c
    obtain ⟨v, us, h1, h2, h3⟩ := h
    exact ⟨v, us, h1, Rel.trim d v c.1 h2, Rels.trim ds us c.2 h3⟩
end
theorem RelT.trim {d : D} {v : V} (c : d.clean n' = true) (hn : n' ≤ n) (h : RelT K ι n H H' v d) : RelT K ι n' H H' v d := by
  cases d with
  | lst xs =>
    obtain ⟨a, vs, h1, h2, h3, h4, h5⟩ := h
    rw [D.clean] at c
    exact ⟨a, vs, h1, h2, fun m hm => h3 m (Nat.lt_of_lt_of_le hm hn), h4, Rels.trim xs vs c h5⟩
  | _ => exact Rel.trim (n := n) _ _ c h
theorem RelO.clean {a : Addr} {o : O} (h : RelO K ι n H a o) : o.clean n = true := by
  cases o with
  | lst xs =>
    obtain ⟨vs, _, h2⟩ := h
    exact Rels.clean xs vs h2
  | dic _ => exact h.elim
  | ins _ _ => exact h.elim
theorem RelO.trim {a : Addr} {o : O} (c : o.clean n' = true) (h : RelO K ι n H a o) : RelO K ι n' H a o := by
  cases o with
  | lst xs =>
    obtain ⟨vs, h1, h2⟩ := h
    exact ⟨vs, h1, Rels.trim xs vs c h2⟩
  | dic _ => exact h.elim
  | ins _ _ => exact h.elim
theorem SR.trim (S : SR K ι s H) (hn : n ≤ s.length) (h : (s.take n).all (O.clean · n) = true) : SR K ι (s.take n) H := by
  have hl : (s.take n).length = n := by rw [List.length_take]; omega
  refine ⟨fun a b ha hb => S.inj a b (by omega) (by omega), fun m o e => ?_⟩
  rw [hl]
  have hm := lt_of_some e
  have e2 : s[m]? = some o := by
    rw [List.getElem?_take] at e
    split at e
    · exact e
    · cases e
  exact RelO.trim (List.all_eq_true.mp h o (List.mem_of_getElem? e)) (S.obj m o e2)
theorem Ext.trim (x : Ext ι n H ι' n' H') : Ext ι n H ι' n H' :=
  ⟨Nat.le_refl _, x.eq, fun m h1 h2 => absurd h2 (Nat.not_lt.mpr h1), x.keep, x.tup, x.frz, x.back⟩
/-- behind a call what only the call knew is let go -/
theorem leave_ok {Q : VK} {v : V} {d : D} (S0 : SR K ι s₀ H) (x : Ext ι s₀.length H ι' s.length H') (S : SR K ι' s H') (r : RelT K ι' s.length H H' v d) (o : Out K C E ι s₀.length H (leave s₀ d s) (Fin1 K H Q)) : Q v H' := by
  have hn := x.le
  have hl : (s.take s₀.length).length = s₀.length := by rw [List.length_take]; omega
  unfold leave at o
  split at o
  · rename_i hc
    have hall : (s.take s₀.length).all (O.clean · s₀.length) = true := by
      rcases hc with hc | hc
      · rw [hc]
        refine List.all_eq_true.mpr fun o ho => ?_
        obtain ⟨m, hm⟩ := List.mem_iff_getElem?.mp ho
        exact RelO.clean (S0.obj m o hm)
      · exact hc
    have S1 := S.trim hn hall
    have x1 : Ext ι s₀.length H ι' (s.take s₀.length).length H' := by rw [hl]; exact x.trim
    split at o
    · rename_i hv
      exact o ι' H' x1 S1 v (by rw [hl]; exact r.trim hv hn)
    · rename_i hv
      split at o
      · rename_i m
        split at o
        · rename_i xs hx
          split at o
          · rename_i hxs
            obtain ⟨vs, h1, h2⟩ := S.lst hx
            have hm : s₀.length ≤ m := by
              rw [D.clean] at hv
              simpa using hv
            have hms := lt_of_some hx
            have r : Rel K ι' s.length H' v (.ref m) := r
            rw [Rel] at r
            refine o ι' H' x1 S1 v ?_
            rw [hl]
            exact ⟨ι' m, vs, r.2, x.new m hm hms, fun k hk e => by have := S.inj k m (by omega) hms e; omega, h1, Rels.trim xs vs hxs h2⟩
          · exact o ι' H' x S v r
        · exact o ι' H' x S v r
      · exact o ι' H' x S v r
  · exact o ι' H' x S v r
theorem start_ok {N : List Str} {vs : List V} {ds : List D} {sz : Nat} (h : Rels K ι n H vs ds) (hs : N.length = sz) : FrR K ι n H (L2.start N vs) (startF sz ds) := by
  have hl := h.length
  refine ⟨by unfold L2.start startF; simp [hl, hs], fun i d e => ?_⟩
  unfold startF at e
  unfold L2.start
  by_cases hi : i < ds.length
  · rw [List.getElem?_append_left (by simpa using hi), List.getElem?_map] at e
    cases hd : ds[i]? with
    | none => rw [hd] at e; cases e
    | some y =>
      rw [hd] at e
      cases e
      obtain ⟨v, h1, h2⟩ := h.get hd
      exact ⟨v, by rw [List.getElem?_append_left (by simpa [hl] using hi), List.getElem?_map, h1]; rfl, h2⟩
  · rw [List.getElem?_append_right (by simpa using hi)] at e
    rw [List.getElem?_replicate] at e
    split at e <;> cases e
/-- a body's worth, from the function's -/
theorem ofW_ok {Q : VK} {r : Wo} {σ : St} (S0 : SR K ι s H) (o : Out K C E ι s.length H (ofW s r) (Fin1 K H Q)) : OutS K C (fun c d _ H' => E c d H') { nx := fun _ H' => Q .non H', rt := Q } ι s.length H r := by
  cases r with
  | nx fr s1 => exact fun ι' σ' H' x S F => leave_ok S0 x S (d := .non) (.of (by rw [Rel])) o
  | rt d s1 => exact fun ι' v H' x S r => leave_ok S0 x S r o
  | bk fr s1 => exact o.elim
  | ct fr s1 => exact o.elim
  | exc c fs fr s1 => exact fun ι' σ' H' cls d x S F rx => o ι' H' cls d x S rx
  | no => exact o.elim
end
/-- a def as the text has it -/
structure FI where
  x : Str
  qual : Str
  params : Arguments
  body : List Stmt
  scope : Scope
  ps : List Str
  N : List Str
/-- the ways of keywords bind as they say -/
def FI.Kw (T : Tab) (f : Nat) (i : FI) : Prop := ∀ q ∈ T.kws, q.1 = f → ∀ (kV doc pm : Value) (an : Option Addr) (cdv ct : Value) (us ws : List Value), us.length = q.2.1 → ws.length = q.2.2.1.length → bindArgs (PySem.W.fnOf i.x i.qual i.params i.body i.scope .none kV doc pm an cdv ct) ⟨us, q.2.2.1.zip ws⟩ = pure (i.ps.zip (kwPutG us q.2.2.2 ws))
/-- what is seen by looking at the text -/
structure FI.Ok (T : Tab) (fns : List Fn) (f : Nat) (i : FI) : Prop where
  scp : FnScope i.N i.ps i.scope
  tab : T.fns[f]? = some (i.x, i.ps.length)
  fn : ∃ b, fns[f]? = some ⟨i.ps.length, i.N.length, b⟩ ∧ chkSs T i.N i.scope b i.body = true
  bnd : ∀ (kV doc pm : Value) (an : Option Addr) (cdv ct : Value) (us : List Value), us.length = i.ps.length → bindArgs (PySem.W.fnOf i.x i.qual i.params i.body i.scope .none kV doc pm an cdv ct) ⟨us, []⟩ = pure (i.ps.zip us)
  kw : FI.Kw T f i
  db : (i.x == ("__debug__" : Str)) = false
section
variable {P : Program} {w : World} {K : PySem.W.Frag} {mg : Str → Option Value} {base : Heap} {C : Ctb} {T : Tab} {fns : List Fn} {fis : List FI} {fuel : Nat}
/-- where the defs of the text stand -/
structure Stand (K : PySem.W.Frag) (mg : Str → Option Value) (T : Tab) (fns : List Fn) (fis : List FI) : Prop where
  ok : ∀ f i, fis[f]? = some i → FI.Ok T fns f i ∧ ∃ (a : Addr) (fd : FuncData), FunD K i.x i.qual i.params i.body i.scope [] [] a fd ∧ mg i.x = some (.ref a)
  all : T.fns.length = fis.length
  bl : ∀ x ∈ T.blt, mg x = none
theorem gam_ln {k f : Nat} {F : Fn} (h : fns[f]? = some F) (ds : List D) (s : Sto) (q : (gam fns fuel k).call f ds s ≠ .no) : ds.length = F.ar := by
  cases k with
  | zero => exact absurd rfl q
  | succ k =>
    by_cases hl : ds.length = F.ar
    · exact hl
    · refine absurd ?_ q
      show (match fns[f]? with
        | some F => if ds.length = F.ar then ofW s (sxs (gam fns fuel k) F.body (startF F.sz ds) s) else .no
        | none => .no) = _
      rw [h]
      exact if_neg hl
/-- THE RULE: every function does what the small language says, at every depth -/
theorem gam_ok (ST : Stand K mg T fns fis) : ∀ (k f : Nat) (i : FI) (a : Addr) (fd : FuncData), fis[f]? = some i → FunD K i.x i.qual i.params i.body i.scope [] [] a fd → FnOk P w K mg base (L2.CX P w) k a fd i.ps (spI K C (gam fns fuel k) f i.ps.length)
  | 0, f, i, a, fd, hi, F => ⟨fun vs H Q E q => q.1, fun A outer s H args us vs Q E hr e0 hb r q => by
      obtain ⟨_, ι, s, ds, _, _, o⟩ := q
      exact o.elim⟩
  | k + 1, f, i, a, fd, hi, F => by
    obtain ⟨I, _⟩ := ST.ok f i hi
    obtain ⟨b, hf, hchk⟩ := I.fn
    refine F.ok I.scp (fun vs H Q E q => q.1) fun cdv A outer s H vs Q E hr q => ?_
    obtain ⟨hl, ι, st, ds, S, r, o⟩ := q
    have hds : ds.length = i.ps.length := r.length.symm.trans hl
    have o : Out K C E ι st.length H (ofW st (sxs (gam fns fuel k) b (startF i.N.length ds) st)) (Fin1 K H Q) := by
      have e : (gam fns fuel (k + 1)).call f ds st = ofW st (sxs (gam fns fuel k) b (startF i.N.length ds) st) := by
        show (match fns[f]? with
          | some F => if ds.length = F.ar then ofW st (sxs (gam fns fuel k) F.body (startF F.sz ds) st) else .no
          | none => .no) = _
        rw [hf]
        exact if_pos hds
      rw [e] at o
      exact o
    let X := cxOf (L2.CX P w) P w K mg base i.N i.qual i.scope a cdv A outer s H E
    have gd : Good T (gam fns fuel k) C X (fun c d _ H' => E c d H') i.N i.scope (fun _ => true) := by
      refine ⟨rfl, rfl, I.scp.nd, fun _ _ => rfl, rfl, takes_of rfl rfl rfl rfl, ST.bl, fun f2 x ar h2 => ?_, hr.units⟩
      obtain ⟨i2, hi2⟩ : ∃ i2, fis[f2]? = some i2 := ⟨_, List.getElem?_eq_getElem (by have := lt_of_some h2; rw [ST.all] at this; exact this)⟩
      obtain ⟨I2, a2, fd2, F2, hm2⟩ := ST.ok f2 i2 hi2
      have h3 := I2.tab.symm.trans h2
      injection h3 with h3
      injection h3 with h3 h4
      subst h3
      subst h4
      obtain ⟨b2, hf2, _⟩ := I2.fn
      refine ⟨⟨a2, fd2, i2.ps, k, gam_ok ST k f2 i2 a2 fd2 hi2 F2, hr, hm2, F2.kp, F2.bindsN I2.bnd, rfl, fun q hq e s us ws kin l1 l2 => ?_⟩, I2.db, fun ds s q => gam_ln hf2 ds s q⟩
      obtain ⟨oc, od, dV, kV, doc, pm, an, cdv, ct, osl, rfl, lk, hcd, hD, hK⟩ := F2.ex
      rcases hD with ⟨_, rfl⟩ | ⟨e, _⟩
      · exact .of_eq (I2.kw q hq e kV doc pm an cdv ct us ws l1 l2)
      · exact absurd rfl e
    have gs : GoodS T (gam fns fuel k) C X (fun c d _ H' => E c d H') i.N i.scope := ⟨gd, passes_of rfl, I.scp.kind⟩
    exact ⟨_, okSs b i.body hchk gs, ι, st, _, S, start_ok r rfl, ofW_ok (σ := L2.start i.N vs) S o⟩
end
end MP

set_option Elab.async false
set_option linter.all false
set_option maxRecDepth 100000
set_option maxHeartbeats 4000000
/-! The head: where the defs stand behind the top, the law's end. -/
namespace MP
open PySem L2

def FI.dd (i : FI) : He.DefD := ⟨(i.x, none), i.x, i.qual, i.params, i.body, i.scope, [], []⟩
def faOf (T : Tab) (fis : List FI) : List He.Fa := fis.map (fun i => He.Fa.glo i.x) ++ T.blt.map He.Fa.free
/-- a def of the text's top -/
def mkFI (x : Str) (st : Stmt) (ps N : List Str) : FI := ⟨x, x, defArgs st, defBody st, defScope st, ps, N⟩
section
variable {K : PySem.W.Frag} {h : Heap} {mg : Str → Option Value} {T : Tab} {fns : List Fn} {fis : List FI}
theorem stand_of (X : K.In h) (G : h.Ns mainGlobals mg) (c : He.SaysD (faOf T fis) (fis.map FI.dd) K) (ok : ∀ f i, fis[f]? = some i → FI.Ok T fns f i) (all : T.fns.length = fis.length) : Stand K mg T fns fis := by
  refine ⟨fun f i hi => ⟨ok f i hi, ?_⟩, all, fun x hx => ?_⟩
  · obtain ⟨fd, F⟩ := c.def_ f (d := i.dd) (by rw [List.getElem?_map, hi]; rfl)
    refine ⟨_, fd, F, ?_⟩
    have hf : (faOf T fis)[f]? = some (.glo i.x) := by
      unfold faOf
      rw [List.getElem?_append_left (by rw [List.length_map]; exact lt_of_some hi), List.getElem?_map, hi]; rfl
    exact He.glo_ok X G (c.fact f hf)
  · obtain ⟨j, hj⟩ := List.mem_iff_getElem?.mp hx
    have hf : (faOf T fis)[fis.length + j]? = some (.free x) := by
      unfold faOf
      rw [List.getElem?_append_right (by rw [List.length_map]; omega), List.length_map, Nat.add_sub_cancel_left, List.getElem?_map, hj]; rfl
    exact He.free_ok X G (c.fact _ hf)
theorem SqL.fro {H : Hp} {a : Addr} {xs : List V} (hO : Only H) (h : SqL K H a xs) : Fro K H a xs := by
  rcases h with h | h
  · rcases hO a with z | ⟨o, ys, z⟩
    · rcases h with h | ⟨o, h⟩ <;> (rw [z] at h; cases h)
    · rcases h with h | ⟨o, h⟩
      · rw [z] at h; cases h
      · exact .inl ⟨o, h⟩
  · exact .inr h
theorem ints_rel {ι : Io} {n : Nat} {H : Hp} : ∀ ns : List Int, Rels K ι n H (ns.map V.int) (ns.map D.int)
  | [] => Rels.nil
  | i :: ns => Rels.cons (by rw [Rel]) (ints_rel ns)
end
/-- THE END: a law whose worth in the small language is true -/
theorem walk_mp {l : PySem.W.OpenLaw} {n k L : Nat} {q : Program} {loose : List Str} {XP : (Str → Option Value) → Heap → Prop} {d : DefRec} {x : Str} {T : Tab} {fns : List Fn} {fis : List FI} {i : FI} {YP : World → Heap → Prop}
    (hY : ∀ w h, YP w h → ∃ K : PySem.W.Frag, K.In h ∧ He.SaysD (faOf T fis) (fis.map FI.dd) K)
    (hn : l.most = some n) (hn2 : n ≤ sizeLine) (hdf : d.params.defaults = []) (hr : Room k callerA) (ok : ∀ f i, fis[f]? = some i → FI.Ok T fns f i) (all : T.fns.length = fis.length)
    (hL : fis[L]? = some i) (hx : d.name = i.x) (hps : i.ps = [x])
    (hfact : ∀ ns : List Int, ns.length ≤ n → (∀ z ∈ ns, Builtin.Int.intBits z ≤ 1048576) → ∃ fuel s, (gam fns fuel k).call L [.fro (ns.map D.int)] [] = .ok (.bl true) s) :
    PySem.W.WalkO q loose XP YP l.row.toRowW d [] (fun f vs => PySem.call f vs) := by
  refine Att.attach_callB hn hdf fun w s₀ s₁ mg mb fa o pm cd doc a vs ns G Y ho hd hcd hmg hobj hints hlen hbits hg => ?_
  obtain ⟨K, KX, c⟩ := hY w _ Y
  have ST : Stand K mg T fns fis := stand_of KX G.T.g c ok all
  obtain ⟨I, a', fd, F, hm⟩ := ST.ok L i hL
  have e1 := hmg.symm.trans ((congrArg mg hx).trans hm)
  cases e1
  let C : Ctb := ⟨fun _ => 0, fun _ => []⟩
  let sp : Sp := fun vs H Q E => ∃ fuel, spI K C (gam fns fuel k) L i.ps.length vs H Q E
  have hb : ∀ (s : Shared) (u : Value), BindsTo s fd ⟨[u], []⟩ [(x, u)] := fun s u => by
    have b := FunD.bindsA (ps := i.ps) F I.bnd s [u] (by rw [hps]; rfl)
    rw [hps] at b
    exact b
  refine law_call (CX := L2.CX l.prog w) (sp := sp) (k := k) KX G.T.g G.T.b G.T.builtins G.T.nolimit hg hobj hints (Nat.le_trans hlen hn2) hr (fun base KB GB => ?_) hb (fun H hO hS => ?_) fun H e s' hc => ?_
  · have e2 : [x] = i.ps := hps.symm
    rw [e2]
    have G1 : ∀ fuel, FnOk l.prog w K mg base (L2.CX l.prog w) k fa fd i.ps (spI K C (gam fns fuel k) L i.ps.length) := fun fuel => gam_ok ST k L i fa fd hL F
    refine ⟨fun vs H Q E q => ?_, fun A outer s H args us vs Q E hr e0 hb r q => ?_⟩
    · obtain ⟨fuel, q⟩ := q
      exact (G1 fuel).len vs H Q E q
    · obtain ⟨fuel, q⟩ := q
      exact (G1 fuel).run A outer s H args us vs Q E hr e0 hb r q
  · obtain ⟨fuel, s, hf⟩ := hfact ns hlen hbits
    refine ⟨fuel, by rw [hps]; rfl, fun _ => 0, [], [.fro (ns.map D.int)], ⟨fun m n h => absurd h (Nat.not_lt_zero _), fun n o h => by simp at h⟩, Rels.cons ?_ Rels.nil, ?_⟩
    · rw [Rel]
      exact ⟨a, ns.map V.int, rfl, SqL.fro hO hS, ints_rel ns⟩
    · rw [hf]
      intro ι' H' x S v r
      have r : Rel K ι' s.length H' v (.bl true) := r
      rw [Rel] at r
      exact r
  · obtain ⟨_, _, _, _, _, _, _, _, _, _, _, _, z⟩ := hc
    exact z
end MP

set_option Elab.async false
set_option linter.all false
set_option maxRecDepth 100000
set_option maxHeartbeats 4000000
/-! Plain laws: what the small language's worths are, without a program in sight. -/
namespace MP
open PySem

abbrev XP := Nat → List D → Sto → Prop
def nox : XP := fun _ _ _ => False
/-- a worth is as wanted: P of its value, X of its exception -/
def Ok {α : Type} (X : XP) (r : R α) (P : α → Sto → Prop) : Prop := match r with
  | .ok a s => P a s
  | .exc c fs s => X c fs s
  | .no => False
structure EndW where
  nx : Fr → Sto → Prop
  rt : D → Sto → Prop
  bk : Fr → Sto → Prop
  ct : Fr → Sto → Prop
  ex : XP
def OkW (r : Wo) (E : EndW) : Prop := match r with
  | .nx fr s => E.nx fr s
  | .rt d s => E.rt d s
  | .bk fr s => E.bk fr s
  | .ct fr s => E.ct fr s
  | .exc c fs _ s => E.ex c fs s
  | .no => False
section
variable {α β : Type} {X : XP} {E : EndW} {s : Sto}
theorem Ok_ok {a : α} {P : α → Sto → Prop} : Ok X (.ok a s) P = P a s := rfl
theorem Ok_exc {c : Nat} {fs : List D} {P : α → Sto → Prop} : Ok X (.exc c fs s) P = X c fs s := rfl
theorem Ok_bind {r : R α} {f : α → Sto → R β} {P : β → Sto → Prop} : Ok X (r.bind f) P = Ok X r fun a s => Ok X (f a s) P := by
  cases r <;> rfl
theorem Ok_opt {o : Option α} {P : α → Sto → Prop} : Ok X (optR s o) P = ∃ a, o = some a ∧ P a s := by
  cases o with
  | none => simp [optR, Ok]
  | some a => simp [optR, Ok]
theorem Ok_some {a : α} {P : α → Sto → Prop} : Ok X (optR s (some a)) P = P a s := rfl
theorem Ok_ifo {c : Prop} [Decidable c] {o : Option α} {P : α → Sto → Prop} : Ok X (optR s (if c then o else none)) P = (c ∧ Ok X (optR s o) P) := by
  by_cases h : c
  · rw [if_pos h]; simp [h]
  · rw [if_neg h]; simp [h, optR, Ok]
theorem Ok_ifr {c : Prop} [Decidable c] {r : R α} {P : α → Sto → Prop} : Ok X (if c then r else .no) P = (c ∧ Ok X r P) := by
  by_cases h : c
  · rw [if_pos h]; simp [h]
  · rw [if_neg h]; simp [h, Ok]
theorem Ok_settled {r : R D} {P : D → Sto → Prop} : Ok X r.settled P = Ok X r fun d s => P (settle d s).1 (settle d s).2 := by
  cases r <;> rfl
theorem Ok_noexc {r : R α} {P : α → Sto → Prop} : Ok X r.noexc P = Ok nox r P := by
  cases r <;> rfl
theorem Ok_w {r : R α} {fr : Fr} {f : α → Sto → Wo} : OkW (r.w fr f) E = Ok E.ex r fun a s => OkW (f a s) E := by
  cases r <;> rfl
theorem OkW_if {b : Bool} {x y : Wo} : OkW (cond b x y) E = ((b = true → OkW x E) ∧ (b = false → OkW y E)) := by
  cases b <;> simp
theorem Ok_if {b : Bool} {x y : R α} {P : α → Sto → Prop} : Ok X (cond b x y) P = ((b = true → Ok X x P) ∧ (b = false → Ok X y P)) := by
  cases b <;> simp
theorem Ok.mono {r : R α} {P P' : α → Sto → Prop} (h : Ok X r P) (k : ∀ a s, P a s → P' a s) : Ok X r P' := by
  cases r with
  | ok a s => exact k a s h
  | exc c fs s => exact h
  | no => exact h
theorem Ok.imp {X' : XP} {r : R α} {P P' : α → Sto → Prop} (h : Ok X r P) (k : ∀ a s, P a s → P' a s) (kx : ∀ c fs s, X c fs s → X' c fs s) : Ok X' r P' := by
  cases r with
  | ok a s => exact k a s h
  | exc c fs s => exact kx c fs s h
  | no => exact h
theorem Ok.nx {r : R α} {P P' : α → Sto → Prop} (h : Ok nox r P) (k : ∀ a s, P a s → P' a s) : Ok X r P' := h.imp k fun _ _ _ z => z.elim
theorem Ok.get {r : R α} {P : α → Sto → Prop} (h : Ok nox r P) : ∃ a s, r = .ok a s ∧ P a s := by
  cases r with
  | ok a s => exact ⟨a, s, rfl, h⟩
  | exc c fs s => exact h.elim
  | no => exact h.elim
theorem Ok.eq {r : R α} {a : α} (h : Ok nox r fun d s' => d = a ∧ s' = s) : r = .ok a s := by
  obtain ⟨d, s', e, rfl, rfl⟩ := h.get
  exact e
theorem Ok.of {r : R α} {a : α} {s : Sto} {P : α → Sto → Prop} (h : r = .ok a s) (k : P a s) : Ok X r P := by rw [h]; exact k
theorem OkW_seq {g : G} {a : Sm} {b : Sms} {fr : Fr} : OkW (sxs g (.cons a b) fr s) E = OkW (sx g a fr s) { E with nx := fun fr2 s2 => OkW (sxs g b fr2 s2) E } := by
  rw [sxs]
  cases sx g a fr s <;> rfl
/-- one statement, then the others -/
theorem OkW_then {g : G} {a : Sm} {b : Sms} {fr : Fr} (h : ∀ N : Fr → Sto → Prop, (∀ fr s, OkW (sxs g b fr s) E → N fr s) → OkW (sx g a fr s) ⟨N, E.rt, E.bk, E.ct, E.ex⟩) : OkW (sxs g (.cons a b) fr s) E := by
  rw [OkW_seq]
  exact h _ fun _ _ h => h
theorem OkW_nil {g : G} {fr : Fr} : OkW (sxs g .nil fr s) E = E.nx fr s := by rw [sxs]; rfl
theorem OkW_nx {fr : Fr} : OkW (.nx fr s) E = E.nx fr s := rfl
theorem OkW_rt {d : D} : OkW (.rt d s) E = E.rt d s := rfl
theorem OkW_bk {fr : Fr} : OkW (.bk fr s) E = E.bk fr s := rfl
theorem OkW_ct {fr : Fr} : OkW (.ct fr s) E = E.ct fr s := rfl
theorem OkW.imp {E' : EndW} {r : Wo} (h : OkW r E) (h1 : ∀ fr s, E.nx fr s → E'.nx fr s) (h2 : ∀ fr s, E.rt fr s → E'.rt fr s) (h3 : ∀ fr s, E.bk fr s → E'.bk fr s) (h4 : ∀ fr s, E.ct fr s → E'.ct fr s) (h5 : ∀ c fs s, E.ex c fs s → E'.ex c fs s) : OkW r E' := by
  cases r with
  | nx fr s => exact h1 _ _ h
  | rt d s => exact h2 _ _ h
  | bk fr s => exact h3 _ _ h
  | ct fr s => exact h4 _ _ h
  | exc c fs fr s => exact h5 _ _ _ h
  | no => exact h
/-- a function is called -/
theorem Ok_call {T : List Fn} {fuel k f : Nat} {F : Fn} {ds : List D} {P : D → Sto → Prop} (h : T[f]? = some F) (hl : ds.length = F.ar)
    (o : OkW (sxs (gam T fuel k) F.body (startF F.sz ds) s) ⟨fun _ s' => Ok X (leave s .non s') P, fun d s' => Ok X (leave s d s') P, fun _ _ => False, fun _ _ => False, X⟩) : Ok X ((gam T fuel (k + 1)).call f ds s) P := by
  show Ok X (match T[f]? with
    | some F => if ds.length = F.ar then ofW s (sxs (gam T fuel k) F.body (startF F.sz ds) s) else .no
    | none => .no) P
  rw [h]
  show Ok X (if ds.length = F.ar then ofW s (sxs (gam T fuel k) F.body (startF F.sz ds) s) else .no) P
  rw [if_pos hl]
  revert o
  cases sxs (gam T fuel k) F.body (startF F.sz ds) s <;> exact fun o => o
theorem gam_fuel {T : List Fn} {fuel k : Nat} : (gam T fuel k).fuel = fuel := by cases k <;> rfl
/-- loops -/
theorem OkW_for {gd : Option (Nat × List D)} {b : D → Fr → Sto → Wo} (I : Nat → Fr → Sto → Prop) : ∀ (xs : List D) (i : Nat) {fr : Fr} {s : Sto}, I i fr s → (∀ j fr s, i ≤ j → j ≤ i + xs.length → I j fr s → gok gd s = true) →
    (∀ j x fr s, xs[j]? = some x → I (i + j) fr s → OkW (b x fr s) { E with nx := I (i + j + 1), ct := I (i + j + 1), bk := E.nx }) → (∀ fr s, I (i + xs.length) fr s → E.nx fr s) → OkW (forL gd b xs fr s) E
  | [], i, fr, s, h, hg, hb, he => by
    rw [forL, if_pos (hg i fr s (Nat.le_refl _) (Nat.le_add_right _ _) h)]
    exact he fr s h
  | x :: xs, i, fr, s, h, hg, hb, he => by
    rw [forL, if_pos (hg i fr s (Nat.le_refl _) (Nat.le_add_right _ _) h)]
    have h0 := hb 0 x fr s rfl h
    have rc : ∀ fr s, I (i + 1) fr s → OkW (forL gd b xs fr s) E := fun fr s h => OkW_for I xs (i + 1) h (fun j fr s h1 h2 => hg j fr s (by omega) (by rw [List.length_cons]; omega))
      (fun j y fr s hj hi => by
        have e : i + 1 + j = i + (j + 1) := by omega
        rw [e] at hi ⊢
        exact hb (j + 1) y fr s (by simpa using hj) hi) (fun fr s h => he fr s (by
        have e : i + (x :: xs).length = i + 1 + xs.length := by rw [List.length_cons]; omega
        rw [e]; exact h))
    revert h0
    cases b x fr s with
    | nx fr s => exact fun h => rc fr s h
    | ct fr s => exact fun h => rc fr s h
    | bk fr s => exact fun h => h
    | rt d s => exact fun h => h
    | exc c fs fr s => exact fun h => h
    | no => exact fun h => h
/-- while, by a measure -/
theorem OkW_whl {c : Fr → Sto → R Bool} {b : Fr → Sto → Wo} (I : Nat → Fr → Sto → Prop) (hb : ∀ m fr s, I m fr s → Ok E.ex (c fr s) fun t s1 => match t with
      | false => E.nx fr s1
      | true => OkW (b fr s1) { E with nx := fun fr s => ∃ m', m' < m ∧ I m' fr s, ct := fun fr s => ∃ m', m' < m ∧ I m' fr s, bk := E.nx }) : ∀ (n m : Nat) {fr : Fr} {s : Sto}, m < n → I m fr s → OkW (whlL c b n fr s) E
  | 0, m, fr, s, hn, h => absurd hn (Nat.not_lt_zero _)
  | n + 1, m, fr, s, hn, h => by
    rw [whlL, Ok_w]
    refine (hb m fr s h).mono fun t s1 h1 => ?_
    cases t with
    | false => exact h1
    | true =>
      have h1 : OkW (b fr s1) _ := h1
      revert h1
      show _ → OkW (match b fr s1 with
        | .nx fr2 s2 => whlL c b n fr2 s2
        | .ct fr2 s2 => whlL c b n fr2 s2
        | .bk fr2 s2 => .nx fr2 s2
        | r => r) E
      cases b fr s1 with
      | nx fr s => exact fun ⟨m', hm, hi⟩ => OkW_whl I hb n m' (by omega) hi
      | ct fr s => exact fun ⟨m', hm, hi⟩ => OkW_whl I hb n m' (by omega) hi
      | bk fr s => exact fun h => h
      | rt d s => exact fun h => h
      | exc c fs fr s => exact fun h => h
      | no => exact fun h => h
/-- comprehensions -/
theorem Ok_comp {gd : Option (Nat × List D)} {f : D → Sto → R (Option D)} {P : List D → Sto → Prop} (I : Nat → List D → Sto → Prop) : ∀ (xs : List D) (i : Nat) (ys : List D) {s : Sto}, I i ys s → (∀ j ys s, I j ys s → gok gd s = true) →
    (∀ j x ys s, xs[j]? = some x → I (i + j) ys s → Ok X (f x s) fun o s1 => I (i + j + 1) (ys ++ consO o []) s1) → (∀ zs s, I (i + xs.length) (ys ++ zs) s → P zs s) → Ok X (compL gd f xs s) P
  | [], i, ys, s, h, hg, hb, he => by
    rw [compL, if_pos (hg i ys s h)]
    exact he [] s (by rw [List.append_nil]; exact h)
  | x :: xs, i, ys, s, h, hg, hb, he => by
    rw [compL, if_pos (hg i ys s h), Ok_bind]
    refine (hb 0 x ys s rfl h).mono fun o s1 h1 => ?_
    rw [Ok_bind]
    refine Ok_comp I xs (i + 1) (ys ++ consO o []) h1 hg (fun j y zs s hj hi => ?_) (fun zs s hz => ?_)
    · have e : i + 1 + j = i + (j + 1) := by omega
      rw [e] at hi ⊢
      exact hb (j + 1) y zs s (by simpa using hj) hi
    · refine he (consO o zs) s ?_
      have e : i + (x :: xs).length = i + 1 + xs.length := by rw [List.length_cons]; omega
      rw [e]
      have e2 : ys ++ consO o zs = ys ++ consO o [] ++ zs := by cases o <;> simp [consO]
      rw [e2]
      exact hz
end
/-! ### behind a call -/
theorem leave_same {s₀ t : Sto} {v : D} (h : v.clean s₀.length = true) : leave s₀ v (s₀ ++ t) = .ok v s₀ := by
  unfold leave
  have e : (s₀ ++ t).take s₀.length = s₀ := by simp
  rw [e, if_pos (.inl rfl), if_pos h]
theorem leave_id {s₀ : Sto} {v : D} (h : v.clean s₀.length = true) : leave s₀ v s₀ = .ok v s₀ := by
  have := leave_same (s₀ := s₀) (t := []) h
  rwa [List.append_nil] at this
theorem leave_mod {s₀ s₁ t : Sto} {v : D} (hl : s₁.length = s₀.length) (hc : s₁.all (O.clean · s₀.length) = true) (h : v.clean s₀.length = true) : leave s₀ v (s₁ ++ t) = .ok v s₁ := by
  unfold leave
  have e : (s₁ ++ t).take s₀.length = s₁ := by rw [← hl]; simp
  rw [e, if_pos (.inr hc), if_pos h]
theorem leave_mod0 {s₀ s₁ : Sto} {v : D} (hl : s₁.length = s₀.length) (hc : s₁.all (O.clean · s₀.length) = true) (h : v.clean s₀.length = true) : leave s₀ v s₁ = .ok v s₁ := by
  have := leave_mod (s₀ := s₀) (t := []) hl hc h
  rwa [List.append_nil] at this
/-- a list of the call's own is given back -/
theorem leave_lst {s₀ t : Sto} {n : Nat} {xs : List D} (hn : s₀.length ≤ n) (hx : (s₀ ++ t)[n]? = some (.lst xs)) (h : D.cleans xs s₀.length = true) : leave s₀ (.ref n) (s₀ ++ t) = .ok (.lst xs) s₀ := by
  unfold leave
  have e : (s₀ ++ t).take s₀.length = s₀ := by simp
  have e2 : ¬ (D.ref n).clean s₀.length = true := by rw [D.clean]; simpa using hn
  rw [e, if_pos (.inl rfl), if_neg e2]
  simp only [hx, h, if_true]
mutual
/-- no references at all -/
def D.pure : D → Bool
  | .tup xs => D.pures xs
  | .fro xs => D.pures xs
  | .lst xs => D.pures xs
  | .ref _ => false
  | .exn _ xs => D.pures xs
  | _ => true
def D.pures : List D → Bool
  | [] => true
  | x :: xs => D.pure x && D.pures xs
end
mutual
theorem D.pure_clean : ∀ (d : D) (n : Nat), d.pure = true → d.clean n = true
  | .non, _, _ => rfl
  | .bl _, _, _ => rfl
  | .int _, _, _ => rfl
  | .str _, _, _ => rfl
  | .tup xs, n, h => by rw [D.pure] at h; rw [D.clean]; exact D.pures_clean xs n h
  | .fro xs, n, h => by rw [D.pure] at h; rw [D.clean]; exact D.pures_clean xs n h
  | .lst xs, n, h => by rw [D.pure] at h; rw [D.clean]; exact D.pures_clean xs n h
  | .ref _, _, h => by rw [D.pure] at h; cases h
  | .exn _ xs, n, h => by rw [D.pure] at h; rw [D.clean]; exact D.pures_clean xs n h
theorem D.pures_clean : ∀ (ds : List D) (n : Nat), D.pures ds = true → D.cleans ds n = true
  | [], n, h => rfl
  | x :: xs, n, h => by
    rw [D.pures, Bool.and_eq_true] at h
    rw [D.cleans, D.pure_clean x n h.1, D.pures_clean xs n h.2]; rfl
end
theorem pures_ints : ∀ ns : List Int, D.pures (ns.map D.int) = true
  | [] => rfl
  | i :: ns => by rw [List.map_cons, D.pures, D.pure, pures_ints ns] <;> first | rfl | (intros; contradiction)
theorem pures_iff : ∀ xs : List D, D.pures xs = true ↔ ∀ x ∈ xs, x.pure = true
  | [] => by simp [D.pures]
  | x :: xs => by rw [D.pures, Bool.and_eq_true, pures_iff xs]; simp
/-! ### single worths -/
theorem eqD_int (s : Sto) (a b : Int) : eqD s (.int a) (.int b) = some (decide (a = b)) := by
  simp [eqD, pyOf, D.py, SeqAt.shaped, PyData.canLay0, PyData.eqv, PyData.depth]
  rfl
theorem mulI (s : Sto) (a b : Int) : mulD s (.int a) (.int b) = if mulOk a b = true then some (.int (a * b)) else none := rfl
theorem fdivP {i j : Int} (h : 0 < j ∧ LogOk j) : fdivI i j = some (i / j) := if_pos h
theorem modP {i j : Int} (h : 0 < j) : modI i j = some (i % j) := if_pos h
theorem intsF (s : Sto) (a b : Int) : (bop .fdiv s (.int a) (.int b)) = (fdivI a b).map .int := rfl
theorem intsM (s : Sto) (a b : Int) : (bop .mod s (.int a) (.int b)) = (modI a b).map .int := rfl
/-! ### by constructors: what simp steps through -/
/-- the items of a list of the store -/
def lstAt (s : Sto) (n : Nat) : Option (List D) := match s[n]? with
  | some (.lst xs) => some xs
  | _ => none
theorem lstAt_0 {xs : List D} {s : Sto} : lstAt (.lst xs :: s) 0 = some xs := rfl
theorem lstAt_s {o : O} {s : Sto} {n : Nat} : lstAt (o :: s) (n + 1) = lstAt s n := by
  unfold lstAt; rw [List.getElem?_cons_succ]
theorem lstAt_1 {o : O} {s : Sto} : lstAt (o :: s) 1 = lstAt s 0 := lstAt_s
theorem lstAt_2 {o : O} {s : Sto} : lstAt (o :: s) 2 = lstAt s 1 := lstAt_s
theorem lstAt_3 {o : O} {s : Sto} : lstAt (o :: s) 3 = lstAt s 2 := lstAt_s
theorem lstAt_app {s t : Sto} : lstAt (s ++ t) s.length = lstAt t 0 := by
  unfold lstAt; rw [List.getElem?_append_right (Nat.le_refl _), Nat.sub_self]
theorem lstAt_appS {s t : Sto} {n : Nat} : lstAt (s ++ t) (s.length + n) = lstAt t n := by
  unfold lstAt; rw [List.getElem?_append_right (Nat.le_add_right _ _), Nat.add_sub_cancel_left]
theorem set_app {s t : Sto} {o : O} : (s ++ t).set s.length o = s ++ t.set 0 o := by
  rw [List.set_append_right _ _ (Nat.le_refl _), Nat.sub_self]
theorem set_appS {s t : Sto} {o : O} {n : Nat} : (s ++ t).set (s.length + n) o = s ++ t.set n o := by
  rw [List.set_append_right _ _ (Nat.le_add_right _ _), Nat.add_sub_cancel_left]
section
variable {s : Sto} {xs ys : List D} {n : Nat} {i j : Int} {b : Bool} {x y : Str}
theorem getO : (match s[n]? with
    | some (.lst xs) => some xs
    | _ => none) = lstAt s n := rfl
theorem seqOf_tup : seqOf s (.tup xs) = some xs := rfl
theorem seqOf_fro : seqOf s (.fro xs) = some xs := rfl
theorem seqOf_lst : seqOf s (.lst xs) = some xs := rfl
theorem seqOf_ref : seqOf s (.ref n) = lstAt s n := rfl
theorem seqOf_int : seqOf s (.int i) = none := rfl
theorem lstOf_fro : lstOf s (.fro xs) = some xs := rfl
theorem lstOf_lst : lstOf s (.lst xs) = some xs := rfl
theorem lstOf_ref : lstOf s (.ref n) = lstAt s n := rfl
theorem lstOf_tup : lstOf s (.tup xs) = none := rfl
theorem wOf_lst : wOf s (.lst xs) = some xs := rfl
theorem wOf_ref : wOf s (.ref n) = lstAt s n := rfl
theorem itOf_tup : itOf s (.tup xs) = some (none, xs) := rfl
theorem itOf_fro : itOf s (.fro xs) = some (none, xs) := rfl
theorem itOf_lst : itOf s (.lst xs) = some (none, xs) := rfl
theorem itOf_ref : itOf s (.ref n) = (lstAt s n).map fun xs => (some (n, xs), xs) := by
  simp only [itOf, lstAt]
  generalize s[n]? = o
  rcases o with _ | o
  · rfl
  · cases o <;> rfl
theorem lenD_tup : lenD s (.tup xs) = some (.int xs.length) := rfl
theorem lenD_fro : lenD s (.fro xs) = some (.int xs.length) := rfl
theorem lenD_lst : lenD s (.lst xs) = some (.int xs.length) := rfl
theorem lenD_ref : lenD s (.ref n) = (lstAt s n).map fun xs => .int xs.length := rfl
theorem ix_tup : ix s (.tup xs) (.int i) = L2.atI xs i := rfl
theorem ix_fro : ix s (.fro xs) (.int i) = L2.atI xs i := rfl
theorem ix_lst : ix s (.lst xs) (.int i) = L2.atI xs i := rfl
theorem ix_ref : ix s (.ref n) (.int i) = (lstAt s n).bind fun xs => L2.atI xs i := rfl
theorem slc_tup {lo hi : Option Int} : slc s (.tup xs) lo hi = some (.tup (cut xs lo hi)) := rfl
theorem slc_fro {lo hi : Option Int} : slc s (.fro xs) lo hi = some (.lst (cut xs lo hi)) := rfl
theorem slc_lst {lo hi : Option Int} : slc s (.lst xs) lo hi = some (.lst (cut xs lo hi)) := rfl
theorem slc_ref {lo hi : Option Int} : slc s (.ref n) lo hi = (lstAt s n).map fun xs => .lst (cut xs lo hi) := rfl
theorem settle_non : settle .non s = (.non, s) := rfl
theorem settle_bl : settle (.bl b) s = (.bl b, s) := rfl
theorem settle_int : settle (.int i) s = (.int i, s) := rfl
theorem settle_str : settle (.str x) s = (.str x, s) := rfl
theorem settle_tup : settle (.tup xs) s = (.tup xs, s) := rfl
theorem settle_fro : settle (.fro xs) s = (.fro xs, s) := rfl
theorem settle_ref : settle (.ref n) s = (.ref n, s) := rfl
theorem settle_lst : settle (.lst xs) s = (.ref s.length, s ++ [.lst xs]) := rfl
theorem addD_int : addD s (.int i) (.int j) = some (.int (i + j)) := rfl
theorem addD_tup : addD s (.tup xs) (.tup ys) = if Short (xs.length + ys.length) then some (.tup (xs ++ ys)) else none := rfl
theorem addD_lst : addD s (.lst xs) (.lst ys) = if Short (xs.length + ys.length) then some (.lst (xs ++ ys)) else none := rfl
theorem addD_rl : addD s (.ref n) (.lst ys) = (lstAt s n).bind fun xs => if Short (xs.length + ys.length) then some (D.lst (xs ++ ys)) else none := by
  show (match wOf s (.ref n), wOf s (.lst ys) with
    | some xs, some ys => if Short (xs.length + ys.length) then some (D.lst (xs ++ ys)) else none
    | _, _ => none) = _
  rw [show wOf s (.ref n) = lstAt s n from rfl, show wOf s (.lst ys) = some ys from rfl]
  cases lstAt s n <;> rfl
theorem cop_is {a : Bool} : cop .is s (.bl b) (.bl a) = some (decide (b = a)) := rfl
theorem bt_str : bt1 s .str (.int i) = if i.natAbs.log2 < 1920 then some (.str (toString i)) else none := rfl
theorem addD_str : addD s (.str x) (.str y) = if Short (x.length + y.length) then some (.str (x ++ y)) else none := rfl
theorem mulD_int : mulD s (.int i) (.int j) = if mulOk i j = true then some (.int (i * j)) else none := rfl
theorem bop_add {d e : D} : bop .add s d e = addD s d e := rfl
theorem bop_mul {d e : D} : bop .mul s d e = mulD s d e := rfl
theorem bop_sub : bop .sub s (.int i) (.int j) = some (.int (i - j)) := rfl
theorem bop_fdiv : bop .fdiv s (.int i) (.int j) = (fdivI i j).map .int := rfl
theorem bop_mod : bop .mod s (.int i) (.int j) = (modI i j).map .int := rfl
theorem bop_pow : bop .pow s (.int i) (.int j) = (powI i j).map .int := rfl
theorem bop_shl : bop .shl s (.int i) (.int j) = (shlI i j).map .int := rfl
theorem cop_lt : cop .lt s (.int i) (.int j) = some (decide (i < j)) := rfl
theorem cop_le : cop .le s (.int i) (.int j) = some (decide (i ≤ j)) := rfl
theorem cop_gt : cop .gt s (.int i) (.int j) = some (decide (j < i)) := rfl
theorem cop_ge : cop .ge s (.int i) (.int j) = some (decide (j ≤ i)) := rfl
theorem cop_eq : cop .eq s (.int i) (.int j) = some (decide (i = j)) := eqD_int s i j
theorem cop_ne : cop .ne s (.int i) (.int j) = some (!decide (i = j)) := by
  simp only [cop, eqD_int, Option.map_some]
theorem tru_bl : tru s (.bl b) = some b := rfl
theorem tru_int : tru s (.int i) = some (i != 0) := rfl
theorem tru_non : tru s .non = some false := rfl
theorem tru_tup : tru s (.tup xs) = some (!xs.isEmpty) := rfl
theorem isTy_int {t : Ty} : isTy s (.int i) t = some (decide (t = .int)) := rfl
theorem isTy_bl {t : Ty} : isTy s (.bl b) t = some (decide (t = .int ∨ t = .bool)) := rfl
theorem isTy_non {t : Ty} : isTy s .non t = some false := rfl
theorem isTy_str {t : Ty} : isTy s (.str x) t = some (decide (t = .str)) := rfl
theorem isTy_tup {t : Ty} : isTy s (.tup xs) t = some (decide (t = .tuple)) := rfl
theorem isTy_lst {t : Ty} : isTy s (.lst xs) t = some (decide (t = .list)) := rfl
theorem isTy_ref {t : Ty} : isTy s (.ref n) t = (lstAt s n).map fun _ => decide (t = .list) := by
  simp only [isTy, lstAt]
  generalize s[n]? = o
  rcases o with _ | o
  · rfl
  · cases o <;> rfl
theorem bt_len {d : D} : bt1 s .len d = lenD s d := rfl
theorem bt_abs : bt1 s .abs (.int i) = some (.int (if i < 0 then -i else i)) := rfl
theorem bt_int : bt1 s .int (.int i) = some (.int i) := rfl
theorem bt_intb : bt1 s .int (.bl b) = some (.int (if b then 1 else 0)) := rfl
theorem bt_tup : bt1 s .tuple (.tup xs) = some (.tup xs) := rfl
theorem bt_tupl : bt1 s .tuple (.lst xs) = some (.tup xs) := rfl
theorem bt_tupr : bt1 s .tuple (.ref n) = (lstAt s n).map .tup := rfl
theorem bt_list {d : D} : bt1 s .list d = (seqOf s d).map .lst := rfl
theorem bt_sum {d : D} : bt1 s .sum d = ((lstOf s d).bind intsD).map fun ns => .int ns.sum := rfl
theorem bt_min {d : D} : bt1 s .min d = ((lstOf s d).bind intsD).bind minD := rfl
theorem bt_max {d : D} : bt1 s .max d = ((lstOf s d).bind intsD).bind maxD := rfl
theorem bt_min2 : bt2 .min (.int i) (.int j) = some (.int (if j < i then j else i)) := rfl
theorem bt_max2 : bt2 .max (.int i) (.int j) = some (.int (if j > i then j else i)) := rfl
theorem recv_ref : recv s (.ref n) = (lstAt s n).isSome := by
  simp only [recv, lstAt]
  generalize s[n]? = o
  rcases o with _ | o
  · rfl
  · cases o <;> rfl
theorem putAt_ref {v : D} : putAt (.ref n) (.int i) v s = match lstAt s n with
    | some xs => (match L2.ixN xs.length i with
      | some k => .ok () (s.set n (.lst (xs.set k v)))
      | none => .no)
    | none => .no := by
  simp only [putAt, lstAt]
  generalize s[n]? = o
  rcases o with _ | o
  · rfl
  · cases o <;> rfl
theorem meth_append {v : D} : meth .append (.ref n) [v] s = match lstAt s n with
    | some xs => if Short (xs.length + 1) then .ok .non (s.set n (.lst (xs ++ [v]))) else .no
    | none => .no := by
  simp only [meth, appendD, lstAt]
  generalize s[n]? = o
  rcases o with _ | o
  · rfl
  · cases o <;> rfl
theorem meth_pop : meth .pop (.ref n) [] s = match lstAt s n with
    | some xs => (match xs[xs.length - 1]? with
      | some y => .ok y (s.set n (.lst xs.dropLast))
      | none => .no)
    | none => .no := by
  simp only [meth, popD, lstAt]
  generalize s[n]? = o
  rcases o with _ | o
  · rfl
  · cases o <;> rfl
end
theorem atI_0 {α : Type} {a : α} {l : List α} : L2.atI (a :: l) 0 = some a := by
  have h : (0 : Int) < ((a :: l).length : Int) := by rw [List.length_cons]; omega
  simp only [L2.atI, L2.ixN, if_pos (Int.le_refl 0), if_pos h]; rfl
theorem atI_1 {α : Type} {a b : α} {l : List α} : L2.atI (a :: b :: l) 1 = some b := by
  have h0 : (0 : Int) ≤ 1 := by decide
  have h : (1 : Int) < ((a :: b :: l).length : Int) := by rw [List.length_cons, List.length_cons]; omega
  simp only [L2.atI, L2.ixN, if_pos h0, if_pos h]; rfl
theorem atI_2 {α : Type} {a b c : α} {l : List α} : L2.atI (a :: b :: c :: l) 2 = some c := by
  have h0 : (0 : Int) ≤ 2 := by decide
  have h : (2 : Int) < ((a :: b :: c :: l).length : Int) := by simp only [List.length_cons]; omega
  simp only [L2.atI, L2.ixN, if_pos h0, if_pos h]; rfl
theorem atI_3 {α : Type} {a b c d : α} {l : List α} : L2.atI (a :: b :: c :: d :: l) 3 = some d := by
  have h0 : (0 : Int) ≤ 3 := by decide
  have h : (3 : Int) < ((a :: b :: c :: d :: l).length : Int) := by simp only [List.length_cons]; omega
  simp only [L2.atI, L2.ixN, if_pos h0, if_pos h]; rfl
theorem atI_nat {xs : List D} {i : Nat} (h : i < xs.length) : L2.atI xs (i : Int) = xs[i]? := by
  have h1 : (0 : Int) ≤ (i : Int) := by omega
  have h2 : (i : Int) < (xs.length : Int) := by omega
  simp only [L2.atI, L2.ixN, if_pos h1, if_pos h2, Option.bind_some, Int.toNat_natCast]
theorem ixN_nat {n i : Nat} (h : i < n) : L2.ixN n (i : Int) = some i := by
  have h1 : (0 : Int) ≤ (i : Int) := by omega
  have h2 : (i : Int) < (n : Int) := by omega
  simp only [L2.ixN, if_pos h1, if_pos h2, Int.toNat_natCast]
theorem ixN_0 {n : Nat} : L2.ixN (n + 1) 0 = some 0 := ixN_nat (i := 0) (by omega)
theorem ixN_1 {n : Nat} : L2.ixN (n + 2) 1 = some 1 := ixN_nat (i := 1) (by omega)
theorem ixN_2 {n : Nat} : L2.ixN (n + 3) 2 = some 2 := ixN_nat (i := 2) (by omega)
theorem ixN_3 {n : Nat} : L2.ixN (n + 4) 3 = some 3 := ixN_nat (i := 3) (by omega)
/-! ### sizes -/
def B (n : Nat) : Nat := 2 ^ n
theorem B_pos (n : Nat) : 0 < B n := Nat.pow_pos (by decide)
theorem B_le {n m : Nat} (h : n ≤ m) : B n ≤ B m := Nat.pow_le_pow_right (by decide) h
theorem B_lt {n m : Nat} (h : n < m) : B n < B m := Nat.pow_lt_pow_right (by decide) h
theorem B_mul {a b n m : Nat} (ha : a < B n) (hb : b < B m) : a * b < B (n + m) := by
  unfold B
  rw [Nat.pow_add]
  exact Nat.mul_lt_mul'' ha hb
theorem B_dbl (n : Nat) : B (n + 1) = B n + B n := by
  unfold B
  rw [Nat.pow_succ]; omega
theorem B_add {a b n : Nat} (ha : a < B n) (hb : b < B n) : a + b < B (n + 1) := by rw [B_dbl]; omega
theorem B_up {a n m : Nat} (ha : a < B n) (h : n ≤ m) : a < B m := Nat.lt_of_lt_of_le ha (B_le h)
theorem log2_B {a n : Nat} (ha : a < B n) (hn : 0 < n) : a.log2 < n := by
  by_cases h : a = 0
  · subst h; simpa using hn
  · exact (Nat.log2_lt h).mpr ha
theorem mulOk_B {i j : Int} {n m : Nat} (hi : i.natAbs < B n) (hj : j.natAbs < B m) (h : n + m ≤ 900000) : mulOk i j = true := by
  have h1 := log2_B (B_up hi (Nat.le_succ n)) (Nat.succ_pos n)
  have h2 := log2_B (B_up hj (Nat.le_succ m)) (Nat.succ_pos m)
  unfold mulOk
  rw [decide_eq_true (show i.natAbs.log2 + j.natAbs.log2 < 1000000 by omega)]
  simp
theorem mulI_B {i j : Int} {n m : Nat} (hi : i.natAbs < B n) (hj : j.natAbs < B m) : (i * j).natAbs < B (n + m) := by
  rw [Int.natAbs_mul]; exact B_mul hi hj
theorem addI_B {i j : Int} {n : Nat} (hi : i.natAbs < B n) (hj : j.natAbs < B n) : (i + j).natAbs < B (n + 1) := by
  have := B_add hi hj
  have := Int.natAbs_add_le i j
  omega
theorem fdiv_B {j : Int} {n : Nat} (h0 : 0 < j) (h : j.natAbs < B n) (hn : n ≤ 8000) : 0 < j ∧ LogOk j := by
  have := log2_B (B_up h (Nat.le_succ n)) (Nat.succ_pos n)
  exact ⟨h0, by unfold LogOk; omega⟩
theorem small_r {i j : Int} (h : small j = true) : mulOk i j = true := by
  unfold mulOk; rw [h]; simp
theorem small_l {i j : Int} (h : small i = true) : mulOk i j = true := by
  unfold mulOk; rw [h]; simp
theorem fdivN {i j : Int} (h0 : j < 0) (h : LogOk j) : fdivI i j = some (i.fdiv j) := by
  unfold fdivI
  rw [if_neg (by omega), if_pos ⟨h0, h⟩]
theorem abs_nat (a : Int) : (if a < 0 then -a else a) = (a.natAbs : Int) := by
  split <;> omega
end MP

set_option Elab.async false
set_option linter.all false
set_option maxRecDepth 100000
set_option maxHeartbeats 4000000
namespace K08
open PySem PySem.Spec PyProof.Rows L2 MP
def top (i : Nat) : Stmt := PySem.Challenge.pw_everbounded_k08_fractions.main.body.getD i (.Pass ⟨0, 0, 0, 0⟩)
def b_is_integer : Sms :=
  (.cons (.ret (.and (.isin (.var 0) .int) (.not (.e (.isin (.var 0) .bool))))) .nil)
def b_is_tuple_of : Sms :=
  (.cons (.ret (.and (.isin (.var 0) .tuple) (.chain .le .le (.var 1) (.bt .len (.var 0)) (.var 2)))) .nil)
def b_divisor : Sms :=
  (.cons (.par [0, 1] (.cons (.bt .abs (.var 0)) (.cons (.bt .abs (.var 1)) .nil))) (.cons (.whl (.cmp .ne (.var 1) (.con (.int 0))) (.cons (.par [0, 1] (.cons (.var 1) (.cons (.bin .mod (.var 0) (.var 1)) .nil))) .nil)) (.cons (.ret (.var 0)) .nil)))
def b_lowest : Sms :=
  (.cons (.ife (.cmp .lt (.var 1) (.con (.int 0))) (.cons (.par [0, 1] (.cons (.neg (.var 0)) (.cons (.neg (.var 1)) .nil))) .nil) .nil) (.cons (.asg (.name 2) (.call 2 (.cons (.var 0) (.cons (.var 1) .nil)))) (.cons (.ret (.tup (.cons (.bin .fdiv (.var 0) (.var 2)) (.cons (.bin .fdiv (.var 1) (.var 2)) .nil)))) .nil)))
def b_added : Sms :=
  (.cons (.ret (.call 3 (.cons (.bin .add (.bin .mul (.ix (.var 0) (.con (.int 0))) (.ix (.var 1) (.con (.int 1)))) (.bin .mul (.ix (.var 1) (.con (.int 0))) (.ix (.var 0) (.con (.int 1))))) (.cons (.bin .mul (.ix (.var 0) (.con (.int 1))) (.ix (.var 1) (.con (.int 1)))) .nil)))) .nil)
def b_product : Sms :=
  (.cons (.ret (.call 3 (.cons (.bin .mul (.ix (.var 0) (.con (.int 0))) (.ix (.var 1) (.con (.int 0)))) (.cons (.bin .mul (.ix (.var 0) (.con (.int 1))) (.ix (.var 1) (.con (.int 1)))) .nil)))) .nil)
def b_quotient : Sms :=
  (.cons (.ret (.call 3 (.cons (.bin .mul (.ix (.var 0) (.con (.int 0))) (.ix (.var 1) (.con (.int 1)))) (.cons (.bin .mul (.ix (.var 0) (.con (.int 1))) (.ix (.var 1) (.con (.int 0)))) .nil)))) .nil)
def b_size_of : Sms :=
  (.cons (.ret (.tup (.cons (.bt .abs (.ix (.var 0) (.con (.int 0)))) (.cons (.ix (.var 0) (.con (.int 1))) .nil)))) .nil)
def b_is_below : Sms :=
  (.cons (.ret (.cmp .lt (.bin .mul (.ix (.var 0) (.con (.int 0))) (.ix (.var 1) (.con (.int 1)))) (.bin .mul (.ix (.var 1) (.con (.int 0))) (.ix (.var 0) (.con (.int 1)))))) .nil)
def b_is_fraction : Sms :=
  (.cons (.ife (.or (.not (.e (.call 1 (.cons (.var 0) (.cons (.con (.int 2)) (.cons (.con (.int 2)) .nil)))))) (.or (.not (.e (.call 0 (.cons (.ix (.var 0) (.con (.int 0))) .nil)))) (.or (.not (.e (.call 0 (.cons (.ix (.var 0) (.con (.int 1))) .nil)))) (.cmp .le (.ix (.var 0) (.con (.int 1))) (.con (.int 0)))))) (.cons (.ret (.con (.bl false))) .nil) .nil) (.cons (.ret (.cmp .eq (.call 2 (.cons (.ix (.var 0) (.con (.int 0))) (.cons (.ix (.var 0) (.con (.int 1))) .nil))) (.con (.int 1)))) .nil))
def b_fraction_sum : Sms :=
  (.cons (.asg (.name 1) (.tup (.cons (.con (.int 0)) (.cons (.con (.int 1)) .nil)))) (.cons (.for_ (.name 2) (.seq (.var 0)) (.cons (.asg (.name 1) (.call 4 (.cons (.var 1) (.cons (.var 2) .nil)))) .nil)) (.cons (.ret (.var 1)) .nil)))
def b__law_kettle : Sms :=
  (.cons (.par [1, 2] (.cons (.lst .nil) (.cons (.con (.int 8101)) .nil))) (.cons (.for_ (.name 3) (.seq (.slice (.var 0) .none (.some (.con (.int 55))))) (.cons (.asg (.name 4) (.bin .mod (.bt .abs (.bt .int (.var 3))) (.bin .shl (.con (.int 1)) (.con (.int 1320))))) (.cons (.asg (.name 2) (.bin .mod (.bt .int (.bin .add (.bin .add (.bin .add (.bin .mul (.var 2) (.con (.int 5113))) (.bin .mod (.var 4) (.con (.int 1000849)))) (.bin .mul (.con (.int 43)) (.bt .int (.cmp .lt (.bt .int (.var 3)) (.con (.int 0)))))) (.con (.int 7)))) (.con (.int 2147481919)))) (.cons (.ife (.cmp .gt (.var 4) (.bin .pow (.con (.int 10)) (.con (.int 16)))) (.cons (.ex (.mt .append (.var 1) (.cons (.var 4) .nil))) .nil) .nil) .nil)))) (.cons (.ret (.lst (.cons (.var 1) (.cons (.var 2) (.cons (.con (.int 0)) (.cons (.bt .int (.bin .fdiv (.var 2) (.con (.int 53)))) .nil)))))) .nil)))
def b__law_dip : Sms :=
  (.cons (.ife (.cmp .lt (.var 2) (.con (.int 2))) (.cons (.ret (.con (.int 0))) .nil) .nil) (.cons (.ife (.cmp .gt (.bt .len (.ix (.var 0) (.con (.int 0)))) (.con (.int 0))) (.cons (.asg (.name 3) (.bt .int (.mt .pop (.ix (.var 0) (.con (.int 0))) .nil))) (.cons (.ife (.cmp .ge (.var 3) (.var 2)) (.cons (.ex (.mt .append (.ix (.var 0) (.con (.int 0))) (.cons (.bin .fdiv (.var 3) (.var 2)) .nil))) .nil) .nil) (.cons (.ret (.bin .mod (.var 3) (.var 2))) .nil))) .nil) (.cons (.sub (.var 0) (.con (.int 2)) (.bin .add (.ix (.var 0) (.con (.int 2))) (.con (.int 1)))) (.cons (.sub (.var 0) (.con (.int 1)) (.bin .mod (.bt .int (.bin .add (.bin .add (.bin .mul (.ix (.var 0) (.con (.int 1))) (.con (.int 16807))) (.bin .mul (.ix (.var 0) (.con (.int 2))) (.con (.int 5119)))) (.bin .mul (.var 1) (.con (.int 1201))))) (.con (.int 2147481919)))) (.cons (.asg (.name 4) (.bin .mod (.bt .int (.bin .add (.ix (.var 0) (.con (.int 3))) (.bin .mul (.var 1) (.con (.int 1187))))) (.con (.int 57)))) (.cons (.ife (.cmp .gt (.var 4) (.con (.int 54))) (.cons (.ret (.ix (.tup (.cons (.con (.int 0)) (.cons (.bin .sub (.var 2) (.con (.int 1))) .nil))) (.bin .sub (.var 4) (.con (.int 55))))) .nil) .nil) (.cons (.ret (.bin .mod (.bt .int (.bin .fdiv (.ix (.var 0) (.con (.int 1))) (.con (.int 47)))) (.var 2))) .nil)))))))
def b__law_like : Sms :=
  (.cons (.ife (.e (.isin (.var 1) .bool)) (.cons (.ret (.and (.isin (.var 0) .bool) (.cmp .eq (.var 0) (.var 1)))) .nil) .nil) (.cons (.ife (.e (.isin (.var 1) .tuple)) (.cons (.ret (.and (.isin (.var 0) .tuple) (.and (.cmp .eq (.bt .len (.var 0)) (.bt .len (.var 1))) (.cmp .eq (.bt .len (.comp [2] (.name 2) (.rng (.con (.int 0)) (.bt .len (.var 1))) (.not (.e (.call 13 (.cons (.ix (.var 0) (.var 2)) (.cons (.ix (.var 1) (.var 2)) .nil))))) (.con (.int 1)))) (.con (.int 0)))))) .nil) .nil) (.cons (.ret (.and (.isin (.var 0) .int) (.and (.not (.e (.isin (.var 0) .bool))) (.cmp .eq (.var 0) (.var 1))))) .nil)))
def b__law_shared : Sms :=
  (.cons (.whl (.cmp .gt (.var 1) (.con (.int 0))) (.cons (.par [0, 1] (.cons (.var 1) (.cons (.bin .mod (.var 0) (.var 1)) .nil))) .nil)) (.cons (.ret (.var 0)) .nil))
def b__law_low : Sms :=
  (.cons (.asg (.name 2) (.bin .mul (.call 14 (.cons (.bt .abs (.var 0)) (.cons (.bt .abs (.var 1)) .nil))) (.ife (.cmp .gt (.var 1) (.con (.int 0))) (.con (.int 1)) (.neg (.con (.int 1)))))) (.cons (.ret (.tup (.cons (.bt .int (.bin .fdiv (.var 0) (.var 2))) (.cons (.bt .int (.bin .fdiv (.var 1) (.var 2))) .nil)))) .nil))
def b__law_figure : Sms :=
  (.cons (.asg (.name 1) (.ix (.tup (.cons (.con (.int 3)) (.cons (.con (.int 12)) (.cons (.con (.int 100)) (.cons (.bin .pow (.con (.int 10)) (.con (.int 6))) (.cons (.bin .pow (.con (.int 10)) (.con (.int 12))) .nil)))))) (.call 12 (.cons (.var 0) (.cons (.con (.int 1)) (.cons (.con (.int 5)) .nil)))))) (.cons (.asg (.name 2) (.call 12 (.cons (.var 0) (.cons (.con (.int 2)) (.cons (.var 1) .nil))))) (.cons (.ret (.ife (.cmp .eq (.call 12 (.cons (.var 0) (.cons (.con (.int 3)) (.cons (.con (.int 2)) .nil)))) (.con (.int 0))) (.var 2) (.bin .sub (.con (.int 0)) (.var 2)))) .nil)))
def b__law_fraction : Sms :=
  (.cons (.par [1, 2] (.cons (.call 16 (.cons (.var 0) .nil)) (.cons (.bin .add (.bt .abs (.call 16 (.cons (.var 0) .nil))) (.con (.int 1))) .nil))) (.cons (.ret (.call 15 (.cons (.var 1) (.cons (.ix (.tup (.cons (.con (.int 1)) (.cons (.var 2) (.cons (.var 2) (.cons (.con (.int 12)) .nil))))) (.call 12 (.cons (.var 0) (.cons (.con (.int 4)) (.cons (.con (.int 4)) .nil))))) .nil)))) .nil))
def b__law_sum : Sms :=
  (.cons (.asg (.name 1) (.tup (.cons (.con (.int 0)) (.cons (.con (.int 1)) .nil)))) (.cons (.for_ (.tup [(.name 2), (.name 3)]) (.seq (.var 0)) (.cons (.asg (.name 1) (.call 15 (.cons (.bin .add (.bin .mul (.ix (.var 1) (.con (.int 0))) (.var 3)) (.bin .mul (.var 2) (.ix (.var 1) (.con (.int 1))))) (.cons (.bin .mul (.ix (.var 1) (.con (.int 1))) (.var 3)) .nil)))) .nil)) (.cons (.ret (.var 1)) .nil)))
def b__law_pair_right : Sms :=
  (.cons (.asg (.tup [(.tup [(.name 2), (.name 3)]), (.tup [(.name 4), (.name 5)])]) (.tup (.cons (.var 0) (.cons (.var 1) .nil)))) (.cons (.asg (.name 6) (.tup (.cons (.call 4 (.cons (.var 0) (.cons (.var 1) .nil))) (.cons (.call 5 (.cons (.var 0) (.cons (.var 1) .nil))) (.cons (.call 7 (.cons (.var 0) .nil)) (.cons (.call 8 (.cons (.var 0) (.cons (.var 1) .nil))) (.cons (.callk 8 [1, 0] .nil (.cons (.var 0) (.cons (.var 1) .nil))) .nil))))))) (.cons (.asg (.name 7) (.tup (.cons (.call 15 (.cons (.bin .add (.bin .mul (.var 2) (.var 5)) (.bin .mul (.var 4) (.var 3))) (.cons (.bin .mul (.var 3) (.var 5)) .nil))) (.cons (.call 15 (.cons (.bin .mul (.var 2) (.var 4)) (.cons (.bin .mul (.var 3) (.var 5)) .nil))) (.cons (.tup (.cons (.bt .abs (.var 2)) (.cons (.var 3) .nil))) (.cons (.cmp .lt (.bin .mul (.var 2) (.var 5)) (.bin .mul (.var 4) (.var 3))) (.cons (.cmp .lt (.bin .mul (.var 4) (.var 3)) (.bin .mul (.var 2) (.var 5))) .nil))))))) (.cons (.ife (.not (.e (.call 13 (.cons (.var 6) (.cons (.var 7) .nil))))) (.cons (.ret (.con (.bl false))) .nil) .nil) (.cons (.asg (.name 6) (.tup (.cons (.callk 4 [1, 0] .nil (.cons (.var 1) (.cons (.var 0) .nil))) (.cons (.callk 5 [1, 0] .nil (.cons (.var 1) (.cons (.var 0) .nil))) (.cons (.callk 7 [0] .nil (.cons (.var 1) .nil)) (.cons (.call 8 (.cons (.var 0) (.cons (.var 0) .nil))) .nil)))))) (.cons (.ife (.not (.e (.call 13 (.cons (.var 6) (.cons (.tup (.cons (.ix (.var 7) (.con (.int 0))) (.cons (.ix (.var 7) (.con (.int 1))) (.cons (.tup (.cons (.bt .abs (.var 4)) (.cons (.var 5) .nil))) (.cons (.con (.bl false)) .nil))))) .nil))))) (.cons (.ret (.con (.bl false))) .nil) .nil) (.cons (.ife (.cmp .eq (.var 4) (.con (.int 0))) (.cons (.ret (.con (.bl true))) .nil) .nil) (.cons (.asg (.name 8) (.call 15 (.cons (.bin .mul (.var 2) (.var 5)) (.cons (.bin .mul (.var 3) (.var 4)) .nil)))) (.cons (.ret (.call 13 (.cons (.tup (.cons (.call 6 (.cons (.var 0) (.cons (.var 1) .nil))) (.cons (.callk 6 [1, 0] .nil (.cons (.var 1) (.cons (.var 0) .nil))) .nil))) (.cons (.tup (.cons (.var 8) (.cons (.var 8) .nil))) .nil)))) .nil)))))))))
def b__law_is : Sms :=
  (.cons (.ife (.or (.not (.e (.isin (.var 0) .tuple))) (.cmp .ne (.bt .len (.var 0)) (.con (.int 2)))) (.cons (.ret (.con (.bl false))) .nil) .nil) (.cons (.ife (.cmp .gt (.bt .len (.comp [1] (.name 1) (.seq (.var 0)) (.or (.not (.e (.isin (.var 1) .int))) (.e (.isin (.var 1) .bool))) (.con (.int 1)))) (.con (.int 0))) (.cons (.ret (.con (.bl false))) .nil) .nil) (.cons (.ret (.and (.cmp .gt (.ix (.var 0) (.con (.int 1))) (.con (.int 0))) (.cmp .eq (.call 14 (.cons (.bt .abs (.ix (.var 0) (.con (.int 0)))) (.cons (.ix (.var 0) (.con (.int 1))) .nil))) (.con (.int 1))))) .nil)))
def b__law_bent : Sms :=
  (.cons (.asg (.tup [(.name 2), (.name 3)]) (.var 1)) (.cons (.asg (.name 4) (.bin .add (.con (.int 2)) (.call 12 (.cons (.var 0) (.cons (.con (.int 5)) (.cons (.con (.int 5)) .nil)))))) (.cons (.asg (.name 5) (.lst (.cons (.tup (.cons (.bin .mul (.var 2) (.var 4)) (.cons (.bin .mul (.var 3) (.var 4)) .nil))) (.cons (.tup (.cons (.bin .sub (.con (.int 0)) (.var 2)) (.cons (.bin .sub (.con (.int 0)) (.var 3)) .nil))) (.cons (.tup (.cons (.var 2) (.cons (.con (.int 0)) .nil))) (.cons (.lst (.cons (.var 2) (.cons (.var 3) .nil))) (.cons (.tup (.cons (.var 2) (.cons (.var 3) (.cons (.con (.int 1)) .nil)))) (.cons (.tup (.cons (.var 2) .nil)) (.cons (.tup (.cons (.var 2) (.cons (.con (.bl true)) .nil))) (.cons (.tup (.cons (.con (.bl true)) (.cons (.var 3) .nil))) .nil)))))))))) (.cons (.asg (.name 5) (.bin .add (.var 5) (.lst (.cons (.tup (.cons (.con (.int 0)) (.cons (.con (.int 2)) .nil))) (.cons (.tup (.cons (.con (.int 0)) (.cons (.con (.int 1)) .nil))) (.cons (.tup (.cons (.con (.int 0)) (.cons (.neg (.con (.int 1))) .nil))) .nil)))))) (.cons (.asg (.name 5) (.bin .add (.var 5) (.lst (.cons (.tup (.cons (.var 2) (.cons (.bt .str (.var 3)) .nil))) (.cons (.tup (.cons (.con .non) (.cons (.var 3) .nil))) (.cons (.var 2) (.cons (.con .non) (.cons (.con (.str "")) (.cons (.bin .add (.bin .add (.bt .str (.var 2)) (.con (.str "/"))) (.bt .str (.var 3))) (.cons (.tup (.cons (.var 1) (.cons (.var 3) .nil))) (.cons (.tup (.cons (.var 3) (.cons (.var 2) .nil))) (.cons (.tup (.cons (.bin .pow (.con (.int 10)) (.con (.int 59))) (.cons (.bin .add (.bin .pow (.con (.int 10)) (.con (.int 58))) (.con (.int 1))) .nil))) (.cons (.tup (.cons (.con (.int 1)) (.cons (.con (.int 1)) .nil))) (.cons (.tup (.cons (.neg (.con (.int 1))) (.cons (.con (.int 1)) .nil))) (.cons (.tup (.cons (.con (.int 1)) (.cons (.neg (.con (.int 1))) .nil))) (.cons (.tup .nil) .nil)))))))))))))))) (.cons (.ret (.ix (.var 5) (.call 12 (.cons (.var 0) (.cons (.con (.int 6)) (.cons (.bt .len (.var 5)) .nil)))))) .nil))))))
def b__law_by_hand : Sms :=
  (.cons (.asg (.name 0) (.tup (.cons (.call 3 (.cons (.con (.int 4)) (.cons (.neg (.con (.int 6))) .nil))) (.cons (.call 6 (.cons (.tup (.cons (.con (.int 1)) (.cons (.con (.int 2)) .nil))) (.cons (.tup (.cons (.con (.int 3)) (.cons (.con (.int 4)) .nil))) .nil))) (.cons (.call 9 (.cons (.tup (.cons (.con (.int 2)) (.cons (.con (.int 4)) .nil))) .nil)) (.cons (.call 9 (.cons (.tup (.cons (.con (.int 0)) (.cons (.con (.int 1)) .nil))) .nil)) (.cons (.call 9 (.cons (.tup (.cons (.con (.int 0)) (.cons (.con (.int 3)) .nil))) .nil)) (.cons (.call 9 (.cons (.tup (.cons (.con (.int 1)) (.cons (.con (.bl true)) .nil))) .nil)) .nil)))))))) (.cons (.ife (.not (.e (.call 13 (.cons (.var 0) (.cons (.tup (.cons (.tup (.cons (.neg (.con (.int 2))) (.cons (.con (.int 3)) .nil))) (.cons (.tup (.cons (.con (.int 2)) (.cons (.con (.int 3)) .nil))) (.cons (.con (.bl false)) (.cons (.con (.bl true)) (.cons (.con (.bl false)) (.cons (.con (.bl false)) .nil))))))) .nil))))) (.cons (.ret (.con (.bl false))) .nil) .nil) (.cons (.asg (.name 0) (.tup (.cons (.call 3 (.cons (.con (.int 0)) (.cons (.neg (.con (.int 7))) .nil))) (.cons (.callk 3 [1, 0] .nil (.cons (.neg (.con (.int 1))) (.cons (.neg (.con (.int 9))) .nil))) (.cons (.call 3 (.cons (.con (.int 12)) (.cons (.con (.int 4)) .nil))) (.cons (.call 4 (.cons (.tup (.cons (.con (.int 1)) (.cons (.con (.int 2)) .nil))) (.cons (.tup (.cons (.neg (.con (.int 1))) (.cons (.con (.int 2)) .nil))) .nil))) (.cons (.call 5 (.cons (.tup (.cons (.con (.int 0)) (.cons (.con (.int 1)) .nil))) (.cons (.tup (.cons (.neg (.con (.int 5))) (.cons (.con (.int 3)) .nil))) .nil))) (.cons (.call 6 (.cons (.tup (.cons (.con (.int 2)) (.cons (.con (.int 3)) .nil))) (.cons (.tup (.cons (.neg (.con (.int 4))) (.cons (.con (.int 9)) .nil))) .nil))) .nil)))))))) (.cons (.ife (.not (.e (.call 13 (.cons (.var 0) (.cons (.tup (.cons (.tup (.cons (.con (.int 0)) (.cons (.con (.int 1)) .nil))) (.cons (.tup (.cons (.con (.int 9)) (.cons (.con (.int 1)) .nil))) (.cons (.tup (.cons (.con (.int 3)) (.cons (.con (.int 1)) .nil))) (.cons (.tup (.cons (.con (.int 0)) (.cons (.con (.int 1)) .nil))) (.cons (.tup (.cons (.con (.int 0)) (.cons (.con (.int 1)) .nil))) (.cons (.tup (.cons (.neg (.con (.int 3))) (.cons (.con (.int 2)) .nil))) .nil))))))) .nil))))) (.cons (.ret (.con (.bl false))) .nil) .nil) (.cons (.asg (.name 0) (.tup (.cons (.call 7 (.cons (.tup (.cons (.neg (.con (.int 7))) (.cons (.con (.int 3)) .nil))) .nil)) (.cons (.call 8 (.cons (.tup (.cons (.neg (.con (.int 1))) (.cons (.con (.int 2)) .nil))) (.cons (.tup (.cons (.neg (.con (.int 1))) (.cons (.con (.int 3)) .nil))) .nil))) (.cons (.call 8 (.cons (.tup (.cons (.con (.int 1)) (.cons (.con (.int 3)) .nil))) (.cons (.tup (.cons (.con (.int 1)) (.cons (.con (.int 3)) .nil))) .nil))) (.cons (.call 10 (.cons (.tup (.cons (.tup (.cons (.con (.int 1)) (.cons (.con (.int 2)) .nil))) (.cons (.tup (.cons (.con (.int 1)) (.cons (.con (.int 3)) .nil))) (.cons (.tup (.cons (.con (.int 1)) (.cons (.con (.int 6)) .nil))) .nil)))) .nil)) (.cons (.callk 10 [0] .nil (.cons (.tup (.cons (.tup (.cons (.neg (.con (.int 1))) (.cons (.con (.int 4)) .nil))) .nil)) .nil)) .nil))))))) (.cons (.ife (.not (.e (.call 13 (.cons (.var 0) (.cons (.tup (.cons (.tup (.cons (.con (.int 7)) (.cons (.con (.int 3)) .nil))) (.cons (.con (.bl true)) (.cons (.con (.bl false)) (.cons (.tup (.cons (.con (.int 1)) (.cons (.con (.int 1)) .nil))) (.cons (.tup (.cons (.neg (.con (.int 1))) (.cons (.con (.int 4)) .nil))) .nil)))))) .nil))))) (.cons (.ret (.con (.bl false))) .nil) .nil) (.cons (.ret (.and (.cmp .is (.callk 9 [0] .nil (.cons (.tup (.cons (.con (.int 3)) (.cons (.con (.int 7)) .nil))) .nil)) (.con (.bl true))) (.and (.cmp .is (.callk 9 [0] .nil (.cons (.lst (.cons (.con (.int 3)) (.cons (.con (.int 7)) .nil))) .nil)) (.con (.bl false))) (.cmp .is (.call 9 (.cons (.tup (.cons (.con (.int 3)) (.cons (.neg (.con (.int 7))) .nil))) .nil)) (.con (.bl false)))))) .nil)))))))
def b_law : Sms :=
  (.cons (.asg (.name 1) (.call 11 (.cons (.var 0) .nil))) (.cons (.for_ (.name 2) (.rng (.con (.int 0)) (.con (.int 6))) (.cons (.par [3, 4] (.cons (.call 17 (.cons (.var 1) .nil)) (.cons (.call 17 (.cons (.var 1) .nil)) .nil))) (.cons (.asg (.name 4) (.ix (.tup (.cons (.var 4) (.cons (.var 3) (.cons (.call 15 (.cons (.bin .add (.ix (.var 3) (.con (.int 0))) (.con (.int 1))) (.cons (.ix (.var 3) (.con (.int 1))) .nil))) (.cons (.tup (.cons (.bin .sub (.con (.int 0)) (.ix (.var 3) (.con (.int 0)))) (.cons (.ix (.var 3) (.con (.int 1))) .nil))) .nil))))) (.call 12 (.cons (.var 1) (.cons (.con (.int 7)) (.cons (.con (.int 4)) .nil)))))) (.cons (.ife (.not (.e (.call 19 (.cons (.var 3) (.cons (.var 4) .nil))))) (.cons (.ret (.con (.bl false))) .nil) .nil) (.cons (.par [5, 6] (.cons (.call 16 (.cons (.var 1) .nil)) (.cons (.call 16 (.cons (.var 1) .nil)) .nil))) (.cons (.asg (.name 6) (.ife (.cmp .ne (.var 6) (.con (.int 0))) (.var 6) (.neg (.con (.int 1))))) (.cons (.asg (.name 7) (.bin .add (.con (.int 1)) (.call 12 (.cons (.var 1) (.cons (.con (.int 8)) (.cons (.con (.int 30)) .nil)))))) (.cons (.ife (.not (.e (.call 13 (.cons (.tup (.cons (.call 3 (.cons (.var 5) (.cons (.var 6) .nil))) (.cons (.callk 3 [1, 0] .nil (.cons (.bin .mul (.var 6) (.var 7)) (.cons (.bin .mul (.var 5) (.var 7)) .nil))) .nil))) (.cons (.bin .mul (.tup (.cons (.call 15 (.cons (.var 5) (.cons (.var 6) .nil))) .nil)) (.con (.int 2))) .nil))))) (.cons (.ret (.con (.bl false))) .nil) .nil) (.cons (.asg (.name 8) (.bt .tuple (.comp [10] (.name 10) (.rng (.con (.int 0)) (.bin .add (.con (.int 1)) (.call 12 (.cons (.var 1) (.cons (.con (.int 9)) (.cons (.con (.int 9)) .nil)))))) .tt (.call 17 (.cons (.var 1) .nil))))) (.cons (.ife (.not (.e (.call 13 (.cons (.tup (.cons (.call 10 (.cons (.var 8) .nil)) (.cons (.callk 10 [0] .nil (.cons (.rev (.var 8)) .nil)) .nil))) (.cons (.bin .mul (.tup (.cons (.call 18 (.cons (.var 8) .nil)) .nil)) (.con (.int 2))) .nil))))) (.cons (.ret (.con (.bl false))) .nil) .nil) (.cons (.for_ (.name 9) (.seq (.lst (.cons (.var 3) (.cons (.call 21 (.cons (.var 1) (.cons (.var 3) .nil))) (.cons (.call 21 (.cons (.var 1) (.cons (.var 4) .nil))) (.cons (.call 21 (.cons (.var 1) (.cons (.tup (.cons (.var 5) (.cons (.var 6) .nil))) .nil))) .nil)))))) (.cons (.ife (.not (.e (.call 13 (.cons (.call 9 (.cons (.var 9) .nil)) (.cons (.call 20 (.cons (.var 9) .nil)) .nil))))) (.cons (.ret (.con (.bl false))) .nil) .nil) .nil)) .nil))))))))))) (.cons (.ret (.call 22 .nil)) .nil)))
def i_is_integer : FI := mkFI "is_integer" (top 1) ["thing"] ["thing"]
def i_is_tuple_of : FI := mkFI "is_tuple_of" (top 2) ["thing", "least", "most"] ["thing", "least", "most"]
def i_divisor : FI := mkFI "divisor" (top 4) ["one", "other"] ["one", "other"]
def i_lowest : FI := mkFI "lowest" (top 5) ["top", "bottom"] ["top", "bottom", "common"]
def i_added : FI := mkFI "added" (top 6) ["one", "other"] ["one", "other"]
def i_product : FI := mkFI "product" (top 7) ["one", "other"] ["one", "other"]
def i_quotient : FI := mkFI "quotient" (top 8) ["one", "other"] ["one", "other"]
def i_size_of : FI := mkFI "size_of" (top 9) ["one"] ["one"]
def i_is_below : FI := mkFI "is_below" (top 10) ["one", "other"] ["one", "other"]
def i_is_fraction : FI := mkFI "is_fraction" (top 11) ["thing"] ["thing"]
def i_fraction_sum : FI := mkFI "fraction_sum" (top 12) ["row"] ["row", "told", "one"]
def i__law_kettle : FI := mkFI "_law_kettle" (top 14) ["script"] ["script", "ladles", "heat", "cell", "broth"]
def i__law_dip : FI := mkFI "_law_dip" (top 15) ["kettle", "spot", "many"] ["kettle", "spot", "many", "ladle", "lid"]
def i__law_like : FI := mkFI "_law_like" (top 16) ["told", "due"] ["told", "due", "at"]
def i__law_shared : FI := mkFI "_law_shared" (top 17) ["one", "other"] ["one", "other"]
def i__law_low : FI := mkFI "_law_low" (top 18) ["top", "bottom"] ["top", "bottom", "part"]
def i__law_figure : FI := mkFI "_law_figure" (top 19) ["kettle"] ["kettle", "most", "told"]
def i__law_fraction : FI := mkFI "_law_fraction" (top 20) ["kettle"] ["kettle", "top", "bottom"]
def i__law_sum : FI := mkFI "_law_sum" (top 21) ["row"] ["row", "told", "top", "bottom"]
def i__law_pair_right : FI := mkFI "_law_pair_right" (top 22) ["one", "other"] ["one", "other", "p", "q", "r", "s", "told", "due", "ratio"]
def i__law_is : FI := mkFI "_law_is" (top 23) ["thing"] ["thing", "part"]
def i__law_bent : FI := mkFI "_law_bent" (top 24) ["kettle", "one"] ["kettle", "one", "top", "bottom", "by", "things"]
def i__law_by_hand : FI := mkFI "_law_by_hand" (top 25) [] ["told"]
def i_law : FI := mkFI "law" (top 26) ["script"] ["script", "kettle", "lap", "one", "other", "top", "bottom", "by", "row", "thing", "spot"]
def fns : List Fn := [⟨1, 1, b_is_integer⟩, ⟨3, 3, b_is_tuple_of⟩, ⟨2, 2, b_divisor⟩, ⟨2, 3, b_lowest⟩, ⟨2, 2, b_added⟩, ⟨2, 2, b_product⟩, ⟨2, 2, b_quotient⟩, ⟨1, 1, b_size_of⟩, ⟨2, 2, b_is_below⟩, ⟨1, 1, b_is_fraction⟩, ⟨1, 3, b_fraction_sum⟩, ⟨1, 5, b__law_kettle⟩, ⟨3, 5, b__law_dip⟩, ⟨2, 3, b__law_like⟩, ⟨2, 2, b__law_shared⟩, ⟨2, 3, b__law_low⟩, ⟨1, 3, b__law_figure⟩, ⟨1, 3, b__law_fraction⟩, ⟨1, 4, b__law_sum⟩, ⟨2, 9, b__law_pair_right⟩, ⟨1, 2, b__law_is⟩, ⟨2, 6, b__law_bent⟩, ⟨0, 1, b__law_by_hand⟩, ⟨1, 11, b_law⟩]
def fis : List FI := [i_is_integer, i_is_tuple_of, i_divisor, i_lowest, i_added, i_product, i_quotient, i_size_of, i_is_below, i_is_fraction, i_fraction_sum, i__law_kettle, i__law_dip, i__law_like, i__law_shared, i__law_low, i__law_figure, i__law_fraction, i__law_sum, i__law_pair_right, i__law_is, i__law_bent, i__law_by_hand, i_law]
def tab : Tab := ⟨[("is_integer", 1), ("is_tuple_of", 3), ("divisor", 2), ("lowest", 2), ("added", 2), ("product", 2), ("quotient", 2), ("size_of", 1), ("is_below", 2), ("is_fraction", 1), ("fraction_sum", 1), ("_law_kettle", 1), ("_law_dip", 3), ("_law_like", 2), ("_law_shared", 2), ("_law_low", 2), ("_law_figure", 1), ("_law_fraction", 1), ("_law_sum", 1), ("_law_pair_right", 2), ("_law_is", 1), ("_law_bent", 2), ("_law_by_hand", 0), ("law", 1)],
  [(3, 0, ["bottom", "top"], [1, 0]), (4, 0, ["other", "one"], [1, 0]), (5, 0, ["other", "one"], [1, 0]), (6, 0, ["other", "one"], [1, 0]), (7, 0, ["one"], [0]), (8, 0, ["other", "one"], [1, 0]), (9, 0, ["thing"], [0]), (10, 0, ["row"], [0])],
  ["isinstance", "int", "bool", "str", "tuple", "len", "abs", "range"]⟩
theorem kw_is_integer : FI.Kw tab 0 i_is_integer := by
  intro q hq e
  simp only [tab] at hq
  rcases List.mem_cons.mp hq with rfl | hq
  · exact absurd e (by decide)
  rcases List.mem_cons.mp hq with rfl | hq
  · exact absurd e (by decide)
  rcases List.mem_cons.mp hq with rfl | hq
  · exact absurd e (by decide)
  rcases List.mem_cons.mp hq with rfl | hq
  · exact absurd e (by decide)
  rcases List.mem_cons.mp hq with rfl | hq
  · exact absurd e (by decide)
  rcases List.mem_cons.mp hq with rfl | hq
  · exact absurd e (by decide)
  rcases List.mem_cons.mp hq with rfl | hq
  · exact absurd e (by decide)
  rcases List.mem_cons.mp hq with rfl | hq
  · exact absurd e (by decide)
  cases hq
theorem ok_is_integer : FI.Ok tab fns 0 i_is_integer := ⟨⟨rfl, rfl, rfl, by decide +kernel, rfl, by decide +kernel, by decide +kernel⟩, rfl, ⟨b_is_integer, rfl, by decide +kernel⟩, (fun _ _ _ _ _ _ us hl => match us, hl with | [_], _ => rfl), kw_is_integer, rfl⟩
theorem kw_is_tuple_of : FI.Kw tab 1 i_is_tuple_of := by
  intro q hq e
  simp only [tab] at hq
  rcases List.mem_cons.mp hq with rfl | hq
  · exact absurd e (by decide)
  rcases List.mem_cons.mp hq with rfl | hq
  · exact absurd e (by decide)
  rcases List.mem_cons.mp hq with rfl | hq
  · exact absurd e (by decide)
  rcases List.mem_cons.mp hq with rfl | hq
  · exact absurd e (by decide)
  rcases List.mem_cons.mp hq with rfl | hq
  · exact absurd e (by decide)
  rcases List.mem_cons.mp hq with rfl | hq
  · exact absurd e (by decide)
  rcases List.mem_cons.mp hq with rfl | hq
  · exact absurd e (by decide)
  rcases List.mem_cons.mp hq with rfl | hq
  · exact absurd e (by decide)
  cases hq
theorem ok_is_tuple_of : FI.Ok tab fns 1 i_is_tuple_of := ⟨⟨rfl, rfl, rfl, by decide +kernel, rfl, by decide +kernel, by decide +kernel⟩, rfl, ⟨b_is_tuple_of, rfl, by decide +kernel⟩, (fun _ _ _ _ _ _ us hl => match us, hl with | [_, _, _], _ => rfl), kw_is_tuple_of, rfl⟩
theorem kw_divisor : FI.Kw tab 2 i_divisor := by
  intro q hq e
  simp only [tab] at hq
  rcases List.mem_cons.mp hq with rfl | hq
  · exact absurd e (by decide)
  rcases List.mem_cons.mp hq with rfl | hq
  · exact absurd e (by decide)
  rcases List.mem_cons.mp hq with rfl | hq
  · exact absurd e (by decide)
  rcases List.mem_cons.mp hq with rfl | hq
  · exact absurd e (by decide)
  rcases List.mem_cons.mp hq with rfl | hq
  · exact absurd e (by decide)
  rcases List.mem_cons.mp hq with rfl | hq
  · exact absurd e (by decide)
  rcases List.mem_cons.mp hq with rfl | hq
  · exact absurd e (by decide)
  rcases List.mem_cons.mp hq with rfl | hq
  · exact absurd e (by decide)
  cases hq
theorem ok_divisor : FI.Ok tab fns 2 i_divisor := ⟨⟨rfl, rfl, rfl, by decide +kernel, rfl, by decide +kernel, by decide +kernel⟩, rfl, ⟨b_divisor, rfl, by decide +kernel⟩, (fun _ _ _ _ _ _ us hl => match us, hl with | [_, _], _ => rfl), kw_divisor, rfl⟩
theorem kw_lowest : FI.Kw tab 3 i_lowest := by
  intro q hq e
  simp only [tab] at hq
  rcases List.mem_cons.mp hq with rfl | hq
  · intro kV doc pm an cdv ct us ws h1 h2; match us, ws, h1, h2 with | [], [_, _], _, _ => rfl
  rcases List.mem_cons.mp hq with rfl | hq
  · exact absurd e (by decide)
  rcases List.mem_cons.mp hq with rfl | hq
  · exact absurd e (by decide)
  rcases List.mem_cons.mp hq with rfl | hq
  · exact absurd e (by decide)
  rcases List.mem_cons.mp hq with rfl | hq
  · exact absurd e (by decide)
  rcases List.mem_cons.mp hq with rfl | hq
  · exact absurd e (by decide)
  rcases List.mem_cons.mp hq with rfl | hq
  · exact absurd e (by decide)
  rcases List.mem_cons.mp hq with rfl | hq
  · exact absurd e (by decide)
  cases hq
theorem ok_lowest : FI.Ok tab fns 3 i_lowest := ⟨⟨rfl, rfl, rfl, by decide +kernel, rfl, by decide +kernel, by decide +kernel⟩, rfl, ⟨b_lowest, rfl, by decide +kernel⟩, (fun _ _ _ _ _ _ us hl => match us, hl with | [_, _], _ => rfl), kw_lowest, rfl⟩
theorem kw_added : FI.Kw tab 4 i_added := by
  intro q hq e
  simp only [tab] at hq
  rcases List.mem_cons.mp hq with rfl | hq
  · exact absurd e (by decide)
  rcases List.mem_cons.mp hq with rfl | hq
  · intro kV doc pm an cdv ct us ws h1 h2; match us, ws, h1, h2 with | [], [_, _], _, _ => rfl
  rcases List.mem_cons.mp hq with rfl | hq
  · exact absurd e (by decide)
  rcases List.mem_cons.mp hq with rfl | hq
  · exact absurd e (by decide)
  rcases List.mem_cons.mp hq with rfl | hq
  · exact absurd e (by decide)
  rcases List.mem_cons.mp hq with rfl | hq
  · exact absurd e (by decide)
  rcases List.mem_cons.mp hq with rfl | hq
  · exact absurd e (by decide)
  rcases List.mem_cons.mp hq with rfl | hq
  · exact absurd e (by decide)
  cases hq
theorem ok_added : FI.Ok tab fns 4 i_added := ⟨⟨rfl, rfl, rfl, by decide +kernel, rfl, by decide +kernel, by decide +kernel⟩, rfl, ⟨b_added, rfl, by decide +kernel⟩, (fun _ _ _ _ _ _ us hl => match us, hl with | [_, _], _ => rfl), kw_added, rfl⟩
theorem kw_product : FI.Kw tab 5 i_product := by
  intro q hq e
  simp only [tab] at hq
  rcases List.mem_cons.mp hq with rfl | hq
  · exact absurd e (by decide)
  rcases List.mem_cons.mp hq with rfl | hq
  · exact absurd e (by decide)
  rcases List.mem_cons.mp hq with rfl | hq
  · intro kV doc pm an cdv ct us ws h1 h2; match us, ws, h1, h2 with | [], [_, _], _, _ => rfl
  rcases List.mem_cons.mp hq with rfl | hq
  · exact absurd e (by decide)
  rcases List.mem_cons.mp hq with rfl | hq
  · exact absurd e (by decide)
  rcases List.mem_cons.mp hq with rfl | hq
  · exact absurd e (by decide)
  rcases List.mem_cons.mp hq with rfl | hq
  · exact absurd e (by decide)
  rcases List.mem_cons.mp hq with rfl | hq
  · exact absurd e (by decide)
  cases hq
theorem ok_product : FI.Ok tab fns 5 i_product := ⟨⟨rfl, rfl, rfl, by decide +kernel, rfl, by decide +kernel, by decide +kernel⟩, rfl, ⟨b_product, rfl, by decide +kernel⟩, (fun _ _ _ _ _ _ us hl => match us, hl with | [_, _], _ => rfl), kw_product, rfl⟩
theorem kw_quotient : FI.Kw tab 6 i_quotient := by
  intro q hq e
  simp only [tab] at hq
  rcases List.mem_cons.mp hq with rfl | hq
  · exact absurd e (by decide)
  rcases List.mem_cons.mp hq with rfl | hq
  · exact absurd e (by decide)
  rcases List.mem_cons.mp hq with rfl | hq
  · exact absurd e (by decide)
  rcases List.mem_cons.mp hq with rfl | hq
  · intro kV doc pm an cdv ct us ws h1 h2; match us, ws, h1, h2 with | [], [_, _], _, _ => rfl
  rcases List.mem_cons.mp hq with rfl | hq
  · exact absurd e (by decide)
  rcases List.mem_cons.mp hq with rfl | hq
  · exact absurd e (by decide)
  rcases List.mem_cons.mp hq with rfl | hq
  · exact absurd e (by decide)
  rcases List.mem_cons.mp hq with rfl | hq
  · exact absurd e (by decide)
  cases hq
theorem ok_quotient : FI.Ok tab fns 6 i_quotient := ⟨⟨rfl, rfl, rfl, by decide +kernel, rfl, by decide +kernel, by decide +kernel⟩, rfl, ⟨b_quotient, rfl, by decide +kernel⟩, (fun _ _ _ _ _ _ us hl => match us, hl with | [_, _], _ => rfl), kw_quotient, rfl⟩
theorem kw_size_of : FI.Kw tab 7 i_size_of := by
  intro q hq e
  simp only [tab] at hq
  rcases List.mem_cons.mp hq with rfl | hq
  · exact absurd e (by decide)
  rcases List.mem_cons.mp hq with rfl | hq
  · exact absurd e (by decide)
  rcases List.mem_cons.mp hq with rfl | hq
  · exact absurd e (by decide)
  rcases List.mem_cons.mp hq with rfl | hq
  · exact absurd e (by decide)
  rcases List.mem_cons.mp hq with rfl | hq
  · intro kV doc pm an cdv ct us ws h1 h2; match us, ws, h1, h2 with | [], [_], _, _ => rfl
  rcases List.mem_cons.mp hq with rfl | hq
  · exact absurd e (by decide)
  rcases List.mem_cons.mp hq with rfl | hq
  · exact absurd e (by decide)
  rcases List.mem_cons.mp hq with rfl | hq
  · exact absurd e (by decide)
  cases hq
theorem ok_size_of : FI.Ok tab fns 7 i_size_of := ⟨⟨rfl, rfl, rfl, by decide +kernel, rfl, by decide +kernel, by decide +kernel⟩, rfl, ⟨b_size_of, rfl, by decide +kernel⟩, (fun _ _ _ _ _ _ us hl => match us, hl with | [_], _ => rfl), kw_size_of, rfl⟩
theorem kw_is_below : FI.Kw tab 8 i_is_below := by
  intro q hq e
  simp only [tab] at hq
  rcases List.mem_cons.mp hq with rfl | hq
  · exact absurd e (by decide)
  rcases List.mem_cons.mp hq with rfl | hq
  · exact absurd e (by decide)
  rcases List.mem_cons.mp hq with rfl | hq
  · exact absurd e (by decide)
  rcases List.mem_cons.mp hq with rfl | hq
  · exact absurd e (by decide)
  rcases List.mem_cons.mp hq with rfl | hq
  · exact absurd e (by decide)
  rcases List.mem_cons.mp hq with rfl | hq
  · intro kV doc pm an cdv ct us ws h1 h2; match us, ws, h1, h2 with | [], [_, _], _, _ => rfl
  rcases List.mem_cons.mp hq with rfl | hq
  · exact absurd e (by decide)
  rcases List.mem_cons.mp hq with rfl | hq
  · exact absurd e (by decide)
  cases hq
theorem ok_is_below : FI.Ok tab fns 8 i_is_below := ⟨⟨rfl, rfl, rfl, by decide +kernel, rfl, by decide +kernel, by decide +kernel⟩, rfl, ⟨b_is_below, rfl, by decide +kernel⟩, (fun _ _ _ _ _ _ us hl => match us, hl with | [_, _], _ => rfl), kw_is_below, rfl⟩
theorem kw_is_fraction : FI.Kw tab 9 i_is_fraction := by
  intro q hq e
  simp only [tab] at hq
  rcases List.mem_cons.mp hq with rfl | hq
  · exact absurd e (by decide)
  rcases List.mem_cons.mp hq with rfl | hq
  · exact absurd e (by decide)
  rcases List.mem_cons.mp hq with rfl | hq
  · exact absurd e (by decide)
  rcases List.mem_cons.mp hq with rfl | hq
  · exact absurd e (by decide)
  rcases List.mem_cons.mp hq with rfl | hq
  · exact absurd e (by decide)
  rcases List.mem_cons.mp hq with rfl | hq
  · exact absurd e (by decide)
  rcases List.mem_cons.mp hq with rfl | hq
  · intro kV doc pm an cdv ct us ws h1 h2; match us, ws, h1, h2 with | [], [_], _, _ => rfl
  rcases List.mem_cons.mp hq with rfl | hq
  · exact absurd e (by decide)
  cases hq
theorem ok_is_fraction : FI.Ok tab fns 9 i_is_fraction := ⟨⟨rfl, rfl, rfl, by decide +kernel, rfl, by decide +kernel, by decide +kernel⟩, rfl, ⟨b_is_fraction, rfl, by decide +kernel⟩, (fun _ _ _ _ _ _ us hl => match us, hl with | [_], _ => rfl), kw_is_fraction, rfl⟩
theorem kw_fraction_sum : FI.Kw tab 10 i_fraction_sum := by
  intro q hq e
  simp only [tab] at hq
  rcases List.mem_cons.mp hq with rfl | hq
  · exact absurd e (by decide)
  rcases List.mem_cons.mp hq with rfl | hq
  · exact absurd e (by decide)
  rcases List.mem_cons.mp hq with rfl | hq
  · exact absurd e (by decide)
  rcases List.mem_cons.mp hq with rfl | hq
  · exact absurd e (by decide)
  rcases List.mem_cons.mp hq with rfl | hq
  · exact absurd e (by decide)
  rcases List.mem_cons.mp hq with rfl | hq
  · exact absurd e (by decide)
  rcases List.mem_cons.mp hq with rfl | hq
  · exact absurd e (by decide)
  rcases List.mem_cons.mp hq with rfl | hq
  · intro kV doc pm an cdv ct us ws h1 h2; match us, ws, h1, h2 with | [], [_], _, _ => rfl
  cases hq
theorem ok_fraction_sum : FI.Ok tab fns 10 i_fraction_sum := ⟨⟨rfl, rfl, rfl, by decide +kernel, rfl, by decide +kernel, by decide +kernel⟩, rfl, ⟨b_fraction_sum, rfl, by decide +kernel⟩, (fun _ _ _ _ _ _ us hl => match us, hl with | [_], _ => rfl), kw_fraction_sum, rfl⟩
theorem kw__law_kettle : FI.Kw tab 11 i__law_kettle := by
  intro q hq e
  simp only [tab] at hq
  rcases List.mem_cons.mp hq with rfl | hq
  · exact absurd e (by decide)
  rcases List.mem_cons.mp hq with rfl | hq
  · exact absurd e (by decide)
  rcases List.mem_cons.mp hq with rfl | hq
  · exact absurd e (by decide)
  rcases List.mem_cons.mp hq with rfl | hq
  · exact absurd e (by decide)
  rcases List.mem_cons.mp hq with rfl | hq
  · exact absurd e (by decide)
  rcases List.mem_cons.mp hq with rfl | hq
  · exact absurd e (by decide)
  rcases List.mem_cons.mp hq with rfl | hq
  · exact absurd e (by decide)
  rcases List.mem_cons.mp hq with rfl | hq
  · exact absurd e (by decide)
  cases hq
theorem ok__law_kettle : FI.Ok tab fns 11 i__law_kettle := ⟨⟨rfl, rfl, rfl, by decide +kernel, rfl, by decide +kernel, by decide +kernel⟩, rfl, ⟨b__law_kettle, rfl, by decide +kernel⟩, (fun _ _ _ _ _ _ us hl => match us, hl with | [_], _ => rfl), kw__law_kettle, rfl⟩
theorem kw__law_dip : FI.Kw tab 12 i__law_dip := by
  intro q hq e
  simp only [tab] at hq
  rcases List.mem_cons.mp hq with rfl | hq
  · exact absurd e (by decide)
  rcases List.mem_cons.mp hq with rfl | hq
  · exact absurd e (by decide)
  rcases List.mem_cons.mp hq with rfl | hq
  · exact absurd e (by decide)
  rcases List.mem_cons.mp hq with rfl | hq
  · exact absurd e (by decide)
  rcases List.mem_cons.mp hq with rfl | hq
  · exact absurd e (by decide)
  rcases List.mem_cons.mp hq with rfl | hq
  · exact absurd e (by decide)
  rcases List.mem_cons.mp hq with rfl | hq
  · exact absurd e (by decide)
  rcases List.mem_cons.mp hq with rfl | hq
  · exact absurd e (by decide)
  cases hq
theorem ok__law_dip : FI.Ok tab fns 12 i__law_dip := ⟨⟨rfl, rfl, rfl, by decide +kernel, rfl, by decide +kernel, by decide +kernel⟩, rfl, ⟨b__law_dip, rfl, by decide +kernel⟩, (fun _ _ _ _ _ _ us hl => match us, hl with | [_, _, _], _ => rfl), kw__law_dip, rfl⟩
theorem kw__law_like : FI.Kw tab 13 i__law_like := by
  intro q hq e
  simp only [tab] at hq
  rcases List.mem_cons.mp hq with rfl | hq
  · exact absurd e (by decide)
  rcases List.mem_cons.mp hq with rfl | hq
  · exact absurd e (by decide)
  rcases List.mem_cons.mp hq with rfl | hq
  · exact absurd e (by decide)
  rcases List.mem_cons.mp hq with rfl | hq
  · exact absurd e (by decide)
  rcases List.mem_cons.mp hq with rfl | hq
  · exact absurd e (by decide)
  rcases List.mem_cons.mp hq with rfl | hq
  · exact absurd e (by decide)
  rcases List.mem_cons.mp hq with rfl | hq
  · exact absurd e (by decide)
  rcases List.mem_cons.mp hq with rfl | hq
  · exact absurd e (by decide)
  cases hq
theorem ok__law_like : FI.Ok tab fns 13 i__law_like := ⟨⟨rfl, rfl, rfl, by decide +kernel, rfl, by decide +kernel, by decide +kernel⟩, rfl, ⟨b__law_like, rfl, by decide +kernel⟩, (fun _ _ _ _ _ _ us hl => match us, hl with | [_, _], _ => rfl), kw__law_like, rfl⟩
theorem kw__law_shared : FI.Kw tab 14 i__law_shared := by
  intro q hq e
  simp only [tab] at hq
  rcases List.mem_cons.mp hq with rfl | hq
  · exact absurd e (by decide)
  rcases List.mem_cons.mp hq with rfl | hq
  · exact absurd e (by decide)
  rcases List.mem_cons.mp hq with rfl | hq
  · exact absurd e (by decide)
  rcases List.mem_cons.mp hq with rfl | hq
  · exact absurd e (by decide)
  rcases List.mem_cons.mp hq with rfl | hq
  · exact absurd e (by decide)
  rcases List.mem_cons.mp hq with rfl | hq
  · exact absurd e (by decide)
  rcases List.mem_cons.mp hq with rfl | hq
  · exact absurd e (by decide)
  rcases List.mem_cons.mp hq with rfl | hq
  · exact absurd e (by decide)
  cases hq
theorem ok__law_shared : FI.Ok tab fns 14 i__law_shared := ⟨⟨rfl, rfl, rfl, by decide +kernel, rfl, by decide +kernel, by decide +kernel⟩, rfl, ⟨b__law_shared, rfl, by decide +kernel⟩, (fun _ _ _ _ _ _ us hl => match us, hl with | [_, _], _ => rfl), kw__law_shared, rfl⟩
theorem kw__law_low : FI.Kw tab 15 i__law_low := by
  intro q hq e
  simp only [tab] at hq
  rcases List.mem_cons.mp hq with rfl | hq
  · exact absurd e (by decide)
  rcases List.mem_cons.mp hq with rfl | hq
  · exact absurd e (by decide)
  rcases List.mem_cons.mp hq with rfl | hq
  · exact absurd e (by decide)
  rcases List.mem_cons.mp hq with rfl | hq
  · exact absurd e (by decide)
  rcases List.mem_cons.mp hq with rfl | hq
  · exact absurd e (by decide)
  rcases List.mem_cons.mp hq with rfl | hq
  · exact absurd e (by decide)
  rcases List.mem_cons.mp hq with rfl | hq
  · exact absurd e (by decide)
  rcases List.mem_cons.mp hq with rfl | hq
  · exact absurd e (by decide)
  cases hq
theorem ok__law_low : FI.Ok tab fns 15 i__law_low := ⟨⟨rfl, rfl, rfl, by decide +kernel, rfl, by decide +kernel, by decide +kernel⟩, rfl, ⟨b__law_low, rfl, by decide +kernel⟩, (fun _ _ _ _ _ _ us hl => match us, hl with | [_, _], _ => rfl), kw__law_low, rfl⟩
theorem kw__law_figure : FI.Kw tab 16 i__law_figure := by
  intro q hq e
  simp only [tab] at hq
  rcases List.mem_cons.mp hq with rfl | hq
  · exact absurd e (by decide)
  rcases List.mem_cons.mp hq with rfl | hq
  · exact absurd e (by decide)
  rcases List.mem_cons.mp hq with rfl | hq
  · exact absurd e (by decide)
  rcases List.mem_cons.mp hq with rfl | hq
  · exact absurd e (by decide)
  rcases List.mem_cons.mp hq with rfl | hq
  · exact absurd e (by decide)
  rcases List.mem_cons.mp hq with rfl | hq
  · exact absurd e (by decide)
  rcases List.mem_cons.mp hq with rfl | hq
  · exact absurd e (by decide)
  rcases List.mem_cons.mp hq with rfl | hq
  · exact absurd e (by decide)
  cases hq
theorem ok__law_figure : FI.Ok tab fns 16 i__law_figure := ⟨⟨rfl, rfl, rfl, by decide +kernel, rfl, by decide +kernel, by decide +kernel⟩, rfl, ⟨b__law_figure, rfl, by decide +kernel⟩, (fun _ _ _ _ _ _ us hl => match us, hl with | [_], _ => rfl), kw__law_figure, rfl⟩
theorem kw__law_fraction : FI.Kw tab 17 i__law_fraction := by
  intro q hq e
  simp only [tab] at hq
  rcases List.mem_cons.mp hq with rfl | hq
  · exact absurd e (by decide)
  rcases List.mem_cons.mp hq with rfl | hq
  · exact absurd e (by decide)
  rcases List.mem_cons.mp hq with rfl | hq
  · exact absurd e (by decide)
  rcases List.mem_cons.mp hq with rfl | hq
  · exact absurd e (by decide)
  rcases List.mem_cons.mp hq with rfl | hq
  · exact absurd e (by decide)
  rcases List.mem_cons.mp hq with rfl | hq
  · exact absurd e (by decide)
  rcases List.mem_cons.mp hq with rfl | hq
  · exact absurd e (by decide)
  rcases List.mem_cons.mp hq with rfl | hq
  · exact absurd e (by decide)
  cases hq
theorem ok__law_fraction : FI.Ok tab fns 17 i__law_fraction := ⟨⟨rfl, rfl, rfl, by decide +kernel, rfl, by decide +kernel, by decide +kernel⟩, rfl, ⟨b__law_fraction, rfl, by decide +kernel⟩, (fun _ _ _ _ _ _ us hl => match us, hl with | [_], _ => rfl), kw__law_fraction, rfl⟩
theorem kw__law_sum : FI.Kw tab 18 i__law_sum := by
  intro q hq e
  simp only [tab] at hq
  rcases List.mem_cons.mp hq with rfl | hq
  · exact absurd e (by decide)
  rcases List.mem_cons.mp hq with rfl | hq
  · exact absurd e (by decide)
  rcases List.mem_cons.mp hq with rfl | hq
  · exact absurd e (by decide)
  rcases List.mem_cons.mp hq with rfl | hq
  · exact absurd e (by decide)
  rcases List.mem_cons.mp hq with rfl | hq
  · exact absurd e (by decide)
  rcases List.mem_cons.mp hq with rfl | hq
  · exact absurd e (by decide)
  rcases List.mem_cons.mp hq with rfl | hq
  · exact absurd e (by decide)
  rcases List.mem_cons.mp hq with rfl | hq
  · exact absurd e (by decide)
  cases hq
theorem ok__law_sum : FI.Ok tab fns 18 i__law_sum := ⟨⟨rfl, rfl, rfl, by decide +kernel, rfl, by decide +kernel, by decide +kernel⟩, rfl, ⟨b__law_sum, rfl, by decide +kernel⟩, (fun _ _ _ _ _ _ us hl => match us, hl with | [_], _ => rfl), kw__law_sum, rfl⟩
theorem kw__law_pair_right : FI.Kw tab 19 i__law_pair_right := by
  intro q hq e
  simp only [tab] at hq
  rcases List.mem_cons.mp hq with rfl | hq
  · exact absurd e (by decide)
  rcases List.mem_cons.mp hq with rfl | hq
  · exact absurd e (by decide)
  rcases List.mem_cons.mp hq with rfl | hq
  · exact absurd e (by decide)
  rcases List.mem_cons.mp hq with rfl | hq
  · exact absurd e (by decide)
  rcases List.mem_cons.mp hq with rfl | hq
  · exact absurd e (by decide)
  rcases List.mem_cons.mp hq with rfl | hq
  · exact absurd e (by decide)
  rcases List.mem_cons.mp hq with rfl | hq
  · exact absurd e (by decide)
  rcases List.mem_cons.mp hq with rfl | hq
  · exact absurd e (by decide)
  cases hq
theorem ok__law_pair_right : FI.Ok tab fns 19 i__law_pair_right := ⟨⟨rfl, rfl, rfl, by decide +kernel, rfl, by decide +kernel, by decide +kernel⟩, rfl, ⟨b__law_pair_right, rfl, by decide +kernel⟩, (fun _ _ _ _ _ _ us hl => match us, hl with | [_, _], _ => rfl), kw__law_pair_right, rfl⟩
theorem kw__law_is : FI.Kw tab 20 i__law_is := by
  intro q hq e
  simp only [tab] at hq
  rcases List.mem_cons.mp hq with rfl | hq
  · exact absurd e (by decide)
  rcases List.mem_cons.mp hq with rfl | hq
  · exact absurd e (by decide)
  rcases List.mem_cons.mp hq with rfl | hq
  · exact absurd e (by decide)
  rcases List.mem_cons.mp hq with rfl | hq
  · exact absurd e (by decide)
  rcases List.mem_cons.mp hq with rfl | hq
  · exact absurd e (by decide)
  rcases List.mem_cons.mp hq with rfl | hq
  · exact absurd e (by decide)
  rcases List.mem_cons.mp hq with rfl | hq
  · exact absurd e (by decide)
  rcases List.mem_cons.mp hq with rfl | hq
  · exact absurd e (by decide)
  cases hq
theorem ok__law_is : FI.Ok tab fns 20 i__law_is := ⟨⟨rfl, rfl, rfl, by decide +kernel, rfl, by decide +kernel, by decide +kernel⟩, rfl, ⟨b__law_is, rfl, by decide +kernel⟩, (fun _ _ _ _ _ _ us hl => match us, hl with | [_], _ => rfl), kw__law_is, rfl⟩
theorem kw__law_bent : FI.Kw tab 21 i__law_bent := by
  intro q hq e
  simp only [tab] at hq
  rcases List.mem_cons.mp hq with rfl | hq
  · exact absurd e (by decide)
  rcases List.mem_cons.mp hq with rfl | hq
  · exact absurd e (by decide)
  rcases List.mem_cons.mp hq with rfl | hq
  · exact absurd e (by decide)
  rcases List.mem_cons.mp hq with rfl | hq
  · exact absurd e (by decide)
  rcases List.mem_cons.mp hq with rfl | hq
  · exact absurd e (by decide)
  rcases List.mem_cons.mp hq with rfl | hq
  · exact absurd e (by decide)
  rcases List.mem_cons.mp hq with rfl | hq
  · exact absurd e (by decide)
  rcases List.mem_cons.mp hq with rfl | hq
  · exact absurd e (by decide)
  cases hq
theorem ok__law_bent : FI.Ok tab fns 21 i__law_bent := ⟨⟨rfl, rfl, rfl, by decide +kernel, rfl, by decide +kernel, by decide +kernel⟩, rfl, ⟨b__law_bent, rfl, by decide +kernel⟩, (fun _ _ _ _ _ _ us hl => match us, hl with | [_, _], _ => rfl), kw__law_bent, rfl⟩
theorem kw__law_by_hand : FI.Kw tab 22 i__law_by_hand := by
  intro q hq e
  simp only [tab] at hq
  rcases List.mem_cons.mp hq with rfl | hq
  · exact absurd e (by decide)
  rcases List.mem_cons.mp hq with rfl | hq
  · exact absurd e (by decide)
  rcases List.mem_cons.mp hq with rfl | hq
  · exact absurd e (by decide)
  rcases List.mem_cons.mp hq with rfl | hq
  · exact absurd e (by decide)
  rcases List.mem_cons.mp hq with rfl | hq
  · exact absurd e (by decide)
  rcases List.mem_cons.mp hq with rfl | hq
  · exact absurd e (by decide)
  rcases List.mem_cons.mp hq with rfl | hq
  · exact absurd e (by decide)
  rcases List.mem_cons.mp hq with rfl | hq
  · exact absurd e (by decide)
  cases hq
theorem ok__law_by_hand : FI.Ok tab fns 22 i__law_by_hand := ⟨⟨rfl, rfl, rfl, by decide +kernel, rfl, by decide +kernel, by decide +kernel⟩, rfl, ⟨b__law_by_hand, rfl, by decide +kernel⟩, (fun _ _ _ _ _ _ us hl => match us, hl with | [], _ => rfl), kw__law_by_hand, rfl⟩
theorem kw_law : FI.Kw tab 23 i_law := by
  intro q hq e
  simp only [tab] at hq
  rcases List.mem_cons.mp hq with rfl | hq
  · exact absurd e (by decide)
  rcases List.mem_cons.mp hq with rfl | hq
  · exact absurd e (by decide)
  rcases List.mem_cons.mp hq with rfl | hq
  · exact absurd e (by decide)
  rcases List.mem_cons.mp hq with rfl | hq
  · exact absurd e (by decide)
  rcases List.mem_cons.mp hq with rfl | hq
  · exact absurd e (by decide)
  rcases List.mem_cons.mp hq with rfl | hq
  · exact absurd e (by decide)
  rcases List.mem_cons.mp hq with rfl | hq
  · exact absurd e (by decide)
  rcases List.mem_cons.mp hq with rfl | hq
  · exact absurd e (by decide)
  cases hq
theorem ok_law : FI.Ok tab fns 23 i_law := ⟨⟨rfl, rfl, rfl, by decide +kernel, rfl, by decide +kernel, by decide +kernel⟩, rfl, ⟨b_law, rfl, by decide +kernel⟩, (fun _ _ _ _ _ _ us hl => match us, hl with | [_], _ => rfl), kw_law, rfl⟩
theorem oks : ∀ f i, fis[f]? = some i → FI.Ok tab fns f i
  | 0, _, h => by cases h; exact ok_is_integer
  | 1, _, h => by cases h; exact ok_is_tuple_of
  | 2, _, h => by cases h; exact ok_divisor
  | 3, _, h => by cases h; exact ok_lowest
  | 4, _, h => by cases h; exact ok_added
  | 5, _, h => by cases h; exact ok_product
  | 6, _, h => by cases h; exact ok_quotient
  | 7, _, h => by cases h; exact ok_size_of
  | 8, _, h => by cases h; exact ok_is_below
  | 9, _, h => by cases h; exact ok_is_fraction
  | 10, _, h => by cases h; exact ok_fraction_sum
  | 11, _, h => by cases h; exact ok__law_kettle
  | 12, _, h => by cases h; exact ok__law_dip
  | 13, _, h => by cases h; exact ok__law_like
  | 14, _, h => by cases h; exact ok__law_shared
  | 15, _, h => by cases h; exact ok__law_low
  | 16, _, h => by cases h; exact ok__law_figure
  | 17, _, h => by cases h; exact ok__law_fraction
  | 18, _, h => by cases h; exact ok__law_sum
  | 19, _, h => by cases h; exact ok__law_pair_right
  | 20, _, h => by cases h; exact ok__law_is
  | 21, _, h => by cases h; exact ok__law_bent
  | 22, _, h => by cases h; exact ok__law_by_hand
  | 23, _, h => by cases h; exact ok_law
  | n + 24, _, h => by cases h
abbrev R : PySem.W.OpenRow := PySem.W.OpenLaw.row PySem.Challenge.rw_everbounded_k08_fractions
abbrev hk : PySem.W.Hook := He.hookD 4 (faOf tab fis) (fis.map FI.dd)
def ob (s : PySem.W.SharedT) : He.AlD := He.obsDG 4 (faOf tab fis) (fis.map FI.dd) (HandSHeadRun.getT s)
theorem ob_eq (s : PySem.W.SharedT) : ob s = hk.obs s.abs := He.obsDG_eq (HandSHeadRun.getT_eq s)
def ls0 : List Str := ["is_integer", "is_tuple_of", "divisor", "lowest", "added", "product", "quotient", "size_of", "is_below", "is_fraction", "fraction_sum", "_law_kettle", "_law_dip", "_law_like", "_law_shared", "_law_low", "_law_figure", "_law_fraction", "_law_sum", "_law_pair_right", "_law_is", "_law_bent", "_law_by_hand"]
def loose : List Str := ls0
theorem run (w : World) : HandSHeadRun.RunEq R (PySem.W.view R.prog [26]) hk ob 2000 loose w := by
  intro os
  kernel_rfl
end K08

set_option Elab.async false
set_option linter.all false
set_option maxRecDepth 100000
set_option maxHeartbeats 4000000
namespace K08
open PySem MP
local macro_rules | `(tactic| close_w) => `(tactic| simp only [OkW_nil, OkW_nx, OkW_rt, OkW_bk, OkW_ct, sx, Ok_w, ev, evs, evo, evi, tst, Ok_bind, Ok_noexc, Ok_settled, Ok_ok, Ok_ifo, Ok_ifr, Ok_some, OkW_if, Ok_if, decide_eq_true_eq, decide_eq_false_iff_not, Bool.not_eq_true', Bool.not_eq_false', MP.bindT, MP.bindTs, parF, frAt, augW, wipeF, startF, gam_fuel, lstAt_0, lstAt_1, lstAt_2, lstAt_3, lstAt_app, lstAt_appS, set_app, set_appS, seqOf_tup, seqOf_fro, seqOf_lst, seqOf_ref, lstOf_fro, lstOf_lst, lstOf_ref, lstOf_tup, wOf_lst, wOf_ref, itOf_tup, itOf_fro, itOf_lst, itOf_ref, lenD_tup, lenD_fro, lenD_lst, lenD_ref, ix_tup, ix_fro, ix_lst, ix_ref, slc_tup, slc_fro, slc_lst, slc_ref, settle_non, settle_bl, settle_int, settle_str, settle_tup, settle_fro, settle_ref, settle_lst, addD_int, addD_tup, addD_lst, addD_str, addD_rl, cop_is, mulD_int, MP.bop_add, bop_mul, bop_sub, bop_fdiv, bop_mod, bop_pow, bop_shl, MP.cop_lt, MP.cop_le, MP.cop_gt, MP.cop_ge, MP.cop_eq, MP.cop_ne, tru_bl, tru_int, tru_non, tru_tup, isTy_int, isTy_bl, isTy_non, isTy_str, isTy_tup, isTy_lst, isTy_ref, bt_len, bt_abs, bt_int, bt_intb, bt_tup, bt_tupl, bt_tupr, bt_list, bt_sum, bt_min, bt_max, bt_min2, bt_max2, recv_ref, putAt_ref, meth_append, meth_pop, atI_0, atI_1, atI_2, atI_3, ixN_0, ixN_1, ixN_2, ixN_3, Option.isSome_some, Option.some.injEq, Option.map_some, Option.bind_some, Option.map_none, Option.bind_none, List.map_cons, List.map_nil, List.cons_append, List.nil_append, List.length_cons, List.length_nil, List.getElem?_cons_succ, List.getElem?_cons_zero, List.set_cons_succ, List.set_cons_zero, List.replicate_zero, List.replicate_succ, Nat.zero_add, Nat.reduceAdd, Nat.reduceSub, Nat.reduceLT, ↓reduceIte, Nat.lt_add_left_iff_pos, Nat.zero_lt_succ, reduceCtorEq, false_and, and_false, true_and, and_true, or_false, false_or, or_true, true_or, decide_true, decide_false, Bool.not_true, Bool.not_false, cond_true, cond_false, false_implies, true_implies, implies_true, not_true_eq_false, not_false_eq_true, Bool.false_eq_true, Bool.true_eq_false])
def FU : Nat := B 700
abbrev g (k : Nat) : G := gam fns FU k
theorem lt_FU {n : Nat} (h : n < B 600) : n < FU := Nat.lt_trans h (B_lt (by decide))
theorem divisor_ok (a b : Int) (hb : b.natAbs < B 600) (k : Nat) (s : Sto) : (g (k + 1)).call 2 [.int a, .int b] s = .ok (.int (Int.gcd a b)) s := by
  refine Ok.eq (Ok_call rfl rfl ?_)
  show OkW (sxs _ b_divisor _ s) _
  unfold b_divisor
  refine OkW_then fun N hN => ?_; close_w; refine hN _ _ ?_
  rw [abs_nat, abs_nat]
  refine OkW_then fun N hN => ?_
  rw [sx, gam_fuel]
  refine OkW_whl (fun m fr s' => ∃ x y : Nat, fr = [some (.int x), some (.int y)] ∧ s' = s ∧ m = y ∧ Nat.gcd x y = Int.gcd a b) ?_ FU b.natAbs (lt_FU hb) ⟨a.natAbs, b.natAbs, rfl, rfl, rfl, rfl⟩
  rintro m fr s1 ⟨x, y, rfl, rfl, rfl, hg⟩
  close_w
  by_cases hy : m = 0
  · subst hy
    refine hN _ _ ?_
    refine OkW_then fun N hN => ?_; close_w
    rw [leave_id rfl]
    rw [← hg]
    simp [Ok]
  · have h1 : (!decide ((m : Int) = 0)) = true := by simp; omega
    rw [h1]
    refine OkW_then fun N hN => ?_; close_w
    have h2 : (0 : Int) < m := by omega
    simp only [modP h2]
    close_w
    refine hN _ _ ?_
    rw [OkW_nil]
    exact ⟨x % m, Nat.mod_lt _ (by omega), m, x % m, by simp, rfl, rfl, by rw [← hg, Nat.gcd_comm m, ← Nat.gcd_rec, Nat.gcd_comm]⟩
theorem shared_ok (x y : Nat) (hb : y < B 600) (k : Nat) (s : Sto) : (g (k + 1)).call 14 [.int x, .int y] s = .ok (.int (Nat.gcd x y)) s := by
  refine Ok.eq (Ok_call rfl rfl ?_)
  show OkW (sxs _ b__law_shared _ s) _
  unfold b__law_shared
  refine OkW_then fun N hN => ?_
  rw [sx, gam_fuel]
  refine OkW_whl (fun m fr s' => ∃ u v : Nat, fr = [some (.int u), some (.int v)] ∧ s' = s ∧ m = v ∧ Nat.gcd u v = Nat.gcd x y) ?_ FU y (lt_FU hb) ⟨x, y, rfl, rfl, rfl, rfl⟩
  rintro m fr s1 ⟨u, v, rfl, rfl, rfl, hg⟩
  close_w
  by_cases hy : m = 0
  · subst hy
    refine hN _ _ ?_
    refine OkW_then fun N hN => ?_; close_w
    rw [leave_id rfl]
    rw [← hg]
    simp [Ok]
  · have h2 : (0 : Int) < m := by omega
    have h1 : decide ((0 : Int) < m) = true := by simp; omega
    rw [h1]
    refine OkW_then fun N hN => ?_; close_w
    simp only [modP h2]
    close_w
    refine hN _ _ ?_
    rw [OkW_nil]
    exact ⟨u % m, Nat.mod_lt _ (by omega), m, u % m, by simp, rfl, rfl, by rw [← hg, Nat.gcd_comm m, ← Nat.gcd_rec, Nat.gcd_comm]⟩
/-! ### the draws -/
def ket (L : List Int) (h c q : Int) : Sto := [.lst (L.map .int), .lst [.ref 0, .int h, .int c, .int q]]
def KP (L : List Int) : Prop := (∀ x ∈ L, 0 ≤ x) ∧ L.length ≤ 64
def Ks (t s : Sto) : Prop := ∃ L h c q, s = ket L h c q ++ t ∧ KP L
def Tc (t : Sto) : Prop := t.all (O.clean · (t.length + 2)) = true
theorem cleans_ints (n : Nat) (ns : List Int) : D.cleans (ns.map .int) n = true := D.pures_clean _ n (pures_ints ns)
theorem ket_leave {L L' : List Int} {h c q h' c' q' i : Int} {t : Sto} (ht : Tc t) : leave (ket L h c q ++ t) (.int i) (ket L' h' c' q' ++ t) = .ok (.int i) (ket L' h' c' q' ++ t) := by
  have e : (ket L h c q ++ t).length = t.length + 2 := by simp [ket]
  refine leave_mod0 (by simp [ket]) ?_ rfl
  rw [e, List.all_append, show t.all (O.clean · (t.length + 2)) = true from ht]
  simp [ket, O.clean, D.cleans, D.clean, cleans_ints]
theorem ladle_eq (L : List Int) (hl : 0 < (L.map D.int).length) : ∃ (L0 : List Int) (a : Int), L = L0 ++ [a] := by
  rcases List.eq_nil_or_concat L with rfl | ⟨L0, a, rfl⟩
  · simp at hl
  · exact ⟨L0, a, by simp⟩
theorem log_ok {j : Int} (h0 : 0 < j) (h : j < 2 ^ 62) : 0 < j ∧ LogOk j := by
  refine ⟨h0, ?_⟩
  have h1 : j.natAbs < 2 ^ 62 := by omega
  have := (Nat.log2_lt (by omega)).mpr h1
  unfold LogOk
  omega
theorem dip_ok {s t : Sto} (hs : Ks t s) (ht : Tc t) (spot many : Int) (hm : many < 2 ^ 62) (k : Nat) : Ok nox ((g (k + 1)).call 12 [.ref 1, .int spot, .int many] s) fun d s' => ∃ i, d = .int i ∧ Ks t s' ∧ (many < 2 → i = 0) ∧ (2 ≤ many → 0 ≤ i ∧ i < many) := by
  obtain ⟨L, h, c, q, rfl, hL⟩ := hs
  refine Ok_call rfl rfl ?_
  show OkW (sxs _ b__law_dip _ _) _
  unfold b__law_dip
  rw [ket]
  refine OkW_then fun N hN => ?_; close_w
  refine ⟨fun h1 => ?_, fun h1 => ?_⟩
  · refine OkW_then fun N hN => ?_; close_w
    have := ket_leave (L := L) (L' := L) (h := h) (h' := h) (c := c) (c' := c) (q := q) (q' := q) (i := 0) ht
    rw [ket] at this
    simp only [List.cons_append, List.nil_append] at this
    rw [this]
    exact ⟨0, rfl, ⟨L, h, c, q, rfl, hL⟩, fun _ => rfl, fun h => by omega⟩
  refine hN _ _ ?_
  refine OkW_then fun N hN => ?_; close_w
  have hlog := log_ok (j := many) (by omega) hm
  have hmod : (0 : Int) < many := by omega
  have fin : ∀ (L' : List Int) (h' c' q' i : Int), KP L' → 0 ≤ i ∧ i < many → Ok nox (leave (O.lst (List.map D.int L) :: O.lst [D.ref 0, D.int h, D.int c, D.int q] :: t) (.int i) (O.lst (List.map D.int L') :: O.lst [D.ref 0, D.int h', D.int c', D.int q'] :: t)) fun d s' => ∃ i, d = .int i ∧ Ks t s' ∧ (many < 2 → i = 0) ∧ (2 ≤ many → 0 ≤ i ∧ i < many) := by
    intro L' h' c' q' i hL' hi
    have := ket_leave (L := L) (L' := L') (h := h) (h' := h') (c := c) (c' := c') (q := q) (q' := q') (i := i) ht
    rw [ket, ket] at this
    simp only [List.cons_append, List.nil_append] at this
    rw [this]
    exact ⟨i, rfl, ⟨L', h', c', q', rfl, hL'⟩, fun h => by omega, fun _ => hi⟩
  refine ⟨fun h2 => ?_, fun h2 => ?_⟩
  · obtain ⟨L0, a, rfl⟩ := ladle_eq L (by omega)
    have ha : 0 ≤ a := hL.1 a (by simp)
    have hL0 : ∀ x ∈ L0, 0 ≤ x := fun x hx => hL.1 x (by simp [hx])
    have hl0 : L0.length + 1 ≤ 64 := by have := hL.2; simpa using this
    refine OkW_then fun N hN => ?_; close_w
    have e1 : (List.map D.int (L0 ++ [a]))[(List.map D.int (L0 ++ [a])).length - 1]? = some (.int a) := by simp
    have e2 : (List.map D.int (L0 ++ [a])).dropLast = L0.map D.int := by simp
    simp only [e1, e2]
    close_w
    refine hN _ _ ?_
    have hr : 0 ≤ a % many ∧ a % many < many := ⟨Int.emod_nonneg _ (by omega), Int.emod_lt_of_pos _ (by omega)⟩
    refine OkW_then fun N2 hN2 => ?_; close_w
    refine ⟨fun h3 => ?_, fun h3 => ?_⟩
    · refine OkW_then fun N3 hN3 => ?_; close_w
      simp only [fdivP hlog]
      close_w
      refine ⟨by unfold Short lim; simp; omega, hN3 _ _ ?_⟩
      rw [OkW_nil]
      refine hN2 _ _ ?_
      refine OkW_then fun N hN => ?_; close_w
      simp only [modP hmod]
      close_w
      rw [show List.map D.int L0 ++ [D.int (a / many)] = List.map D.int (L0 ++ [a / many]) by simp]
      refine fin (L0 ++ [a / many]) h c q (a % many) ⟨fun x hx => ?_, by simpa using hl0⟩ hr
      · simp only [List.mem_append, List.mem_singleton] at hx
        rcases hx with hx | rfl
        · exact hL0 x hx
        · exact Int.ediv_nonneg ha (by omega)
    · refine hN2 _ _ ?_
      refine OkW_then fun N hN => ?_; close_w
      simp only [modP hmod]
      close_w
      exact fin L0 h c q (a % many) ⟨hL0, by omega⟩ hr
  · refine hN _ _ ?_
    refine OkW_then fun N hN => ?_; close_w
    refine hN _ _ ?_
    refine OkW_then fun N hN => ?_; close_w
    refine ⟨small_r (by decide), small_r (by decide), small_r (by decide), ?_⟩
    rw [modP (by decide)]
    close_w
    refine hN _ _ ?_
    refine OkW_then fun N hN => ?_; close_w
    refine ⟨small_r (by decide), ?_⟩
    rw [modP (by decide)]
    close_w
    refine hN _ _ ?_
    have hm0 := Int.emod_nonneg (q + spot * 1187) (show (57 : Int) ≠ 0 by decide)
    have hm1 := Int.emod_lt_of_pos (q + spot * 1187) (show (0 : Int) < 57 by decide)
    generalize (q + spot * 1187) % 57 = lid at hm0 hm1 ⊢
    refine OkW_then fun N hN => ?_; close_w
    refine ⟨fun h3 => ?_, fun h3 => ?_⟩
    · refine OkW_then fun N2 hN2 => ?_; close_w
      refine ⟨by decide, ?_⟩
      have : lid = 55 ∨ lid = 56 := by omega
      rcases this with rfl | rfl
      · rw [show (55 - 55 : Int) = 0 by decide]
        close_w
        exact fin L _ _ _ 0 hL (by omega)
      · rw [show (56 - 55 : Int) = 1 by decide]
        close_w
        exact fin L _ _ _ (many - 1) hL (by omega)
    · refine hN _ _ ?_
      refine OkW_then fun N hN => ?_; close_w
      rw [fdivP (by decide)]
      close_w
      rw [modP hmod]
      close_w
      exact fin L _ _ _ _ hL ⟨Int.emod_nonneg _ (by omega), Int.emod_lt_of_pos _ (by omega)⟩
end K08

set_option Elab.async false
set_option linter.all false
set_option maxRecDepth 100000
set_option maxHeartbeats 4000000
namespace K08
open PySem MP
local macro_rules | `(tactic| close_w) => `(tactic| simp only [OkW_nil, OkW_nx, OkW_rt, OkW_bk, OkW_ct, sx, Ok_w, ev, evs, evo, evi, tst, Ok_bind, Ok_noexc, Ok_settled, Ok_ok, Ok_ifo, Ok_ifr, Ok_some, OkW_if, Ok_if, decide_eq_true_eq, decide_eq_false_iff_not, Bool.not_eq_true', Bool.not_eq_false', MP.bindT, MP.bindTs, parF, frAt, augW, wipeF, startF, gam_fuel, lstAt_0, lstAt_1, lstAt_2, lstAt_3, lstAt_app, lstAt_appS, set_app, set_appS, seqOf_tup, seqOf_fro, seqOf_lst, seqOf_ref, lstOf_fro, lstOf_lst, lstOf_ref, lstOf_tup, wOf_lst, wOf_ref, itOf_tup, itOf_fro, itOf_lst, itOf_ref, lenD_tup, lenD_fro, lenD_lst, lenD_ref, ix_tup, ix_fro, ix_lst, ix_ref, slc_tup, slc_fro, slc_lst, slc_ref, settle_non, settle_bl, settle_int, settle_str, settle_tup, settle_fro, settle_ref, settle_lst, addD_int, addD_tup, addD_lst, addD_str, addD_rl, cop_is, mulD_int, MP.bop_add, bop_mul, bop_sub, bop_fdiv, bop_mod, bop_pow, bop_shl, MP.cop_lt, MP.cop_le, MP.cop_gt, MP.cop_ge, MP.cop_eq, MP.cop_ne, tru_bl, tru_int, tru_non, tru_tup, isTy_int, isTy_bl, isTy_non, isTy_str, isTy_tup, isTy_lst, isTy_ref, bt_len, bt_abs, bt_int, bt_intb, bt_tup, bt_tupl, bt_tupr, bt_list, bt_sum, bt_min, bt_max, bt_min2, bt_max2, recv_ref, putAt_ref, meth_append, meth_pop, atI_0, atI_1, atI_2, atI_3, ixN_0, ixN_1, ixN_2, ixN_3, Option.isSome_some, Option.some.injEq, Option.map_some, Option.bind_some, Option.map_none, Option.bind_none, List.map_cons, List.map_nil, List.cons_append, List.nil_append, List.length_cons, List.length_nil, List.getElem?_cons_succ, List.getElem?_cons_zero, List.set_cons_succ, List.set_cons_zero, List.replicate_zero, List.replicate_succ, Nat.zero_add, Nat.reduceAdd, Nat.reduceSub, Nat.reduceLT, ↓reduceIte, Nat.lt_add_left_iff_pos, Nat.zero_lt_succ, reduceCtorEq, false_and, and_false, true_and, and_true, or_false, false_or, or_true, true_or, decide_true, decide_false, Bool.not_true, Bool.not_false, cond_true, cond_false, false_implies, true_implies, implies_true, not_true_eq_false, not_false_eq_true, Bool.false_eq_true, Bool.true_eq_false])

/-! ### fractions -/
def low (t b : Int) : Int × Int := if b < 0 then (-t / (Int.gcd t b : Int), -b / (Int.gcd t b : Int)) else (t / (Int.gcd t b : Int), b / (Int.gcd t b : Int))
def fd (p : Int × Int) : D := .tup [.int p.1, .int p.2]
theorem gcd_pos {t b : Int} (h : b ≠ 0) : 0 < Int.gcd t b := Int.gcd_pos_iff.mpr (.inr h)
theorem gcd_B {t b : Int} {n : Nat} (h : b ≠ 0) (hb : b.natAbs < B n) : ((Int.gcd t b : Nat) : Int).natAbs < B n := by
  rw [Int.natAbs_natCast]
  exact Nat.lt_of_le_of_lt (Nat.le_of_dvd (by omega) (Int.gcd_eq_natAbs_gcd_natAbs t b ▸ Nat.gcd_dvd_right t.natAbs b.natAbs)) hb
theorem lowest_ok (t b : Int) (hb : b.natAbs < B 590) (h0 : b ≠ 0) (k : Nat) (s : Sto) : (g (k + 2)).call 3 [.int t, .int b] s = .ok (fd (low t b)) s := by
  refine Ok.eq (Ok_call rfl rfl ?_)
  show OkW (sxs _ b_lowest _ s) _
  unfold b_lowest
  have hg := gcd_pos (t := t) h0
  have hl := fdiv_B (j := ((Int.gcd t b : Nat) : Int)) (by omega) (gcd_B h0 hb) (by decide)
  refine OkW_then fun N hN => ?_; close_w
  refine ⟨fun h1 => ?_, fun h1 => ?_⟩
  · refine OkW_then fun N2 hN2 => ?_; close_w
    refine hN2 _ _ ?_
    rw [OkW_nil]
    refine hN _ _ ?_
    refine OkW_then fun N hN => ?_; close_w
    rw [divisor_ok (-t) (-b) (by rw [Int.natAbs_neg]; exact B_up hb (by decide)) k s, Int.neg_gcd, Int.gcd_neg]
    close_w
    refine hN _ _ ?_
    refine OkW_then fun N hN => ?_; close_w
    simp only [fdivP hl]
    close_w
    refine ⟨by decide, ?_⟩
    rw [leave_id rfl, low, if_pos h1]
    exact ⟨rfl, rfl⟩
  · refine hN _ _ ?_
    refine OkW_then fun N hN => ?_; close_w
    rw [divisor_ok t b (B_up hb (by decide)) k s]
    close_w
    refine hN _ _ ?_
    refine OkW_then fun N hN => ?_; close_w
    simp only [fdivP hl]
    close_w
    refine ⟨by decide, ?_⟩
    rw [leave_id rfl, low, if_neg h1]
    exact ⟨rfl, rfl⟩
theorem law_low_ok (t b : Int) (hb : b.natAbs < B 590) (h0 : b ≠ 0) (k : Nat) (s : Sto) : (g (k + 2)).call 15 [.int t, .int b] s = .ok (fd (low t b)) s := by
  refine Ok.eq (Ok_call rfl rfl ?_)
  show OkW (sxs _ b__law_low _ s) _
  unfold b__law_low
  have hg := gcd_pos (t := t) h0
  have hl := fdiv_B (j := ((Int.gcd t b : Nat) : Int)) (by omega) (gcd_B h0 hb) (by decide)
  have hd1 : ((Int.gcd t b : Nat) : Int) ∣ t := Int.gcd_dvd_left ..
  have hd2 : ((Int.gcd t b : Nat) : Int) ∣ b := Int.gcd_dvd_right ..
  refine OkW_then fun N hN => ?_; close_w
  rw [abs_nat, abs_nat, shared_ok _ _ (B_up hb (by decide)) k s]
  close_w
  rw [show Nat.gcd t.natAbs b.natAbs = Int.gcd t b from (Int.gcd_eq_natAbs_gcd_natAbs t b).symm]
  refine ⟨fun h1 => ?_, fun h1 => ?_⟩
  · refine ⟨small_r (by decide), ?_⟩
    refine hN _ _ ?_
    rw [Int.mul_one]
    refine OkW_then fun N hN => ?_; close_w
    simp only [fdivP hl]
    close_w
    refine ⟨by decide, ?_⟩
    rw [leave_id rfl, low, if_neg (by omega)]
    exact ⟨rfl, rfl⟩
  · refine ⟨small_r (by decide), ?_⟩
    refine hN _ _ ?_
    rw [Int.mul_neg, Int.mul_one]
    refine OkW_then fun N hN => ?_; close_w
    have h2 : ∀ i : Int, fdivI i (-((Int.gcd t b : Nat) : Int)) = some (i.fdiv (-((Int.gcd t b : Nat) : Int))) := fun i => fdivN (by omega) (by unfold LogOk; rw [Int.natAbs_neg]; exact hl.2)
    simp only [h2]
    close_w
    refine ⟨by decide, ?_⟩
    rw [leave_id rfl, low, if_pos (by omega), Int.fdiv_eq_ediv_of_dvd (Int.neg_dvd.mpr hd1), Int.fdiv_eq_ediv_of_dvd (Int.neg_dvd.mpr hd2), Int.ediv_neg, Int.ediv_neg, Int.neg_ediv_of_dvd hd1, Int.neg_ediv_of_dvd hd2]
    exact ⟨rfl, rfl⟩
end K08

set_option Elab.async false
set_option linter.all false
set_option maxRecDepth 100000
set_option maxHeartbeats 4000000
namespace K08
open PySem MP
local macro_rules | `(tactic| close_w) => `(tactic| simp only [OkW_nil, OkW_nx, OkW_rt, OkW_bk, OkW_ct, sx, Ok_w, ev, evs, evo, evi, tst, Ok_bind, Ok_noexc, Ok_settled, Ok_ok, Ok_ifo, Ok_ifr, Ok_some, OkW_if, Ok_if, decide_eq_true_eq, decide_eq_false_iff_not, Bool.not_eq_true', Bool.not_eq_false', MP.bindT, MP.bindTs, parF, frAt, augW, wipeF, startF, gam_fuel, lstAt_0, lstAt_1, lstAt_2, lstAt_3, lstAt_app, lstAt_appS, set_app, set_appS, seqOf_tup, seqOf_fro, seqOf_lst, seqOf_ref, lstOf_fro, lstOf_lst, lstOf_ref, lstOf_tup, wOf_lst, wOf_ref, itOf_tup, itOf_fro, itOf_lst, itOf_ref, lenD_tup, lenD_fro, lenD_lst, lenD_ref, ix_tup, ix_fro, ix_lst, ix_ref, slc_tup, slc_fro, slc_lst, slc_ref, settle_non, settle_bl, settle_int, settle_str, settle_tup, settle_fro, settle_ref, settle_lst, addD_int, addD_tup, addD_lst, addD_str, addD_rl, cop_is, mulD_int, MP.bop_add, bop_mul, bop_sub, bop_fdiv, bop_mod, bop_pow, bop_shl, MP.cop_lt, MP.cop_le, MP.cop_gt, MP.cop_ge, MP.cop_eq, MP.cop_ne, tru_bl, tru_int, tru_non, tru_tup, isTy_int, isTy_bl, isTy_non, isTy_str, isTy_tup, isTy_lst, isTy_ref, bt_len, bt_abs, bt_int, bt_intb, bt_tup, bt_tupl, bt_tupr, bt_list, bt_sum, bt_min, bt_max, bt_min2, bt_max2, recv_ref, putAt_ref, meth_append, meth_pop, atI_0, atI_1, atI_2, atI_3, ixN_0, ixN_1, ixN_2, ixN_3, Option.isSome_some, Option.some.injEq, Option.map_some, Option.bind_some, Option.map_none, Option.bind_none, List.map_cons, List.map_nil, List.cons_append, List.nil_append, List.length_cons, List.length_nil, List.getElem?_cons_succ, List.getElem?_cons_zero, List.set_cons_succ, List.set_cons_zero, List.replicate_zero, List.replicate_succ, Nat.zero_add, Nat.reduceAdd, Nat.reduceSub, Nat.reduceLT, ↓reduceIte, Nat.lt_add_left_iff_pos, Nat.zero_lt_succ, reduceCtorEq, false_and, and_false, true_and, and_true, or_false, false_or, or_true, true_or, decide_true, decide_false, Bool.not_true, Bool.not_false, cond_true, cond_false, false_implies, true_implies, implies_true, not_true_eq_false, not_false_eq_true, Bool.false_eq_true, Bool.true_eq_false])
theorem rngOk_nat {n : Nat} (h : n ≤ 1000000) : rngOk 0 (n : Int) = true := by
  unfold rngOk
  simp only [Bool.and_eq_true, decide_eq_true_eq]
  omega
theorem rngD_get {n j : Nat} {x : D} (h : (rngD 0 (n : Int))[j]? = some x) : x = .int j ∧ j < n := by
  unfold rngD at h
  rw [List.getElem?_map] at h
  have e : ((n : Int) - 0).toNat = n := by omega
  rw [e] at h
  cases hr : (List.range n)[j]? with
  | none => rw [hr] at h; cases h
  | some m =>
    rw [hr] at h
    obtain ⟨h1, h2⟩ := List.getElem?_eq_some_iff.mp hr
    simp at h1 h2 h
    subst h2
    exact ⟨h.symm, h1⟩
theorem rngD_len {n : Nat} : (rngD 0 (n : Int)).length = n := by
  unfold rngD
  simp
theorem eqD_bl (s : Sto) (a : Bool) : eqD s (.bl a) (.bl a) = some true := by cases a <;> rfl
/-- values of truths, ints and tuples -/
def Vt : Nat → D → Prop
  | _, .bl _ => True
  | _, .int _ => True
  | n + 1, .tup xs => xs.length ≤ 1000 ∧ ∀ x ∈ xs, Vt n x
  | _, _ => False
theorem Vt.settle {n : Nat} {d : D} (h : Vt n d) (s : Sto) : MP.settle d s = (d, s) := by
  cases d <;> first | rfl | (exfalso; cases n <;> simp [Vt] at h; done)
theorem like_tup {n : Nat} (ih : ∀ (d : D), Vt n d → ∀ (k : Nat) (s : Sto), (g (k + n + 1)).call 13 [d, d] s = .ok (.bl true) s) (xs : List D) (h1 : xs.length ≤ 1000) (h2 : ∀ x ∈ xs, Vt n x) (k : Nat) (s : Sto) : Ok nox ((g (k + n + 1 + 1)).call 13 [.tup xs, .tup xs] s) fun d s' => d = .bl true ∧ s' = s := by
  refine Ok_call rfl rfl ?_
  show OkW (sxs _ b__law_like _ s) _
  unfold b__law_like
  refine OkW_then fun N hN => ?_; close_w
  refine hN _ _ ?_
  refine OkW_then fun N hN => ?_; close_w
  refine OkW_then fun N hN => ?_; close_w
  refine ⟨rngOk_nat (by omega), by rw [rngD_len]; unfold Short lim; omega, ?_⟩
  refine Ok_comp (fun _ ys s' => ys = [] ∧ s' = s) _ 0 [] ⟨rfl, rfl⟩ (fun _ _ _ _ => rfl) ?_ ?_
  · rintro j x ys s' hx ⟨rfl, rfl⟩
    obtain ⟨rfl, hj⟩ := rngD_get hx
    have hx : xs[j]? = some xs[j] := List.getElem?_eq_getElem hj
    have hv : Vt n xs[j] := h2 _ (List.getElem_mem hj)
    close_w
    simp only [atI_nat hj, hx]
    close_w
    rw [hv.settle, hv.settle, ih _ hv]
    close_w
    first | exact ⟨rfl, rfl⟩ | rfl
  · rintro zs s' ⟨h, rfl⟩
    simp at h
    subst h
    close_w
    rw [leave_id rfl]
    exact ⟨rfl, rfl⟩
theorem like_ok : ∀ (n : Nat) (d : D), Vt n d → ∀ (k : Nat) (s : Sto), (g (k + n + 1)).call 13 [d, d] s = .ok (.bl true) s := by
  have base : ∀ (n : Nat) (d : D), (∀ xs, d ≠ .tup xs) → Vt n d → ∀ (k : Nat) (s : Sto), (g (k + 1)).call 13 [d, d] s = .ok (.bl true) s := by
    intro n d hn hd k s
    refine Ok.eq (Ok_call rfl rfl ?_)
    show OkW (sxs _ b__law_like _ s) _
    unfold b__law_like
    refine OkW_then fun N hN => ?_; close_w
    cases d with
    | bl b =>
      close_w
      refine OkW_then fun N hN => ?_; close_w
      rw [show cop .eq s (.bl b) (.bl b) = some true from eqD_bl s b]
      close_w
      rw [leave_id rfl]
      exact ⟨rfl, rfl⟩
    | int i =>
      close_w
      refine hN _ _ ?_
      refine OkW_then fun N hN => ?_; close_w
      refine hN _ _ ?_
      refine OkW_then fun N hN => ?_; close_w
      rw [leave_id rfl]
      exact ⟨rfl, rfl⟩
    | tup xs => exact absurd rfl (hn xs)
    | _ => exfalso; cases n <;> simp [Vt] at hd
  intro n
  induction n with
  | zero => exact fun d hd k s => base 0 d (fun xs e => by subst e; exact hd) hd k s
  | succ n ih =>
    intro d hd k s
    by_cases ht : ∃ xs, d = .tup xs
    · obtain ⟨xs, rfl⟩ := ht
      exact Ok.eq (like_tup ih xs hd.1 hd.2 k s)
    · exact base _ d (fun xs e => ht ⟨xs, e⟩) hd (k + n + 1) s
/-! ### the others of the program -/
def Fr1 (n : Nat) (p : Int × Int) : Prop := p.1.natAbs < B n ∧ p.2.natAbs < B n ∧ 0 < p.2
theorem mul_ne {a b : Int} (ha : 0 < a) (hb : 0 < b) : a * b ≠ 0 := by
  have := Int.mul_pos ha hb; omega
theorem low_B {t b : Int} {n m : Nat} (h0 : b ≠ 0) (ht : t.natAbs < B n) (hb : b.natAbs < B m) : (low t b).1.natAbs < B n ∧ (low t b).2.natAbs < B m ∧ 0 < (low t b).2 := by
  have hg := gcd_pos (t := t) h0
  have hd2 : ((Int.gcd t b : Nat) : Int) ∣ b := Int.gcd_dvd_right ..
  have hd1 : ((Int.gcd t b : Nat) : Int) ∣ t := Int.gcd_dvd_left ..
  have le : ∀ x : Int, ((Int.gcd t b : Nat) : Int) ∣ x → (x / ((Int.gcd t b : Nat) : Int)).natAbs ≤ x.natAbs := fun x hx => by
    obtain ⟨y, rfl⟩ := hx
    rw [Int.mul_ediv_cancel_left _ (by omega), Int.natAbs_mul, Int.natAbs_natCast]
    exact Nat.le_mul_of_pos_left _ hg
  have pos : ∀ x : Int, ((Int.gcd t b : Nat) : Int) ∣ x → 0 < x → 0 < x / ((Int.gcd t b : Nat) : Int) := fun x hx h => Int.ediv_pos_of_pos_of_dvd h (by omega) hx
  unfold low
  split
  · exact ⟨Nat.lt_of_le_of_lt (le (-t) (Int.dvd_neg.mpr hd1)) (by rw [Int.natAbs_neg]; exact ht), Nat.lt_of_le_of_lt (le (-b) (Int.dvd_neg.mpr hd2)) (by rw [Int.natAbs_neg]; exact hb), pos _ (Int.dvd_neg.mpr hd2) (by omega)⟩
  · exact ⟨Nat.lt_of_le_of_lt (le t hd1) ht, Nat.lt_of_le_of_lt (le b hd2) hb, pos _ hd2 (by omega)⟩
theorem added_ok {p q : Int × Int} {n m : Nat} (hp : Fr1 n p) (hq : Fr1 m q) (h : n + m ≤ 590) (k : Nat) (s : Sto) : (g (k + 3)).call 4 [fd p, fd q] s = .ok (fd (low (p.1 * q.2 + q.1 * p.2) (p.2 * q.2))) s := by
  refine Ok.eq (Ok_call rfl rfl ?_)
  show OkW (sxs _ b_added _ s) _
  unfold b_added fd
  refine OkW_then fun N hN => ?_; close_w
  refine ⟨mulOk_B hp.1 hq.2.1 (by omega), mulOk_B hq.1 hp.2.1 (by omega), mulOk_B hp.2.1 hq.2.1 (by omega), ?_⟩
  rw [lowest_ok _ _ (B_up (mulI_B hp.2.1 hq.2.1) h) (mul_ne hp.2.2 hq.2.2), fd]
  close_w
  rw [leave_id rfl]
  exact ⟨rfl, rfl⟩
theorem product_ok {p q : Int × Int} {n m : Nat} (hp : Fr1 n p) (hq : Fr1 m q) (h : n + m ≤ 590) (k : Nat) (s : Sto) : (g (k + 3)).call 5 [fd p, fd q] s = .ok (fd (low (p.1 * q.1) (p.2 * q.2))) s := by
  refine Ok.eq (Ok_call rfl rfl ?_)
  show OkW (sxs _ b_product _ s) _
  unfold b_product fd
  refine OkW_then fun N hN => ?_; close_w
  refine ⟨mulOk_B hp.1 hq.1 (by omega), mulOk_B hp.2.1 hq.2.1 (by omega), ?_⟩
  rw [lowest_ok _ _ (B_up (mulI_B hp.2.1 hq.2.1) h) (mul_ne hp.2.2 hq.2.2), fd]
  close_w
  rw [leave_id rfl]
  exact ⟨rfl, rfl⟩
theorem quotient_ok {p q : Int × Int} {n m : Nat} (hp : Fr1 n p) (hq : Fr1 m q) (h0 : q.1 ≠ 0) (h : n + m ≤ 590) (k : Nat) (s : Sto) : (g (k + 3)).call 6 [fd p, fd q] s = .ok (fd (low (p.1 * q.2) (p.2 * q.1))) s := by
  refine Ok.eq (Ok_call rfl rfl ?_)
  show OkW (sxs _ b_quotient _ s) _
  unfold b_quotient fd
  refine OkW_then fun N hN => ?_; close_w
  refine ⟨mulOk_B hp.1 hq.2.1 (by omega), mulOk_B hp.2.1 hq.1 (by omega), ?_⟩
  rw [lowest_ok _ _ (B_up (mulI_B hp.2.1 hq.1) h) (Int.mul_ne_zero (by have := hp.2.2; omega) h0), fd]
  close_w
  rw [leave_id rfl]
  exact ⟨rfl, rfl⟩
theorem size_ok (p : Int × Int) (k : Nat) (s : Sto) : (g (k + 1)).call 7 [fd p] s = .ok (.tup [.int p.1.natAbs, .int p.2]) s := by
  refine Ok.eq (Ok_call rfl rfl ?_)
  show OkW (sxs _ b_size_of _ s) _
  unfold b_size_of fd
  refine OkW_then fun N hN => ?_; close_w
  refine ⟨by decide, ?_⟩
  rw [leave_id rfl, abs_nat]
  exact ⟨rfl, rfl⟩
theorem below_ok {p q : Int × Int} {n m : Nat} (hp : Fr1 n p) (hq : Fr1 m q) (h : n + m ≤ 590) (k : Nat) (s : Sto) : (g (k + 1)).call 8 [fd p, fd q] s = .ok (.bl (decide (p.1 * q.2 < q.1 * p.2))) s := by
  refine Ok.eq (Ok_call rfl rfl ?_)
  show OkW (sxs _ b_is_below _ s) _
  unfold b_is_below fd
  refine OkW_then fun N hN => ?_; close_w
  refine ⟨mulOk_B hp.1 hq.2.1 (by omega), mulOk_B hq.1 hp.2.1 (by omega), ?_⟩
  rw [leave_id rfl]
  exact ⟨rfl, rfl⟩
end K08

set_option Elab.async false
set_option linter.all false
set_option maxRecDepth 100000
set_option maxHeartbeats 4000000
namespace K08
open PySem MP
local macro_rules | `(tactic| close_w) => `(tactic| simp only [OkW_nil, OkW_nx, OkW_rt, OkW_bk, OkW_ct, sx, Ok_w, ev, evs, evo, evi, tst, Ok_bind, Ok_noexc, Ok_settled, Ok_ok, Ok_ifo, Ok_ifr, Ok_some, OkW_if, Ok_if, decide_eq_true_eq, decide_eq_false_iff_not, Bool.not_eq_true', Bool.not_eq_false', MP.bindT, MP.bindTs, parF, frAt, augW, wipeF, startF, gam_fuel, lstAt_0, lstAt_1, lstAt_2, lstAt_3, lstAt_app, lstAt_appS, set_app, set_appS, seqOf_tup, seqOf_fro, seqOf_lst, seqOf_ref, lstOf_fro, lstOf_lst, lstOf_ref, lstOf_tup, wOf_lst, wOf_ref, itOf_tup, itOf_fro, itOf_lst, itOf_ref, lenD_tup, lenD_fro, lenD_lst, lenD_ref, ix_tup, ix_fro, ix_lst, ix_ref, slc_tup, slc_fro, slc_lst, slc_ref, settle_non, settle_bl, settle_int, settle_str, settle_tup, settle_fro, settle_ref, settle_lst, addD_int, addD_tup, addD_lst, addD_str, addD_rl, cop_is, mulD_int, MP.bop_add, bop_mul, bop_sub, bop_fdiv, bop_mod, bop_pow, bop_shl, MP.cop_lt, MP.cop_le, MP.cop_gt, MP.cop_ge, MP.cop_eq, MP.cop_ne, tru_bl, tru_int, tru_non, tru_tup, isTy_int, isTy_bl, isTy_non, isTy_str, isTy_tup, isTy_lst, isTy_ref, bt_len, bt_abs, bt_int, bt_intb, bt_tup, bt_tupl, bt_tupr, bt_list, bt_sum, bt_min, bt_max, bt_min2, bt_max2, recv_ref, putAt_ref, meth_append, meth_pop, atI_0, atI_1, atI_2, atI_3, ixN_0, ixN_1, ixN_2, ixN_3, Option.isSome_some, Option.some.injEq, Option.map_some, Option.bind_some, Option.map_none, Option.bind_none, List.map_cons, List.map_nil, List.cons_append, List.nil_append, List.length_cons, List.length_nil, List.getElem?_cons_succ, List.getElem?_cons_zero, List.set_cons_succ, List.set_cons_zero, List.replicate_zero, List.replicate_succ, Nat.zero_add, Nat.reduceAdd, Nat.reduceSub, Nat.reduceLT, ↓reduceIte, Nat.lt_add_left_iff_pos, Nat.zero_lt_succ, reduceCtorEq, false_and, and_false, true_and, and_true, or_false, false_or, or_true, true_or, decide_true, decide_false, Bool.not_true, Bool.not_false, cond_true, cond_false, false_implies, true_implies, implies_true, not_true_eq_false, not_false_eq_true, Bool.false_eq_true, Bool.true_eq_false])
/-! ### sums -/
def stp (t p : Int × Int) : Int × Int := low (t.1 * p.2 + p.1 * t.2) (t.2 * p.2)
def sumf (ps : List (Int × Int)) : Int × Int := ps.foldl stp (0, 1)
theorem stp_B {t p : Int × Int} {n : Nat} (ht : Fr1 n t) (hp : Fr1 40 p) : Fr1 (n + 41) (stp t p) := by
  obtain ⟨t1, t2, t3⟩ := ht
  obtain ⟨p1, p2, p3⟩ := hp
  have h1 : (t.1 * p.2 + p.1 * t.2).natAbs < B (n + 41) := addI_B (n := n + 40) (mulI_B t1 p2) (by have := mulI_B p1 t2; rwa [Nat.add_comm 40 n] at this)
  obtain ⟨a, b, c⟩ := low_B (mul_ne t3 p3) h1 (B_up (mulI_B t2 p2) (by omega : n + 40 ≤ n + 41))
  exact ⟨a, b, c⟩
theorem sumf_take {ps : List (Int × Int)} {j : Nat} (h : j < ps.length) : sumf (ps.take (j + 1)) = stp (sumf (ps.take j)) ps[j] := by
  unfold sumf
  rw [List.take_succ_eq_append_getElem h, List.foldl_append]; rfl
theorem fsum_ok (ps : List (Int × Int)) (hp : ∀ p ∈ ps, Fr1 40 p) (hl : ps.length ≤ 12) (k : Nat) (s : Sto) : (g (k + 4)).call 10 [.tup (ps.map fd)] s = .ok (fd (sumf ps)) s := by
  refine Ok.eq (Ok_call rfl rfl ?_)
  show OkW (sxs _ b_fraction_sum _ s) _
  unfold b_fraction_sum
  refine OkW_then fun N hN => ?_; close_w
  refine ⟨by decide, hN _ _ ?_⟩
  refine OkW_then fun N hN => ?_; close_w
  refine OkW_for (fun j fr s' => ∃ o, fr = [some (.tup (ps.map fd)), some (fd (sumf (ps.take j))), o] ∧ s' = s ∧ Fr1 (41 * j + 1) (sumf (ps.take j))) _ 0 ⟨none, rfl, rfl, by unfold sumf Fr1; simp [B]⟩ (fun _ _ _ _ _ _ => rfl) ?_ ?_
  · rintro j x fr s' hx ⟨o, rfl, rfl, hf⟩
    rw [Nat.zero_add] at hf ⊢
    rw [List.getElem?_map] at hx
    cases hj : ps[j]? with
    | none => rw [hj] at hx; cases hx
    | some p =>
      rw [hj] at hx
      cases hx
      obtain ⟨hj1, hj2⟩ := List.getElem?_eq_some_iff.mp hj
      have hp1 : Fr1 40 p := hp p (List.mem_of_getElem? hj)
      close_w
      refine OkW_then fun N hN => ?_
      rw [fd]
      close_w
      rw [show D.tup [.int (sumf (ps.take j)).1, .int (sumf (ps.take j)).2] = fd (sumf (ps.take j)) from rfl, show MP.settle (fd p) s' = (fd p, s') from rfl, added_ok hf hp1 (by omega) k s']
      close_w
      refine hN _ _ ?_
      close_w
      refine ⟨some (fd p), ?_, rfl, ?_⟩
      · rw [sumf_take hj1, hj2]; rfl
      · rw [sumf_take hj1, hj2]
        have := stp_B hf hp1
        rw [show 41 * (j + 1) + 1 = 41 * j + 1 + 41 by omega]
        exact this
  · rintro fr s' ⟨o, rfl, rfl, hf⟩
    refine hN _ _ ?_
    refine OkW_then fun N hN => ?_; close_w
    simp only [Nat.zero_add, List.length_map, List.take_length]
    rw [leave_id rfl]
    exact ⟨rfl, rfl⟩
theorem lsum_ok (ps : List (Int × Int)) (hp : ∀ p ∈ ps, Fr1 40 p) (hl : ps.length ≤ 12) (k : Nat) (s : Sto) : (g (k + 4)).call 18 [.tup (ps.map fd)] s = .ok (fd (sumf ps)) s := by
  refine Ok.eq (Ok_call rfl rfl ?_)
  show OkW (sxs _ b__law_sum _ s) _
  unfold b__law_sum
  refine OkW_then fun N hN => ?_; close_w
  refine ⟨by decide, hN _ _ ?_⟩
  refine OkW_then fun N hN => ?_; close_w
  refine OkW_for (fun j fr s' => ∃ o o2, fr = [some (.tup (ps.map fd)), some (fd (sumf (ps.take j))), o, o2] ∧ s' = s ∧ Fr1 (41 * j + 1) (sumf (ps.take j))) _ 0 ⟨none, none, rfl, rfl, by unfold sumf Fr1; simp [B]⟩ (fun _ _ _ _ _ _ => rfl) ?_ ?_
  · rintro j x fr s' hx ⟨o, o2, rfl, rfl, hf⟩
    rw [Nat.zero_add] at hf ⊢
    rw [List.getElem?_map] at hx
    cases hj : ps[j]? with
    | none => rw [hj] at hx; cases hx
    | some p =>
      rw [hj] at hx
      cases hx
      obtain ⟨hj1, hj2⟩ := List.getElem?_eq_some_iff.mp hj
      have hp1 : Fr1 40 p := hp p (List.mem_of_getElem? hj)
      rw [fd, fd]
      close_w
      refine OkW_then fun N hN => ?_
      close_w
      have h1 := hf.1
      have h2 := hf.2.1
      have h3 := hf.2.2
      refine ⟨mulOk_B h1 hp1.2.1 (by omega), mulOk_B hp1.1 h2 (by omega), mulOk_B h2 hp1.2.1 (by omega), ?_⟩
      rw [law_low_ok _ _ (B_up (mulI_B h2 hp1.2.1) (by omega)) (mul_ne h3 hp1.2.2) (k + 1) s', show low ((sumf (ps.take j)).1 * p.2 + p.1 * (sumf (ps.take j)).2) ((sumf (ps.take j)).2 * p.2) = stp (sumf (ps.take j)) p from rfl, fd]
      close_w
      refine hN _ _ ?_
      rw [OkW_nil]
      refine ⟨some (.int p.1), some (.int p.2), ?_, rfl, ?_⟩
      · rw [sumf_take hj1, hj2]; rfl
      · rw [sumf_take hj1, hj2]
        have := stp_B hf hp1
        rw [show 41 * (j + 1) + 1 = 41 * j + 1 + 41 by omega]
        exact this
  · rintro fr s' ⟨o, o2, rfl, rfl, hf⟩
    refine hN _ _ ?_
    refine OkW_then fun N hN => ?_; close_w
    simp only [Nat.zero_add, List.length_map, List.take_length]
    rw [leave_id rfl]
    exact ⟨rfl, rfl⟩
/-- the sum does not depend on the sequence -/
def raw (t p : Int × Int) : Int × Int := (t.1 * p.2 + p.1 * t.2, t.2 * p.2)
theorem raw_comm (t p q : Int × Int) : raw (raw t p) q = raw (raw t q) p := by
  unfold raw
  refine Prod.ext ?_ ?_
  · show (t.1 * p.2 + p.1 * t.2) * q.2 + q.1 * (t.2 * p.2) = (t.1 * q.2 + q.1 * t.2) * p.2 + p.1 * (t.2 * q.2)
    grind
  · show t.2 * p.2 * q.2 = t.2 * q.2 * p.2
    grind
theorem foldl_in {α β : Type} {f : β → α → β} (hc : ∀ t p q, f (f t p) q = f (f t q) p) : ∀ (l : List α) (z : β) (x : α), l.foldl f (f z x) = f (l.foldl f z) x
  | [], _, _ => rfl
  | y :: l, z, x => by rw [List.foldl_cons, List.foldl_cons, hc, foldl_in hc l]
theorem foldl_rev {α β : Type} {f : β → α → β} (hc : ∀ t p q, f (f t p) q = f (f t q) p) : ∀ (l : List α) (z : β), l.reverse.foldl f z = l.foldl f z
  | [], _ => rfl
  | y :: l, z => by rw [List.reverse_cons, List.foldl_append, foldl_rev hc l, List.foldl_cons, List.foldl_nil, List.foldl_cons, foldl_in hc]
theorem low_scale {x y c : Int} (hc : 0 < c) : low (c * x) (c * y) = low x y := by
  have hn : (c.natAbs : Int) = c := by omega
  have hg : ((Int.gcd (c * x) (c * y) : Nat) : Int) = c * (Int.gcd x y : Nat) := by
    rw [Int.gcd_mul_left, Int.natCast_mul, hn]
  unfold low
  rw [hg]
  have e : ∀ z : Int, c * z / (c * ((Int.gcd x y : Nat) : Int)) = z / ((Int.gcd x y : Nat) : Int) := fun z => Int.mul_ediv_mul_of_pos _ _ hc
  have hs : c * y < 0 ↔ y < 0 := by
    constructor
    · intro h
      by_cases h2 : y < 0
      · exact h2
      · have := Int.mul_nonneg (show 0 ≤ c by omega) (show 0 ≤ y by omega)
        omega
    · intro h
      exact Int.mul_neg_of_pos_of_neg hc h
  by_cases h : y < 0
  · rw [if_pos (hs.mpr h), if_pos h, ← Int.mul_neg, ← Int.mul_neg, e, e]
  · rw [if_neg (fun z => h (hs.mp z)), if_neg h, e, e]
theorem stp_raw {P p : Int × Int} (hP : 0 < P.2) : stp (low P.1 P.2) p = low (raw P p).1 (raw P p).2 := by
  have hg0 := gcd_pos (t := P.1) (show P.2 ≠ 0 by omega)
  have hg : (0 : Int) < ((Int.gcd P.1 P.2 : Nat) : Int) := by omega
  obtain ⟨x, hx⟩ : ((Int.gcd P.1 P.2 : Nat) : Int) ∣ P.1 := Int.gcd_dvd_left ..
  obtain ⟨y, hy⟩ : ((Int.gcd P.1 P.2 : Nat) : Int) ∣ P.2 := Int.gcd_dvd_right ..
  have hl : low P.1 P.2 = (x, y) := by
    unfold low
    rw [if_neg (by omega)]
    refine Prod.ext ?_ ?_
    · show P.1 / _ = x
      rw [Int.ediv_eq_of_eq_mul_right (by omega) hx]
    · show P.2 / _ = y
      rw [Int.ediv_eq_of_eq_mul_right (by omega) hy]
  rw [hl]
  generalize ((Int.gcd P.1 P.2 : Nat) : Int) = c at hx hy hg
  have hc : 0 < c := hg
  unfold stp raw
  show low (x * p.2 + p.1 * y) (y * p.2) = low (P.1 * p.2 + p.1 * P.2) (P.2 * p.2)
  rw [hx, hy, show c * x * p.2 + p.1 * (c * y) = c * (x * p.2 + p.1 * y) by grind, Int.mul_assoc, low_scale hc]
theorem fold_raw : ∀ (ps : List (Int × Int)) (P : Int × Int), (∀ p ∈ ps, 0 < p.2) → 0 < P.2 → ps.foldl stp (low P.1 P.2) = low (ps.foldl raw P).1 (ps.foldl raw P).2
  | [], P, _, _ => rfl
  | p :: ps, P, h, hP => by
    rw [List.foldl_cons, List.foldl_cons, stp_raw hP]
    exact fold_raw ps (raw P p) (fun q hq => h q (List.mem_cons_of_mem _ hq)) (Int.mul_pos hP (h p (List.mem_cons_self ..)))
theorem sumf_rev {ps : List (Int × Int)} (h : ∀ p ∈ ps, 0 < p.2) : sumf ps.reverse = sumf ps := by
  have e : ((0, 1) : Int × Int) = low 0 1 := by decide
  unfold sumf
  rw [e, fold_raw ps (0, 1) h (by decide), fold_raw ps.reverse (0, 1) (fun p hp => h p (List.mem_reverse.mp hp)) (by decide), foldl_rev raw_comm]
end K08

set_option Elab.async false
set_option linter.all false
set_option maxRecDepth 100000
set_option maxHeartbeats 4000000
namespace K08
open PySem MP
local macro_rules | `(tactic| close_w) => `(tactic| simp only [OkW_nil, OkW_nx, OkW_rt, OkW_bk, OkW_ct, sx, Ok_w, ev, evs, evo, evi, tst, Ok_bind, Ok_noexc, Ok_settled, Ok_ok, Ok_ifo, Ok_ifr, Ok_some, OkW_if, Ok_if, decide_eq_true_eq, decide_eq_false_iff_not, Bool.not_eq_true', Bool.not_eq_false', MP.bindT, MP.bindTs, parF, frAt, augW, wipeF, startF, gam_fuel, lstAt_0, lstAt_1, lstAt_2, lstAt_3, lstAt_app, lstAt_appS, set_app, set_appS, seqOf_tup, seqOf_fro, seqOf_lst, seqOf_ref, lstOf_fro, lstOf_lst, lstOf_ref, lstOf_tup, wOf_lst, wOf_ref, itOf_tup, itOf_fro, itOf_lst, itOf_ref, lenD_tup, lenD_fro, lenD_lst, lenD_ref, ix_tup, ix_fro, ix_lst, ix_ref, slc_tup, slc_fro, slc_lst, slc_ref, settle_non, settle_bl, settle_int, settle_str, settle_tup, settle_fro, settle_ref, settle_lst, addD_int, addD_tup, addD_lst, addD_str, addD_rl, cop_is, mulD_int, MP.bop_add, bop_mul, bop_sub, bop_fdiv, bop_mod, bop_pow, bop_shl, MP.cop_lt, MP.cop_le, MP.cop_gt, MP.cop_ge, MP.cop_eq, MP.cop_ne, tru_bl, tru_int, tru_non, tru_tup, isTy_int, isTy_bl, isTy_non, isTy_str, isTy_tup, isTy_lst, isTy_ref, bt_len, bt_abs, bt_int, bt_intb, bt_tup, bt_tupl, bt_tupr, bt_list, bt_sum, bt_min, bt_max, bt_min2, bt_max2, recv_ref, putAt_ref, meth_append, meth_pop, atI_0, atI_1, atI_2, atI_3, ixN_0, ixN_1, ixN_2, ixN_3, Option.isSome_some, Option.some.injEq, Option.map_some, Option.bind_some, Option.map_none, Option.bind_none, List.map_cons, List.map_nil, List.cons_append, List.nil_append, List.length_cons, List.length_nil, List.getElem?_cons_succ, List.getElem?_cons_zero, List.set_cons_succ, List.set_cons_zero, List.replicate_zero, List.replicate_succ, Nat.zero_add, Nat.reduceAdd, Nat.reduceSub, Nat.reduceLT, ↓reduceIte, Nat.lt_add_left_iff_pos, Nat.zero_lt_succ, reduceCtorEq, false_and, and_false, true_and, and_true, or_false, false_or, or_true, true_or, decide_true, decide_false, Bool.not_true, Bool.not_false, cond_true, cond_false, false_implies, true_implies, implies_true, not_true_eq_false, not_false_eq_true, Bool.false_eq_true, Bool.true_eq_false])
/-! ### the kettle, figures, fractions -/
theorem cut_some {xs : List D} {n : Nat} : cut xs none (some (n : Int)) = xs.take n := by
  unfold cut
  rw [HT.sIx_none, HT.sIx_nat, List.drop_zero, Nat.sub_zero]
  by_cases h : n ≤ xs.length
  · rw [Nat.min_eq_left h]
  · rw [Nat.min_eq_right (by omega), List.take_of_length_le (Nat.le_refl _), List.take_of_length_le (by omega)]
theorem shl_ok : shlI 1 1320 = some (2 ^ 1320) := by decide +kernel
theorem shl_pos : (0 : Int) < 2 ^ 1320 := by decide +kernel
theorem pow16 : powI 10 16 = some 10000000000000000 := by decide +kernel
theorem kettle_ok (ns : List Int) (k : Nat) : Ok nox ((g (k + 1)).call 11 [.fro (ns.map .int)] []) fun d s' => ∃ L h q, d = .lst [.ref 0, .int h, .int 0, .int q] ∧ s' = [.lst (L.map .int)] ∧ KP L := by
  refine Ok_call rfl rfl ?_
  show OkW (sxs _ b__law_kettle _ _) _
  unfold b__law_kettle
  refine OkW_then fun N hN => ?_; close_w
  refine ⟨by decide, hN _ _ ?_⟩
  refine OkW_then fun N hN => ?_
  simp only [partOf]
  close_w
  simp only [partOf]
  close_w
  rw [show (55 : Int) = ((55 : Nat) : Int) by decide, cut_some]
  refine OkW_for (fun j fr s' => ∃ L h a b, fr = [some (.fro (ns.map .int)), some (.ref 0), some (.int h), a, b] ∧ s' = [.lst (L.map .int)] ∧ (∀ x ∈ L, 0 ≤ x) ∧ L.length ≤ j) _ 0 ⟨[], 8101, none, none, rfl, rfl, by simp, by simp⟩ (fun _ _ _ _ _ _ => rfl) ?_ ?_
  · rintro j x fr s' hx ⟨L, h, a, b, rfl, rfl, hL, hj⟩
    have hjl : j < 55 := by
      have := (List.getElem?_eq_some_iff.mp hx).1
      rw [List.length_take] at this
      omega
    have hx : x ∈ ns.map D.int := List.mem_of_mem_take (List.mem_of_getElem? hx)
    obtain ⟨i, _, rfl⟩ := List.mem_map.mp hx
    close_w
    refine OkW_then fun N hN => ?_; close_w
    rw [shl_ok]
    close_w
    rw [modP shl_pos]
    close_w
    refine hN _ _ ?_
    have hb0 : 0 ≤ (if i < 0 then -i else i) % 2 ^ 1320 := Int.emod_nonneg _ (by have := shl_pos; omega)
    generalize (if i < 0 then -i else i) % 2 ^ 1320 = br at hb0 ⊢
    refine OkW_then fun N hN => ?_; close_w
    refine ⟨small_r (by decide), ?_⟩
    rw [modP (by decide)]
    close_w
    refine ⟨small_l (by decide), ?_⟩
    rw [modP (by decide)]
    close_w
    refine hN _ _ ?_
    refine OkW_then fun N hN => ?_; close_w
    rw [pow16]
    close_w
    refine ⟨fun h1 => ?_, fun h1 => ?_⟩
    · refine OkW_then fun N2 hN2 => ?_; close_w
      refine ⟨by unfold Short lim; simp; omega, hN2 _ _ ?_⟩
      rw [OkW_nil]
      refine hN _ _ ?_
      rw [OkW_nil]
      refine ⟨L ++ [br], _, _, _, rfl, by simp, ?_, by simp; omega⟩
      intro x hx
      simp only [List.mem_append, List.mem_singleton] at hx
      rcases hx with hx | rfl
      · exact hL x hx
      · exact hb0
    · refine hN _ _ ?_
      rw [OkW_nil]
      exact ⟨L, _, _, _, rfl, rfl, hL, by omega⟩
  · rintro fr s' ⟨L, h, a, b, rfl, rfl, hL, hj⟩
    refine hN _ _ ?_
    refine OkW_then fun N hN => ?_; close_w
    rw [fdivP (by decide)]
    close_w
    refine ⟨by decide, ?_⟩
    have e : leave [] (D.lst [D.ref 0, D.int h, D.int 0, D.int (h / 53)]) [O.lst (L.map D.int)] = .ok (D.lst [D.ref 0, D.int h, D.int 0, D.int (h / 53)]) [O.lst (L.map D.int)] := by
      unfold leave
      simp [D.clean, D.cleans]
    rw [e]
    refine ⟨L, h, _, rfl, rfl, hL, ?_⟩
    have : (List.take 55 (ns.map D.int)).length ≤ 55 := by rw [List.length_take]; omega
    omega
theorem Ks_leave {s t s' : Sto} {d : D} (hs : Ks t s) (hs' : Ks t s') (ht : Tc t) (hd : d.clean (t.length + 2) = true) : leave s d s' = .ok d s' := by
  obtain ⟨L, h, c, q, rfl, hL⟩ := hs
  obtain ⟨L', h', c', q', rfl, hL'⟩ := hs'
  have e : (ket L h c q ++ t).length = t.length + 2 := by simp [ket]
  refine leave_mod0 (by simp [ket]) ?_ (by rw [e]; exact hd)
  rw [e, List.all_append, show t.all (O.clean · (t.length + 2)) = true from ht]
  simp [ket, O.clean, D.cleans, D.clean, cleans_ints]
theorem pow6 : powI 10 6 = some 1000000 := by decide +kernel
theorem pow12 : powI 10 12 = some 1000000000000 := by decide +kernel
theorem figure_ok {s t : Sto} (hs : Ks t s) (ht : Tc t) (k : Nat) : Ok nox ((g (k + 2)).call 16 [.ref 1] s) fun d s' => ∃ i, d = .int i ∧ Ks t s' ∧ i.natAbs < 1000000000000 := by
  refine Ok_call rfl rfl ?_
  show OkW (sxs _ b__law_figure _ _) _
  unfold b__law_figure
  refine OkW_then fun N hN => ?_; close_w
  rw [pow6, pow12]
  close_w
  refine ⟨by decide, ?_⟩
  refine (dip_ok hs ht 1 5 (by decide) k).mono ?_
  rintro _ s1 ⟨i, rfl, hs1, _, hi⟩
  have hi := hi (by decide)
  have step : ∀ most : Int, 2 ≤ most → most ≤ 1000000000000 → OkW (sxs (gam fns FU (k + 1)) (Sms.cons (Sm.asg (Tg.name 2) (Ex.call 12 (Exs.cons (Ex.var 0) (Exs.cons (Ex.con (D.int 2)) (Exs.cons (Ex.var 1) Exs.nil))))) (Sms.cons (Sm.ret (Ex.ife (Ts.cmp Cm.eq (Ex.call 12 (Exs.cons (Ex.var 0) (Exs.cons (Ex.con (D.int 3)) (Exs.cons (Ex.con (D.int 2)) Exs.nil)))) (Ex.con (D.int 0))) (Ex.var 2) (Ex.bin Op.sub (Ex.con (D.int 0)) (Ex.var 2)))) Sms.nil)) [some (D.ref 1), some (D.int most), none] s1)
      ⟨fun _ s' => Ok nox (leave s .non s') fun d s' => ∃ i, d = .int i ∧ Ks t s' ∧ i.natAbs < 1000000000000, fun d s' => Ok nox (leave s d s') fun d s' => ∃ i, d = .int i ∧ Ks t s' ∧ i.natAbs < 1000000000000, fun _ _ => False, fun _ _ => False, nox⟩ := by
    intro most h1 h2
    refine OkW_then fun N hN => ?_; close_w
    refine (dip_ok hs1 ht 2 most (by omega) k).mono ?_
    rintro _ s2 ⟨i, rfl, hs2, _, hi⟩
    have hi := hi h1
    close_w
    refine hN _ _ ?_
    refine OkW_then fun N hN => ?_; close_w
    refine (dip_ok hs2 ht 3 2 (by decide) k).mono ?_
    rintro _ s3 ⟨b, rfl, hs3, _, _⟩
    close_w
    refine ⟨fun _ => ?_, fun _ => ?_⟩
    · rw [Ks_leave hs hs3 ht rfl]
      exact ⟨i, rfl, hs3, by omega⟩
    · rw [Ks_leave hs hs3 ht rfl]
      exact ⟨0 - i, rfl, hs3, by omega⟩
  have : i = 0 ∨ i = 1 ∨ i = 2 ∨ i = 3 ∨ i = 4 := by omega
  rcases this with rfl | rfl | rfl | rfl | rfl
  · close_w
    exact hN _ _ (step 3 (by decide) (by decide))
  · close_w
    exact hN _ _ (step 12 (by decide) (by decide))
  · close_w
    exact hN _ _ (step 100 (by decide) (by decide))
  · close_w
    exact hN _ _ (step 1000000 (by decide) (by decide))
  · rw [ix_tup, show L2.atI [D.int 3, D.int 12, D.int 100, D.int 1000000, D.int 1000000000000] 4 = some (.int 1000000000000) from rfl]
    close_w
    exact hN _ _ (step 1000000000000 (by decide) (by decide))
theorem lt_B40 {n : Nat} (h : n ≤ 1000000000000) : n < B 40 := Nat.lt_of_le_of_lt h (by decide)
theorem fraction_ok {s t : Sto} (hs : Ks t s) (ht : Tc t) (k : Nat) : Ok nox ((g (k + 3)).call 17 [.ref 1] s) fun d s' => ∃ p, d = fd p ∧ Ks t s' ∧ Fr1 40 p := by
  refine Ok_call rfl rfl ?_
  show OkW (sxs _ b__law_fraction _ _) _
  unfold b__law_fraction
  refine OkW_then fun N hN => ?_; close_w
  refine (figure_ok hs ht k).mono ?_
  rintro _ s1 ⟨a, rfl, hs1, ha⟩
  close_w
  refine (figure_ok hs1 ht k).mono ?_
  rintro _ s2 ⟨b, rfl, hs2, hb⟩
  close_w
  rw [abs_nat]
  refine hN _ _ ?_
  refine OkW_then fun N hN => ?_; close_w
  refine ⟨by decide, ?_⟩
  refine (dip_ok hs2 ht 4 4 (by decide) (k + 1)).mono ?_
  rintro _ s3 ⟨i, rfl, hs3, _, hi⟩
  have hi := hi (by decide)
  have fin : ∀ c : Int, 0 < c → c ≤ 1000000000000 → Ok nox ((gam fns FU (k + 2)).call 15 [.int a, .int c] s3) fun d s' => Ok nox (leave s d s') fun d s' => ∃ p, d = fd p ∧ Ks t s' ∧ Fr1 40 p := by
    intro c h1 h2
    have hc : c.natAbs < B 40 := lt_B40 (by omega)
    rw [law_low_ok a c (B_up hc (by decide)) (by omega) k s3, Ok_ok, Ks_leave hs hs3 ht (by rw [fd]; rfl)]
    exact ⟨_, rfl, hs3, low_B (by omega) (lt_B40 (by omega)) hc⟩
  have : i = 0 ∨ i = 1 ∨ i = 2 ∨ i = 3 := by omega
  rcases this with rfl | rfl | rfl | rfl
  · close_w
    exact fin 1 (by decide) (by decide)
  · close_w
    exact fin _ (by omega) (by omega)
  · close_w
    exact fin _ (by omega) (by omega)
  · close_w
    exact fin 12 (by decide) (by decide)
end K08

set_option Elab.async false
set_option linter.all false
set_option maxRecDepth 100000
set_option maxHeartbeats 4000000
namespace K08
open PySem MP
local macro_rules | `(tactic| close_w) => `(tactic| simp only [OkW_nil, OkW_nx, OkW_rt, OkW_bk, OkW_ct, sx, Ok_w, ev, evs, evo, evi, tst, Ok_bind, Ok_noexc, Ok_settled, Ok_ok, Ok_ifo, Ok_ifr, Ok_some, OkW_if, Ok_if, decide_eq_true_eq, decide_eq_false_iff_not, Bool.not_eq_true', Bool.not_eq_false', MP.bindT, MP.bindTs, parF, frAt, augW, wipeF, startF, gam_fuel, lstAt_0, lstAt_1, lstAt_2, lstAt_3, lstAt_app, lstAt_appS, set_app, set_appS, seqOf_tup, seqOf_fro, seqOf_lst, seqOf_ref, lstOf_fro, lstOf_lst, lstOf_ref, lstOf_tup, wOf_lst, wOf_ref, itOf_tup, itOf_fro, itOf_lst, itOf_ref, lenD_tup, lenD_fro, lenD_lst, lenD_ref, ix_tup, ix_fro, ix_lst, ix_ref, slc_tup, slc_fro, slc_lst, slc_ref, settle_non, settle_bl, settle_int, settle_str, settle_tup, settle_fro, settle_ref, settle_lst, addD_int, addD_tup, addD_lst, addD_str, addD_rl, cop_is, mulD_int, MP.bop_add, bop_mul, bop_sub, bop_fdiv, bop_mod, bop_pow, bop_shl, MP.cop_lt, MP.cop_le, MP.cop_gt, MP.cop_ge, MP.cop_eq, MP.cop_ne, tru_bl, tru_int, tru_non, tru_tup, isTy_int, isTy_bl, isTy_non, isTy_str, isTy_tup, isTy_lst, isTy_ref, bt_len, bt_abs, bt_int, bt_intb, bt_tup, bt_tupl, bt_tupr, bt_list, bt_sum, bt_min, bt_max, bt_min2, bt_max2, recv_ref, putAt_ref, meth_append, meth_pop, atI_0, atI_1, atI_2, atI_3, ixN_0, ixN_1, ixN_2, ixN_3, Option.isSome_some, Option.some.injEq, Option.map_some, Option.bind_some, Option.map_none, Option.bind_none, List.map_cons, List.map_nil, List.cons_append, List.nil_append, List.length_cons, List.length_nil, List.getElem?_cons_succ, List.getElem?_cons_zero, List.set_cons_succ, List.set_cons_zero, List.replicate_zero, List.replicate_succ, Nat.zero_add, Nat.reduceAdd, Nat.reduceSub, Nat.reduceLT, ↓reduceIte, Nat.lt_add_left_iff_pos, Nat.zero_lt_succ, reduceCtorEq, false_and, and_false, true_and, and_true, or_false, false_or, or_true, true_or, decide_true, decide_false, Bool.not_true, Bool.not_false, cond_true, cond_false, false_implies, true_implies, implies_true, not_true_eq_false, not_false_eq_true, Bool.false_eq_true, Bool.true_eq_false])
/-! ### is it a fraction? -/
/-- what may stand in a tuple here -/
def Pl : D → Prop
  | .ref _ => False
  | .exn .. => False
  | .lst _ => False
  | _ => True
/-- what may be asked about -/
def Th (s : Sto) (d : D) : Prop := (Pl d ∧ ∀ xs, d = .tup xs → (∀ x ∈ xs, Pl x) ∧ ∀ a b, xs = [.int a, .int b] → b.natAbs < B 590) ∨ ∃ n xs, d = .ref n ∧ lstAt s n = some xs
def isI : D → Bool
  | .int _ => true
  | _ => false
def isF : D → Bool
  | .tup [.int a, .int b] => decide (0 < b) && decide (Int.gcd a b = 1)
  | _ => false
theorem Pl.isTy {d : D} (h : Pl d) (s : Sto) (t : Ty) : ∃ b, isTy s d t = some b ∧ (t = .tuple → b = true → ∃ xs, d = .tup xs) ∧ ((∃ xs, d = .tup xs) → b = decide (t = .tuple)) := by
  cases d <;> first | (exact h.elim) | skip
  all_goals refine ⟨_, rfl, ?_, ?_⟩ <;> cases t <;> simp
theorem isint_ok {d : D} (h : Pl d) (k : Nat) (s : Sto) : (g (k + 1)).call 0 [d] s = .ok (.bl (isI d)) s := by
  refine Ok.eq (Ok_call rfl rfl ?_)
  show OkW (sxs _ b_is_integer _ s) _
  unfold b_is_integer
  refine OkW_then fun N hN => ?_; close_w
  cases d <;> first | (exact h.elim) | skip
  case int i => close_w; rw [leave_id rfl]; exact ⟨rfl, rfl⟩
  case bl b => close_w; rw [leave_id rfl]; exact ⟨rfl, rfl⟩
  case non => close_w; rw [leave_id rfl]; exact ⟨rfl, rfl⟩
  case str x => close_w; rw [leave_id rfl]; exact ⟨rfl, rfl⟩
  case tup xs => close_w; rw [leave_id rfl]; exact ⟨rfl, rfl⟩
  case fro xs =>
    rw [show isTy s (.fro xs) .int = some false from rfl]
    close_w; rw [leave_id rfl]; exact ⟨rfl, rfl⟩
def is2 : D → Bool
  | .tup xs => decide (xs.length = 2)
  | _ => false
theorem tup2_ok {d : D} (h : Pl d ∨ ∃ n xs, d = .ref n ∧ lstAt s n = some xs) (k : Nat) : (g (k + 1)).call 1 [d, .int 2, .int 2] s = .ok (.bl (is2 d)) s := by
  refine Ok.eq (Ok_call rfl rfl ?_)
  show OkW (sxs _ b_is_tuple_of _ s) _
  unfold b_is_tuple_of
  refine OkW_then fun N hN => ?_; close_w
  rcases h with h | ⟨n, xs, rfl, hx⟩
  · cases d <;> first | (exact h.elim) | skip
    case int i => close_w; rw [leave_id rfl]; exact ⟨rfl, rfl⟩
    case bl b => close_w; rw [leave_id rfl]; exact ⟨rfl, rfl⟩
    case non => close_w; rw [leave_id rfl]; exact ⟨rfl, rfl⟩
    case str x => close_w; rw [leave_id rfl]; exact ⟨rfl, rfl⟩
    case tup xs =>
      close_w
      refine ⟨fun h1 => ?_, fun h1 => ?_⟩
      · rw [leave_id rfl]
        refine ⟨?_, rfl⟩
        show D.bl (decide _) = D.bl (decide _)
        congr 1
        exact decide_eq_decide.mpr (by omega)
      · rw [leave_id rfl]
        refine ⟨?_, rfl⟩
        show D.bl false = D.bl (decide _)
        rw [decide_eq_false (by omega)]
    case fro xs =>
      rw [show isTy s (.fro xs) .tuple = some false from rfl]
      close_w; rw [leave_id rfl]; exact ⟨rfl, rfl⟩
  · close_w
    rw [hx]
    close_w
    rw [leave_id rfl]
    exact ⟨rfl, rfl⟩
theorem Th.settle {s : Sto} {d : D} (h : Th s d) (s' : Sto) : MP.settle d s' = (d, s') := by
  rcases h with ⟨h, _⟩ | ⟨n, xs, rfl, _⟩
  · cases d <;> first | rfl | (exact h.elim)
  · rfl
theorem Pl.settle {d : D} (h : Pl d) (s' : Sto) : MP.settle d s' = (d, s') := by
  cases d <;> first | rfl | (exact h.elim)
theorem Th.or {s : Sto} {d : D} (h : Th s d) : Pl d ∨ ∃ n xs, d = .ref n ∧ lstAt s n = some xs := h.imp (fun h => h.1) id
theorem two_of {xs : List D} (h : xs.length = 2) : ∃ x y, xs = [x, y] := by
  match xs, h with
  | [x, y], _ => exact ⟨x, y, rfl⟩
theorem isF_no {d : D} (h : is2 d = false) : isF d = false := by
  unfold isF
  split
  · exact absurd h (by simp [is2])
  · rfl
theorem isfrac_ok {d : D} {s : Sto} (h : Th s d) (k : Nat) : (g (k + 2)).call 9 [d] s = .ok (.bl (isF d)) s := by
  refine Ok.eq (Ok_call rfl rfl ?_)
  show OkW (sxs _ b_is_fraction _ s) _
  unfold b_is_fraction
  refine OkW_then fun N hN => ?_; close_w
  rw [h.settle, tup2_ok h.or]
  close_w
  cases h2 : is2 d with
  | false =>
    close_w
    refine OkW_then fun N hN => ?_; close_w
    rw [leave_id rfl, isF_no h2]
    exact ⟨rfl, rfl⟩
  | true =>
    close_w
    have hd : ∃ xs, d = .tup xs := by
      cases d <;> first | exact ⟨_, rfl⟩ | (simp [is2] at h2; done)
    obtain ⟨xs, rfl⟩ := hd
    obtain ⟨x, y, rfl⟩ := two_of (of_decide_eq_true h2)
    rcases h with h | ⟨n, xs, h, _⟩
    case inr => cases h
    obtain ⟨hxy, hb⟩ := h.2 _ rfl
    have hx : Pl x := hxy x (by simp)
    have hy : Pl y := hxy y (by simp)
    close_w
    rw [hx.settle, isint_ok hx]
    close_w
    cases hxi : isI x with
    | false =>
      close_w
      refine OkW_then fun N hN => ?_; close_w
      rw [leave_id rfl]
      refine ⟨?_, rfl⟩
      congr 1
      cases x <;> first | rfl | (simp [isI] at hxi; done)
    | true =>
      close_w
      rw [hy.settle, isint_ok hy]
      close_w
      have hxe : ∃ a, x = .int a := by cases x <;> first | exact ⟨_, rfl⟩ | (simp [isI] at hxi; done)
      obtain ⟨a, rfl⟩ := hxe
      cases hyi : isI y with
      | false =>
        close_w
        refine OkW_then fun N hN => ?_; close_w
        rw [leave_id rfl]
        refine ⟨?_, rfl⟩
        congr 1
        cases y <;> first | rfl | (simp [isI] at hyi; done)
      | true =>
        have hye : ∃ a, y = .int a := by cases y <;> first | exact ⟨_, rfl⟩ | (simp [isI] at hyi; done)
        obtain ⟨b, rfl⟩ := hye
        close_w
        refine ⟨fun h1 => ?_, fun h1 => ?_⟩
        · refine OkW_then fun N hN => ?_; close_w
          rw [leave_id rfl]
          refine ⟨?_, rfl⟩
          simp [isF]; intro h; omega
        · refine hN _ _ ?_
          refine OkW_then fun N hN => ?_; close_w
          rw [divisor_ok a b (B_up (hb a b rfl) (by decide))]
          close_w
          rw [leave_id rfl]
          refine ⟨?_, rfl⟩
          have : 0 < b := by omega
          simp [isF, this]; omega
def cI (d : D) : Int := if isI d then 0 else 1
theorem cnt_ok {x y : D} (hx : Pl x) (hy : Pl y) (gg : G) (s : Sto) : ev gg (.bt .len (.comp [1] (.name 1) (.seq (.var 0)) (.or (.not (.e (.isin (.var 1) .int))) (.e (.isin (.var 1) .bool))) (.con (.int 1)))) [some (.tup [x, y]), none] s = .ok (.int (cI x + cI y)) s := by
  have fro_ty : ∀ xs : List D, isTy s (.fro xs) .int = some false := fun _ => rfl
  cases x <;> first | (exact hx.elim) | skip
  all_goals (cases y <;> first | (exact hy.elim) | skip)
  all_goals
    refine Ok.eq ?_
    close_w
    refine ⟨by decide, ?_⟩
    simp only [compL, gok, ↓reduceIte]
    close_w
    try simp only [fro_ty]
    try close_w
    try simp only [fro_ty]
    try close_w
    first | exact ⟨rfl, rfl⟩ | rfl
theorem lawis_no {d : D} {s : Sto} (h : Th s d) (h2 : is2 d = false) (k : Nat) : (g (k + 1)).call 20 [d] s = .ok (.bl false) s := by
  refine Ok.eq (Ok_call rfl rfl ?_)
  show OkW (sxs _ b__law_is _ s) _
  unfold b__law_is
  refine OkW_then fun N hN => ?_; close_w
  have fin : OkW (sxs (gam fns FU k) (Sms.cons (Sm.ret (Ex.con (D.bl false))) Sms.nil) [some d, none] s) ⟨N, fun d s' => Ok nox (leave s d s') fun d s' => d = D.bl false ∧ s' = s, fun _ _ => False, fun _ _ => False, nox⟩ := by
    refine OkW_then fun N hN => ?_; close_w
    rw [leave_id rfl]
    exact ⟨rfl, rfl⟩
  have ho := h.or
  clear h
  rcases ho with h | ⟨n, xs, rfl, hx⟩
  · cases d <;> first | (exact h.elim) | skip
    case int i => close_w; exact fin
    case bl b => close_w; exact fin
    case non => close_w; exact fin
    case str x => close_w; exact fin
    case tup xs =>
      close_w
      have : ¬ xs.length = 2 := of_decide_eq_false h2
      refine ⟨fun _ => fin, fun h => ?_⟩
      exact absurd h (by omega)
    case fro xs =>
      rw [show isTy s (.fro xs) .tuple = some false from rfl]
      close_w; exact fin
  · close_w
    rw [hx]
    close_w
    exact fin
theorem lawis_ok {d : D} {s : Sto} (h : Th s d) (k : Nat) : (g (k + 2)).call 20 [d] s = .ok (.bl (isF d)) s := by
  cases h2 : is2 d with
  | false =>
    rw [lawis_no h h2 (k + 1), isF_no h2]
  | true =>
    have hd : ∃ xs, d = .tup xs := by
      cases d <;> first | exact ⟨_, rfl⟩ | (simp [is2] at h2; done)
    obtain ⟨xs, rfl⟩ := hd
    obtain ⟨x, y, rfl⟩ := two_of (of_decide_eq_true h2)
    rcases h with h | ⟨n, xs, h, _⟩
    case inr => cases h
    obtain ⟨hxy, hb⟩ := h.2 _ rfl
    have hx : Pl x := hxy x (by simp)
    have hy : Pl y := hxy y (by simp)
    refine Ok.eq (Ok_call rfl rfl ?_)
    show OkW (sxs _ b__law_is _ s) _
    unfold b__law_is
    refine OkW_then fun N hN => ?_; close_w
    refine ⟨fun h => absurd rfl h, fun _ => hN _ _ ?_⟩
    refine OkW_then fun N hN => ?_
    rw [sx, Ok_w, tst, Ok_bind, cnt_ok hx hy]
    close_w
    refine ⟨fun h1 => ?_, fun h1 => ?_⟩
    · refine OkW_then fun N hN => ?_; close_w
      rw [leave_id rfl]
      refine ⟨?_, rfl⟩
      congr 1
      cases x <;> cases y <;> first | rfl | (simp [cI, isI] at h1; done)
    · refine hN _ _ ?_
      have hxe : ∃ a, x = .int a := by cases x <;> first | exact ⟨_, rfl⟩ | (exfalso; cases y <;> simp [cI, isI] at h1; done)
      obtain ⟨a, rfl⟩ := hxe
      have hye : ∃ a, y = .int a := by cases y <;> first | exact ⟨_, rfl⟩ | (exfalso; simp [cI, isI] at h1; done)
      obtain ⟨b, rfl⟩ := hye
      refine OkW_then fun N hN => ?_; close_w
      refine ⟨fun h1 => ?_, fun h1 => ?_⟩
      · obtain ⟨m, rfl⟩ : ∃ m : Nat, b = (m : Int) := ⟨b.toNat, by omega⟩
        have hm : m < B 600 := by
          have := hb a m rfl
          rw [Int.natAbs_natCast] at this
          exact B_up this (by decide)
        rw [abs_nat, shared_ok _ _ hm]
        close_w
        rw [leave_id rfl]
        refine ⟨?_, rfl⟩
        have e : Nat.gcd a.natAbs m = Int.gcd a m := by
          rw [Int.gcd_eq_natAbs_gcd_natAbs, Int.natAbs_natCast]
        rw [e]
        have : 0 < m := by omega
        simp [isF, this]
        try omega
      · rw [leave_id rfl]
        refine ⟨?_, rfl⟩
        have : ¬ 0 < b := by omega
        simp [isF, this]
end K08

set_option Elab.async false
set_option linter.all false
set_option maxRecDepth 100000
set_option maxHeartbeats 4000000
namespace K08
open PySem MP
local macro_rules | `(tactic| close_w) => `(tactic| simp only [OkW_nil, OkW_nx, OkW_rt, OkW_bk, OkW_ct, sx, Ok_w, ev, evs, evo, evi, tst, Ok_bind, Ok_noexc, Ok_settled, Ok_ok, Ok_ifo, Ok_ifr, Ok_some, OkW_if, Ok_if, decide_eq_true_eq, decide_eq_false_iff_not, Bool.not_eq_true', Bool.not_eq_false', MP.bindT, MP.bindTs, parF, frAt, augW, wipeF, startF, gam_fuel, lstAt_0, lstAt_1, lstAt_2, lstAt_3, lstAt_app, lstAt_appS, set_app, set_appS, seqOf_tup, seqOf_fro, seqOf_lst, seqOf_ref, lstOf_fro, lstOf_lst, lstOf_ref, lstOf_tup, wOf_lst, wOf_ref, itOf_tup, itOf_fro, itOf_lst, itOf_ref, lenD_tup, lenD_fro, lenD_lst, lenD_ref, ix_tup, ix_fro, ix_lst, ix_ref, slc_tup, slc_fro, slc_lst, slc_ref, settle_non, settle_bl, settle_int, settle_str, settle_tup, settle_fro, settle_ref, settle_lst, addD_int, addD_tup, addD_lst, addD_str, addD_rl, cop_is, mulD_int, MP.bop_add, bop_mul, bop_sub, bop_fdiv, bop_mod, bop_pow, bop_shl, MP.cop_lt, MP.cop_le, MP.cop_gt, MP.cop_ge, MP.cop_eq, MP.cop_ne, tru_bl, tru_int, tru_non, tru_tup, isTy_int, isTy_bl, isTy_non, isTy_str, isTy_tup, isTy_lst, isTy_ref, bt_len, bt_abs, bt_int, bt_intb, bt_tup, bt_tupl, bt_tupr, bt_list, bt_sum, bt_min, bt_max, bt_min2, bt_max2, recv_ref, putAt_ref, meth_append, meth_pop, atI_0, atI_1, atI_2, atI_3, ixN_0, ixN_1, ixN_2, ixN_3, Option.isSome_some, Option.some.injEq, Option.map_some, Option.bind_some, Option.map_none, Option.bind_none, List.map_cons, List.map_nil, List.cons_append, List.nil_append, List.length_cons, List.length_nil, List.getElem?_cons_succ, List.getElem?_cons_zero, List.set_cons_succ, List.set_cons_zero, List.replicate_zero, List.replicate_succ, Nat.zero_add, Nat.reduceAdd, Nat.reduceSub, Nat.reduceLT, ↓reduceIte, Nat.lt_add_left_iff_pos, Nat.zero_lt_succ, reduceCtorEq, false_and, and_false, true_and, and_true, or_false, false_or, or_true, true_or, decide_true, decide_false, Bool.not_true, Bool.not_false, cond_true, cond_false, false_implies, true_implies, implies_true, not_true_eq_false, not_false_eq_true, Bool.false_eq_true, Bool.true_eq_false])
/-! ### a pair -/
theorem kw10 (a b : D) : kwPut [] [1, 0] [a, b] = [b, a] := rfl
theorem kw0 (a : D) : kwPut [] [0] [a] = [a] := rfl
theorem Fr1.up {n m : Nat} {p : Int × Int} (h : Fr1 n p) (hm : n ≤ m) : Fr1 m p := ⟨B_up h.1 hm, B_up h.2.1 hm, h.2.2⟩
theorem pair_ok {p q : Int × Int} (hp : Fr1 42 p) (hq : Fr1 42 q) (k : Nat) (s : Sto) : (g (k + 8)).call 19 [fd p, fd q] s = .ok (.bl true) s := by
  refine Ok.eq (Ok_call rfl rfl ?_)
  show OkW (sxs _ b__law_pair_right _ s) _
  unfold b__law_pair_right
  have a1 := added_ok hp hq (by decide) (k + 4) s
  have a2 := product_ok hp hq (by decide) (k + 4) s
  have a3 := size_ok p (k + 6) s
  have a4 := below_ok hp hq (by decide) (k + 6) s
  have a5 := below_ok hq hp (by decide) (k + 6) s
  have a6 := size_ok q (k + 6) s
  have a7 := below_ok hp hp (by decide) (k + 6) s
  have hn : (p.2 * q.2) ≠ 0 := mul_ne hp.2.2 hq.2.2
  have hB : (p.2 * q.2).natAbs < B 590 := B_up (mulI_B hp.2.1 hq.2.1) (by decide)
  have b1 := law_low_ok (p.1 * q.2 + q.1 * p.2) (p.2 * q.2) hB hn (k + 5) s
  have b2 := law_low_ok (p.1 * q.1) (p.2 * q.2) hB hn (k + 5) s
  have m1 := mulOk_B hp.1 hq.2.1 (by decide)
  have m2 := mulOk_B hq.1 hp.2.1 (by decide)
  have m3 := mulOk_B hp.2.1 hq.2.1 (by decide)
  have m4 := mulOk_B hp.1 hq.1 (by decide)
  have m5 := mulOk_B hp.2.1 hq.1 (by decide)
  have L1 := like_ok 2 (.tup [fd (low (p.1 * q.2 + q.1 * p.2) (p.2 * q.2)), fd (low (p.1 * q.1) (p.2 * q.2)), .tup [.int p.1.natAbs, .int p.2], .bl (decide (p.1 * q.2 < q.1 * p.2)), .bl (decide (q.1 * p.2 < p.1 * q.2))]) (by simp [Vt, fd]) (k + 4) s
  have L2 := like_ok 2 (.tup [fd (low (p.1 * q.2 + q.1 * p.2) (p.2 * q.2)), fd (low (p.1 * q.1) (p.2 * q.2)), .tup [.int q.1.natAbs, .int q.2], .bl false]) (by simp [Vt, fd]) (k + 4) s
  have e7 : decide (p.1 * p.2 < p.1 * p.2) = false := by simp
  rw [e7] at a7
  simp only [fd] at a1 a2 a3 a4 a5 a6 a7 b1 b2 L1 L2 ⊢
  refine OkW_then fun N hN => ?_; close_w
  refine ⟨by decide, hN _ _ ?_⟩
  refine OkW_then fun N hN => ?_; close_w
  rw [a1]; close_w
  rw [a2]; close_w
  rw [a3]; close_w
  rw [a4]; close_w
  rw [kw10, a5]; close_w
  refine ⟨by decide, hN _ _ ?_⟩
  refine OkW_then fun N hN => ?_; close_w
  refine ⟨m1, m2, m3, ?_⟩
  rw [b1]; close_w
  refine ⟨m4, m3, ?_⟩
  rw [b2]; close_w
  refine ⟨by decide, m1, m2, m2, m1, by decide, hN _ _ ?_⟩
  rw [abs_nat]
  refine OkW_then fun N hN => ?_; close_w
  rw [L1]; close_w
  refine hN _ _ ?_
  refine OkW_then fun N hN => ?_; close_w
  rw [kw10, a1]; close_w
  rw [a2]; close_w
  rw [kw0, a6]; close_w
  rw [a7]; close_w
  refine ⟨by decide, hN _ _ ?_⟩
  refine OkW_then fun N hN => ?_; close_w
  rw [abs_nat]
  refine ⟨by decide, by decide, ?_⟩
  rw [L2]; close_w
  refine hN _ _ ?_
  refine OkW_then fun N hN => ?_; close_w
  refine ⟨fun h0 => ?_, fun h0 => hN _ _ ?_⟩
  · refine OkW_then fun N hN => ?_; close_w
    rw [leave_id rfl]
    exact ⟨rfl, rfl⟩
  have hB2 : (p.2 * q.1).natAbs < B 590 := B_up (mulI_B hp.2.1 hq.1) (by decide)
  have b3 := law_low_ok (p.1 * q.2) (p.2 * q.1) hB2 (Int.mul_ne_zero (by have := hp.2.2; omega) h0) (k + 5) s
  have a8 := quotient_ok hp hq h0 (by decide) (k + 4) s
  have L3 := like_ok 2 (.tup [fd (low (p.1 * q.2) (p.2 * q.1)), fd (low (p.1 * q.2) (p.2 * q.1))]) (by simp [Vt, fd]) (k + 4) s
  simp only [fd] at b3 a8 L3
  refine OkW_then fun N hN => ?_; close_w
  refine ⟨m1, m5, ?_⟩
  rw [b3]; close_w
  refine hN _ _ ?_
  refine OkW_then fun N hN => ?_; close_w
  rw [a8]; close_w
  rw [kw10, a8]; close_w
  refine ⟨by decide, by decide, ?_⟩
  rw [L3]; close_w
  rw [leave_id rfl]
  exact ⟨rfl, rfl⟩


/-! ### by hand -/
theorem low_lit {t b x y : Int} (hb : b.natAbs < B 590 ∧ b ≠ 0) (h : low t b = (x, y)) (k : Nat) (s : Sto) : (gam fns FU (k + 2)).call 3 [.int t, .int b] s = .ok (.tup [.int x, .int y]) s := by
  rw [show (gam fns FU (k + 2)).call 3 [.int t, .int b] s = _ from lowest_ok t b hb.1 hb.2 k s, h]; rfl
theorem Th_ints {a b : Int} (s : Sto) (h : b.natAbs < B 590) : Th s (.tup [.int a, .int b]) := by
  refine .inl ⟨trivial, fun xs e => ?_⟩
  cases e
  refine ⟨by simp [Pl], fun x y e => ?_⟩
  cases e; exact h
theorem fr_lit {a b : Int} (s : Sto) (t : Bool) (h : b.natAbs < B 590) (e : isF (.tup [.int a, .int b]) = t) (k : Nat) : (gam fns FU (k + 2)).call 9 [.tup [.int a, .int b]] s = .ok (.bl t) s := by
  rw [show (gam fns FU (k + 2)).call 9 [.tup [.int a, .int b]] s = _ from isfrac_ok (Th_ints s h) k, e]
end K08

set_option Elab.async false
set_option linter.all false
set_option maxRecDepth 100000
set_option maxHeartbeats 4000000
namespace K08
open PySem MP
local macro_rules | `(tactic| close_w) => `(tactic| simp only [OkW_nil, OkW_nx, OkW_rt, OkW_bk, OkW_ct, sx, Ok_w, ev, evs, evo, evi, tst, Ok_bind, Ok_noexc, Ok_settled, Ok_ok, Ok_ifo, Ok_ifr, Ok_some, OkW_if, Ok_if, decide_eq_true_eq, decide_eq_false_iff_not, Bool.not_eq_true', Bool.not_eq_false', MP.bindT, MP.bindTs, parF, frAt, augW, wipeF, startF, gam_fuel, lstAt_0, lstAt_1, lstAt_2, lstAt_3, lstAt_app, lstAt_appS, set_app, set_appS, seqOf_tup, seqOf_fro, seqOf_lst, seqOf_ref, lstOf_fro, lstOf_lst, lstOf_ref, lstOf_tup, wOf_lst, wOf_ref, itOf_tup, itOf_fro, itOf_lst, itOf_ref, lenD_tup, lenD_fro, lenD_lst, lenD_ref, ix_tup, ix_fro, ix_lst, ix_ref, slc_tup, slc_fro, slc_lst, slc_ref, settle_non, settle_bl, settle_int, settle_str, settle_tup, settle_fro, settle_ref, settle_lst, addD_int, addD_tup, addD_lst, addD_str, addD_rl, cop_is, mulD_int, MP.bop_add, bop_mul, bop_sub, bop_fdiv, bop_mod, bop_pow, bop_shl, MP.cop_lt, MP.cop_le, MP.cop_gt, MP.cop_ge, MP.cop_eq, MP.cop_ne, tru_bl, tru_int, tru_non, tru_tup, isTy_int, isTy_bl, isTy_non, isTy_str, isTy_tup, isTy_lst, isTy_ref, bt_len, bt_abs, bt_int, bt_intb, bt_tup, bt_tupl, bt_tupr, bt_list, bt_sum, bt_min, bt_max, bt_min2, bt_max2, recv_ref, putAt_ref, meth_append, meth_pop, atI_0, atI_1, atI_2, atI_3, ixN_0, ixN_1, ixN_2, ixN_3, Option.isSome_some, Option.some.injEq, Option.map_some, Option.bind_some, Option.map_none, Option.bind_none, List.map_cons, List.map_nil, List.cons_append, List.nil_append, List.length_cons, List.length_nil, List.getElem?_cons_succ, List.getElem?_cons_zero, List.set_cons_succ, List.set_cons_zero, List.replicate_zero, List.replicate_succ, Nat.zero_add, Nat.reduceAdd, Nat.reduceSub, Nat.reduceLT, ↓reduceIte, Nat.lt_add_left_iff_pos, Nat.zero_lt_succ, reduceCtorEq, false_and, and_false, true_and, and_true, or_false, false_or, or_true, true_or, decide_true, decide_false, Bool.not_true, Bool.not_false, cond_true, cond_false, false_implies, true_implies, implies_true, not_true_eq_false, not_false_eq_true, Bool.false_eq_true, Bool.true_eq_false])
theorem q_lit {a b c d x y : Int} (hp : Fr1 10 (a, b) ∧ Fr1 10 (c, d) ∧ c ≠ 0) (h : low (a * d) (b * c) = (x, y)) (k : Nat) (s : Sto) : (gam fns FU (k + 3)).call 6 [.tup [.int a, .int b], .tup [.int c, .int d]] s = .ok (.tup [.int x, .int y]) s := by
  rw [show (gam fns FU (k + 3)).call 6 [.tup [.int a, .int b], .tup [.int c, .int d]] s = _ from quotient_ok hp.1 hp.2.1 hp.2.2 (by decide) k s, h]; rfl
theorem p_lit {a b c d x y : Int} (hp : Fr1 10 (a, b) ∧ Fr1 10 (c, d)) (h : low (a * c) (b * d) = (x, y)) (k : Nat) (s : Sto) : (gam fns FU (k + 3)).call 5 [.tup [.int a, .int b], .tup [.int c, .int d]] s = .ok (.tup [.int x, .int y]) s := by
  rw [show (gam fns FU (k + 3)).call 5 [.tup [.int a, .int b], .tup [.int c, .int d]] s = _ from product_ok hp.1 hp.2 (by decide) k s, h]; rfl
theorem a_lit {a b c d x y : Int} (hp : Fr1 10 (a, b) ∧ Fr1 10 (c, d)) (h : low (a * d + c * b) (b * d) = (x, y)) (k : Nat) (s : Sto) : (gam fns FU (k + 3)).call 4 [.tup [.int a, .int b], .tup [.int c, .int d]] s = .ok (.tup [.int x, .int y]) s := by
  rw [show (gam fns FU (k + 3)).call 4 [.tup [.int a, .int b], .tup [.int c, .int d]] s = _ from added_ok hp.1 hp.2 (by decide) k s, h]; rfl
theorem b_lit {a b c d : Int} (t : Bool) (hp : Fr1 10 (a, b) ∧ Fr1 10 (c, d)) (h : decide (a * d < c * b) = t) (k : Nat) (s : Sto) : (gam fns FU (k + 1)).call 8 [.tup [.int a, .int b], .tup [.int c, .int d]] s = .ok (.bl t) s := by
  rw [show (gam fns FU (k + 1)).call 8 [.tup [.int a, .int b], .tup [.int c, .int d]] s = _ from below_ok hp.1 hp.2 (by decide) k s, h]
theorem s_lit {ps : List (Int × Int)} {ds : List D} {x y : Int} (hp : (∀ p ∈ ps, Fr1 40 p) ∧ ps.length ≤ 12) (hd : ds = ps.map fd) (h : sumf ps = (x, y)) (k : Nat) (s : Sto) : (gam fns FU (k + 4)).call 10 [.tup ds] s = .ok (.tup [.int x, .int y]) s := by
  rw [hd, show (gam fns FU (k + 4)).call 10 [.tup (ps.map fd)] s = _ from fsum_ok ps hp.1 hp.2 k s, h]; rfl
theorem byhand_ok (k : Nat) (s : Sto) : (g (k + 9)).call 22 [] s = .ok (.bl true) s := by
  refine Ok.eq (Ok_call rfl rfl ?_)
  show OkW (sxs _ b__law_by_hand _ s) _
  unfold b__law_by_hand
  have th : Th s (.tup [.int 1, .bl true]) := .inl ⟨trivial, fun xs e => by cases e; exact ⟨by simp [Pl], fun x y e => by cases e⟩⟩
  refine OkW_then fun N hN => ?_; close_w
  rw [low_lit (x := -2) (y := 3) (by decide +kernel) (by decide +kernel) (k + 6) s]; close_w
  refine ⟨by decide, by decide, ?_⟩
  rw [q_lit (x := 2) (y := 3) (by unfold Fr1; decide +kernel) (by decide +kernel) (k + 5) s]; close_w
  refine ⟨by decide, ?_⟩
  rw [fr_lit s false (by decide +kernel) (by decide +kernel) (k + 6)]; close_w
  refine ⟨by decide, ?_⟩
  rw [fr_lit s true (by decide +kernel) (by decide +kernel) (k + 6)]; close_w
  refine ⟨by decide, ?_⟩
  rw [fr_lit s false (by decide +kernel) (by decide +kernel) (k + 6)]; close_w
  refine ⟨by decide, ?_⟩
  rw [show (gam fns FU (k + 8)).call 9 [.tup [.int 1, .bl true]] s = .ok (.bl false) s from isfrac_ok th (k + 6)]; close_w
  refine ⟨by decide, hN _ _ ?_⟩
  refine OkW_then fun N hN => ?_; close_w
  refine ⟨by decide, by decide, by decide, ?_⟩
  rw [show (gam fns FU (k + 8)).call 13 [.tup [.tup [.int (-2), .int 3], .tup [.int 2, .int 3], .bl false, .bl true, .bl false, .bl false], .tup [.tup [.int (-2), .int 3], .tup [.int 2, .int 3], .bl false, .bl true, .bl false, .bl false]] s = .ok (.bl true) s from like_ok 2 _ (by simp [Vt]) (k + 5) s]
  close_w
  refine hN _ _ ?_
  refine OkW_then fun N hN => ?_; close_w
  rw [low_lit (x := 0) (y := 1) (by decide +kernel) (by decide +kernel) (k + 6) s]; close_w
  rw [kw10, low_lit (x := 9) (y := 1) (by decide +kernel) (by decide +kernel) (k + 6) s]; close_w
  rw [low_lit (x := 3) (y := 1) (by decide +kernel) (by decide +kernel) (k + 6) s]; close_w
  refine ⟨by decide, by decide, ?_⟩
  rw [a_lit (x := 0) (y := 1) (by unfold Fr1; decide +kernel) (by decide +kernel) (k + 5) s]; close_w
  refine ⟨by decide, by decide, ?_⟩
  rw [p_lit (x := 0) (y := 1) (by unfold Fr1; decide +kernel) (by decide +kernel) (k + 5) s]; close_w
  refine ⟨by decide, by decide, ?_⟩
  rw [q_lit (x := -3) (y := 2) (by unfold Fr1; decide +kernel) (by decide +kernel) (k + 5) s]; close_w
  refine ⟨by decide, hN _ _ ?_⟩
  refine OkW_then fun N hN => ?_; close_w
  refine ⟨by decide, by decide, by decide, by decide, by decide, by decide, by decide, ?_⟩
  rw [show ∀ d : D, d = .tup [.tup [.int 0, .int 1], .tup [.int 9, .int 1], .tup [.int 3, .int 1], .tup [.int 0, .int 1], .tup [.int 0, .int 1], .tup [.int (-3), .int 2]] → (gam fns FU (k + 8)).call 13 [d, d] s = .ok (.bl true) s from fun d h => by subst h; exact like_ok 2 _ (by simp [Vt]) (k + 5) s]
  · close_w
    refine hN _ _ ?_
    refine OkW_then fun N hN => ?_; close_w
    refine ⟨by decide, ?_⟩
    rw [show (gam fns FU (k + 8)).call 7 [.tup [.int (-7), .int 3]] s = .ok (.tup [.int 7, .int 3]) s from size_ok (-7, 3) (k + 7) s]; close_w
    refine ⟨by decide, by decide, ?_⟩
    rw [b_lit true (by unfold Fr1; decide +kernel) (by decide +kernel) (k + 7) s]; close_w
    refine ⟨by decide, by decide, ?_⟩
    rw [b_lit false (by unfold Fr1; decide +kernel) (by decide +kernel) (k + 7) s]; close_w
    refine ⟨by decide, by decide, by decide, by decide, ?_⟩
    rw [s_lit (ps := [(1, 2), (1, 3), (1, 6)]) (ds := [.tup [.int 1, .int 2], .tup [.int 1, .int 3], .tup [.int 1, .int 6]]) (x := 1) (y := 1) (by unfold Fr1; decide +kernel) rfl (by decide +kernel) (k + 4) s]; close_w
    refine ⟨by decide, by decide, ?_⟩
    rw [kw0, s_lit (ps := [(-1, 4)]) (ds := [.tup [.int (-1), .int 4]]) (x := -1) (y := 4) (by unfold Fr1; decide +kernel) rfl (by decide +kernel) (k + 4) s]; close_w
    refine ⟨by decide, hN _ _ ?_⟩
    refine OkW_then fun N hN => ?_; close_w
    refine ⟨by decide, by decide, by decide, by decide, ?_⟩
    rw [show ∀ d : D, d = .tup [.tup [.int 7, .int 3], .bl true, .bl false, .tup [.int 1, .int 1], .tup [.int (-1), .int 4]] → (gam fns FU (k + 8)).call 13 [d, d] s = .ok (.bl true) s from fun d h => by subst h; exact like_ok 2 _ (by simp [Vt]) (k + 5) s]
    · close_w
      refine hN _ _ ?_
      refine OkW_then fun N hN => ?_; close_w
      refine ⟨by decide, ?_⟩
      rw [kw0, fr_lit s true (by decide +kernel) (by decide +kernel) (k + 6)]; close_w
      refine ⟨by decide, ?_⟩
      rw [kw0, show (gam fns FU (k + 8)).call 9 [.ref s.length] (s ++ [O.lst [.int 3, .int 7]]) = .ok (.bl false) (s ++ [O.lst [.int 3, .int 7]]) from isfrac_ok (d := .ref s.length) (.inr ⟨_, _, rfl, lstAt_app⟩) (k + 6)]; close_w
      refine ⟨by decide, ?_⟩
      rw [fr_lit (s ++ [O.lst [.int 3, .int 7]]) false (by decide +kernel) (by decide +kernel) (k + 6)]; close_w
      rw [leave_same rfl]
      exact ⟨rfl, rfl⟩
    · rfl
  · rfl
end K08

set_option Elab.async false
set_option linter.all false
set_option maxRecDepth 100000
set_option maxHeartbeats 4000000
namespace K08
open PySem MP
local macro_rules | `(tactic| close_w) => `(tactic| simp only [OkW_nil, OkW_nx, OkW_rt, OkW_bk, OkW_ct, sx, Ok_w, ev, evs, evo, evi, tst, Ok_bind, Ok_noexc, Ok_settled, Ok_ok, Ok_ifo, Ok_ifr, Ok_some, OkW_if, Ok_if, decide_eq_true_eq, decide_eq_false_iff_not, Bool.not_eq_true', Bool.not_eq_false', MP.bindT, MP.bindTs, parF, frAt, augW, wipeF, startF, gam_fuel, lstAt_0, lstAt_1, lstAt_2, lstAt_3, lstAt_app, lstAt_appS, set_app, set_appS, seqOf_tup, seqOf_fro, seqOf_lst, seqOf_ref, lstOf_fro, lstOf_lst, lstOf_ref, lstOf_tup, wOf_lst, wOf_ref, itOf_tup, itOf_fro, itOf_lst, itOf_ref, lenD_tup, lenD_fro, lenD_lst, lenD_ref, ix_tup, ix_fro, ix_lst, ix_ref, slc_tup, slc_fro, slc_lst, slc_ref, settle_non, settle_bl, settle_int, settle_str, settle_tup, settle_fro, settle_ref, settle_lst, addD_int, addD_tup, addD_lst, addD_str, addD_rl, cop_is, mulD_int, MP.bop_add, bop_mul, bop_sub, bop_fdiv, bop_mod, bop_pow, bop_shl, MP.cop_lt, MP.cop_le, MP.cop_gt, MP.cop_ge, MP.cop_eq, MP.cop_ne, tru_bl, tru_int, tru_non, tru_tup, isTy_int, isTy_bl, isTy_non, isTy_str, isTy_tup, isTy_lst, isTy_ref, bt_len, bt_abs, bt_int, bt_intb, bt_tup, bt_tupl, bt_tupr, bt_list, bt_sum, bt_min, bt_max, bt_min2, bt_max2, recv_ref, putAt_ref, meth_append, meth_pop, atI_0, atI_1, atI_2, atI_3, ixN_0, ixN_1, ixN_2, ixN_3, Option.isSome_some, Option.some.injEq, Option.map_some, Option.bind_some, Option.map_none, Option.bind_none, List.map_cons, List.map_nil, List.cons_append, List.nil_append, List.length_cons, List.length_nil, List.getElem?_cons_succ, List.getElem?_cons_zero, List.set_cons_succ, List.set_cons_zero, List.replicate_zero, List.replicate_succ, Nat.zero_add, Nat.reduceAdd, Nat.reduceSub, Nat.reduceLT, ↓reduceIte, Nat.lt_add_left_iff_pos, Nat.zero_lt_succ, reduceCtorEq, false_and, and_false, true_and, and_true, or_false, false_or, or_true, true_or, decide_true, decide_false, Bool.not_true, Bool.not_false, cond_true, cond_false, false_implies, true_implies, implies_true, not_true_eq_false, not_false_eq_true, Bool.false_eq_true, Bool.true_eq_false])
/-! ### the bent ones -/
theorem str_app (x y : Str) : (x ++ y).length = x.length + y.length := by
  show (x.cps ++ y.cps).size = _
  rw [Array.size_append]; rfl
theorem str_short {i : Int} (h : i.natAbs < B 50) : (∀ s : Sto, bt1 s .str (.int i) = some (.str (toString i))) ∧ (Str.ofString (toString i)).length ≤ 100 := by
  have h1 := log2_B h (by decide)
  refine ⟨?_, ?_⟩
  · intro s; rw [bt_str, if_pos (by omega)]
  · have := int_text_length_le (a := i) (k := 50) (by decide) h1
    rw [ofString_length]; omega
theorem Ks_app {t s u : Sto} (h : Ks t s) : Ks (t ++ u) (s ++ u) := by
  obtain ⟨L, h, c, q, rfl, hL⟩ := h
  exact ⟨L, h, c, q, by rw [List.append_assoc], hL⟩
theorem Ks_un {t s u : Sto} (h : Ks (t ++ u) s) : ∃ s', s = s' ++ u ∧ Ks t s' := by
  obtain ⟨L, h, c, q, rfl, hL⟩ := h
  exact ⟨ket L h c q ++ t, by rw [List.append_assoc], ⟨L, h, c, q, rfl, hL⟩⟩
theorem Ks_len {t s : Sto} (h : Ks t s) : s.length = t.length + 2 := by
  obtain ⟨L, h, c, q, rfl, hL⟩ := h
  simp [ket]
theorem Ks_clean {t s : Sto} (h : Ks t s) (ht : Tc t) : s.all (O.clean · (t.length + 2)) = true := by
  obtain ⟨L, h, c, q, rfl, hL⟩ := h
  rw [List.all_append, show t.all (O.clean · (t.length + 2)) = true from ht]
  simp [ket, O.clean, D.cleans, D.clean, cleans_ints]
theorem atI_in {T : List D} {i : Int} (h0 : 0 ≤ i) (h1 : i < T.length) : ∃ e, L2.atI T i = some e ∧ e ∈ T := by
  obtain ⟨n, rfl⟩ : ∃ n : Nat, i = (n : Int) := ⟨i.toNat, by omega⟩
  have hn : n < T.length := by omega
  rw [atI_nat hn, List.getElem?_eq_getElem hn]
  exact ⟨_, rfl, List.getElem_mem hn⟩
mutual
theorem Dclean_up {n m : Nat} (h : n ≤ m) : ∀ d : D, d.clean n = true → d.clean m = true
  | .non, _ => rfl
  | .bl _, _ => rfl
  | .int _, _ => rfl
  | .str _, _ => rfl
  | .tup xs, c => by rw [D.clean] at c ⊢; exact Dcleans_up h xs c
  | .fro xs, c => by rw [D.clean] at c ⊢; exact Dcleans_up h xs c
  | .lst xs, c => by rw [D.clean] at c ⊢; exact Dcleans_up h xs c
  | .ref k, c => by
    rw [D.clean] at c ⊢
    have := of_decide_eq_true c
    exact decide_eq_true (by omega)
  | .exn _ xs, c => by rw [D.clean] at c ⊢; exact Dcleans_up h xs c
theorem Dcleans_up {n m : Nat} (h : n ≤ m) : ∀ ds : List D, D.cleans ds n = true → D.cleans ds m = true
  | [], _ => rfl
  | d :: ds, c => by
    rw [D.cleans, Bool.and_eq_true] at c
    rw [D.cleans, Dclean_up h d c.1, Dcleans_up h ds c.2]; rfl
end
theorem Oclean_up {o : O} {n m : Nat} (h : n ≤ m) (hc : o.clean n = true) : o.clean m = true := by
  cases o with
  | lst xs => exact Dcleans_up h xs hc
  | dic kvs =>
    refine List.all_eq_true.mpr fun p hp => ?_
    have := List.all_eq_true.mp hc p hp
    rw [Bool.and_eq_true] at this ⊢
    exact ⟨Dclean_up h _ this.1, Dclean_up h _ this.2⟩
  | ins c fs =>
    refine List.all_eq_true.mpr fun p hp => ?_
    exact Dclean_up h _ (List.all_eq_true.mp hc p hp)
/-- what may come out -/
def Res (d : D) : Prop := d.pure = true ∧ Pl d ∧ ∀ xs, d = .tup xs → (∀ x ∈ xs, Pl x) ∧ ∀ a b, xs = [.int a, .int b] → b.natAbs < B 590
theorem Res.tup2 {x y : D} (h : x.pure = true ∧ y.pure = true) (hx : Pl x ∧ Pl y) (hb : ∀ a b, x = .int a → y = .int b → b.natAbs < B 590) : Res (.tup [x, y]) := by
  refine ⟨by rw [D.pure, D.pures, D.pures, h.1, h.2]; rfl, trivial, fun xs e => ?_⟩
  cases e
  refine ⟨by simp [hx.1, hx.2], fun a b e => ?_⟩
  cases e
  exact hb a b rfl rfl
theorem Res.flat {d : D} (h : d.pure = true) (hp : Pl d) (ht : ∀ xs, d ≠ .tup xs) : Res d := ⟨h, hp, fun xs e => absurd e (ht xs)⟩
theorem Res.tupn {xs : List D} (h : D.pures xs = true) (hx : ∀ x ∈ xs, Pl x) (hl : xs.length ≠ 2) : Res (.tup xs) := by
  refine ⟨by rw [D.pure]; exact h, trivial, fun ys e => ?_⟩
  cases e
  refine ⟨hx, fun a b e => ?_⟩
  subst e
  exact absurd rfl hl
theorem bent_leave {s t s2 u : Sto} (hs : Ks t s) (hs2 : Ks t s2) (ht : Tc t) {e : D} {x y : Int} (hu : u[0]? = some (.lst [.int x, .int y])) (he : e = .ref s2.length ∨ Res e) : Ok nox (leave s e (s2 ++ u)) fun d s' => Ks t s' ∧ ((Th s' d ∧ ∀ n, d ≠ .ref n) ∨ ∃ x y, d = .lst [.int x, .int y]) := by
  have l1 := Ks_len hs
  have l2 := Ks_len hs2
  have hc : s2.all (O.clean · s.length) = true := by rw [l1]; exact Ks_clean hs2 ht
  rcases he with rfl | he
  · unfold leave
    have e1 : (s2 ++ u).take s.length = s2 := by rw [l1, ← l2]; simp
    have e2 : ¬ (D.ref s2.length).clean s.length = true := by rw [D.clean]; simp; omega
    have e3 : (s2 ++ u)[s2.length]? = some (.lst [.int x, .int y]) := by
      rw [List.getElem?_append_right (Nat.le_refl _), Nat.sub_self]; exact hu
    rw [e1, if_pos (.inr hc), if_neg e2]
    simp only [e3]
    rw [if_pos (by rfl)]
    exact ⟨hs2, .inr ⟨x, y, rfl⟩⟩
  · rw [leave_mod (by omega) hc (D.pure_clean _ _ he.1)]
    refine ⟨hs2, .inl ⟨.inl ⟨he.2.1, he.2.2⟩, fun n e => ?_⟩⟩
    subst e
    exact he.2.1
theorem pow59 : powI 10 59 = some (10 ^ 59) := by decide +kernel
theorem pow58 : powI 10 58 = some (10 ^ 58) := by decide +kernel
theorem bent_end {s t s1 : Sto} (hs : Ks t s) (hs1 : Ks t s1) (ht : Tc t) (x y : Int) (T1 T2 T : List D) (n : Nat) (hn : 2 ≤ n ∧ n ≤ 1000) (hcl : [O.lst [.int x, .int y], O.lst T1, O.lst T2, O.lst T].all (O.clean · (t.length + 4 + 2)) = true) (hl : T.length = n)
    (hT : ∀ e ∈ T, e = .ref s1.length ∨ Res e) (k : Nat) : Ok nox ((gam fns FU (k + 1)).call 12 [.ref 1, .int 6, .int n] (s1 ++ [O.lst [.int x, .int y]] ++ [O.lst T1] ++ [O.lst T2] ++ [O.lst T])) fun a_1 s_1 =>
      Ok nox (optR s_1 (ix s_1 (.ref (s1 ++ [O.lst [.int x, .int y]] ++ [O.lst T1] ++ [O.lst T2]).length) a_1)) fun d s' => Ok nox (leave s d s') fun d s' => Ks t s' ∧ ((Th s' d ∧ ∀ n, d ≠ .ref n) ∨ ∃ x y, d = .lst [.int x, .int y]) := by
  have e1 : s1 ++ [O.lst [.int x, .int y]] ++ [O.lst T1] ++ [O.lst T2] ++ [O.lst T] = s1 ++ [O.lst [.int x, .int y], O.lst T1, O.lst T2, O.lst T] := by simp
  rw [e1]
  generalize hu : [O.lst [.int x, .int y], O.lst T1, O.lst T2, O.lst T] = u at *
  have hul : u.length = 4 := by rw [← hu]; rfl
  have hu0 : u[0]? = some (.lst [.int x, .int y]) := by rw [← hu]; rfl
  have hu3 : lstAt u 3 = some T := by rw [← hu]; rfl
  have htc : Tc (t ++ u) := by
    unfold Tc
    rw [List.all_append, List.length_append, hul, Bool.and_eq_true]
    refine ⟨?_, hcl⟩
    refine List.all_eq_true.mpr fun o ho => Oclean_up (by omega) (List.all_eq_true.mp ht o ho)
  have hl1 := Ks_len hs1
  refine (dip_ok (Ks_app hs1) htc 6 n (by omega) k).mono ?_
  rintro _ s2 ⟨i, rfl, hs2, _, hi⟩
  have hi := hi (by omega)
  obtain ⟨s3, rfl, hs3⟩ := Ks_un hs2
  have hl3 := Ks_len hs3
  have e2 : (s1 ++ [O.lst [.int x, .int y]] ++ [O.lst T1] ++ [O.lst T2]).length = s3.length + 3 := by simp; omega
  obtain ⟨e, he1, he2⟩ := atI_in (T := T) hi.1 (by omega)
  rw [e2, ix_ref, lstAt_appS, hu3, Option.bind_some, he1, Ok_some]
  refine bent_leave hs hs3 ht hu0 ?_
  rcases hT e he2 with rfl | h
  · exact .inl (by rw [show s1.length = s3.length by omega])
  · exact .inr h
theorem bent_ok {s t : Sto} (hs : Ks t s) (ht : Tc t) (a b : Int) (ha : a.natAbs < B 50) (hb : b.natAbs < B 50) (k : Nat) : Ok nox ((g (k + 2)).call 21 [.ref 1, .tup [.int a, .int b]] s) fun d s' => Ks t s' ∧ ((Th s' d ∧ (∀ n, d ≠ .ref n)) ∨ ∃ x y, d = .lst [.int x, .int y]) := by
  refine Ok_call rfl rfl ?_
  show OkW (sxs _ b__law_bent _ _) _
  unfold b__law_bent
  refine OkW_then fun N hN => ?_; close_w
  refine hN _ _ ?_
  refine OkW_then fun N hN => ?_; close_w
  refine (dip_ok hs ht 5 5 (by decide) k).mono ?_
  rintro _ s1 ⟨i, rfl, hs1, _, hi⟩
  have hi := hi (by decide)
  close_w
  refine hN _ _ ?_
  have hby : (2 + i).natAbs < B 10 := by
    have : (2 + i).natAbs < 1024 := by omega
    exact this
  generalize 2 + i = by_ at *
  refine OkW_then fun N hN => ?_; close_w
  refine ⟨mulOk_B ha hby (by decide), mulOk_B hb hby (by decide), by decide, by decide, by decide, by decide, by decide, by decide, by decide, by decide, by decide, hN _ _ ?_⟩
  refine OkW_then fun N hN => ?_; close_w
  refine ⟨by decide, by decide, by decide, by decide, by decide, hN _ _ ?_⟩
  obtain ⟨b1, b2⟩ := str_short hb
  obtain ⟨a1, a2⟩ := str_short ha
  refine OkW_then fun N hN => ?_; close_w
  rw [b1]; close_w
  refine ⟨by decide, by decide, ?_⟩
  rw [a1]; close_w
  have l1 : (Str.ofString "/").length = 1 := by decide +kernel
  refine ⟨by unfold Short lim; omega, ?_⟩
  rw [b1]; close_w
  refine ⟨by rw [str_app]; unfold Short lim; omega, by decide, by decide, ?_⟩
  rw [pow59]; close_w
  rw [pow58]; close_w
  refine ⟨by decide, by decide, by decide, by decide, by decide, by decide, by decide, hN _ _ ?_⟩
  refine OkW_then fun N hN => ?_; close_w
  have l2 := Ks_len hs1
  refine bent_end hs hs1 ht a b _ _ _ 24 (by decide) ?_ rfl ?_ k
  · simp [O.clean, D.cleans, D.clean]; omega
  · have q : ∀ x y : Int, y.natAbs < B 590 → Res (.tup [.int x, .int y]) := fun x y h => .tup2 ⟨rfl, rfl⟩ ⟨trivial, trivial⟩ fun a b e1 e2 => by cases e2; exact h
    have hb' : b.natAbs < B 590 := B_up hb (by decide)
    have ha' : a.natAbs < B 590 := B_up ha (by decide)
    simp only [List.forall_mem_cons, List.not_mem_nil, false_implies, implies_true, and_true]
    refine ⟨.inr (q _ _ (B_up (mulI_B hb hby) (by decide))), .inr (q _ _ (by rw [show (0 - b).natAbs = b.natAbs by omega]; exact hb')), .inr (q _ _ (by decide +kernel)), .inl trivial, .inr (.tupn rfl (by simp [Pl]) (by simp)), .inr (.tupn rfl (by simp [Pl]) (by simp)),
      .inr (.tup2 ⟨rfl, rfl⟩ ⟨trivial, trivial⟩ fun _ _ _ e => by cases e), .inr (.tup2 ⟨rfl, rfl⟩ ⟨trivial, trivial⟩ fun _ _ e _ => by cases e), .inr (q _ _ (by decide +kernel)), .inr (q _ _ (by decide +kernel)), .inr (q _ _ (by decide +kernel)),
      .inr (.tup2 ⟨rfl, rfl⟩ ⟨trivial, trivial⟩ fun _ _ _ e => by cases e), .inr (.tup2 ⟨rfl, rfl⟩ ⟨trivial, trivial⟩ fun _ _ e _ => by cases e), .inr (.flat rfl trivial fun _ e => by cases e), .inr (.flat rfl trivial fun _ e => by cases e), .inr (.flat rfl trivial fun _ e => by cases e), .inr (.flat rfl trivial fun _ e => by cases e),
      .inr (.tup2 ⟨rfl, rfl⟩ ⟨trivial, trivial⟩ fun _ _ e _ => by cases e), .inr (q _ _ ha'), .inr (q _ _ (by decide +kernel)), .inr (q _ _ (by decide +kernel)), .inr (q _ _ (by decide +kernel)), .inr (q _ _ (by decide +kernel)), .inr (.tupn rfl (by simp) (by simp))⟩
end K08

set_option Elab.async false
set_option linter.all false
set_option maxRecDepth 100000
set_option maxHeartbeats 4000000
namespace K08
open PySem MP
local macro_rules | `(tactic| close_w) => `(tactic| simp only [OkW_nil, OkW_nx, OkW_rt, OkW_bk, OkW_ct, sx, Ok_w, ev, evs, evo, evi, tst, Ok_bind, Ok_noexc, Ok_settled, Ok_ok, Ok_ifo, Ok_ifr, Ok_some, OkW_if, Ok_if, decide_eq_true_eq, decide_eq_false_iff_not, Bool.not_eq_true', Bool.not_eq_false', MP.bindT, MP.bindTs, parF, frAt, augW, wipeF, startF, gam_fuel, lstAt_0, lstAt_1, lstAt_2, lstAt_3, lstAt_app, lstAt_appS, set_app, set_appS, seqOf_tup, seqOf_fro, seqOf_lst, seqOf_ref, lstOf_fro, lstOf_lst, lstOf_ref, lstOf_tup, wOf_lst, wOf_ref, itOf_tup, itOf_fro, itOf_lst, itOf_ref, lenD_tup, lenD_fro, lenD_lst, lenD_ref, ix_tup, ix_fro, ix_lst, ix_ref, slc_tup, slc_fro, slc_lst, slc_ref, settle_non, settle_bl, settle_int, settle_str, settle_tup, settle_fro, settle_ref, settle_lst, addD_int, addD_tup, addD_lst, addD_str, addD_rl, cop_is, mulD_int, MP.bop_add, bop_mul, bop_sub, bop_fdiv, bop_mod, bop_pow, bop_shl, MP.cop_lt, MP.cop_le, MP.cop_gt, MP.cop_ge, MP.cop_eq, MP.cop_ne, tru_bl, tru_int, tru_non, tru_tup, isTy_int, isTy_bl, isTy_non, isTy_str, isTy_tup, isTy_lst, isTy_ref, bt_len, bt_abs, bt_int, bt_intb, bt_tup, bt_tupl, bt_tupr, bt_list, bt_sum, bt_min, bt_max, bt_min2, bt_max2, recv_ref, putAt_ref, meth_append, meth_pop, atI_0, atI_1, atI_2, atI_3, ixN_0, ixN_1, ixN_2, ixN_3, Option.isSome_some, Option.some.injEq, Option.map_some, Option.bind_some, Option.map_none, Option.bind_none, List.map_cons, List.map_nil, List.cons_append, List.nil_append, List.length_cons, List.length_nil, List.getElem?_cons_succ, List.getElem?_cons_zero, List.set_cons_succ, List.set_cons_zero, List.replicate_zero, List.replicate_succ, Nat.zero_add, Nat.reduceAdd, Nat.reduceSub, Nat.reduceLT, ↓reduceIte, Nat.lt_add_left_iff_pos, Nat.zero_lt_succ, reduceCtorEq, false_and, and_false, true_and, and_true, or_false, false_or, or_true, true_or, decide_true, decide_false, Bool.not_true, Bool.not_false, cond_true, cond_false, false_implies, true_implies, implies_true, not_true_eq_false, not_false_eq_true, Bool.false_eq_true, Bool.true_eq_false])
/-! ### the law -/
/-- what is asked about, beside the kettle -/
def ThK (t : Sto) (d : D) : Prop := (Pl d ∧ ∀ xs, d = .tup xs → (∀ x ∈ xs, Pl x) ∧ ∀ a b, xs = [.int a, .int b] → b.natAbs < B 590) ∨ ∃ m xs, d = .ref (2 + m) ∧ lstAt t m = some xs
theorem ThK.th {t s : Sto} {d : D} (h : ThK t d) (hs : Ks t s) : Th s d := by
  rcases h with h | ⟨m, xs, rfl, hx⟩
  · exact .inl h
  · obtain ⟨L, h, c, q, rfl, _⟩ := hs
    refine .inr ⟨_, xs, rfl, ?_⟩
    have : (ket L h c q).length = 2 := rfl
    rw [← this, lstAt_appS]; exact hx
theorem lstAt_left {t u : Sto} {m : Nat} {xs : List D} (h : lstAt t m = some xs) : lstAt (t ++ u) m = some xs := by
  have hm : m < t.length := by
    by_cases hm : m < t.length
    · exact hm
    · unfold lstAt at h
      rw [List.getElem?_eq_none (by omega)] at h
      cases h
  unfold lstAt at h ⊢
  rw [List.getElem?_append_left hm]; exact h
theorem ThK.more {t u : Sto} {d : D} (h : ThK t d) : ThK (t ++ u) d := by
  rcases h with h | ⟨m, xs, rfl, hx⟩
  · exact .inl h
  · exact .inr ⟨m, xs, rfl, lstAt_left hx⟩
theorem ThK.settle {t : Sto} {d : D} (h : ThK t d) (s : Sto) : MP.settle d s = (d, s) := by
  rcases h with ⟨h, _⟩ | ⟨n, xs, rfl, _⟩
  · cases d <;> first | rfl | (exact h.elim)
  · rfl
theorem ThK.fd {t : Sto} {p : Int × Int} (h : p.2.natAbs < B 590) : ThK t (fd p) := by
  refine .inl ⟨trivial, fun xs e => ?_⟩
  cases e
  exact ⟨by simp [Pl], fun a b e => by cases e; exact h⟩
theorem Tc_lst {t : Sto} (ht : Tc t) (x y : Int) : Tc (t ++ [O.lst [.int x, .int y]]) := by
  unfold Tc
  rw [List.all_append, List.length_append, Bool.and_eq_true]
  refine ⟨List.all_eq_true.mpr fun o ho => Oclean_up (by omega) (List.all_eq_true.mp ht o ho), rfl⟩
theorem bent_thing {s t : Sto} (hs : Ks t s) (ht : Tc t) (a b : Int) (ha : a.natAbs < B 50) (hb : b.natAbs < B 50) (k : Nat) : Ok nox ((gam fns FU (k + 2)).call 21 [.ref 1, .tup [.int a, .int b]] s) fun d s' => ∃ u, Ks (t ++ u) (MP.settle d s').2 ∧ Tc (t ++ u) ∧ ThK (t ++ u) (MP.settle d s').1 := by
  refine (bent_ok hs ht a b ha hb k).mono ?_
  rintro d s' ⟨hs', h | ⟨x, y, rfl⟩⟩
  · refine ⟨[], ?_⟩
    rw [List.append_nil]
    have hd : ThK t d := by
      rcases h with ⟨h | ⟨n, xs, rfl, _⟩, hn⟩
      · exact .inl h
      · exact absurd rfl (hn n)
    rw [hd.settle]
    exact ⟨hs', ht, hd⟩
  · rw [settle_lst]
    refine ⟨[O.lst [.int x, .int y]], Ks_app hs', Tc_lst ht x y, .inr ⟨t.length, _, ?_, lstAt_app⟩⟩
    rw [Ks_len hs', Nat.add_comm]
theorem mulT (s : Sto) (d : D) : mulD s (.tup [d]) (.int 2) = some (.tup [d, d]) := by
  simp [mulD]
theorem low_by {t b c : Int} (hc : 0 < c) : low (t * c) (b * c) = low t b := by
  rw [Int.mul_comm t, Int.mul_comm b, low_scale hc]
/-- the end of a lap -/
theorem lap_end {g' : G} {k : Nat} (hg : g' = gam fns FU (k + 9)) {E : EndW} (hE : E.ex = nox) {t s : Sto} (hs : Ks t s) (d0 d1 d2 d3 : D) (h0 : ThK t d0) (h1 : ThK t d1) (h2 : ThK t d2) (h3 : ThK t d3) (o0 o1 o2 o3 o4 o5 o6 o7 o8 o9 o10 : Option D)
    (hN : ∀ o9, E.nx [o0, o1, o2, o3, o4, o5, o6, o7, o8, o9, o10] s) :
    OkW (forL none (fun x fr s => match MP.bindT (.name 9) x fr with
      | some fr2 => sxs g' (.cons (.ife (.not (.e (.call 13 (.cons (.call 9 (.cons (.var 9) .nil)) (.cons (.call 20 (.cons (.var 9) .nil)) .nil))))) (.cons (.ret (.con (.bl false))) .nil) .nil) .nil) fr2 s
      | none => .no) [d0, d1, d2, d3] [o0, o1, o2, o3, o4, o5, o6, o7, o8, o9, o10] s) E := by
  subst hg
  refine OkW_for (fun j fr s' => ∃ o9, fr = [o0, o1, o2, o3, o4, o5, o6, o7, o8, o9, o10] ∧ s' = s) _ 0 ⟨o9, rfl, rfl⟩ (fun _ _ _ _ _ _ => rfl) ?_ ?_
  · rintro j x fr s' hx ⟨o9, rfl, rfl⟩
    have hx : x = d0 ∨ x = d1 ∨ x = d2 ∨ x = d3 := by
      have := List.mem_of_getElem? hx
      simpa using this
    have ht : ThK t x := by rcases hx with rfl | rfl | rfl | rfl <;> assumption
    have hth := ht.th hs
    close_w
    refine OkW_then fun N hN => ?_; close_w
    rw [hE, ht.settle, show (gam fns FU (k + 9)).call 9 [x] s' = _ from isfrac_ok hth (k + 7)]; close_w
    rw [ht.settle, show (gam fns FU (k + 9)).call 20 [x] s' = _ from lawis_ok hth (k + 7)]; close_w
    rw [show (gam fns FU (k + 9)).call 13 [.bl (isF x), .bl (isF x)] s' = .ok (.bl true) s' from like_ok 2 _ (by simp [Vt]) (k + 6) s']; close_w
    refine hN _ _ ?_
    rw [OkW_nil]
    exact ⟨_, rfl, rfl⟩
  · rintro fr s' ⟨o9, rfl, rfl⟩
    exact hN o9
theorem law_ok (ns : List Int) (k : Nat) : ∃ s, (g (k + 10)).call 23 [.fro (ns.map .int)] [] = .ok (.bl true) s := by
  suffices h : Ok nox ((g (k + 10)).call 23 [.fro (ns.map .int)] []) fun d _ => d = .bl true by
    obtain ⟨d, s, e, rfl⟩ := h.get
    exact ⟨s, e⟩
  refine Ok_call rfl rfl ?_
  show OkW (sxs _ b_law _ _) _
  unfold b_law
  refine OkW_then fun N hN => ?_; close_w
  refine (kettle_ok ns (k + 8)).mono ?_
  rintro _ _ ⟨L, h, q, rfl, rfl, hL⟩
  close_w
  refine hN _ _ ?_
  have hs0 : Ks [] [O.lst (L.map D.int), O.lst [D.ref 0, .int h, .int 0, .int q]] := ⟨L, h, 0, q, by rw [List.append_nil]; rfl, hL⟩
  generalize [O.lst (L.map D.int), O.lst [D.ref 0, .int h, .int 0, .int q]] = s0 at hs0 ⊢
  refine OkW_then fun N hN => ?_; close_w
  refine ⟨by decide +kernel, ?_⟩
  refine OkW_for (fun j fr s => ∃ t o2 o3 o4 o5 o6 o7 o8 o9 o10, fr = [some (.fro (ns.map .int)), some (.ref 1), o2, o3, o4, o5, o6, o7, o8, o9, o10] ∧ Ks t s ∧ Tc t) _ 0 ⟨[], none, none, none, none, none, none, none, none, none, rfl, hs0, rfl⟩ (fun _ _ _ _ _ _ => rfl) ?_ ?_
  · rintro j x fr s hx ⟨t, o2, o3, o4, o5, o6, o7, o8, o9, o10, rfl, hs, ht⟩
    close_w
    refine OkW_then fun N2 hN2 => ?_; close_w
    refine (fraction_ok hs ht (k + 6)).mono ?_
    rintro _ s1 ⟨p, rfl, hs, hp⟩
    rw [fd]
    close_w
    refine (fraction_ok hs ht (k + 6)).mono ?_
    rintro _ s2 ⟨r, rfl, hs, hr⟩
    rw [fd]
    close_w
    refine hN2 _ _ ?_
    refine OkW_then fun N2 hN2 => ?_; close_w
    have hp1 : (p.1 + 1).natAbs < B 41 := addI_B hp.1 (by decide)
    rw [law_low_ok (p.1 + 1) p.2 (B_up hp.2.1 (by decide)) (by have := hp.2.2; omega) (k + 7), fd]
    close_w
    refine ⟨by decide, by decide, ?_⟩
    refine (dip_ok hs ht 7 4 (by decide) (k + 8)).mono ?_
    rintro _ s3 ⟨i, rfl, hs, _, hi⟩
    have hi := hi (by decide)
    have key : ∀ w : Int × Int, Fr1 42 w → N2 [some (.fro (ns.map .int)), some (.ref 1), some x, some (.tup [.int p.1, .int p.2]), some (.tup [.int w.1, .int w.2]), o5, o6, o7, o8, o9, o10] s3 := by
      intro w hw
      refine hN2 _ _ ?_
      refine OkW_then fun N3 hN3 => ?_; close_w
      rw [show (gam fns FU (k + 9)).call 19 [.tup [.int p.1, .int p.2], .tup [.int w.1, .int w.2]] s3 = .ok (.bl true) s3 from pair_ok (hp.up (by decide)) hw (k + 1) s3]
      close_w
      refine hN3 _ _ ?_
      refine OkW_then fun N3 hN3 => ?_; close_w
      refine (figure_ok hs ht (k + 7)).mono ?_
      rintro _ s4 ⟨a, rfl, hs, ha⟩
      close_w
      refine (figure_ok hs ht (k + 7)).mono ?_
      rintro _ s5 ⟨b0, rfl, hs, hb0⟩
      close_w
      refine hN3 _ _ ?_
      refine OkW_then fun N3 hN3 => ?_; close_w
      suffices key2 : ∀ b : Int, b ≠ 0 → b.natAbs ≤ 1000000000000 → N3 [some (.fro (ns.map .int)), some (.ref 1), some x, some (.tup [.int p.1, .int p.2]), some (.tup [.int w.1, .int w.2]), some (.int a), some (.int b), o7, o8, o9, o10] s5 by
        exact ⟨fun h => key2 b0 h (by omega), fun _ => key2 (-1) (by decide) (by decide)⟩
      intro b hb hb2
      have hbB : b.natAbs < B 40 := lt_B40 hb2
      have haB : a.natAbs < B 40 := lt_B40 (by omega)
      refine hN3 _ _ ?_
      refine OkW_then fun N3 hN3 => ?_; close_w
      refine (dip_ok hs ht 8 30 (by decide) (k + 8)).mono ?_
      rintro _ s6 ⟨c0, rfl, hs, _, hc⟩
      have hc := hc (by decide)
      close_w
      refine hN3 _ _ ?_
      have hc1 : 0 < 1 + c0 := by omega
      have hcB : (1 + c0).natAbs < B 10 := by
        have : (1 + c0).natAbs < 1024 := by omega
        exact this
      generalize 1 + c0 = c at hc1 hcB ⊢
      have hbc : (b * c).natAbs < B 50 := mulI_B hbB hcB
      refine OkW_then fun N3 hN3 => ?_; close_w
      rw [show (gam fns FU (k + 9)).call 3 [.int a, .int b] s6 = _ from lowest_ok a b (B_up hbB (by decide)) hb (k + 7) s6, fd]; close_w
      refine ⟨mulOk_B hbB hcB (by decide), mulOk_B haB hcB (by decide), ?_⟩
      rw [kw10, show (gam fns FU (k + 9)).call 3 [.int (a * c), .int (b * c)] s6 = _ from lowest_ok (a * c) (b * c) (B_up hbc (by decide)) (Int.mul_ne_zero hb (by omega)) (k + 7) s6, low_by hc1, fd]; close_w
      refine ⟨by decide, ?_⟩
      rw [show (gam fns FU (k + 9)).call 15 [.int a, .int b] s6 = _ from law_low_ok a b (B_up hbB (by decide)) hb (k + 7) s6, fd]; close_w
      refine ⟨by decide, ?_⟩
      rw [mulT]; close_w
      rw [show ∀ d : D, Vt 1 d → (gam fns FU (k + 9)).call 13 [.tup [d, d], .tup [d, d]] s6 = .ok (.bl true) s6 from fun d h => like_ok 2 _ (by simp [Vt, h]) (k + 6) s6]
      · close_w
        refine hN3 _ _ ?_
        refine OkW_then fun N3 hN3 => ?_; close_w
        refine (dip_ok hs ht 9 9 (by decide) (k + 8)).mono ?_
        rintro _ s7 ⟨m0, rfl, hs, _, hm⟩
        have hm := hm (by decide)
        close_w
        obtain ⟨n, hn⟩ : ∃ n : Nat, 1 + m0 = (n : Int) := ⟨(1 + m0).toNat, by omega⟩
        rw [hn]
        refine ⟨rngOk_nat (by omega), by rw [rngD_len]; unfold Short lim; omega, ?_⟩
        refine Ok_comp (fun j ys s => ∃ ps : List (Int × Int), ys = ps.map fd ∧ ps.length = j ∧ (∀ p ∈ ps, Fr1 40 p) ∧ Ks t s) _ 0 [] ⟨[], rfl, rfl, by simp, hs⟩ (fun _ _ _ _ => rfl) ?_ ?_
        · rintro j y ys s hy ⟨ps, rfl, hj, hps, hs⟩
          close_w
          refine (fraction_ok hs ht (k + 6)).mono ?_
          rintro _ s8 ⟨v, rfl, hs, hv⟩
          rw [show MP.settle (fd v) s8 = (fd v, s8) from rfl]
          refine ⟨ps ++ [v], by simp [consO], by simp; omega, ?_, hs⟩
          intro p hp
          simp only [List.mem_append, List.mem_singleton] at hp
          rcases hp with hp | rfl
          · exact hps p hp
          · exact hv
        · rintro zs s8 ⟨ps, h1, h2, hps, hs⟩
          rw [List.nil_append] at h1
          subst h1
          rw [rngD_len] at h2
          refine hN3 _ _ ?_
          refine OkW_then fun N3 hN3 => ?_; close_w
          have hl : ps.length ≤ 12 := by omega
          have hrev : sumf ps.reverse = sumf ps := sumf_rev fun p hp => (hps p hp).2.2
          have hps2 : ∀ p ∈ ps.reverse, Fr1 40 p := fun p hp => hps p (List.mem_reverse.mp hp)
          rw [show (gam fns FU (k + 9)).call 10 [.tup (ps.map fd)] s8 = _ from fsum_ok ps hps hl (k + 5) s8, fd]; close_w
          rw [kw0, ← List.map_reverse, show (gam fns FU (k + 9)).call 10 [.tup (ps.reverse.map fd)] s8 = _ from fsum_ok ps.reverse hps2 (by simpa using hl) (k + 5) s8, hrev, fd]; close_w
          refine ⟨by decide, ?_⟩
          rw [show (gam fns FU (k + 9)).call 18 [.tup (ps.map fd)] s8 = _ from lsum_ok ps hps hl (k + 5) s8, fd]; close_w
          refine ⟨by decide, ?_⟩
          rw [mulT]; close_w
          rw [show ∀ d : D, Vt 1 d → (gam fns FU (k + 9)).call 13 [.tup [d, d], .tup [d, d]] s8 = .ok (.bl true) s8 from fun d h => like_ok 2 _ (by simp [Vt, h]) (k + 6) s8]
          · close_w
            refine hN3 _ _ ?_
            refine OkW_then fun N3 hN3 => ?_; close_w
            refine (bent_thing hs ht p.1 p.2 (B_up hp.1 (by decide)) (B_up hp.2.1 (by decide)) (k + 7)).mono ?_
            rintro d1 s9 ⟨u1, hs, ht, hd1⟩
            generalize MP.settle d1 s9 = r1 at hs hd1 ⊢
            refine (bent_thing hs ht w.1 w.2 (B_up hw.1 (by decide)) (B_up hw.2.1 (by decide)) (k + 7)).mono ?_
            rintro d2 s10 ⟨u2, hs, ht, hd2⟩
            generalize MP.settle d2 s10 = r2 at hs hd2 ⊢
            refine ⟨by decide, ?_⟩
            refine (bent_thing hs ht a b (B_up haB (by decide)) (B_up hbB (by decide)) (k + 7)).mono ?_
            rintro d3 s11 ⟨u3, hs, ht, hd3⟩
            generalize MP.settle d3 s11 = r3 at hs hd3 ⊢
            refine ⟨by decide, ?_⟩
            refine lap_end (k := k) rfl rfl hs _ _ _ _ ?_ hd1.more.more hd2.more hd3 _ _ _ _ _ _ _ _ _ _ _ fun o9 => ?_
            · exact ThK.fd (p := p) (B_up hp.2.1 (by decide))
            · refine hN3 _ _ ?_
              rw [OkW_nil]
              exact ⟨_, _, _, _, _, _, _, _, _, _, rfl, hs, ht⟩
          · simp [Vt]
      · simp [Vt]
    have : i = 0 ∨ i = 1 ∨ i = 2 ∨ i = 3 := by omega
    rcases this with rfl | rfl | rfl | rfl
    · close_w; exact key r (hr.up (by decide))
    · close_w; exact key p (hp.up (by decide))
    · close_w
      obtain ⟨l1, l2, l3⟩ := low_B (t := p.1 + 1) (b := p.2) (by have := hp.2.2; omega) hp1 hp.2.1
      exact key _ ⟨B_up l1 (by decide), B_up l2 (by decide), l3⟩
    · close_w
      exact key (0 - p.1, p.2) ⟨by show (0 - p.1).natAbs < _; rw [show (0 - p.1).natAbs = p.1.natAbs by omega]; exact B_up hp.1 (by decide), B_up hp.2.1 (by decide), hp.2.2⟩
  · rintro fr s ⟨t, o2, o3, o4, o5, o6, o7, o8, o9, o10, rfl, hs, ht⟩
    refine hN _ _ ?_
    refine OkW_then fun N hN => ?_; close_w
    rw [show (gam fns FU (k + 9)).call 22 [] s = .ok (.bl true) s from byhand_ok k s]
    close_w
    have := leave_same (s₀ := []) (t := s) (v := .bl true) rfl
    rw [List.nil_append] at this
    rw [this]
    rfl
end K08

set_option Elab.async false
set_option linter.all false
set_option maxRecDepth 100000
set_option maxHeartbeats 4000000
open PySem MP
theorem K08.law_true (ns : List Int) (hl : ns.length ≤ 63) (hb : ∀ z ∈ ns, Builtin.Int.intBits z ≤ 1048576) : ∃ fuel s, (gam K08.fns fuel 200).call 23 [.fro (ns.map D.int)] [] = .ok (.bl true) s := ⟨K08.FU, K08.law_ok ns 190⟩
open PySem PySem.W PySem.Calls PyProof.Rows
theorem PySem.Challenge.cw_everbounded_k08_fractions_holds : PySem.Challenge.rw_everbounded_k08_fractions.Holds := by
  w_on; o_law
  refine HandSHeadRun.head_any (r := OpenLaw.row PySem.Challenge.rw_everbounded_k08_fractions) (q := view (OpenLaw.row PySem.Challenge.rw_everbounded_k08_fractions).prog [26]) (H := K08.hk) (ob := K08.ob) (M := 2000) (loose := K08.loose) (d := HandSHeadRun.topDef (OpenLaw.row PySem.Challenge.rw_everbounded_k08_fractions).prog 26) (kwd := []) K08.ob_eq
    (by kernel_rfl) (fun s => by kernel_rfl) K08.run (by kernel_rfl) (by kernel_rfl) (by kernel_rfl) (by rfl) (by first | assumption | decide +kernel) (by decide +kernel) ⟨rfl, rfl, rfl, rfl, rfl, by decide +kernel⟩ ?hw ?hc
  case hw => w_witness2
  case hc =>
    exact MP.walk_mp (T := K08.tab) (fns := K08.fns) (fis := K08.fis) (k := 200) (L := 23) (i := K08.i_law) (x := "script") (fun _ _ h => h) rfl (by decide) (by kernel_rfl) ⟨rfl, by decide, by decide⟩ K08.oks rfl rfl (by kernel_rfl) rfl K08.law_true
