import PyProof.Rows.All
import Wide.All
import OpenK.AllK
import Wide.FinOn
import HandS.ForMost
import HandS.ForExc
import HandS.DictComp
import HandS.CallSlots
import HandS.IsInst
import HandS.TupAny
import HandS.Dict
import HandS.Text
import HandS.Defaults
import HandS.Ends
import HandS.Codes
import PySem.Challenge.RW_graft_k25_long_texts
section
/-! Data, and a small language for what the program and the laws say. -/
namespace Gr

/-- a datum: what a Python value is, without addresses -/
inductive D where
  | non
  | bl (b : Bool)
  | int (i : Int)
  | str (s : List Nat)
  | tup (xs : List D)
  | lst (xs : List D)
  | dct (t : Bool) (kvs : List (D × D))
  | fn (f : String)
  | exc (c : String) (v : D)
  deriving Inhabited

abbrev Fs := List (String × Bool × D)
/-- a name's value: unset, a datum that never changes, a list or dict of the frame's own, an object of an own class -/
inductive Sl where
  | no
  | val (d : D)
  | own (d : D)
  | obj (c : String) (fs : Fs)
  deriving Inhabited

abbrev Env := List Sl

/-! ### equality, truth, order -/
def b2i (b : Bool) : Int := if b then 1 else 0
mutual
def eqD : D → D → Bool
  | .non, .non => true
  | .bl a, .bl b => a == b
  | .bl a, .int j => b2i a == j
  | .int i, .bl b => i == b2i b
  | .int i, .int j => i == j
  | .str x, .str y => x == y
  | .lst xs, .lst ys => eqDs xs ys
  | .tup xs, .tup ys => eqDs xs ys
  | _, _ => false
def eqDs : List D → List D → Bool
  | [], [] => true
  | x :: xs, y :: ys => eqD x y && eqDs xs ys
  | _, _ => false
end
mutual
/-- no dict, no function, no error inside: what == is asked of -/
def plain : D → Bool
  | .non => true
  | .bl _ => true
  | .int _ => true
  | .str _ => true
  | .tup xs => plains xs
  | .lst xs => plains xs
  | .dct _ _ => false
  | .fn _ => false
  | .exc _ _ => false
def plains : List D → Bool
  | [] => true
  | x :: xs => plain x && plains xs
end
mutual
def depth : D → Nat
  | .tup xs => depths xs + 1
  | .lst xs => depths xs + 1
  | .non => 0
  | .bl _ => 0
  | .int _ => 0
  | .str _ => 0
  | .dct _ _ => 0
  | .fn _ => 0
  | .exc _ _ => 0
def depths : List D → Nat
  | [] => 0
  | x :: xs => max (depth x) (depths xs)
end
def big : Nat := 16777216
/-- the place that an index of any sign means -/
def ixN (n : Nat) (i : Int) : Option Nat :=
  if 0 ≤ i then (if i < n then some i.toNat else none) else if -(n : Int) ≤ i then some (i + n).toNat else none
def atX {α : Type} (xs : List α) (i : Int) : Option α := (ixN xs.length i).bind fun j => xs[j]?
/-- a slice's bound -/
def clampN (n : Nat) (i : Int) : Nat := if i < 0 then (i + n).toNat else min i.toNat n
def cutLo (n : Nat) : Option Int → Nat
  | some i => clampN n i
  | none => 0
def cutHi (n : Nat) : Option Int → Nat
  | some i => clampN n i
  | none => n
def cut {α : Type} (xs : List α) (lo hi : Option Int) : List α := (xs.take (cutHi xs.length hi)).drop (cutLo xs.length lo)
def ltL : List Nat → List Nat → Bool
  | _, [] => false
  | [], _ :: _ => true
  | x :: xs, y :: ys => if x < y then true else if y < x then false else ltL xs ys
def lookD : List (D × D) → D → Option D
  | [], _ => none
  | (a, v) :: r, k => if eqD a k then some v else lookD r k
def putD (kvs : List (D × D)) (k v : D) : List (D × D) :=
  if kvs.any (fun p => eqD p.1 k) then kvs.map (fun p => if eqD p.1 k then (p.1, v) else p) else kvs ++ [(k, v)]
/-- what a tuple that is a key may hold -/
def flatTs : List D → Bool
  | [] => true
  | .int _ :: r => flatTs r
  | .str _ :: r => flatTs r
  | _ :: _ => false
/-- all of them are ints, bools, texts -/
def intsOf : List D → Option (List Int)
  | [] => some []
  | .int i :: r => (intsOf r).map (i :: ·)
  | _ => none
def blsOf : List D → Option (List Bool)
  | [] => some []
  | .bl i :: r => (blsOf r).map (i :: ·)
  | _ => none
def strsOf : List D → Option (List (List Nat))
  | [] => some []
  | .str i :: r => (strsOf r).map (i :: ·)
  | _ => none
def joinS (sep : List Nat) : List (List Nat) → List Nat
  | [] => []
  | [x] => x
  | x :: r => x ++ sep ++ joinS sep r
/-- the program's own errors: all are Refused -/
def subExc (c d : String) : Bool := c == d || d == "Refused" || d == "ValueError"

inductive BOp where
  | add | sub | mul | fdiv | mod
  deriving DecidableEq
inductive Cmp where
  | eq | ne | lt | le | gt | ge | is | isnot | isin | notin
  deriving DecidableEq
inductive B1 where
  | len | list | tuple | all | any | sum | max | int | abs | ord
  deriving DecidableEq
inductive B2 where
  | max | min
  deriving DecidableEq
inductive M1 where
  | join | get
  deriving DecidableEq
inductive M2 where
  | get
  deriving DecidableEq
inductive Ty where
  | tuple | str | int | bool | list | exc (c : String)
  deriving DecidableEq

/-! ### the language -/
inductive Tg where
  | nm (i : Nat)
  | tp (is : List Nat)
/-- a place: a name, a field of an object that a name holds -/
inductive Pl where
  | v (i : Nat)
  | f (i : Nat) (f : String)
mutual
inductive C where
  | var (i : Nat)
  | glob (x : String)
  | int (i : Int)
  | str (s : List Nat)
  | bl (b : Bool)
  | non
  | tup (es : List C)
  | lst (es : List C)
  | dnew (t : Bool)
  | bin (op : BOp) (a : C) (b : Bo)
  | neg (a : C)
  | cmp (op : Cmp) (a : C) (b : Bo)
  | chain (p q : Cmp) (a b : C) (c : Bo)
  | inG (t : Bool) (a : C) (x : String)
  | and_ (a b : C)
  | or_ (a b : C)
  | not_ (a : C)
  | ite (t : T) (a b : C)
  | idx (b : Bo) (i : C)
  | slc (b : Bo) (lo hi : Option C)
  | attr (i : Nat) (f : String)
  | comp (tg : Tg) (elt : C) (it : C) (ifs : List T)
  | dcomp (tg : Tg) (k v : C) (it : C)
  | rng (a : Option C) (b : C)
  | call (f : String) (args : List C)
  | ocall (i : Nat) (m : String) (args : List C)
  | isi (c : Bo) (t : Ty)
  | b1 (f : B1) (a : Bo)
  | b2 (f : B2) (a : C) (b : Bo)
  | m1 (m : M1) (o : Bo) (a : C)
  | m2 (m : M2) (o : Bo) (a b : C)
  | app (p : Pl) (a : C)
  | ext (p : Pl) (a : C)
  | pop (p : Pl)
/-- what is only looked at: a place, or a value -/
inductive Bo where
  | p (p : Pl)
  | x (c : C)
inductive T where
  | val (b : Bo)
  | and_ (a b : T)
  | or_ (a b : T)
  | not_ (a : T)
end
inductive S where
  | asg (i : Nat) (e : C)
  | asgT (tg : List Nat) (e : C)
  | asgP (tg : List Nat) (es : List C)
  | aug (i : Nat) (op : BOp) (e : Bo)
  | setI (i : Nat) (ix e : C)
  | setF (i : Nat) (f : String) (e : C)
  | augF (i : Nat) (f : String) (op : BOp) (e : Bo)
  | setFI (i : Nat) (f : String) (ix e : C)
  | delFS (i : Nat) (f : String) (lo : C)
  | new (i : Nat) (c : String) (args : List C)
  | ex (e : C)
  | ret (e : C)
  | retv (i : Nat)
  | retN
  | ite (t : T) (a b : List S)
  | for_ (tg : Tg) (it : C) (body : List S)
  | while_ (t : T) (body : List S)
  | brk
  | cnt
  | pass
  | raise (c : String) (e : C)
  | try_ (body : List S) (cs : List String) (nm : Option Nat) (suite : List S)

structure Fn where
  N : List String
  np : Nat
  io : List Bool
  dflt : List D
  body : List S
structure Prog where
  fns : String → Option Fn
  glb : String → Option D
end Gr

end
section
/-! What the small language means: what must hold ahead of a piece so that it ends well. -/
namespace Gr
/-- what a call asks -/
abbrev CallT := String → List Sl → (Sl → List Sl → Prop) → (String → D → Prop) → Prop
structure Cx where
  fns : String → Option Fn
  glb : String → Option D
  call : CallT
abbrev Xt := String → D → Env → Prop

/-! ### places -/
def lookK : Env → Nat → (Sl → Prop) → Prop
  | [], _, _ => False
  | s :: _, 0, k => k s
  | _ :: e, i + 1, k => lookK e i k
def setK : Env → Nat → Sl → (Env → Prop) → Prop
  | [], _, _, _ => False
  | _ :: e, 0, s, k => k (s :: e)
  | x :: e, i + 1, s, k => setK e i s fun e' => k (x :: e')
def fgetK : Fs → String → (Bool → D → Prop) → Prop
  | [], _, _ => False
  | (g, x) :: r, f, k => if g = f then k x.1 x.2 else fgetK r f k
def fputK : Fs → String → Bool → D → (Fs → Prop) → Prop
  | [], f, o, x, k => k [(f, o, x)]
  | (g, y) :: r, f, o, x, k => if g = f then k ((g, o, x) :: r) else fputK r f o x fun r' => k ((g, y) :: r')
def objK : Sl → (String → Fs → Prop) → Prop
  | .obj c fs, k => k c fs
  | _, _ => False
/-- a value that is kept from now on -/
def frzK : Sl → (D → Prop) → Prop
  | .val d, k => k d
  | .own d, k => k d
  | _, _ => False
def ownK : Sl → (D → Prop) → Prop
  | .own d, k => k d
  | _, _ => False
def valK : Sl → (D → Prop) → Prop
  | .val d, k => k d
  | _, _ => False
def onlyIf : Bool → Prop → Prop
  | true, p => p
  | false, _ => False
/-- what stands at a place, read where it stands -/
def rdK : Pl → Env → (D → Prop) → Prop
  | .v i, e, k => lookK e i fun s => frzK s k
  | .f i f, e, k => lookK e i fun s => objK s fun _ fs => fgetK fs f fun _ d => k d
/-- an own list or dict at a place -/
def rdOK : Pl → Env → (D → Prop) → Prop
  | .v i, e, k => lookK e i fun s => ownK s k
  | .f i f, e, k => lookK e i fun s => objK s fun _ fs => fgetK fs f fun o d => onlyIf o (k d)
def wrOK : Pl → Env → D → (Env → Prop) → Prop
  | .v i, e, d, k => setK e i (.own d) k
  | .f i f, e, d, k => lookK e i fun s => objK s fun c fs => fputK fs f true d fun fs' => setK e i (.obj c fs') k
def varK : Sl → Nat → Env → (Sl → Env → Prop) → Prop
  | .val d, _, e, k => k (.val d) e
  | .own d, i, e, k => setK e i (.val d) fun e' => k (.val d) e'
  | _, _, _, _ => False
def attrK : Sl → Nat → String → Env → (Sl → Env → Prop) → Prop
  | .obj c fs, i, f, e, k => fgetK fs f fun o d => if o = true then fputK fs f false d fun fs' => setK e i (.obj c fs') fun e' => k (.val d) e' else k (.val d) e
  | .val (.exc _ v), _, _, e, k => k (.val v) e
  | _, _, _, _, _ => False
def optK {α : Type} : Option α → (α → Prop) → Prop
  | some a, k => k a
  | none, _ => False
def setsK : List Nat → List D → Env → (Env → Prop) → Prop
  | [], [], e, k => k e
  | i :: is, x :: xs, e, k => setK e i (.val x) fun e' => setsK is xs e' k
  | _, _, _, _ => False
def bind1K : Tg → D → Env → (Env → Prop) → Prop
  | .nm i, d, e, k => setK e i (.val d) k
  | .tp is, .tup xs, e, k => setsK is xs e k
  | .tp _, _, _, _ => False
def Tg.ix : Tg → List Nat
  | .nm i => [i]
  | .tp is => is
def wipeK : List Nat → Env → (Env → Prop) → Prop
  | [], e, k => k e
  | i :: r, e, k => setK e i .no fun e' => wipeK r e' k
def calmK : Sl → Prop → Prop
  | .no, p => p
  | .val _, p => p
  | _, _ => False
def hereK : Sl → Prop → Prop
  | .no, _ => False
  | _, p => p
def backK : List Nat → Env → Env → (Env → Prop) → Prop
  | [], _, e, k => k e
  | i :: r, e0, e, k => lookK e0 i fun s => calmK s (setK e i s fun e' => backK r e0 e' k)
def compK (tg : Tg) (ifs : Env → (Bool → Env → Prop) → Prop) (elt : Env → (Sl → Env → Prop) → Prop) : List D → Env → (List D → Env → Prop) → Prop
  | [], e, k => k [] e
  | x :: xs, e, k => bind1K tg x e fun e1 => ifs e1 fun b e2 => if b = true then elt e2 fun s e3 => frzK s fun y => wipeK tg.ix e3 fun e4 => compK tg ifs elt xs e4 fun ys e5 => k (y :: ys) e5 else wipeK tg.ix e2 fun e4 => compK tg ifs elt xs e4 k
def intD : D → Prop → Prop
  | .int _, p => p
  | _, _ => False
def lstK : D → Prop → Prop
  | .lst _, p => p
  | _, _ => False
def strK : D → Prop → Prop
  | .str _, p => p
  | _, _ => False
def dcompK (tg : Tg) (key val : Env → (Sl → Env → Prop) → Prop) : List D → List (D × D) → Env → (List (D × D) → Env → Prop) → Prop
  | [], acc, e, k => k acc e
  | x :: xs, acc, e, k => bind1K tg x e fun e1 => key e1 fun s e2 => frzK s fun a => val e2 fun s e3 => frzK s fun y => strK a (wipeK tg.ix e3 fun e4 => dcompK tg key val xs (putD acc a y) e4 k)
/-- own things are handed to a callee, and given back -/
def giveK : Sl → List Sl → Env → (List Sl → Env → Prop) → Prop
  | .own d, as, e, k => k (.own d :: as) e
  | .obj c fs, as, e, k => k (.obj c fs :: as) e
  | _, _, _, _ => False
def handK : List Bool → List C → List D → Env → (List Sl → Env → Prop) → Prop
  | true :: io, .var i :: cs, ds, e, k => lookK e i fun s => setK e i .no fun e' => handK io cs ds e' fun as e2 => giveK s as e2 k
  | false :: io, _ :: cs, d :: ds, e, k => handK io cs ds e fun as e2 => k (.val d :: as) e2
  | [], [], [], e, k => k [] e
  | _, _, _, _, _ => False
def handBackK : List Bool → List C → List Sl → Env → (Env → Prop) → Prop
  | true :: io, .var i :: cs, o :: os, e, k => setK e i o fun e' => handBackK io cs os e' k
  | false :: io, _ :: cs, os, e, k => handBackK io cs os e k
  | [], [], [], e, k => k e
  | _, _, _, _, _ => False
def doCallK (P : Cx) (X : Xt) (f : String) (io : List Bool) (dflt : List Sl) (cs : List C) (ds : List D) (e : Env) (k : Sl → Env → Prop) : Prop :=
  handK io cs ds e fun as e1 => P.call f (as ++ dflt) (fun r outs => handBackK io cs outs e1 fun e2 => k r e2) fun c v => X c v e1

/-! ### operations -/
def binK : BOp → D → D → (Sl → Prop) → Prop
  | .add, .int i, .int j, k => k (.val (.int (i + j)))
  | .add, .str x, .str y, k => x.length + y.length ≤ big ∧ k (.val (.str (x ++ y)))
  | .add, .tup x, .tup y, k => x.length + y.length ≤ big ∧ k (.val (.tup (x ++ y)))
  | .add, .lst x, .lst y, k => x.length + y.length ≤ big ∧ k (.own (.lst (x ++ y)))
  | .sub, .int i, .int j, k => k (.val (.int (i - j)))
  | .mul, .int i, .int j, k => ((-(2 ^ 64) < i ∧ i < 2 ^ 64) ∨ (-(2 ^ 64) < j ∧ j < 2 ^ 64)) ∧ k (.val (.int (i * j)))
  | .mul, .str x, .int n, k => (x.length * n.toNat ≤ big ∧ n < 2 ^ 62 ∧ -(2 ^ 62) < n) ∧ k (.val (.str (List.replicate n.toNat x).flatten))
  | .mul, .tup _, .int _, _ => False
  | .mul, .lst _, .int _, _ => False
  | .fdiv, .int i, .int j, k => (0 < j ∧ j < 1073741824) ∧ k (.val (.int (i / j)))
  | .mod, .int i, .int j, k => 0 < j ∧ k (.val (.int (i % j)))
  | _, _, _, _ => False
/-- what == is asked of: plain, and one side not too deep -/
def eqOk (a b : D) : Prop := plain a = true ∧ plain b = true ∧ (depth a ≤ 64 ∨ depth b ≤ 64)
def eqOks (a : D) (xs : List D) : Prop := plain a = true ∧ plains xs = true ∧ (depth a ≤ 64 ∨ depths xs ≤ 64)
def inK : D → D → (Bool → Prop) → Prop
  | .str [c], .str s, k => k (s.contains c)
  | x, .lst xs, k => eqOks x xs ∧ k (xs.any fun y => eqD y x)
  | x, .tup xs, k => eqOks x xs ∧ k (xs.any fun y => eqD y x)
  | .str x, .dct false kvs, k => k (lookD kvs (.str x)).isSome
  | .int x, .dct false kvs, k => k (lookD kvs (.int x)).isSome
  | .tup x, .dct true kvs, k => flatTs x = true ∧ k (lookD kvs (.tup x)).isSome
  | _, _, _ => False
def isNon : D → Bool
  | .non => true
  | _ => false
def isK : D → D → (Bool → Prop) → Prop
  | a, .non, k => k (isNon a)
  | _, _, _ => False
def cmpK : Cmp → D → D → (Bool → Prop) → Prop
  | .eq, a, b, k => eqOk a b ∧ k (eqD a b)
  | .ne, a, b, k => eqOk a b ∧ k (!eqD a b)
  | .lt, .int i, .int j, k => k (decide (i < j))
  | .le, .int i, .int j, k => k (decide (i ≤ j))
  | .gt, .int i, .int j, k => k (decide (j < i))
  | .ge, .int i, .int j, k => k (decide (j ≤ i))
  | .lt, .str x, .str y, k => k (ltL x y)
  | .is, a, b, k => isK a b k
  | .isnot, a, b, k => isK a b fun t => k (!t)
  | .isin, a, b, k => inK a b k
  | .notin, a, b, k => inK a b fun t => k (!t)
  | _, _, _, _ => False
def idxK : D → D → (D → Prop) → Prop
  | .lst xs, .int i, k => optK (atX xs i) k
  | .tup xs, .int i, k => optK (atX xs i) k
  | .str s, .int i, k => optK (atX s i) fun c => k (.str [c])
  | .dct false kvs, .str x, k => optK (lookD kvs (.str x)) k
  | .dct false kvs, .int x, k => optK (lookD kvs (.int x)) k
  | .dct true kvs, .tup x, k => flatTs x = true ∧ optK (lookD kvs (.tup x)) k
  | _, _, _ => False
def intOK : Option D → (Option Int → Prop) → Prop
  | none, k => k none
  | some (.int i), k => k (some i)
  | _, _ => False
def sliceK : D → Option D → Option D → (Sl → Prop) → Prop
  | .lst xs, lo, hi, k => intOK lo fun l => intOK hi fun h => k (.own (.lst (cut xs l h)))
  | .tup xs, lo, hi, k => intOK lo fun l => intOK hi fun h => k (.val (.tup (cut xs l h)))
  | .str xs, lo, hi, k => intOK lo fun l => intOK hi fun h => k (.val (.str (cut xs l h)))
  | _, _, _, _ => False
/-- what a for walks -/
def itemsK : D → (List D → Prop) → Prop
  | .lst xs, k => k xs
  | .tup xs, k => k xs
  | .str s, k => k (s.map fun c => .str [c])
  | _, _ => False
def truthK : D → (Bool → Prop) → Prop
  | .non, k => k false
  | .bl b, k => k b
  | .int i, k => k (i != 0)
  | .str s, k => k (!s.isEmpty)
  | .tup xs, k => k (!xs.isEmpty)
  | .lst xs, k => k (!xs.isEmpty)
  | _, _ => False
def isTyK : Ty → D → (Bool → Prop) → Prop
  | t, .tup _, k => k (decide (t = .tuple))
  | t, .lst _, k => k (decide (t = .list))
  | t, .str _, k => k (decide (t = .str))
  | t, .int _, k => k (decide (t = .int))
  | t, .bl _, k => k (decide (t = .int) || decide (t = .bool))
  | _, .non, k => k false
  | .exc d, .exc c _, k => k (subExc c d)
  | _, _, _ => False
def bi1K : B1 → D → (Sl → Prop) → Prop
  | .len, .str s, k => k (.val (.int s.length))
  | .len, .tup s, k => k (.val (.int s.length))
  | .len, .lst s, k => k (.val (.int s.length))
  | .list, .lst s, k => k (.own (.lst s))
  | .list, .tup s, k => k (.own (.lst s))
  | .tuple, .lst s, k => k (.val (.tup s))
  | .tuple, .tup s, k => k (.val (.tup s))
  | .all, .lst s, k => optK (blsOf s) fun bs => k (.val (.bl (bs.all id)))
  | .any, .lst s, k => optK (blsOf s) fun bs => k (.val (.bl (bs.any id)))
  | .sum, .lst s, k => optK (intsOf s) fun bs => k (.val (.int bs.sum))
  | .max, .lst s, k => optK (intsOf s) fun bs => optK bs.max? fun m => k (.val (.int m))
  | .int, .int i, k => k (.val (.int i))
  | .int, .bl b, k => k (.val (.int (b2i b)))
  | .abs, .int i, k => k (.val (.int (if i < 0 then -i else i)))
  | .ord, .str [c], k => k (.val (.int c))
  | _, _, _ => False
def bi2K : B2 → D → D → (Sl → Prop) → Prop
  | .max, .int i, .int j, k => k (.val (.int (if j > i then j else i)))
  | .min, .int i, .int j, k => k (.val (.int (if j < i then j else i)))
  | _, _, _, _ => False
/-- methods of built-in types that change nothing -/
def m1K : M1 → D → D → (Sl → Prop) → Prop
  | .join, .str s, .lst xs, k => optK (strsOf xs) fun ys => (ys.map (·.length)).sum + ys.length * s.length ≤ big ∧ k (.val (.str (joinS s ys)))
  | _, _, _, _ => False
def m2K : M2 → D → D → D → (Sl → Prop) → Prop
  | _, _, _, _, _ => False
def negK : D → (Sl → Prop) → Prop
  | .int i, k => k (.val (.int (-i)))
  | _, _ => False
def blK : D → (Bool → Prop) → Prop
  | .bl b, k => k b
  | _, _ => False
def rngK : Option D → D → (Sl → Prop) → Prop
  | none, .int n, k => (-(2 ^ 62) ≤ n ∧ n ≤ 16777216) ∧ k (.val (.lst ((List.range n.toNat).map fun (k : Nat) => .int k)))
  | some (.int m), .int n, k => ((-(2 ^ 62) ≤ m ∧ m < 2 ^ 62) ∧ (-(2 ^ 62) ≤ n ∧ n < 2 ^ 62) ∧ n - m ≤ 16777216) ∧ k (.val (.lst ((List.range (n - m).toNat).map fun (k : Nat) => .int (m + k))))
  | _, _, _ => False
def appK : D → D → (D → Prop) → Prop
  | .lst xs, x, k => xs.length < big ∧ k (.lst (xs ++ [x]))
  | _, _, _ => False
def extK : D → D → (D → Prop) → Prop
  | .lst xs, .lst ys, k => xs.length + ys.length ≤ big ∧ k (.lst (xs ++ ys))
  | .lst xs, .tup ys, k => xs.length + ys.length ≤ big ∧ k (.lst (xs ++ ys))
  | _, _, _ => False
def popK : D → (D → D → Prop) → Prop
  | .lst xs, k => optK xs.getLast? fun y => k y (.lst xs.dropLast)
  | _, _ => False
def defaults (fn : Fn) (n : Nat) : List Sl := (fn.dflt.drop (fn.dflt.length - (fn.np - n))).map .val
/-- a method: itself, and values -/
def ioM : List Bool → Bool
  | true :: r => r.all (! ·)
  | _ => false
def out1K : List Sl → (Sl → Prop) → Prop
  | [o], k => k o
  | _, _ => False
def noF : Fs → String → Bool
  | [], _ => true
  | (g, _) :: r, f => !(g == f) && noF r f

mutual
def wp (P : Cx) (X : Xt) : C → Env → (Sl → Env → Prop) → Prop
  | .var i, e, k => lookK e i fun s => varK s i e k
  | .glob x, e, k => optK (P.glb x) fun d => k (.val d) e
  | .int i, e, k => k (.val (.int i)) e
  | .str s, e, k => k (.val (.str s)) e
  | .bl b, e, k => k (.val (.bl b)) e
  | .non, e, k => k (.val .non) e
  | .tup es, e, k => wpL P X es e fun ds e' => k (.val (.tup ds)) e'
  | .lst es, e, k => wpL P X es e fun ds e' => k (.own (.lst ds)) e'
  | .dnew t, e, k => k (.own (.dct t [])) e
  | .bin op a b, e, k => wp P X a e fun s e1 => frzK s fun x => wpB P X b e1 fun y e2 => binK op x y fun r => k r e2
  | .neg a, e, k => wp P X a e fun s e1 => frzK s fun x => negK x fun r => k r e1
  | .cmp op a b, e, k => wp P X a e fun s e1 => frzK s fun x => wpB P X b e1 fun y e2 => cmpK op x y fun t => k (.val (.bl t)) e2
  | .chain p q a b c, e, k => wp P X a e fun s e1 => frzK s fun x => wp P X b e1 fun s e2 => frzK s fun y => cmpK p x y fun t =>
      if t = true then wpB P X c e2 fun z e3 => cmpK q y z fun t => k (.val (.bl t)) e3 else k (.val (.bl false)) e2
  | .inG t a x, e, k => wp P X a e fun s e1 => frzK s fun d => optK (P.glb x) fun y => inK d y fun b => k (.val (.bl (b == t))) e1
  | .and_ a b, e, k => wp P X a e fun s e1 => frzK s fun x => blK x fun t => if t = true then wp P X b e1 k else k (.val (.bl false)) e1
  | .or_ a b, e, k => wp P X a e fun s e1 => frzK s fun x => blK x fun t => if t = true then k (.val (.bl true)) e1 else wp P X b e1 k
  | .not_ a, e, k => wp P X a e fun s e1 => frzK s fun x => blK x fun t => k (.val (.bl (!t))) e1
  | .ite t a b, e, k => wpT P X t e fun t e1 => if t = true then wp P X a e1 k else wp P X b e1 k
  | .idx b i, e, k => wpBs P X b e (fun e k => wp P X i e fun s e' => frzK s fun d => k (some d) none e') fun d i _ e' => optK i fun i => idxK d i fun r => k (.val r) e'
  | .slc b lo hi, e, k => wpBs P X b e (fun e k => wpO P X lo e fun l e1 => wpO P X hi e1 fun h e2 => k l h e2) fun d l h e' => sliceK d l h fun r => k r e'
  | .attr i f, e, k => lookK e i fun s => attrK s i f e k
  | .comp tg elt it ifs, e, k => wp P X it e fun s e1 => frzK s fun d => itemsK d fun xs => wipeK tg.ix e1 fun e2 =>
      compK tg (wpTs P (fun _ _ _ => False) ifs) (wp P (fun _ _ _ => False) elt) xs e2 fun ds e3 => backK tg.ix e1 e3 fun e4 => k (.own (.lst ds)) e4
  | .dcomp tg a v it, e, k => wp P X it e fun s e1 => frzK s fun d => itemsK d fun xs => wipeK tg.ix e1 fun e2 =>
      dcompK tg (wp P (fun _ _ _ => False) a) (wp P (fun _ _ _ => False) v) xs [] e2 fun ds e3 => backK tg.ix e1 e3 fun e4 => k (.own (.dct false ds)) e4
  | .rng none b, e, k => wp P X b e fun s e1 => frzK s fun y => rngK none y fun r => k r e1
  | .rng (some a) b, e, k => wp P X a e fun s e1 => frzK s fun x => wp P X b e1 fun s e2 => frzK s fun y => rngK (some x) y fun r => k r e2
  | .call f args, e, k => optK (P.fns f) fun fn => wpA P X (fn.io.take args.length) args e fun ds e1 => doCallK P X f (fn.io.take args.length) (defaults fn args.length) args ds e1 k
  | .ocall i m args, e, k => lookK e i fun s => objK s fun c fs => onlyIf (noF fs m) (optK (P.fns (c ++ "." ++ m)) fun fn => onlyIf (ioM fn.io && Nat.ble (args.length + 1) fn.np && Nat.ble fn.np (args.length + 1 + fn.dflt.length)) (wpL P X args e fun ds e1 =>
      lookK e1 i fun s => objK s fun c' fs' => setK e1 i .no fun e2 => P.call (c ++ "." ++ m) (.obj c' fs' :: (ds.map .val ++ defaults fn (args.length + 1))) (fun r outs => out1K outs fun o => setK e2 i o fun e3 => k r e3) fun c v => X c v e2))
  | .isi c t, e, k => wpB P X c e fun x e1 => isTyK t x fun b => k (.val (.bl b)) e1
  | .b1 f a, e, k => wpB P X a e fun x e1 => bi1K f x fun r => k r e1
  | .b2 f a b, e, k => wp P X a e fun s e1 => frzK s fun x => wpB P X b e1 fun y e2 => bi2K f x y fun r => k r e2
  | .m1 m o a, e, k => wpBs P X o e (fun e k => wp P X a e fun s e' => frzK s fun d => k (some d) none e') fun d x _ e' => optK x fun x => m1K m d x fun r => k r e'
  | .m2 m o a b, e, k => wpBs P X o e (fun e k => wp P X a e fun s e1 => frzK s fun x => wp P X b e1 fun s e2 => frzK s fun y => k (some x) (some y) e2) fun d x y e' => optK x fun x => optK y fun y => m2K m d x y fun r => k r e'
  | .app p a, e, k => rdK p e fun d0 => lstK d0 <| wp P X a e fun s e1 => frzK s fun x => rdOK p e1 fun d => appK d x fun d' => wrOK p e1 d' fun e2 => k (.val .non) e2
  | .ext p a, e, k => rdK p e fun d0 => lstK d0 <| wp P X a e fun s e1 => frzK s fun x => rdOK p e1 fun d => extK d x fun d' => wrOK p e1 d' fun e2 => k (.val .non) e2
  | .pop p, e, k => rdOK p e fun d => popK d fun y d' => wrOK p e d' fun e2 => k (.val y) e2
def wpB (P : Cx) (X : Xt) : Bo → Env → (D → Env → Prop) → Prop
  | .p p, e, k => rdK p e fun d => k d e
  | .x c, e, k => wp P X c e fun s e' => frzK s fun d => k d e'
/-- the base of a subscript, the other things, then the base's datum -/
def wpBs (P : Cx) (X : Xt) : Bo → Env → (Env → (Option D → Option D → Env → Prop) → Prop) → (D → Option D → Option D → Env → Prop) → Prop
  | .p p, e, mi, k => rdK p e fun _ => mi e fun x y e2 => rdK p e2 fun d => k d x y e2
  | .x c, e, mi, k => wp P X c e fun s e1 => frzK s fun d => mi e1 fun x y e2 => k d x y e2
def wpL (P : Cx) (X : Xt) : List C → Env → (List D → Env → Prop) → Prop
  | [], e, k => k [] e
  | c :: cs, e, k => wp P X c e fun s e1 => frzK s fun x => wpL P X cs e1 fun xs e2 => k (x :: xs) e2
def wpV (P : Cx) (X : Xt) : List C → Env → (List Sl → Env → Prop) → Prop
  | [], e, k => k [] e
  | c :: cs, e, k => wp P X c e fun s e1 => wpV P X cs e1 fun xs e2 => k (s :: xs) e2
def wpO (P : Cx) (X : Xt) : Option C → Env → (Option D → Env → Prop) → Prop
  | none, e, k => k none e
  | some c, e, k => wp P X c e fun s e1 => frzK s fun x => intD x (k (some x) e1)
/-- the arguments that are not own -/
def wpA (P : Cx) (X : Xt) : List Bool → List C → Env → (List D → Env → Prop) → Prop
  | true :: io, .var i :: cs, e, k => lookK e i fun s => hereK s (wpA P X io cs e k)
  | false :: io, c :: cs, e, k => wp P X c e fun s e1 => frzK s fun x => wpA P X io cs e1 fun xs e2 => k (x :: xs) e2
  | [], [], e, k => k [] e
  | _, _, _, _ => False
def wpT (P : Cx) (X : Xt) : T → Env → (Bool → Env → Prop) → Prop
  | .val c, e, k => wpB P X c e fun d e1 => truthK d fun b => k b e1
  | .and_ a b, e, k => wpT P X a e fun t e1 => if t = true then wpT P X b e1 k else k false e1
  | .or_ a b, e, k => wpT P X a e fun t e1 => if t = true then k true e1 else wpT P X b e1 k
  | .not_ a, e, k => wpT P X a e fun t e1 => k (!t) e1
def wpTs (P : Cx) (X : Xt) : List T → Env → (Bool → Env → Prop) → Prop
  | [], e, k => k true e
  | t :: ts, e, k => wpT P X t e fun b e1 => if b = true then wpTs P X ts e1 k else k false e1
end

/-! ### statements -/
structure Ends where
  nx : Env → Prop
  rt : Sl → Env → Prop
  bk : Env → Prop
  ct : Env → Prop
  ex : Xt
def retK : Sl → Env → (Sl → Env → Prop) → Prop
  | .val d, e, k => k (.val d) e
  | .own d, e, k => k (.own d) e
  | _, _, _ => False
def asgK : Sl → Nat → Env → (Env → Prop) → Prop
  | .val d, i, e, k => setK e i (.val d) k
  | .own d, i, e, k => setK e i (.own d) k
  | _, _, _, _ => False
def asgsK : List Nat → List Sl → Env → (Env → Prop) → Prop
  | [], [], e, k => k e
  | i :: is, s :: ss, e, k => asgK s i e fun e' => asgsK is ss e' k
  | _, _, _, _ => False
def setDK : D → D → D → (D → Prop) → Prop
  | .lst xs, .int j, v, k => optK (ixN xs.length j) fun j => k (.lst (xs.set j v))
  | .dct false kvs, .str x, v, k => kvs.length < big ∧ k (.dct false (putD kvs (.str x) v))
  | .dct true kvs, .tup x, v, k => (flatTs x = true ∧ kvs.length < big) ∧ k (.dct true (putD kvs (.tup x) v))
  | _, _, _, _ => False
def augK : Sl → (D → Prop) → Prop
  | .val (.int i), k => k (.int i)
  | .val (.str s), k => k (.str s)
  | _, _ => False
def fldK : Sl → Fs → String → (Fs → Prop) → Prop
  | .val d, fs, f, k => fputK fs f false d k
  | .own d, fs, f, k => fputK fs f true d k
  | _, _, _, _ => False
def delK : D → D → (D → Prop) → Prop
  | .lst xs, .int j, k => k (.lst (xs.take (clampN xs.length j)))
  | _, _, _ => False
def newK : Sl → List Sl → String → (Fs → Prop) → Prop
  | .val .non, [.obj c' fs], c, k => c' = c ∧ k fs
  | _, _, _, _ => False
def forK (tg : Tg) (body : Env → Ends → Prop) : List D → Env → Ends → Prop
  | [], e, E => E.nx e
  | x :: xs, e, E => bind1K tg x e fun e1 => body e1 { E with nx := fun e2 => forK tg body xs e2 E, ct := fun e2 => forK tg body xs e2 E, bk := E.nx }
def whileN (t : Env → (Bool → Env → Prop) → Prop) (body : Env → Ends → Prop) : Nat → Env → Ends → Prop
  | 0, _, _ => False
  | n + 1, e, E => t e fun b e1 => if b = true then body e1 { E with nx := fun e2 => whileN t body n e2 E, ct := fun e2 => whileN t body n e2 E, bk := E.nx } else E.nx e1
def unname : Option Nat → Ends → Ends
  | none, E => { E with ex := fun _ _ _ => False }
  | some i, E => { nx := fun e => setK e i .no E.nx, rt := fun r e => setK e i .no (E.rt r), bk := fun e => setK e i .no E.bk, ct := fun e => setK e i .no E.ct, ex := fun _ _ _ => False }
def nameK : Option Nat → String → D → Env → (Env → Prop) → Prop
  | none, _, _, e, k => k e
  | some i, c, v, e, k => setK e i (.val (.exc c v)) k
mutual
def wpS (P : Cx) : S → Env → Ends → Prop
  | .asg i c, e, E => wp P E.ex c e fun s e1 => asgK s i e1 E.nx
  | .asgT tg c, e, E => wp P E.ex c e fun s e1 => frzK s fun d => bind1K (.tp tg) d e1 E.nx
  | .asgP tg cs, e, E => wpV P E.ex cs e fun ss e1 => asgsK tg ss e1 E.nx
  | .aug i op c, e, E => lookK e i fun s => valK s fun d => wpB P E.ex c e fun y e1 => binK op d y fun r => augK r fun z => setK e1 i (.val z) E.nx
  | .setI i ix c, e, E => wp P E.ex c e fun s e1 => frzK s fun v => rdK (.v i) e1 fun _ => wp P E.ex ix e1 fun s e2 => frzK s fun j => rdOK (.v i) e2 fun d => setDK d j v fun d' => wrOK (.v i) e2 d' E.nx
  | .setF i f c, e, E => wp P E.ex c e fun s e1 => lookK e1 i fun o => objK o fun c fs => fs.length < 500 ∧ fldK s fs f fun fs' => setK e1 i (.obj c fs') E.nx
  | .augF i f op c, e, E => lookK e i fun s => objK s fun _ fs => fgetK fs f fun o d => onlyIf (!o) (wpB P E.ex c e fun y e1 => binK op d y fun r => augK r fun z =>
      lookK e1 i fun s => objK s fun c fs => fs.length < 500 ∧ fputK fs f false z fun fs' => setK e1 i (.obj c fs') E.nx)
  | .setFI i f ix c, e, E => wp P E.ex c e fun s e1 => frzK s fun v => rdK (.f i f) e1 fun _ => wp P E.ex ix e1 fun s e2 => frzK s fun j => rdOK (.f i f) e2 fun d => setDK d j v fun d' => wrOK (.f i f) e2 d' E.nx
  | .delFS i f lo, e, E => rdK (.f i f) e fun _ => wp P E.ex lo e fun s e1 => frzK s fun j => rdOK (.f i f) e1 fun d => delK d j fun d' => wrOK (.f i f) e1 d' E.nx
  | .new i c args, e, E => optK (P.fns (c ++ ".__init__")) fun fn => onlyIf (ioM fn.io && fn.np == args.length + 1) (wpL P E.ex args e fun ds e1 =>
      P.call (c ++ ".__init__") (.obj c [] :: ds.map .val) (fun r outs => newK r outs c fun fs => setK e1 i (.obj c fs) E.nx) fun _ _ => False)
  | .ex c, e, E => wp P E.ex c e fun _ e1 => E.nx e1
  | .ret c, e, E => wp P E.ex c e fun s e1 => retK s e1 E.rt
  | .retv i, e, E => lookK e i fun s => retK s e fun s e1 => setK e1 i .no fun e2 => E.rt s e2
  | .retN, e, E => E.rt (.val .non) e
  | .ite t a b, e, E => wpT P E.ex t e fun t e1 => if t = true then wpSs P a e1 E else wpSs P b e1 E
  | .for_ tg it body, e, E => wp P E.ex it e fun s e1 => frzK s fun d => itemsK d fun xs => forK tg (wpSs P body) xs e1 E
  | .while_ t body, e, E => ∃ n, whileN (wpT P E.ex t) (wpSs P body) n e E
  | .brk, e, E => E.bk e
  | .cnt, e, E => E.ct e
  | .pass, e, E => E.nx e
  | .raise _ _, _, _ => False
  | .try_ _ _ _ _, _, _ => False
def wpSs (P : Cx) : List S → Env → Ends → Prop
  | [], e, E => E.nx e
  | s :: ss, e, E => wpS P s e { E with nx := fun e1 => wpSs P ss e1 E }
end

/-! ### defs -/
def outsK : List Bool → Env → (List Sl → Prop) → Prop
  | [], _, k => k []
  | true :: io, s :: e, k => outsK io e fun os => giveK s os [] fun os _ => k os
  | false :: io, _ :: e, k => outsK io e k
  | _, _, _ => False
def fits : List Bool → List Sl → Bool
  | [], [] => true
  | true :: io, .own _ :: r => fits io r
  | true :: io, .obj _ _ :: r => fits io r
  | false :: io, .val _ :: r => fits io r
  | _, _ => false
/-- the names' values at the entry -/
def padK : List String → List Sl → (Env → Prop) → Prop
  | [], [], k => k []
  | _ :: N, s :: ss, k => padK N ss fun e => k (s :: e)
  | _ :: N, [], k => padK N [] fun e => k (.no :: e)
  | _, _, _ => False
def runFn (P : Cx) (fn : Fn) (args : List Sl) (k : Sl → List Sl → Prop) (x : String → D → Prop) : Prop :=
  onlyIf (fits fn.io args) (padK fn.N args fun e => wpSs P fn.body e
    { nx := fun e => outsK fn.io e (k (.val .non)), rt := fun r e => outsK fn.io e (k r), bk := fun _ => False, ct := fun _ => False, ex := fun c v _ => x c v })
def Prog.cx (G : Prog) (c : CallT) : Cx := ⟨G.fns, G.glb, c⟩
theorem Prog.cx_fns (G : Prog) (c : CallT) : (G.cx c).fns = G.fns := rfl
theorem Prog.cx_glb (G : Prog) (c : CallT) : (G.cx c).glb = G.glb := rfl
theorem Prog.cx_call (G : Prog) (c : CallT) : (G.cx c).call = c := rfl
def Prog.callF (G : Prog) : Nat → CallT
  | 0, _, _, _, _ => False
  | n + 1, f, args, k, x => optK (G.fns f) fun fn => runFn (G.cx (G.callF n)) fn args k x
end Gr

end
section
set_option Elab.async false
set_option linter.all false
set_option maxRecDepth 100000
set_option maxHeartbeats 4000000
/-! How data, names and objects of the small language lie in the model's heap. -/
namespace Gr
open PySem PySem.Spec L2

theorem ofString_inj {a b : String} (h : Str.ofString a = Str.ofString b) : a = b := by
  rw [Str.ofString_eq_toList, Str.ofString_eq_toList] at h
  have h1 : (a.toList.map Char.toNat) = (b.toList.map Char.toNat) := by
    have := congrArg (fun s : Str => s.cps.toList) h
    simpa using this
  have h2 : a.toList = b.toList := by
    refine List.map_inj_right (fun x y e => ?_) |>.mp h1
    exact Char.ext (UInt32.toNat.inj e)
  exact String.toList_inj.mp h2

/-- what stands fast through a proof: the written part, where the defs and classes stand, the errors that are being handled -/
structure Gm where
  K : PySem.W.Frag
  fa : String → Option Addr
  ca : String → Option Addr
  xa : Addr → String → D → Prop

abbrev sOf (s : List Nat) : Str := ⟨s.toArray⟩
/-- a text that the model may hold -/
def okS (s : List Nat) : Prop := s.length ≤ big ∧ ∀ c ∈ s, c < 1114112
/-- a list that is never changed any more -/
def FzL (K : PySem.W.Frag) (H : Hp) (a : Addr) (xs : List V) : Prop :=
  (∃ o, H a = some (.frz o (.lst xs))) ∨
    ∃ (o : Obj) (its : Array Value) (n : Nat), K.lookup a = some o ∧ o.cls = .type "list" ∧ o.dict = none ∧ o.data = .seq its n ∧ its.size ≤ sizeLine ∧ Vals xs its.toList
def FzH (H : Hp) (a : Addr) (u : HO) : Prop := ∃ o, H a = some (.frz o u)

/-- keys -/
def keyD : Key → D
  | .inl i => .int i
  | .inr x => .str x.cps.toList
def keysD (k : List Key) : D := .tup (k.map keyD)

mutual
inductive RepD (g : Gm) (H : Hp) : V → D → Prop
  | non : RepD g H .non .non
  | bl (b : Bool) : RepD g H (.bl b) (.bl b)
  | int (i : Int) : RepD g H (.int i) (.int i)
  | str (s : List Nat) : okS s → RepD g H (.str (sOf s)) (.str s)
  | tup {a vs ds} : H a = some (.tup vs) → RepDs g H vs ds → RepD g H (.ref a) (.tup ds)
  | lst {a vs ds} : FzL g.K H a vs → RepDs g H vs ds → RepD g H (.ref a) (.lst ds)
  | dK {a kvs ds} : FzH H a (.dK kvs) → RepKs g H kvs ds → RepD g H (.ref a) (.dct false ds)
  | dT {a kvs ds} : FzH H a (.dT kvs) → RepTs g H kvs ds → RepD g H (.ref a) (.dct true ds)
  | fn {a f} : g.fa f = some a → RepD g H (.ref a) (.fn f)
  | exc {a c v} : g.xa a c v → RepD g H (.ref a) (.exc c v)
inductive RepDs (g : Gm) (H : Hp) : List V → List D → Prop
  | nil : RepDs g H [] []
  | cons {v vs d ds} : RepD g H v d → RepDs g H vs ds → RepDs g H (v :: vs) (d :: ds)
inductive RepKs (g : Gm) (H : Hp) : List (Key × V) → List (D × D) → Prop
  | nil : RepKs g H [] []
  | cons {k v vs d ds} : RepD g H v d → RepKs g H vs ds → RepKs g H ((k, v) :: vs) ((keyD k, d) :: ds)
inductive RepTs (g : Gm) (H : Hp) : List (List Key × V) → List (D × D) → Prop
  | nil : RepTs g H [] []
  | cons {k v vs d ds} : RepD g H v d → RepTs g H vs ds → RepTs g H ((k, v) :: vs) ((keysD k, d) :: ds)
end

/-- tuples and frozen things stay -/
structure Pers (H H' : Hp) : Prop where
  tups : ∀ b xs, H b = some (.tup xs) → H' b = some (.tup xs)
  frzs : ∀ b o u, H b = some (.frz o u) → H' b = some (.frz o u)
theorem Pers.refl (H : Hp) : Pers H H := ⟨fun _ _ h => h, fun _ _ _ h => h⟩
theorem Pers.trans {H H1 H2 : Hp} (a : Pers H H1) (b : Pers H1 H2) : Pers H H2 := ⟨fun c xs h => b.tups c xs (a.tups c xs h), fun c o u h => b.frzs c o u (a.frzs c o u h)⟩
theorem Pers.sqT {K : PySem.W.Frag} {H H' : Hp} {a : Addr} {xs : List V} (p : Pers H H') (h : SqT K H a xs) : SqT K H' a xs := by
  rcases h with (h | ⟨o, h⟩) | h
  · exact .inl (.inl (p.tups _ _ h))
  · exact .inl (.inr ⟨o, p.frzs _ _ _ h⟩)
  · exact .inr h
theorem Pers.fzL {K : PySem.W.Frag} {H H' : Hp} {a : Addr} {xs : List V} (p : Pers H H') (h : FzL K H a xs) : FzL K H' a xs := by
  rcases h with ⟨o, h⟩ | h
  · exact .inl ⟨o, p.frzs _ _ _ h⟩
  · exact .inr h
theorem Pers.fzH {H H' : Hp} {a : Addr} {u : HO} (p : Pers H H') (h : FzH H a u) : FzH H' a u := let ⟨o, h⟩ := h; ⟨o, p.frzs _ _ _ h⟩
theorem FzL.sq {K : PySem.W.Frag} {H : Hp} {a : Addr} {xs : List V} (h : FzL K H a xs) : SqL K H a xs := by
  rcases h with ⟨o, h⟩ | h
  · exact .inl (.inr ⟨o, h⟩)
  · exact .inr h
mutual
theorem RepD.mono {g : Gm} {H H' : Hp} (p : Pers H H') : ∀ {d : D} {v : V}, RepD g H v d → RepD g H' v d
  | _, _, .non => .non
  | _, _, .bl b => .bl b
  | _, _, .int i => .int i
  | _, _, .str s h => .str s h
  | _, _, .tup h r => .tup (p.tups _ _ h) (RepDs.mono p r)
  | _, _, .lst h r => .lst (p.fzL h) (RepDs.mono p r)
  | _, _, .dK h r => .dK (p.fzH h) (RepKs.mono p r)
  | _, _, .dT h r => .dT (p.fzH h) (RepTs.mono p r)
  | _, _, .fn h => .fn h
  | _, _, .exc h => .exc h
theorem RepDs.mono {g : Gm} {H H' : Hp} (p : Pers H H') : ∀ {ds : List D} {vs : List V}, RepDs g H vs ds → RepDs g H' vs ds
  | _, _, .nil => .nil
  | _, _, .cons h r => .cons (RepD.mono p h) (RepDs.mono p r)
theorem RepKs.mono {g : Gm} {H H' : Hp} (p : Pers H H') : ∀ {ds : List (D × D)} {vs : List (Key × V)}, RepKs g H vs ds → RepKs g H' vs ds
  | _, _, .nil => .nil
  | _, _, .cons h r => .cons (RepD.mono p h) (RepKs.mono p r)
theorem RepTs.mono {g : Gm} {H H' : Hp} (p : Pers H H') : ∀ {ds : List (D × D)} {vs : List (List Key × V)}, RepTs g H vs ds → RepTs g H' vs ds
  | _, _, .nil => .nil
  | _, _, .cons h r => .cons (RepD.mono p h) (RepTs.mono p r)
end
theorem RepDs.length {g : Gm} {H : Hp} : ∀ {ds : List D} {vs : List V}, RepDs g H vs ds → vs.length = ds.length
  | _, _, .nil => rfl
  | _, _, .cons _ r => congrArg (· + 1) (RepDs.length r)
theorem RepDs.get {g : Gm} {H : Hp} : ∀ {ds : List D} {vs : List V} {i : Nat} {d : D}, RepDs g H vs ds → ds[i]? = some d → ∃ v, vs[i]? = some v ∧ RepD g H v d
  | _, _, _, _, .nil, h => by simp at h
  | _, _, 0, _, .cons h r, e => by simp at e; subst e; exact ⟨_, rfl, h⟩
  | _, _, i + 1, d, .cons h r, e => by
    obtain ⟨v, h1, h2⟩ := RepDs.get (i := i) (d := d) r (by simpa using e)
    exact ⟨v, by simpa using h1, h2⟩
theorem RepDs.append {g : Gm} {H : Hp} : ∀ {ds es : List D} {vs ws : List V}, RepDs g H vs ds → RepDs g H ws es → RepDs g H (vs ++ ws) (ds ++ es)
  | _, _, _, _, .nil, s => s
  | _, _, _, _, .cons h r, s => .cons h (RepDs.append r s)
theorem RepDs.take {g : Gm} {H : Hp} : ∀ {ds : List D} {vs : List V} (n : Nat), RepDs g H vs ds → RepDs g H (vs.take n) (ds.take n)
  | _, _, 0, _ => .nil
  | _, _, _ + 1, .nil => .nil
  | _, _, n + 1, .cons h r => .cons h (RepDs.take n r)
theorem RepDs.drop {g : Gm} {H : Hp} : ∀ {ds : List D} {vs : List V} (n : Nat), RepDs g H vs ds → RepDs g H (vs.drop n) (ds.drop n)
  | _, _, 0, r => r
  | _, _, _ + 1, .nil => .nil
  | _, _, n + 1, .cons _ r => RepDs.drop n r
theorem RepDs.set {g : Gm} {H : Hp} {v : V} {d : D} (h : RepD g H v d) : ∀ {ds : List D} {vs : List V} (i : Nat), RepDs g H vs ds → RepDs g H (vs.set i v) (ds.set i d)
  | _, _, _, .nil => .nil
  | _, _, 0, .cons _ r => .cons h r
  | _, _, i + 1, .cons q r => .cons q (RepDs.set h i r)

/-- what is only looked at: its outside may be a list or dict that is still changed elsewhere -/
inductive RepB (g : Gm) (H : Hp) : V → D → Prop
  | d {v d} : RepD g H v d → RepB g H v d
  | lst {a vs ds} : SqL g.K H a vs → RepDs g H vs ds → RepB g H (.ref a) (.lst ds)
  | dK {a kvs ds} : Rd H a (.dK kvs) → RepKs g H kvs ds → RepB g H (.ref a) (.dct false ds)
  | dT {a kvs ds} : Rd H a (.dT kvs) → RepTs g H kvs ds → RepB g H (.ref a) (.dct true ds)
/-- an own list or dict -/
inductive RepO (g : Gm) (H : Hp) (a : Addr) : D → Prop
  | lst {vs ds} : H a = some (.lst vs) → RepDs g H vs ds → RepO g H a (.lst ds)
  | dK {kvs ds} : H a = some (.dK kvs) → RepKs g H kvs ds → RepO g H a (.dct false ds)
  | dT {kvs ds} : H a = some (.dT kvs) → RepTs g H kvs ds → RepO g H a (.dct true ds)
theorem RepO.b {g : Gm} {H : Hp} {a : Addr} {d : D} (h : RepO g H a d) : RepB g H (.ref a) d := by
  cases h with
  | lst h r => exact .lst (SqL.of h) r
  | dK h r => exact .dK (.inl h) r
  | dT h r => exact .dT (.inl h) r
theorem RepO.mut {g : Gm} {H : Hp} {a : Addr} {d : D} (h : RepO g H a d) : ∃ u, H a = some u ∧ Mut (some u) := by
  cases h with
  | lst h r => exact ⟨_, h, trivial⟩
  | dK h r => exact ⟨_, h, trivial⟩
  | dT h r => exact ⟨_, h, trivial⟩
theorem RepO.keep {g : Gm} {H H' : Hp} {a : Addr} {d : D} (p : Pers H H') (e : ∀ u, H a = some u → H' a = some u) (h : RepO g H a d) : RepO g H' a d := by
  cases h with
  | lst h r => exact .lst (e _ h) (r.mono p)
  | dK h r => exact .dK (e _ h) (r.mono p)
  | dT h r => exact .dT (e _ h) (r.mono p)

/-- the fields of an object, and where its own lists and dicts stand -/
inductive RepF (g : Gm) (H : Hp) : List (Str × V) → Fs → List Addr → Prop
  | nil : RepF g H [] [] []
  | val {f v d fv fs as} : RepD g H v d → RepF g H fv fs as → RepF g H ((Str.ofString f, v) :: fv) ((f, false, d) :: fs) as
  | own {f a d fv fs as} : RepO g H a d → RepF g H fv fs as → RepF g H ((Str.ofString f, .ref a) :: fv) ((f, true, d) :: fs) (a :: as)
inductive RepS (g : Gm) (H : Hp) : Option V → Sl → List Addr → Prop
  | no {x} : RepS g H x .no []
  | val {v d} : RepD g H v d → RepS g H (some v) (.val d) []
  | own {a d} : RepO g H a d → RepS g H (some (.ref a)) (.own d) [a]
  | obj {a C dx fv c fs as} : H a = some (.ins C dx fv) → g.ca c = some C → RepF g H fv fs as → RepS g H (some (.ref a)) (.obj c fs) (a :: as)
inductive RepE (g : Gm) (H : Hp) : St → Env → List Addr → Prop
  | nil : RepE g H [] [] []
  | cons {x s σ e as bs} : RepS g H x s as → RepE g H σ e bs → RepE g H (x :: σ) (s :: e) (as ++ bs)
/-- a state: the names' values lie so, and the own things are apart -/
structure Stt (g : Gm) (H : Hp) (σ : St) (e : Env) (fp : List Addr) : Prop where
  rep : RepE g H σ e fp
  nd : fp.Nodup
theorem RepF.mut {g : Gm} {H : Hp} : ∀ {fv : List (Str × V)} {fs : Fs} {as : List Addr}, RepF g H fv fs as → ∀ a ∈ as, ∃ u, H a = some u ∧ Mut (some u)
  | _, _, _, .nil, _, h => by cases h
  | _, _, _, .val _ r, a, h => RepF.mut r a h
  | _, _, _, .own o r, a, h => by
    rcases List.mem_cons.mp h with rfl | h
    · exact o.mut
    · exact RepF.mut r a h
theorem RepS.mut {g : Gm} {H : Hp} {x : Option V} {s : Sl} {as : List Addr} (h : RepS g H x s as) : ∀ a ∈ as, ∃ u, H a = some u ∧ Mut (some u) := fun a ha => by
  cases h with
  | no => cases ha
  | val _ => cases ha
  | own o => simp at ha; subst ha; exact o.mut
  | obj h _ r =>
    rcases List.mem_cons.mp ha with rfl | ha
    · exact ⟨_, h, trivial⟩
    · exact r.mut a ha
theorem RepE.mut {g : Gm} {H : Hp} : ∀ {σ : St} {e : Env} {fp : List Addr}, RepE g H σ e fp → ∀ a ∈ fp, ∃ u, H a = some u ∧ Mut (some u)
  | _, _, _, .nil, _, h => by cases h
  | _, _, _, .cons h r, a, ha => by
    rcases List.mem_append.mp ha with ha | ha
    · exact h.mut a ha
    · exact RepE.mut r a ha
theorem RepE.length {g : Gm} {H : Hp} : ∀ {σ : St} {e : Env} {fp : List Addr}, RepE g H σ e fp → σ.length = e.length
  | _, _, _, .nil => rfl
  | _, _, _, .cons h r => congrArg (· + 1) (RepE.length r)
theorem RepF.keep {g : Gm} {H H' : Hp} (p : Pers H H') : ∀ {fv : List (Str × V)} {fs : Fs} {as : List Addr}, (∀ a ∈ as, ∀ u, H a = some u → H' a = some u) → RepF g H fv fs as → RepF g H' fv fs as
  | _, _, _, _, .nil => .nil
  | _, _, _, k, .val d r => .val (d.mono p) (RepF.keep p k r)
  | _, _, _, k, .own o r => .own (o.keep p (k _ List.mem_cons_self)) (RepF.keep p (fun a h => k a (List.mem_cons_of_mem _ h)) r)
theorem RepS.keep {g : Gm} {H H' : Hp} (p : Pers H H') {x : Option V} {s : Sl} {as : List Addr} (k : ∀ a ∈ as, ∀ u, H a = some u → H' a = some u) (h : RepS g H x s as) : RepS g H' x s as := by
  cases h with
  | no => exact .no
  | val d => exact .val (d.mono p)
  | own o => exact .own (o.keep p (k _ List.mem_cons_self))
  | obj h c r => exact .obj (k _ List.mem_cons_self _ h) c (r.keep p fun a ha => k a (List.mem_cons_of_mem _ ha))
theorem RepE.keep {g : Gm} {H H' : Hp} (p : Pers H H') : ∀ {σ : St} {e : Env} {fp : List Addr}, (∀ a ∈ fp, ∀ u, H a = some u → H' a = some u) → RepE g H σ e fp → RepE g H' σ e fp
  | _, _, _, _, .nil => .nil
  | _, _, _, k, .cons h r => .cons (h.keep p fun a ha => k a (List.mem_append_left _ ha)) (RepE.keep p (fun a ha => k a (List.mem_append_right _ ha)) r)
theorem Stt.keep {g : Gm} {H H' : Hp} {σ : St} {e : Env} {fp : List Addr} (p : Pers H H') (k : ∀ a ∈ fp, ∀ u, H a = some u → H' a = some u) (h : Stt g H σ e fp) : Stt g H' σ e fp := ⟨h.rep.keep p k, h.nd⟩

/-- behind a piece: what was tracked and not own stands as it stood; what is own now was own or is new; b: the objects' fields stand too -/
structure Post (b : Bool) (H : Hp) (fp : List Addr) (H' : Hp) (fp' : List Addr) : Prop where
  keep : ∀ a o, H a = some o → a ∉ fp → H' a = some o
  there : ∀ a, H a ≠ none → H' a ≠ none
  own : ∀ a ∈ fp', a ∈ fp ∨ H a = none
  ins : b = true → ∀ a C dx fs, H a = some (.ins C dx fs) → H' a = some (.ins C dx fs)
theorem Post.refl {b : Bool} {H : Hp} {fp : List Addr} : Post b H fp H fp := ⟨fun _ _ h _ => h, fun _ h => h, fun _ h => .inl h, fun _ _ _ _ _ h => h⟩
theorem Post.trans {b c : Bool} {H H1 H2 : Hp} {fp fp1 fp2 : List Addr} (p : Post b H fp H1 fp1) (q : Post c H1 fp1 H2 fp2) : Post (b && c) H fp H2 fp2 where
  keep := fun a o h n => q.keep a o (p.keep a o h n) fun z => by
    rcases p.own a z with z | z
    · exact n z
    · rw [z] at h; cases h
  there := fun a h => q.there a (p.there a h)
  own := fun a h => by
    rcases q.own a h with h | h
    · exact p.own a h
    · refine .inr ?_
      cases e : H a with
      | none => rfl
      | some o => exact absurd h (p.there a (by rw [e]; exact Option.some_ne_none _))
  ins := fun h a C dx fs e => by
    have h' := Bool.and_eq_true_iff.mp h
    exact q.ins h'.2 a C dx fs (p.ins h'.1 a C dx fs e)
theorem Post.trans' {b : Bool} {H H1 H2 : Hp} {fp fp1 fp2 : List Addr} (p : Post b H fp H1 fp1) (q : Post b H1 fp1 H2 fp2) : Post b H fp H2 fp2 := by
  have := p.trans q
  rw [Bool.and_self] at this
  exact this
theorem Post.weak {b c : Bool} {H H1 : Hp} {fp fp1 : List Addr} (p : Post b H fp H1 fp1) (h : c = true → b = true) : Post c H fp H1 fp1 := ⟨p.keep, p.there, p.own, fun z => p.ins (h z)⟩
theorem Post.pers {b : Bool} {H H1 : Hp} {fp fp1 : List Addr} (p : Post b H fp H1 fp1) (m : ∀ a ∈ fp, ∃ u, H a = some u ∧ Mut (some u)) : Pers H H1 :=
  ⟨fun a xs h => p.keep a _ h fun z => by obtain ⟨u, e, mu⟩ := m a z; rw [h] at e; cases e; exact mu, fun a o u h => p.keep a _ h fun z => by obtain ⟨w, e, mu⟩ := m a z; rw [h] at e; cases e; exact mu⟩
theorem Stt.pers {g : Gm} {b : Bool} {H H1 : Hp} {σ : St} {e : Env} {fp fp1 : List Addr} (s : Stt g H σ e fp) (p : Post b H fp H1 fp1) : Pers H H1 := p.pers s.rep.mut
/-- an expression's value -/
inductive RepR (g : Gm) (H0 : Hp) (fp0 : List Addr) (H : Hp) (fp : List Addr) : V → Sl → Prop
  | val {v d} : RepD g H v d → RepR g H0 fp0 H fp v (.val d)
  | own {a d} : RepO g H a d → a ∉ fp → (a ∈ fp0 ∨ H0 a = none) → RepR g H0 fp0 H fp (.ref a) (.own d)
theorem pers_upd {H : Hp} {a : Addr} {o : HO} (h : H a = none ∨ ∃ u, H a = some u ∧ Mut (some u)) : Pers H (upd H a o) := by
  have ne : ∀ b u, H b = some u → ¬ Mut (some u) → b ≠ a := fun b u e m z => by
    subst z
    rcases h with h | ⟨w, h, mu⟩
    · rw [h] at e; cases e
    · rw [h] at e; cases e; exact m mu
  exact ⟨fun b xs e => by rw [upd_ne (ne b _ e fun z => z)]; exact e, fun b o u e => by rw [upd_ne (ne b _ e fun z => z)]; exact e⟩
end Gr

end
section
set_option Elab.async false
set_option linter.all false
set_option maxRecDepth 100000
set_option maxHeartbeats 4000000
namespace Gr
open PySem PySem.Spec L2

structure Wd where
  prog : Program
  w : World
  mg : Str → Option Value
  base : Heap
/-- the context that a piece of the text stands in -/
structure Ct (g : Gm) (wd : Wd) (N : List String) (sc : Scope) (k : Nat) (X : L2.Cx) : Prop where
  prog : X.prog = wd.prog
  w : X.w = wd.w
  K : X.K = g.K
  mg : X.mg = wd.mg
  base : X.base = wd.base
  N : X.N = N.map Str.ofString
  nd : X.N.Nodup
  sc : X.env.scope = sc
  calm : X.calm = true
  room : Room k X.A

/-- an error that flies: its class's object, its own dict, what it bears -/
def Err (g : Gm) (H : Hp) (c : String) (v : D) (cls : Value) (d : Option Addr) : Prop :=
  ∃ C dd f vv, g.ca c = some C ∧ cls = .ref C ∧ d = some dd ∧ H dd = some (.xd [(f, vv)]) ∧ RepD g H vv v
/-- what is wished for of errors holds of those that the piece may let out -/
def XOk (g : Gm) (W : WX) (σ : L2.St) (H : Hp) (fp : List Addr) (X : Xt) : Prop :=
  ∀ c v e1 H1 fp1 cls d, Post false H fp H1 fp1 → Stt g H1 σ e1 fp1 → Err g H1 c v cls d → X c v e1 → W cls d σ H1
theorem XOk.post {g : Gm} {W : WX} {σ : L2.St} {H H1 : Hp} {fp fp1 : List Addr} {X : Xt} {b : Bool} (h : XOk g W σ H fp X) (p : Post b H fp H1 fp1) : XOk g W σ H1 fp1 X :=
  fun c v e1 H2 fp2 cls d p2 s er x => h c v e1 H2 fp2 cls d ((p.trans p2).weak fun z => by simp at z) s er x
theorem XOk.none {g : Gm} {W : WX} {σ : L2.St} {H : Hp} {fp : List Addr} : XOk g W σ H fp fun _ _ _ => False := fun _ _ _ _ _ _ _ _ _ _ x => x.elim

abbrev WpE := Xt → Env → (Sl → Env → Prop) → Prop
abbrev WpK := Xt → Env → (D → Env → Prop) → Prop
/-- an expression's reading -/
def tE (g : Gm) (W : WX) (b : Bool) (m : WpE) : TE := fun σ H Q => ∃ e fp X K, Stt g H σ e fp ∧ m X e K ∧ XOk g W σ H fp X ∧
  ∀ v H1 fp1 r e1, Post b H fp H1 fp1 → Stt g H1 σ e1 fp1 → RepR g H fp H1 fp1 v r → K r e1 → Q v H1
/-- .. whose value is kept -/
def tK (g : Gm) (W : WX) (b : Bool) (m : WpK) : TE := fun σ H Q => ∃ e fp X K, Stt g H σ e fp ∧ m X e K ∧ XOk g W σ H fp X ∧
  ∀ v H1 fp1 d e1, Post b H fp H1 fp1 → Stt g H1 σ e1 fp1 → RepD g H1 v d → K d e1 → Q v H1
/-- .. that is only looked at -/
def tB (g : Gm) (W : WX) (b : Bool) (m : WpK) : TE := fun σ H Q => ∃ e fp X K, Stt g H σ e fp ∧ m X e K ∧ XOk g W σ H fp X ∧
  ∀ v H1 fp1 d e1, Post b H fp H1 fp1 → Stt g H1 σ e1 fp1 → RepB g H1 v d → K d e1 → Q v H1
def keptW (m : WpE) : WpK := fun X e k => m X e fun s e1 => frzK s fun d => k d e1
/-- a test's reading -/
def tTs (g : Gm) (W : WX) (b : Bool) (m : Xt → Env → (Bool → Env → Prop) → Prop) : TT := fun σ H Q => ∃ e fp X K, Stt g H σ e fp ∧ m X e K ∧ XOk g W σ H fp X ∧
  ∀ t H1 fp1 e1, Post b H fp H1 fp1 → Stt g H1 σ e1 fp1 → K t e1 → Q t H1

section
variable {X : L2.Cx} {g : Gm} {W : WX} {b : Bool}
variable {pins : List (Addr × Obj)} {σ : L2.St} {H : Hp} {s : Shared}

/-- an own thing is frozen -/
theorem lockO (I : Inv X pins σ H s) {a : Addr} {d : D} (h : RepO g H a d) : ∃ od u, H a = some u ∧ Mut (some u) ∧ Inv X pins σ (upd H a (.frz od u)) s ∧ RepD g (upd H a (.frz od u)) (.ref a) d := by
  have go : ∀ u, H a = some u → Mut (some u) → ∃ od, Inv X pins σ (upd H a (.frz od u)) s ∧ Pers H (upd H a (.frz od u)) := fun u e mu => by
    obtain ⟨od, J⟩ := I.lock e mu
    exact ⟨od, J, pers_upd (.inr ⟨u, e, mu⟩)⟩
  cases h with
  | lst h r => obtain ⟨od, J, p⟩ := go _ h trivial; exact ⟨od, _, h, trivial, J, .lst (.inl ⟨od, upd_same⟩) (r.mono p)⟩
  | dK h r => obtain ⟨od, J, p⟩ := go _ h trivial; exact ⟨od, _, h, trivial, J, .dK ⟨od, upd_same⟩ (r.mono p)⟩
  | dT h r => obtain ⟨od, J, p⟩ := go _ h trivial; exact ⟨od, _, h, trivial, J, .dT ⟨od, upd_same⟩ (r.mono p)⟩
/-- freezing (or laying) at an address that is not own any more changes nothing for the rest -/
theorem Stt.upd {e : Env} {fp : List Addr} {a : Addr} {o : HO} (st : Stt g H σ e fp) (ha : a ∉ fp) (h : H a = none ∨ ∃ u, H a = some u ∧ Mut (some u)) : Stt g (upd H a o) σ e fp :=
  st.keep (pers_upd h) fun c hc u q => by rw [upd_ne (by intro z; subst z; exact ha hc)]; exact q
theorem Mut.noIns {a : Addr} {u : HO} {od : Obj} (h : H a = some u) (d : ∀ C dx fs, u ≠ .ins C dx fs) : ∀ c C dx fs, H c = some (.ins C dx fs) → upd H a (.frz od u) c = some (.ins C dx fs) := fun c C dx fs q => by
  rw [upd_ne (fun z => by subst z; rw [h] at q; cases q; exact d _ _ _ rfl)]; exact q
theorem RepO.noIns {a : Addr} {d : D} (h : RepO g H a d) {u : HO} (e : H a = some u) : ∀ C dx fs, u ≠ .ins C dx fs := fun C dx fs q => by
  subst q
  cases h with
  | lst h _ => rw [h] at e; cases e
  | dK h _ => rw [h] at e; cases e
  | dT h _ => rw [h] at e; cases e
/-- a new object that nobody owns -/
theorem Post.new {fp : List Addr} {a : Addr} {o : HO} (h : H a = none) : Post b H fp (upd H a o) fp :=
  ⟨fun c u q _ => by rw [upd_ne (ne_of_none q h)]; exact q, fun c q => by
    by_cases e : c = a
    · subst e; rw [upd_same]; exact Option.some_ne_none _
    · rw [upd_ne e]; exact q, fun c q => .inl q, fun _ c C dx fs q => by rw [upd_ne (ne_of_none q h)]; exact q⟩
/-- an own thing that came with a value is frozen -/
theorem Post.froze {H0 : Hp} {fp0 fp : List Addr} {a : Addr} {u : HO} {od : Obj} (p : Post b H0 fp0 H fp) (h0 : a ∈ fp0 ∨ H0 a = none) (h : H a = some u) (ni : ∀ C dx fs, u ≠ .ins C dx fs) : Post b H0 fp0 (L2.upd H a (.frz od u)) fp :=
  ⟨fun c w q n => by
    rw [upd_ne (by
      intro z; subst z
      rcases h0 with h0 | h0
      · exact n h0
      · rw [q] at h0; cases h0)]
    exact p.keep c w q n, fun c q => by
    by_cases e : c = a
    · subst e; rw [upd_same]; exact Option.some_ne_none _
    · rw [upd_ne e]; exact p.there c q, p.own, fun z c C dx fs q => by
    have q2 := p.ins z c C dx fs q
    rw [upd_ne (by intro z; subst z; rw [h] at q2; cases q2; exact ni _ _ _ rfl)]; exact q2⟩

theorem je_keep {x : Expr} {m : WpE} (h : PE X x (tE g W b m)) : PE X x (tK g W b (keptW m)) := by
  refine ⟨fun pins s σ H Q I q => ?_⟩
  obtain ⟨e, fp, X', K, hs, hw, hx, hk⟩ := q
  refine thn (h.run pins s σ H (fun v H1 => ∃ r e1 fp1, Post b H fp H1 fp1 ∧ Stt g H1 σ e1 fp1 ∧ RepR g H fp H1 fp1 v r ∧ frzK r fun d => K d e1) I
    ⟨e, fp, X', _, hs, hw, hx, fun v H1 fp1 r e1 p st rr kk => ⟨r, e1, fp1, p, st, rr, kk⟩⟩) fun u s1 ⟨v, H1, I1, rv, r, e1, fp1, p, st, rr, kk⟩ => ?_
  cases rr with
  | val d => exact ⟨v, H1, I1, rv, hk _ _ _ _ _ p st d kk⟩
  | own o na n0 =>
    obtain ⟨od, w, ew, mu, J, rd⟩ := lockO I1 o
    exact ⟨_, _, J, rv, hk _ _ _ _ _ (p.froze n0 ew (o.noIns ew)) (st.upd na (.inr ⟨w, ew, mu⟩)) rd kk⟩
theorem je_look {x : Expr} {m : WpE} (h : PE X x (tE g W b m)) : PE X x (tB g W b (keptW m)) := by
  refine ⟨fun pins s σ H Q I q => ?_⟩
  obtain ⟨e, fp, X', K, hs, hw, hx, hk⟩ := q
  refine h.run pins s σ H Q I ⟨e, fp, X', _, hs, hw, hx, fun v H1 fp1 r e1 p st rr kk => ?_⟩
  cases rr with
  | val d => exact hk _ _ _ _ _ p st (.d d) kk
  | own o na n0 => exact hk _ _ _ _ _ p st o.b kk
end
end Gr

end
section
set_option Elab.async false
set_option linter.all false
set_option maxRecDepth 100000
set_option maxHeartbeats 4000000
namespace Gr
open PySem PySem.Spec L2

/-! ### slots -/
theorem lookK_iff : ∀ {e : Env} {i : Nat} {k : Sl → Prop}, lookK e i k ↔ ∃ s, e[i]? = some s ∧ k s
  | [], i, k => by simp [lookK]
  | s :: e, 0, k => by simp [lookK]
  | s :: e, i + 1, k => by simp [lookK, lookK_iff (e := e) (i := i)]
theorem setK_iff : ∀ {e : Env} {i : Nat} {s : Sl} {k : Env → Prop}, setK e i s k ↔ i < e.length ∧ k (e.set i s)
  | [], i, s, k => by simp [setK]
  | x :: e, 0, s, k => by simp [setK]
  | x :: e, i + 1, s, k => by simp [setK, setK_iff (e := e) (i := i)]
theorem set_same {α : Type} : ∀ {l : List α} {i : Nat} {x : α}, l[i]? = some x → l.set i x = l
  | [], _, _, h => by simp at h
  | a :: l, 0, x, h => by simp at h; simp [h]
  | a :: l, i + 1, x, h => by simp at h; simp [set_same h]
theorem RepE.split {g : Gm} {H : Hp} : ∀ {σ : L2.St} {e : Env} {fp : List Addr} {i : Nat} {s : Sl}, RepE g H σ e fp → e[i]? = some s →
    ∃ x as pre post, σ[i]? = some x ∧ RepS g H x s as ∧ fp = pre ++ (as ++ post) ∧
      ∀ (H' : Hp) (p : Pers H H') (k : ∀ a ∈ pre ++ post, ∀ u, H a = some u → H' a = some u) (x' : Option V) (s' : Sl) (as' : List Addr), RepS g H' x' s' as' → RepE g H' (σ.set i x') (e.set i s') (pre ++ (as' ++ post))
  | _, _, _, i, s, .nil, h => by simp at h
  | _, _, _, 0, s, .cons (x := x) (as := as) (bs := bs) (σ := σ) (e := e) hs r, h => by
    simp at h; subst h
    refine ⟨x, as, [], bs, rfl, hs, rfl, fun H' p k x' s' as' rs => ?_⟩
    show RepE g H' (x' :: σ) (s' :: e) (as' ++ bs)
    exact .cons rs (r.keep p k)
  | _, _, _, i + 1, s, .cons (x := x) (s := s0) (as := as) (bs := bs) (σ := σ) (e := e) hs r, h => by
    obtain ⟨y, bs', pre, post, h1, h2, h3, h4⟩ := RepE.split (i := i) (s := s) r (by simpa using h)
    refine ⟨y, bs', as ++ pre, post, by simpa using h1, h2, by rw [h3, List.append_assoc], fun H' p k x' s' as' rs => ?_⟩
    rw [List.append_assoc]
    show RepE g H' (x :: σ.set i x') (s0 :: e.set i s') (as ++ (pre ++ (as' ++ post)))
    exact .cons (hs.keep p fun a ha => k a (by simp [ha])) (h4 H' p (fun a ha => k a (by simp at ha ⊢; rcases ha with h | h <;> simp [h])) x' s' as' rs)
theorem nodup_mid {pre as post as' : List Addr} (h : (pre ++ (as ++ post)).Nodup) (h' : as'.Nodup) (d : ∀ a ∈ as', a ∈ as ∨ a ∉ pre ++ post) : (pre ++ (as' ++ post)).Nodup := by
  rw [List.nodup_append] at h ⊢
  obtain ⟨h1, h2, h3⟩ := h
  rw [List.nodup_append] at h2
  obtain ⟨h4, h5, h6⟩ := h2
  refine ⟨h1, ?_, ?_⟩
  · rw [List.nodup_append]
    refine ⟨h', h5, fun a ha b hb e => ?_⟩
    subst e
    rcases d a ha with z | z
    · exact h6 a z a hb rfl
    · exact z (by simp [hb])
  · intro a ha b hb e
    subst e
    rcases List.mem_append.mp hb with hb | hb
    · rcases d a hb with z | z
      · exact h3 a ha a (by simp [z]) rfl
      · exact z (by simp [ha])
    · exact h3 a ha a (by simp [hb]) rfl

section
variable {X : L2.Cx} {g : Gm} {wd : Wd} {N : List String} {sc : Scope} {k : Nat} {W : WX}
/-- is seen as a name of the def's own -/
def visB (sc : Scope) (x : Str) : Bool := match sc.names.lookup x with
  | some .local => true
  | some .cell => true
  | some .free => true
  | _ => false
theorem vis_of {x : Str} (h : visB sc x = true) : Vis sc x := by
  unfold visB at h
  unfold Vis
  split at h <;> simp_all
def nameB (N : List String) (sc : Scope) (i : Nat) (x : Str) : Bool :=
  (match N[i]? with | some s => Str.ofString s == x | none => false) && visB sc x && !(x == ("__debug__" : Str)) && !(x == ("__classdict__" : Str))
theorem pe_nm (ct : Ct g wd N sc k X) {i : Nat} {x : Str} {pos : Pos} (h : nameB N sc i x = true) : PE X (.Name x pos) (tVar i) := by
  unfold nameB at h
  simp only [Bool.and_eq_true, Bool.not_eq_true'] at h
  obtain ⟨⟨⟨h1, h2⟩, h3⟩, h4⟩ := h
  refine pe_var (x := x) ?_ (by rw [ct.sc]; exact vis_of h2) h3 h4
  rw [ct.N, List.getElem?_map]
  cases e : N[i]? with
  | none => rw [e] at h1; cases h1
  | some s => rw [e] at h1; simp at h1; simp [h1]

/-- a name as a value: what is own is frozen -/
theorem je_var (ct : Ct g wd N sc k X) {P : Cx} {i : Nat} {x : Str} {pos : Pos} (h : nameB N sc i x = true) : PE X (.Name x pos) (tE g W true fun Y => wp P Y (.var i)) := by
  refine ⟨fun pins s σ H Q I q => ?_⟩
  obtain ⟨e, fp, Y, K, hs, hw, hx, hk⟩ := q
  simp only [wp] at hw
  obtain ⟨sl, e1, hw⟩ := lookK_iff.mp hw
  obtain ⟨y, as, pre, post, s1, s2, s3, s4⟩ := hs.rep.split e1
  cases s2 with
  | no => exact hw.elim
  | val d => exact (pe_nm ct h).run pins s σ H Q I ⟨_, s1, hk _ _ _ _ _ .refl hs (.val d) hw⟩
  | obj _ _ _ => exact hw.elim
  | @own a d o =>
    obtain ⟨i1, hw⟩ := setK_iff.mp hw
    obtain ⟨od, u, eu, mu, J, rd⟩ := lockO I o
    have ha : a ∈ fp := by rw [s3]; simp
    refine (pe_nm ct h).run pins s σ _ Q J ⟨_, s1, hk _ _ (pre ++ ([] ++ post)) _ _ ⟨fun b w q n => ?_, fun b q => ?_, fun b q => .inl (by rw [s3]; simp at q ⊢; rcases q with q | q <;> simp [q]), fun _ => Mut.noIns eu (o.noIns eu)⟩ ⟨?_, ?_⟩ (.val rd) hw⟩
    · rw [upd_ne (by intro z; subst z; exact n ha)]; exact q
    · by_cases z : b = a
      · subst z; rw [upd_same]; exact Option.some_ne_none _
      · rw [upd_ne z]; exact q
    · have z := s4 (L2.upd H a (.frz od u)) (pers_upd (.inr ⟨u, eu, mu⟩)) (fun b hb w q => by
        rw [upd_ne ?_]
        · exact q
        · intro z; subst z
          have nd := hs.nd
          rw [s3] at nd
          have := nodup_mid (as' := [b]) nd (by simp) (fun a h => .inl h)
          rw [List.nodup_append] at this
          obtain ⟨_, t2, t3⟩ := this
          rcases List.mem_append.mp hb with hb | hb
          · exact t3 b hb b (by simp) rfl
          · simp at t2; exact t2.1 hb) (some (.ref a)) (.val d) [] (.val rd)
      rw [set_same s1] at z
      exact z
    · have nd := hs.nd
      rw [s3] at nd
      exact nodup_mid nd List.nodup_nil (fun a h => nomatch h)
end
end Gr

end
section
set_option Elab.async false
set_option linter.all false
set_option maxRecDepth 100000
set_option maxHeartbeats 4000000
namespace Gr
open PySem PySem.Spec L2
open PyProof.Rows hiding St

/-- what an operation gives: a datum that stands already, or a new thing -/
inductive Res (g : Gm) (H H' : Hp) : V → Sl → Prop
  | old {w d} : H' = H → RepD g H w d → Res g H H' w (.val d)
  | newV {w d a o} : H a = none → H' = upd H a o → RepD g H' w d → Res g H H' w (.val d)
  | newO {a d o} : H a = none → H' = upd H a o → RepO g H' a d → Res g H H' (.ref a) (.own d)
section
variable {X : L2.Cx} {g : Gm} {W : WX} {b : Bool} {pins : List (Addr × Obj)} {σ : L2.St} {H H0 H' : Hp} {s : Shared} {e : Env} {fp fp0 : List Addr}
theorem Res.post {w : V} {r : Sl} (q : Res g H H' w r) : Post b H fp H' fp := by
  cases q with
  | old e _ => subst e; exact .refl
  | newV n e _ => subst e; exact .new n
  | newO n e _ => subst e; exact .new n
theorem Stt.none {a : Addr} (st : Stt g H σ e fp) (n : H a = none) : a ∉ fp := fun z => by
  obtain ⟨u, h, _⟩ := st.rep.mut a z
  rw [n] at h; cases h
theorem Res.stt {w : V} {r : Sl} (q : Res g H H' w r) (st : Stt g H σ e fp) : Stt g H' σ e fp := by
  cases q with
  | old e _ => subst e; exact st
  | newV n e _ => subst e; exact st.upd (st.none n) (.inl n)
  | newO n e _ => subst e; exact st.upd (st.none n) (.inl n)
theorem Res.rep {w : V} {r : Sl} (q : Res g H H' w r) (st : Stt g H σ e fp) (p : Post b H0 fp0 H fp) : RepR g H0 fp0 H' fp w r := by
  cases q with
  | old e d => subst e; exact .val d
  | newV n e d => exact .val d
  | newO n e o =>
    refine .own o (st.none n) ?_
    rename_i a d o'
    refine .inr ?_
    cases q : H0 a with
    | none => rfl
    | some u => exact absurd n (p.there a (by rw [q]; exact Option.some_ne_none _))

/-! ### data and values -/
theorem RepB.int_inv {v : V} {i : Int} (h : RepB g H v (.int i)) : v = .int i := by cases h with | d h => cases h; rfl
theorem RepD.int_inv {v : V} {i : Int} (h : RepD g H v (.int i)) : v = .int i := by cases h; rfl
theorem RepB.bl_inv {v : V} {i : Bool} (h : RepB g H v (.bl i)) : v = .bl i := by cases h with | d h => cases h; rfl
theorem RepD.bl_inv {v : V} {i : Bool} (h : RepD g H v (.bl i)) : v = .bl i := by cases h; rfl
theorem RepD.non_inv {v : V} (h : RepD g H v .non) : v = .non := by cases h; rfl
theorem RepB.non_inv {v : V} (h : RepB g H v .non) : v = .non := by cases h with | d h => cases h; rfl
theorem RepB.str_inv {v : V} {x : List Nat} (h : RepB g H v (.str x)) : v = .str (sOf x) ∧ okS x := by cases h with | d h => cases h; exact ⟨rfl, by assumption⟩
theorem RepD.str_inv {v : V} {x : List Nat} (h : RepD g H v (.str x)) : v = .str (sOf x) ∧ okS x := by cases h; exact ⟨rfl, by assumption⟩
theorem RepB.lst_inv {v : V} {x : List D} (h : RepB g H v (.lst x)) : ∃ a vs, v = .ref a ∧ SqL g.K H a vs ∧ RepDs g H vs x := by
  cases h with
  | d h => cases h with | lst h r => exact ⟨_, _, rfl, h.sq, r⟩
  | lst h r => exact ⟨_, _, rfl, h, r⟩
theorem RepB.tup_inv {v : V} {x : List D} (h : RepB g H v (.tup x)) : ∃ a vs, v = .ref a ∧ H a = some (.tup vs) ∧ RepDs g H vs x := by
  cases h with
  | d h => cases h with | tup h r => exact ⟨_, _, rfl, h, r⟩
theorem RepD.tup_inv {v : V} {x : List D} (h : RepD g H v (.tup x)) : ∃ a vs, v = .ref a ∧ H a = some (.tup vs) ∧ RepDs g H vs x := by
  cases h with | tup h r => exact ⟨_, _, rfl, h, r⟩
theorem okS.app {x y : List Nat} (h : okS x) (h' : okS y) (z : x.length + y.length ≤ big) : okS (x ++ y) :=
  ⟨by rw [List.length_append]; exact z, fun c hc => by rcases List.mem_append.mp hc with hc | hc; exact h.2 c hc; exact h'.2 c hc⟩
theorem sOf_append (x y : List Nat) : sOf x ++ sOf y = sOf (x ++ y) := by
  show (⟨x.toArray ++ y.toArray⟩ : Str) = ⟨(x ++ y).toArray⟩
  simp
theorem sOf_len (x : List Nat) : (sOf x).length = x.length := by simp [Str.length]

/-! ### + - * // % -/
def opOf : BOp → Operator
  | .add => .Add
  | .sub => .Sub
  | .mul => .Mult
  | .fdiv => .FloorDiv
  | .mod => .Mod
/-- the end of an operation -/
abbrev Fin (g : Gm) (X : L2.Cx) (pins : List (Addr × Obj)) (σ : L2.St) (H : Hp) (k : Sl → Prop) : Value → Shared → Prop := EP X pins σ fun w H' => ∃ r, Res g H H' w r ∧ k r
theorem fin_int {k : Sl → Prop} (I : Inv X pins σ H s) {i : Int} {t : Tok} (q : k (.val (.int i))) : Fin g X pins σ H k (.int i t) { s with toks := s.toks + 1 } :=
  ⟨.int i, H, I.tok _, ⟨_, rfl⟩, _, .old rfl (.int i), q⟩
theorem fin_intS {k : Sl → Prop} (I : Inv X pins σ H s) {i : Int} {t : Tok} (q : k (.val (.int i))) : Fin g X pins σ H k (.int i t) s :=
  ⟨.int i, H, I, ⟨_, rfl⟩, _, .old rfl (.int i), q⟩
theorem fin_str {k : Sl → Prop} (I : Inv X pins σ H s) {x : List Nat} {t : Tok} {z : Str} (e : z = sOf x) (ok : okS x) (q : k (.val (.str x))) {tk : Nat} : Fin g X pins σ H k (.str z t) { s with toks := tk } := by
  subst e
  exact ⟨.str _, H, I.tok _, ⟨_, rfl⟩, _, .old rfl (.str x ok), q⟩
theorem fin_tup {k : Sl → Prop} (I : Inv X pins σ H s) {us : List Value} {vs : List V} {ds : List D} (r : Vals vs us) (rd : RepDs g H vs ds) (hz : vs.length ≤ sizeLine) (q : k (.val (.tup ds))) :
    Fin g X pins σ H k (.ref s.heap.objs.size) { s with heap := s.heap.push { cls := .type "tuple", data := .seq us.toArray } } := by
  have hf : H s.heap.objs.size = none := I.hok.fresh (Nat.le_refl _)
  refine ⟨.ref s.heap.objs.size, upd H s.heap.objs.size (.tup vs), I.laid (t' := s.toks) (fun b u e => Heap.get?_push_of_some _ e) (Nat.le_refl _) ?_, rfl, _, .newV hf rfl (.tup upd_same (rd.mono (pers_upd (.inl hf)))), q⟩
  exact ⟨hz, us, r, ⟨_, Heap.get?_push_size _ rfl, rfl, _, rfl⟩⟩
theorem fin_lst {k : Sl → Prop} (I : Inv X pins σ H s) {us : List Value} {vs : List V} {ds : List D} {t : Nat} (r : Vals vs us) (rd : RepDs g H vs ds) (hz : vs.length ≤ sizeLine) (q : k (.own (.lst ds))) :
    Fin g X pins σ H k (.ref s.heap.objs.size) { s with heap := s.heap.push { cls := .type "list", data := .seq us.toArray }, toks := t } := by
  have hf : H s.heap.objs.size = none := I.hok.fresh (Nat.le_refl _)
  exact ⟨.ref s.heap.objs.size, upd H s.heap.objs.size (.lst vs), I.lnew (t' := t) r hz, rfl, _, .newO hf rfl (.lst upd_same (rd.mono (pers_upd (.inl hf)))), q⟩
theorem cat_nil {M : Program} {w : World} {A : Around} {E : Value → Shared → Prop} {t b : Addr} {ws : List Value} {Q : Value → Shared → Prop} (ht : IsTup s.heap t ([] : List Value).toArray) (hb : IsTup s.heap b ws.toArray) (h : Q (.ref b) s) :
    wpAny (model M w) A (binaryOp .Add (.ref t) (.ref b)) Q E s := by
  obtain ⟨⟨c1, d1, x1, sl1⟩, o1, k1, n1, y1⟩ := id ht
  obtain ⟨⟨c2, d2, x2, sl2⟩, o2, k2, n2, y2⟩ := id hb
  simp only at k1 y1 k2 y2
  subst k1 y1 k2 y2
  exact concat_meets ⟨_, o1, rfl⟩ ⟨_, o2, rfl⟩ noFill_tuple_add seq_tuple_add PySem.F.slot_tuple_add PySem.F.entry_tuple_add (PySem.F.args_tuple_add_2 _ _)
    (PyProof.Rows.tuple_addW0 t b _ ws.toArray n1 n2 d1 d2 sl1 sl2 rfl) ⟨o1, o2, h⟩
theorem cat_lists {M : Program} {w : World} {A : Around} {E : Value → Shared → Prop} {t b : Addr} {vs ws : List Value} {Q : Value → Shared → Prop} (ht : s.heap.IsList t vs.toArray) (hb : s.heap.IsList b ws.toArray) (hz : vs.length + ws.length ≤ sizeLine)
    (h : Q (.ref s.heap.objs.size) { s with heap := s.heap.push { cls := .type "list", data := .seq (vs ++ ws).toArray } }) :
    wpAny (model M w) A (binaryOp .Add (.ref t) (.ref b)) Q E s := by
  obtain ⟨⟨c1, d1, x1, sl1⟩, o1, k1, n1, y1⟩ := id ht
  obtain ⟨⟨c2, d2, x2, sl2⟩, o2, k2, n2, y2⟩ := id hb
  simp only at k1 y1 k2 y2
  subst k1 y1 k2 y2
  have ea : vs.toArray ++ ws.toArray = (vs ++ ws).toArray := by simp
  refine concat_meets ⟨_, o1, rfl⟩ ⟨_, o2, rfl⟩ noFill_list_add seq_list_add PySem.F.slot_list_add PySem.F.entry_list_add (PySem.F.args_list_add_2 _ _)
    (PyProof.Rows.list_addW t b vs.toArray ws.toArray n1 n2 d1 d2 sl1 sl2 (by simpa using hz)) ⟨o1, o2, ?_⟩
  rw [ea]
  exact h
theorem flat_rep (x : List Nat) : ∀ (n : Nat) (acc : List Nat), (List.replicate n x.toArray).foldl (· ++ ·) acc.toArray = (acc ++ (List.replicate n x).flatten).toArray
  | 0, acc => by simp
  | n + 1, acc => by
    rw [List.replicate_succ, List.foldl_cons, List.replicate_succ, List.flatten_cons]
    have := flat_rep x n (acc ++ x)
    simp at this ⊢
    exact this
theorem len_rep {α : Type} (x : List α) : ∀ n : Nat, (List.replicate n x).flatten.length = n * x.length
  | 0 => by simp
  | n + 1 => by rw [List.replicate_succ, List.flatten_cons, List.length_append, len_rep x n, Nat.succ_mul]; omega
theorem okS.rep {x : List Nat} (h : okS x) {n : Nat} (z : x.length * n ≤ big) : okS (List.replicate n x).flatten :=
  ⟨by rw [len_rep, Nat.mul_comm]; exact z, fun c hc => by
    obtain ⟨l, h1, h2⟩ := List.mem_flatten.mp hc
    obtain ⟨_, rfl⟩ := List.mem_replicate.mp h1
    exact h.2 c h2⟩
theorem bin_ok (eK : X.K = g.K) (I : Inv X pins σ H s) {op : BOp} {x y : V} {u v : Value} {dx dy : D} {k : Sl → Prop} (rx : RelV x u) (ry : RelV y v) (hx : RepD g H x dx) (hy : RepB g H y dy) (h : binK op dx dy k) :
    wpAny (model X.prog X.w) X.A (binaryOp (opOf op) u v) (Fin g X pins σ H k) X.xe s := by
  unfold binK at h
  split at h
  · rw [hx.int_inv] at rx; rw [hy.int_inv] at ry
    obtain ⟨t, rfl⟩ := rx; obtain ⟨t', rfl⟩ := ry
    exact add_int (fin_int I h)
  · rename_i a b
    obtain ⟨e1, o1⟩ := hx.str_inv; obtain ⟨e2, o2⟩ := hy.str_inv
    subst e1; subst e2
    obtain ⟨t, rfl⟩ := rx; obtain ⟨t', rfl⟩ := ry
    exact add_str (fun t' tk => fin_str I (sOf_append _ _) (o1.app o2 h.1) h.2) (by rw [sOf_len, sOf_len]; exact h.1)
  · obtain ⟨a, vs, e1, h1, r1⟩ := hx.tup_inv
    obtain ⟨b, ws, e2, h2, r2⟩ := hy.tup_inv
    subst e1; subst e2; cases rx; cases ry
    obtain ⟨us, q1, p1, z1⟩ := I.tuple (SqT.of h1)
    obtain ⟨us2, q2, p2, z2⟩ := I.tuple (SqT.of h2)
    by_cases e : us = []
    · subst e
      cases q1; cases r1
      exact cat_nil p1 p2 ⟨.ref b, H, I, rfl, _, .old rfl (.tup h2 r2), h.2⟩
    · have hz : vs.length + ws.length ≤ sizeLine := by rw [r1.length, r2.length]; exact h.1
      refine HT.cat_tup p1 p2 e (fun z => ?_) (fun z => ?_) (by rw [← q1.length, ← q2.length]; exact hz)
      · subst z
        cases q2; cases r2
        refine ⟨.ref a, H, I, rfl, _, .old rfl (.tup h1 r1), ?_⟩
        have := h.2
        rw [List.append_nil] at this; exact this
      · exact fin_tup I (q1.append q2) (r1.append r2) (by rw [List.length_append]; exact hz) h.2
  · obtain ⟨a, vs, e1, h1, r1⟩ := (RepB.d hx).lst_inv
    obtain ⟨b, ws, e2, h2, r2⟩ := hy.lst_inv
    subst e1; subst e2; cases rx; cases ry
    rw [← eK] at h1 h2
    obtain ⟨us, q1, p1, z1⟩ := I.list h1
    obtain ⟨us2, q2, p2, z2⟩ := I.list h2
    have hz : vs.length + ws.length ≤ sizeLine := by rw [r1.length, r2.length]; exact h.1
    exact cat_lists p1.isList p2.isList (by rw [← q1.length, ← q2.length]; exact hz) (fin_lst (t := s.toks) I (q1.append q2) (r1.append r2) (by rw [List.length_append]; exact hz) h.2)
  · rw [hx.int_inv] at rx; rw [hy.int_inv] at ry
    obtain ⟨t, rfl⟩ := rx; obtain ⟨t', rfl⟩ := ry
    exact sub_int (fin_int I h)
  · rw [hx.int_inv] at rx; rw [hy.int_inv] at ry
    obtain ⟨t, rfl⟩ := rx; obtain ⟨t', rfl⟩ := ry
    exact mul_int (fin_int I h.2) (CMul.ok h.1)
  · obtain ⟨e1, o1⟩ := hx.str_inv
    subst e1
    rw [hy.int_inv] at ry
    obtain ⟨t, rfl⟩ := rx; obtain ⟨t', rfl⟩ := ry
    obtain ⟨⟨z1, z2, z3⟩, q⟩ := h
    rename_i x n
    have hb : big = sizeLine := rfl
    refine P.mul_str ?_ (fun n1 n2 => ?_) (fun n1 n2 => ?_) ?_
    · rw [decide_eq_false (by omega), decide_eq_false (by omega)]; rfl
    · rw [sOf_len]
      simp only [Bool.or_eq_false_iff, beq_eq_false_iff_ne] at n2
      intro z
      have h1 : ((x.length : Int)) * n > (2 ^ 63 - 1) / n * n := Int.mul_lt_mul_of_pos_right z (by omega)
      have h2 : (2 ^ 63 - 1 : Int) / n * n > 2 ^ 63 - 1 - n := by
        have := Int.emod_lt_of_pos (2 ^ 63 - 1 : Int) (show 0 < n by omega)
        have e := Int.emod_add_mul_ediv (2 ^ 63 - 1 : Int) n
        rw [Int.mul_comm] at e
        omega
      have h3 : ((x.length * n.toNat : Nat) : Int) = (x.length : Int) * n := by
        rw [Int.natCast_mul, Int.toNat_of_nonneg (by omega)]
      have h4 : ((x.length * n.toNat : Nat) : Int) ≤ big := by exact_mod_cast z1
      have h5 : (big : Int) = 16777216 := rfl
      omega
    · rw [sOf_len]
      show decide (_ > sizeLine) = false
      exact decide_eq_false (by rw [← hb]; omega)
    · by_cases c1 : n < 1
      · rw [if_pos c1]
        refine ⟨by decide, fin_str I (x := []) rfl ⟨by decide, by simp⟩ ?_⟩
        have e : n.toNat = 0 := by omega
        rw [e] at q
        exact q
      · rw [if_neg c1]
        by_cases c2 : (n == 1 || (sOf x).length == 0) = true
        · rw [if_pos c2]
          refine ⟨.str _, H, I, ⟨_, rfl⟩, _, .old rfl (.str x o1), ?_⟩
          have e : (List.replicate n.toNat x).flatten = x := by
            rw [sOf_len] at c2
            simp only [Bool.or_eq_true, beq_iff_eq] at c2
            rcases c2 with c2 | c2
            · subst c2; simp
            · have : x = [] := List.eq_nil_of_length_eq_zero c2
              subst this; simp
          rw [e] at q
          exact q
        · rw [if_neg c2]
          have e : (⟨(List.replicate n.toNat (sOf x).cps).foldl (· ++ ·) #[]⟩ : Str) = sOf (List.replicate n.toNat x).flatten := by
            have := flat_rep x n.toNat []
            simp only [List.nil_append] at this
            show (⟨(List.replicate n.toNat x.toArray).foldl (· ++ ·) ([] : List Nat).toArray⟩ : Str) = _
            rw [this]
          have ok := o1.rep z1
          refine ⟨?_, fin_str I e ok q⟩
          rw [e]
          show _ ≤ sizeLine
          rw [sOf_len]; exact ok.1
  · exact h.elim
  · exact h.elim
  · rw [hx.int_inv] at rx; rw [hy.int_inv] at ry
    obtain ⟨t, rfl⟩ := rx; obtain ⟨t', rfl⟩ := ry
    exact floordiv_int (by omega) (by rw [Int.fdiv_eq_ediv_of_nonneg _ (by omega)]; exact fin_int I h.2) (.inl (PyProof.noPylong_small (by omega)))
  · rw [hx.int_inv] at rx; rw [hy.int_inv] at ry
    obtain ⟨t, rfl⟩ := rx; obtain ⟨t', rfl⟩ := ry
    exact mod_int (by omega) (by rw [Int.fmod_eq_emod_of_nonneg _ (by omega)]; exact fin_int I h.2)
  · exact h.elim
end
end Gr

end
section
set_option Elab.async false
set_option linter.all false
set_option maxRecDepth 100000
set_option maxHeartbeats 4000000
namespace Gr
open PySem PySem.Spec L2
open PyProof.Rows hiding St

/-! ### the library's data -/
mutual
def toPy : D → PyData
  | .non => .none
  | .bl b => .bool b
  | .int i => .int i
  | .str s => .str (sOf s)
  | .tup xs => .tuple (toPys xs)
  | .lst xs => .list (toPys xs)
  | .dct _ _ => .none
  | .fn _ => .none
  | .exc _ _ => .none
def toPys : List D → List PyData
  | [] => []
  | x :: xs => toPy x :: toPys xs
end
mutual
theorem depth_toPy : ∀ d : D, (toPy d).depth = depth d
  | .non => rfl
  | .bl _ => rfl
  | .int _ => rfl
  | .str _ => rfl
  | .tup xs => congrArg (· + 1) (depths_toPys xs)
  | .lst xs => congrArg (· + 1) (depths_toPys xs)
  | .dct _ _ => rfl
  | .fn _ => rfl
  | .exc _ _ => rfl
theorem depths_toPys : ∀ ds : List D, PyData.depthAll (toPys ds) = depths ds
  | [] => rfl
  | d :: ds => by
    show max (toPy d).depth (PyData.depthAll (toPys ds)) = max (depth d) (depths ds)
    rw [depth_toPy d, depths_toPys ds]
end
theorem sOf_inj {x y : List Nat} (h : sOf x = sOf y) : x = y := by
  have := congrArg (fun s : Str => s.cps.toList) h
  simpa using this
theorem sOf_beq (x y : List Nat) : (sOf x == sOf y) = (x == y) := by
  rw [Bool.eq_iff_iff]
  simp only [beq_iff_eq]
  exact ⟨sOf_inj, fun h => by rw [h]⟩
mutual
theorem eqv_toPy : ∀ a b : D, plain a = true → plain b = true → PyData.eqv (toPy a) (toPy b) = eqD a b
  | .tup xs, .tup ys, h, h' => eqvs_toPys xs ys h h'
  | .lst xs, .lst ys, h, h' => eqvs_toPys xs ys h h'
  | .str x, .str y, _, _ => sOf_beq x y
  | .bl a, .bl b, _, _ => rfl
  | .bl a, .int j, _, _ => rfl
  | .int i, .bl b, _, _ => rfl
  | .int i, .int j, _, _ => rfl
  | .non, .non, _, _ => rfl
  | .dct _ _, _, h, _ => by simp [plain] at h
  | .fn _, _, h, _ => by simp [plain] at h
  | .exc _ _, _, h, _ => by simp [plain] at h
  | _, .dct _ _, _, h => by simp [plain] at h
  | _, .fn _, _, h => by simp [plain] at h
  | _, .exc _ _, _, h => by simp [plain] at h
  | .non, .bl _, _, _ | .non, .int _, _, _ | .non, .str _, _, _ | .non, .tup _, _, _ | .non, .lst _, _, _ => rfl
  | .bl _, .non, _, _ | .bl _, .str _, _, _ | .bl _, .tup _, _, _ | .bl _, .lst _, _, _ => rfl
  | .int _, .non, _, _ | .int _, .str _, _, _ | .int _, .tup _, _, _ | .int _, .lst _, _, _ => rfl
  | .str _, .non, _, _ | .str _, .bl _, _, _ | .str _, .int _, _, _ | .str _, .tup _, _, _ | .str _, .lst _, _, _ => rfl
  | .tup _, .non, _, _ | .tup _, .bl _, _, _ | .tup _, .int _, _, _ | .tup _, .str _, _, _ | .tup _, .lst _, _, _ => rfl
  | .lst _, .non, _, _ | .lst _, .bl _, _, _ | .lst _, .int _, _, _ | .lst _, .str _, _, _ | .lst _, .tup _, _, _ => rfl
theorem eqvs_toPys : ∀ a b : List D, plains a = true → plains b = true → PyData.eqvAll (toPys a) (toPys b) = eqDs a b
  | [], [], _, _ => rfl
  | [], _ :: _, _, _ => rfl
  | _ :: _, [], _, _ => rfl
  | x :: xs, y :: ys, h, h' => by
    simp only [plains, Bool.and_eq_true] at h h'
    show (PyData.eqv (toPy x) (toPy y) && PyData.eqvAll (toPys xs) (toPys ys)) = (eqD x y && eqDs xs ys)
    rw [eqv_toPy x y h.1 h'.1, eqvs_toPys xs ys h.2 h'.2]
end
theorem any_toPys (x : D) (hx : plain x = true) : ∀ xs : List D, plains xs = true → ((toPys xs).any fun y => PyData.eqv y (toPy x)) = xs.any fun y => eqD y x
  | [], _ => rfl
  | y :: ys, h => by
    simp only [plains, Bool.and_eq_true] at h
    show (PyData.eqv (toPy y) (toPy x) || (toPys ys).any fun y => PyData.eqv y (toPy x)) = (eqD y x || ys.any fun y => eqD y x)
    rw [eqv_toPy y x h.1 hx, any_toPys x hx ys h.2]
section
variable {g : Gm} {H : Hp}
theorem strOk_of {x : List Nat} (h : okS x) : PyData.strOk (sOf x) = true := by
  show x.toArray.all (· < 0x110000) = true
  rw [Array.all_eq_true]
  intro i hi
  simp only [decide_eq_true_eq]
  exact h.2 _ (by simp)
mutual
theorem RepD.lay : ∀ {d : D} {v : V}, RepD g H v d → (toPy d).canLay0 = true
  | _, _, .non => rfl
  | _, _, .bl b => rfl
  | _, _, .int i => rfl
  | _, _, .str s h => strOk_of h
  | _, _, .tup h r => RepDs.lay r
  | _, _, .lst h r => RepDs.lay r
  | _, _, .dK h r => rfl
  | _, _, .dT h r => rfl
  | _, _, .fn h => rfl
  | _, _, .exc h => rfl
theorem RepDs.lay : ∀ {ds : List D} {vs : List V}, RepDs g H vs ds → PyData.canLayAll0 (toPys ds) = true
  | _, _, .nil => rfl
  | _, _, .cons (d := d) (ds := ds) h r => by
    show ((toPy d).canLay0 && PyData.canLayAll0 (toPys ds)) = true
    rw [RepD.lay h, RepDs.lay r]
    rfl
end
mutual
theorem RepD.dp : ∀ {d : D} {v : V}, RepD g H v d → plain d = true → Dp g.K H v (toPy d)
  | _, _, .non, _ => .non
  | _, _, .bl b, _ => .bl b
  | _, _, .int i, _ => .int i
  | _, _, .str s h, _ => .str _
  | _, _, .tup h r, p => .tup (SqT.of h) (RepDs.dp r p)
  | _, _, .lst h r, p => .lst h.sq (RepDs.dp r p)
  | _, _, .dK h r, p => by simp [plain] at p
  | _, _, .dT h r, p => by simp [plain] at p
  | _, _, .fn h, p => by simp [plain] at p
  | _, _, .exc h, p => by simp [plain] at p
theorem RepDs.dp : ∀ {ds : List D} {vs : List V}, RepDs g H vs ds → plains ds = true → DpAll g.K H vs (toPys ds)
  | _, _, .nil, _ => .nil
  | _, _, .cons (d := d) (ds := ds) h r, p => by
    simp only [plains, Bool.and_eq_true] at p
    exact .cons (RepD.dp h p.1) (RepDs.dp r p.2)
end
theorem RepB.dp {v : V} {d : D} (h : RepB g H v d) (p : plain d = true) : Dp g.K H v (toPy d) := by
  cases h with
  | d h => exact h.dp p
  | lst h r => exact .lst h (r.dp p)
  | dK h r => simp [plain] at p
  | dT h r => simp [plain] at p
theorem RepB.lay {v : V} {d : D} (h : RepB g H v d) : (toPy d).canLay0 = true := by
  cases h with
  | d h => exact h.lay
  | lst h r => exact r.lay
  | dK h r => rfl
  | dT h r => rfl
end

/-! ### comparisons -/
def cmpOf : Cmp → CmpOp
  | .eq => .Eq
  | .ne => .NotEq
  | .lt => .Lt
  | .le => .LtE
  | .gt => .Gt
  | .ge => .GtE
  | .is => .Is
  | .isnot => .IsNot
  | .isin => .In
  | .notin => .NotIn
theorem ltL_iff : ∀ x y : List Nat, decide (x < y) = ltL x y
  | [], [] => by simp [ltL]
  | _ :: _, [] => by simp [ltL]
  | [], _ :: _ => by simp [ltL]
  | a :: x, b :: y => by
    unfold ltL
    by_cases h : a < b
    · rw [if_pos h]; simp [List.cons_lt_cons_iff, h]
    · rw [if_neg h]
      by_cases h' : b < a
      · rw [if_pos h']
        simp only [decide_eq_false_iff_not, List.cons_lt_cons_iff]
        omega
      · rw [if_neg h', ← ltL_iff x y]
        have e : a = b := by omega
        subst e
        simp [List.cons_lt_cons_iff]
section
variable {X : L2.Cx} {g : Gm} {W : WX} {b : Bool} {pins : List (Addr × Obj)} {σ : L2.St} {H H0 H' : Hp} {s : Shared} {e : Env} {fp fp0 : List Addr}
/-- the end of a comparison -/
abbrev FinB (X : L2.Cx) (pins : List (Addr × Obj)) (σ : L2.St) (H : Hp) (k : Bool → Prop) : Value → Shared → Prop := EP X pins σ fun w H' => ∃ t, w = .bl t ∧ H' = H ∧ k t
theorem finB {k : Bool → Prop} (I : Inv X pins σ H s) {t : Bool} (q : k t) : FinB X pins σ H k (.bool t) s := ⟨.bl t, H, I, rfl, t, rfl, rfl, q⟩
theorem RepD.isNon {v : V} {d : D} (h : RepD g H v d) : decide (v = .non) = Gr.isNon d := by
  cases h <;> first | rfl | (simp [Gr.isNon])
theorem kV_keyD {k : Key} {v : V} (h : RepD g H v (keyD k)) : v = kV k := by
  cases k with
  | inl i => exact h.int_inv
  | inr x =>
    obtain ⟨c⟩ := x
    rw [h.str_inv.1]
    show V.str ⟨c.toList.toArray⟩ = V.str ⟨c⟩
    rw [Array.toArray_toList]
theorem keyD_eq (a b : Key) : eqD (keyD a) (keyD b) = decide (a = b) := by
  cases a with
  | inl i => cases b with
    | inl j => simp [keyD, eqD, Bool.beq_eq_decide_eq]
    | inr y => simp [keyD, eqD]
  | inr x => cases b with
    | inl j => simp [keyD, eqD]
    | inr y =>
      simp only [keyD, eqD, Bool.beq_eq_decide_eq, Sum.inr.injEq]
      congr 1
      rw [eq_iff_iff]
      constructor
      · intro h
        cases x; cases y
        simp at h
        simp [h]
      · intro h; rw [h]
theorem valV_cons {κ : Type} [DecidableEq κ] (k' : κ) (v : V) (vs : List (κ × V)) (k : κ) : valV ((k', v) :: vs) k = if k' = k then some v else valV vs k := by
  by_cases c : k' = k
  · rw [if_pos c, valV_pos (p := (k', v)) c]
  · rw [if_neg c, valV_neg (p := (k', v)) c]
theorem RepKs.look : ∀ {ds : List (D × D)} {kvs : List (Key × V)}, RepKs g H kvs ds → ∀ k : Key, (∃ v d, valV kvs k = some v ∧ lookD ds (keyD k) = some d ∧ RepD g H v d) ∨ (valV kvs k = none ∧ lookD ds (keyD k) = none)
  | _, _, .nil, k => .inr ⟨rfl, rfl⟩
  | _, _, .cons (k := k') (v := v) (vs := vs) (d := d) (ds := ds) h r, k => by
    rw [valV_cons]
    show (∃ w d', _ ∧ (if eqD (keyD k') (keyD k) = true then some d else lookD ds (keyD k)) = some d' ∧ _) ∨ (_ ∧ (if eqD (keyD k') (keyD k) = true then some d else lookD ds (keyD k)) = none)
    rw [keyD_eq]
    by_cases c : k' = k
    · rw [if_pos c, if_pos (decide_eq_true c)]; exact .inl ⟨v, d, rfl, rfl, h⟩
    · rw [if_neg c, if_neg (by simpa using c)]; exact RepKs.look r k
theorem keysD_eq : ∀ a b : List Key, eqD (keysD a) (keysD b) = decide (a = b) := fun a b => by
  have go : ∀ a b : List Key, eqDs (a.map keyD) (b.map keyD) = decide (a = b) := by
    intro a
    induction a with
    | nil => intro b; cases b <;> simp [eqDs]
    | cons x a ih =>
      intro b
      cases b with
      | nil => simp [eqDs]
      | cons y b =>
        simp only [List.map_cons, eqDs, keyD_eq, ih b]
        by_cases h1 : x = y <;> by_cases h2 : a = b <;> simp [h1, h2]
  exact go a b
theorem RepTs.look : ∀ {ds : List (D × D)} {kvs : List (List Key × V)}, RepTs g H kvs ds → ∀ k : List Key, (∃ v d, valV kvs k = some v ∧ lookD ds (keysD k) = some d ∧ RepD g H v d) ∨ (valV kvs k = none ∧ lookD ds (keysD k) = none)
  | _, _, .nil, k => .inr ⟨rfl, rfl⟩
  | _, _, .cons (k := k') (v := v) (vs := vs) (d := d) (ds := ds) h r, k => by
    rw [valV_cons]
    show (∃ w d', _ ∧ (if eqD (keysD k') (keysD k) = true then some d else lookD ds (keysD k)) = some d' ∧ _) ∨ (_ ∧ (if eqD (keysD k') (keysD k) = true then some d else lookD ds (keysD k)) = none)
    rw [keysD_eq]
    by_cases c : k' = k
    · rw [if_pos c, if_pos (decide_eq_true c)]; exact .inl ⟨v, d, rfl, rfl, h⟩
    · rw [if_neg c, if_neg (by simpa using c)]; exact RepTs.look r k
theorem flatTs_keys : ∀ {ds : List D}, flatTs ds = true → ∃ ks : List Key, ds = ks.map keyD
  | [], _ => ⟨[], rfl⟩
  | .int i :: r, h => by
    obtain ⟨ks, e⟩ := flatTs_keys (ds := r) h
    exact ⟨.inl i :: ks, by rw [e]; rfl⟩
  | .str x :: r, h => by
    obtain ⟨ks, e⟩ := flatTs_keys (ds := r) h
    refine ⟨.inr (sOf x) :: ks, ?_⟩
    rw [e]
    show _ = D.str (sOf x).cps.toList :: _
    simp
  | .non :: _, h => by simp [flatTs] at h
  | .bl _ :: _, h => by simp [flatTs] at h
  | .tup _ :: _, h => by simp [flatTs] at h
  | .lst _ :: _, h => by simp [flatTs] at h
  | .dct _ _ :: _, h => by simp [flatTs] at h
  | .fn _ :: _, h => by simp [flatTs] at h
  | .exc _ _ :: _, h => by simp [flatTs] at h
theorem RepDs.keys : ∀ {ks : List Key} {vs : List V}, RepDs g H vs (ks.map keyD) → vs = ks.map kV
  | [], _, .nil => rfl
  | k :: ks, _, .cons h r => by rw [kV_keyD h, RepDs.keys r]; rfl
end
end Gr

end
section
set_option Elab.async false
set_option linter.all false
set_option maxRecDepth 100000
set_option maxHeartbeats 4000000
namespace Gr
open PySem PySem.Spec L2
open PyProof.Rows hiding St
section
variable {X : L2.Cx} {g : Gm} {W : WX} {b : Bool} {pins : List (Addr × Obj)} {σ : L2.St} {H H0 H' : Hp} {s : Shared} {e : Env} {fp fp0 : List Addr}
variable {x y : V} {u v : Value} {dx dy : D}
theorem reads_of (eK : X.K = g.K) (I : Inv X pins σ H s) (h : RepB g H x dx) (p : plain dx = true) (r : RelV x u) : ∃ as, Reads s.heap u (toPy dx) as := by
  have := h.dp p
  rw [← eK] at this
  exact Dp.reads I _ x u this r
theorem in_ok (eK : X.K = g.K) (hu : X.A.units + 66 < cLine) (I : Inv X pins σ H s) (neg : Bool) {k : Bool → Prop} (rx : RelV x u) (ry : RelV y v) (hx : RepD g H x dx)
    (hy : RepB g H y dy ∨ ∃ a vs ds, y = .ref a ∧ dy = .tup ds ∧ SqT g.K H a vs ∧ RepDs g H vs ds) (h : inK dx dy fun t => k (if neg then !t else t)) :
    wpAny (model X.prog X.w) X.A (compareOp (if neg then .NotIn else .In) u v) (FinB X pins σ H k) X.xe s := by
  have seq : ∀ (ds : List D) (pv : PyData), (∃ as, Reads s.heap v pv as) → (pv = .list (toPys ds) ∨ pv = .tuple (toPys ds)) → PyData.canLayAll0 (toPys ds) = true → eqOks dx ds → k (if neg then !(ds.any fun y => eqD y dx) else ds.any fun y => eqD y dx) →
      wpAny (model X.prog X.w) X.A (compareOp (if neg then .NotIn else .In) u v) (FinB X pins σ H k) X.xe s := by
    intro ds pv ⟨as, rd⟩ he hl ⟨p1, p2, p3⟩ q
    obtain ⟨bs, rx'⟩ := reads_of eK I (.d hx) p1 rx
    have hd := hx.lay
    have room : X.A.units + 1 + min (PyData.depthAll (toPys ds)) (toPy dx).depth < cLine := by
      rw [depth_toPy, depths_toPys]; omega
    rw [← any_toPys dx p1 ds p2] at q
    rcases he with rfl | rfl
    · cases neg with
      | true => exact SeqAt.notIn_list_reads rd rx' hl hd room (finB I q)
      | false => exact SeqAt.in_list_reads rd rx' hl hd room (finB I q)
    · cases neg with
      | true => exact SeqAt.notIn_tuple_reads rd rx' hl hd room (finB I q)
      | false => exact SeqAt.in_tuple_reads rd rx' hl hd room (finB I q)
  unfold inK at h
  split at h
  · rename_i c z
    rcases hy with hy | ⟨a, vs, ds, _, e, _⟩
    · obtain ⟨e1, o1⟩ := hx.str_inv; obtain ⟨e2, o2⟩ := hy.str_inv
      subst e1; subst e2
      obtain ⟨t, rfl⟩ := rx; obtain ⟨t', rfl⟩ := ry
      have ec : decide (c ∈ (sOf z).cps.toList) = z.contains c := by simp
      cases neg with
      | true => exact PyProof.Rows.notIn_str (finB I (by rw [← ec] at h; rw [PySem.StrLaws.found_one (sOf z) c]; exact h))
      | false => exact PyProof.Rows.in_str (finB I (by rw [← ec] at h; rw [PySem.StrLaws.found_one (sOf z) c]; exact h))
    · cases e
  · skip
    rcases hy with hy | ⟨a, vs, ds', _, e, _⟩
    · exact seq _ _ (reads_of eK I hy h.1.2.1 ry) (.inl rfl) hy.lay h.1 h.2
    · cases e
  · skip
    rcases hy with hy | ⟨a, vs, ds', rfl, e, hq, hr⟩
    · exact seq _ _ (reads_of eK I hy h.1.2.1 ry) (.inr rfl) hy.lay h.1 h.2
    · cases e
      refine seq _ (.tuple (toPys _)) ?_ (.inr rfl) hr.lay h.1 h.2
      have := Dp.tup hq (hr.dp h.1.2.1)
      rw [← eK] at this
      exact Dp.reads I _ _ _ this ry
  · rename_i z kvs
    rcases hy with hy | ⟨a, vs, ds', rfl, e, _⟩
    · obtain ⟨e1, o1⟩ := hx.str_inv
      subst e1
      have : ∃ a ks, y = .ref a ∧ Rd H a (.dK ks) ∧ RepKs g H ks kvs := by
        cases hy with
        | d hy => cases hy with | dK q r => obtain ⟨o, q⟩ := q; exact ⟨_, _, rfl, .inr ⟨o, q⟩, r⟩
        | dK q r => exact ⟨_, _, rfl, q, r⟩
      obtain ⟨a, ks, rfl, hq, r⟩ := this
      have ez : (keyD (.inr (sOf z))) = .str z := by show D.str (sOf z).cps.toList = _; simp
      have el : (valV ks (.inr (sOf z))).isSome = (lookD kvs (.str z)).isSome := by
        rw [← ez]
        rcases r.look (.inr (sOf z)) with ⟨v, d, h1, h2, _⟩ | ⟨h1, h2⟩ <;> rw [h1, h2] <;> rfl
      cases ry
      cases neg with
      | true => exact d_notIn (by omega) I (.inl ⟨ks, .inr (sOf z), hq, rfl, rfl⟩) rx fun s' I' => finB I' (by rw [el]; exact h)
      | false => exact d_in (by omega) I (.inl ⟨ks, .inr (sOf z), hq, rfl, rfl⟩) rx fun s' I' => finB I' (by rw [el]; exact h)
    · cases e
  · rename_i z kvs
    rcases hy with hy | ⟨a, vs, ds', rfl, e, _⟩
    · have e1 := hx.int_inv
      subst e1
      have : ∃ a ks, y = .ref a ∧ Rd H a (.dK ks) ∧ RepKs g H ks kvs := by
        cases hy with
        | d hy => cases hy with | dK q r => obtain ⟨o, q⟩ := q; exact ⟨_, _, rfl, .inr ⟨o, q⟩, r⟩
        | dK q r => exact ⟨_, _, rfl, q, r⟩
      obtain ⟨a, ks, rfl, hq, r⟩ := this
      have el : (valV ks (.inl z)).isSome = (lookD kvs (.int z)).isSome := by
        show _ = (lookD kvs (keyD (.inl z))).isSome
        rcases r.look (.inl z) with ⟨v, d, h1, h2, _⟩ | ⟨h1, h2⟩ <;> rw [h1, h2] <;> rfl
      cases ry
      cases neg with
      | true => exact d_notIn (by omega) I (.inl ⟨ks, .inl z, hq, rfl, rfl⟩) rx fun s' I' => finB I' (by rw [el]; exact h)
      | false => exact d_in (by omega) I (.inl ⟨ks, .inl z, hq, rfl, rfl⟩) rx fun s' I' => finB I' (by rw [el]; exact h)
    · cases e
  · rename_i z kvs
    rcases hy with hy | ⟨a, vs, ds', rfl, e, _⟩
    · obtain ⟨ks, rfl⟩ := flatTs_keys h.1
      obtain ⟨b, vs, rfl, hb, rb⟩ := hx.tup_inv
      have := rb.keys
      subst this
      have : ∃ a ks, y = .ref a ∧ Rd H a (.dT ks) ∧ RepTs g H ks kvs := by
        cases hy with
        | d hy => cases hy with | dT q r => obtain ⟨o, q⟩ := q; exact ⟨_, _, rfl, .inr ⟨o, q⟩, r⟩
        | dT q r => exact ⟨_, _, rfl, q, r⟩
      obtain ⟨a, kvs', rfl, hq, r⟩ := this
      have el : (valV kvs' ks).isSome = (lookD kvs (.tup (ks.map keyD))).isSome := by
        show _ = (lookD kvs (keysD ks)).isSome
        rcases r.look ks with ⟨v, d, h1, h2, _⟩ | ⟨h1, h2⟩ <;> rw [h1, h2] <;> rfl
      cases ry
      cases neg with
      | true => exact d_notIn (by omega) I (.inr ⟨kvs', ks, b, hq, rfl, hb, rfl⟩) rx fun s' I' => finB I' (by rw [el]; exact h.2)
      | false => exact d_in (by omega) I (.inr ⟨kvs', ks, b, hq, rfl, hb, rfl⟩) rx fun s' I' => finB I' (by rw [el]; exact h.2)
    · cases e
  · exact h.elim
theorem cmp_ok (eK : X.K = g.K) (hu : X.A.units + 66 < cLine) (I : Inv X pins σ H s) {op : Cmp} {k : Bool → Prop} (rx : RelV x u) (ry : RelV y v) (hx : RepD g H x dx) (hy : RepB g H y dy) (h : cmpK op dx dy k) :
    wpAny (model X.prog X.w) X.A (compareOp (cmpOf op) u v) (FinB X pins σ H k) X.xe s := by
  have room : eqOk dx dy → X.A.units + min (toPy dx).depth (toPy dy).depth < cLine := fun ⟨_, _, h⟩ => by
    rw [depth_toPy, depth_toPy]; omega
  unfold cmpK at h
  split at h
  · obtain ⟨as, r1⟩ := reads_of eK I (.d hx) h.1.1 rx
    obtain ⟨bs, r2⟩ := reads_of eK I hy h.1.2.1 ry
    exact SeqAt.compareEq_reads r1 r2 hx.lay hy.lay (room h.1) (finB I (by rw [eqv_toPy _ _ h.1.1 h.1.2.1]; exact h.2))
  · obtain ⟨as, r1⟩ := reads_of eK I (.d hx) h.1.1 rx
    obtain ⟨bs, r2⟩ := reads_of eK I hy h.1.2.1 ry
    exact SeqAt.compareNe_reads r1 r2 hx.lay hy.lay (room h.1) (finB I (by rw [eqv_toPy _ _ h.1.1 h.1.2.1]; exact h.2))
  · rw [hx.int_inv] at rx; rw [hy.int_inv] at ry
    obtain ⟨t, rfl⟩ := rx; obtain ⟨t', rfl⟩ := ry
    exact lt_int (finB I h)
  · rw [hx.int_inv] at rx; rw [hy.int_inv] at ry
    obtain ⟨t, rfl⟩ := rx; obtain ⟨t', rfl⟩ := ry
    exact le_int (finB I h)
  · rw [hx.int_inv] at rx; rw [hy.int_inv] at ry
    obtain ⟨t, rfl⟩ := rx; obtain ⟨t', rfl⟩ := ry
    exact gt_int (finB I h)
  · rw [hx.int_inv] at rx; rw [hy.int_inv] at ry
    obtain ⟨t, rfl⟩ := rx; obtain ⟨t', rfl⟩ := ry
    exact ge_int (finB I h)
  · obtain ⟨e1, o1⟩ := hx.str_inv; obtain ⟨e2, o2⟩ := hy.str_inv
    subst e1; subst e2
    obtain ⟨t, rfl⟩ := rx; obtain ⟨t', rfl⟩ := ry
    refine PySem.P.lt_str (finB I ?_)
    rw [← ltL_iff] at h
    show k (decide ((sOf _).cps.toList < (sOf _).cps.toList))
    simpa using h
  · unfold isK at h
    split at h
    · rw [hy.non_inv] at ry
      cases ry
      refine is_none_gen (finB I ?_)
      rw [rx.none_iff, hx.isNon]
      exact h
    · exact h.elim
  · unfold isK at h
    split at h
    · rw [hy.non_inv] at ry
      cases ry
      refine isnot_none_gen (finB I ?_)
      rw [rx.none_iff, hx.isNon]
      exact h
    · exact h.elim
  · exact in_ok eK hu I false rx ry hx (.inl hy) h
  · exact in_ok eK hu I true rx ry hx (.inl hy) h
  · exact h.elim
end
end Gr

end
section
set_option Elab.async false
set_option linter.all false
set_option maxRecDepth 100000
set_option maxHeartbeats 4000000
namespace Gr
open PySem PySem.Spec L2
open PyProof.Rows hiding St
section
variable {X : L2.Cx} {g : Gm} {W : WX} {b : Bool} {pins : List (Addr × Obj)} {σ : L2.St} {H H0 H' : Hp} {s : Shared} {e : Env} {fp fp0 : List Addr}
variable {x y : V} {u v : Value} {dx dy : D}
/-- the end of a look-up: a datum that stands already -/
abbrev FinD (g : Gm) (X : L2.Cx) (pins : List (Addr × Obj)) (σ : L2.St) (H : Hp) (k : D → Prop) : Value → Shared → Prop := EP X pins σ fun w H' => ∃ d, H' = H ∧ RepD g H w d ∧ k d
theorem atI_ds {vs : List V} {ds : List D} (r : RepDs g H vs ds) {i : Int} {d : D} (h : atX ds i = some d) : ∃ v, atI vs i = some v ∧ RepD g H v d := by
  unfold atX at h
  unfold atI
  rw [r.length]
  show ∃ v, ((Gr.ixN ds.length i).bind fun j => vs[j]?) = some v ∧ _
  cases e : Gr.ixN ds.length i with
  | none => rw [e] at h; cases h
  | some j => rw [e] at h; exact r.get h
theorem optK_iff {α : Type} {o : Option α} {k : α → Prop} : optK o k ↔ ∃ a, o = some a ∧ k a := by
  cases o <;> simp [optK]
def notSlice : Expr → Bool
  | .Slice .. => false
  | _ => true
theorem sub_plain {i : Expr} (h : notSlice i = true) : PlainIx i := fun o v => by
  cases i <;> first | rfl | (simp [notSlice] at h)
theorem idx_ok (eK : X.K = g.K) (hu : X.A.units + 66 < cLine) (I : Inv X pins σ H s) {value slice : Expr} {k : D → Prop} (rx : RelV x u) (ry : RelV y v) (hx : RepB g H x dx) (hy : RepD g H y dy) (h : idxK dx dy k) (hs : notSlice slice = true) :
    wpAny (model X.prog X.w) X.A (subscriptTail value slice u v) (FinD g X pins σ H k) X.xe s := by
  have hp := sub_plain hs u v
  unfold idxK at h
  split at h
  · obtain ⟨a, vs, rfl, hq, r⟩ := hx.lst_inv
    obtain ⟨d, h1, h2⟩ := optK_iff.mp h
    obtain ⟨w, h3, h4⟩ := atI_ds r h1
    rw [← eK] at hq
    exact ix_list value slice pins s σ H _ _ _ _ _ I rx ry ⟨a, vs, _, w, rfl, hy.int_inv, hq, h3, d, rfl, h4, h2⟩ hp
  · obtain ⟨a, vs, rfl, hq, r⟩ := hx.tup_inv
    obtain ⟨d, h1, h2⟩ := optK_iff.mp h
    obtain ⟨w, h3, h4⟩ := atI_ds r h1
    exact ix_tup value slice pins s σ H _ _ _ _ _ I rx ry ⟨a, vs, _, w, rfl, hy.int_inv, SqT.of hq, h3, d, rfl, h4, h2⟩ hp
  · obtain ⟨rfl, ok⟩ := hx.str_inv
    obtain ⟨c, h1, h2⟩ := optK_iff.mp h
    rename_i z i
    have h3 : atI (sOf z).cps.toList i = some c := by
      have e : (sOf z).cps.toList = z := by simp
      rw [e]
      exact h1
    refine ix_str value slice pins s σ H _ _ _ _ _ I rx ry ⟨sOf z, i, c, rfl, hy.int_inv, by rw [sOf_len]; exact ok.1, h3, .str [c], rfl, .str [c] ⟨by simp [big], fun c' hc => ?_⟩, h2⟩ hp
    simp at hc
    subst hc
    obtain ⟨j, _, hj, _⟩ := atI_get h3
    exact ok.2 _ (by simpa using List.mem_of_getElem? hj)
  · rename_i kvs z
    obtain ⟨d, h1, h2⟩ := optK_iff.mp h
    obtain ⟨e1, o1⟩ := hy.str_inv
    subst e1
    have : ∃ a ks, x = .ref a ∧ Rd H a (.dK ks) ∧ RepKs g H ks kvs := by
      cases hx with
      | d hx => cases hx with | dK q r => obtain ⟨o, q⟩ := q; exact ⟨_, _, rfl, .inr ⟨o, q⟩, r⟩
      | dK q r => exact ⟨_, _, rfl, q, r⟩
    obtain ⟨a, ks, rfl, hq, r⟩ := this
    have ez : (keyD (.inr (sOf z))) = .str z := by show D.str (sOf z).cps.toList = _; simp
    rw [← ez] at h1
    rcases r.look (.inr (sOf z)) with ⟨w, d', e1, e2, e3⟩ | ⟨_, e2⟩
    · rw [h1] at e2; cases e2
      have gt : DGet H a (.str (sOf z)) (some w) := .inl ⟨ks, .inr (sOf z), hq, rfl, e1.symm⟩
      cases rx
      exact tail_any (dict_typeIs I gt) PySem.F.slot_dict_getitem.lookup (d_getItem (by omega) I gt ry fun w' s' I' rw' => ⟨w, H, I', rw', d, rfl, e3, h2⟩) hp
    · rw [h1] at e2; cases e2
  · rename_i kvs z
    obtain ⟨d, h1, h2⟩ := optK_iff.mp h
    have e1 := hy.int_inv
    subst e1
    have : ∃ a ks, x = .ref a ∧ Rd H a (.dK ks) ∧ RepKs g H ks kvs := by
      cases hx with
      | d hx => cases hx with | dK q r => obtain ⟨o, q⟩ := q; exact ⟨_, _, rfl, .inr ⟨o, q⟩, r⟩
      | dK q r => exact ⟨_, _, rfl, q, r⟩
    obtain ⟨a, ks, rfl, hq, r⟩ := this
    rcases r.look (.inl z) with ⟨w, d', e1, e2, e3⟩ | ⟨_, e2⟩
    · rw [show lookD kvs (keyD (.inl z)) = some d from h1] at e2; cases e2
      have gt : DGet H a (.int z) (some w) := .inl ⟨ks, .inl z, hq, rfl, e1.symm⟩
      cases rx
      exact tail_any (dict_typeIs I gt) PySem.F.slot_dict_getitem.lookup (d_getItem (by omega) I gt ry fun w' s' I' rw' => ⟨w, H, I', rw', d, rfl, e3, h2⟩) hp
    · rw [show lookD kvs (keyD (.inl z)) = some d from h1] at e2; cases e2
  · rename_i kvs z
    obtain ⟨d, h1, h2⟩ := optK_iff.mp h.2
    obtain ⟨ks, rfl⟩ := flatTs_keys h.1
    obtain ⟨b, vs, rfl, hb, rb⟩ := hy.tup_inv
    have := rb.keys
    subst this
    have : ∃ a ks, x = .ref a ∧ Rd H a (.dT ks) ∧ RepTs g H ks kvs := by
      cases hx with
      | d hx => cases hx with | dT q r => obtain ⟨o, q⟩ := q; exact ⟨_, _, rfl, .inr ⟨o, q⟩, r⟩
      | dT q r => exact ⟨_, _, rfl, q, r⟩
    obtain ⟨a, kvs', rfl, hq, r⟩ := this
    rcases r.look ks with ⟨w, d', e1, e2, e3⟩ | ⟨_, e2⟩
    · rw [show lookD kvs (keysD ks) = some d from h1] at e2; cases e2
      have gt : DGet H a (.ref b) (some w) := .inr ⟨kvs', ks, b, hq, rfl, hb, e1.symm⟩
      cases rx
      exact tail_any (dict_typeIs I gt) PySem.F.slot_dict_getitem.lookup (d_getItem (by omega) I gt ry fun w' s' I' rw' => ⟨w, H, I', rw', d, rfl, e3, h2⟩) hp
    · rw [show lookD kvs (keysD ks) = some d from h1] at e2; cases e2
  · exact h.elim

/-! ### slices -/
theorem cutLo_eq (n : Nat) (o : Option Int) : HT.sIx n 0 o = cutLo n o := by cases o <;> rfl
theorem cutHi_eq (n : Nat) (o : Option Int) : HT.sIx n n o = cutHi n o := by cases o <;> rfl
theorem cut_eq {α : Type} (xs : List α) (lo hi : Option Int) : (xs.drop (HT.sIx xs.length 0 lo)).take (HT.sIx xs.length xs.length hi - HT.sIx xs.length 0 lo) = cut xs lo hi := by
  unfold cut
  rw [cutLo_eq, cutHi_eq, List.drop_take]
theorem RepDs.cut {vs : List V} {ds : List D} (r : RepDs g H vs ds) (lo hi : Option Int) : RepDs g H (Gr.cut vs lo hi) (Gr.cut ds lo hi) := by
  unfold Gr.cut
  rw [r.length]
  exact (r.take _).drop _
theorem okS.cut {x : List Nat} (h : okS x) (lo hi : Option Int) : okS (Gr.cut x lo hi) := by
  unfold Gr.cut
  refine ⟨?_, fun c hc => h.2 c (List.mem_of_mem_take (List.mem_of_mem_drop hc))⟩
  have := h.1
  rw [List.length_drop, List.length_take]
  omega
def rSlG (g : Gm) (X : L2.Cx) (dx : Hp → V → D → Prop) : V → Option Int → Option Int → Hp → VK → Prop := fun x lo hi H Q => ∃ d k, RepB g H x d ∧ sliceK d (lo.map .int) (hi.map .int) k ∧ ∀ w H' r, Res g H H' w r → k r → Q w H'
theorem intOK_map (o : Option Int) (k : Option Int → Prop) : intOK (o.map .int) k ↔ k o := by cases o <;> exact Iff.rfl
theorem slice_ok (eK : X.K = g.K) : SlR X (rSlG g X fun _ _ _ => True) := by
  intro pins s σ H x v vl vu lo hi sl Q I rx hs pl pu h
  obtain ⟨d, k, hx, h, hq⟩ := h
  unfold sliceK at h
  split at h
  · rw [intOK_map, intOK_map] at h
    obtain ⟨a, vs, rfl, ha, r⟩ := hx.lst_inv
    rw [← eK] at ha
    refine sl_list pins s σ H _ v vl vu lo hi sl Q I rx hs pl pu ⟨a, vs, rfl, ha, fun p hp => ?_⟩
    refine hq _ _ _ (.newO hp rfl (.lst upd_same ?_)) h
    show RepDs g _ ((vs.drop _).take _) _
    rw [cut_eq]
    exact (r.cut lo hi).mono (pers_upd (.inl hp))
  · rw [intOK_map, intOK_map] at h
    obtain ⟨a, vs, rfl, ha, r⟩ := hx.tup_inv
    refine sl_tupA pins s σ H _ v vl vu lo hi sl Q I rx hs pl pu ⟨a, vs, rfl, SqT.of ha, fun hw => ?_, fun hw p hp => ?_⟩
    · refine hq _ _ _ (.old rfl (.tup ha ?_)) h
      have e : Gr.cut vs lo hi = vs := by
        rw [← cut_eq, hw.1, hw.2]
        simp
      rw [← e]
      exact r.cut lo hi
    · refine hq _ _ _ (.newV hp rfl (.tup upd_same ?_)) h
      show RepDs g _ ((vs.drop _).take _) _
      rw [cut_eq]
      exact (r.cut lo hi).mono (pers_upd (.inl hp))
  · rw [intOK_map, intOK_map] at h
    obtain ⟨rfl, ok⟩ := hx.str_inv
    rename_i z
    refine sl_str pins s σ H _ v vl vu lo hi sl Q I rx hs pl pu ⟨_, rfl, by rw [sOf_len]; exact ok.1, ?_⟩
    have e : cutS (sOf z) lo hi = sOf (Gr.cut z lo hi) := by
      unfold cutS
      rw [sOf_len]
      show (⟨((z.toArray.toList.drop _).take _).toArray⟩ : Str) = _
      rw [show z.toArray.toList = z by simp, cut_eq]
    rw [e]
    exact hq _ _ _ (.old rfl (.str _ (ok.cut lo hi))) h
  · exact h.elim
end
end Gr

end
section
set_option Elab.async false
set_option linter.all false
set_option maxRecDepth 100000
set_option maxHeartbeats 4000000
namespace Gr
open PySem PySem.Spec L2
open PyProof.Rows hiding St
section
variable {X : L2.Cx} {g : Gm} {W : WX} {b : Bool} {pins : List (Addr × Obj)} {σ : L2.St} {H H0 H2 : Hp} {s s2 : Shared} {e e2 : Env} {fp fp2 : List Addr} {Y : Xt}
variable {x y z c : Expr} {ma mb mc : WpK} {me me' : WpE} {pos : Pos}

theorem runE (h : PE X x (tE g W b me)) {K : Sl → Env → Prop} {Q : Value → Shared → Prop} (I : Inv X pins σ H s) (st : Stt g H σ e fp) (hw : me Y e K) (hx : XOk g W σ H fp Y)
    (k : ∀ v u s1 H1 fp1 r e1, Inv X pins σ H1 s1 → RelV v u → Post b H fp H1 fp1 → Stt g H1 σ e1 fp1 → XOk g W σ H1 fp1 Y → RepR g H fp H1 fp1 v r → K r e1 → Q u s1) : wpAny (model X.prog X.w) X.A (eval x X.env) Q X.xe s :=
  thn (h.run pins s σ H (fun v H1 => ∃ r e1 fp1, Post b H fp H1 fp1 ∧ Stt g H1 σ e1 fp1 ∧ RepR g H fp H1 fp1 v r ∧ K r e1) I ⟨e, fp, Y, K, st, hw, hx, fun v H1 fp1 r e1 p q rr kk => ⟨r, e1, fp1, p, q, rr, kk⟩⟩)
    fun u s1 ⟨v, H1, I1, rv, r, e1, fp1, p, q, rr, kk⟩ => k v u s1 H1 fp1 r e1 I1 rv p q (hx.post p) rr kk
theorem runK (h : PE X x (tK g W b ma)) {K : D → Env → Prop} {Q : Value → Shared → Prop} (I : Inv X pins σ H s) (st : Stt g H σ e fp) (hw : ma Y e K) (hx : XOk g W σ H fp Y)
    (k : ∀ v u s1 H1 fp1 d e1, Inv X pins σ H1 s1 → RelV v u → Post b H fp H1 fp1 → Stt g H1 σ e1 fp1 → XOk g W σ H1 fp1 Y → RepD g H1 v d → K d e1 → Q u s1) : wpAny (model X.prog X.w) X.A (eval x X.env) Q X.xe s :=
  thn (h.run pins s σ H (fun v H1 => ∃ r e1 fp1, Post b H fp H1 fp1 ∧ Stt g H1 σ e1 fp1 ∧ RepD g H1 v r ∧ K r e1) I ⟨e, fp, Y, K, st, hw, hx, fun v H1 fp1 r e1 p q rr kk => ⟨r, e1, fp1, p, q, rr, kk⟩⟩)
    fun u s1 ⟨v, H1, I1, rv, r, e1, fp1, p, q, rr, kk⟩ => k v u s1 H1 fp1 r e1 I1 rv p q (hx.post p) rr kk
theorem runB (h : PE X x (tB g W b ma)) {K : D → Env → Prop} {Q : Value → Shared → Prop} (I : Inv X pins σ H s) (st : Stt g H σ e fp) (hw : ma Y e K) (hx : XOk g W σ H fp Y)
    (k : ∀ v u s1 H1 fp1 d e1, Inv X pins σ H1 s1 → RelV v u → Post b H fp H1 fp1 → Stt g H1 σ e1 fp1 → XOk g W σ H1 fp1 Y → RepB g H1 v d → K d e1 → Q u s1) : wpAny (model X.prog X.w) X.A (eval x X.env) Q X.xe s :=
  thn (h.run pins s σ H (fun v H1 => ∃ r e1 fp1, Post b H fp H1 fp1 ∧ Stt g H1 σ e1 fp1 ∧ RepB g H1 v r ∧ K r e1) I ⟨e, fp, Y, K, st, hw, hx, fun v H1 fp1 r e1 p q rr kk => ⟨r, e1, fp1, p, q, rr, kk⟩⟩)
    fun u s1 ⟨v, H1, I1, rv, r, e1, fp1, p, q, rr, kk⟩ => k v u s1 H1 fp1 r e1 I1 rv p q (hx.post p) rr kk
/-- what is wished at an expression's end -/
abbrev Hk (g : Gm) (b : Bool) (σ : L2.St) (H : Hp) (fp : List Addr) (K : Sl → Env → Prop) (Q : VK) : Prop := ∀ v H1 fp1 r e1, Post b H fp H1 fp1 → Stt g H1 σ e1 fp1 → RepR g H fp H1 fp1 v r → K r e1 → Q v H1
theorem finR {K : Sl → Env → Prop} {Q : VK} (st : Stt g H2 σ e2 fp2) (p : Post b H fp H2 fp2) (hk : Hk g b σ H fp K Q) {u : Value} (f : Fin g X pins σ H2 (fun r => K r e2) u s2) : EP X pins σ Q u s2 := by
  obtain ⟨w, H', I', rw, r, res, q⟩ := f
  exact ⟨w, H', I', rw, hk _ _ _ _ _ (p.trans' res.post) (res.stt st) (res.rep st p) q⟩
theorem finD {K : Sl → Env → Prop} {Q : VK} (st : Stt g H2 σ e2 fp2) (p : Post b H fp H2 fp2) (hk : Hk g b σ H fp K Q) {u : Value} (f : FinD g X pins σ H2 (fun r => K (.val r) e2) u s2) : EP X pins σ Q u s2 := by
  obtain ⟨w, H', I', rw, r, rfl, rd, q⟩ := f
  exact ⟨w, _, I', rw, hk _ _ _ _ _ p st (.val rd) q⟩
theorem finT {K : Sl → Env → Prop} {Q : VK} (st : Stt g H2 σ e2 fp2) (p : Post b H fp H2 fp2) (hk : Hk g b σ H fp K Q) {u : Value} (f : FinB X pins σ H2 (fun r => K (.val (.bl r)) e2) u s2) : EP X pins σ Q u s2 := by
  obtain ⟨w, H', I', rw, r, rfl, rfl, q⟩ := f
  exact ⟨_, _, I', rw, hk _ _ _ _ _ p st (.val (.bl r)) q⟩
/-- a value that is known -/
theorem je_c {v : V} {d : D} (h : PE X x (tC v)) (rd : ∀ H, RepD g H v d) : PE X x (tE g W b fun _ e k => k (.val d) e) := by
  refine ⟨fun pins s σ H Q I q => ?_⟩
  obtain ⟨e, fp, Y, K, hs, hw, hx, hk⟩ := q
  exact h.run pins s σ H Q I (hk _ _ _ _ _ .refl hs (.val (rd H)) hw)
def okSb (z : List Nat) : Bool := decide (z.length ≤ big) && z.all (fun c => decide (c < 1114112))
theorem okSb_ok {z : List Nat} (h : okSb z = true) : okS z := by
  unfold okSb at h
  simp only [Bool.and_eq_true, decide_eq_true_eq, List.all_eq_true] at h
  exact ⟨h.1, fun c hc => h.2 c hc⟩
theorem je_int {i : Int} {j : Nat} : PE X (.Constant (.int i) j pos) (tE g W b fun _ e k => k (.val (.int i)) e) := je_c pe_int fun _ => .int i
theorem je_bl {i : Bool} {j : Nat} : PE X (.Constant (.bool i) j pos) (tE g W b fun _ e k => k (.val (.bl i)) e) := je_c pe_bl fun _ => .bl i
theorem je_non {j : Nat} : PE X (.Constant .none j pos) (tE g W b fun _ e k => k (.val .non) e) := je_c pe_non fun _ => .non
theorem je_str {z : List Nat} {j : Nat} (h : okSb z = true) : PE X (.Constant (.str (sOf z)) j pos) (tE g W b fun _ e k => k (.val (.str z)) e) := je_c pe_str fun _ => .str z (okSb_ok h)

theorem je_bin (eK : X.K = g.K) {op : BOp} (ha : PE X x (tK g W b ma)) (hb : PE X y (tB g W b mb)) : PE X (.BinOp x (opOf op) y pos) (tE g W b fun Y e k => ma Y e fun d e1 => mb Y e1 fun d' e2 => binK op d d' fun r => k r e2) := by
  refine ⟨fun pins s σ H Q I q => ?_⟩
  obtain ⟨e, fp, Y, K, hs, hw, hx, hk⟩ := q
  refine wpAny_BinOp (runK ha I hs hw hx fun v u s1 H1 fp1 d e1 I1 rv p1 st1 hx1 rd kk => runB hb I1 st1 kk hx1 fun v' u' s2 H2 fp2 d' e2 I2 rv' p2 st2 hx2 rd' kk' => ?_)
  exact thn (bin_ok eK I2 rv rv' (rd.mono (st1.pers p2)) rd' kk') fun w s3 f => finR st2 (p1.trans' p2) hk f
theorem je_neg (ha : PE X x (tK g W b ma)) : PE X (.UnaryOp .USub x pos) (tE g W b fun Y e k => ma Y e fun d e1 => negK d fun r => k r e1) := by
  refine ⟨fun pins s σ H Q I q => ?_⟩
  obtain ⟨e, fp, Y, K, hs, hw, hx, hk⟩ := q
  refine UnaryOp_ (runK ha I hs hw hx fun v u s1 H1 fp1 d e1 I1 rv p1 st1 hx1 rd kk => ?_)
  unfold negK at kk
  split at kk
  · rw [rd.int_inv] at rv
    obtain ⟨t, rfl⟩ := rv
    exact neg_int (finR st1 p1 hk (fin_int I1 kk))
  · exact kk.elim
theorem je_cmp (eK : X.K = g.K) (hu : X.A.units + 66 < cLine) {op : Cmp} (hm : behindInMarks (cmpOf op) y = false) (ha : PE X x (tK g W b ma)) (hb : PE X y (tB g W b mb)) :
    PE X (.Compare x [cmpOf op] [y] pos) (tE g W b fun Y e k => ma Y e fun d e1 => mb Y e1 fun d' e2 => cmpK op d d' fun t => k (.val (.bl t)) e2) := by
  refine ⟨fun pins s σ H Q I q => ?_⟩
  obtain ⟨e, fp, Y, K, hs, hw, hx, hk⟩ := q
  refine wpAny_Compare1 (runK ha I hs hw hx fun v u s1 H1 fp1 d e1 I1 rv p1 st1 hx1 rd kk => runB hb I1 st1 kk hx1 fun v' u' s2 H2 fp2 d' e2 I2 rv' p2 st2 hx2 rd' kk' => ?_) hm
  exact thn (cmp_ok eK hu I2 rv rv' (rd.mono (st1.pers p2)) rd' kk') fun w s3 f => finT st2 (p1.trans' p2) hk f
theorem jt_cmp (eK : X.K = g.K) (hu : X.A.units + 66 < cLine) {op : Cmp} (hm : behindInMarks (cmpOf op) y = false) (ha : PE X x (tK g W b ma)) (hb : PE X y (tB g W b mb)) :
    PT X (.Compare x [cmpOf op] [y] pos) (tTs g W b fun Y e k => ma Y e fun d e1 => mb Y e1 fun d' e2 => cmpK op d d' fun t => k t e2) := by
  refine ⟨fun pins s σ H Q I q => ?_⟩
  obtain ⟨e, fp, Y, K, hs, hw, hx, hk⟩ := q
  refine wpAny_isTrue_Compare1 (runK ha I hs hw hx fun v u s1 H1 fp1 d e1 I1 rv p1 st1 hx1 rd kk => runB hb I1 st1 kk hx1 fun v' u' s2 H2 fp2 d' e2 I2 rv' p2 st2 hx2 rd' kk' => ?_) hm
  refine thn (cmp_ok eK hu I2 rv rv' (rd.mono (st1.pers p2)) rd' kk') fun w s3 ⟨v3, H3, I3, r3, t, e3, e4, q⟩ => ?_
  subst e3 e4
  cases r3
  exact wpAny_truthy_bool ⟨_, I3, hk _ _ _ _ (p1.trans' p2) st2 q⟩
theorem je_chain (eK : X.K = g.K) (hu : X.A.units + 66 < cLine) {p q : Cmp} (hm : lastMarks [cmpOf p, cmpOf q] [y, z] = false) (ha : PE X x (tK g W b ma)) (hb : PE X y (tK g W b mb)) (hc : PE X z (tB g W b mc)) :
    PE X (.Compare x [cmpOf p, cmpOf q] [y, z] pos) (tE g W b fun Y e k => ma Y e fun d e1 => mb Y e1 fun d' e2 => cmpK p d d' fun t => if t = true then mc Y e2 fun d2 e3 => cmpK q d' d2 fun t => k (.val (.bl t)) e3 else k (.val (.bl false)) e2) := by
  refine ⟨fun pins s σ H Q I q => ?_⟩
  obtain ⟨e, fp, Y, K, hs, hw, hx, hk⟩ := q
  refine Compare_chain (runK ha I hs hw hx fun v u s1 H1 fp1 d e1 I1 rv p1 st1 hx1 rd kk => chain_link (runK hb I1 st1 kk hx1 fun v' u' s2 H2 fp2 d' e2 I2 rv' p2 st2 hx2 rd' kk' => ?_)) hm
  refine thn (cmp_ok eK hu I2 rv rv' (rd.mono (st1.pers p2)) (.d rd') kk') fun w s3 ⟨v3, H3, I3, r3, t, e3, e4, q⟩ => ?_
  subst e3 e4
  cases r3
  refine wpAny_truthy_bool ?_
  cases t with
  | false => exact ite_ff (finT st2 (p1.trans' p2) hk (finB I3 q))
  | true =>
    exact ite_tt (chain_last (runB hc I3 st2 q hx2 fun v4 u4 s4 H4 fp4 d4 e4 I4 rv4 p4 st4 hx4 rd4 kk4 =>
      thn (cmp_ok eK hu I4 rv' rv4 (rd'.mono (st2.pers p4)) rd4 kk4) fun w s5 f => finT st4 ((p1.trans' p2).trans' p4) hk f))
theorem jt_chain (eK : X.K = g.K) (hu : X.A.units + 66 < cLine) {p q : Cmp} (hm : lastMarks [cmpOf p, cmpOf q] [y, z] = false) (ha : PE X x (tK g W b ma)) (hb : PE X y (tK g W b mb)) (hc : PE X z (tB g W b mc)) :
    PT X (.Compare x [cmpOf p, cmpOf q] [y, z] pos) (tTs g W b fun Y e k => ma Y e fun d e1 => mb Y e1 fun d' e2 => cmpK p d d' fun t => if t = true then mc Y e2 fun d2 e3 => cmpK q d' d2 fun t => k t e3 else k false e2) := by
  refine ⟨fun pins s σ H Q I q => ?_⟩
  obtain ⟨e, fp, Y, K, hs, hw, hx, hk⟩ := q
  refine isTrue_chain (runK ha I hs hw hx fun v u s1 H1 fp1 d e1 I1 rv p1 st1 hx1 rd kk => test_link (runK hb I1 st1 kk hx1 fun v' u' s2 H2 fp2 d' e2 I2 rv' p2 st2 hx2 rd' kk' => ?_)) hm
  refine thn (cmp_ok eK hu I2 rv rv' (rd.mono (st1.pers p2)) (.d rd') kk') fun w s3 ⟨v3, H3, I3, r3, t, e3, e4, q⟩ => ?_
  subst e3 e4
  cases r3
  refine wpAny_truthy_bool ?_
  cases t with
  | false => exact ite_ff ⟨_, I3, hk _ _ _ _ (p1.trans' p2) st2 q⟩
  | true =>
    refine ite_tt (test_last (runB hc I3 st2 q hx2 fun v4 u4 s4 H4 fp4 d4 e4 I4 rv4 p4 st4 hx4 rd4 kk4 =>
      thn (cmp_ok eK hu I4 rv' rv4 (rd'.mono (st2.pers p4)) rd4 kk4) fun w s5 ⟨v5, H5, I5, r5, t5, e5, e6, q5⟩ => ?_))
    subst e5 e6
    cases r5
    exact wpAny_truthy_bool ⟨_, I5, hk _ _ _ _ ((p1.trans' p2).trans' p4) st4 q5⟩

/-! ### and, or, not, if -/
variable {rest : List Expr}
theorem je_one {op} (h : PE X x (tE g W b me)) : PE X (.BoolOp op [x] pos) (tE g W b me) := pe_one h
theorem je_and (ha : PE X x (tK g W b ma)) (hb : PE X (.BoolOp .And (y :: rest) pos) (tE g W b me)) : PE X (.BoolOp .And (x :: y :: rest) pos) (tE g W b fun Y e k => ma Y e fun d e1 => blK d fun t => if t = true then me Y e1 k else k (.val (.bl false)) e1) := by
  refine ⟨fun pins s σ H Q I q => ?_⟩
  obtain ⟨e, fp, Y, K, hs, hw, hx, hk⟩ := q
  refine BoolOp_and (runK ha I hs hw hx fun v u s1 H1 fp1 d e1 I1 rv p1 st1 hx1 rd kk => ?_)
  unfold blK at kk
  split at kk
  · rw [rd.bl_inv] at rv
    cases rv
    rename_i t
    refine wpAny_truthy_bool ?_
    cases t with
    | false => exact finT st1 p1 hk (finB I1 kk)
    | true => exact hb.run pins s1 σ H1 Q I1 ⟨e1, fp1, Y, K, st1, kk, hx1, fun v H2 fp2 r e2 p2 st2 rr k2 => hk _ _ _ _ _ (p1.trans' p2) st2 (by
        cases rr with
        | val h => exact .val h
        | own o n h0 => exact .own o n (by
            rcases h0 with h0 | h0
            · exact p1.own _ h0
            · refine .inr ?_
              cases e : H _ with
              | none => rfl
              | some o => exact absurd h0 (p1.there _ (by rw [e]; exact Option.some_ne_none _)))) k2⟩
  · exact kk.elim
theorem RepR.from {fp1 : List Addr} {H1 : Hp} {v : V} {r : Sl} (rr : RepR g H1 fp1 H2 fp2 v r) (p1 : Post b H fp H1 fp1) : RepR g H fp H2 fp2 v r := by
  cases rr with
  | val h => exact .val h
  | own o n h0 => exact .own o n (by
      rcases h0 with h0 | h0
      · exact p1.own _ h0
      · refine .inr ?_
        cases e : H _ with
        | none => rfl
        | some o => exact absurd h0 (p1.there _ (by rw [e]; exact Option.some_ne_none _)))
/-- the rest of an expression -/
theorem hkRest {K : Sl → Env → Prop} {Q : VK} (hk : Hk g b σ H fp K Q) {H1 : Hp} {fp1 : List Addr} (p1 : Post b H fp H1 fp1) : Hk g b σ H1 fp1 K Q := fun v H2 fp2 r e2 p2 st2 rr k2 => hk _ _ _ _ _ (p1.trans' p2) st2 (rr.from p1) k2
theorem je_or (ha : PE X x (tK g W b ma)) (hb : PE X (.BoolOp .Or (y :: rest) pos) (tE g W b me)) : PE X (.BoolOp .Or (x :: y :: rest) pos) (tE g W b fun Y e k => ma Y e fun d e1 => blK d fun t => if t = true then k (.val (.bl true)) e1 else me Y e1 k) := by
  refine ⟨fun pins s σ H Q I q => ?_⟩
  obtain ⟨e, fp, Y, K, hs, hw, hx, hk⟩ := q
  refine BoolOp_or (runK ha I hs hw hx fun v u s1 H1 fp1 d e1 I1 rv p1 st1 hx1 rd kk => ?_)
  unfold blK at kk
  split at kk
  · rw [rd.bl_inv] at rv
    cases rv
    rename_i t
    refine wpAny_truthy_bool ?_
    cases t with
    | true => exact finT st1 p1 hk (finB I1 kk)
    | false => exact hb.run pins s1 σ H1 Q I1 ⟨e1, fp1, Y, K, st1, kk, hx1, hkRest hk p1⟩
  · exact kk.elim
theorem je_not (ha : PE X x (tK g W b ma)) : PE X (.UnaryOp .Not x pos) (tE g W b fun Y e k => ma Y e fun d e1 => blK d fun t => k (.val (.bl (!t))) e1) := by
  refine ⟨fun pins s σ H Q I q => ?_⟩
  obtain ⟨e, fp, Y, K, hs, hw, hx, hk⟩ := q
  refine UnaryOp_ (runK ha I hs hw hx fun v u s1 H1 fp1 d e1 I1 rv p1 st1 hx1 rd kk => ?_)
  unfold blK at kk
  split at kk
  · rw [rd.bl_inv] at rv
    cases rv
    exact not_of (wpAny_truthy_bool (finT st1 p1 hk (finB I1 kk)))
  · exact kk.elim
abbrev WpTt := Xt → Env → (Bool → Env → Prop) → Prop
variable {mt mt' : WpTt}
theorem runT (h : PT X x (tTs g W b mt)) {K : Bool → Env → Prop} {Q : Bool → Shared → Prop} (I : Inv X pins σ H s) (st : Stt g H σ e fp) (hw : mt Y e K) (hx : XOk g W σ H fp Y)
    (k : ∀ t s1 H1 fp1 e1, Inv X pins σ H1 s1 → Post b H fp H1 fp1 → Stt g H1 σ e1 fp1 → XOk g W σ H1 fp1 Y → K t e1 → Q t s1) : wpAny (model X.prog X.w) X.A (isTrue x X.env (eval x X.env)) Q X.xe s :=
  thn (h.run pins s σ H (fun t H1 => ∃ e1 fp1, Post b H fp H1 fp1 ∧ Stt g H1 σ e1 fp1 ∧ K t e1) I ⟨e, fp, Y, K, st, hw, hx, fun t H1 fp1 e1 p q kk => ⟨e1, fp1, p, q, kk⟩⟩)
    fun t s1 ⟨H1, I1, e1, fp1, p, q, kk⟩ => k t s1 H1 fp1 e1 I1 p q (hx.post p) kk
theorem je_ite (ht : PT X c (tTs g W b mt)) (ha : PE X x (tE g W b me)) (hb : PE X y (tE g W b me')) : PE X (.IfExp c x y pos) (tE g W b fun Y e k => mt Y e fun t e1 => if t = true then me Y e1 k else me' Y e1 k) := by
  refine ⟨fun pins s σ H Q I q => ?_⟩
  obtain ⟨e, fp, Y, K, hs, hw, hx, hk⟩ := q
  refine wpAny_IfExp (runT ht I hs hw hx fun t s1 H1 fp1 e1 I1 p1 st1 hx1 kk => ?_)
  cases t with
  | true => exact ha.run pins s1 σ H1 Q I1 ⟨e1, fp1, Y, K, st1, kk, hx1, hkRest hk p1⟩
  | false => exact hb.run pins s1 σ H1 Q I1 ⟨e1, fp1, Y, K, st1, kk, hx1, hkRest hk p1⟩
/-! ### tests -/
abbrev HkT (g : Gm) (b : Bool) (σ : L2.St) (H : Hp) (fp : List Addr) (K : Bool → Env → Prop) (Q : Bool → Hp → Prop) : Prop := ∀ t H1 fp1 e1, Post b H fp H1 fp1 → Stt g H1 σ e1 fp1 → K t e1 → Q t H1
theorem hkTRest {K : Bool → Env → Prop} {Q : Bool → Hp → Prop} (hk : HkT g b σ H fp K Q) {H1 : Hp} {fp1 : List Addr} (p1 : Post b H fp H1 fp1) : HkT g b σ H1 fp1 K Q := fun t H2 fp2 e2 p2 st2 k2 => hk _ _ _ _ (p1.trans' p2) st2 k2
theorem jw_one_and (h : PT X x (tTs g W b mt)) : PW X (.BoolOp .And [x] pos) (tTs g W b mt) := pw_and1 h
theorem jw_one_or (h : PT X x (tTs g W b mt)) : PW X (.BoolOp .Or [x] pos) (tTs g W b mt) := pw_or1 h
theorem jw_and (ha : PT X x (tTs g W b mt)) (hb : PW X (.BoolOp .And (y :: rest) pos) (tTs g W b mt')) : PW X (.BoolOp .And (x :: y :: rest) pos) (tTs g W b fun Y e k => mt Y e fun t e1 => if t = true then mt' Y e1 k else k false e1) := by
  refine ⟨fun wh pins s σ H Q I q => ?_⟩
  obtain ⟨e, fp, Y, K, hs, hw, hx, hk⟩ := q
  refine isTrue_and (runT ha I hs hw hx fun t s1 H1 fp1 e1 I1 p1 st1 hx1 kk => ?_)
  cases t with
  | true => exact hb.run wh pins s1 σ H1 Q I1 ⟨e1, fp1, Y, K, st1, kk, hx1, hkTRest hk p1⟩
  | false => exact ⟨H1, I1, hk _ _ _ _ p1 st1 kk⟩
theorem jw_or (ha : PT X x (tTs g W b mt)) (hb : PW X (.BoolOp .Or (y :: rest) pos) (tTs g W b mt')) : PW X (.BoolOp .Or (x :: y :: rest) pos) (tTs g W b fun Y e k => mt Y e fun t e1 => if t = true then k true e1 else mt' Y e1 k) := by
  refine ⟨fun wh pins s σ H Q I q => ?_⟩
  obtain ⟨e, fp, Y, K, hs, hw, hx, hk⟩ := q
  refine isTrue_or (runT ha I hs hw hx fun t s1 H1 fp1 e1 I1 p1 st1 hx1 kk => ?_)
  cases t with
  | false => exact hb.run wh pins s1 σ H1 Q I1 ⟨e1, fp1, Y, K, st1, kk, hx1, hkTRest hk p1⟩
  | true => exact ⟨H1, I1, hk _ _ _ _ p1 st1 kk⟩
theorem jt_not (ha : PT X x (tTs g W b mt)) : PT X (.UnaryOp .Not x pos) (tTs g W b fun Y e k => mt Y e fun t e1 => k (!t) e1) := by
  refine ⟨fun pins s σ H Q I q => ?_⟩
  obtain ⟨e, fp, Y, K, hs, hw, hx, hk⟩ := q
  exact isTrue_not (runT ha I hs hw hx fun t s1 H1 fp1 e1 I1 p1 st1 hx1 kk => ⟨H1, I1, hk _ _ _ _ p1 st1 kk⟩)
theorem tru_of {d : D} {v : V} {k : Bool → Prop} (h : RepB g H v d) (t : truthK d k) : ∃ c, TruV g.K v H c ∧ k c := by
  have hb : big = sizeLine := rfl
  unfold truthK at t
  split at t
  · rw [h.non_inv]; exact ⟨_, rfl, t⟩
  · rw [h.bl_inv]; exact ⟨_, rfl, t⟩
  · rw [h.int_inv]; exact ⟨_, rfl, t⟩
  · rename_i z
    obtain ⟨e, ok⟩ := h.str_inv
    subst e
    refine ⟨_, ⟨by rw [sOf_len]; exact ok.1, rfl⟩, ?_⟩
    rw [sOf_len]
    cases z with
    | nil => exact t
    | cons a z =>
      have : (((a :: z).length : Int) != 0) = true := by simp [bne_iff_ne]; omega
      rw [this]; exact t
  · obtain ⟨a, vs, rfl, hq, r⟩ := h.tup_inv
    refine ⟨_, .inr (.inl ⟨vs, SqT.of hq, rfl⟩), ?_⟩
    cases r with
    | nil => exact t
    | cons _ _ => exact t
  · obtain ⟨a, vs, rfl, hq, r⟩ := h.lst_inv
    refine ⟨_, .inl ⟨vs, hq, rfl⟩, ?_⟩
    cases r with
    | nil => exact t
    | cons _ _ => exact t
  · exact t.elim
theorem jt_val (eK : X.K = g.K) (ha : PE X x (tB g W b ma)) (he : ∀ whole, isTrue x X.env whole = (do let v ← whole; standAt x.pos; holding [v] (truthy v))) : PT X x (tTs g W b fun Y e k => ma Y e fun d e1 => truthK d fun t => k t e1) := by
  refine ⟨fun pins s σ H Q I q => ?_⟩
  obtain ⟨e, fp, Y, K, hs, hw, hx, hk⟩ := q
  refine isTrue_plain (runB ha I hs hw hx fun v u s1 H1 fp1 d e1 I1 rv p1 st1 hx1 rd kk => ?_) (he _)
  obtain ⟨c, h1, h2⟩ := tru_of rd kk
  rw [← eK] at h1
  exact thn (tru_ok pins s1 σ H1 v u (fun t H' => t = c ∧ H' = H1) I1 rv ⟨c, h1, rfl, rfl⟩) fun t s2 ⟨H2, I2, e1, e2⟩ => by
    subst e1 e2
    exact ⟨_, I2, hk _ _ _ _ p1 st1 h2⟩
end
end Gr

end
section
set_option Elab.async false
set_option linter.all false
set_option maxRecDepth 8000
open PySem PySem.Spec PyProof
open PySem.AutoSeq1
namespace Gr
theorem extend_any {T : String} (hT : T = "list" ∨ T = "tuple") (l : Addr) (items : Array Value) (n : Nat) (b : Addr) (items2 : Array Value) (n2 : Nat) (d2 : Option Addr) (sl2 : Array (Option Value)) (hs0 : ¬(!items.isEmpty && Builtin.List.listTooLong (items.size + items2.size)) = true) (hs1 : items.size ≤ sizeLine) (hs2 : items.size + items2.size ≤ sizeLine + 1) :
    Meets (Builtin.«list.extend» ⟨[.ref l, .ref b], []⟩) (fun _ R s => s.heap.get? l = some { cls := .type "list", dict := none, data := .seq items n, slots := #[] } ∧ s.heap.get? b = some { cls := .type T, dict := d2, data := .seq items2 n2, slots := sl2 } ∧ R (.ok (.ret Value.none)) { s with heap := s.heap.update l (Obj.mapSeq fun x => x ++ items2), toks := s.toks }) :=
  .of_wp fun prog w A R s h => by
    obtain ⟨hp, g, d, tk, os⟩ := s; obtain ⟨hl, hb, h⟩ := h; have f1 := idx_int; have f2 := sub_tuple_tuple; have f3 := sub_list_list; have f4 := sub_tuple_list; have f5 := sub_list_tuple;
    have hz' : (items ++ items2).size ≤ sizeLine + 1 := by rw [Array.size_append]; exact hs2
    rcases hT with rfl | rfl
    · wp_walk using (wpAny_updateSeq hl rfl (hz := hs1) (_hz' := hz')), wpAny_loadPart' hl, wpAny_loadPart' hb; exact ⟨_, rfl, h⟩
    · wp_walk using (wpAny_updateSeq hl rfl (hz := hs1) (_hz' := hz')), wpAny_loadPart' hl, wpAny_loadPart' hb; exact ⟨_, rfl, h⟩
end Gr

end
section
set_option Elab.async false
set_option linter.all false
set_option maxRecDepth 100000
set_option maxHeartbeats 4000000
namespace Gr
open PySem PySem.Spec L2
open PyProof.Rows hiding St

/-! ### fields -/
inductive RepFd (g : Gm) (H : Hp) : V → Bool → D → List Addr → Prop
  | val {v d} : RepD g H v d → RepFd g H v false d []
  | own {a d} : RepO g H a d → RepFd g H (.ref a) true d [a]
theorem ofStr_ne {f h : String} (e : f ≠ h) : Str.ofString f ≠ Str.ofString h := fun z => e (ofString_inj z)
theorem RepF.split {g : Gm} {H : Hp} {f : String} {o : Bool} {d : D} : ∀ {fv : List (Str × V)} {fs : Fs} {as : List Addr} {k : Fs → Prop}, RepF g H fv fs as → fputK fs f o d k →
    ∃ pre old post fs', as = pre ++ (old ++ post) ∧ k fs' ∧ (fv.lookup (Str.ofString f) = Option.none ∧ old = [] ∨ ∃ v o0 d0, fv.lookup (Str.ofString f) = some v ∧ RepFd g H v o0 d0 old ∧ ∀ P : Bool → D → Prop, fgetK fs f P → P o0 d0) ∧
      ∀ (H' : Hp) (p : Pers H H') (kp : ∀ a ∈ pre ++ post, ∀ u, H a = some u → H' a = some u) (v : V) (new : List Addr), RepFd g H' v o d new → RepF g H' (putF (Str.ofString f) v fv) fs' (pre ++ (new ++ post))
  | _, _, _, k, .nil, h => by
    refine ⟨[], [], [], [(f, o, d)], rfl, h, .inl ⟨rfl, rfl⟩, fun H' p kp v new r => ?_⟩
    cases r with
    | val r => exact .val r .nil
    | own r => exact .own r .nil
  | _, _, _, k, .val (f := f0) (v := v0) (d := d0) (fv := fv) (fs := fs) (as := as) r0 r, h => by
    unfold fputK at h
    by_cases e : f0 = f
    · subst e
      rw [if_pos rfl] at h
      refine ⟨[], [], as, _, rfl, h, .inr ⟨v0, false, d0, by simp, .val r0, fun P hP => by unfold fgetK at hP; rw [if_pos rfl] at hP; exact hP⟩, fun H' p kp v new rn => ?_⟩
      rw [show putF (Str.ofString f0) v ((Str.ofString f0, v0) :: fv) = (Str.ofString f0, v) :: fv by simp [putF]]
      cases rn with
      | val rn => exact .val rn (r.keep p fun a ha => kp a (by simpa using ha))
      | own rn => exact .own rn (r.keep p fun a ha => kp a (by simpa using ha))
    · rw [if_neg e] at h
      obtain ⟨pre, old, post, fs', h1, h2, h3, h4⟩ := RepF.split r h
      have ne := ofStr_ne e
      refine ⟨pre, old, post, _, h1, h2, ?_, fun H' p kp v new rn => ?_⟩
      · rw [List.lookup_cons, show (Str.ofString f == Str.ofString f0) = false from beq_eq_false_iff_ne.mpr (Ne.symm ne)]
        rcases h3 with h3 | ⟨w, o0, d0, h3, h5, h6⟩
        · exact .inl h3
        · exact .inr ⟨w, o0, d0, h3, h5, fun P hP => h6 P (by unfold fgetK at hP; rw [if_neg e] at hP; exact hP)⟩
      · rw [show putF (Str.ofString f) v ((Str.ofString f0, v0) :: fv) = (Str.ofString f0, v0) :: putF (Str.ofString f) v fv by simp [putF, ne]]
        exact .val (r0.mono p) (h4 H' p kp v new rn)
  | _, _, _, k, .own (f := f0) (a := a0) (d := d0) (fv := fv) (fs := fs) (as := as) r0 r, h => by
    unfold fputK at h
    by_cases e : f0 = f
    · subst e
      rw [if_pos rfl] at h
      refine ⟨[], [a0], as, _, rfl, h, .inr ⟨.ref a0, true, d0, by simp, .own r0, fun P hP => by unfold fgetK at hP; rw [if_pos rfl] at hP; exact hP⟩, fun H' p kp v new rn => ?_⟩
      rw [show putF (Str.ofString f0) v ((Str.ofString f0, V.ref a0) :: fv) = (Str.ofString f0, v) :: fv by simp [putF]]
      cases rn with
      | val rn => exact .val rn (r.keep p fun a ha => kp a (by simpa using ha))
      | own rn => exact .own rn (r.keep p fun a ha => kp a (by simpa using ha))
    · rw [if_neg e] at h
      obtain ⟨pre, old, post, fs', h1, h2, h3, h4⟩ := RepF.split r h
      have ne := ofStr_ne e
      refine ⟨a0 :: pre, old, post, _, by rw [h1]; rfl, h2, ?_, fun H' p kp v new rn => ?_⟩
      · rw [List.lookup_cons, show (Str.ofString f == Str.ofString f0) = false from beq_eq_false_iff_ne.mpr (Ne.symm ne)]
        rcases h3 with h3 | ⟨w, o0, d0, h3, h5, h6⟩
        · exact .inl h3
        · exact .inr ⟨w, o0, d0, h3, h5, fun P hP => h6 P (by unfold fgetK at hP; rw [if_neg e] at hP; exact hP)⟩
      · rw [show putF (Str.ofString f) v ((Str.ofString f0, V.ref a0) :: fv) = (Str.ofString f0, V.ref a0) :: putF (Str.ofString f) v fv by simp [putF, ne]]
        exact .own (r0.keep p (kp a0 (by simp))) (h4 H' p (fun a ha => kp a (by simp at ha ⊢; exact .inr ha)) v new rn)
theorem RepF.get {g : Gm} {H : Hp} {f : String} : ∀ {fv : List (Str × V)} {fs : Fs} {as : List Addr} {k : Bool → D → Prop}, RepF g H fv fs as → fgetK fs f k → ∃ v o d bs, fv.lookup (Str.ofString f) = some v ∧ k o d ∧ RepFd g H v o d bs ∧ (fgetK fs f fun o' d' => o' = o ∧ d' = d) ∧ ∀ a ∈ bs, a ∈ as
  | _, _, _, _, .nil, h => h.elim
  | _, _, _, k, .val (f := f0) (v := v0) (d := d0) (fv := fv) (fs := fs) (as := as) r0 r, h => by
    unfold fgetK at h
    by_cases e : f0 = f
    · subst e
      rw [if_pos rfl] at h
      exact ⟨v0, false, d0, [], by simp, h, .val r0, by unfold fgetK; rw [if_pos rfl]; exact ⟨rfl, rfl⟩, fun a ha => nomatch ha⟩
    · rw [if_neg e] at h
      obtain ⟨v, o, d, bs, h1, h2, h3, h4, h5⟩ := RepF.get r h
      exact ⟨v, o, d, bs, by rw [List.lookup_cons, show (Str.ofString f == Str.ofString f0) = false from beq_eq_false_iff_ne.mpr (Ne.symm (ofStr_ne e))]; exact h1, h2, h3, by unfold fgetK; rw [if_neg e]; exact h4, h5⟩
  | _, _, _, k, .own (f := f0) (a := a0) (d := d0) (fv := fv) (fs := fs) (as := as) r0 r, h => by
    unfold fgetK at h
    by_cases e : f0 = f
    · subst e
      rw [if_pos rfl] at h
      exact ⟨.ref a0, true, d0, [a0], by simp, h, .own r0, by unfold fgetK; rw [if_pos rfl]; exact ⟨rfl, rfl⟩, fun a ha => by simp at ha; subst ha; simp⟩
    · rw [if_neg e] at h
      obtain ⟨v, o, d, bs, h1, h2, h3, h4, h5⟩ := RepF.get r h
      exact ⟨v, o, d, bs, by rw [List.lookup_cons, show (Str.ofString f == Str.ofString f0) = false from beq_eq_false_iff_ne.mpr (Ne.symm (ofStr_ne e))]; exact h1, h2, h3, by unfold fgetK; rw [if_neg e]; exact h4, fun a ha => List.mem_cons_of_mem _ (h5 a ha)⟩
theorem RepFd.b {g : Gm} {H : Hp} {v : V} {o : Bool} {d : D} {as : List Addr} (h : RepFd g H v o d as) : RepB g H v d := by
  cases h with
  | val h => exact .d h
  | own h => exact h.b
theorem putF_same {f : Str} {v : V} : ∀ {fv : List (Str × V)}, fv.lookup f = some v → putF f v fv = fv
  | [], h => by simp at h
  | (h0, w) :: r, h => by
    rw [List.lookup_cons] at h
    by_cases e : h0 = f
    · subst e
      simp at h
      simp [putF, h]
    · rw [show (f == h0) = false from beq_eq_false_iff_ne.mpr (Ne.symm e)] at h
      simp [putF, e, putF_same h]
/-- no field of that name -/
theorem RepF.noF {g : Gm} {H : Hp} {m : String} : ∀ {fv : List (Str × V)} {fs : Fs} {as : List Addr}, RepF g H fv fs as → Gr.noF fs m = true → fv.lookup (Str.ofString m) = none
  | _, _, _, .nil, _ => rfl
  | _, _, _, .val (f := f0) r0 r, h => by
    simp only [Gr.noF, Bool.and_eq_true, Bool.not_eq_true', beq_eq_false_iff_ne] at h
    rw [List.lookup_cons, show (Str.ofString m == Str.ofString f0) = false from beq_eq_false_iff_ne.mpr (Ne.symm (ofStr_ne h.1))]
    exact RepF.noF r h.2
  | _, _, _, .own (f := f0) r0 r, h => by
    simp only [Gr.noF, Bool.and_eq_true, Bool.not_eq_true', beq_eq_false_iff_ne] at h
    rw [List.lookup_cons, show (Str.ofString m == Str.ofString f0) = false from beq_eq_false_iff_ne.mpr (Ne.symm (ofStr_ne h.1))]
    exact RepF.noF r h.2

/-- what is fast of the link: classes and their fields -/
structure Lnk (g : Gm) (wd : Wd) (fds : List String) (bl : List String) : Prop where
  cls : ∀ c C, g.ca c = some C → Cls g.K C ∧ ∀ f ∈ fds, NoAttr g.K C (Str.ofString f)
  noX : ∀ a c v, ¬ g.xa a c v
  bl : ∀ x ∈ bl, wd.mg (Str.ofString x) = none

section
variable {X : L2.Cx} {g : Gm} {wd : Wd} {N : List String} {sc : Scope} {lv : Nat} {fds bl : List String} {W : WX} {b : Bool} {pins : List (Addr × Obj)} {σ : L2.St} {H H0 H2 : Hp} {s s2 : Shared} {e e2 : Env} {fp fp2 : List Addr} {Y : Xt}
variable {x y z c : Expr} {ma mb mc : WpK} {me me' : WpE} {pos apos : Pos}

/-- a change at an own thing -/
theorem Post.upd_own {fp fp' : List Addr} {a : Addr} {o u : HO} (ha : a ∈ fp) (hu : H a = some u) (ni : b = true → ∀ C dx fs, u ≠ .ins C dx fs) (sub : ∀ c ∈ fp', c ∈ fp ∨ H c = none) : Post b H fp (upd H a o) fp' :=
  ⟨fun c w q n => by rw [upd_ne (by intro z; subst z; exact n ha)]; exact q, fun c q => by
    by_cases e : c = a
    · subst e; rw [upd_same]; exact Option.some_ne_none _
    · rw [upd_ne e]; exact q, sub, fun z c C dx fs q => by
    rw [upd_ne (by intro w; subst w; rw [hu] at q; cases q; exact ni z _ _ _ rfl)]; exact q⟩
theorem mid_ne {pre as post : List Addr} {a : Addr} (nd : (pre ++ (as ++ post)).Nodup) (ha : a ∈ as) : a ∉ pre ++ post := fun h => by
  rw [List.nodup_append] at nd
  obtain ⟨n1, n2, n3⟩ := nd
  rw [List.nodup_append] at n2
  rcases List.mem_append.mp h with h | h
  · exact n3 a h a (by simp [ha]) rfl
  · exact n2.2.2 a ha a h rfl
theorem nodup_of_mid {pre as post : List Addr} (nd : (pre ++ (as ++ post)).Nodup) : as.Nodup := by
  rw [List.nodup_append] at nd
  have := nd.2.1
  rw [List.nodup_append] at this
  exact this.1
/-- a slot's object, split at a field -/
theorem Stt.atF (st : Stt g H σ e fp) {i : Nat} {f : String} {o : Bool} {d : D} {k : Fs → Prop} {c : String} {fs : Fs} (h1 : e[i]? = some (.obj c fs)) (h : fputK fs f o d k) :
    ∃ a C dx fv pre p0 old p1 post fs', σ[i]? = some (some (.ref a)) ∧ H a = some (.ins C dx fv) ∧ g.ca c = some C ∧ RepF g H fv fs (p0 ++ (old ++ p1)) ∧ fp = pre ++ ((a :: (p0 ++ (old ++ p1))) ++ post) ∧ k fs' ∧
    (fv.lookup (Str.ofString f) = Option.none ∧ old = [] ∨ ∃ v o0 d0, fv.lookup (Str.ofString f) = some v ∧ RepFd g H v o0 d0 old ∧ ∀ P : Bool → D → Prop, fgetK fs f P → P o0 d0) ∧
    ∀ (H' : Hp) (p : Pers H H') (v : V) (new : List Addr) (kp : ∀ b ∈ fp, b ≠ a → b ∉ old → ∀ u, H b = some u → H' b = some u), H' a = some (.ins C dx (putF (Str.ofString f) v fv)) → RepFd g H' v o d new → (∀ b ∈ new, b ∈ old ∨ b ∉ fp) → new.Nodup →
      Stt g H' σ (e.set i (.obj c fs')) (pre ++ ((a :: (p0 ++ (new ++ p1))) ++ post)) := by
  obtain ⟨y, as, pre, post, s1, s2, s3, s4⟩ := st.rep.split h1
  cases s2 with
  | @obj a C dx fv c fs as ha hc r =>
    obtain ⟨p0, old, p1, fs', r1, r2, r3, r4⟩ := RepF.split r h
    subst r1
    refine ⟨a, C, dx, fv, pre, p0, old, p1, post, fs', s1, ha, hc, r, s3, r2, r3, fun H' p v new kp hn rn hin hnd => ?_⟩
    have nd := st.nd
    rw [s3] at nd
    have nda := nodup_of_mid nd
    rw [List.nodup_cons] at nda
    have sub : ∀ b, b ∈ p0 ++ p1 → b ∈ p0 ++ (old ++ p1) := fun b hb => by simp at hb ⊢; rcases hb with h | h <;> simp [h]
    refine ⟨?_, ?_⟩
    · have z := s4 H' p (fun b hb u q => kp b (by rw [s3]; simp at hb ⊢; rcases hb with h | h <;> simp [h]) (fun z => by subst z; exact mid_ne nd (by simp) hb) (fun z => mid_ne nd (show b ∈ a :: (p0 ++ (old ++ p1)) by simp [z]) hb) u q)
        (some (.ref a)) (.obj c fs') (a :: (p0 ++ (new ++ p1))) (.obj hn hc (r4 H' p (fun b hb u q => kp b (by rw [s3]; have := sub b hb; simp at this ⊢; rcases this with h | h | h <;> simp [h]) (fun z => nda.1 (by subst z; exact sub b hb)) (fun z => mid_ne nda.2 z hb) u q) v new rn))
      rw [set_same s1] at z
      exact z
    · refine nodup_mid nd ?_ ?_
      · rw [List.nodup_cons]
        refine ⟨fun hm => ?_, nodup_mid nda.2 hnd fun b hb => ?_⟩
        · simp at hm
          rcases hm with hm | hm | hm
          · exact nda.1 (by simp [hm])
          · rcases hin a hm with h | h
            · exact nda.1 (by simp [h])
            · exact h (by rw [s3]; simp)
          · exact nda.1 (by simp [hm])
        · rcases hin b hb with h | h
          · exact .inl h
          · exact .inr fun hm => h (by rw [s3]; have := sub b hm; simp at this ⊢; rcases this with h | h | h <;> simp [h])
      · intro b hb
        simp at hb
        rcases hb with rfl | hb | hb | hb
        · exact .inl (by simp)
        · exact .inl (by simp [hb])
        · rcases hin b hb with h | h
          · exact .inl (by simp [h])
          · exact .inr fun hm => h (by rw [s3]; simp at hm ⊢; rcases hm with h | h <;> simp [h])
        · exact .inl (by simp [hb])

/-! ### places -/
def rdW (p : Pl) : WpK := fun _ e k => rdK p e fun d => k d e
theorem jb_v (ct : Ct g wd N sc lv X) {i : Nat} {nm : Str} (h : nameB N sc i nm = true) : PE X (.Name nm pos) (tB g W b (rdW (.v i))) := by
  refine ⟨fun pins s σ H Q I q => ?_⟩
  obtain ⟨e, fp, Y, K, hs, hw, hx, hk⟩ := q
  obtain ⟨sl, e1, hw⟩ := lookK_iff.mp hw
  obtain ⟨y, as, pre, post, s1, s2, s3, s4⟩ := hs.rep.split e1
  cases s2 with
  | no => exact hw.elim
  | val d => exact (pe_nm ct h).run pins s σ H Q I ⟨_, s1, hk _ _ _ _ _ .refl hs (.d d) hw⟩
  | obj _ _ _ => exact hw.elim
  | own o => exact (pe_nm ct h).run pins s σ H Q I ⟨_, s1, hk _ _ _ _ _ .refl hs o.b hw⟩
theorem jb_f (ct : Ct g wd N sc lv X) (lk : Lnk g wd fds bl) {i : Nat} {nm : Str} {f : String} (h : nameB N sc i nm = true) (hf : f ∈ fds) : PE X (.Attribute (.Name nm pos) (Str.ofString f) apos) (tB g W b (rdW (.f i f))) := by
  refine ⟨fun pins s σ H Q I q => ?_⟩
  obtain ⟨e, fp, Y, K, hs, hw, hx, hk⟩ := q
  obtain ⟨sl, e1, hw⟩ := lookK_iff.mp hw
  obtain ⟨y, as, pre, post, s1, s2, s3, s4⟩ := hs.rep.split e1
  cases s2 with
  | no => exact hw.elim
  | val d => exact hw.elim
  | own o => exact hw.elim
  | @obj a C dx fv c fs as ha hc r =>
    obtain ⟨v, o, d, bs, h1, h2, h3, _⟩ := r.get hw
    have cl := lk.cls c C hc
    rw [← ct.K] at cl
    exact (pe_fld (pe_nm ct h) rfl).run pins s σ H Q I ⟨_, s1, a, C, dx, fv, v, rfl, ha, cl.1, cl.2 f hf, h1, hk _ _ _ _ _ .refl hs h3.b h2⟩
/-- a field as a value: what is own is frozen -/
theorem je_attr (ct : Ct g wd N sc lv X) (lk : Lnk g wd fds bl) {i : Nat} {nm : Str} {f : String} (h : nameB N sc i nm = true) (hf : f ∈ fds) :
    PE X (.Attribute (.Name nm pos) (Str.ofString f) apos) (tE g W b fun _ e k => lookK e i fun s => attrK s i f e k) := by
  refine ⟨fun pins s σ H Q I q => ?_⟩
  obtain ⟨e, fp, Y, K, hs, hw, hx, hk⟩ := q
  obtain ⟨sl, e1, hw⟩ := lookK_iff.mp hw
  have s2' := hs.rep.split e1
  obtain ⟨y, as, pre, post, s1, s2, s3, s4⟩ := s2'
  cases s2 with
  | no => exact hw.elim
  | @val v d rd =>
    cases rd <;> first | (exact hw.elim) | skip
    rename_i hx'
    exact (lk.noX _ _ _ hx').elim
  | own o => exact hw.elim
  | @obj a C dx fv c fs as ha hc r =>
    have cl := lk.cls c C hc
    rw [← ct.K] at cl
    simp only [attrK] at hw
    obtain ⟨v, o, d, bs, h1, h2, h3, hu, _⟩ := r.get hw
    cases o with
    | false =>
      cases h3 with
      | val rd => exact (pe_fld (pe_nm ct h) rfl).run pins s σ H Q I ⟨_, s1, a, C, dx, fv, v, rfl, ha, cl.1, cl.2 f hf, h1, hk _ _ _ _ _ .refl hs (.val rd) h2⟩
    | true =>
      rw [if_pos rfl] at h2
      obtain ⟨a1, C1, dx1, fv1, pre1, p0, old, p1, post1, fs', t1, t2, t3, t4, t5, t6, t7, t8⟩ := hs.atF e1 h2
      rw [s1] at t1; cases t1
      rw [ha] at t2; cases t2
      obtain ⟨_, t6⟩ := setK_iff.mp t6
      rcases t7 with ⟨t7, _⟩ | ⟨w, o0, d0, t7, t9, t10⟩
      · rw [h1] at t7; cases t7
      · rw [h1] at t7; cases t7
        obtain ⟨rfl, rfl⟩ := t10 _ hu
        cases t9 with
        | @own a0 d0 ro =>
          obtain ⟨od, u, eu, mu, J, rd⟩ := lockO I ro
          have ha0 : a0 ∈ fp := by rw [t5]; simp
          have ne : a ≠ a0 := fun z => by
            subst z
            rw [ha] at eu; cases eu
            exact ro.noIns ha _ _ _ rfl
          have st2 := t8 (L2.upd H a0 (.frz od u)) (pers_upd (.inr ⟨u, eu, mu⟩)) (.ref a0) [] (fun b hb hn ho w q => by rw [upd_ne (by simpa using ho)]; exact q) (by rw [upd_ne ne, putF_same h1]; exact ha) (.val rd) (by simp) .nil
          refine (pe_fld (pe_nm ct h) rfl).run pins s σ _ Q J ⟨_, s1, a, C, dx, fv, .ref a0, rfl, by rw [upd_ne ne]; exact ha, cl.1, cl.2 f hf, h1, hk _ _ _ _ _ (Post.upd_own ha0 eu (fun _ => ro.noIns eu) fun c hc => .inl ?_) st2 (.val rd) t6⟩
          rw [t5]
          simp at hc ⊢
          rcases hc with h | h | h | h | h <;> simp [h]
end
end Gr

end
section
set_option Elab.async false
set_option linter.all false
set_option maxRecDepth 100000
set_option maxHeartbeats 4000000
namespace Gr
open PySem PySem.Spec L2
open PyProof.Rows hiding St
section
variable {X : L2.Cx} {g : Gm} {wd : Wd} {N : List String} {sc : Scope} {lv : Nat} {fds bl : List String} {W : WX} {b : Bool} {pins : List (Addr × Obj)} {σ : L2.St} {H H0 H1 H2 : Hp} {s s2 : Shared} {e e1 e2 : Env} {fp fp1 fp2 : List Addr} {Y : Xt}
variable {x y z c : Expr} {ma mb mc : WpK} {me me' : WpE} {pos apos : Pos}

/-! ### places -/
def PlcV (g : Gm) (σ : L2.St) (H : Hp) : Pl → V → Prop
  | .v i, v => σ[i]? = some (some v)
  | .f i f, v => ∃ a C dx fv, σ[i]? = some (some (.ref a)) ∧ H a = some (.ins C dx fv) ∧ fv.lookup (Str.ofString f) = some v
def Pl.isV : Pl → Bool
  | .v _ => true
  | .f _ _ => false
def plcB (N : List String) (sc : Scope) (fds : List String) : Pl → Expr → Bool
  | .v i, x => match x with
    | .Name nm _ => nameB N sc i nm
    | _ => false
  | .f i f, x => match x with
    | .Attribute (.Name nm _) f' _ => nameB N sc i nm && f' == Str.ofString f && fds.contains f
    | _ => false
theorem PlcV.later {p : Pl} {v : V} (h : PlcV g σ H p v) (q : p.isV = true ∨ Post true H fp H1 fp1) : PlcV g σ H1 p v := by
  cases p with
  | v i => exact h
  | f i f =>
    obtain ⟨a, C, dx, fv, h1, h2, h3⟩ := h
    rcases q with q | q
    · cases q
    · exact ⟨a, C, dx, fv, h1, q.ins rfl _ _ _ _ h2, h3⟩
theorem PlcV.look {p : Pl} {v : V} {k : D → Prop} (h : PlcV g σ H p v) (st : Stt g H σ e fp) (r : rdK p e k) : ∃ d, RepB g H v d ∧ k d := by
  cases p with
  | v i =>
    obtain ⟨sl, h1, h2⟩ := lookK_iff.mp r
    obtain ⟨y, as, pre, post, s1, s2, s3, s4⟩ := st.rep.split h1
    have e := s1.symm.trans h
    cases e
    cases s2 with
    | no => exact h2.elim
    | val d => exact ⟨_, .d d, h2⟩
    | own o => exact ⟨_, o.b, h2⟩
    | obj _ _ _ => exact h2.elim
  | f i f =>
    obtain ⟨a, C, dx, fv, q1, q2, q3⟩ := h
    obtain ⟨sl, h1, h2⟩ := lookK_iff.mp r
    obtain ⟨y, as, pre, post, s1, s2, s3, s4⟩ := st.rep.split h1
    rw [q1] at s1; cases s1
    cases s2 with
    | no => exact h2.elim
    | val d => exact h2.elim
    | own o => exact h2.elim
    | obj ha hc r =>
      rw [q2] at ha; cases ha
      obtain ⟨v', o, d, bs, t1, t2, t3, _⟩ := r.get h2
      rw [q3] at t1; cases t1
      exact ⟨d, t3.b, t2⟩
theorem PlcV.of {p : Pl} {k : D → Prop} (st : Stt g H σ e fp) (r : rdK p e k) : ∃ v, PlcV g σ H p v := by
  cases p with
  | v i =>
    obtain ⟨sl, h1, h2⟩ := lookK_iff.mp r
    obtain ⟨y, as, pre, post, s1, s2, s3, s4⟩ := st.rep.split h1
    cases s2 with
    | no => exact h2.elim
    | val d => exact ⟨_, s1⟩
    | own o => exact ⟨_, s1⟩
    | obj _ _ _ => exact h2.elim
  | f i f =>
    obtain ⟨sl, h1, h2⟩ := lookK_iff.mp r
    obtain ⟨y, as, pre, post, s1, s2, s3, s4⟩ := st.rep.split h1
    cases s2 with
    | no => exact h2.elim
    | val d => exact h2.elim
    | own o => exact h2.elim
    | obj ha hc r =>
      obtain ⟨v', o, d, bs, t1, t2, t3, _⟩ := r.get h2
      exact ⟨v', _, _, _, _, s1, ha, t1⟩
theorem run_plc (ct : Ct g wd N sc lv X) (lk : Lnk g wd fds bl) {p : Pl} (hp : plcB N sc fds p x = true) {v : V} (st : Stt g H σ e fp) {k : D → Prop} (hr : rdK p e k) (h : PlcV g σ H p v) (I : Inv X pins σ H s) {Q : Value → Shared → Prop}
    (q : ∀ u s1, Inv X pins σ H s1 → RelV v u → Q u s1) : wpAny (model X.prog X.w) X.A (eval x X.env) Q X.xe s := by
  cases p with
  | v i =>
    simp only [plcB] at hp
    split at hp
    · exact thn ((pe_nm ct hp).run pins s σ H (fun w H1 => w = v ∧ H1 = H) I ⟨v, h, rfl, rfl⟩) fun u s1 ⟨w, H1, I1, rv, e1, e2⟩ => by subst e1 e2; exact q u s1 I1 rv
    · cases hp
  | f i f =>
    simp only [plcB] at hp
    split at hp
    · simp only [Bool.and_eq_true, beq_iff_eq, List.contains_iff_mem] at hp
      obtain ⟨⟨h1, rfl⟩, h3⟩ := hp
      obtain ⟨a, C, dx, fv, q1, q2, q3⟩ := h
      obtain ⟨sl, t1, t2⟩ := lookK_iff.mp hr
      obtain ⟨y, as, pre, post, s1, s2, s3, s4⟩ := st.rep.split t1
      rw [q1] at s1; cases s1
      cases s2 with
      | no => exact t2.elim
      | val d => exact t2.elim
      | own o => exact t2.elim
      | obj ha hc r =>
        rw [q2] at ha; cases ha
        have cl := lk.cls _ _ hc
        rw [← ct.K] at cl
        exact thn ((pe_fld (pe_nm ct h1) rfl).run pins s σ H (fun w H1 => w = v ∧ H1 = H) I ⟨_, q1, a, _, dx, fv, v, rfl, q2, cl.1, cl.2 f h3, q3, rfl, rfl⟩) fun u s1 ⟨w, H1, I1, rv, e1, e2⟩ => by subst e1 e2; exact q u s1 I1 rv
    · cases hp
/-- an own thing at a place, to be changed -/
theorem PlcV.o {p : Pl} {v : V} {k : D → Prop} (h : PlcV g σ H p v) (st : Stt g H σ e fp) (r : rdOK p e k) : ∃ a d, v = .ref a ∧ RepO g H a d ∧ a ∈ fp ∧ k d ∧
    ∀ (o : HO) (d' : D) (K : Env → Prop), (∀ od w, o ≠ .frz od w) → RepO g (upd H a o) a d' → wrOK p e d' K → ∃ e2 fp2, Stt g (upd H a o) σ e2 fp2 ∧ K e2 ∧ ∀ c ∈ fp2, c ∈ fp := by
  cases p with
  | v i =>
    obtain ⟨sl, h1, h2⟩ := lookK_iff.mp r
    obtain ⟨y, as, pre, post, s1, s2, s3, s4⟩ := st.rep.split h1
    have e := s1.symm.trans h
    cases e
    cases s2 with
    | no => exact h2.elim
    | val d => exact h2.elim
    | obj _ _ _ => exact h2.elim
    | @own a d ro =>
      have nd := st.nd
      rw [s3] at nd
      obtain ⟨u, eu, mu⟩ := ro.mut
      refine ⟨a, d, rfl, ro, by rw [s3]; simp, h2, fun o d' K nf ro' hw => ?_⟩
      obtain ⟨_, hw⟩ := setK_iff.mp hw
      have z := s4 (upd H a o) (pers_upd (.inr ⟨u, eu, mu⟩)) (fun b hb w q => by rw [upd_ne (fun z => by subst z; exact mid_ne nd (by simp) hb)]; exact q) (some (.ref a)) (.own d') [a] (.own ro')
      rw [set_same s1] at z
      exact ⟨_, _, ⟨z, nd⟩, hw, fun c hc => by rw [s3]; exact hc⟩
  | f i f =>
    obtain ⟨a0, C, dx, fv, q1, q2, q3⟩ := h
    obtain ⟨sl, h1, h2⟩ := lookK_iff.mp r
    have s' := st.rep.split h1
    obtain ⟨y, as, pre, post, s1, s2, s3, s4⟩ := s'
    rw [q1] at s1; cases s1
    cases s2 with
    | no => exact h2.elim
    | val d => exact h2.elim
    | own o => exact h2.elim
    | @obj _ _ _ _ c fs as ha hc r =>
      rw [q2] at ha; cases ha
      obtain ⟨v', o, d, bs, t1, t2, t3, hu, hb⟩ := r.get h2
      rw [q3] at t1; cases t1
      cases t3 with
      | val _ => exact t2.elim
      | @own a d ro =>
        obtain ⟨u, eu, mu⟩ := ro.mut
        have nd := st.nd
        rw [s3] at nd
        refine ⟨a, d, rfl, ro, by rw [s3]; have := hb a (by simp); simp [this], t2, fun o d' K nf ro' hw => ?_⟩
        obtain ⟨sl2, w1, w2⟩ := lookK_iff.mp hw
        rw [h1] at w1; cases w1
        obtain ⟨a1, C1, dx1, fv1, pre1, p0, old, p1, post1, fs', y1, y2, y3, y4, y5, y6, y7, y8⟩ := st.atF h1 w2
        rw [q1] at y1; cases y1
        rw [q2] at y2; cases y2
        obtain ⟨_, y6⟩ := setK_iff.mp y6
        rcases y7 with ⟨y7, _⟩ | ⟨w, o0, d0, y7, y9, y10⟩
        · rw [q3] at y7; cases y7
        · rw [q3] at y7; cases y7
          obtain ⟨rfl, rfl⟩ := y10 _ hu
          cases y9 with
          | own ro2 =>
            have ne : a0 ≠ a := fun z => by
              subst z
              rw [q2] at eu; cases eu
              exact ro.noIns q2 _ _ _ rfl
            have st2 := y8 (upd H a o) (pers_upd (.inr ⟨u, eu, mu⟩)) (.ref a) [a] (fun b hb hn ho w q => by rw [upd_ne (by simpa using ho)]; exact q) (by rw [upd_ne ne, putF_same q3]; exact q2) (.own ro') (fun b hb => .inl hb) (by simp)
            exact ⟨_, _, st2, y6, fun c hc => by rw [y5]; exact hc⟩
end
end Gr

end
section
set_option Elab.async false
set_option linter.all false
set_option maxRecDepth 100000
set_option maxHeartbeats 4000000
namespace Gr
open PySem PySem.Spec L2
open PyProof.Rows hiding St
theorem peMono {X : L2.Cx} {x : Expr} {t t' : TE} (h : PE X x t) (i : ∀ σ H Q, t' σ H Q → t σ H Q) : PE X x t' := ⟨fun pins s σ H Q I q => h.run pins s σ H Q I (i _ _ _ q)⟩
section
variable {X : L2.Cx} {g : Gm} {wd : Wd} {N : List String} {sc : Scope} {lv : Nat} {fds bl : List String} {W : WX} {b b2 : Bool} {pins : List (Addr × Obj)} {σ : L2.St} {H H0 H1 H2 : Hp} {s s2 : Shared} {e e1 e2 : Env} {fp fp1 fp2 : List Addr} {Y : Xt}
variable {x y z c : Expr} {ma mb mc : WpK} {me me' : WpE} {pos apos : Pos}

theorem laterB {p : Pl} {v : V} (h : PlcV g σ H p v) (q : p.isV = true ∨ b2 = true) (r : Post b2 H fp H1 fp1) : PlcV g σ H1 p v := h.later (fp := fp) (fp1 := fp1) (by
  rcases q with q | q
  · exact .inl q
  · subst q; exact .inr r)
/-! ### subscripts -/
theorem je_idx_p (ct : Ct g wd N sc lv X) (lk : Lnk g wd fds bl) (hu : X.A.units + 66 < cLine) {p : Pl} (hp : plcB N sc fds p x = true) (hb : b = true → b2 = true) (q : p.isV = true ∨ b2 = true) (hs : notSlice y = true) (hy : PE X y (tK g W b2 ma)) :
    PE X (.Subscript x y pos) (tE g W b fun Y e k => rdK p e fun _ => ma Y e fun d e1 => rdK p e1 fun d0 => idxK d0 d fun r => k (.val r) e1) := by
  refine ⟨fun pins s σ H Q I q' => ?_⟩
  obtain ⟨e, fp, Y, K, st, hw, hx, hk⟩ := q'
  obtain ⟨v, hv⟩ := PlcV.of st hw
  obtain ⟨_, _, hw'⟩ := hv.look st hw
  refine Subscript_ (run_plc ct lk hp st hw hv I fun u s1 I1 rv => runK hy I1 st hw' hx fun v' u' s2 H2 fp2 d e1 I2 rv' p2 st2 hx2 rd kk => ?_)
  obtain ⟨d0, rb, kk⟩ := (laterB hv q p2).look st2 kk
  exact thn (idx_ok ct.K hu I2 rv rv' rb rd kk hs) fun w s3 f => finD st2 (p2.weak hb) hk f
theorem je_idx_x (eK : X.K = g.K) (hu : X.A.units + 66 < cLine) (hs : notSlice y = true) (ha : PE X x (tB g W b ma)) (hf : PE X x (tK g W b ma)) (hy : PE X y (tK g W b mb)) :
    PE X (.Subscript x y pos) (tE g W b fun Y e k => ma Y e fun d0 e1 => mb Y e1 fun d e2 => idxK d0 d fun r => k (.val r) e2) := by
  refine ⟨fun pins s σ H Q I q' => ?_⟩
  obtain ⟨e, fp, Y, K, st, hw, hx, hk⟩ := q'
  refine Subscript_ (runK hf I st hw hx fun v u s1 H1 fp1 d0 e1 I1 rv p1 st1 hx1 rd0 kk => runK hy I1 st1 kk hx1 fun v' u' s2 H2 fp2 d e2 I2 rv' p2 st2 hx2 rd kk => ?_)
  exact thn (idx_ok eK hu I2 rv rv' (.d (rd0.mono (st1.pers p2))) rd kk hs) fun w s3 f => finD st2 (p1.trans' p2) hk f

/-! ### slices -/
abbrev WpOp := Xt → Env → (Option D → Env → Prop) → Prop
variable {mo mo' : WpOp} {lo hi : Option Expr}
/-- a bound's reading -/
def tOp' (g : Gm) (W : WX) (b : Bool) (m : WpOp) : TO := fun σ H Q => ∃ e fp X K, Stt g H σ e fp ∧ m X e K ∧ XOk g W σ H fp X ∧
  ∀ o H1 fp1 e1, Post b H fp H1 fp1 → Stt g H1 σ e1 fp1 → K (o.map D.int) e1 → Q o H1
theorem jo_none : PO X none (tOp' g W b fun _ e k => k none e) := by
  refine ⟨fun pins s σ H Q I q => ?_⟩
  obtain ⟨e, fp, Y, K, st, hw, hx, hk⟩ := q
  rw [evalPart_none]
  exact wpAny_pure ⟨none, H, I, .none, hk _ _ _ _ .refl st hw⟩
/-- only ints (and what the meaning asks further) -/
def intW (m : WpK) : WpOp := fun Y e k => m Y e fun d e1 => intD d (k (some d) e1)
theorem jo_some (h : PE X y (tK g W b ma)) : PO X (some y) (tOp' g W b (intW ma)) := by
  refine ⟨fun pins s σ H Q I q => ?_⟩
  obtain ⟨e, fp, Y, K, st, hw, hx, hk⟩ := q
  rw [evalPart_some]
  refine runK h I st hw hx fun v u s1 H1 fp1 d e1 I1 rv p1 st1 hx1 rd kk => ?_
  unfold intD at kk
  split at kk
  · rename_i i
    rw [rd.int_inv] at rv
    obtain ⟨t, rfl⟩ := rv
    exact ⟨some i, H1, I1, .int i t, hk _ _ _ _ p1 st1 kk⟩
  · exact kk.elim
theorem je_slc_p (ct : Ct g wd N sc lv X) (lk : Lnk g wd fds bl) {p : Pl} (hp : plcB N sc fds p x = true) (hb : b = true → b2 = true) (q : p.isV = true ∨ b2 = true) {p2 : Pos} (hl : PO X lo (tOp' g W b2 mo)) (hh : PO X hi (tOp' g W b2 mo')) :
    PE X (.Subscript x (.Slice lo hi none p2) pos) (tE g W b fun Y e k => rdK p e fun _ => mo Y e fun l e1 => mo' Y e1 fun h e2 => rdK p e2 fun d0 => sliceK d0 l h fun r => k r e2) := by
  refine ⟨fun pins s σ H Q I q' => ?_⟩
  obtain ⟨e, fp, Y, K, st, hw, hx, hk⟩ := q'
  obtain ⟨v, hv⟩ := PlcV.of st hw
  obtain ⟨_, _, hw'⟩ := hv.look st hw
  refine Subscript_ (run_plc ct lk hp st hw hv I fun u s1 I1 rv => ?_)
  refine wpAny_Slice (thn (hl.run pins s1 σ H (fun o H1 => ∃ fp1 e1, Post b2 H fp H1 fp1 ∧ Stt g H1 σ e1 fp1 ∧ mo' Y e1 fun h e2 => rdK p e2 fun d0 => sliceK d0 (o.map D.int) h fun r => K r e2) I1 ⟨e, fp, Y, _, st, hw', hx, fun o H1 fp1 e1 a b c => ⟨fp1, e1, a, b, c⟩⟩) fun vl s2 ⟨l, H2, I2, pl, fp2, e2, p2', st2, kk⟩ =>
    thn (hh.run pins s2 σ H2 (fun o H3 => ∃ fp3 e3, Post b2 H2 fp2 H3 fp3 ∧ Stt g H3 σ e3 fp3 ∧ rdK p e3 fun d0 => sliceK d0 (l.map D.int) (o.map D.int) fun r => K r e3) I2 ⟨e2, fp2, Y, _, st2, kk, hx.post p2', fun o H1 fp1 e1 a b c => ⟨fp1, e1, a, b, c⟩⟩) fun vu s3 ⟨h, H3, I3, pu, fp3, e3, p3, st3, kk3⟩ => ?_)
  rw [evalPart_none]
  refine wpAny_pure ?_
  have I4 : L2.Inv X pins σ H3 { s3 with heap := s3.heap.push { cls := .type "slice", data := .fields #[vl, vu, .none] } } := I3.kept (t' := s3.toks) fun b ob q => Heap.get?_push_of_some _ q
  obtain ⟨d0, rb, kk4⟩ := (laterB hv q (p2'.trans' p3)).look st3 kk3
  obtain ⟨T, id, hT, ht, hg⟩ := slice_ok (X := X) (g := g) ct.K pins { s3 with heap := s3.heap.push { cls := .type "slice", data := .fields #[vl, vu, .none] } } σ H3 v u vl vu l h s3.heap.objs.size (fun w H' => ∃ r, Res g H3 H' w r ∧ K r e3) I4 rv (Heap.IsSliceOf.new ..) pl pu
    ⟨d0, _, rb, kk4, fun w H' r res kr => ⟨r, res, kr⟩⟩
  show wpAny (model X.prog X.w) X.A (subscriptTail x (.Slice lo hi none _) u (.ref s3.heap.objs.size)) (EP X pins σ Q) X.xe { s3 with heap := s3.heap.push { cls := .type "slice", data := .fields #[vl, vu, .none] } }
  refine tail_any (ops := [.ref s3.heap.objs.size, u]) ht hT (thn hg fun w s5 f => finR st3 ((p2'.trans' p3).weak hb) hk f) (by with_unfolding_all rfl)
theorem je_slc_x (eK : X.K = g.K) {p2 : Pos} (ha : PE X x (tK g W b ma)) (hl : PO X lo (tOp' g W b mo)) (hh : PO X hi (tOp' g W b mo')) :
    PE X (.Subscript x (.Slice lo hi none p2) pos) (tE g W b fun Y e k => ma Y e fun d0 e0 => mo Y e0 fun l e1 => mo' Y e1 fun h e2 => sliceK d0 l h fun r => k r e2) := by
  refine ⟨fun pins s σ H Q I q' => ?_⟩
  obtain ⟨e, fp, Y, K, st, hw, hx, hk⟩ := q'
  refine Subscript_ (runK ha I st hw hx fun v u s1 H1 fp1 d0 e1 I1 rv p1 st1 hx1 rd0 kk1 => ?_)
  refine wpAny_Slice (thn (hl.run pins s1 σ H1 (fun o H2 => ∃ fp2 e2, Post b H1 fp1 H2 fp2 ∧ Stt g H2 σ e2 fp2 ∧ mo' Y e2 fun h e2 => sliceK d0 (o.map D.int) h fun r => K r e2) I1 ⟨e1, fp1, Y, _, st1, kk1, hx1, fun o H1 fp1 e1 a b c => ⟨fp1, e1, a, b, c⟩⟩) fun vl s2 ⟨l, H2, I2, pl, fp2, e2, p2', st2, kk⟩ =>
    thn (hh.run pins s2 σ H2 (fun o H3 => ∃ fp3 e3, Post b H2 fp2 H3 fp3 ∧ Stt g H3 σ e3 fp3 ∧ sliceK d0 (l.map D.int) (o.map D.int) fun r => K r e3) I2 ⟨e2, fp2, Y, _, st2, kk, hx1.post p2', fun o H1 fp1 e1 a b c => ⟨fp1, e1, a, b, c⟩⟩) fun vu s3 ⟨h, H3, I3, pu, fp3, e3, p3, st3, kk3⟩ => ?_)
  rw [evalPart_none]
  refine wpAny_pure ?_
  have I4 : L2.Inv X pins σ H3 { s3 with heap := s3.heap.push { cls := .type "slice", data := .fields #[vl, vu, .none] } } := I3.kept (t' := s3.toks) fun b ob q => Heap.get?_push_of_some _ q
  obtain ⟨T, id, hT, ht, hg⟩ := slice_ok (X := X) (g := g) eK pins { s3 with heap := s3.heap.push { cls := .type "slice", data := .fields #[vl, vu, .none] } } σ H3 v u vl vu l h s3.heap.objs.size (fun w H' => ∃ r, Res g H3 H' w r ∧ K r e3) I4 rv (Heap.IsSliceOf.new ..) pl pu
    ⟨d0, _, .d (rd0.mono (st1.pers (p2'.trans' p3))), kk3, fun w H' r res kr => ⟨r, res, kr⟩⟩
  show wpAny (model X.prog X.w) X.A (subscriptTail x (.Slice lo hi none _) u (.ref s3.heap.objs.size)) (EP X pins σ Q) X.xe { s3 with heap := s3.heap.push { cls := .type "slice", data := .fields #[vl, vu, .none] } }
  refine tail_any (ops := [.ref s3.heap.objs.size, u]) ht hT (thn hg fun w s5 f => finR st3 (p1.trans' (p2'.trans' p3)) hk f) (by with_unfolding_all rfl)

/-! ### argument lists, displays -/
def noStar : Expr → Bool
  | .Starred .. => false
  | _ => true
theorem star_ne {es : List Expr} {env : L2.Cx} (h : noStar x = true) : starEach (x :: es) env.env = (false, eval x env.env) :: starEach es env.env := by
  cases x <;> first | rfl | (simp [noStar] at h)
abbrev WpLs := Xt → Env → (List D → Env → Prop) → Prop
variable {ml : WpLs} {es : List Expr}
def tL (g : Gm) (W : WX) (b : Bool) (n : Nat) (m : WpLs) : TA := fun σ H Q => ∃ e fp X K, Stt g H σ e fp ∧ m X e K ∧ XOk g W σ H fp X ∧
  ∀ vs H1 fp1 ds e1, Post b H fp H1 fp1 → Stt g H1 σ e1 fp1 → vs.length = n → RepDs g H1 vs ds → K ds e1 → Q vs H1
theorem jl_nil : PA X [] (tL g W b 0 fun _ e k => k [] e) := by
  refine ⟨fun pos pins s σ H Q I q => ?_⟩
  obtain ⟨e, fp, Y, K, st, hw, hx, hk⟩ := q
  exact Calls.spliced_nil ⟨[], H, I, .nil, hk _ _ _ _ _ .refl st rfl .nil hw⟩
theorem jl_cons (hn : noStar x = true) (ha : PE X x (tK g W b ma)) {n : Nat} (hr : PA X es (tL g W b n ml)) : PA X (x :: es) (tL g W b (n + 1) fun Y e k => ma Y e fun d e1 => ml Y e1 fun ds e2 => k (d :: ds) e2) := by
  refine ⟨fun pos pins s σ H Q I q => ?_⟩
  obtain ⟨e, fp, Y, K, st, hw, hx, hk⟩ := q
  rw [star_ne (env := X) hn]
  show wpAny _ _ (spliced ((false, eval x X.env) :: backTo pos (starEach es X.env))) _ _ s
  refine Calls.spliced_cons (runK ha I st hw hx fun v u s1 H1 fp1 d e1 I1 rv p1 st1 hx1 rd kk => ?_)
  exact thn (hr.run pos pins s1 σ H1 (fun vs H2 => ∃ ds fp2 e2, Post b H1 fp1 H2 fp2 ∧ Stt g H2 σ e2 fp2 ∧ vs.length = n ∧ RepDs g H2 vs ds ∧ K (d :: ds) e2) I1 ⟨e1, fp1, Y, _, st1, kk, hx1, fun vs H2 fp2 ds e2 a b n c d => ⟨ds, fp2, e2, a, b, n, c, d⟩⟩)
    fun us s2 ⟨vs, H2, I2, r2, ds, fp2, e2, p2, st2, hn, rs, kk2⟩ => ⟨v :: vs, H2, I2, .cons rv r2, hk _ _ _ _ _ (p1.trans' p2) st2 (by rw [List.length_cons, hn]) (.cons (rd.mono (st1.pers p2)) rs) kk2⟩
theorem je_tup {x1} (hz : es.length ≤ 1000) (ha : PA X es (tL g W b es.length ml)) : PE X (.Tuple es x1 pos) (tE g W b fun Y e k => ml Y e fun ds e1 => k (.val (.tup ds)) e1) := by
  refine ⟨fun pins s σ H Q I q => ?_⟩
  obtain ⟨e, fp, Y, K, st, hw, hx, hk⟩ := q
  refine (pe_tup ha).run pins s σ H Q I ⟨e, fp, Y, _, st, hw, hx, fun vs H1 fp1 ds e1 p1 st1 hl rd kk => ?_⟩
  have z : vs.length ≤ sizeLine := by rw [hl]; exact Nat.le_trans hz (by decide)
  refine ⟨z, fun a na => ?_⟩
  have res : Res g H1 (upd H1 a (.tup vs)) (.ref a) (.val (.tup ds)) := .newV na rfl (.tup upd_same (rd.mono (pers_upd (.inl na))))
  exact hk _ _ _ _ _ (p1.trans' res.post) (res.stt st1) (res.rep st1 p1) kk
theorem je_lst (hz : es.length ≤ 1000) (ha : PA X es (tL g W b es.length ml)) : PE X (.List es pos) (tE g W b fun Y e k => ml Y e fun ds e1 => k (.own (.lst ds)) e1) := by
  refine ⟨fun pins s σ H Q I q => ?_⟩
  obtain ⟨e, fp, Y, K, st, hw, hx, hk⟩ := q
  refine (pe_lst ha).run pins s σ H Q I ⟨e, fp, Y, _, st, hw, hx, fun vs H1 fp1 ds e1 p1 st1 hl rd kk => ?_⟩
  have z : vs.length ≤ sizeLine := by rw [hl]; exact Nat.le_trans hz (by decide)
  refine ⟨z, fun a na => ?_⟩
  have res : Res g H1 (upd H1 a (.lst vs)) (.ref a) (.own (.lst ds)) := .newO na rfl (.lst upd_same (rd.mono (pers_upd (.inl na))))
  exact hk _ _ _ _ _ (p1.trans' res.post) (res.stt st1) (res.rep st1 p1) kk
theorem je_dnew {t : Bool} : PE X (.Dict [] [] pos) (tE g W b fun _ e k => k (.own (.dct t [])) e) := by
  cases t with
  | false =>
    refine peMono pe_dnewK fun σ H Q q a na => ?_
    obtain ⟨e, fp, Y, K, st, hw, hx, hk⟩ := q
    have res : Res g H (upd H a (.dK [])) (.ref a) (.own (.dct false [])) := .newO na rfl (.dK upd_same .nil)
    exact hk _ _ _ _ _ res.post (res.stt st) (res.rep st (.refl (b := b))) hw
  | true =>
    refine peMono pe_dnewT fun σ H Q q a na => ?_
    obtain ⟨e, fp, Y, K, st, hw, hx, hk⟩ := q
    have res : Res g H (upd H a (.dT [])) (.ref a) (.own (.dct true [])) := .newO na rfl (.dT upd_same .nil)
    exact hk _ _ _ _ _ res.post (res.stt st) (res.rep st (.refl (b := b))) hw
end
end Gr

end
section
set_option Elab.async false
set_option linter.all false
set_option maxRecDepth 100000
set_option maxHeartbeats 4000000
namespace Gr
open PySem PySem.Spec L2
open PyProof.Rows hiding St
def B1.nm : B1 → String
  | .len => "len" | .list => "list" | .tuple => "tuple" | .all => "all" | .any => "any" | .sum => "sum" | .max => "max" | .int => "int" | .abs => "abs" | .ord => "ord"
def B1.fn : B1 → Value
  | .len => .builtin "len" | .list => .type "list" | .tuple => .type "tuple" | .all => .builtin "all" | .any => .builtin "any" | .sum => .builtin "sum" | .max => .builtin "max" | .int => .type "int" | .abs => .builtin "abs" | .ord => .builtin "ord"
def B2.nm : B2 → String
  | .max => "max" | .min => "min"
theorem b1_boot (f : B1) : bootBuiltins (Str.ofString f.nm) = some f.fn := by cases f <;> decide +kernel
theorem b1_ne (f : B1) : Str.ofString f.nm ≠ "__name__" ∧ (Str.ofString f.nm == ("__debug__" : Str)) = false := by cases f <;> decide +kernel
section
variable {g : Gm} {H : Hp} {v : V} {d : D}
theorem reps_bls : ∀ {ds : List D} {vs : List V} {bs : List Bool}, RepDs g H vs ds → blsOf ds = some bs → vs = bs.map V.bl
  | _, _, _, .nil, h => by simp [blsOf] at h; subst h; rfl
  | _, _, bs, .cons (d := d) (ds := ds) r rs, h => by
    cases d <;> simp only [blsOf, reduceCtorEq, Option.map_eq_some_iff] at h
    obtain ⟨bs', h1, rfl⟩ := h
    rw [r.bl_inv, reps_bls rs h1]; rfl
theorem reps_ints : ∀ {ds : List D} {vs : List V} {bs : List Int}, RepDs g H vs ds → intsOf ds = some bs → vs = bs.map V.int
  | _, _, _, .nil, h => by simp [intsOf] at h; subst h; rfl
  | _, _, bs, .cons (d := d) (ds := ds) r rs, h => by
    cases d <;> simp only [intsOf, reduceCtorEq, Option.map_eq_some_iff] at h
    obtain ⟨bs', h1, rfl⟩ := h
    rw [r.int_inv, reps_ints rs h1]; rfl
theorem reps_strs : ∀ {ds : List D} {vs : List V} {bs : List (List Nat)}, RepDs g H vs ds → strsOf ds = some bs → vs = (bs.map sOf).map V.str ∧ ∀ z ∈ bs, okS z
  | _, _, _, .nil, h => by simp [strsOf] at h; subst h; exact ⟨rfl, by simp⟩
  | _, _, bs, .cons (d := d) (ds := ds) r rs, h => by
    cases d <;> simp only [strsOf, reduceCtorEq, Option.map_eq_some_iff] at h
    obtain ⟨bs', h1, rfl⟩ := h
    obtain ⟨e1, o1⟩ := r.str_inv
    obtain ⟨e2, o2⟩ := reps_strs rs h1
    rw [e1, e2]
    exact ⟨rfl, by simp; exact ⟨o1, o2⟩⟩
end
section
variable {X : L2.Cx} {g : Gm} {wd : Wd} {N : List String} {sc : Scope} {lv : Nat} {fds bl : List String} {W : WX} {b b2 : Bool} {pins : List (Addr × Obj)} {σ : L2.St} {H H0 H1 H2 : Hp} {s s2 : Shared} {e e1 e2 : Env} {fp fp1 fp2 : List Addr} {Y : Xt}
variable {x y z c : Expr} {ma mb mc : WpK} {me me' : WpE} {pos apos p : Pos} {u v' : Value} {v : V} {d dy : D}

theorem fin_old {k : Sl → Prop} (I : L2.Inv X pins σ H s) {w : Value} {v : V} {d : D} (rw_ : RelV v w) (rd : RepD g H v d) (q : k (.val d)) : Fin g X pins σ H k w s := ⟨v, H, I, rw_, _, .old rfl rd, q⟩
theorem b1_ok (ct : Ct g wd N sc lv X) (I : L2.Inv X pins σ H s) {f : B1} {k : Sl → Prop} (rv : RelV v u) (hv : RepB g H v d) (h : bi1K f d k) : wpAny (model X.prog X.w) X.A (call f.fn [u]) (Fin g X pins σ H k) X.xe s := by
  have eK := ct.K
  have rr : Vals [v] [u] := .cons rv .nil
  have hb : big = sizeLine := rfl
  have via : ∀ {r : List V → Hp → VK → Prop}, CallR X f.fn r → (r [v] H fun w H' => ∃ r, Res g H H' w r ∧ k r) → wpAny (model X.prog X.w) X.A (call f.fn [u]) (Fin g X pins σ H k) X.xe s := fun hc q => hc pins s σ H [v] [u] _ I rr q
  unfold bi1K at h
  split at h
  · obtain ⟨rfl, ok⟩ := hv.str_inv
    exact via call_len ⟨_, _, rfl, ⟨by rw [sOf_len]; exact ok.1, rfl⟩, _, .old rfl (.int _), by rw [sOf_len]; exact h⟩
  · obtain ⟨a, vs, rfl, hq, r⟩ := hv.tup_inv
    exact via call_len ⟨_, vs.length, rfl, .inr ⟨vs, SqT.of hq, rfl⟩, _, .old rfl (.int _), by rw [r.length]; exact h⟩
  · obtain ⟨a, vs, rfl, hq, r⟩ := hv.lst_inv
    rw [← eK] at hq
    exact via call_len ⟨_, vs.length, rfl, .inl ⟨vs, hq, rfl⟩, _, .old rfl (.int _), by rw [r.length]; exact h⟩
  · obtain ⟨a, vs, rfl, hq, r⟩ := hv.lst_inv
    rw [← eK] at hq
    exact via call_list_of ⟨a, vs, rfl, .inl hq, fun l nl => ⟨_, .newO nl rfl (.lst upd_same (r.mono (pers_upd (.inl nl)))), h⟩⟩
  · obtain ⟨a, vs, rfl, hq, r⟩ := hv.tup_inv
    exact via call_list_of ⟨a, vs, rfl, .inr (SqT.of hq), fun l nl => ⟨_, .newO nl rfl (.lst upd_same (r.mono (pers_upd (.inl nl)))), h⟩⟩
  · obtain ⟨a, vs, rfl, hq, r⟩ := hv.lst_inv
    rw [← eK] at hq
    exact via call_tuple_of ⟨a, vs, rfl, .inl ⟨hq, fun l nl => ⟨_, .newV nl rfl (.tup upd_same (r.mono (pers_upd (.inl nl)))), h⟩⟩⟩
  · obtain ⟨a, vs, rfl, hq, r⟩ := hv.tup_inv
    exact via call_tuple_of ⟨a, vs, rfl, .inr ⟨SqT.of hq, _, .old rfl (.tup hq r), h⟩⟩
  · obtain ⟨a, vs, rfl, hq, r⟩ := hv.lst_inv
    obtain ⟨bs, h1, h2⟩ := optK_iff.mp h
    have := reps_bls r h1
    subst this
    rw [← eK] at hq
    exact via (cr_all ct.calm) ⟨a, bs, rfl, hq, _, .old rfl (.bl _), h2⟩
  · obtain ⟨a, vs, rfl, hq, r⟩ := hv.lst_inv
    obtain ⟨bs, h1, h2⟩ := optK_iff.mp h
    have := reps_bls r h1
    subst this
    rw [← eK] at hq
    exact via (cr_any ct.calm) ⟨a, bs, rfl, hq, _, .old rfl (.bl _), h2⟩
  · obtain ⟨a, vs, rfl, hq, r⟩ := hv.lst_inv
    obtain ⟨bs, h1, h2⟩ := optK_iff.mp h
    have := reps_ints r h1
    subst this
    rw [← eK] at hq
    exact via (cr_sum ct.calm) ⟨a, bs, rfl, hq, _, .old rfl (.int _), h2⟩
  · obtain ⟨a, vs, rfl, hq, r⟩ := hv.lst_inv
    obtain ⟨bs, h1, h2⟩ := optK_iff.mp h
    obtain ⟨m, h3, h4⟩ := optK_iff.mp h2
    have := reps_ints r h1
    subst this
    rw [← eK] at hq
    have h5 := List.max?_eq_some_iff.mp h3
    refine via (cr_max ct.calm) ⟨a, bs, rfl, hq, List.length_pos_of_mem h5.1, fun m' hm hle => ⟨_, .old rfl (.int _), ?_⟩⟩
    have e : m' = m := Int.le_antisymm (h5.2 m' hm) (hle m h5.1)
    subst e
    exact h4
  · rw [hv.int_inv] at via
    exact via call_int1 (.inl ⟨_, rfl, _, .old rfl (.int _), h⟩)
  · rw [hv.bl_inv] at via
    exact via call_int1 (.inr ⟨_, rfl, _, .old rfl (.int _), h⟩)
  · rw [hv.int_inv] at via
    exact via call_abs ⟨_, rfl, _, .old rfl (.int _), h⟩
  · obtain ⟨rfl, ok⟩ := hv.str_inv
    rename_i c
    exact via call_ord ⟨sOf [c], rfl, by rw [sOf_len]; rfl, _, .old rfl (.int _), h⟩
  · exact h.elim
def glB (sc : Scope) (bl : List String) (s : String) : Bool := bl.contains s && (sc.names.lookup (Str.ofString s) == some .globalImplicit)
theorem gl_of (ct : Ct g wd N sc lv X) (lk : Lnk g wd fds bl) {s : String} (h : glB sc bl s = true) : Gl X (Str.ofString s) ∧ X.mg (Str.ofString s) = none := by
  unfold glB at h
  simp only [Bool.and_eq_true, beq_iff_eq, List.contains_iff_mem] at h
  refine ⟨?_, by rw [ct.mg]; exact lk.bl _ h.1⟩
  show X.env.scope.names.lookup _ = _
  rw [ct.sc]; exact h.2
theorem je_b1 (ct : Ct g wd N sc lv X) (lk : Lnk g wd fds bl) {f : B1} (hg : glB sc bl f.nm = true) (hn : noStar x = true) (ha : PE X x (tB g W b ma)) :
    PE X (.Call (.Name (Str.ofString f.nm) p) [x] [] pos) (tE g W b fun Y e k => ma Y e fun d e1 => bi1K f d fun r => k r e1) := by
  refine ⟨fun pins s σ H Q I q => ?_⟩
  obtain ⟨e, fp, Y, K, st, hw, hx, hk⟩ := q
  obtain ⟨g1, g2⟩ := gl_of ct lk hg
  refine wpAny_Call_Name_kw (ld_blt I g1 g2 (b1_boot f) ?_ (b1_ne f).1 (b1_ne f).2)
  have arg : wpAny (model X.prog X.w) X.A (spliced (backTo pos (starEach [x] X.env))) (fun vs s1 => wpAny (model X.prog X.w) X.A (call f.fn vs) (EP X pins σ Q) X.xe s1) X.xe s := by
    rw [star_ne (env := X) hn]
    show wpAny _ _ (spliced ((false, eval x X.env) :: backTo pos (starEach [] X.env))) _ _ s
    refine Calls.spliced_cons (runB ha I st hw hx fun v u s1 H1 fp1 d e1 I1 rv p1 st1 hx1 rd kk => Calls.spliced_nil ?_)
    exact thn (b1_ok ct I1 rv rd kk) fun w s3 f => finR st1 p1 hk f
  have kind : (∃ id, f.fn = .builtin id) ∨ ∃ T, f.fn = .type T := by cases f <;> simp [B1.fn]
  rcases kind with ⟨id, ef⟩ | ⟨T, ef⟩
  · rw [ef] at arg ⊢
    exact PyProof.Rows.callWith_builtin1 arg (star_ne (env := X) hn) rfl
  · rw [ef] at arg ⊢
    exact PyProof.Rows.callWith_type1 arg (star_ne (env := X) hn) rfl
theorem je_b2 (ct : Ct g wd N sc lv X) (lk : Lnk g wd fds bl) {f : B2} (hg : glB sc bl f.nm = true) (hn : noStar x = true) (hn2 : noStar y = true) (ha : PE X x (tK g W b ma)) (hb : PE X y (tB g W b mb)) :
    PE X (.Call (.Name (Str.ofString f.nm) p) [x, y] [] pos) (tE g W b fun Y e k => ma Y e fun d e1 => mb Y e1 fun d2 e2 => bi2K f d d2 fun r => k r e2) := by
  refine ⟨fun pins s σ H Q I q => ?_⟩
  obtain ⟨e, fp, Y, K, st, hw, hx, hk⟩ := q
  obtain ⟨g1, g2⟩ := gl_of ct lk hg
  have arg : ∀ (id : String) (fin : ∀ v u v' u' s2 H2 d d2 k, L2.Inv X pins σ H2 s2 → RelV v u → RelV v' u' → RepB g H2 v d → RepB g H2 v' d2 → bi2K f d d2 k → wpAny (model X.prog X.w) X.A (call (.builtin id) [u, u']) (Fin g X pins σ H2 k) X.xe s2),
      wpAny (model X.prog X.w) X.A (spliced (backTo pos (starEach [x, y] X.env))) (fun vs s1 => wpAny (model X.prog X.w) X.A (call (.builtin id) vs) (EP X pins σ Q) X.xe s1) X.xe s := fun id fin => by
    rw [star_ne (env := X) hn, star_ne (env := X) hn2]
    show wpAny _ _ (spliced ((false, eval x X.env) :: (false, eval y X.env) :: backTo pos (starEach [] X.env))) _ _ s
    refine Calls.spliced_cons (runK ha I st hw hx fun v u s1 H1 fp1 d e1 I1 rv p1 st1 hx1 rd kk => ?_)
    refine Calls.spliced_cons (runB hb I1 st1 kk hx1 fun v' u' s2 H2 fp2 d2 e2 I2 rv' p2 st2 hx2 rd' kk' => Calls.spliced_nil ?_)
    exact thn (fin v u v' u' s2 H2 d d2 _ I2 rv rv' (.d (rd.mono (st1.pers p2))) rd' kk') fun w s3 f => finR st2 (p1.trans' p2) hk f
  cases f with
  | max =>
    refine wpAny_Call_Name_kw (ld_blt I g1 g2 (b1_boot .max) ?_ (b1_ne .max).1 (b1_ne .max).2)
    refine PyProof.Rows.callWith_builtin1 (arg "max" fun v u v' u' s2 H2 d d2 k I2 r r' h h' q => ?_) (star_ne (env := X) hn) (by rw [star_ne (env := X) hn2]; rfl)
    unfold bi2K at q
    split at q
    · rename_i i j _; rw [h.int_inv] at r; rw [h'.int_inv] at r'
      exact call_max2 ct.calm pins s2 σ H2 [.int i, .int j] [u, u'] _ I2 (.cons r (.cons r' .nil)) ⟨i, j, rfl, _, .old rfl (.int _), q⟩
    · rename_i e; cases e
    · exact q.elim
  | min =>
    have bo : bootBuiltins "min" = some (.builtin "min") := by decide +kernel
    refine wpAny_Call_Name_kw (ld_blt I g1 g2 bo ?_ (by show Str.ofString "min" ≠ _; decide +kernel) (by show (Str.ofString "min" == _) = false; decide +kernel))
    refine PyProof.Rows.callWith_builtin1 (arg "min" fun v u v' u' s2 H2 d d2 k I2 r r' h h' q => ?_) (star_ne (env := X) hn) (by rw [star_ne (env := X) hn2]; rfl)
    unfold bi2K at q
    split at q
    · rename_i e; cases e
    · rename_i i j _; rw [h.int_inv] at r; rw [h'.int_inv] at r'
      exact call_min2 ct.calm pins s2 σ H2 [.int i, .int j] [u, u'] _ I2 (.cons r (.cons r' .nil)) ⟨i, j, rfl, _, .old rfl (.int _), q⟩
    · exact q.elim

/-! ### isinstance -/
def Ty.nm : Ty → Option String
  | .tuple => some "tuple" | .str => some "str" | .int => some "int" | .bool => some "bool" | .list => some "list" | .exc _ => none
theorem isTy_ok {t : Ty} {tn : String} (ht : t.nm = some tn) {k : Bool → Prop} (hv : RepB g H v d) (h : isTyK t d k) : ∃ (ty : Value) (b : Bool), TyX g.K H v ty ∧ PySem.W.kitOne g.K ty (.type tn) = some b ∧ k b := by
  unfold isTyK at h
  split at h
  · obtain ⟨a, vs, rfl, hq, r⟩ := hv.tup_inv
    refine ⟨.type "tuple", _, .base (.tup hq), ?_, h⟩
    cases t <;> cases ht <;> exact kit_ty (by decide +kernel)
  · obtain ⟨a, vs, rfl, hq, r⟩ := hv.lst_inv
    refine ⟨.type "list", _, ?_, ?_, h⟩
    · rcases hq with (hq | ⟨o, hq⟩) | ⟨o, its, n, hk, hc, _⟩
      · exact .base (.lst hq)
      · exact .base (.frz hq)
      · exact .kList hk hc
    · cases t <;> cases ht <;> exact kit_ty (by decide +kernel)
  · obtain ⟨rfl, _⟩ := hv.str_inv
    refine ⟨.type "str", _, .base (.str _), ?_, h⟩
    cases t <;> cases ht <;> exact kit_ty (by decide +kernel)
  · rw [hv.int_inv]
    refine ⟨.type "int", _, .base (.int _), ?_, h⟩
    cases t <;> cases ht <;> exact kit_ty (by decide +kernel)
  · rw [hv.bl_inv]
    refine ⟨.type "bool", _, .base (.bl _), ?_, h⟩
    cases t <;> cases ht <;> exact kit_ty (by decide +kernel)
  · rw [hv.non_inv]
    refine ⟨.type "NoneType", _, .base .non, ?_, h⟩
    cases t <;> cases ht <;> exact kit_ty (by decide +kernel)
  · cases ht
  · exact h.elim
theorem je_isi (ct : Ct g wd N sc lv X) (lk : Lnk g wd fds bl) {t : Ty} {tn : String} (ht : t.nm = some tn) (hg : glB sc bl "isinstance" = true) (hg2 : glB sc bl tn = true) (hn : noStar x = true) (ha : PE X x (tB g W b ma)) {p2 : Pos} :
    PE X (.Call (.Name (Str.ofString "isinstance") p) [x, .Name (Str.ofString tn) p2] [] pos) (tE g W b fun Y e k => ma Y e fun d e1 => isTyK t d fun c => k (.val (.bl c)) e1) := by
  refine ⟨fun pins s σ H Q I q => ?_⟩
  obtain ⟨e, fp, Y, K, st, hw, hx, hk⟩ := q
  obtain ⟨g1, g2⟩ := gl_of ct lk hg
  obtain ⟨g3, g4⟩ := gl_of ct lk hg2
  have bo : bootBuiltins "isinstance" = some (.builtin "isinstance") := by decide +kernel
  refine wpAny_Call_Name_kw (ld_blt I g1 g2 bo ?_ (by decide +kernel) (by decide +kernel))
  refine PyProof.Rows.callWith_builtin1 ?_ (star_ne (env := X) hn) rfl
  rw [star_ne (env := X) hn]
  show wpAny _ _ (spliced ((false, eval x X.env) :: (false, eval (.Name (Str.ofString tn) p2) X.env) :: backTo pos (starEach [] X.env))) _ _ s
  refine Calls.spliced_cons (runB ha I st hw hx fun v u s1 H1 fp1 d e1 I1 rv p1 st1 hx1 rd kk => ?_)
  obtain ⟨ty, bb, h1, h2, h3⟩ := isTy_ok ht rd kk
  have bt : bootBuiltins (Str.ofString tn) = some (.type tn) ∧ Str.ofString tn ≠ "__name__" ∧ (Str.ofString tn == ("__debug__" : Str)) = false := by
    cases t <;> cases ht <;> decide +kernel
  refine Calls.spliced_cons (ld_blt I1 g3 g4 bt.1 (Calls.spliced_nil ?_) bt.2.1 bt.2.2)
  rw [← ct.K] at h1 h2
  exact call_isi pins s1 σ H1 [v, .ty tn] [u, .type tn] Q I1 (.cons rv (.cons rfl .nil)) ⟨v, .ty tn, ty, .type tn, bb, rfl, .ty tn, h1, h2, hk _ _ _ _ _ p1 st1 (.val (.bl bb)) h3⟩
end
end Gr

end
section
set_option Elab.async false
set_option linter.all false
set_option maxRecDepth 100000
set_option maxHeartbeats 4000000
namespace Gr
open PySem PySem.Spec L2
open PyProof.Rows hiding St
section
variable {X : L2.Cx} {g : Gm} {wd : Wd} {N : List String} {sc : Scope} {lv : Nat} {fds bl : List String} {W : WX} {b b2 : Bool} {pins : List (Addr × Obj)} {σ : L2.St} {H H0 H1 H2 : Hp} {s s2 : Shared} {e e1 e2 : Env} {fp fp1 fp2 : List Addr} {Y : Xt}
variable {x y z c : Expr} {ma mb mc : WpK} {me me' : WpE} {pos apos : Pos}

/-! ### append, extend, pop -/
/-- a place that is looked at: what it holds, and the state -/
def tPl (g : Gm) (p : Pl) : TE := fun σ H Q => ∃ e fp k v, Stt g H σ e fp ∧ rdK p e k ∧ PlcV g σ H p v ∧ Q v H
theorem pe_pl (ct : Ct g wd N sc lv X) (lk : Lnk g wd fds bl) {p : Pl} (hp : plcB N sc fds p x = true) : PE X x (tPl g p) := by
  refine ⟨fun pins s σ H Q I q => ?_⟩
  obtain ⟨e, fp, k, v, st, hr, hv, q⟩ := q
  exact run_plc ct lk hp st hr hv I fun u s1 I1 rv => ⟨v, H, I1, rv, q⟩
def rExt (K : PySem.W.Frag) : V → List V → Hp → VK → Prop := fun x vs H Q => ∃ l b xs zs, x = .ref l ∧ vs = [.ref b] ∧ H l = some (.lst xs) ∧ (SqL K H b zs ∨ SqT K H b zs) ∧ xs.length + zs.length ≤ sizeLine ∧ Q .non (upd H l (.lst (xs ++ zs)))
theorem mt_ext : MtM X "list.extend" (rExt X.K) := by
  intro pins s σ H x vs v us Q I rx rv h
  obtain ⟨l, b, xs, zs, rfl, rfl, hH, hB, hz, q⟩ := h
  cases rx
  obtain ⟨u, rfl, ru⟩ := rv.one
  cases ru
  obtain ⟨z, its, n, r, hl, e⟩ := I.lstM hH
  have go : ∀ (T : String) (hT : T = "list" ∨ T = "tuple") (its2 : List Value) (n2 : Nat) (d2 : Option Addr) (sl2 : Array (Option Value)), Vals zs its2 → s.heap.get? b = some { cls := .type T, dict := d2, data := .seq its2.toArray n2, slots := sl2 } →
      wpAny (model X.prog X.w) X.A (call (.builtin "list.extend") [.ref l, .ref b]) (EP X pins σ Q) X.xe s := fun T hT its2 n2 d2 sl2 r2 e2 => by
    have hl2 := r2.length
    have hsz : its.toArray.size + its2.toArray.size ≤ sizeLine := by rw [List.size_toArray, List.size_toArray]; omega
    have hlong : ¬ (!its.toArray.isEmpty && Builtin.List.listTooLong (its.toArray.size + its2.toArray.size)) = true := by
      rw [notLongL hsz, Bool.and_false]
      exact Bool.false_ne_true
    refine call_meets F.slot_list_extend ⟨_, e, rfl⟩ F.entry_list_extend (F.args_list_extend_2 _ _)
      (extend_any hT l its.toArray n b its2.toArray n2 d2 sl2 hlong (by rw [List.size_toArray]; omega) (by omega)) ⟨e, e2, ?_⟩
    refine ⟨.non, _, I.lset (its' := its ++ its2) hH e (by simp) (r.append r2) ?_, rfl, q⟩
    rw [List.length_append]
    omega
  rcases hB with hB | hB
  · obtain ⟨its2, r2, ⟨o, n2, ho, hc, hd, hda⟩, _⟩ := I.list hB
    obtain ⟨oc, od, dt, sl⟩ := o
    simp only at hc hd hda
    subst hc hd hda
    exact go "list" (.inl rfl) its2 n2 _ sl r2 ho
  · obtain ⟨its2, r2, ⟨o, ho, hc, n2, hda⟩, _⟩ := I.tuple hB
    obtain ⟨oc, od, dt, sl⟩ := o
    simp only at hc hda
    subst hc hda
    exact go "tuple" (.inr rfl) its2 n2 _ sl r2 ho

theorem ty_list (ct : Ct g wd N sc lv X) {v : V} {d : D} {P : Prop} (h : RepB g H v d) (q : lstK d P) : tyV X.K "list" v H ∧ P := by
  unfold lstK at q
  split at q
  · obtain ⟨a, vs, rfl, hq, r⟩ := h.lst_inv
    rw [← ct.K] at hq
    exact ⟨.inl ⟨rfl, _, hq⟩, q⟩
  · exact q.elim
/-- behind a change of an own list -/
theorem upd_end {a : Addr} {o : HO} {d d' : D} {K : Sl → Env → Prop} {Q : VK} {v : V} {r : D} {p : Pl} (st : Stt g H2 σ e2 fp2) (p2 : Post b H fp H2 fp2) (hk : Hk g b σ H fp K Q) (ro : RepO g H2 a d) (ain : a ∈ fp2) (nf : ∀ od w, o ≠ .frz od w) (ro' : RepO g (upd H2 a o) a d')
    (rest : ∀ (o : HO) (d' : D) (K : Env → Prop), (∀ od w, o ≠ .frz od w) → RepO g (upd H2 a o) a d' → wrOK p e2 d' K → ∃ e3 fp3, Stt g (upd H2 a o) σ e3 fp3 ∧ K e3 ∧ ∀ c ∈ fp3, c ∈ fp2) (rd : RepD g (upd H2 a o) v r) (hw : wrOK p e2 d' fun e3 => K (.val r) e3) :
    Q v (upd H2 a o) := by
  obtain ⟨e3, fp3, st3, kk, sub⟩ := rest o d' _ nf ro' hw
  obtain ⟨u, eu, mu⟩ := ro.mut
  exact hk _ _ _ _ _ (p2.trans' (Post.upd_own ain eu (fun _ => ro.noIns eu) fun c hc => .inl (sub c hc))) st3 (.val rd) kk
theorem own_pers {a : Addr} {o : HO} {d : D} (ro : RepO g H2 a d) : Pers H2 (upd H2 a o) := by
  obtain ⟨u, eu, mu⟩ := ro.mut
  exact pers_upd (.inr ⟨u, eu, mu⟩)
theorem je_app (ct : Ct g wd N sc lv X) (lk : Lnk g wd fds bl) {p : Pl} (hp : plcB N sc fds p x = true) (hb : b = true → b2 = true) (q : p.isV = true ∨ b2 = true) (hn : noStar y = true) (hl : (apos.endLine == pos.line) = true) (hbase : attributeBase x "append" X.env (eval x X.env) = eval x X.env) (hy : PE X y (tK g W b2 ma)) :
    PE X (.Call (.Attribute x (Str.ofString "append") apos) [y] [] pos) (tE g W b fun Y e k => rdK p e fun d0 => lstK d0 <| ma Y e fun d e1 => rdOK p e1 fun d1 => appK d1 d fun d' => wrOK p e1 d' fun e2 => k (.val .non) e2) := by
  have pa : PA X [y] (tL g W b2 1 fun Y e k => ma Y e fun d e1 => k [d] e1) := jl_cons hn hy jl_nil
  refine peMono (pe_bm PySem.F.plainAttrs_list PySem.F.slot_list_append PySem.F.type_list_append mt_append (pe_pl ct lk hp) pa hbase (by rw [star_ne (env := X) hn]; rfl) hl (star_ne (env := X) hn) rfl) fun σ H Q h => ?_
  obtain ⟨e, fp, Y, K, st, hw, hx, hk⟩ := h
  obtain ⟨v, hv⟩ := PlcV.of st hw
  obtain ⟨d0, rb, hw'⟩ := hv.look st hw
  obtain ⟨ty, hw'⟩ := ty_list ct rb hw'
  refine ⟨e, fp, _, v, st, hw, hv, ty, e, fp, Y, fun ds e1 => match ds with | [d] => rdOK p e1 fun d1 => appK d1 d fun d' => wrOK p e1 d' fun e2 => K (.val .non) e2 | _ => False, st, hw', hx, fun vs H1 fp1 ds e1 p1 st1 hl rs kk => ?_⟩
  simp only [] at kk
  split at kk
  · rename_i d
    cases rs with
    | @cons vy _ _ _ rd rn =>
      cases rn
      obtain ⟨a, d1, rfl, ro, ain, kk, rest⟩ := (laterB hv q p1).o st1 kk
      unfold appK at kk
      split at kk
      · cases ro with
        | @lst ws ds hH r =>
          have pr := own_pers (o := HO.lst (ws ++ [vy])) (RepO.lst hH r)
          refine ⟨a, ws, _, rfl, rfl, hH, by rw [r.length]; exact kk.1, ?_⟩
          exact upd_end st1 (p1.weak hb) hk (.lst hH r) ain (fun _ _ z => nomatch z) (.lst upd_same ((r.append (.cons rd .nil)).mono pr)) rest .non kk.2
      · exact kk.elim
  · exact kk.elim
theorem je_ext (ct : Ct g wd N sc lv X) (lk : Lnk g wd fds bl) {p : Pl} (hp : plcB N sc fds p x = true) (hb : b = true → b2 = true) (q : p.isV = true ∨ b2 = true) (hn : noStar y = true) (hl : (apos.endLine == pos.line) = true) (hbase : attributeBase x "extend" X.env (eval x X.env) = eval x X.env) (hy : PE X y (tK g W b2 ma)) :
    PE X (.Call (.Attribute x (Str.ofString "extend") apos) [y] [] pos) (tE g W b fun Y e k => rdK p e fun d0 => lstK d0 <| ma Y e fun d e1 => rdOK p e1 fun d1 => extK d1 d fun d' => wrOK p e1 d' fun e2 => k (.val .non) e2) := by
  have pa : PA X [y] (tL g W b2 1 fun Y e k => ma Y e fun d e1 => k [d] e1) := jl_cons hn hy jl_nil
  refine peMono (pe_bm PySem.F.plainAttrs_list PySem.F.slot_list_extend PySem.F.type_list_extend mt_ext (pe_pl ct lk hp) pa hbase (by rw [star_ne (env := X) hn]; rfl) hl (star_ne (env := X) hn) rfl) fun σ H Q h => ?_
  obtain ⟨e, fp, Y, K, st, hw, hx, hk⟩ := h
  obtain ⟨v, hv⟩ := PlcV.of st hw
  obtain ⟨d0, rb, hw'⟩ := hv.look st hw
  obtain ⟨ty, hw'⟩ := ty_list ct rb hw'
  refine ⟨e, fp, _, v, st, hw, hv, ty, e, fp, Y, fun ds e1 => match ds with | [d] => rdOK p e1 fun d1 => extK d1 d fun d' => wrOK p e1 d' fun e2 => K (.val .non) e2 | _ => False, st, hw', hx, fun vs H1 fp1 ds e1 p1 st1 hl rs kk => ?_⟩
  simp only [] at kk
  split at kk
  · rename_i d
    cases rs with
    | cons rd rn =>
      cases rn
      obtain ⟨a, d1, rfl, ro, ain, kk, rest⟩ := (laterB hv q p1).o st1 kk
      unfold extK at kk
      split at kk
      · cases ro with
        | @lst ws ds hH r =>
          obtain ⟨c, zs, rfl, hq, rz⟩ := (RepB.d rd).lst_inv
          rw [← ct.K] at hq
          have pr := own_pers (o := HO.lst (ws ++ zs)) (RepO.lst hH r)
          refine ⟨a, c, ws, zs, rfl, rfl, hH, .inl hq, by rw [r.length, rz.length]; exact kk.1, ?_⟩
          exact upd_end st1 (p1.weak hb) hk (.lst hH r) ain (fun _ _ z => nomatch z) (.lst upd_same ((r.append rz).mono pr)) rest .non kk.2
      · cases ro with
        | @lst ws ds hH r =>
          obtain ⟨c, zs, rfl, hq, rz⟩ := rd.tup_inv
          have pr := own_pers (o := HO.lst (ws ++ zs)) (RepO.lst hH r)
          refine ⟨a, c, ws, zs, rfl, rfl, hH, .inr (SqT.of hq), by rw [r.length, rz.length]; exact kk.1, ?_⟩
          exact upd_end st1 (p1.weak hb) hk (.lst hH r) ain (fun _ _ z => nomatch z) (.lst upd_same ((r.append rz).mono pr)) rest .non kk.2
      · exact kk.elim
  · exact kk.elim
theorem rdOK_rdK : ∀ {p : Pl} {e : Env} {k : D → Prop}, rdOK p e k → rdK p e k
  | .v i, e, k, h => by
    obtain ⟨sl, h1, h2⟩ := lookK_iff.mp h
    refine lookK_iff.mpr ⟨sl, h1, ?_⟩
    cases sl <;> first | exact h2 | exact h2.elim
  | .f i f, e, k, h => by
    obtain ⟨sl, h1, h2⟩ := lookK_iff.mp h
    refine lookK_iff.mpr ⟨sl, h1, ?_⟩
    cases sl with
    | obj c fs =>
      have go : ∀ fs : Fs, fgetK fs f (fun o d => onlyIf o (k d)) → fgetK fs f fun _ d => k d := fun fs => by
        induction fs with
        | nil => exact fun h => h
        | cons x r ih =>
          obtain ⟨h0, o, d⟩ := x
          unfold fgetK
          split
          · intro h
            cases o with
            | true => exact h
            | false => exact h.elim
          · exact ih
      exact go fs h2
    | _ => exact h2.elim
theorem getLast_reps : ∀ {ds : List D} {vs : List V} {d : D}, RepDs g H vs ds → ds.getLast? = some d → ∃ v, vs[vs.length - 1]? = some v ∧ RepD g H v d := fun {ds vs d} r h => by
  rw [List.getLast?_eq_getElem?] at h
  obtain ⟨v, h1, h2⟩ := r.get h
  exact ⟨v, by rw [r.length]; exact h1, h2⟩
theorem dropLast_reps {ds : List D} {vs : List V} (r : RepDs g H vs ds) : RepDs g H vs.dropLast ds.dropLast := by
  rw [List.dropLast_eq_take, List.dropLast_eq_take, r.length]
  exact r.take _
theorem je_pop (ct : Ct g wd N sc lv X) (lk : Lnk g wd fds bl) {p : Pl} (hp : plcB N sc fds p x = true) (hl : (apos.endLine == pos.line) = true) (hbase : attributeBase x "pop" X.env (eval x X.env) = eval x X.env) :
    PE X (.Call (.Attribute x (Str.ofString "pop") apos) [] [] pos) (tE g W b fun Y e k => rdOK p e fun d => popK d fun y d' => wrOK p e d' fun e2 => k (.val y) e2) := by
  refine peMono (pe_bm0 PySem.F.plainAttrs_list PySem.F.slot_list_pop PySem.F.type_list_pop mt_pop (pe_pl ct lk hp) hbase hl) fun σ H Q h => ?_
  obtain ⟨e, fp, Y, K, st, hw, hx, hk⟩ := h
  obtain ⟨v, hv⟩ := PlcV.of st (rdOK_rdK hw)
  obtain ⟨a, d1, rfl, ro, ain, kk, rest⟩ := hv.o st hw
  unfold popK at kk
  split at kk
  · obtain ⟨y, h1, h2⟩ := optK_iff.mp kk
    cases ro with
    | @lst ws ds hH r =>
      obtain ⟨w, h3, h4⟩ := getLast_reps r h1
      have pr := own_pers (o := HO.lst ws.dropLast) (RepO.lst hH r)
      refine ⟨e, fp, _, _, st, rdOK_rdK hw, hv, .inl ⟨rfl, ws, SqL.of hH⟩, a, ws, w, rfl, rfl, hH, h3, ?_⟩
      exact upd_end st (Post.refl (b := b)) hk (.lst hH r) ain (fun _ _ z => nomatch z) (.lst upd_same ((dropLast_reps r).mono pr)) rest (h4.mono pr) h2
  · exact kk.elim
/-! ### join -/
theorem join_eq' (z : List Nat) : ∀ ys : List (List Nat), Str.join (sOf z) (ys.map sOf) = sOf (joinS z ys)
  | [] => rfl
  | [x] => rfl
  | x :: y :: r => by
    have ih := join_eq' z (y :: r)
    show sOf x ++ sOf z ++ Str.join (sOf z) ((y :: r).map sOf) = sOf (x ++ z ++ joinS z (y :: r))
    rw [ih, sOf_append, sOf_append]
theorem join_eq (z : List Nat) (ys : List (List Nat)) : Txt.join (sOf z) (ys.map sOf) = sOf (joinS z ys) := (StrLaws.glued_eq_join _ _).trans (join_eq' z ys)
theorem joinS_ok {z : List Nat} (hz : okS z) : ∀ {ys : List (List Nat)}, (∀ y ∈ ys, okS y) → ∀ c ∈ joinS z ys, c < 1114112
  | [], _, c, hc => by simp [joinS] at hc
  | [x], h, c, hc => (h x (by simp)).2 c hc
  | x :: y :: r, h, c, hc => by
    simp only [joinS, List.mem_append] at hc
    rcases hc with (hc | hc) | hc
    · exact (h x (by simp)).2 c hc
    · exact hz.2 c hc
    · exact joinS_ok hz (fun y hy => h y (by simp at hy ⊢; exact .inr hy)) c hc
theorem joinS_len (z : List Nat) : ∀ ys : List (List Nat), (joinS z ys).length ≤ (ys.map (·.length)).sum + ys.length * z.length
  | [] => by simp [joinS]
  | [x] => by simp [joinS]
  | x :: y :: r => by
    have ih := joinS_len z (y :: r)
    simp only [joinS, List.length_append, List.map_cons, List.sum_cons, List.length_cons] at ih ⊢
    rw [Nat.succ_mul (r.length + 1)]
    omega
theorem je_join (ct : Ct g wd N sc lv X) {z : List Nat} {j : Nat} {cp : Pos} (hz : okSb z = true) (hn : noStar y = true) (hl : (apos.endLine == pos.line) = true) (hy : PE X y (tK g W b ma)) :
    PE X (.Call (.Attribute (.Constant (.str (sOf z)) j cp) (Str.ofString "join") apos) [y] [] pos) (tE g W b fun Y e k => ma Y e fun d e1 => m1K .join (.str z) d fun r => k r e1) := by
  have oz := okSb_ok hz
  refine peMono (pe_join pe_str hy (star_ne (env := X) hn) rfl hl) fun σ H Q h => ?_
  obtain ⟨e, fp, Y, K, st, hw, hx, hk⟩ := h
  refine ⟨⟨_, rfl⟩, e, fp, Y, _, st, hw, hx, fun v H1 fp1 d e1 p1 st1 rd kk => ?_⟩
  unfold m1K at kk
  split at kk
  · rename_i z' _ _ heq
    cases heq
    obtain ⟨ys, h1, h2, h3⟩ := optK_iff.mp kk
    obtain ⟨a, vs, rfl, hq, r⟩ := (RepB.d rd).lst_inv
    obtain ⟨e1, o1⟩ := reps_strs r h1
    subst e1
    rw [← ct.K] at hq
    refine ⟨sOf z, a, ys.map sOf, rfl, rfl, .inl hq, ?_, ?_⟩
    · have e : (ys.map sOf).map (·.length) = ys.map (·.length) := by
        rw [List.map_map]
        exact List.map_congr_left fun y _ => sOf_len y
      rw [e, List.length_map, sOf_len]
      exact h2
    · rw [join_eq]
      exact hk _ _ _ _ _ p1 st1 (.val (.str _ ⟨Nat.le_trans (joinS_len z ys) h2, joinS_ok oz o1⟩)) h3
  · exact kk.elim
end
end Gr

end
section
set_option Elab.async false
set_option linter.all false
set_option maxRecDepth 100000
set_option maxHeartbeats 4000000
namespace Gr
open PySem PySem.Spec L2
open PyProof.Rows hiding St
section
variable {X : L2.Cx} {g : Gm} {wd : Wd} {N : List String} {sc : Scope} {lv : Nat} {fds bl : List String} {W : WX} {b b2 : Bool} {pins : List (Addr × Obj)} {σ σ' : L2.St} {H H0 H1 H2 : Hp} {s s2 : Shared} {e e1 e2 : Env} {fp fp1 fp2 : List Addr} {Y : Xt}
variable {x y z c : Expr} {ma mb mc : WpK} {me me' : WpE} {pos apos : Pos}

/-! ### stores -/
theorem RepE.ext : ∀ {σ σ' : L2.St} {e : Env} {fp : List Addr}, RepE g H σ e fp → σ'.length = σ.length → (∀ (j : Nat) (s : Sl), e[j]? = some s → s = Sl.no ∨ σ'[j]? = σ[j]?) → RepE g H σ' e fp
  | [], [], _, _, .nil, _, _ => .nil
  | [], _ :: _, _, _, .nil, h, _ => by simp at h
  | x :: σ, [], _, _, .cons _ _, h, _ => by simp at h
  | x :: σ, x' :: σ', _, _, .cons (s := s) (e := e) hs r, h, k => by
    have h0 := k 0 s rfl
    refine .cons ?_ (RepE.ext r (by simpa using h) fun j s' hj => by have := k (j + 1) s' (by simpa using hj); simpa using this)
    cases hs with
    | no => exact .no
    | val d =>
      have h0 : some x' = some _ := h0.resolve_left (fun z => nomatch z)
      cases h0; exact .val d
    | own d =>
      have h0 : some x' = some _ := h0.resolve_left (fun z => nomatch z)
      cases h0; exact .own d
    | obj a c d =>
      have h0 : some x' = some _ := h0.resolve_left (fun z => nomatch z)
      cases h0; exact .obj a c d
theorem Stt.ext (st : Stt g H σ e fp) (hl : σ'.length = σ.length) (k : ∀ (j : Nat) (s : Sl), e[j]? = some s → s = Sl.no ∨ σ'[j]? = σ[j]?) : Stt g H σ' e fp := ⟨st.rep.ext hl k, st.nd⟩
/-- a slot is set to a datum -/
theorem Stt.setV (st : Stt g H σ e fp) {i : Nat} {v : V} {d : D} (hi : i < e.length) (rd : RepD g H v d) : ∃ fp', Stt g H (σ.set i (some v)) (e.set i (.val d)) fp' ∧ ∀ a ∈ fp', a ∈ fp := by
  obtain ⟨y, as, pre, post, s1, s2, s3, s4⟩ := st.rep.split (s := e[i]) (List.getElem?_eq_getElem hi)
  have z := s4 H ⟨fun _ _ h => h, fun _ _ _ h => h⟩ (fun _ _ _ h => h) (some v) (.val d) [] (.val rd)
  have nd := st.nd
  rw [s3] at nd
  exact ⟨_, ⟨z, nodup_mid nd .nil (fun a h => nomatch h)⟩, fun a ha => by rw [s3]; simp at ha ⊢; rcases ha with h | h <;> simp [h]⟩
theorem Stt.setN (st : Stt g H σ e fp) {i : Nat} (hi : i < e.length) : ∃ fp', Stt g H σ (e.set i .no) fp' ∧ ∀ a ∈ fp', a ∈ fp := by
  obtain ⟨y, as, pre, post, s1, s2, s3, s4⟩ := st.rep.split (s := e[i]) (List.getElem?_eq_getElem hi)
  have z := s4 H ⟨fun _ _ h => h, fun _ _ _ h => h⟩ (fun _ _ _ h => h) y .no [] .no
  rw [set_same s1] at z
  have nd := st.nd
  rw [s3] at nd
  exact ⟨_, ⟨z, nodup_mid nd .nil (fun a h => nomatch h)⟩, fun a ha => by rw [s3]; simp at ha ⊢; rcases ha with h | h <;> simp [h]⟩
theorem Stt.len (st : Stt g H σ e fp) : σ.length = e.length := st.rep.length
/-- the names of a target -/
structure Set1 (is : List Nat) (σ σ' : L2.St) : Prop where
  len : σ'.length = σ.length
  out : ∀ j, j ∉ is → σ'[j]? = σ[j]?
/-- wiped slots -/
theorem Stt.wipe : ∀ {is : List Nat} {e : Env} {fp : List Addr} {k : Env → Prop}, Stt g H σ e fp → wipeK is e k → ∃ e' fp', k e' ∧ Stt g H σ e' fp' ∧ (∀ a ∈ fp', a ∈ fp) ∧ (∀ j ∈ is, e'[j]? = some .no) ∧ e'.length = e.length ∧ ∀ j, j ∉ is → e'[j]? = e[j]?
  | [], e, fp, k, st, h => ⟨e, fp, h, st, fun _ h => h, by simp, rfl, fun _ _ => rfl⟩
  | i :: is, e, fp, k, st, h => by
    obtain ⟨hi, h⟩ := setK_iff.mp (show setK e i .no (fun e' => wipeK is e' k) from h)
    obtain ⟨fp1, st1, sub1⟩ := st.setN hi
    obtain ⟨e', fp', h1, h2, h3, h4, h5, h6⟩ := Stt.wipe st1 h
    refine ⟨e', fp', h1, h2, fun a ha => sub1 a (h3 a ha), fun j hj => ?_, by rw [h5, List.length_set], fun j hj => ?_⟩
    · by_cases hm : j ∈ is
      · exact h4 j hm
      · rw [h6 j hm]
        have : j = i := by rcases List.mem_cons.mp hj with h | h; exact h; exact absurd h hm
        subst this
        rw [List.getElem?_set_self hi]
    · rw [h6 j (fun h => hj (by simp [h])), List.getElem?_set_ne (fun z => hj (by simp [z]))]
/-- what a target's store wishes -/
def tG (g : Gm) (tg : Tg) : TG := fun v σ H Q => ∃ e fp d K, Stt g H σ e fp ∧ RepD g H v d ∧ bind1K tg d e K ∧ ∀ e' σ' fp', Stt g H σ' e' fp' → (∀ a ∈ fp', a ∈ fp) → Set1 tg.ix σ σ' → K e' → Q σ' H
def tGs (g : Gm) (is : List Nat) : TGs := fun vs σ H Q => ∃ e fp ds K, Stt g H σ e fp ∧ RepDs g H vs ds ∧ setsK is ds e K ∧ ∀ e' σ' fp', Stt g H σ' e' fp' → (∀ a ∈ fp', a ∈ fp) → Set1 is σ σ' → K e' → Q σ' H
def asgB (N : List String) (sc : Scope) (top : Bool) (i : Nat) (x : Str) : Bool :=
  (match N[i]? with | some s => Str.ofString s == x | none => false) && (sc.names.lookup x == some .local || (top && sc.names.lookup x == some .cell))
structure Top (X : L2.Cx) (top : Bool) : Prop where
  fn : top = true → ∀ x, X.fn x = true
theorem pg_nm (ct : Ct g wd N sc lv X) {top : Bool} (tp : Top X top) {i : Nat} {nm : Str} (h : asgB N sc top i nm = true) : PG X (.Name nm pos) (gName i) := by
  unfold asgB at h
  simp only [Bool.and_eq_true, Bool.or_eq_true, beq_iff_eq] at h
  obtain ⟨h1, h2⟩ := h
  have hi : X.N[i]? = some nm := by
    rw [ct.N, List.getElem?_map]
    cases e : N[i]? with
    | none => rw [e] at h1; cases h1
    | some s => rw [e] at h1; simp at h1; simp [h1]
  rcases h2 with h2 | ⟨h2, h3⟩
  · exact pg_name ct.nd hi (.inl (by rw [ct.sc]; exact h2)) (.inr (by rw [ct.sc]; exact h2))
  · exact pg_name ct.nd hi (.inr (by rw [ct.sc]; exact h3)) (.inl (tp.fn h2 _))
theorem Set1.one {i : Nat} {v : Option V} : Set1 [i] σ (σ.set i v) := ⟨by simp, fun j hj => by rw [List.getElem?_set_ne (fun z => hj (by simp [z]))]⟩
theorem jg_nm (ct : Ct g wd N sc lv X) {top : Bool} (tp : Top X top) {i : Nat} {nm : Str} (h : asgB N sc top i nm = true) : PG X (.Name nm pos) (tG g (.nm i)) := by
  refine ⟨fun pins s σ H v u Q I r q => ?_⟩
  obtain ⟨e, fp, d, K, st, rd, hb, hk⟩ := q
  obtain ⟨hi, hb⟩ := setK_iff.mp hb
  obtain ⟨fp', st', sub⟩ := st.setV hi rd
  exact (pg_nm ct tp h).run pins s σ H v u Q I r (hk _ _ _ st' sub .one hb)
theorem jgs_nil : PGs X [] (tGs g []) := by
  refine ⟨fun pins s σ H vs us Q I r q => ?_⟩
  obtain ⟨e, fp, ds, K, st, rd, hb, hk⟩ := q
  cases rd with
  | nil => exact pgs_nil.run pins s σ H [] us Q I r ⟨rfl, hk _ _ _ st (fun _ h => h) ⟨rfl, fun _ _ => rfl⟩ hb⟩
  | cons _ _ => exact hb.elim
theorem jgs_cons (ct : Ct g wd N sc lv X) {top : Bool} (tp : Top X top) {i : Nat} {is : List Nat} {nm : Str} {es : List Expr} (h : asgB N sc top i nm = true) (hr : PGs X es (tGs g is)) : PGs X (.Name nm pos :: es) (tGs g (i :: is)) := by
  refine ⟨fun pins s σ H vs us Q I r q => ?_⟩
  obtain ⟨e, fp, ds, K, st, rd, hb, hk⟩ := q
  cases rd with
  | nil => exact hb.elim
  | cons rd rds =>
    obtain ⟨hi, hb⟩ := setK_iff.mp hb
    obtain ⟨fp', st', sub⟩ := st.setV hi rd
    refine (pgs_cons (pg_nm ct tp h) hr rfl).run pins s σ H _ us Q I r ⟨_, _, rfl, _, fp', _, K, st', rds, hb, fun e' σ' fp2 st2 sub2 s2 kk => hk _ _ _ st2 (fun a ha => sub a (sub2 a ha)) ⟨by rw [s2.len]; simp, fun j hj => ?_⟩ kk⟩
    rw [s2.out j (fun h => hj (by simp [h])), List.getElem?_set_ne (fun z => hj (by simp [z]))]
def namesE : List Expr → Bool
  | [] => true
  | .Name _ _ :: r => namesE r
  | _ => false
theorem names_each {env : L2.Cx} : ∀ {es : List Expr}, namesE es = true → (assignEach es env.env).length = es.length ∧ (assignEach es env.env).findIdx? (·.1) = none
  | [], _ => ⟨rfl, rfl⟩
  | .Name x p :: r, h => by
    obtain ⟨h1, h2⟩ := names_each (env := env) (es := r) h
    have e : assignEach (.Name x p :: r) env.env = (false, assign (.Name x p) env.env) :: assignEach r env.env := rfl
    rw [e]
    exact ⟨by rw [List.length_cons, h1]; rfl, by rw [List.findIdx?_cons, h2]; rfl⟩
theorem sets_len : ∀ {is : List Nat} {ds : List D} {e : Env} {K : Env → Prop}, setsK is ds e K → ds.length = is.length
  | [], [], _, _, _ => rfl
  | [], _ :: _, _, _, h => h.elim
  | _ :: _, [], _, _, h => h.elim
  | i :: is, d :: ds, e, K, h => by
    obtain ⟨_, h⟩ := setK_iff.mp (show setK e i (.val d) (fun e' => setsK is ds e' K) from h)
    rw [List.length_cons, List.length_cons, sets_len h]
theorem jg_tp (ct : Ct g wd N sc lv X) {is : List Nat} {es : List Expr} {k : Nat} (hl : es.length = is.length) (hn : namesE es = true) (h : PGs X es (tGs g is)) : PG X (.Tuple es k pos) (tG g (.tp is)) := by
  obtain ⟨n1, n2⟩ := names_each (env := X) hn
  refine ⟨fun pins s σ H v u Q I r q => ?_⟩
  obtain ⟨e, fp, d, K, st, rd, hb, hk⟩ := q
  cases d with
  | tup ds =>
    obtain ⟨a, vs, rfl, hq, rs⟩ := rd.tup_inv
    have hl2 := sets_len (show setsK is ds e K from hb)
    exact (pg_tup ct.calm h n1 n2).run pins s σ H _ u Q I r ⟨a, vs, rfl, SqT.of hq, by rw [rs.length, hl2, hl], e, fp, ds, K, st, rs, hb, hk⟩
  | _ => exact hb.elim

/-! ### what is walked -/
/-- an iterator that gives these data, whatever else changes -/
structure Itm (g : Gm) (J : It) (H : Hp) (xs : List D) : Prop where
  go : ∀ H', Pers H H' → ∀ i, i < xs.length → J.go i H'
  yld : ∀ H', Pers H H' → ∀ i d, xs[i]? = some d → ∀ x H'', J.yld i H' x H'' → H'' = H' ∧ RepD g H' x d
  stop : ∀ H', Pers H H' → J.stop xs.length H'
  len : xs.length ≤ big
def itW (m : WpK) : WpLs := fun Y e k => m Y e fun d e1 => itemsK d fun xs => k xs e1
def tIt (g : Gm) (W : WX) (b : Bool) (m : WpLs) : TI := fun σ H R => ∃ e fp X K, Stt g H σ e fp ∧ m X e K ∧ XOk g W σ H fp X ∧
  ∀ J H1 fp1 xs e1, Post b H fp H1 fp1 → Stt g H1 σ e1 fp1 → Itm g J H1 xs → K xs e1 → R J H1
theorem ji_val (eK : X.K = g.K) {tg : Expr} (h : PE X x (tK g W b ma)) : PI X tg x (tIt g W b (itW ma)) := by
  refine ⟨fun pins s σ H R I q => ?_⟩
  obtain ⟨e, fp, Y, K, st, hw, hx, hk⟩ := q
  have base : ∀ (Qv : V → Hp → Prop), (∀ v H1 fp1 d e1, Post b H fp H1 fp1 → Stt g H1 σ e1 fp1 → RepD g H1 v d → itemsK d (fun xs => K xs e1) → Qv v H1) → tK g W b ma σ H Qv := fun Qv hq => ⟨e, fp, Y, _, st, hw, hx, fun v H1 fp1 d e1 a b c dd => hq v H1 fp1 d e1 a b c dd⟩
  -- which of the three it is shows only behind the value
  have three : PE X x (fun σ' H' Q => tK g W b ma σ' H' Q) := h
  refine thn (h.run pins s σ H (fun v H1 => ∃ fp1 d e1, Post b H fp H1 fp1 ∧ Stt g H1 σ e1 fp1 ∧ RepD g H1 v d ∧ itemsK d (fun xs => K xs e1)) I (base _ fun v H1 fp1 d e1 a b c dd => ⟨fp1, d, e1, a, b, c, dd⟩)) fun u s1 ⟨v, H1, I1, rv, fp1, d, e1, p1, st1, rd, kk⟩ => ?_
  -- the walk starts from a value that is there already
  have start : ∀ {t : TE} {ti : TI} (x0 : Expr), True := fun _ => trivial
  unfold itemsK at kk
  split at kk
  · cases rd with
    | @lst a vs ds hq r =>
      cases rv
      have hS : SqL X.K H1 a vs := by rw [eK]; exact hq.sq
      obtain ⟨its, rv, pl, hz⟩ := I1.list hS
      refine wpAny_pyIter_list pl.isList ?_
      refine ⟨s1.heap.objs.size, [s1.heap.objs.size], _, _, H1, rfl, I1.kept (t' := s1.toks) fun b o e => Heap.get?_push_of_some _ e, turn_list a _, ⟨_, Heap.get?_push_size _ rfl, rfl, rfl⟩, fun b hb => ?_, hk _ _ _ _ _ p1 st1 ⟨fun H' p i hi => ?_, fun H' p i d hd x H'' y => ?_, fun H' p => ?_, by rw [← r.length]; exact hz⟩ kk⟩
      · have e : b = s1.heap.objs.size := by simpa using hb
        subst e
        exact I1.fpOk (Nat.le_refl _) (I1.hok.fresh (Nat.le_refl _))
      · have : i < vs.length := by rw [r.length]; exact hi
        exact ⟨vs, vs[i], by rw [eK]; exact (p.fzL hq).sq, by simp [this]⟩
      · obtain ⟨w, h1, h2⟩ := r.get hd
        obtain ⟨e2, y⟩ := y
        have := y vs (by rw [eK]; exact (p.fzL hq).sq)
        rw [h1] at this; cases this
        exact ⟨e2, h2.mono p⟩
      · exact ⟨vs, by rw [eK]; exact (p.fzL hq).sq, by rw [r.length]; exact Nat.le_refl _⟩
  · obtain ⟨a, vs, rfl, hq, r⟩ := rd.tup_inv
    cases rv
    have hS : SqT X.K H1 a vs := SqT.of hq
    obtain ⟨its, rv, pl, hz⟩ := I1.tuple hS
    refine wpAny_pyIter_tuple (show s1.heap.IsTuple a its.toArray from pl) ?_
    refine ⟨s1.heap.objs.size, [s1.heap.objs.size], _, _, H1, rfl, I1.kept (t' := s1.toks) fun b o e => Heap.get?_push_of_some _ e, turn_tuple a _, ⟨_, Heap.get?_push_size _ rfl, rfl, rfl⟩, fun b hb => ?_, hk _ _ _ _ _ p1 st1 ⟨fun H' p i hi => ?_, fun H' p i d hd x H'' y => ?_, fun H' p => ?_, by rw [← r.length]; exact hz⟩ kk⟩
    · have e : b = s1.heap.objs.size := by simpa using hb
      subst e
      exact I1.fpOk (Nat.le_refl _) (I1.hok.fresh (Nat.le_refl _))
    · have : i < vs.length := by rw [r.length]; exact hi
      exact ⟨vs, vs[i], SqT.of (p.tups _ _ hq), by simp [this]⟩
    · obtain ⟨w, h1, h2⟩ := r.get hd
      obtain ⟨e2, y⟩ := y
      have := y vs (SqT.of (p.tups _ _ hq))
      rw [h1] at this; cases this
      exact ⟨e2, h2.mono p⟩
    · exact ⟨vs, SqT.of (p.tups _ _ hq), by rw [r.length]; exact Nat.le_refl _⟩
  · obtain ⟨rfl, ok⟩ := rd.str_inv
    rename_i z
    obtain ⟨t, rfl⟩ := rv
    have hit : Itm g (Its (sOf z)) H1 (z.map fun c => .str [c]) := by
      refine ⟨fun H' p i hi => ?_, fun H' p i d hd x H'' y => ?_, fun H' p => ?_, by simpa using ok.1⟩
      · show i < z.toArray.size
        simpa using hi
      · obtain ⟨e2, c, h1, rfl⟩ := y
        refine ⟨e2, ?_⟩
        rw [List.getElem?_map] at hd
        have h1' : z[i]? = some c := by simpa using h1
        rw [h1'] at hd
        cases hd
        exact .str [c] ⟨by simp [big], fun c' hc => by simp at hc; subst hc; exact ok.2 _ (List.mem_of_getElem? h1')⟩
      · show z.toArray.size ≤ _
        simp
    cases ha : (sOf z).cps.all (· < 128)
    · exact wpAny_pyIter_wide ha (pi_one (tk := s1.toks) I1 _ (turn_str _ (sOf z) t "str_iterator" (.inr rfl)) ⟨_, Heap.get?_push_size _ rfl, rfl, rfl⟩ (hk _ _ _ _ _ p1 st1 hit kk))
    · exact wpAny_pyIter_ascii ha (pi_one (tk := s1.toks) I1 _ (turn_str _ (sOf z) t "str_ascii_iterator" (.inl rfl)) ⟨_, Heap.get?_push_size _ rfl, rfl, rfl⟩ (hk _ _ _ _ _ p1 st1 hit kk))
  · exact kk.elim
/-- range(a, b), range(b) -/
theorem itm_range (lo : Int) (n : Nat) (hn : n ≤ big) {xs : List D} (h : xs = (List.range n).map fun (k : Nat) => D.int (lo + k)) : Itm g (Itr lo n) H xs := by
  subst h
  refine ⟨fun H' p i hi => by show i < n; simpa using hi, fun H' p i d hd x H'' y => ?_, fun H' p => by show n ≤ _; simp, by simpa using hn⟩
  obtain ⟨e, rfl⟩ := y
  refine ⟨e, ?_⟩
  rw [List.getElem?_map] at hd
  cases q : (List.range n)[i]? with
  | none => rw [q] at hd; cases hd
  | some j =>
    rw [q] at hd; cases hd
    obtain ⟨h1, h2⟩ := List.getElem?_eq_some_iff.mp q
    have : j = i := by simpa using h2.symm
    subst this
    exact .int _
def rngW1 (m : WpK) : WpLs := fun Y e k => m Y e fun d e1 => rngK none d fun r => frzK r fun d => itemsK d fun xs => k xs e1
def rngW2 (m m' : WpK) : WpLs := fun Y e k => m Y e fun a e1 => m' Y e1 fun d e2 => rngK (some a) d fun r => frzK r fun d => itemsK d fun xs => k xs e2
theorem ji_rng1 (ct : Ct g wd N sc lv X) (lk : Lnk g wd fds bl) {tg : Expr} (hg : glB sc bl "range" = true) (hn : noStar x = true) (h : PE X x (tK g W b ma)) {p : Pos} : PI X tg (.Call (.Name (Str.ofString "range") p) [x] [] pos) (tIt g W b (rngW1 ma)) := by
  obtain ⟨g1, g2⟩ := gl_of ct lk hg
  have pa : PA X [x] (tL g W b 1 fun Y e k => ma Y e fun d e1 => k [d] e1) := jl_cons hn h jl_nil
  refine ⟨fun pins s σ H R I q => ?_⟩
  obtain ⟨e, fp, Y, K, st, hw, hx, hk⟩ := q
  refine (pi_range1 g1 g2 pa (star_ne (env := X) hn)).run pins s σ H R I ⟨e, fp, Y, fun ds e1 => match ds with | [d] => rngK none d fun r => frzK r fun d => itemsK d fun xs => K xs e1 | _ => False, st, hw, hx, fun vs H1 fp1 ds e1 p1 st1 hl rs kk => ?_⟩
  simp only [] at kk
  split at kk
  · rename_i d
    cases rs with
    | cons rd rn =>
      cases rn
      unfold rngK at kk
      split at kk
      · rename_i n _
        rw [rd.int_inv]
        refine ⟨n, rfl, kk.1.1, by have := kk.1.2; omega, hk _ _ _ _ _ p1 st1 (itm_range 0 n.toNat (by have := kk.1.2; show _ ≤ 16777216; omega) ?_) kk.2⟩
        simp
      · rename_i heq; cases heq
      · exact kk.elim
  · exact kk.elim
theorem ji_rng2 (ct : Ct g wd N sc lv X) (lk : Lnk g wd fds bl) {tg : Expr} (hg : glB sc bl "range" = true) (hn : noStar x = true) (hn2 : noStar y = true) (h : PE X x (tK g W b ma)) (h2 : PE X y (tK g W b mb)) {p : Pos} : PI X tg (.Call (.Name (Str.ofString "range") p) [x, y] [] pos) (tIt g W b (rngW2 ma mb)) := by
  obtain ⟨g1, g2⟩ := gl_of ct lk hg
  have pa : PA X [x, y] (tL g W b 2 fun Y e k => ma Y e fun d e1 => mb Y e1 fun d2 e2 => k [d, d2] e2) := jl_cons hn h (jl_cons hn2 h2 jl_nil)
  have e1 : starEach [y] X.env = [(false, eval y X.env)] := star_ne (env := X) hn2
  refine ⟨fun pins s σ H R I q => ?_⟩
  obtain ⟨e, fp, Y, K, st, hw, hx, hk⟩ := q
  refine (pi_range2 g1 g2 pa (by rw [star_ne (env := X) hn, e1]) e1).run pins s σ H R I ⟨e, fp, Y, fun ds e1 => match ds with | [d, d2] => rngK (some d) d2 fun r => frzK r fun d => itemsK d fun xs => K xs e1 | _ => False, st, hw, hx, fun vs H1 fp1 ds e1 p1 st1 hl rs kk => ?_⟩
  simp only [] at kk
  split at kk
  · rename_i d d2
    cases rs with
    | cons rd rn =>
      cases rn with
      | cons rd2 rn =>
        cases rn
        unfold rngK at kk
        split at kk
        · rename_i heq; cases heq
        · rename_i m n heq
          cases heq
          rw [rd.int_inv, rd2.int_inv]
          exact ⟨m, n, rfl, ⟨kk.1.1.1, kk.1.1.2, kk.1.2.1.1, kk.1.2.1.2⟩, hk _ _ _ _ _ p1 st1 (itm_range m (n - m).toNat (by have := kk.1.2.2; show _ ≤ 16777216; omega) rfl) kk.2⟩
        · exact kk.elim
  · exact kk.elim
end
end Gr

end
section
set_option Elab.async false
set_option linter.all false
set_option maxRecDepth 100000
set_option maxHeartbeats 4000000
namespace Gr
open PySem PySem.Spec L2
open PyProof.Rows hiding St
section
variable {X : L2.Cx} {g : Gm} {wd : Wd} {N : List String} {sc : Scope} {lv : Nat} {fds bl : List String} {W : WX} {b b2 : Bool} {pins : List (Addr × Obj)} {σ σ' : L2.St} {H H0 H1 H2 : Hp} {s s2 : Shared} {e e1 e2 : Env} {fp fp1 fp2 fp' : List Addr} {Y : Xt}
variable {x y z c : Expr} {ma mb mc : WpK} {me me' : WpE} {pos apos : Pos}
theorem Post.sub {fp0 : List Addr} (p : Post b H fp H1 fp1) (h0 : ∀ a ∈ fp, a ∈ fp0) (h1 : ∀ a ∈ fp2, a ∈ fp1) : Post b H fp0 H1 fp2 :=
  ⟨fun a o q n => p.keep a o q fun z => n (h0 a z), p.there, fun a h => by
    rcases p.own a (h1 a h) with h | h
    · exact .inl (h0 a h)
    · exact .inr h, p.ins⟩
theorem Post.not_in {D : Addr} {o : HO} (p : Post b H fp H1 fp1) (h : H D = some o) (n : D ∉ fp) : H1 D = some o ∧ D ∉ fp1 := ⟨p.keep D o h n, fun z => by
  rcases p.own D z with z | z
  · exact n z
  · rw [h] at z; cases z⟩
theorem Post.not_none {D : Addr} (p : Post b H fp H1 fp1) (h : H1 D = none) : H D = none := by
  cases q : H D with
  | none => rfl
  | some o => exact absurd h (p.there D (by rw [q]; exact Option.some_ne_none _))
/-- a new thing is changed -/
theorem Post.upd_new {D : Addr} {o u : HO} (p : Post b H fp H1 fp1) (h : H D = none) (hu : H1 D = some u) : Post b H fp (upd H1 D o) fp1 :=
  ⟨fun a w q n => by rw [upd_ne (ne_of_none q h)]; exact p.keep a w q n, fun a q => by
    by_cases e : a = D
    · subst e; rw [upd_same]; exact Option.some_ne_none _
    · rw [upd_ne e]; exact p.there a q, p.own, fun z a C dx fs q => by rw [upd_ne (ne_of_none q h)]; exact p.ins z a C dx fs q⟩
theorem wipe_out {j : Nat} : ∀ {vs : List Nat}, j ∉ vs → (wipe σ vs)[j]? = σ[j]?
  | [], _ => rfl
  | v :: vs, h => by
    unfold wipe
    rw [List.getElem?_set_ne (fun z => h (by simp [z]))]
    exact wipe_out fun z => h (by simp [z])
theorem wipe_in {j : Nat} : ∀ {vs : List Nat}, j ∈ vs → (wipe σ vs)[j]? = none ∨ (wipe σ vs)[j]? = some none
  | v :: vs, h => by
    unfold wipe
    by_cases e : v = j
    · subst e
      by_cases hl : v < (wipe σ vs).length
      · rw [List.getElem?_set_self hl]; exact .inr rfl
      · rw [List.getElem?_eq_none (by simpa using hl)]; exact .inl rfl
    · rw [List.getElem?_set_ne e]
      exact wipe_in (by rcases List.mem_cons.mp h with h | h; exact absurd h.symm e; exact h)
theorem wipe_eq {vs : List Nat} (hl : σ'.length = σ.length) (h : ∀ j, j ∉ vs → σ'[j]? = σ[j]?) : wipe σ' vs = wipe σ vs := by
  refine List.ext_getElem? fun j => ?_
  by_cases hj : j ∈ vs
  · by_cases hl2 : j < σ.length
    · have a := wipe_in (σ := σ) hj
      have b := wipe_in (σ := σ') hj
      have la : j < (wipe σ vs).length := by rw [wipe_length]; exact hl2
      have lb : j < (wipe σ' vs).length := by rw [wipe_length, hl]; exact hl2
      rcases a with a | a
      · rw [List.getElem?_eq_none_iff] at a; omega
      · rcases b with b | b
        · rw [List.getElem?_eq_none_iff] at b; omega
        · rw [a, b]
    · rw [List.getElem?_eq_none (by rw [wipe_length]; omega), List.getElem?_eq_none (by rw [wipe_length]; omega)]
  · rw [wipe_out hj, wipe_out hj]; exact h j hj
/-- slots that were wiped are given back -/
theorem Stt.back : ∀ {is : List Nat} {e : Env} {fp : List Addr} {k : Env → Prop}, Stt g H σ e fp → (∀ (i : Nat) (d : D), e1[i]? = some (Sl.val d) → ∃ v, σ[i]? = some (some v) ∧ RepD g H v d) → backK is e1 e k → ∃ e' fp', k e' ∧ Stt g H σ e' fp' ∧ ∀ a ∈ fp', a ∈ fp
  | [], e, fp, k, st, hv, h => ⟨e, fp, h, st, fun _ h => h⟩
  | i :: is, e, fp, k, st, hv, h => by
    obtain ⟨sl, h1, h2⟩ := lookK_iff.mp (show lookK e1 i (fun s => calmK s (setK e i s fun e' => backK is e1 e' k)) from h)
    cases sl with
    | no =>
      obtain ⟨hi, h2⟩ := setK_iff.mp h2
      obtain ⟨fp1, st1, sub⟩ := st.setN hi
      obtain ⟨e', fp', q1, q2, q3⟩ := Stt.back st1 hv h2
      exact ⟨e', fp', q1, q2, fun a ha => sub a (q3 a ha)⟩
    | val d =>
      obtain ⟨hi, h2⟩ := setK_iff.mp h2
      obtain ⟨v, h3, h4⟩ := hv i d h1
      obtain ⟨fp1, st1, sub⟩ := st.setV hi h4
      rw [set_same h3] at st1
      obtain ⟨e', fp', q1, q2, q3⟩ := Stt.back st1 hv h2
      exact ⟨e', fp', q1, q2, fun a ha => sub a (q3 a ha)⟩
    | own _ => exact h2.elim
    | obj _ _ => exact h2.elim
theorem Stt.val (st : Stt g H σ e fp) {i : Nat} {d : D} (h : e[i]? = some (.val d)) : ∃ v, σ[i]? = some (some v) ∧ RepD g H v d := by
  obtain ⟨y, as, pre, post, s1, s2, s3, s4⟩ := st.rep.split h
  cases s2 with
  | val rd => exact ⟨_, s1, rd⟩

variable {mi : WpLs} {mt : Env → (Bool → Env → Prop) → Prop} {ml mk : Env → (Sl → Env → Prop) → Prop}
def kept0 (m : Env → (Sl → Env → Prop) → Prop) : WpK := fun _ e k => m e fun s e1 => frzK s fun d => k d e1
abbrev WF : WX := fun _ _ _ _ => False
theorem comp_read {tg : Tg} {vs : List Nat} (hv : ∀ j, j ∈ vs ↔ j ∈ tg.ix) {Q : VK} {Y : Xt} {K : Sl → Env → Prop} (st : Stt g H σ e fp)
    (hw : mi Y e fun xs e1 => wipeK tg.ix e1 fun e2 => compK tg mt ml xs e2 fun ds e3 => backK tg.ix e1 e3 fun e4 => K (.own (.lst ds)) e4) (hx : XOk g W σ H fp Y) (hk : Hk g b σ H fp K Q) :
    tLc (tIt g W b mi) (tG g tg) (tTs g WF b fun _ => mt) (tK g WF b (kept0 ml)) vs σ H Q := by
  refine ⟨e, fp, Y, _, st, hw, hx, fun J H1 fp1 xs e1 p1 st1 it kk D nD => ?_⟩
  obtain ⟨e2, fp2, kk, st2, sub2, no2, len2, out2⟩ := st1.wipe kk
  have st3 : Stt g H1 (wipe σ vs) e2 fp2 := st2.ext (wipe_length σ vs) fun j s hj => by
    by_cases hm : j ∈ tg.ix
    · rw [no2 j hm] at hj; cases hj; exact .inl rfl
    · exact .inr (wipe_out fun z => hm ((hv j).mp z))
  have nD2 : D ∉ fp2 := st2.none nD
  refine ⟨fun i m Hc => m = xs.length - i ∧ i ≤ xs.length ∧ ∃ e' fp' ws ds, Stt g Hc (wipe σ vs) e' fp' ∧ Post b H1 fp2 Hc fp' ∧ Hc D = some (.lst ws) ∧ RepDs g Hc ws ds ∧ ws.length ≤ i ∧ D ∉ fp' ∧ (∀ j ∈ tg.ix, e'[j]? = some .no) ∧
    compK tg mt ml (xs.drop i) e' fun ys e3 => backK tg.ix e1 e3 fun e4 => K (.own (.lst (ds ++ ys))) e4,
    ⟨xs.length, rfl, Nat.zero_le _, e2, fp2, [], [], st3.upd nD2 (.inl nD), .new nD, upd_same, .nil, Nat.le_refl _, nD2, no2, kk⟩, ?_⟩
  rintro i m Hc ⟨rfl, hi, e', fp', ws, ds, st4, p4, hD, rds, hwl, nD4, no4, kk4⟩
  have pr : Pers H1 Hc := st2.pers p4
  by_cases hlt : i < xs.length
  · refine .inr ⟨it.go Hc pr i hlt, fun H' => ∃ m', m' < xs.length - i ∧ (m' = xs.length - (i + 1) ∧ i + 1 ≤ xs.length ∧ ∃ e' fp' ws ds, Stt g H' (wipe σ vs) e' fp' ∧ Post b H1 fp2 H' fp' ∧ H' D = some (.lst ws) ∧ RepDs g H' ws ds ∧ ws.length ≤ i + 1 ∧ D ∉ fp' ∧ (∀ j ∈ tg.ix, e'[j]? = some .no) ∧
      compK tg mt ml (xs.drop (i + 1)) e' fun ys e3 => backK tg.ix e1 e3 fun e4 => K (.own (.lst (ds ++ ys))) e4), fun H' h => h, fun x H' hy => ?_⟩
    obtain ⟨rfl, rd⟩ := it.yld Hc pr i xs[i] (by simp [hlt]) x H' hy
    rw [List.drop_eq_getElem_cons hlt] at kk4
    simp only [compK] at kk4
    refine ⟨e', fp', xs[i], _, st4, rd, kk4, fun e5 σ5 fp5 st5 sub5 s5 kk5 => ⟨?_, e5, fp5, fun _ _ _ => False, _, st5, kk5, .none, fun t H6 fp6 e6 p6 st6 kk6 => ?_⟩⟩
    · rw [wipe_eq (σ := wipe σ vs) s5.len fun j hj => s5.out j fun z => hj ((hv j).mpr z)]
      exact wipe_eq (wipe_length _ _) fun j hj => wipe_out hj
    · have nD5 : D ∉ fp5 := fun z => nD4 (sub5 D z)
      have p5 : Post b H1 fp2 H' fp5 := p4.sub (fun _ h => h) sub5
      obtain ⟨hD6, nD6⟩ := p6.not_in hD nD5
      -- behind the turn
      have fin : ∀ {H7 : Hp} {fp7 : List Addr} {e7 : Env} {ws' : List V} {ds' : List Gr.D}, Stt g H7 σ5 e7 fp7 → Post b H1 fp2 H7 fp7 → H7 D = some (.lst ws') → D ∉ fp7 → RepDs g H7 ws' ds' → ws'.length ≤ i + 1 →
          wipeK tg.ix e7 (fun e8 => compK tg mt ml (xs.drop (i + 1)) e8 fun ys e3 => backK tg.ix e1 e3 fun e4 => K (.own (.lst (ds' ++ ys))) e4) →
          ∃ m', m' < xs.length - i ∧ (m' = xs.length - (i + 1) ∧ i + 1 ≤ xs.length ∧ ∃ e' fp' ws ds, Stt g H7 (wipe σ vs) e' fp' ∧ Post b H1 fp2 H7 fp' ∧ H7 D = some (.lst ws) ∧ RepDs g H7 ws ds ∧ ws.length ≤ i + 1 ∧ D ∉ fp' ∧ (∀ j ∈ tg.ix, e'[j]? = some .no) ∧
            compK tg mt ml (xs.drop (i + 1)) e' fun ys e3 => backK tg.ix e1 e3 fun e4 => K (.own (.lst (ds ++ ys))) e4) := by
        intro H7 fp7 e7 ws' ds' st7 p7 hD7 nD7 rds' hl' hw'
        obtain ⟨e8, fp8, kk8, st8, sub8, no8, len8, out8⟩ := st7.wipe hw'
        exact ⟨_, by omega, rfl, hlt, e8, fp8, ws', ds', st8.ext s5.len.symm (fun j s hj => by
          by_cases hm : j ∈ tg.ix
          · rw [no8 j hm] at hj; cases hj; exact .inl rfl
          · exact .inr (s5.out j hm).symm), p7.sub (fun _ h => h) sub8, hD7, rds', hl', fun z => nD7 (sub8 D z), no8, kk8⟩
      cases t with
      | false =>
        rw [if_neg (by decide)] at kk6
        show if false = true then _ else _
        rw [if_neg (by decide)]
        exact fin st6 (p5.trans' p6) hD6 nD6 (rds.mono (st5.pers p6)) (by omega) kk6
      | true =>
        rw [if_pos rfl] at kk6
        show if true = true then _ else _
        rw [if_pos rfl]
        refine ⟨e6, fp6, fun _ _ _ => False, _, st6, kk6, .none, fun v H7 fp7 d e7 p7 st7 rd7 kk7 => ?_⟩
        obtain ⟨hD7, nD7⟩ := p7.not_in hD6 nD6
        refine ⟨ws, hD7, by have : big = sizeLine := rfl; have := it.len; omega, ?_⟩
        have pu : Pers H7 (upd H7 D (.lst (ws ++ [v]))) := pers_upd (.inr ⟨_, hD7, trivial⟩)
        refine fin (st7.upd nD7 (.inr ⟨_, hD7, trivial⟩)) (((p5.trans' p6).trans' p7).upd_new nD hD7) upd_same nD7 ((((rds.mono (st5.pers p6)).mono (st6.pers p7)).append (.cons rd7 .nil)).mono pu) (by rw [List.length_append]; simpa using hwl) (ds' := ds ++ [d]) ?_
        simp only [List.append_assoc, List.cons_append, List.nil_append]
        exact kk7
  · have e : i = xs.length := by omega
    subst e
    rw [List.drop_length] at kk4
    simp only [compK] at kk4
    refine .inl ⟨it.stop Hc pr, ?_⟩
    obtain ⟨e5, fp5, kk5, st5, sub5⟩ := (st4.ext (σ' := σ) (wipe_length σ vs).symm fun j s hj => by
      by_cases hm : j ∈ tg.ix
      · rw [no4 j hm] at hj; cases hj; exact .inl rfl
      · exact .inr (wipe_out fun z => hm ((hv j).mp z)).symm).back (fun i d h => by
        obtain ⟨v, q1, q2⟩ := st1.val h
        exact ⟨v, q1, q2.mono pr⟩) kk4
    rw [List.append_nil] at kk5
    exact hk _ _ _ _ _ (p1.trans' (p4.sub sub2 sub5)) st5 (.own (.lst hD rds) (fun z => nD4 (sub5 D z)) (.inr (p1.not_none nD))) kk5
theorem RepKs.put {k : Key} {v : V} {d : D} (h : RepD g H v d) {ds : List (D × D)} {kvs : List (Key × V)} (r : RepKs g H kvs ds) : RepKs g H (putK kvs k v) (putD ds (keyD k) d) := by
  have any : ∀ {ds : List (D × D)} {kvs : List (Key × V)}, RepKs g H kvs ds → (kvs.any fun kv => decide (kv.1 = k)) = ds.any fun p => eqD p.1 (keyD k) := fun {ds kvs} r => by
    induction ds generalizing kvs with
    | nil => cases r; rfl
    | cons p ds ih =>
      cases r with
      | cons h r => rw [List.any_cons, List.any_cons, ih r, keyD_eq]
  have mp : ∀ {ds : List (D × D)} {kvs : List (Key × V)}, RepKs g H kvs ds → RepKs g H (kvs.map fun kv => if kv.1 = k then (kv.1, v) else kv) (ds.map fun p => if eqD p.1 (keyD k) then (p.1, d) else p) := fun {ds kvs} r => by
    induction ds generalizing kvs with
    | nil => cases r; exact .nil
    | cons p ds ih =>
      cases r with
      | @cons k' v' vs d' ds h' r =>
        rw [List.map_cons, List.map_cons]
        show RepKs g H ((if k' = k then (k', v) else (k', v')) :: _) ((if eqD (keyD k') (keyD k) = true then (keyD k', d) else (keyD k', d')) :: _)
        rw [keyD_eq]
        by_cases c : k' = k
        · rw [if_pos c, if_pos (decide_eq_true c)]; exact .cons h (ih r)
        · rw [if_neg c, if_neg (by simpa using c)]; exact .cons h' (ih r)
  have ap : ∀ {ds : List (D × D)} {kvs : List (Key × V)}, RepKs g H kvs ds → RepKs g H (kvs ++ [(k, v)]) (ds ++ [(keyD k, d)]) := fun {ds kvs} r => by
    induction ds generalizing kvs with
    | nil => cases r; exact .cons h .nil
    | cons p ds ih =>
      cases r with
      | cons h' r => exact .cons h' (ih r)
  unfold putK putD
  rw [any r]
  split
  · exact mp r
  · exact ap r
theorem RepTs.put {k : List Key} {v : V} {d : D} (h : RepD g H v d) {ds : List (D × D)} {kvs : List (List Key × V)} (r : RepTs g H kvs ds) : RepTs g H (putK kvs k v) (putD ds (keysD k) d) := by
  have any : ∀ {ds : List (D × D)} {kvs : List (List Key × V)}, RepTs g H kvs ds → (kvs.any fun kv => decide (kv.1 = k)) = ds.any fun p => eqD p.1 (keysD k) := fun {ds kvs} r => by
    induction ds generalizing kvs with
    | nil => cases r; rfl
    | cons p ds ih =>
      cases r with
      | cons h r => rw [List.any_cons, List.any_cons, ih r, keysD_eq]
  have mp : ∀ {ds : List (D × D)} {kvs : List (List Key × V)}, RepTs g H kvs ds → RepTs g H (kvs.map fun kv => if kv.1 = k then (kv.1, v) else kv) (ds.map fun p => if eqD p.1 (keysD k) then (p.1, d) else p) := fun {ds kvs} r => by
    induction ds generalizing kvs with
    | nil => cases r; exact .nil
    | cons p ds ih =>
      cases r with
      | @cons k' v' vs d' ds h' r =>
        rw [List.map_cons, List.map_cons]
        show RepTs g H ((if k' = k then (k', v) else (k', v')) :: _) ((if eqD (keysD k') (keysD k) = true then (keysD k', d) else (keysD k', d')) :: _)
        rw [keysD_eq]
        by_cases c : k' = k
        · rw [if_pos c, if_pos (decide_eq_true c)]; exact .cons h (ih r)
        · rw [if_neg c, if_neg (by simpa using c)]; exact .cons h' (ih r)
  have ap : ∀ {ds : List (D × D)} {kvs : List (List Key × V)}, RepTs g H kvs ds → RepTs g H (kvs ++ [(k, v)]) (ds ++ [(keysD k, d)]) := fun {ds kvs} r => by
    induction ds generalizing kvs with
    | nil => cases r; exact .cons h .nil
    | cons p ds ih =>
      cases r with
      | cons h' r => exact .cons h' (ih r)
  unfold putK putD
  rw [any r]
  split
  · exact mp r
  · exact ap r
theorem dcomp_read {tg : Tg} {vs : List Nat} (hv : ∀ j, j ∈ vs ↔ j ∈ tg.ix) {Q : VK} {Y : Xt} {K : Sl → Env → Prop} (st : Stt g H σ e fp)
    (hw : mi Y e fun xs e1 => wipeK tg.ix e1 fun e2 => dcompK tg mk ml xs [] e2 fun ds e3 => backK tg.ix e1 e3 fun e4 => K (.own (.dct false ds)) e4) (hx : XOk g W σ H fp Y) (hk : Hk g b σ H fp K Q) :
    tDc (tIt g W b mi) (tG g tg) tYes (tK g WF b (kept0 mk)) (tK g WF b (kept0 ml)) vs σ H Q := by
  refine ⟨e, fp, Y, _, st, hw, hx, fun J H1 fp1 xs e1 p1 st1 it kk D nD => ?_⟩
  obtain ⟨e2, fp2, kk, st2, sub2, no2, len2, out2⟩ := st1.wipe kk
  have st3 : Stt g H1 (wipe σ vs) e2 fp2 := st2.ext (wipe_length σ vs) fun j s hj => by
    by_cases hm : j ∈ tg.ix
    · rw [no2 j hm] at hj; cases hj; exact .inl rfl
    · exact .inr (wipe_out fun z => hm ((hv j).mp z))
  have nD2 : D ∉ fp2 := st2.none nD
  refine ⟨fun i m Hc => m = xs.length - i ∧ i ≤ xs.length ∧ ∃ e' fp' ws ds, Stt g Hc (wipe σ vs) e' fp' ∧ Post b H1 fp2 Hc fp' ∧ Hc D = some (.dK ws) ∧ RepKs g Hc ws ds ∧ ws.length ≤ i ∧ D ∉ fp' ∧ (∀ j ∈ tg.ix, e'[j]? = some .no) ∧
    dcompK tg mk ml (xs.drop i) ds e' fun ys e3 => backK tg.ix e1 e3 fun e4 => K (.own (.dct false ys)) e4,
    ⟨xs.length, rfl, Nat.zero_le _, e2, fp2, [], [], st3.upd nD2 (.inl nD), .new nD, upd_same, .nil, Nat.le_refl _, nD2, no2, kk⟩, ?_⟩
  rintro i m Hc ⟨rfl, hi, e', fp', ws, ds, st4, p4, hD, rds, hwl, nD4, no4, kk4⟩
  have pr : Pers H1 Hc := st2.pers p4
  by_cases hlt : i < xs.length
  · refine .inr ⟨it.go Hc pr i hlt, fun H' => ∃ m', m' < xs.length - i ∧ (m' = xs.length - (i + 1) ∧ i + 1 ≤ xs.length ∧ ∃ e' fp' ws ds, Stt g H' (wipe σ vs) e' fp' ∧ Post b H1 fp2 H' fp' ∧ H' D = some (.dK ws) ∧ RepKs g H' ws ds ∧ ws.length ≤ i + 1 ∧ D ∉ fp' ∧ (∀ j ∈ tg.ix, e'[j]? = some .no) ∧
      dcompK tg mk ml (xs.drop (i + 1)) ds e' fun ys e3 => backK tg.ix e1 e3 fun e4 => K (.own (.dct false ys)) e4), fun H' h => h, fun x H' hy => ?_⟩
    obtain ⟨rfl, rd⟩ := it.yld Hc pr i xs[i] (by simp [hlt]) x H' hy
    rw [List.drop_eq_getElem_cons hlt] at kk4
    simp only [dcompK] at kk4
    refine ⟨e', fp', xs[i], _, st4, rd, kk4, fun e5 σ5 fp5 st5 sub5 s5 kk5 => ⟨?_, ?_⟩⟩
    · rw [wipe_eq (σ := wipe σ vs) s5.len fun j hj => s5.out j fun z => hj ((hv j).mpr z)]
      exact wipe_eq (wipe_length _ _) fun j hj => wipe_out hj
    · have nD5 : D ∉ fp5 := fun z => nD4 (sub5 D z)
      have p5 : Post b H1 fp2 H' fp5 := p4.sub (fun _ h => h) sub5
      -- behind the turn
      have fin : ∀ {H7 : Hp} {fp7 : List Addr} {e7 : Env} {ws' : List (Key × V)} {ds' : List (Gr.D × Gr.D)}, Stt g H7 σ5 e7 fp7 → Post b H1 fp2 H7 fp7 → H7 D = some (.dK ws') → D ∉ fp7 → RepKs g H7 ws' ds' → ws'.length ≤ i + 1 →
          wipeK tg.ix e7 (fun e8 => dcompK tg mk ml (xs.drop (i + 1)) ds' e8 fun ys e3 => backK tg.ix e1 e3 fun e4 => K (.own (.dct false ys)) e4) →
          ∃ m', m' < xs.length - i ∧ (m' = xs.length - (i + 1) ∧ i + 1 ≤ xs.length ∧ ∃ e' fp' ws ds, Stt g H7 (wipe σ vs) e' fp' ∧ Post b H1 fp2 H7 fp' ∧ H7 D = some (.dK ws) ∧ RepKs g H7 ws ds ∧ ws.length ≤ i + 1 ∧ D ∉ fp' ∧ (∀ j ∈ tg.ix, e'[j]? = some .no) ∧
            dcompK tg mk ml (xs.drop (i + 1)) ds e' fun ys e3 => backK tg.ix e1 e3 fun e4 => K (.own (.dct false ys)) e4) := by
        intro H7 fp7 e7 ws' ds' st7 p7 hD7 nD7 rds' hl' hw'
        obtain ⟨e8, fp8, kk8, st8, sub8, no8, len8, out8⟩ := st7.wipe hw'
        exact ⟨_, by omega, rfl, hlt, e8, fp8, ws', ds', st8.ext s5.len.symm (fun j s hj => by
          by_cases hm : j ∈ tg.ix
          · rw [no8 j hm] at hj; cases hj; exact .inl rfl
          · exact .inr (s5.out j hm).symm), p7.sub (fun _ h => h) sub8, hD7, rds', hl', fun z => nD7 (sub8 D z), no8, kk8⟩
      simp only [tYes, ↓reduceIte]
      refine ⟨e5, fp5, fun _ _ _ => False, _, st5, kk5, .none, fun vk H6 fp6 dk e6 p6 st6 rdk kk6 => ?_⟩
      obtain ⟨hD6, nD6⟩ := p6.not_in hD nD5
      refine ⟨e6, fp6, fun _ _ _ => False, _, st6, kk6, .none, fun v H7 fp7 d e7 p7 st7 rd7 kk7 => ?_⟩
      obtain ⟨hD7, nD7⟩ := p7.not_in hD6 nD6
      unfold strK at kk7
      split at kk7
      · rename_i z
        obtain ⟨rfl, ok⟩ := rdk.str_inv
        refine ⟨ws, .inr (sOf z), rfl, hD7, by have : big = sizeLine := rfl; have := it.len; omega, ?_⟩
        have pu : Pers H7 (upd H7 D (.dK (putK ws (.inr (sOf z)) v))) := pers_upd (.inr ⟨_, hD7, trivial⟩)
        refine fin (ds' := putD ds (keyD (.inr (sOf z))) d) (st7.upd nD7 (.inr ⟨_, hD7, trivial⟩)) (((p5.trans' p6).trans' p7).upd_new nD hD7) upd_same nD7 ((((rds.mono (st5.pers p6)).mono (st6.pers p7)).put (k := .inr (sOf z)) rd7).mono pu) (by have := length_putK ws (.inr (sOf z)) v; omega) ?_
        have ez : (keyD (.inr (sOf z))) = .str z := by show Gr.D.str (sOf z).cps.toList = _; simp
        rw [ez]
        exact kk7
      · exact kk7.elim
  · have e : i = xs.length := by omega
    subst e
    rw [List.drop_length] at kk4
    simp only [dcompK] at kk4
    refine .inl ⟨it.stop Hc pr, ?_⟩
    obtain ⟨e5, fp5, kk5, st5, sub5⟩ := (st4.ext (σ' := σ) (wipe_length σ vs).symm fun j s hj => by
      by_cases hm : j ∈ tg.ix
      · rw [no4 j hm] at hj; cases hj; exact .inl rfl
      · exact .inr (wipe_out fun z => hm ((hv j).mp z)).symm).back (fun i d h => by
        obtain ⟨v, q1, q2⟩ := st1.val h
        exact ⟨v, q1, q2.mono pr⟩) kk4
    exact hk _ _ _ _ _ (p1.trans' (p4.sub sub2 sub5)) st5 (.own (.dK hD rds) (fun z => nD4 (sub5 D z)) (.inr (p1.not_none nD))) kk5
/-! ### as expressions -/
theorem jts_nil : PTs X [] (tTs g W b fun _ e k => k true e) := by
  refine ⟨fun pins s σ H Q I q => ?_⟩
  obtain ⟨e, fp, Y, K, st, hw, hx, hk⟩ := q
  exact wpAny_tests_nil ⟨H, I, hk _ _ _ _ .refl st hw⟩
theorem jts_one {mt : WpTt} (h : PT X c (tTs g W b mt)) : PTs X [c] (tTs g W b fun Y e k => mt Y e fun t e1 => if t = true then k true e1 else k false e1) := by
  refine ⟨fun pins s σ H Q I q => ?_⟩
  obtain ⟨e, fp, Y, K, st, hw, hx, hk⟩ := q
  refine wpAny_tests_one (runT h I st hw hx fun t s1 H1 fp1 e1 I1 p1 st1 hx1 kk => ?_)
  cases t with
  | true => exact ⟨H1, I1, hk _ _ _ _ p1 st1 kk⟩
  | false => exact ⟨H1, I1, hk _ _ _ _ p1 st1 kk⟩
variable {elt kx iter tgE : Expr} {ifs : List Expr} {scope : Scope} {own : List (Str × Nat)} {tg : Tg}
abbrev blkX (X : L2.Cx) (s : Shared) (H : Hp) (scope : Scope) (C : Addr) (cl : List (Str × Addr)) (fp : List Addr) : L2.Cx := X.blk s H scope (compEnvC scope cl C X.env) fp
theorem je_comp (ct : Ct g wd N sc lv X) (ok : BlkOk X.N X.env.scope scope own) (ho : own.map (·.2) = tg.ix) (hi : PI X tgE iter (tIt g W b mi)) (hg : ∀ s H C cl fp, PG (blkX X s H scope C cl fp) tgE (tG g tg)) (ht : ∀ s H C cl fp, PTs (blkX X s H scope C cl fp) ifs (tTs g WF b fun _ => mt))
    (he : ∀ s H C cl fp, PE (blkX X s H scope C cl fp) elt (tK g WF b (kept0 ml))) (hs : ∀ x, foldedSetIterable iter X.env x = pure x) :
    PE X (.ListComp elt [⟨tgE, iter, ifs, 0⟩] scope pos) (tE g W b fun Y e k => mi Y e fun xs e1 => wipeK tg.ix e1 fun e2 => compK tg mt ml xs e2 fun ds e3 => backK tg.ix e1 e3 fun e4 => k (.own (.lst ds)) e4) := by
  refine peMono (pe_lc ct.calm ct.nd hi ok hg ht he hs) fun σ H Q q => ?_
  obtain ⟨e, fp, Y, K, st, hw, hx, hk⟩ := q
  rw [ho]
  exact comp_read (fun j => Iff.rfl) st hw hx hk
theorem je_dcomp (ct : Ct g wd N sc lv X) (ok : BlkOk X.N X.env.scope scope own) (ho : own.map (·.2) = tg.ix) (hi : PI X tgE iter (tIt g W b mi)) (hg : ∀ s H C cl fp, PG (blkX X s H scope C cl fp) tgE (tG g tg))
    (hkx : ∀ s H C cl fp, PE (blkX X s H scope C cl fp) kx (tK g WF b (kept0 mk))) (he : ∀ s H C cl fp, PE (blkX X s H scope C cl fp) elt (tK g WF b (kept0 ml))) (hs : ∀ x, foldedSetIterable iter X.env x = pure x) :
    PE X (.DictComp kx elt [⟨tgE, iter, [], 0⟩] scope pos) (tE g W b fun Y e k => mi Y e fun xs e1 => wipeK tg.ix e1 fun e2 => dcompK tg mk ml xs [] e2 fun ds e3 => backK tg.ix e1 e3 fun e4 => k (.own (.dct false ds)) e4) := by
  refine peMono (pe_dc ct.calm ct.nd hi ok hg (fun _ _ _ _ _ => pts_nil) hkx he hs) fun σ H Q q => ?_
  obtain ⟨e, fp, Y, K, st, hw, hx, hk⟩ := q
  rw [ho]
  exact dcomp_read (fun j => Iff.rfl) st hw hx hk
end
end Gr

end
section
set_option Elab.async false
set_option linter.all false
set_option maxRecDepth 100000
set_option maxHeartbeats 4000000
namespace Gr
open PySem PySem.Spec L2
open PyProof.Rows hiding St
theorem del_eq (a n : Nat) (f : Value × Nat → Option Value) (hf : ∀ x k, f (x, k) = if (decide ((a : Int) ≤ (k : Int)) && decide ((k : Int) < (n : Int)) && ((k : Int) - (a : Int)) % 1 == 0) = true then none else some x) :
    ∀ (its : List Value) (j : Nat), j + its.length ≤ n → (its.zipIdx j).filterMap f = its.take (a - j)
  | [], j, _ => by simp
  | x :: its, j, h => by
    rw [List.zipIdx_cons, List.filterMap_cons, hf]
    have h' : j + (its.length + 1) ≤ n := h
    have ih := del_eq a n f hf its (j + 1) (by omega)
    have e : ((j : Int) - (a : Int)) % 1 = 0 := Int.emod_one _
    by_cases c : a ≤ j
    · rw [if_pos (by simp [e]; omega)]
      show List.filterMap f (its.zipIdx (j + 1)) = _
      rw [ih]
      have e1 : a - j = 0 := by omega
      have e2 : a - (j + 1) = 0 := by omega
      rw [e1, e2]; simp
    · rw [if_neg (by simp; intro h; omega)]
      show x :: List.filterMap f (its.zipIdx (j + 1)) = _
      rw [ih]
      obtain ⟨m, hm⟩ : ∃ m, a - j = m + 1 := ⟨a - j - 1, by omega⟩
      rw [hm, show a - (j + 1) = m by omega, List.take_succ_cons]
theorem zip_fst {α β : Type} (f : α → Option β) : True := trivial
section
variable {prog : Program} {w : World} {A : Around} {E : Value → Shared → Prop} {s : Shared}
theorem delItem_slice {l sl : Addr} {its : List Value} {n : Nat} {vl vu : Value} {lo hi : Option Int} {Q : Unit → Shared → Prop}
    (e : s.heap.get? l = some { cls := .type "list", data := .seq its.toArray n }) (hs : s.heap.IsSliceOf sl vl vu .none) (pl : IsPart vl lo) (pu : IsPart vu hi) (hiN : hi = none) (hsz : its.length ≤ sizeLine)
    (h : ∀ f : Array Value → Array Value, f its.toArray = (its.take (HT.sIx its.length 0 lo)).toArray → Q () { s with heap := s.heap.update l (Obj.mapSeq f) }) :
    wpAny (model prog w) A (delItem (.ref l) (.ref sl)) Q E s := by
  subst hiN
  have hl : s.heap.IsList l its.toArray := PySem.IsL.isList e
  obtain ⟨os, hos, hcs, hds⟩ := id hs
  have hTs : s.TypeIs (.ref sl) "slice" := ⟨os, hos, hcs⟩
  have hstep : ¬ ((rawPart none == rawInt 0) = true) := Bool.false_ne_true
  obtain ⟨b1, b2, b3⟩ := slice_bounds lo none its.length
  refine wpAny_delItem_slot hl.typeIs (by decide) F.slot_list_delitem (wpAny_call_entry F.slot_list_delitem hl.typeIs F.entry_list_delitem ?_ (F.args_list_delitem_2 _ _))
  unfold Builtin.«list.__delitem__»
  show wpAny _ _ (Builtin.List.listSubscript? (.ref sl) >>= _) _ _ s
  refine wpAny_bind ?_
  unfold Builtin.List.listSubscript?
  refine wpAny_bind (wpAny_specialOf hTs slice_no_index ?_)
  simp only [Option.isNone_none, if_true]
  refine wpAny_pure ?_
  show wpAny _ _ (typeOf (.ref sl) >>= _) _ _ s
  refine wpAny_bind (wpAny_typeOf hTs ?_)
  first
    | rw [if_neg (by decide)]
    | refine PySem.W.KFB.if_not (by decide) ?_
  rw [listSliceParts_eq]
  refine wpAny_bind (wpAny_bind (wpAny_field hos hds (x := .none) rfl (wpAny_bind (wpAny_listPart .none ?_))))
  rw [if_neg hstep]
  refine wpAny_bind (wpAny_field hos hds (x := vl) rfl (wpAny_bind (wpAny_listPart pl ?_)))
  refine wpAny_bind (wpAny_field hos hds (x := vu) rfl (wpAny_bind (wpAny_listPart pu (wpAny_pure ?_))))
  dsimp only
  unfold Builtin.List.listItems
  refine wpAny_bind (wpAny_bind (wpAny_seqItems e rfl (wpAny_pure ?_)))
  refine wpAny_bind (wpAny_of_eq (sliceIndices_raw lo none none its.toArray.size (by simp)) ?_)
  have eb : sliceBounds lo none none its.toArray.size = (((HT.sIx its.length 0 lo : Nat) : Int), ((its.length : Nat) : Int), 1) := by
    rw [List.size_toArray]
    exact Prod.ext b1 (Prod.ext b2 b3)
  rw [eb]
  refine wpAny_bind (wpAny_rule ?_)
  have key : ∀ (F : Array Value → Array Value) (k : Sem PySem.Fin), F its.toArray = (its.take (HT.sIx its.length 0 lo)).toArray →
      (∀ s', s' = ({ s with heap := s.heap.update l (Obj.mapSeq F) } : Shared) → wpAny (model prog w) A.in1 k (fun fin s' => ∃ v, fin = PySem.Fin.done (Flow.ret v) ∧ Q () s') E s') → wpAny (model prog w) A.in1 (updateSeq l F >>= fun _ => k) (fun fin s' => ∃ v, fin = PySem.Fin.done (Flow.ret v) ∧ Q () s') E s := fun F k hF hk => by
    refine wpAny_bind (wpAny_updateSeq (hz := by rw [List.size_toArray]; exact hsz) (_hz' := by rw [hF]; simp; omega) e rfl ?_)
    exact hk _ rfl
  refine key _ _ ?_ ?_
  · refine congrArg List.toArray ((del_eq (HT.sIx its.length 0 lo) its.length _ (fun x k => ?_) its.toArray.toList 0 (by simp)).trans (by simp))
    exact rfl
  · intro s' es
    subst es
    refine wpAny_bind (wpAny_letGo ?_)
    exact wpAny_pure ⟨.none, rfl, h _ (congrArg List.toArray ((del_eq (HT.sIx its.length 0 lo) its.length _ (fun x k => rfl) its.toArray.toList 0 (by simp)).trans (by simp)))⟩
end
end Gr

end
section
set_option Elab.async false
set_option linter.all false
set_option maxRecDepth 100000
set_option maxHeartbeats 4000000
namespace Gr
open PySem PySem.Spec L2
open PyProof.Rows hiding St
/-- the protected names' slots -/
structure Keep (pr : Nat → Bool) (σ σ' : L2.St) : Prop where
  len : σ'.length = σ.length
  at_ : ∀ i, pr i = true → σ'[i]? = σ[i]?
theorem Keep.refl {pr : Nat → Bool} {σ : L2.St} : Keep pr σ σ := ⟨rfl, fun _ _ => rfl⟩
theorem Keep.trans {pr : Nat → Bool} {σ σ1 σ2 : L2.St} (a : Keep pr σ σ1) (b : Keep pr σ1 σ2) : Keep pr σ σ2 := ⟨b.len.trans a.len, fun i h => (b.at_ i h).trans (a.at_ i h)⟩
theorem Keep.set {pr : Nat → Bool} {σ : L2.St} {i : Nat} {v : Option V} (h : pr i = false) : Keep pr σ (σ.set i v) := ⟨by simp, fun j hj => by rw [List.getElem?_set_ne (fun z => by subst z; rw [h] at hj; cases hj)]⟩
theorem Set1.keep {pr : Nat → Bool} {σ σ' : L2.St} {is : List Nat} (s : Set1 is σ σ') (h : is.all (fun i => !pr i) = true) : Keep pr σ σ' := ⟨s.len, fun j hj => s.out j fun z => by
  have := List.all_eq_true.mp h j z
  rw [hj] at this; cases this⟩
structure SOk (g : Gm) (W : WX) (pr : Nat → Bool) (D : L2.Ends) (σ : L2.St) (H : Hp) (fp : List Addr) (E : Gr.Ends) : Prop where
  nx : ∀ σ1 H1 fp1 e1, Post false H fp H1 fp1 → Stt g H1 σ1 e1 fp1 → Keep pr σ σ1 → E.nx e1 → D.nx σ1 H1
  rt : ∀ v σ1 H1 fp1 r e1, Post false H fp H1 fp1 → Stt g H1 σ1 e1 fp1 → Keep pr σ σ1 → RepR g H fp H1 fp1 v r → E.rt r e1 → D.rt v H1
  bk : ∀ σ1 H1 fp1 e1, Post false H fp H1 fp1 → Stt g H1 σ1 e1 fp1 → Keep pr σ σ1 → E.bk e1 → D.bk σ1 H1
  ct : ∀ σ1 H1 fp1 e1, Post false H fp H1 fp1 → Stt g H1 σ1 e1 fp1 → Keep pr σ σ1 → E.ct e1 → D.ct σ1 H1
  ex : ∀ c v σ1 e1 H1 fp1 cls d, Post false H fp H1 fp1 → Stt g H1 σ1 e1 fp1 → Keep pr σ σ1 → Err g H1 c v cls d → E.ex c v e1 → W cls d σ1 H1
def tS (g : Gm) (W : WX) (pr : Nat → Bool) (m : Env → Gr.Ends → Prop) : TS := fun D σ H => ∃ e fp E, Stt g H σ e fp ∧ m e E ∧ SOk g W pr D σ H fp E
section
variable {X : L2.Cx} {g : Gm} {wd : Wd} {N : List String} {sc : Scope} {lv : Nat} {fds bl : List String} {W : WX} {b b2 top : Bool} {pins : List (Addr × Obj)} {σ σ' σ1 : L2.St} {H H0 H1 H2 : Hp} {s s2 : Shared} {e e1 e2 : Env} {fp fp1 fp2 fp' : List Addr} {Y : Xt}
variable {x y z c : Expr} {ma mb mc : WpK} {me me' : WpE} {pos apos : Pos} {pr : Nat → Bool} {D : L2.Ends} {E : Gr.Ends} {ms ms' : Env → Gr.Ends → Prop}
theorem SOk.step (ok : SOk g W pr D σ H fp E) (p : Post false H fp H1 fp1) (k : Keep pr σ σ1) : SOk g W pr D σ1 H1 fp1 E :=
  ⟨fun σ2 H2 fp2 e2 q st k2 => ok.nx _ _ _ _ (p.trans' q) st (k.trans k2), fun v σ2 H2 fp2 r e2 q st k2 rr => ok.rt _ _ _ _ _ _ (p.trans' q) st (k.trans k2) (rr.from p),
   fun σ2 H2 fp2 e2 q st k2 => ok.bk _ _ _ _ (p.trans' q) st (k.trans k2), fun σ2 H2 fp2 e2 q st k2 => ok.ct _ _ _ _ (p.trans' q) st (k.trans k2),
   fun c v σ2 e2 H2 fp2 cls d q st k2 => ok.ex _ _ _ _ _ _ _ _ (p.trans' q) st (k.trans k2)⟩
theorem SOk.xok (ok : SOk g W pr D σ H fp E) : XOk g W σ H fp E.ex := fun c v e1 H1 fp1 cls d p st er x => ok.ex c v σ e1 H1 fp1 cls d p st .refl er x
theorem Post.wf (p : Post b H fp H1 fp1) : Post false H fp H1 fp1 := p.weak fun z => nomatch z

/-! ### blocks -/
theorem js_nil : PSs X [] (tS g W pr fun e E => E.nx e) := by
  refine ⟨fun pins s σ H D I q => ?_⟩
  obtain ⟨e, fp, E, st, hw, ok⟩ := q
  exact wpAny_execs_nil ⟨σ, H, I, ok.nx _ _ _ _ .refl st .refl hw⟩
theorem js_cons {st : Stmt} {rest : List Stmt} (h1 : PS X st (tS g W pr ms)) (h2 : PSs X rest (tS g W pr ms')) : PSs X (st :: rest) (tS g W pr fun e E => ms e { E with nx := fun e1 => ms' e1 E }) := by
  refine ⟨fun pins s σ H D I q => (pss_cons h1 h2).run pins s σ H D I ?_⟩
  obtain ⟨e, fp, E, st, hw, ok⟩ := q
  exact ⟨e, fp, _, st, hw, ⟨fun σ1 H1 fp1 e1 p st1 k q => ⟨e1, fp1, E, st1, q, ok.step p k⟩, ok.rt, ok.bk, ok.ct, ok.ex⟩⟩
theorem js_pass : PS X (.Pass pos) (tS g W pr fun e E => E.nx e) := by
  refine ⟨fun pins s σ H D I q => ps_pass.run pins s σ H D I ?_⟩
  obtain ⟨e, fp, E, st, hw, ok⟩ := q
  exact ok.nx _ _ _ _ .refl st .refl hw
theorem js_brk : PS X (.Break pos) (tS g W pr fun e E => E.bk e) := by
  refine ⟨fun pins s σ H D I q => ps_break.run pins s σ H D I ?_⟩
  obtain ⟨e, fp, E, st, hw, ok⟩ := q
  exact ok.bk _ _ _ _ .refl st .refl hw
theorem js_cnt : PS X (.Continue pos) (tS g W pr fun e E => E.ct e) := by
  refine ⟨fun pins s σ H D I q => ps_continue.run pins s σ H D I ?_⟩
  obtain ⟨e, fp, E, st, hw, ok⟩ := q
  exact ok.ct _ _ _ _ .refl st .refl hw
theorem js_retN : PS X (.Return none pos) (tS g W pr fun e E => E.rt (.val .non) e) := by
  refine ⟨fun pins s σ H D I q => ps_retN.run pins s σ H D I ?_⟩
  obtain ⟨e, fp, E, st, hw, ok⟩ := q
  exact ok.rt _ _ _ _ _ _ .refl st .refl (.val .non) hw
theorem js_never {st : Stmt} : PS X st (tS g W pr fun _ _ => False) := by
  refine ⟨fun pins s σ H D I q => ?_⟩
  obtain ⟨e, fp, E, st, hw, ok⟩ := q
  exact hw.elim
theorem js_ex (h : PE X x (tE g W b me)) (hs : swapsWith x none pos.line X.env = pure false) : PS X (.Expr x pos) (tS g W pr fun e E => me E.ex e fun _ e1 => E.nx e1) := by
  refine ⟨fun pins s σ H D I q => (ps_expr h hs).run pins s σ H D I ?_⟩
  obtain ⟨e, fp, E, st, hw, ok⟩ := q
  exact ⟨e, fp, E.ex, _, st, hw, ok.xok, fun v H1 fp1 r e1 p1 st1 rr kk => ok.nx _ _ _ _ p1.wf st1 .refl kk⟩
theorem js_ret (h : PE X x (tE g W b me)) : PS X (.Return (some x) pos) (tS g W pr fun e E => me E.ex e fun s e1 => retK s e1 E.rt) := by
  refine ⟨fun pins s σ H D I q => (ps_ret h).run pins s σ H D I ?_⟩
  obtain ⟨e, fp, E, st, hw, ok⟩ := q
  refine ⟨e, fp, E.ex, _, st, hw, ok.xok, fun v H1 fp1 r e1 p1 st1 rr kk => ?_⟩
  have kk' : E.rt r e1 := by cases r <;> first | exact kk | exact kk.elim
  exact ok.rt _ _ _ _ _ _ p1.wf st1 .refl rr kk'
theorem js_retv (ct : Ct g wd N sc lv X) {i : Nat} {nm : Str} (h : nameB N sc i nm = true) : PS X (.Return (some (.Name nm apos)) pos) (tS g W pr fun e E => lookK e i fun s => retK s e fun s e1 => setK e1 i .no fun e2 => E.rt s e2) := by
  refine ⟨fun pins s σ H D I q => (ps_ret (pe_nm ct h)).run pins s σ H D I ?_⟩
  obtain ⟨e, fp, E, st, hw, ok⟩ := q
  obtain ⟨sl, h1, h2⟩ := lookK_iff.mp hw
  obtain ⟨y, as, pre, post, s1, s2, s3, s4⟩ := st.rep.split h1
  have nd := st.nd
  rw [s3] at nd
  have z := s4 H ⟨fun _ _ h => h, fun _ _ _ h => h⟩ (fun _ _ _ h => h) y .no [] .no
  rw [set_same s1] at z
  have st2 : Stt g H σ (e.set i .no) (pre ++ ([] ++ post)) := ⟨z, nodup_mid nd .nil (fun a h => nomatch h)⟩
  have sub : ∀ a ∈ pre ++ ([] ++ post), a ∈ fp := fun a ha => by rw [s3]; simp at ha ⊢; rcases ha with h | h <;> simp [h]
  cases s2 with
  | no => exact h2.elim
  | obj _ _ _ => exact h2.elim
  | val d =>
    obtain ⟨hi, h2⟩ := setK_iff.mp h2
    exact ⟨_, s1, ok.rt _ _ _ _ _ _ (Post.refl.sub (fun _ h => h) sub) st2 .refl (.val d) h2⟩
  | @own a d o =>
    obtain ⟨hi, h2⟩ := setK_iff.mp h2
    exact ⟨_, s1, ok.rt _ _ _ _ _ _ (Post.refl.sub (fun _ h => h) sub) st2 .refl (.own o (fun z => mid_ne (a := a) nd (List.mem_singleton.mpr rfl) (by simpa using z)) (.inl (by rw [s3]; simp))) h2⟩
theorem js_ite {mt : WpTt} {a bb : List Stmt} (hc : PT X c (tTs g W b mt)) (ha : PSs X a (tS g W pr ms)) (hb : PSs X bb (tS g W pr ms')) : PS X (.If c a bb pos) (tS g W pr fun e E => mt E.ex e fun t e1 => if t = true then ms e1 E else ms' e1 E) := by
  refine ⟨fun pins s σ H D I q => (ps_if hc ha hb).run pins s σ H D I ?_⟩
  obtain ⟨e, fp, E, st, hw, ok⟩ := q
  refine ⟨e, fp, E.ex, _, st, hw, ok.xok, fun t H1 fp1 e1 p1 st1 kk => ?_⟩
  cases t with
  | true => exact ⟨e1, fp1, E, st1, kk, ok.step p1.wf .refl⟩
  | false => exact ⟨e1, fp1, E, st1, kk, ok.step p1.wf .refl⟩

/-! ### stores -/
theorem Stt.setO (st : Stt g H σ e fp) {i : Nat} {a : Addr} {d : Gr.D} (hi : i < e.length) (ro : RepO g H a d) (na : a ∉ fp) : ∃ fp', Stt g H (σ.set i (some (.ref a))) (e.set i (.own d)) fp' ∧ ∀ c ∈ fp', c ∈ fp ∨ c = a := by
  obtain ⟨y, as, pre, post, s1, s2, s3, s4⟩ := st.rep.split (s := e[i]) (List.getElem?_eq_getElem hi)
  have z := s4 H ⟨fun _ _ h => h, fun _ _ _ h => h⟩ (fun _ _ _ h => h) (some (.ref a)) (.own d) [a] (.own ro)
  have nd := st.nd
  rw [s3] at nd
  refine ⟨_, ⟨z, nodup_mid nd (by simp) (fun c hc => .inr fun hm => na ?_)⟩, fun c hc => ?_⟩
  · simp at hc; subst hc
    rw [s3]; simp at hm ⊢; rcases hm with h | h <;> simp [h]
  · rw [s3]; simp at hc ⊢
    rcases hc with h | h | h
    · exact .inl (.inl h)
    · exact .inr h
    · exact .inl (.inr (.inr h))
/-- a value is stored in a name -/
theorem asg_set {i : Nat} {v : V} {r : Sl} {k : Env → Prop} (p1 : Post b H fp H1 fp1) (st1 : Stt g H1 σ e1 fp1) (rr : RepR g H fp H1 fp1 v r) (kk : asgK r i e1 k) : ∃ e2 fp2, Stt g H1 (σ.set i (some v)) e2 fp2 ∧ k e2 ∧ Post false H fp H1 fp2 := by
  cases rr with
  | val d =>
    obtain ⟨hi, kk⟩ := setK_iff.mp (show setK e1 i (.val _) k from kk)
    obtain ⟨fp2, st2, sub⟩ := st1.setV hi d
    exact ⟨_, fp2, st2, kk, p1.wf.sub (fun _ h => h) sub⟩
  | own o na h0 =>
    obtain ⟨hi, kk⟩ := setK_iff.mp (show setK e1 i (.own _) k from kk)
    obtain ⟨fp2, st2, sub⟩ := st1.setO hi o na
    refine ⟨_, fp2, st2, kk, ⟨p1.keep, p1.there, fun c hc => ?_, fun z => nomatch z⟩⟩
    rcases sub c hc with h | rfl
    · exact p1.own c h
    · exact h0
theorem asg_end {i : Nat} {v : V} {r : Sl} (ok : SOk g W pr D σ H fp E) (hp : pr i = false) (p1 : Post b H fp H1 fp1) (st1 : Stt g H1 σ e1 fp1) (rr : RepR g H fp H1 fp1 v r) (kk : asgK r i e1 E.nx) : D.nx (σ.set i (some v)) H1 := by
  obtain ⟨e2, fp2, st2, kk, p2⟩ := asg_set p1 st1 rr kk
  exact ok.nx _ _ _ _ p2 st2 (.set hp) kk
theorem loc_of (ct : Ct g wd N sc lv X) (tp : Top X top) {i : Nat} {nm : Str} (h : asgB N sc top i nm = true) : X.N[i]? = some nm ∧ Loc X.env.scope nm ∧ (X.fn nm = true ∨ X.env.scope.names.lookup nm = some .local) := by
  unfold asgB at h
  simp only [Bool.and_eq_true, Bool.or_eq_true, beq_iff_eq] at h
  obtain ⟨h1, h2⟩ := h
  refine ⟨?_, ?_⟩
  · rw [ct.N, List.getElem?_map]
    cases e : N[i]? with
    | none => rw [e] at h1; cases h1
    | some s => rw [e] at h1; simp at h1; simp [h1]
  · rw [ct.sc]
    rcases h2 with h2 | ⟨h2, h3⟩
    · exact ⟨.inl h2, .inr h2⟩
    · exact ⟨.inr h3, .inl (tp.fn h2 _)⟩
theorem js_asg (ct : Ct g wd N sc lv X) (tp : Top X top) {i : Nat} {nm : Str} (h : asgB N sc top i nm = true) (hp : pr i = false) (hs : swapsWith x (some (.Name nm apos)) pos.line X.env = pure false) (he : PE X x (tE g W b me)) :
    PS X (.Assign [.Name nm apos] x pos) (tS g W pr fun e E => me E.ex e fun s e1 => asgK s i e1 E.nx) := by
  obtain ⟨h1, h2, h3⟩ := loc_of ct tp h
  refine ⟨fun pins s σ H D I q => (ps_set ct.nd h1 h2 he hs h3).run pins s σ H D I ?_⟩
  obtain ⟨e, fp, E, st, hw, ok⟩ := q
  exact ⟨e, fp, E.ex, _, st, hw, ok.xok, fun v H1 fp1 r e1 p1 st1 rr kk => asg_end ok hp p1 st1 rr kk⟩
variable {elt kx iter tgE : Expr} {ifs : List Expr} {scope : Scope} {own : List (Str × Nat)} {tg : Tg} {mi : WpLs} {mt : Env → (Bool → Env → Prop) → Prop} {ml mk : Env → (Sl → Env → Prop) → Prop}
theorem js_asgLc (ct : Ct g wd N sc lv X) {i : Nat} {nm : Str} (hi : X.N[i]? = some nm) (hl : X.env.scope.names.lookup nm = some .local) (hp : pr i = false) (hsw : swapsWith (.ListComp elt [⟨tgE, iter, ifs, 0⟩] scope apos) (some (.Name nm apos')) pos.line X.env = pure true)
    (ok : BlkOk X.N X.env.scope scope own) (ho : own.map (·.2) = tg.ix) (hit : PI X tgE iter (tIt g W b mi)) (hg : ∀ s H C cl fp, PG (blkX X s H scope C cl fp) tgE (tG g tg)) (ht : ∀ s H C cl fp, PTs (blkX X s H scope C cl fp) ifs (tTs g WF b fun _ => mt))
    (he : ∀ s H C cl fp, PE (blkX X s H scope C cl fp) elt (tK g WF b (kept0 ml))) (hs : ∀ x, foldedSetIterable iter X.env x = pure x) :
    PS X (.Assign [.Name nm apos'] (.ListComp elt [⟨tgE, iter, ifs, 0⟩] scope apos) pos) (tS g W pr fun e E => mi E.ex e fun xs e1 => wipeK tg.ix e1 fun e2 => compK tg mt ml xs e2 fun ds e3 => backK tg.ix e1 e3 fun e4 => asgK (.own (.lst ds)) i e4 E.nx) := by
  refine ⟨fun pins s σ H D I q => (ps_setLc ct.calm ct.nd hi hl hsw hit ok hg ht he hs).run pins s σ H D I ?_⟩
  obtain ⟨e, fp, E, st, hw, sok⟩ := q
  show tLc _ _ _ _ _ σ H fun x H1 => gName i x σ H1 D.nx
  rw [ho]
  exact comp_read (K := fun r e4 => asgK r i e4 E.nx) (fun j => Iff.rfl) st hw sok.xok fun v H1 fp1 r e1 p1 st1 rr kk => asg_end sok hp p1 st1 rr kk
/-- several names from a tuple -/
theorem js_asgT (ct : Ct g wd N sc lv X) {is : List Nat} (hg : PG X tgE (tG g (.tp is))) (hp : is.all (fun i => !pr i) = true) (hs : swapsWithSole [tgE] x pos.line X.env = pure false) (hw : swappedStores [tgE] x X.env = pure none) (h1 : (assignEach [tgE] X.env).map (·.2) = [assign tgE X.env])
    (he : PE X x (tK g W b ma)) : PS X (.Assign [tgE] x pos) (tS g W pr fun e E => ma E.ex e fun d e1 => bind1K (.tp is) d e1 E.nx) := by
  refine ⟨fun pins s σ H D I q => (ps_asg he hg hs hw h1).run pins s σ H D I ?_⟩
  obtain ⟨e, fp, E, st, hwp, ok⟩ := q
  exact ⟨e, fp, E.ex, _, st, hwp, ok.xok, fun v H1 fp1 d e1 p1 st1 rd kk => ⟨e1, fp1, d, _, st1, rd, kk, fun e' σ' fp' st' sub s1 q => ok.nx _ _ _ _ (p1.wf.sub (fun _ h => h) sub) st' (s1.keep hp) q⟩⟩

/-! ### loops -/
theorem js_while {mt : WpTt} {body : List Stmt} (hpo : PassesOwn (model X.prog X.w) X.A X.env X.xe) (hc : PT X c (tTs g W b mt)) (hb : PSs X body (tS g W pr ms)) :
    PS X (.While c body [] pos) (tS g W pr fun e E => ∃ n, whileN (mt E.ex) ms n e E) := by
  refine ⟨fun pins s σ H D I q => (ps_while hpo hc hb).run pins s σ H D I ?_⟩
  obtain ⟨e, fp, E, st, ⟨n, hw⟩, ok⟩ := q
  refine ⟨fun m σ1 H1 => ∃ e1 fp1, Stt g H1 σ1 e1 fp1 ∧ whileN (mt E.ex) ms m e1 E ∧ Post false H fp H1 fp1 ∧ Keep pr σ σ1, ⟨n, e, fp, st, hw, .refl, .refl⟩, ?_⟩
  rintro m σ1 H1 ⟨e1, fp1, st1, hw1, p1, k1⟩
  cases m with
  | zero => exact hw1.elim
  | succ m =>
    simp only [whileN] at hw1
    have ok1 := ok.step p1 k1
    refine ⟨e1, fp1, E.ex, _, st1, hw1, ok1.xok, fun t H2 fp2 e2 p2 st2 kk => ?_⟩
    have ok2 := ok1.step p2.wf .refl
    cases t with
    | false => exact ok2.nx _ _ _ _ .refl st2 .refl kk
    | true =>
      have kk : ms e2 { E with nx := fun e2 => whileN (mt E.ex) ms m e2 E, ct := fun e2 => whileN (mt E.ex) ms m e2 E, bk := E.nx } := kk
      refine ⟨fun σ' H' => ∃ e1 fp1, Stt g H' σ' e1 fp1 ∧ whileN (mt E.ex) ms m e1 E ∧ Post false H fp H' fp1 ∧ Keep pr σ σ', fun σ' H' h => ⟨m, Nat.lt_succ_self _, h⟩, e2, fp2, _, st2, kk, ?_⟩
      exact ⟨fun σ3 H3 fp3 e3 p3 st3 k3 q => ⟨e3, fp3, st3, q, (p1.trans' p2.wf).trans' p3, k1.trans k3⟩, ok2.rt, ok2.nx, fun σ3 H3 fp3 e3 p3 st3 k3 q => ⟨e3, fp3, st3, q, (p1.trans' p2.wf).trans' p3, k1.trans k3⟩, ok2.ex⟩
theorem js_for {body : List Stmt} (ct : Ct g wd N sc lv X) (hpo : PassesOwn (model X.prog X.w) X.A X.env X.xe) (hi : PI X tgE iter (tIt g W b mi)) (hg : PG X tgE (tG g tg)) (hp : tg.ix.all (fun i => !pr i) = true) (hb : PSs X body (tS g W pr ms)) (hs : ∀ x, foldedSetIterable iter X.env x = pure x) :
    PS X (.For tgE iter body [] pos) (tS g W pr fun e E => mi E.ex e fun xs e1 => forK tg ms xs e1 E) := by
  refine ⟨fun pins s σ H D I q => (ps_for hpo ct.calm hi hg hb hs).run pins s σ H D I ?_⟩
  obtain ⟨e, fp, E, st, hw, ok⟩ := q
  refine ⟨e, fp, E.ex, _, st, hw, ok.xok, fun J H1 fp1 xs e1 p1 st1 it kk => ?_⟩
  have ok1 := ok.step p1.wf .refl
  refine ⟨fun i m σ2 H2 => m = xs.length - i ∧ i ≤ xs.length ∧ ∃ e2 fp2, Stt g H2 σ2 e2 fp2 ∧ Post false H1 fp1 H2 fp2 ∧ Keep pr σ σ2 ∧ forK tg ms (xs.drop i) e2 E, ⟨xs.length, rfl, Nat.zero_le _, e1, fp1, st1, .refl, .refl, kk⟩, ?_⟩
  rintro i m σ2 H2 ⟨rfl, hi, e2, fp2, st2, p2, k2, kk2⟩
  have prs : Pers H1 H2 := st1.pers p2
  have ok2 := ok1.step p2 k2
  by_cases hlt : i < xs.length
  · rw [List.drop_eq_getElem_cons hlt] at kk2
    simp only [forK] at kk2
    refine .inr ⟨it.go H2 prs i hlt, fun σ' H' => ∃ e2 fp2, Stt g H' σ' e2 fp2 ∧ Post false H1 fp1 H' fp2 ∧ Keep pr σ σ' ∧ forK tg ms (xs.drop (i + 1)) e2 E, fun σ' H' h => ⟨xs.length - (i + 1), by omega, rfl, hlt, h⟩, fun x H' hy => ?_⟩
    obtain ⟨rfl, rd⟩ := it.yld H2 prs i xs[i] (by simp [hlt]) x H' hy
    refine ⟨e2, fp2, xs[i], _, st2, rd, kk2, fun e3 σ3 fp3 st3 sub3 s3 kk3 => ?_⟩
    have p3 : Post false H' fp2 H' fp3 := Post.refl.sub (fun _ h => h) sub3
    have k3 := s3.keep hp
    have ok3 := ok2.step p3 k3
    exact ⟨e3, fp3, _, st3, kk3, ⟨fun σ4 H4 fp4 e4 p4 st4 k4 q => ⟨e4, fp4, st4, (p2.trans' p3).trans' p4, (k2.trans k3).trans k4, q⟩, ok3.rt, ok3.nx, fun σ4 H4 fp4 e4 p4 st4 k4 q => ⟨e4, fp4, st4, (p2.trans' p3).trans' p4, (k2.trans k3).trans k4, q⟩, ok3.ex⟩⟩
  · have e : i = xs.length := by omega
    subst e
    rw [List.drop_length] at kk2
    simp only [forK] at kk2
    exact .inl ⟨it.stop H2 prs, ok2.nx _ _ _ _ .refl st2 .refl kk2⟩
end
end Gr

end
section
set_option Elab.async false
set_option linter.all false
set_option maxRecDepth 100000
set_option maxHeartbeats 4000000
namespace Gr
open PySem PySem.Spec L2
open PyProof.Rows hiding St
section
variable {X : L2.Cx} {g : Gm} {wd : Wd} {N : List String} {sc : Scope} {lv : Nat} {fds bl : List String} {W : WX} {b b2 top : Bool} {pins : List (Addr × Obj)} {σ σ' σ1 : L2.St} {H H0 H1 H2 : Hp} {s s2 : Shared} {e e1 e2 : Env} {fp fp1 fp2 fp' : List Addr} {Y : Xt}
variable {x y z c : Expr} {ma mb mc : WpK} {me me' : WpE} {pos apos npos : Pos} {pr : Nat → Bool} {D : L2.Ends} {E : Gr.Ends} {ms ms' : Env → Gr.Ends → Prop}
/-- a field is set -/
theorem fld_set {i : Nat} {f : String} {v : V} {o : Bool} {d : Gr.D} {k : Env → Prop} {c : String} {fs : Fs} (st : Stt g H σ e fp) (h1 : e[i]? = some (.obj c fs)) (h : fputK fs f o d fun fs' => setK e i (.obj c fs') k)
    {new : List Addr} (hv : RepFd g H v o d new) (hn : ∀ a ∈ new, a ∉ fp) :
    ∃ a C dx fv, σ[i]? = some (some (.ref a)) ∧ H a = some (.ins C dx fv) ∧ g.ca c = some C ∧ a ∈ fp ∧ ∃ e2 fp2, Stt g (upd H a (.ins C dx (putF (Str.ofString f) v fv))) σ e2 fp2 ∧ k e2 ∧ ∀ c ∈ fp2, c ∈ fp ∨ c ∈ new := by
  obtain ⟨a, C, dx, fv, pre, p0, old, p1, post, fs', t1, t2, t3, t4, t5, t6, t7, t8⟩ := st.atF h1 h
  obtain ⟨_, t6⟩ := setK_iff.mp t6
  have pu : Pers H (upd H a (.ins C dx (putF (Str.ofString f) v fv))) := pers_upd (.inr ⟨_, t2, trivial⟩)
  have ain : a ∈ fp := by rw [t5]; simp
  refine ⟨a, C, dx, fv, t1, t2, t3, ain, _, _, t8 _ pu v new (fun b hb hn ho w q => by rw [upd_ne hn]; exact q) upd_same ?_ (fun b hb => .inr (hn b hb)) ?_, t6, fun c hc => ?_⟩
  · cases hv with
    | val rd => exact .val (rd.mono pu)
    | @own a2 _ ro =>
      refine .own (ro.keep pu fun u q => ?_)
      rw [upd_ne (fun z => by subst z; exact hn a2 (by simp) ain)]; exact q
  · cases hv <;> simp
  · rw [t5]
    simp at hc ⊢
    rcases hc with h | h | h | h | h | h <;> simp [h]
theorem fs_len {c : String} {fs : Fs} (st : Stt g H σ e fp) {i : Nat} (h1 : e[i]? = some (.obj c fs)) {a C dx : Addr} {fv : List (Str × V)} (hs : σ[i]? = some (some (.ref a))) (ha : H a = some (.ins C dx fv)) : fv.length = fs.length := by
  obtain ⟨y, as, pre, post, s1, s2, s3, s4⟩ := st.rep.split h1
  rw [hs] at s1; cases s1
  cases s2 with
  | obj ha2 hc r =>
    rw [ha] at ha2; cases ha2
    clear s4 s3 h1 st hs ha hc
    induction r with
    | nil => rfl
    | val _ _ ih => exact congrArg (· + 1) ih
    | own _ _ ih => exact congrArg (· + 1) ih
theorem js_setF (ct : Ct g wd N sc lv X) (lk : Lnk g wd fds bl) {i : Nat} {nm : Str} {f : String} (h : nameB N sc i nm = true) (hf : f ∈ fds) (hs : swapsWith x (some (.Attribute (.Name nm npos) (Str.ofString f) apos)) pos.line X.env = pure false) (he : PE X x (tE g W b me)) :
    PS X (.Assign [.Attribute (.Name nm npos) (Str.ofString f) apos] x pos) (tS g W pr fun e E => me E.ex e fun s e1 => lookK e1 i fun o => objK o fun c fs => fs.length < 500 ∧ fldK s fs f fun fs' => setK e1 i (.obj c fs') E.nx) := by
  refine ⟨fun pins s σ H D I q => (ps_fld (pe_nm ct h) he hs).run pins s σ H D I ?_⟩
  obtain ⟨e, fp, E, st, hw, ok⟩ := q
  refine ⟨e, fp, E.ex, _, st, hw, ok.xok, fun v H1 fp1 r e1 p1 st1 rr kk => ?_⟩
  obtain ⟨sl, h1, h2⟩ := lookK_iff.mp kk
  cases sl with
  | obj c fs =>
    obtain ⟨hlen, h2⟩ := h2
    have go : ∀ {o : Bool} {d : Gr.D} {new : List Addr}, RepFd g H1 v o d new → (∀ a ∈ new, a ∉ fp1) → (∀ a ∈ new, a ∈ fp ∨ H a = none) → fputK fs f o d (fun fs' => setK e1 i (.obj c fs') E.nx) → (fun x H1 => tVar i σ H1 fun x_1 H2 => ∃ a C dx fs, x_1 = V.ref a ∧ H2 a = some (.ins C dx fs) ∧ Cls X.K C ∧ NoAttr X.K C (Str.ofString f) ∧ fs.length < 1000 ∧ D.nx σ (upd H2 a (.ins C dx (putF (Str.ofString f) x fs)))) v H1 := by
      intro o d new hv hn h0 hw
      obtain ⟨a, C, dx, fv, t1, t2, t3, ain, e2, fp2, st2, kk2, sub⟩ := fld_set st1 h1 hw hv hn
      have cl := lk.cls c C t3
      rw [← ct.K] at cl
      refine ⟨_, t1, a, C, dx, fv, rfl, t2, cl.1, cl.2 f hf, ?_, ok.nx _ _ _ _ ?_ st2 .refl kk2⟩
      · have := fs_len st1 h1 t1 t2; omega
      · have q := p1.wf.trans' (Post.upd_own (b := false) (fp' := fp1) (o := .ins C dx (putF (Str.ofString f) v fv)) ain t2 (fun z => nomatch z) fun c hc => .inl hc)
        exact ⟨q.keep, q.there, fun c hc => by
          rcases sub c hc with h | h
          · exact p1.own c h
          · exact h0 c h, fun z => nomatch z⟩
    cases rr with
    | val rd => exact go (.val rd) (fun a ha => nomatch ha) (fun a ha => nomatch ha) h2
    | own ro na h0 => exact go (.own ro) (by simpa using na) (by simpa using h0) h2
  | _ => exact h2.elim
theorem in_ok2 {op : BOp} (hop : op = .add) : InOp X (opOf op) fun x y H Q => ∃ d dy k, RepD g H x d ∧ RepB g H y dy ∧ binK op d dy (fun r => augK r k) ∧ ∀ w z, RepD g H w z → k z → Q w H := by
  subst hop
  rintro pins s σ H x y u v Q I rx ry ⟨d, dy, k, hx, hy, hb, q⟩
  unfold binK at hb
  split at hb
  · rw [hx.int_inv] at rx; rw [hy.int_inv] at ry
    obtain ⟨t, rfl⟩ := rx; obtain ⟨t', rfl⟩ := ry
    exact PyProof.Rows.iadd_int ⟨.int _, H, I.tok _, ⟨_, rfl⟩, q _ _ (.int _) hb⟩
  · rename_i a b _
    obtain ⟨e1, o1⟩ := hx.str_inv; obtain ⟨e2, o2⟩ := hy.str_inv
    subst e1; subst e2
    obtain ⟨t, rfl⟩ := rx; obtain ⟨t', rfl⟩ := ry
    refine iadd_str (fun t' tk => ⟨.str _, H, I.tok _, ⟨_, rfl⟩, q _ _ ?_ hb.2⟩) (by rw [sOf_len, sOf_len]; exact hb.1)
    rw [sOf_append]
    exact .str _ (o1.app o2 hb.1)
  all_goals first | (rename_i heq; cases heq; done) | (rename_i heq _ _; cases heq; done) | skip
  all_goals first | exact hb.2.elim | exact hb.elim | skip
theorem js_augF (ct : Ct g wd N sc lv X) (lk : Lnk g wd fds bl) {i : Nat} {nm : Str} {f : String} {op : BOp} (hop : op = .add) (h : nameB N sc i nm = true) (hf : f ∈ fds) (he : PE X x (tB g W true ma)) :
    PS X (.AugAssign (.Attribute (.Name nm npos) (Str.ofString f) apos) (opOf op) x pos) (tS g W pr fun e E => lookK e i fun s => objK s fun _ fs => fgetK fs f fun o d => onlyIf (!o) (ma E.ex e fun y e1 => binK op d y fun r => augK r fun z =>
      lookK e1 i fun s => objK s fun c fs => fs.length < 500 ∧ fputK fs f false z fun fs' => setK e1 i (.obj c fs') E.nx)) := by
  refine ⟨fun pins s σ H D I q => (ps_fldaug (pe_nm ct h) he (in_ok2 (g := g) hop)).run pins s σ H D I ?_⟩
  obtain ⟨e, fp, E, st, hw, ok⟩ := q
  obtain ⟨sl, h1, h2⟩ := lookK_iff.mp hw
  have s' := st.rep.split h1
  obtain ⟨y, as, pre, post, s1, s2, s3, s4⟩ := s'
  cases s2 with
  | no => exact h2.elim
  | val _ => exact h2.elim
  | own _ => exact h2.elim
  | @obj a C dx fv c fs as ha hc r =>
    obtain ⟨v, o, d, bs, t1, t2, t3, _⟩ := r.get h2
    have cl := lk.cls c C hc
    rw [← ct.K] at cl
    cases o with
    | true => exact t2.elim
    | false =>
      cases t3 with
      | val rd =>
        refine ⟨_, s1, a, C, dx, fv, v, rfl, ha, cl.1, cl.2 f hf, t1, e, fp, E.ex, _, st, t2, ok.xok, fun w H1 fp1 dy e1 p1 st1 rb kk => ?_⟩
        refine ⟨d, dy, _, rd.mono (st.pers p1), rb, kk, fun w z rz kz => ?_⟩
        obtain ⟨sl2, q1, q2⟩ := lookK_iff.mp kz
        cases sl2 with
        | obj c2 fs2 =>
          obtain ⟨hlen, q2⟩ := q2
          obtain ⟨a2, C2, dx2, fv2, w1, w2, w3, ain, e2, fp2, st2, kk2, sub⟩ := fld_set st1 q1 q2 (.val rz) (fun a ha => nomatch ha)
          rw [s1] at w1; cases w1
          have hk := p1.ins rfl _ _ _ _ ha
          rw [w2] at hk; cases hk
          refine ⟨dx, fv, w2, ?_, ok.nx _ _ _ _ (p1.wf.trans' (Post.upd_own (b := false) ain w2 (fun z => nomatch z) fun c hc => ?_)) st2 .refl kk2⟩
          · have := fs_len st1 q1 s1 w2; omega
          · rcases sub c hc with h | h
            · exact .inl h
            · cases h
        | _ => exact q2.elim
end
end Gr

end
section
set_option Elab.async false
set_option linter.all false
set_option maxRecDepth 100000
set_option maxHeartbeats 4000000
namespace Gr
open PySem PySem.Spec L2
open PyProof.Rows hiding St
section
variable {X : L2.Cx} {g : Gm} {wd : Wd} {N : List String} {sc : Scope} {lv : Nat} {fds bl : List String} {W : WX} {b b2 b3 top : Bool} {pins : List (Addr × Obj)} {σ σ' σ1 : L2.St} {H H0 H1 H2 : Hp} {s s2 : Shared} {e e1 e2 : Env} {fp fp1 fp2 fp' : List Addr} {Y : Xt}
variable {x y z c : Expr} {ma mb mc : WpK} {me me' : WpE} {pos apos npos : Pos} {pr : Nat → Bool} {D : L2.Ends} {E : Gr.Ends} {ms ms' : Env → Gr.Ends → Prop}
theorem RepKs.len : ∀ {ds : List (Gr.D × Gr.D)} {kvs : List (Key × V)}, RepKs g H kvs ds → kvs.length = ds.length
  | _, _, .nil => rfl
  | _, _, .cons _ r => congrArg (· + 1) (RepKs.len r)
theorem RepTs.len : ∀ {ds : List (Gr.D × Gr.D)} {kvs : List (List Key × V)}, RepTs g H kvs ds → kvs.length = ds.length
  | _, _, .nil => rfl
  | _, _, .cons _ r => congrArg (· + 1) (RepTs.len r)
/-- the end of a change of an own thing -/
theorem own_end {p : Pl} {a : Addr} {o : HO} {d d' : Gr.D} (ok : SOk g W pr D σ H fp E) (st : Stt g H σ e fp) (ro : RepO g H a d) (ain : a ∈ fp) (nf : ∀ od w, o ≠ .frz od w) (ro' : RepO g (upd H a o) a d')
    (rest : ∀ (o : HO) (d' : Gr.D) (K : Env → Prop), (∀ od w, o ≠ .frz od w) → RepO g (upd H a o) a d' → wrOK p e d' K → ∃ e3 fp3, Stt g (upd H a o) σ e3 fp3 ∧ K e3 ∧ ∀ c ∈ fp3, c ∈ fp) (hw : wrOK p e d' E.nx) : D.nx σ (upd H a o) := by
  obtain ⟨e3, fp3, st3, kk, sub⟩ := rest o d' _ nf ro' hw
  obtain ⟨u, eu, mu⟩ := ro.mut
  exact ok.nx _ _ _ _ (Post.upd_own ain eu (fun z => nomatch z) fun c hc => .inl (sub c hc)) st3 .refl kk
theorem setAt (ct : Ct g wd N sc lv X) (hu : X.A.units + 66 < cLine) {p : Pl} {vo vi vv : V} {uo ui uv : Value} {j v : Gr.D} (ok : SOk g W pr D σ H fp E) (st : Stt g H σ e fp) (I : Inv X pins σ H s) (ro : RelV vo uo) (ri : RelV vi ui) (rv : RelV vv uv)
    (hp : PlcV g σ H p vo) (hj : RepD g H vi j) (hv : RepD g H vv v) (hw : rdOK p e fun d => setDK d j v fun d' => wrOK p e d' E.nx) : wpAny (model X.prog X.w) X.A (setItem uo ui uv) (fun _ s' => ∃ H', Inv X pins σ H' s' ∧ D.nx σ H') X.xe s := by
  obtain ⟨a, d, rfl, rd, ain, kk, rest⟩ := hp.o st hw
  unfold setDK at kk
  split at kk
  · cases rd with
    | @lst ws ds hH r =>
      obtain ⟨k, h1, h2⟩ := optK_iff.mp kk
      rw [hj.int_inv] at ri
      have pr := own_pers (o := HO.lst (ws.set k vv)) (RepO.lst hH r)
      refine set_list pins s σ H (.ref a) (.int _) vv uo ui uv (fun H' => D.nx σ H') I ro ri rv ⟨a, ws, _, k, rfl, rfl, hH, ?_, ?_⟩
      · rw [r.length]; exact h1
      · exact own_end ok st (.lst hH r) ain (fun _ _ z => nomatch z) (.lst upd_same ((r.set hv k).mono pr)) rest h2
  · rename_i z
    cases rd with
    | @dK kvs ds hH r =>
      obtain ⟨e1, o1⟩ := hj.str_inv
      subst e1
      have ez : (keyD (.inr (sOf z))) = .str z := by show Gr.D.str (sOf z).cps.toList = _; simp
      have hl : kvs.length < sizeLine := by
        have := r.len
        have := kk.1
        have : big = sizeLine := rfl
        omega
      have pr := own_pers (o := HO.dK (putK kvs (.inr (sOf z)) vv)) (RepO.dK hH r)
      cases ro
      refine d_setItem (by omega) I (DPut.k (k := .inr (sOf z)) hH hl) ri rv fun s' I' => ⟨_, I', ?_⟩
      refine own_end ok st (.dK hH r) ain (fun _ _ z => nomatch z) (.dK upd_same ((r.put hv).mono pr)) rest ?_
      rw [ez]; exact kk.2
  · cases rd with
    | @dT kvs ds hH r =>
      obtain ⟨ks, rfl⟩ := flatTs_keys kk.1.1
      obtain ⟨c, vs, rfl, hb, rb⟩ := hj.tup_inv
      have := rb.keys
      subst this
      have hl : kvs.length < sizeLine := by
        have := r.len
        have := kk.1.2
        have : big = sizeLine := rfl
        omega
      have pr := own_pers (o := HO.dT (putK kvs ks vv)) (RepO.dT hH r)
      cases ro
      refine d_setItem (by omega) I (DPut.t (k := ks) hH hb hl) ri rv fun s' I' => ⟨_, I', ?_⟩
      exact own_end ok st (.dT hH r) ain (fun _ _ z => nomatch z) (.dT upd_same ((r.put hv).mono pr)) rest kk.2
  · exact kk.elim
theorem js_setP (ct : Ct g wd N sc lv X) (lk : Lnk g wd fds bl) (hu : X.A.units + 66 < cLine) {p : Pl} (hp : plcB N sc fds p x = true) (q : p.isV = true ∨ b2 = true) (hs : swapsWith z (some (.Subscript x y apos)) pos.line X.env = pure false) (hv : PE X z (tK g W b ma)) (hy : PE X y (tK g W b2 mb)) :
    PS X (.Assign [.Subscript x y apos] z pos) (tS g W pr fun e E => ma E.ex e fun v e1 => rdK p e1 fun _ => mb E.ex e1 fun j e2 => rdOK p e2 fun d => setDK d j v fun d' => wrOK p e2 d' E.nx) := by
  refine ⟨fun pins s σ H D I q' => ?_⟩
  obtain ⟨e, fp, E, st, hw, ok⟩ := q'
  refine wpAny_Assign_Subscript (runK hv I st hw ok.xok fun v uv s1 H1 fp1 d e1 I1 rv p1 st1 hx1 rd kk => ?_) hs
  obtain ⟨vo, hvo⟩ := PlcV.of st1 kk
  obtain ⟨_, _, kk'⟩ := hvo.look st1 kk
  refine run_plc ct lk hp st1 kk hvo I1 fun uo s2 I2 ro => runK hy I2 st1 kk' hx1 fun vi ui s3 H3 fp3 j e3 I3 ri p3 st3 hx3 rj kk3 => ?_
  refine thn (setAt ct hu (ok.step (p1.wf.trans' p3.wf) .refl) st3 I3 ro ri rv (laterB hvo q p3) rj (rd.mono (st1.pers p3)) kk3) fun _ s4 ⟨H4, I4, q4⟩ => ⟨σ, H4, I4, q4⟩
theorem js_delP (ct : Ct g wd N sc lv X) (lk : Lnk g wd fds bl) {p : Pl} (hp : plcB N sc fds p x = true) (q : p.isV = true ∨ b2 = true) {spos : Pos} (hy : PE X y (tK g W b2 ma)) :
    PS X (.Delete [.Subscript x (.Slice (some y) none none spos) apos] pos) (tS g W pr fun e E => rdK p e fun _ => ma E.ex e fun j e1 => rdOK p e1 fun d => delK d j fun d' => wrOK p e1 d' E.nx) := by
  refine ⟨fun pins s σ H D I q' => ?_⟩
  obtain ⟨e, fp, E, st, hw, ok⟩ := q'
  obtain ⟨vo, hvo⟩ := PlcV.of st hw
  obtain ⟨_, _, kk'⟩ := hvo.look st hw
  refine wpAny_Delete (wpAny_deleteEach_cons (wpAny_delete_Subscript (run_plc ct lk hp st hw hvo I fun uo s1 I1 ro => ?_)))
  refine wpAny_Slice ?_
  rw [evalPart_some]
  refine runK hy I1 st kk' ok.xok fun vi ui s2 H2 fp2 j e2 I2 ri p2 st2 hx2 rj kk2 => ?_
  rw [evalPart_none]
  refine wpAny_pure (wpAny_pure ?_)
  obtain ⟨a, d, rfl, rd, ain, kk, rest⟩ := (laterB hvo q p2).o st2 kk2
  unfold delK at kk
  split at kk
  · rename_i jj
    cases rd with
    | @lst ws ds hH r =>
      rw [rj.int_inv] at ri
      obtain ⟨t, rfl⟩ := ri
      cases ro
      have I4 : L2.Inv X pins σ H2 { s2 with heap := s2.heap.push { cls := .type "slice", data := .fields #[.int jj t, .none, .none] } } := I2.kept (t' := s2.toks) fun b ob q => Heap.get?_push_of_some _ q
      obtain ⟨z, its, n, rv, hl, he⟩ := I4.lstM hH
      refine delItem_slice he (Heap.IsSliceOf.new ..) (.int _ t) .none rfl (by rw [← hl]; exact z) fun f hf => wpAny_deleteEach_nil ?_
      have pr := own_pers (o := HO.lst (ws.take (HT.sIx its.length 0 (some jj)))) (RepO.lst hH r)
      refine ⟨σ, _, I4.lset (t' := s2.toks) hH he hf (rv.take _) (by rw [List.length_take]; omega), ?_⟩
      refine own_end (ok.step p2.wf .refl) st2 (.lst hH r) ain (fun _ _ z => nomatch z) (.lst upd_same ((r.take _).mono pr)) rest ?_
      rw [← hl, r.length]
      exact kk
  · exact kk.elim

/-! ### several names at once -/
inductive RepVs (g : Gm) (H : Hp) : List V → List Sl → List Addr → Prop
  | nil : RepVs g H [] [] []
  | val {v d vs ss as} : RepD g H v d → RepVs g H vs ss as → RepVs g H (v :: vs) (.val d :: ss) as
  | own {a d vs ss as} : RepO g H a d → RepVs g H vs ss as → RepVs g H (.ref a :: vs) (.own d :: ss) (a :: as)
theorem RepVs.keep (p : Pers H H1) : ∀ {vs : List V} {ss : List Sl} {as : List Addr}, RepVs g H vs ss as → (∀ a ∈ as, ∀ u, H a = some u → H1 a = some u) → RepVs g H1 vs ss as
  | _, _, _, .nil, _ => .nil
  | _, _, _, .val h r, k => .val (h.mono p) (RepVs.keep p r k)
  | _, _, _, .own h r, k => .own (h.keep p (k _ (by simp))) (RepVs.keep p r fun a ha => k a (by simp [ha]))
theorem RepVs.mut : ∀ {vs : List V} {ss : List Sl} {as : List Addr}, RepVs g H vs ss as → ∀ a ∈ as, ∃ u, H a = some u ∧ Mut (some u)
  | _, _, _, .val _ r, a, h => RepVs.mut r a h
  | _, _, _, .own o r, a, h => by
    rcases List.mem_cons.mp h with rfl | h
    · exact o.mut
    · exact RepVs.mut r a h
abbrev WpVs := Xt → Env → (List Sl → Env → Prop) → Prop
def tVl (g : Gm) (W : WX) (b : Bool) (n : Nat) (m : WpVs) : TA := fun σ H Q => ∃ e fp X K, Stt g H σ e fp ∧ m X e K ∧ XOk g W σ H fp X ∧
  ∀ vs H1 fp1 ss as e1, Post b H fp H1 fp1 → Stt g H1 σ e1 fp1 → vs.length = n → RepVs g H1 vs ss as → as.Nodup → (∀ a ∈ as, a ∉ fp1 ∧ (a ∈ fp ∨ H a = none)) → K ss e1 → Q vs H1
variable {mv : WpVs} {es : List Expr}
theorem jv_nil : PA X [] (tVl g W b 0 fun _ e k => k [] e) := by
  refine ⟨fun pos pins s σ H Q I q => ?_⟩
  obtain ⟨e, fp, Y, K, st, hw, hx, hk⟩ := q
  exact Calls.spliced_nil ⟨[], H, I, .nil, hk _ _ _ _ _ _ .refl st rfl .nil .nil (fun a h => nomatch h) hw⟩
theorem jv_cons (hn : noStar x = true) (ha : PE X x (tE g W b me)) {n : Nat} (hr : PA X es (tVl g W b n mv)) : PA X (x :: es) (tVl g W b (n + 1) fun Y e k => me Y e fun s e1 => mv Y e1 fun ss e2 => k (s :: ss) e2) := by
  refine ⟨fun pos pins s σ H Q I q => ?_⟩
  obtain ⟨e, fp, Y, K, st, hw, hx, hk⟩ := q
  rw [star_ne (env := X) hn]
  show wpAny _ _ (spliced ((false, eval x X.env) :: backTo pos (starEach es X.env))) _ _ s
  refine Calls.spliced_cons (runE ha I st hw hx fun v u s1 H1 fp1 r e1 I1 rv p1 st1 hx1 rr kk => ?_)
  refine thn (hr.run pos pins s1 σ H1 (fun vs H2 => ∃ ss as fp2 e2, Post b H1 fp1 H2 fp2 ∧ Stt g H2 σ e2 fp2 ∧ vs.length = n ∧ RepVs g H2 vs ss as ∧ as.Nodup ∧ (∀ a ∈ as, a ∉ fp2 ∧ (a ∈ fp1 ∨ H1 a = none)) ∧ K (r :: ss) e2) I1 ⟨e1, fp1, Y, _, st1, kk, hx1, fun vs H2 fp2 ss as e2 a b n c d f k => ⟨ss, as, fp2, e2, a, b, n, c, d, f, k⟩⟩)
    fun us s2 ⟨vs, H2, I2, r2, ss, as, fp2, e2, p2, st2, hn, rs, nd, hz, kk2⟩ => ⟨v :: vs, H2, I2, .cons rv r2, ?_⟩
  have old : ∀ a ∈ as, a ∉ fp2 ∧ (a ∈ fp ∨ H a = none) := fun a ha => ⟨(hz a ha).1, by
    rcases (hz a ha).2 with h | h
    · exact p1.own a h
    · exact .inr (p1.not_none h)⟩
  cases rr with
  | val rd => exact hk _ _ _ _ _ _ (p1.trans' p2) st2 (by rw [List.length_cons, hn]) (.val (rd.mono (st1.pers p2)) rs) nd old kk2
  | @own a d ro na h0 =>
    obtain ⟨u, eu, mu⟩ := ro.mut
    obtain ⟨hu2, na2⟩ := p2.not_in eu na
    refine hk _ _ _ _ _ _ (p1.trans' p2) st2 (by rw [List.length_cons, hn]) (.own (ro.keep (st1.pers p2) fun w q => p2.keep a w q na) rs) ?_ (fun c hc => ?_) kk2
    · rw [List.nodup_cons]
      refine ⟨fun hm => ?_, nd⟩
      rcases (hz a hm).2 with h | h
      · exact na h
      · rw [eu] at h; cases h
    · rcases List.mem_cons.mp hc with rfl | hc
      · exact ⟨na2, h0⟩
      · exact old c hc
def tVs (g : Gm) (is : List Nat) : TGs := fun vs σ H Q => ∃ e fp ss as K, Stt g H σ e fp ∧ RepVs g H vs ss as ∧ as.Nodup ∧ (∀ a ∈ as, a ∉ fp) ∧ asgsK is ss e K ∧ ∀ e' σ' fp', Stt g H σ' e' fp' → (∀ a ∈ fp', a ∈ fp ∨ a ∈ as) → Set1 is σ σ' → K e' → Q σ' H
theorem jvs_nil : PGs X [] (tVs g []) := by
  refine ⟨fun pins s σ H vs us Q I r q => ?_⟩
  obtain ⟨e, fp, ss, as, K, st, rd, nd, na, hb, hk⟩ := q
  cases rd with
  | nil => exact pgs_nil.run pins s σ H [] us Q I r ⟨rfl, hk _ _ _ st (fun _ h => .inl h) ⟨rfl, fun _ _ => rfl⟩ hb⟩
  | val _ _ => exact hb.elim
  | own _ _ => exact hb.elim
theorem jvs_cons (ct : Ct g wd N sc lv X) (tp : Top X top) {i : Nat} {is : List Nat} {nm : Str} (h : asgB N sc top i nm = true) (hr : PGs X es (tVs g is)) : PGs X (.Name nm pos :: es) (tVs g (i :: is)) := by
  refine ⟨fun pins s σ H vs us Q I r q => ?_⟩
  obtain ⟨e, fp, ss, as, K, st, rd, nd, na, hb, hk⟩ := q
  have out : ∀ {v : Option V} {σ' : L2.St}, Set1 is (σ.set i v) σ' → Set1 (i :: is) σ σ' := fun {v σ'} s2 => ⟨by rw [s2.len]; simp, fun j hj => by
    rw [s2.out j (fun h => hj (by simp [h])), List.getElem?_set_ne (fun z => hj (by simp [z]))]⟩
  cases rd with
  | nil => exact hb.elim
  | val rd rds =>
    obtain ⟨hi, hb⟩ := setK_iff.mp hb
    obtain ⟨fp', st', sub⟩ := st.setV hi rd
    exact (pgs_cons (pg_nm ct tp h) hr rfl).run pins s σ H _ us Q I r ⟨_, _, rfl, _, fp', _, as, K, st', rds, nd, fun a ha z => na a ha (sub a z), hb, fun e' σ' fp2 st2 sub2 s2 kk => hk _ _ _ st2 (fun a ha => by
      rcases sub2 a ha with h | h
      · exact .inl (sub a h)
      · exact .inr h) (out s2) kk⟩
  | @own a d vs ss as ro rds =>
    obtain ⟨hi, hb⟩ := setK_iff.mp hb
    rw [List.nodup_cons] at nd
    obtain ⟨fp', st', sub⟩ := st.setO hi ro (na a (by simp))
    exact (pgs_cons (pg_nm ct tp h) hr rfl).run pins s σ H _ us Q I r ⟨_, _, rfl, _, fp', _, as, K, st', rds, nd.2, fun c hc z => by
      rcases sub c z with h | rfl
      · exact na c (by simp [hc]) h
      · exact nd.1 hc, hb, fun e' σ' fp2 st2 sub2 s2 kk => hk _ _ _ st2 (fun c hc => by
      rcases sub2 c hc with h | h
      · rcases sub c h with h | rfl
        · exact .inl h
        · exact .inr (by simp)
      · exact .inr (by simp [h])) (out s2) kk⟩
theorem js_asgP (ct : Ct g wd N sc lv X) {is : List Nat} {ts : List Expr} {k1 k2 : Nat} {p1' p2' : Pos} (hz : es.length ≤ 1000) (hl1 : ts.length = es.length) (hn : namesE ts = true) (hp : is.all (fun i => !pr i) = true) (ha : PA X es (tVl g W b es.length mv)) (hg : PGs X ts (tVs g is))
    (hs : swapsWithSole [.Tuple ts k1 p1'] (.Tuple es k2 p2') pos.line X.env = pure false) (hw : swappedStores [.Tuple ts k1 p1'] (.Tuple es k2 p2') X.env = pure none) :
    PS X (.Assign [.Tuple ts k1 p1'] (.Tuple es k2 p2') pos) (tS g W pr fun e E => mv E.ex e fun ss e1 => asgsK is ss e1 E.nx) := by
  obtain ⟨n1, n2⟩ := names_each (env := X) hn
  refine ⟨fun pins s σ H D I q => (ps_asg (pe_tup ha) (pg_tup ct.calm hg n1 n2) hs hw rfl).run pins s σ H D I ?_⟩
  obtain ⟨e, fp, E, st, hwp, ok⟩ := q
  refine ⟨e, fp, E.ex, _, st, hwp, ok.xok, fun vs H1 fp1 ss as e1 p1 st1 hl rs nd na kk => ⟨by rw [hl]; exact Nat.le_trans hz (by decide), fun a hna => ?_⟩⟩
  have pu : Pers H1 (upd H1 a (.tup vs)) := pers_upd (.inl hna)
  refine ⟨a, vs, rfl, SqT.of upd_same, by rw [hl, hl1], e1, fp1, ss, as, _, st1.upd (st1.none hna) (.inl hna), rs.keep pu fun c hc u q => ?_, nd, fun c hc => (na c hc).1, kk, fun e' σ' fp' st' sub s1 q => ?_⟩
  · rw [upd_ne (ne_of_none q hna)]; exact q
  · refine ok.nx _ _ _ _ ?_ st' (s1.keep hp) q
    have q2 := p1.wf.trans' (Post.new (b := false) (fp := fp1) (o := .tup vs) hna)
    exact ⟨q2.keep, q2.there, fun c hc => by
      rcases sub c hc with h | h
      · exact q2.own c h
      · exact (na c h).2, fun z => nomatch z⟩
end
end Gr

end
section
set_option Elab.async false
set_option linter.all false
set_option maxRecDepth 100000
set_option maxHeartbeats 4000000
namespace Gr
open PySem PySem.Spec L2
open PyProof.Rows hiding St
inductive RepSs (g : Gm) (H : Hp) : List V → List Sl → List Addr → Prop
  | nil : RepSs g H [] [] []
  | cons {v s as vs ss bs} : RepS g H (some v) s as → RepSs g H vs ss bs → RepSs g H (v :: vs) (s :: ss) (as ++ bs)
inductive RepOuts (g : Gm) (H : Hp) : List Bool → List V → List Sl → List Addr → Prop
  | nil : RepOuts g H [] [] [] []
  | own {v s as io vs ss bs} : RepS g H (some v) s as → RepOuts g H io vs ss bs → RepOuts g H (true :: io) (v :: vs) (s :: ss) (as ++ bs)
  | val {v io vs ss bs} : RepOuts g H io vs ss bs → RepOuts g H (false :: io) (v :: vs) ss bs
/-- a def's promise -/
def spF (g : Gm) (call : CallT) (f : String) (io : List Bool) : Sp := fun vs H Q E => vs.length = io.length ∧ ∃ as fp K X, RepSs g H vs as fp ∧ fp.Nodup ∧ call f as K X ∧
  (∀ v H1 r outs fpO, Post false H fp H1 fpO → fpO.Nodup → RepOuts g H1 io vs outs fpO → RepR g H fp H1 fpO v r → K r outs → Q v H1) ∧
  (∀ c v H1 cls d, Post false H fp H1 [] → Err g H1 c v cls d → X c v → E cls d H1)
section
variable {X : L2.Cx} {g : Gm} {wd : Wd} {N : List String} {sc : Scope} {lv : Nat} {fds bl : List String} {W : WX} {b b2 b3 top : Bool} {pins : List (Addr × Obj)} {σ σ' σ1 : L2.St} {H H0 H1 H2 : Hp} {s s2 : Shared} {e e1 e2 : Env} {fp fp1 fp2 fp' fpA fpE fpO : List Addr} {Y : Xt}
variable {x y z c : Expr} {ma mb mc : WpK} {me me' : WpE} {pos apos npos : Pos} {pr : Nat → Bool} {D : L2.Ends} {E : Gr.Ends} {ms ms' : Env → Gr.Ends → Prop}
inductive ArgsA (g : Gm) (H : Hp) (σ : L2.St) : List Bool → List C → List V → List Gr.D → Prop
  | nil : ArgsA g H σ [] [] [] []
  | own {i v io cs vs ds} : σ[i]? = some (some v) → ArgsA g H σ io cs vs ds → ArgsA g H σ (true :: io) (.var i :: cs) (v :: vs) ds
  | val {c v d io cs vs ds} : RepD g H v d → ArgsA g H σ io cs vs ds → ArgsA g H σ (false :: io) (c :: cs) (v :: vs) (d :: ds)
theorem ArgsA.mono (p : Pers H H1) : ∀ {io : List Bool} {cs : List C} {vs : List V} {ds : List Gr.D}, ArgsA g H σ io cs vs ds → ArgsA g H1 σ io cs vs ds
  | _, _, _, _, .nil => .nil
  | _, _, _, _, .own h r => .own h (ArgsA.mono p r)
  | _, _, _, _, .val h r => .val (h.mono p) (ArgsA.mono p r)
theorem ArgsA.len : ∀ {io : List Bool} {cs : List C} {vs : List V} {ds : List Gr.D}, ArgsA g H σ io cs vs ds → vs.length = io.length
  | _, _, _, _, .nil => rfl
  | _, _, _, _, .own h r => congrArg (· + 1) (ArgsA.len r)
  | _, _, _, _, .val h r => congrArg (· + 1) (ArgsA.len r)
abbrev WpA := Xt → Env → (List Gr.D → Env → Prop) → Prop
variable {mA : WpA} {es : List Expr}
def tAr (g : Gm) (W : WX) (b : Bool) (io : List Bool) (cs : List C) (m : WpA) : TA := fun σ H Q => ∃ e fp X K, Stt g H σ e fp ∧ m X e K ∧ XOk g W σ H fp X ∧
  ∀ vs H1 fp1 ds e1, Post b H fp H1 fp1 → Stt g H1 σ e1 fp1 → ArgsA g H1 σ io cs vs ds → K ds e1 → Q vs H1
theorem ja_nil : PA X [] (tAr g W b [] [] fun _ e k => k [] e) := by
  refine ⟨fun pos pins s σ H Q I q => ?_⟩
  obtain ⟨e, fp, Y, K, st, hw, hx, hk⟩ := q
  exact Calls.spliced_nil ⟨[], H, I, .nil, hk _ _ _ _ _ .refl st .nil hw⟩
theorem ja_val {io : List Bool} {cs : List C} {cc : C} (hn : noStar x = true) (ha : PE X x (tK g W b ma)) (hr : PA X es (tAr g W b io cs mA)) : PA X (x :: es) (tAr g W b (false :: io) (cc :: cs) fun Y e k => ma Y e fun d e1 => mA Y e1 fun ds e2 => k (d :: ds) e2) := by
  refine ⟨fun pos pins s σ H Q I q => ?_⟩
  obtain ⟨e, fp, Y, K, st, hw, hx, hk⟩ := q
  rw [star_ne (env := X) hn]
  show wpAny _ _ (spliced ((false, eval x X.env) :: backTo pos (starEach es X.env))) _ _ s
  refine Calls.spliced_cons (runK ha I st hw hx fun v u s1 H1 fp1 d e1 I1 rv p1 st1 hx1 rd kk => ?_)
  exact thn (hr.run pos pins s1 σ H1 (fun vs H2 => ∃ ds fp2 e2, Post b H1 fp1 H2 fp2 ∧ Stt g H2 σ e2 fp2 ∧ ArgsA g H2 σ io cs vs ds ∧ K (d :: ds) e2) I1 ⟨e1, fp1, Y, _, st1, kk, hx1, fun vs H2 fp2 ds e2 a b c d => ⟨ds, fp2, e2, a, b, c, d⟩⟩)
    fun us s2 ⟨vs, H2, I2, r2, ds, fp2, e2, p2, st2, rs, kk2⟩ => ⟨v :: vs, H2, I2, .cons rv r2, hk _ _ _ _ _ (p1.trans' p2) st2 (.val (rd.mono (st1.pers p2)) rs) kk2⟩
theorem ja_own (ct : Ct g wd N sc lv X) {io : List Bool} {cs : List C} {i : Nat} {nm : Str} (h : nameB N sc i nm = true) (hr : PA X es (tAr g W b io cs mA)) : PA X (.Name nm npos :: es) (tAr g W b (true :: io) (.var i :: cs) fun Y e k => lookK e i fun s => hereK s (mA Y e k)) := by
  refine ⟨fun pos pins s σ H Q I q => ?_⟩
  obtain ⟨e, fp, Y, K, st, hw, hx, hk⟩ := q
  rw [star_ne (env := X) (x := .Name nm npos) rfl]
  show wpAny _ _ (spliced ((false, eval (.Name nm npos) X.env) :: backTo pos (starEach es X.env))) _ _ s
  obtain ⟨sl, h1, h2⟩ := lookK_iff.mp hw
  obtain ⟨y, as, pre, post, s1, s2, s3, s4⟩ := st.rep.split h1
  have : ∃ v, y = some v ∧ mA Y e K := by
    cases s2 with
    | no => exact h2.elim
    | val _ => exact ⟨_, rfl, h2⟩
    | own _ => exact ⟨_, rfl, h2⟩
    | obj _ _ _ => exact ⟨_, rfl, h2⟩
  obtain ⟨v, rfl, h2⟩ := this
  refine Calls.spliced_cons (thn ((pe_nm ct h).run pins s σ H (fun w H1 => w = v ∧ H1 = H) I ⟨v, s1, rfl, rfl⟩) fun u s1' ⟨w, H1, I1, rv, e1, e2⟩ => ?_)
  subst e1 e2
  exact thn (hr.run pos pins s1' σ _ (fun vs H2 => ∃ ds fp2 e2, Post b _ fp H2 fp2 ∧ Stt g H2 σ e2 fp2 ∧ ArgsA g H2 σ io cs vs ds ∧ K ds e2) I1 ⟨e, fp, Y, _, st, h2, hx, fun vs H2 fp2 ds e2 a b c d => ⟨ds, fp2, e2, a, b, c, d⟩⟩)
    fun us s2 ⟨vs, H2, I2, r2, ds, fp2, e2, p2, st2, rs, kk2⟩ => ⟨_ :: vs, H2, I2, .cons rv r2, hk _ _ _ _ _ p2 st2 (.own s1 rs) kk2⟩

/-! ### own things are handed, and come back -/
theorem hand_ok : ∀ {io : List Bool} {cs : List C} {vs : List V} {ds : List Gr.D} {e : Env} {fp : List Addr} {k : List Sl → Env → Prop}, ArgsA g H σ io cs vs ds → Stt g H σ e fp → handK io cs ds e k →
    ∃ as e2 fpA fpE, RepSs g H vs as fpA ∧ fpA.Nodup ∧ Stt g H σ e2 fpE ∧ (∀ a ∈ fpA, a ∈ fp ∧ a ∉ fpE) ∧ (∀ a ∈ fpE, a ∈ fp) ∧ (io.all (! ·) = true → fpA = []) ∧ k as e2
  | _, _, _, _, e, fp, k, .nil, st, h => ⟨[], e, [], fp, .nil, .nil, st, (fun a h => nomatch h), fun _ h => h, fun _ => rfl, h⟩
  | _, _, _, _, e, fp, k, .val (v := v) (d := d) rd r, st, h => by
    obtain ⟨as, e2, fpA, fpE, h1, h2, h3, h4, h5, h6, h7⟩ := hand_ok r st h
    exact ⟨.val d :: as, e2, fpA, fpE, RepSs.cons (as := []) (.val rd) h1, h2, h3, h4, h5, fun z => h6 (by simpa using z), h7⟩
  | _, _, _, _, e, fp, k, .own (i := i) (v := v) hv r, st, h => by
    obtain ⟨sl, q1, q2⟩ := lookK_iff.mp h
    obtain ⟨hi, q2⟩ := setK_iff.mp q2
    obtain ⟨y, as, pre, post, s1, s2, s3, s4⟩ := st.rep.split q1
    have e0 := s1.symm.trans hv
    cases e0
    have nd := st.nd
    rw [s3] at nd
    have z := s4 H ⟨fun _ _ h => h, fun _ _ _ h => h⟩ (fun _ _ _ h => h) (some v) .no [] .no
    rw [set_same s1] at z
    have st2 : Stt g H σ (e.set i .no) (pre ++ ([] ++ post)) := ⟨z, nodup_mid nd .nil (fun a h => nomatch h)⟩
    obtain ⟨as', e2, fpA, fpE, h1, h2, h3, h4, h5, h6, h7⟩ := hand_ok r st2 q2
    have inMid : ∀ a, a ∈ pre ++ ([] ++ post) → a ∈ pre ++ post := fun a h => by simpa using h
    have key : sl ≠ .no → (∀ d, sl ≠ .val d) → k (sl :: as') e2 := fun n1 n2 => by
      cases sl with
      | no => exact absurd rfl n1
      | val d => exact absurd rfl (n2 d)
      | own d => exact h7
      | obj c fs => exact h7
    have n1 : sl ≠ .no := fun z => by subst z; exact h7.elim
    have n2 : ∀ d, sl ≠ .val d := fun d z => by subst z; exact h7.elim
    refine ⟨sl :: as', e2, as ++ fpA, fpE, .cons s2 h1, ?_, h3, fun a ha => ?_, fun a ha => ?_, fun z => by simp at z, key n1 n2⟩
    · rw [List.nodup_append]
      exact ⟨nodup_of_mid nd, h2, fun a ha c hc z => by subst z; exact mid_ne nd ha (inMid a (h4 a hc).1)⟩
    · rcases List.mem_append.mp ha with ha | ha
      · exact ⟨by rw [s3]; simp [ha], fun z => mid_ne nd ha (inMid a (h5 a z))⟩
      · refine ⟨by rw [s3]; have := (h4 a ha).1; simp at this ⊢; rcases this with h | h <;> simp [h], (h4 a ha).2⟩
    · rw [s3]; have := h5 a ha; simp at this ⊢; rcases this with h | h <;> simp [h]
theorem back_ok : ∀ {io : List Bool} {cs : List C} {vs : List V} {ds : List Gr.D} {outs : List Sl} {fpO : List Addr} {e : Env} {fpE : List Addr} {k : Env → Prop}, ArgsA g H σ io cs vs ds → RepOuts g H1 io vs outs fpO → fpO.Nodup → Stt g H1 σ e fpE → (∀ a ∈ fpO, a ∉ fpE) → handBackK io cs outs e k →
    ∃ e3 fp3, Stt g H1 σ e3 fp3 ∧ k e3 ∧ ∀ a ∈ fp3, a ∈ fpO ∨ a ∈ fpE
  | _, _, _, _, _, _, e, fpE, k, .nil, .nil, nd, st, hd, h => ⟨e, fpE, st, h, fun a h => .inr h⟩
  | _, _, _, _, _, _, e, fpE, k, .val rd r, .val ro, nd, st, hd, h => back_ok r ro nd st hd h
  | _, _, _, _, _, _, e, fpE, k, .own (i := i) (v := v) hv r, .own (s := s) (as := as) (bs := bs) rs ro, nd, st, hd, h => by
    obtain ⟨hi, h⟩ := setK_iff.mp h
    obtain ⟨y, as0, pre, post, s1, s2, s3, s4⟩ := st.rep.split (s := e[i]) (List.getElem?_eq_getElem hi)
    have e0 := s1.symm.trans hv
    cases e0
    have z := s4 H1 ⟨fun _ _ h => h, fun _ _ _ h => h⟩ (fun _ _ _ h => h) (some v) s as rs
    rw [set_same s1] at z
    have nd2 := st.nd
    rw [s3] at nd2
    rw [List.nodup_append] at nd
    have st2 : Stt g H1 σ (e.set i s) (pre ++ (as ++ post)) := ⟨z, nodup_mid nd2 nd.1 fun a ha => .inr fun hm => hd a (by simp [ha]) (by rw [s3]; simp at hm ⊢; rcases hm with h | h <;> simp [h])⟩
    obtain ⟨e3, fp3, q1, q2, q3⟩ := back_ok r ro nd.2.1 st2 (fun a ha hm => by
      simp at hm
      rcases hm with hm | hm | hm
      · exact hd a (by simp [ha]) (by rw [s3]; simp [hm])
      · exact nd.2.2 a hm a ha rfl
      · exact hd a (by simp [ha]) (by rw [s3]; simp [hm])) h
    refine ⟨e3, fp3, q1, q2, fun a ha => ?_⟩
    rcases q3 a ha with h | h
    · exact .inl (by simp [h])
    · simp at h
      rcases h with h | h | h
      · exact .inr (by rw [s3]; simp [h])
      · exact .inl (by simp [h])
      · exact .inr (by rw [s3]; simp [h])
theorem outs_nil : ∀ {io : List Bool} {vs : List V} {outs : List Sl} {fpO : List Addr}, RepOuts g H io vs outs fpO → io.all (! ·) = true → outs = [] ∧ fpO = []
  | _, _, _, _, .nil, _ => ⟨rfl, rfl⟩
  | _, _, _, _, .own _ _, h => by simp at h
  | _, _, _, _, .val r, h => outs_nil r (by simpa using h)
theorem outs_cut : ∀ {io : List Bool} {vs dvs : List V} {outs : List Sl} {fpO : List Addr}, RepOuts g H io (vs ++ dvs) outs fpO → (io.drop vs.length).all (! ·) = true → RepOuts g H (io.take vs.length) vs outs fpO
  | _, [], dvs, outs, fpO, r, h => by
    have := outs_nil r (by simpa using h)
    obtain ⟨rfl, rfl⟩ := this
    exact .nil
  | _, v :: vs, dvs, _, _, .own rs r, h => .own rs (outs_cut r (by simpa using h))
  | _, v :: vs, dvs, _, _, .val r, h => .val (outs_cut r (by simpa using h))
theorem reps_app : ∀ {vs : List V} {as : List Sl} {fp : List Addr} {dvs : List V} {ds : List Gr.D}, RepSs g H vs as fp → RepDs g H dvs ds → RepSs g H (vs ++ dvs) (as ++ ds.map .val) fp
  | _, _, _, [], _, .nil, .nil => .nil
  | _, _, _, _ :: _, _, .nil, .cons h r => by
    show RepSs g H (_ :: _) (_ :: _) _
    exact RepSs.cons (as := []) (.val h) (reps_app .nil r)
  | _, _, _, _, _, .cons h r, s => by
    rw [List.cons_append, List.cons_append]
    exact .cons h (reps_app r s)
/-- what the link says of a def -/
structure FLnk (g : Gm) (fn : Fn) (a : Addr) (fd : FuncData) (ps : List Str) (dvs : List V) : Prop where
  kp : PySem.W.keepIn g.K (.ref a) = true
  np : ps.length = fn.np
  io : fn.io.length = fn.np
  dfl : ∀ H, RepDs g H dvs fn.dflt
  bnd : ∀ n, n ≤ fn.np → fn.np - n ≤ dvs.length → ∃ ds, Vals (dvs.drop (dvs.length - (fn.np - n))) ds ∧ Binds g.K fd ps ds
theorem je_call (ct : Ct g wd N sc lv X) (tk : Takes X W) {P : Cx} {f : String} {fn : Fn} {a : Addr} {fd : FuncData} {ps : List Str} {dvs : List V} {k0 : Nat} {cs : List C} {p : Pos} (L : FLnk g fn a fd ps dvs)
    (F : FnOk X.prog X.w X.K X.mg X.base (L2.CX X.prog X.w) k0 a fd ps (spF g P.call f fn.io)) (hr : Room k0 X.A) (hg : Gl X (Str.ofString f)) (hm : X.mg (Str.ofString f) = some (.ref a)) (hdb : (Str.ofString f == ("__debug__" : Str)) = false)
    (hne : es ≠ []) (hst : ∀ x ∈ es, noStar x = true) (hlen : cs.length ≤ fn.np) (hmin : fn.np - cs.length ≤ fn.dflt.length) (hes : es.length = cs.length) (htail : (fn.io.drop cs.length).all (! ·) = true) (hb : b = true → (fn.io.take cs.length).all (! ·) = true)
    (ha : PA X es (tAr g W b (fn.io.take cs.length) cs mA)) :
    PE X (.Call (.Name (Str.ofString f) p) es [] pos) (tE g W b fun Y e k => mA Y e fun ds e1 => doCallK P Y f (fn.io.take cs.length) (defaults fn cs.length) cs ds e1 k) := by
  have ddl : dvs.length = fn.dflt.length := (L.dfl (fun _ => none)).length
  obtain ⟨ds0, hd0, hbd⟩ := L.bnd cs.length hlen (by rw [ddl]; exact hmin)
  rw [← ct.K] at hbd
  have kp := L.kp
  rw [← ct.K] at kp
  cases es with
  | nil => exact absurd rfl hne
  | cons x0 es =>
    have plain : (backTo pos (starEach es X.env)).any (·.1) = false := by
      have go : ∀ es : List Expr, (∀ x ∈ es, noStar x = true) → (backTo pos (starEach es X.env)).any (·.1) = false := fun es => by
        induction es with
        | nil => intro _; rfl
        | cons y ys ih =>
          intro h
          rw [star_ne (env := X) (h y (by simp))]
          exact ih fun z hz => h z (by simp [hz])
      exact go es fun z hz => hst z (by simp [hz])
    refine peMono (pe_callSD (E := WE W) F hr hg hm kp hbd hd0 (passAt tk) ha hdb (star_ne (env := X) (hst x0 (by simp))) plain) fun σ H Q q => ?_
    obtain ⟨e, fp, Y, K, st, hw, hx, hk⟩ := q
    refine ⟨e, fp, Y, _, st, hw, hx, fun vs H1 fp1 ds e1 p1 st1 ar kk => ?_⟩
    have hx1 := hx.post p1
    have kk : handK (fn.io.take cs.length) cs ds e1 fun as e2 => P.call f (as ++ defaults fn cs.length) (fun r outs => handBackK (fn.io.take cs.length) cs outs e2 fun e3 => K r e3) fun c v => Y c v e2 := kk
    obtain ⟨as, e2, fpA, fpE, h1, h2, h3, h4, h5, h6, h7⟩ := hand_ok ar st1 kk
    have vl : vs.length = cs.length := by rw [ar.len, List.length_take, L.io]; omega
    have dl : dvs.length - (fn.np - cs.length) = fn.dflt.length - (fn.np - cs.length) := by rw [ddl]
    refine ⟨?_, _, fpA, (fun r outs => handBackK (fn.io.take cs.length) cs outs e2 fun e3 => K r e3), (fun c v => Y c v e2), reps_app h1 (((L.dfl H1).drop (dvs.length - (fn.np - cs.length)))), h2, ?_, fun v H2 r outs fpO p2 ndO ro rr kr => ?_, fun c v H2 cls d p2 er xx => ?_⟩
    · rw [List.length_append, List.length_drop, vl, L.io]; omega
    · unfold defaults at h7
      rw [dl]
      exact h7
    · have ro2 := outs_cut ro (by rw [vl]; exact htail)
      rw [vl] at ro2
      have disj : ∀ c ∈ fpO, c ∉ fpE := fun c hc hm => by
        rcases p2.own c hc with h | h
        · exact (h4 c h).2 hm
        · obtain ⟨u, eu, _⟩ := h3.rep.mut c hm
          rw [h] at eu; cases eu
      have pr : Pers H1 H2 := p2.pers fun c hc => st1.rep.mut c (h4 c hc).1
      have stE : Stt g H2 σ e2 fpE := h3.keep pr fun c hc u q => p2.keep c u q fun z => (h4 c z).2 hc
      obtain ⟨e3, fp3, q1, q2, q3⟩ := back_ok (ar.mono pr) ro2 ndO stE disj kr
      have P2 : Post b H1 fp1 H2 fp3 := ⟨fun c o q n => p2.keep c o q fun z => n (h4 c z).1, p2.there, fun c hc => by
        rcases q3 c hc with h | h
        · rcases p2.own c h with h | h
          · exact .inl (h4 c h).1
          · exact .inr h
        · exact .inl (h5 c h), fun z c C dx fs q => p2.keep c _ q (by rw [h6 (hb z)]; simp)⟩
      refine hk _ _ _ _ _ (p1.trans' P2) q1 ?_ q2
      cases rr with
      | val rd => exact .val rd
      | @own c d ro na h0 =>
        refine .own ro (fun z => ?_) ?_
        · rcases q3 c z with h | h
          · exact na h
          · rcases h0 with h0 | h0
            · exact (h4 c h0).2 h
            · obtain ⟨u, eu, _⟩ := h3.rep.mut c h
              rw [h0] at eu; cases eu
        · rcases h0 with h0 | h0
          · exact p1.own c (h4 c h0).1
          · exact .inr (p1.not_none h0)
    · have pr : Pers H1 H2 := p2.pers fun c hc => st1.rep.mut c (h4 c hc).1
      have stE : Stt g H2 σ e2 fpE := h3.keep pr fun c hc u q => p2.keep c u q fun z => (h4 c z).2 hc
      exact hx1 c v e2 H2 fpE cls d ⟨fun a o q n => p2.keep a o q fun z => n (h4 a z).1, p2.there, fun a ha => .inl (h5 a ha), fun z => nomatch z⟩ stE er xx
end
end Gr

end
section
set_option Elab.async false
set_option linter.all false
set_option maxRecDepth 100000
set_option maxHeartbeats 4000000
namespace Gr
open PySem PySem.Spec L2
open PyProof.Rows hiding St
section
variable {X : L2.Cx} {g : Gm} {wd : Wd} {N : List String} {sc : Scope} {lv : Nat} {fds bl : List String} {W : WX} {b b2 b3 top : Bool} {pins : List (Addr × Obj)} {σ σ' σ1 : L2.St} {H H0 H1 H2 : Hp} {s s2 : Shared} {e e1 e2 : Env} {fp fp1 fp2 fp' fpA fpE fpO : List Addr} {Y : Xt}
variable {x y z c : Expr} {ma mb mc : WpK} {me me' : WpE} {pos apos npos : Pos} {pr : Nat → Bool} {D : L2.Ends} {E : Gr.Ends} {ms ms' : Env → Gr.Ends → Prop} {es : List Expr} {ml : WpLs}
theorem star_all : ∀ {es : List Expr}, (∀ x ∈ es, noStar x = true) → (backTo pos (starEach es X.env)).all (fun x => !x.1) = true ∧ (backTo pos (starEach es X.env)).any (·.1) = false
  | [], _ => ⟨rfl, rfl⟩
  | y :: ys, h => by
    obtain ⟨h1, h2⟩ := star_all (es := ys) fun z hz => h z (by simp [hz])
    rw [star_ne (env := X) (h y (by simp))]
    exact ⟨h1, h2⟩
/-- o.m(..): the tree of a method call of an own class -/
theorem ometh_run {o : Expr} {m : Str} {Q : Value → Shared → Prop} (hbase : attributeBase o m X.env (eval o X.env) = eval o X.env) (hfew : es.length < 30) (hst : ∀ x ∈ es, noStar x = true) (hline : (apos.endLine == pos.line) = true)
    (h : wpAny (model X.prog X.w) X.A (eval o X.env) (fun ov s1 => ∀ pl : Sem Bool, wpAny (model X.prog X.w) X.A (getMethod ov m pl) (fun fx s2 => wpAny (model X.prog X.w) X.A (callWith pos fx.1 fx.2 (backTo pos (starEach es X.env)) (backToKw pos (keywordEach [] X.env))) Q X.xe s2) X.xe s1) X.xe s) :
    wpAny (model X.prog X.w) X.A (eval (.Call (.Attribute o m apos) es [] pos) X.env) Q X.xe s := by
  obtain ⟨h1, h2⟩ := star_all (X := X) (pos := pos) hst
  have hform : methodCallForm (es.length + ([] : List Keyword).length) (backTo pos (starEach es X.env)) (backToKw pos (keywordEach [] X.env)) = true := by
    show ((backTo pos (starEach es X.env)).all (fun x => !x.1) && (backToKw pos (keywordEach [] X.env)).all (fun x => x.1.isSome) && decide (es.length + ([] : List Keyword).length + (if ([] : List Keyword).isEmpty then 0 else 1) < 30)) = true
    rw [h1, show backToKw pos (keywordEach [] X.env) = [] from rfl]
    simpa using hfew
  have hpos : methodCallPos true o X.env apos pos = pure pos := by unfold methodCallPos; simp [hline]
  rw [arm_eval_Call, hbase]
  refine wpAny_bind (thn h fun ov s1 h1 => ?_)
  refine wpAny_bind (wpAny_standAt ?_)
  unfold methodCall
  rw [hform]
  refine wpAny_bind (wpAny_holding (thn (h1 _) fun fx s2 h2 => ?_))
  exact wpAny_bind (wpAny_of_eq hpos h2)
theorem outs_one {io : List Bool} {v : V} {vs : List V} {outs : List Sl} (hio : ioM io = true) (r : RepOuts g H io (v :: vs) outs fpO) : ∃ o, outs = [o] ∧ RepS g H (some v) o fpO := by
  cases r with
  | own rs r =>
    obtain ⟨rfl, rfl⟩ := outs_nil r hio
    exact ⟨_, rfl, by rw [List.append_nil]; exact rs⟩
  | val r => cases hio
theorem reps_vals : ∀ {vs : List V} {ds : List Gr.D}, RepDs g H vs ds → RepSs g H vs (ds.map .val) []
  | _, _, .nil => .nil
  | _, _, .cons h r => RepSs.cons (as := []) (.val h) (reps_vals r)
/-- what is at hand of the methods of a name -/
def MethsAt (g : Gm) (X : L2.Cx) (P : Cx) (m : String) : Prop := ∀ c C fn, g.ca c = some C → P.fns (c ++ "." ++ m) = some fn → ∃ a fd ps dvs k0, FLnk g fn a fd ps dvs ∧ Meth g.K C (Str.ofString m) a ∧
  FnOk X.prog X.w X.K X.mg X.base (L2.CX X.prog X.w) k0 a fd ps (spF g P.call (c ++ "." ++ m) fn.io) ∧ Room k0 X.A
theorem je_ocall (ct : Ct g wd N sc lv X) (lk : Lnk g wd fds bl) (tk : Takes X W) {P : Cx} {i n : Nat} {nm : Str} {m : String} (h : nameB N sc i nm = true) (hM : MethsAt g X P m) (hn : n = es.length) (hfew : n < 30) (hst : ∀ x ∈ es, noStar x = true) (hline : (apos.endLine == pos.line) = true)
    (ha : (es = [] ∧ ∀ Y e k, ml Y e k → k [] e) ∨ (es ≠ [] ∧ PA X es (tL g W false es.length ml))) : PE X (.Call (.Attribute (.Name nm npos) (Str.ofString m) apos) es [] pos) (tE g W false fun Y e k => lookK e i fun s => objK s fun c fs => onlyIf (noF fs m) (optK (P.fns (c ++ "." ++ m)) fun fn => onlyIf (ioM fn.io && Nat.ble (n + 1) fn.np && Nat.ble fn.np (n + 1 + fn.dflt.length)) (ml Y e fun ds e1 =>
      lookK e1 i fun s => objK s fun c' fs' => setK e1 i .no fun e2 => P.call (c ++ "." ++ m) (.obj c' fs' :: (ds.map .val ++ defaults fn (n + 1))) (fun r outs => out1K outs fun o => setK e2 i o fun e3 => k r e3) fun c v => Y c v e2))) := by
  subst hn
  refine ⟨fun pins s σ H Q I q => ?_⟩
  obtain ⟨e, fp, Y, K, st, hw, hx, hk⟩ := q
  obtain ⟨sl, q1, q2⟩ := lookK_iff.mp hw
  have s' := st.rep.split q1
  obtain ⟨y, as, pre, post, s1, s2, s3, s4⟩ := s'
  cases s2 with
  | no => exact q2.elim
  | val _ => exact q2.elim
  | own _ => exact q2.elim
  | @obj a0 C dx fv c fs as haI hc r =>
    have cl := lk.cls c C hc
    rw [← ct.K] at cl
    have onl : ∀ {t : Bool} {p : Prop}, onlyIf t p → t = true ∧ p := fun {t p} h => by cases t with | true => exact ⟨rfl, h⟩ | false => exact h.elim
    obtain ⟨hno, q2⟩ := onl (show onlyIf (noF fs m) _ from q2)
    obtain ⟨fn, hfn, q2⟩ := optK_iff.mp q2
    obtain ⟨hio, q2⟩ := onl q2
    simp only [Bool.and_eq_true, Nat.ble_eq] at hio
    obtain ⟨⟨hioM, hnp⟩, hnp2⟩ := hio
    obtain ⟨fa, fd, ps, dvs, k0, L, hm, F, hr⟩ := hM c C fn hc hfn
    have hlk := r.noF hno
    have ddl : dvs.length = fn.dflt.length := (L.dfl (fun _ => none)).length
    rw [← ct.K] at hm
    have star := star_all (X := X) (pos := pos) hst
    refine ometh_run rfl hfew hst hline (thn ((pe_nm ct h).run pins s σ H (fun w H1 => w = V.ref a0 ∧ H1 = H) I ⟨_, s1, rfl, rfl⟩) fun u s1' ⟨w, Hs, I1, rv, e1, e2⟩ => fun pl => ?_)
    subst e1
    subst e2
    cases rv
    refine getmeth_ok I1 haI cl.1 hm hlk ?_
    -- the callee runs
    have go : ∀ (us : List Value) (s2 : Shared) (vs : List V) (H1 : Hp) (fp1 : List Addr) (ds : List Gr.D) (e1 : Env), L2.Inv X pins σ H1 s2 → Vals vs us → Post false Hs fp H1 fp1 → Stt g H1 σ e1 fp1 → vs.length = es.length → RepDs g H1 vs ds →
        (lookK e1 i fun s => objK s fun c' fs' => setK e1 i .no fun e2 => P.call (c ++ "." ++ m) (.obj c' fs' :: (ds.map .val ++ defaults fn (es.length + 1))) (fun r outs => out1K outs fun o => setK e2 i o fun e3 => K r e3) fun c v => Y c v e2) →
        wpAny (model X.prog X.w) X.A (call (.ref fa) (.ref a0 :: us)) (EP X pins σ Q) X.xe s2 := by
      intro us s2 vs H1 fp1 ds e1 I2 rv p1 st1 hl rds kk
      have hx1 := hx.post p1
      have hdd : fn.np - (es.length + 1) ≤ fn.dflt.length := by omega
      · obtain ⟨ds0, hd0, hbd⟩ := L.bnd (es.length + 1) hnp (by rw [ddl]; exact hdd)
        rw [← ct.K] at hbd
        refine run_fnSD (E := WE W) F hr hbd hd0 (passAt tk σ) I2 (vs := .ref a0 :: vs) (.cons rfl rv) ?_
        obtain ⟨sl2, w1, w2⟩ := lookK_iff.mp kk
        have s'' := st1.rep.split w1
        obtain ⟨y2, as2, pre2, post2, t1, t2, t3, t4⟩ := s''
        rw [s1] at t1; cases t1
        have nd := st1.nd
        rw [t3] at nd
        cases sl2 with
        | obj c' fs' =>
          obtain ⟨hi, w2⟩ := setK_iff.mp w2
          have z := t4 H1 ⟨fun _ _ h => h, fun _ _ _ h => h⟩ (fun _ _ _ h => h) (some (.ref a0)) .no [] .no
          rw [set_same s1] at z
          have stE : Stt g H1 σ (e1.set i .no) (pre2 ++ ([] ++ post2)) := ⟨z, nodup_mid nd .nil (fun a h => nomatch h)⟩
          have dl : dvs.length - (fn.np - (es.length + 1)) = fn.dflt.length - (fn.np - (es.length + 1)) := by rw [ddl]
          have inM : ∀ a, a ∈ pre2 ++ ([] ++ post2) → a ∈ pre2 ++ post2 := fun a h => by simpa using h
          have inF : ∀ a, a ∈ pre2 ++ post2 → a ∈ fp1 := fun a h => by rw [t3]; simp at h ⊢; rcases h with h | h <;> simp [h]
          refine ⟨?_, _, as2, (fun r outs => out1K outs fun o => setK (e1.set i .no) i o fun e3 => K r e3), (fun c v => Y c v (e1.set i .no)), ?_, nodup_of_mid nd, w2, fun v H2 r outs fpO p2 ndO ro rr kr => ?_, fun c v H2 cls d p2 er xx => ?_⟩
          · rw [L.io, List.length_append, List.length_cons, List.length_drop, hl]; omega
          · have := RepSs.cons t2 (reps_app (reps_vals rds) ((L.dfl H1).drop (dvs.length - (fn.np - (es.length + 1)))))
            rw [List.append_nil] at this
            unfold defaults
            rw [← dl]
            exact this
          · obtain ⟨o, rfl, rs⟩ := outs_one hioM ro
            have kr : setK (e1.set i .no) i o fun e3 => K r e3 := kr
            obtain ⟨_, kr⟩ := setK_iff.mp kr
            have pr : Pers H1 H2 := p2.pers fun c hc => st1.rep.mut c (by rw [t3]; simp [hc])
            have stE2 : Stt g H2 σ (e1.set i .no) (pre2 ++ ([] ++ post2)) := stE.keep pr fun c hc u q => p2.keep c u q fun z => mid_ne nd z (inM c hc)
            obtain ⟨y3, as3, pre3, post3, x1, x2, x3, x4⟩ := stE2.rep.split (i := i) (s := .no) (by rw [List.getElem?_set_self hi])
            cases x2
            rw [s1] at x1; cases x1
            have z2 := x4 H2 ⟨fun _ _ h => h, fun _ _ _ h => h⟩ (fun _ _ _ h => h) (some (.ref a0)) o fpO rs
            rw [set_same s1] at z2
            have nd3 := stE2.nd
            rw [x3] at nd3
            have disj : ∀ a ∈ fpO, a ∉ pre2 ++ ([] ++ post2) := fun a ha hm => by
              rcases p2.own a ha with h | h
              · exact mid_ne nd h (inM a hm)
              · obtain ⟨u, eu, _⟩ := stE.rep.mut a hm
                rw [h] at eu; cases eu
            have x3' : ∀ a, a ∈ pre3 ++ post3 → a ∈ pre2 ++ ([] ++ post2) := fun a h => by rw [x3]; simpa using h
            have st3 : Stt g H2 σ ((e1.set i .no).set i o) (pre3 ++ (fpO ++ post3)) := ⟨z2, nodup_mid nd3 ndO fun a ha => .inr fun hm => disj a ha (x3' a hm)⟩
            have sub : ∀ a ∈ pre3 ++ (fpO ++ post3), a ∈ fpO ∨ a ∈ fp1 := fun a ha => by
              simp at ha
              rcases ha with h | h | h
              · exact .inr (inF a (inM a (x3' a (by simp [h]))))
              · exact .inl h
              · exact .inr (inF a (inM a (x3' a (by simp [h]))))
            have P2 : Post false H1 fp1 H2 (pre3 ++ (fpO ++ post3)) := ⟨fun c o q n => p2.keep c o q fun z => n (by rw [t3]; simp [z]), p2.there, fun c hc => by
              rcases sub c hc with h | h
              · rcases p2.own c h with h | h
                · exact .inl (by rw [t3]; simp [h])
                · exact .inr h
              · exact .inl h, fun z => nomatch z⟩
            refine hk _ _ _ _ _ (p1.trans' P2) st3 ?_ kr
            cases rr with
            | val rd => exact .val rd
            | @own c d ro na h0 =>
              refine .own ro (fun z => ?_) ?_
              · simp at z
                rcases z with h | h | h
                · rcases h0 with h0 | h0
                  · exact mid_ne nd h0 (inM c (x3' c (by simp [h])))
                  · obtain ⟨u, eu, _⟩ := stE.rep.mut c (x3' c (by simp [h]))
                    rw [h0] at eu; cases eu
                · exact na h
                · rcases h0 with h0 | h0
                  · exact mid_ne nd h0 (inM c (x3' c (by simp [h])))
                  · obtain ⟨u, eu, _⟩ := stE.rep.mut c (x3' c (by simp [h]))
                    rw [h0] at eu; cases eu
              · rcases h0 with h0 | h0
                · exact p1.own c (by rw [t3]; simp [h0])
                · exact .inr (p1.not_none h0)
          · have pr : Pers H1 H2 := p2.pers fun c hc => st1.rep.mut c (by rw [t3]; simp [hc])
            have stE2 : Stt g H2 σ (e1.set i .no) (pre2 ++ ([] ++ post2)) := stE.keep pr fun c hc u q => p2.keep c u q fun z => mid_ne nd z (inM c hc)
            exact hx1 c v _ H2 _ cls d ⟨fun a o q n => p2.keep a o q fun z => n (by rw [t3]; simp [z]), p2.there, fun a ha => .inl (inF a (inM a ha)), fun z => nomatch z⟩ stE2 er xx
        | _ => exact w2.elim
    rcases ha with ⟨rfl, h0⟩ | ⟨hne, ha⟩
    · exact PySem.W.callWith_K0 (first := [.ref a0]) I1.kIn hm.kp (go [] s1' [] Hs fp [] e I1 .nil .refl st rfl .nil (h0 _ _ _ q2))
    cases es with
    | nil => exact absurd rfl hne
    | cons x0 es =>
      refine PySem.W.callWith_K (first := [.ref a0]) (h₀ := X.base) I1.ok.mod.kin hm.kp (thn (ha.run pos pins s1' σ _ (fun vs H1 => ∃ ds fp1 e1, Post false Hs fp H1 fp1 ∧ Stt g H1 σ e1 fp1 ∧ vs.length = (x0 :: es).length ∧ RepDs g H1 vs ds ∧ (lookK e1 i fun s => objK s fun c' fs' => setK e1 i .no fun e2 => P.call (c ++ "." ++ m) (.obj c' fs' :: (ds.map .val ++ defaults fn ((x0 :: es).length + 1))) (fun r outs => out1K outs fun o => setK e2 i o fun e3 => K r e3) fun c v => Y c v e2)) I1 ⟨e, fp, Y, _, st, q2, hx, fun vs H1 fp1 ds e1 a b n c d => ⟨ds, fp1, e1, a, b, n, c, d⟩⟩)
        fun us s2 ⟨vs, H2, I2, r2, ds, fp2, e2, p2, st2, hl, rds, kk⟩ => ⟨I2.kIn, go us s2 vs H2 fp2 ds e2 I2 r2 p2 st2 hl rds kk⟩) (star_ne (env := X) (hst x0 (by simp))) (star_all (X := X) (fun z hz => hst z (by simp [hz]))).2
end
end Gr

end
section
set_option Elab.async false
set_option linter.all false
set_option maxRecDepth 100000
set_option maxHeartbeats 4000000
namespace Gr
open PySem PySem.Spec L2
open PyProof.Rows hiding St
section
variable {X : L2.Cx} {g : Gm} {wd : Wd} {N : List String} {sc : Scope} {lv : Nat} {fds bl : List String} {W : WX} {b b2 b3 top : Bool} {pins : List (Addr × Obj)} {σ σ' σ1 : L2.St} {H H0 H1 H2 : Hp} {s s2 : Shared} {e e1 e2 : Env} {fp fp1 fp2 fp' fpA fpE fpO : List Addr} {Y : Xt}
variable {x y z c : Expr} {ma mb mc : WpK} {me me' : WpE} {pos apos npos : Pos} {pr : Nat → Bool} {D : L2.Ends} {E : Gr.Ends} {ms ms' : Env → Gr.Ends → Prop} {es : List Expr} {ml : WpLs}
theorem Stt.setS (st : Stt g H σ e fp) {i : Nat} {v : V} {s : Sl} {as : List Addr} (hi : i < e.length) (rs : RepS g H (some v) s as) (nd : as.Nodup) (na : ∀ a ∈ as, a ∉ fp) : ∃ fp', Stt g H (σ.set i (some v)) (e.set i s) fp' ∧ ∀ c ∈ fp', c ∈ fp ∨ c ∈ as := by
  obtain ⟨y, as0, pre, post, s1, s2, s3, s4⟩ := st.rep.split (s := e[i]) (List.getElem?_eq_getElem hi)
  have z := s4 H ⟨fun _ _ h => h, fun _ _ _ h => h⟩ (fun _ _ _ h => h) (some v) s as rs
  have nd2 := st.nd
  rw [s3] at nd2
  refine ⟨_, ⟨z, nodup_mid nd2 nd (fun c hc => .inr fun hm => na c hc ?_)⟩, fun c hc => ?_⟩
  · rw [s3]; simp at hm ⊢; rcases hm with h | h <;> simp [h]
  · rw [s3]; simp at hc ⊢
    rcases hc with h | h | h
    · exact .inl (.inl h)
    · exact .inr h
    · exact .inl (.inr (.inr h))
theorem newK_inv {r o : Sl} {c : String} {k : Fs → Prop} (h : newK r [o] c k) : ∃ fs, r = .val .non ∧ o = .obj c fs ∧ k fs := by
  cases r with
  | val d =>
    cases d with
    | non =>
      cases o with
      | obj c' fs => exact ⟨fs, rfl, by rw [h.1], h.2⟩
      | _ => exact h.elim
    | _ => exact h.elim
  | _ => exact h.elim
theorem pass_none : Passes (L2.CX X.prog X.w) X fun _ _ _ => False := fun pins σ H s e s' I h => (passAt (X := X) (W := fun _ _ _ _ => False) (fun u s' ⟨_, _, _, _, _, _, _, _, _, _, _, _, _, _, _, _, w⟩ => w.elim) σ) pins H s e s' I h
theorem js_new (ct : Ct g wd N sc lv X) (tp : Top X top) {P : Cx} {c : String} {C fa : Addr} {fd : FuncData} {ps : List Str} {dvs : List V} {k0 i n : Nat} {fn : Fn} {nm : Str} {p cpos : Pos} (hC : g.ca c = some C) (hfn : P.fns (c ++ ".__init__") = some fn) (M : Mk g.K C fa) (L : FLnk g fn fa fd ps dvs)
    (F : FnOk X.prog X.w X.K X.mg X.base (L2.CX X.prog X.w) k0 fa fd ps (spF g P.call (c ++ ".__init__") fn.io)) (hr : Room (k0 + 1) X.A) (hg : Gl X (Str.ofString c)) (hm : X.mg (Str.ofString c) = some (.ref C)) (hdb : (Str.ofString c == ("__debug__" : Str)) = false)
    (h : asgB N sc top i nm = true) (hp : pr i = false) (hn : n = es.length) (hst : ∀ x ∈ es, noStar x = true) (ha : (es = [] ∧ ∀ Y e k, ml Y e k → k [] e) ∨ (es ≠ [] ∧ PA X es (tL g W true es.length ml))) :
    PS X (.Assign [.Name nm npos] (.Call (.Name (Str.ofString c) p) es [] cpos) pos) (tS g W pr fun e E => optK (P.fns (c ++ ".__init__")) fun fn => onlyIf (ioM fn.io && fn.np == n + 1) (ml E.ex e fun ds e1 =>
      P.call (c ++ ".__init__") (.obj c [] :: ds.map .val) (fun r outs => newK r outs c fun fs => setK e1 i (.obj c fs) E.nx) fun _ _ => False)) := by
  subst hn
  obtain ⟨h1, h2, h3⟩ := loc_of ct tp h
  refine ⟨fun pins s σ H D I q => ?_⟩
  obtain ⟨e, fp, E, st, hw, ok⟩ := q
  rw [hfn] at hw
  have onl : ∀ {t : Bool} {p : Prop}, onlyIf t p → t = true ∧ p := fun {t p} h => by cases t with | true => exact ⟨rfl, h⟩ | false => exact h.elim
  obtain ⟨hio, hw1⟩ := onl (show onlyIf (ioM fn.io && fn.np == es.length + 1) _ from hw)
  clear hw
  simp only [Bool.and_eq_true, beq_iff_eq] at hio
  obtain ⟨hioM, hnp⟩ := hio
  obtain ⟨ds0, hd0, hbd⟩ := L.bnd (es.length + 1) (by omega) (by omega)
  have d0 : dvs.drop (dvs.length - (fn.np - (es.length + 1))) = [] := by rw [hnp]; simp
  rw [d0] at hd0
  rw [← ct.K] at hbd M
  -- the end, from the arguments on
  have fin : ∀ (vs : List V) (H1 : Hp) (fp1 : List Addr) (ds : List Gr.D) (e1 : Env), Post true H fp H1 fp1 → Stt g H1 σ e1 fp1 → vs.length = es.length → RepDs g H1 vs ds →
      (P.call (c ++ ".__init__") (.obj c [] :: ds.map .val) (fun r outs => newK r outs c fun fs => setK e1 i (.obj c fs) E.nx) fun _ _ => False) →
      ∀ x dx, H1 x = none → H1 dx = none → dx ≠ x → spF g P.call (c ++ ".__init__") fn.io (.ref x :: (vs ++ [])) (upd (upd H1 dx (.own x)) x (.ins C dx [])) (fun v H2 => v = .non ∧ D.nx (σ.set i (some (.ref x))) H2) fun _ _ _ => False := by
    intro vs H1 fp1 ds e1 p1 st1 hl rds kk x dx hx hdx hne
    have nx1 : x ∉ fp1 := st1.none hx
    have ndx : dx ∉ fp1 := st1.none hdx
    have st2 := (st1.upd (o := .own x) ndx (.inl hdx)).upd (o := .ins C dx []) nx1 (.inl (by rw [upd_ne (Ne.symm hne)]; exact hx))
    have pr2 : Pers H1 (upd (upd H1 dx (.own x)) x (.ins C dx [])) := (pers_upd (.inl hdx)).trans (pers_upd (.inl (by rw [upd_ne (Ne.symm hne)]; exact hx)))
    refine ⟨?_, _, [x], (fun r outs => newK r outs c fun fs => setK e1 i (.obj c fs) E.nx), (fun _ _ => False), ?_, by simp, kk, fun v H2 r outs fpO p2 ndO ro rr kr => ?_, fun _ _ _ _ _ _ _ h => h⟩
    · rw [L.io, List.append_nil, List.length_cons, hl, hnp]
    · have := RepSs.cons (g := g) (H := upd (upd H1 dx (.own x)) x (.ins C dx [])) (.obj upd_same hC .nil) (reps_vals (rds.mono pr2))
      rw [List.append_nil]
      exact this
    · obtain ⟨o, rfl, rs⟩ := outs_one hioM ro
      obtain ⟨fs, er, eo, kr2⟩ := newK_inv (show newK r [o] c fun fs => setK e1 i (.obj c fs) E.nx from kr)
      subst er eo
      clear kr
      obtain ⟨hi, kr⟩ := setK_iff.mp kr2
      have prx : Pers (upd (upd H1 dx (.own x)) x (.ins C dx [])) H2 := p2.pers fun c hc => by simp at hc; subst hc; exact ⟨_, upd_same, trivial⟩
      have st3 : Stt g H2 σ e1 fp1 := st2.keep prx fun c hc u q => p2.keep c u q fun z => by simp at z; subst z; exact nx1 hc
      obtain ⟨fp3, st4, sub⟩ := st3.setS hi rs ndO fun a ha hm => by
        rcases p2.own a ha with h | h
        · simp at h; subst h; exact nx1 hm
        · obtain ⟨u, eu, _⟩ := st2.rep.mut a hm
          rw [h] at eu; cases eu
      refine ⟨by cases rr with | val rd => exact rd.non_inv, ok.nx _ _ _ _ ⟨fun a u q nf => ?_, fun a q => ?_, fun a ha => ?_, fun z => nomatch z⟩ st4 (.set hp) kr⟩
      · have q1 := p1.keep a u q nf
        have a1 : a ≠ x := ne_of_none q1 hx
        refine p2.keep a u ?_ (by simpa using a1)
        rw [upd_ne a1, upd_ne (ne_of_none q1 hdx)]; exact q1
      · refine p2.there a ?_
        have q1 := p1.there a q
        by_cases a1 : a = x
        · subst a1; rw [upd_same]; exact Option.some_ne_none _
        · rw [upd_ne a1]
          by_cases a2 : a = dx
          · subst a2; rw [upd_same]; exact Option.some_ne_none _
          · rw [upd_ne a2]; exact q1
      · rcases sub a ha with h | h
        · exact p1.own a h
        · rcases p2.own a h with h | h
          · simp at h; subst h; exact .inr (p1.not_none hx)
          · refine .inr (p1.not_none ?_)
            by_cases a1 : a = x
            · subst a1; exact hx
            · rw [upd_ne a1] at h
              by_cases a2 : a = dx
              · subst a2; exact hdx
              · rw [upd_ne a2] at h; exact h
  rcases ha with ⟨rfl, h0⟩ | ⟨hne, ha⟩
  · have he := pe_make0 (pos := cpos) (p := p) (E := fun _ _ _ => False) (dvs := []) M F hr hg hm hbd hd0 pass_none hdb
    exact (ps_set ct.nd h1 h2 he rfl h3).run pins s σ H D I (fun x dx q1 q2 q3 => fin [] H fp [] e .refl st rfl .nil (h0 _ _ _ hw1) x dx q1 q2 q3)
  · cases es with
    | nil => exact absurd rfl hne
    | cons x0 es =>
      have he := pe_make (pos := cpos) (p := p) (E := fun _ _ _ => False) (dvs := []) M F hr hg hm hbd hd0 pass_none ha hdb (star_ne (env := X) (hst x0 (by simp))) (star_all (X := X) (fun z hz => hst z (by simp [hz]))).2
      exact (ps_set ct.nd h1 h2 he rfl h3).run pins s σ H D I ⟨e, fp, E.ex, _, st, hw1, ok.xok, fun vs H1 fp1 ds e1 p1 st1 hl rds kk x dx q1 q2 q3 => fin vs H1 fp1 ds e1 p1 st1 hl rds kk x dx q1 q2 q3⟩

/-! ### a def's entry -/
theorem outs_of : ∀ {io : List Bool} {vs : List V} {σ : L2.St} {e : Env} {fp : List Addr} {k : List Sl → Prop}, RepE g H σ e fp → vs.length = io.length → (∀ (i : Nat) (v : V), io[i]? = some true → vs[i]? = some v → σ[i]? = some (some v)) → outsK io e k →
    ∃ outs fpO, RepOuts g H io vs outs fpO ∧ fpO.Sublist fp ∧ k outs
  | [], [], σ, e, fp, k, r, hl, hv, h => ⟨[], [], .nil, List.nil_sublist _, h⟩
  | [], _ :: _, _, _, _, _, _, hl, _, _ => by simp at hl
  | _ :: _, [], _, _, _, _, _, hl, _, _ => by simp at hl
  | true :: io, v :: vs, _, [], fp, k, r, hl, hv, h => h.elim
  | false :: io, v :: vs, _, [], fp, k, r, hl, hv, h => h.elim
  | true :: io, v :: vs, _, s :: e, _, k, .cons (x := x) (σ := σ) (as := as) (bs := bs) hs r, hl, hv, h => by
    obtain ⟨outs, fpO, h1, h2, h3⟩ := outs_of (io := io) (vs := vs) r (by simpa using hl) (fun i v h1 h2 => by have := hv (i + 1) v (by simpa using h1) (by simpa using h2); simpa using this) h
    have hx := hv 0 v rfl rfl
    simp at hx
    subst hx
    refine ⟨s :: outs, as ++ fpO, .own hs h1, List.Sublist.append (List.Sublist.refl _) h2, ?_⟩
    cases s with
    | no => exact h3.elim
    | val d => exact h3.elim
    | own d => exact h3
    | obj c fs => exact h3
  | false :: io, v :: vs, _, s :: e, _, k, .cons (x := x) (σ := σ) (as := as) (bs := bs) hs r, hl, hv, h => by
    obtain ⟨outs, fpO, h1, h2, h3⟩ := outs_of (io := io) (vs := vs) r (by simpa using hl) (fun i v h1 h2 => by have := hv (i + 1) v (by simpa using h1) (by simpa using h2); simpa using this) h
    exact ⟨outs, fpO, .val h1, h2.trans (List.sublist_append_right _ _), h3⟩
theorem pad_of : ∀ {N : List String} {as : List Sl} {k : Env → Prop}, padK N as k → as.length ≤ N.length ∧ k (as ++ List.replicate (N.length - as.length) .no)
  | [], [], k, h => ⟨Nat.le_refl _, h⟩
  | _ :: N, s :: ss, k, h => by
    obtain ⟨h1, h2⟩ := pad_of (N := N) (as := ss) (k := fun e => k (s :: e)) h
    exact ⟨Nat.succ_le_succ h1, by simpa using h2⟩
  | _ :: N, [], k, h => by
    obtain ⟨h1, h2⟩ := pad_of (N := N) (as := []) (k := fun e => k (.no :: e)) h
    refine ⟨Nat.zero_le _, ?_⟩
    simpa [List.replicate_succ] using h2
  | [], _ :: _, _, h => h.elim
theorem rep_nos : ∀ n : Nat, RepE g H (List.replicate n none) (List.replicate n .no) []
  | 0 => .nil
  | n + 1 => RepE.cons (as := []) .no (rep_nos n)
theorem rep_start : ∀ {vs : List V} {as : List Sl} {fp : List Addr} (n : Nat), RepSs g H vs as fp → RepE g H (vs.map some ++ List.replicate n none) (as ++ List.replicate n .no) fp
  | _, _, _, n, .nil => rep_nos n
  | _, _, _, n, .cons h r => .cons h (rep_start n r)
theorem RepSs.len : ∀ {vs : List V} {as : List Sl} {fp : List Addr}, RepSs g H vs as fp → vs.length = as.length
  | _, _, _, .nil => rfl
  | _, _, _, .cons _ r => congrArg (· + 1) (RepSs.len r)
def prOf (io : List Bool) (i : Nat) : Bool := io[i]? == some true
/-- what a def's body is run in -/
structure BodyCx (g : Gm) (wd : Wd) (N : List String) (sc : Scope) (k : Nat) (X : L2.Cx) (W : WX) : Prop where
  ct : Ct g wd N sc k X
  tp : Top X true
  tk : Takes X W
  po : PassesOwn (model X.prog X.w) X.A X.env X.xe
theorem fn_ok {G : Prog} {n k : Nat} {f : String} {fn : Fn} {a : Addr} {fd : FuncData} {ps : List Str} {dvs : List V} {xn qual : Str} {params : Arguments} {body : List Stmt} {scope : Scope} (hfn : G.fns f = some fn) (hio : fn.io.length = ps.length) (FD : FunD g.K xn qual params body scope dvs [] a fd) (S : FnScope (fn.N.map Str.ofString) ps scope)
    (hbody : ∀ X W, BodyCx g wd fn.N scope k X W → PSs X body (tS g W (prOf fn.io) fun e E => wpSs (G.cx (G.callF n)) fn.body e E)) :
    FnOk wd.prog wd.w g.K wd.mg wd.base (L2.CX wd.prog wd.w) (k + 1) a fd ps (spF g (G.callF (n + 1)) f fn.io) := by
  refine FD.ok S (fun vs H Q E h => h.1.trans hio) fun cdv A outer s H vs Q E hr h => ?_
  obtain ⟨hl, as, fp, K, Xx, rs, nd, hc, hQ, hE⟩ := h
  have hc : optK (G.fns f) fun fn => runFn (G.cx (G.callF n)) fn as K Xx := hc
  rw [hfn] at hc
  have onl : ∀ {t : Bool} {p : Prop}, onlyIf t p → t = true ∧ p := fun {t p} h => by cases t with | true => exact ⟨rfl, h⟩ | false => exact h.elim
  obtain ⟨hfit, hp⟩ := onl (show onlyIf (fits fn.io as) _ from hc)
  obtain ⟨hN, hw⟩ := pad_of hp
  have hst : L2.start (fn.N.map Str.ofString) vs = vs.map some ++ List.replicate (fn.N.length - as.length) none := by
    unfold L2.start
    rw [List.length_map, rs.len]
  refine ⟨_, hbody _ (fun cls d _ H' => E cls d H') ⟨⟨rfl, rfl, rfl, rfl, rfl, rfl, S.nd, rfl, rfl, hr⟩, ⟨fun _ _ => rfl⟩, ?_, ?_⟩, _, fp, _, ⟨by rw [hst]; exact rep_start _ rs, nd⟩, hw, ?_⟩
  · exact takes_of rfl rfl rfl rfl
  · exact passes_of rfl
  · have back : ∀ {σ1 : L2.St} {H1 : Hp} {fp1 : List Addr} {e1 : Env} {k : List Sl → Prop}, Stt g H1 σ1 e1 fp1 → Keep (prOf fn.io) (L2.start (fn.N.map Str.ofString) vs) σ1 → outsK fn.io e1 k → ∃ outs fpO, RepOuts g H1 fn.io vs outs fpO ∧ fpO.Sublist fp1 ∧ k outs := by
      intro σ1 H1 fp1 e1 k st1 k1 ho
      refine outs_of st1.rep hl (fun i v h1 h2 => ?_) ho
      rw [k1.at_ i (by unfold prOf; rw [h1]; rfl), hst, List.getElem?_append_left (by
        rw [List.length_map]
        exact (List.getElem?_eq_some_iff.mp h2).1), List.getElem?_map, h2]
      rfl
    refine ⟨fun σ1 H1 fp1 e1 p st1 k1 q => ?_, fun v σ1 H1 fp1 r e1 p st1 k1 rr q => ?_, fun _ _ _ _ _ _ _ q => q.elim, fun _ _ _ _ _ _ _ q => q.elim, fun c v σ1 e1 H1 fp1 cls d p st1 k1 er q => ?_⟩
    · obtain ⟨outs, fpO, h1, h2, h3⟩ := back st1 k1 q
      exact hQ _ _ _ _ fpO (p.sub (fun _ h => h) fun a ha => h2.subset ha) (st1.nd.sublist h2) h1 (.val .non) h3
    · obtain ⟨outs, fpO, h1, h2, h3⟩ := back st1 k1 q
      refine hQ _ _ _ _ fpO (p.sub (fun _ h => h) fun a ha => h2.subset ha) (st1.nd.sublist h2) h1 ?_ h3
      cases rr with
      | val rd => exact .val rd
      | own ro na h0 => exact .own ro (fun z => na (h2.subset z)) h0
    · exact hE c v H1 cls d (p.sub (fun _ h => h) fun a ha => nomatch ha) er q
end
end Gr

end
section
set_option Elab.async false
set_option linter.all false
set_option maxRecDepth 100000
set_option maxHeartbeats 4000000
/-! The checker: does a def of the small language say what the text says? -/
namespace Gr
open PySem PySem.Spec L2
open PyProof.Rows hiding St
/-- what stands fast for one def: its names, the fields, the built-ins, the defs, the constants, the tuples, the classes -/
structure Ky where
  N : List String
  fds : List String
  bl : List String
  fl : List (String × Fn)
  gl : List String
  gt : List String
  cl : List String
def Ky.fn (K : Ky) (f : String) : Option Fn := K.fl.lookup f
def glN (sc : Scope) (f : String) : Bool := (sc.names.lookup (Str.ofString f) == some .globalImplicit) && !(Str.ofString f == ("__debug__" : Str))
def ownOf (N : List String) (ix : List Nat) : List (Str × Nat) := ix.filterMap fun i => (N[i]?).map fun s => (Str.ofString s, i)
def blkB (N : List String) (sc scope : Scope) (ix : List Nat) : Bool :=
  let own := ownOf N ix
  let NS := N.map Str.ofString
  (own.map (·.2) == ix) && (scope.kind == .function) && scope.names.all (fun y => scope.names.lookup y.1 == some y.2) && own.all (fun p => NS[p.2]? == some p.1)
    && scope.names.all (fun y => !(y.2 == .free) || (sc.names.lookup y.1 == some .cell || sc.names.lookup y.1 == some .free))
    && scope.names.all (fun y => !(y.2 == .local || y.2 == .cell) || ((own.map (·.1)).contains y.1 || !NS.contains y.1))
def chkTg (N : List String) (sc : Scope) (top : Bool) : Tg → Expr → Bool
  | .nm i, .Name nm _ => asgB N sc top i nm
  | .tp is, .Tuple es _ _ => go is es
  | _, _ => false
where go : List Nat → List Expr → Bool
  | [], [] => true
  | i :: is, .Name nm _ :: es => asgB N sc top i nm && go is es
  | _, _ => false
def plainT : Expr → Bool
  | .Name .. => true
  | .Call .. => true
  | .Subscript .. => true
  | .Attribute .. => true
  | .Constant .. => true
  | .ListComp .. => true
  | _ => false
def notSet : Expr → Bool
  | .Set .. => false
  | _ => true
def bsF : Bo → Bool
  | .p p => !p.isV
  | .x _ => false
/-- a piece's checker: instances are kept, the scope, the text -/
abbrev F := Bool → Scope → Expr → Bool
abbrev FL := Bool → Scope → List Expr → Bool
def cVar (K : Ky) (i : Nat) : F := fun b sc x => match x with
  | .Name nm _ => nameB K.N sc i nm
  | _ => false
def cGlob (K : Ky) (g : String) : F := fun b sc x => match x with
  | .Name nm _ => nm == Str.ofString g && K.gl.contains g && glN sc g
  | _ => false
def cInt (i : Int) : F := fun b sc x => match x with
  | .Constant (.int j) _ _ => i == j
  | _ => false
def cStr (s : List Nat) : F := fun b sc x => match x with
  | .Constant (.str z) _ _ => z == sOf s && okSb s
  | _ => false
def cBl (v : Bool) : F := fun b sc x => match x with
  | .Constant (.bool w) _ _ => v == w
  | _ => false
def cNon : F := fun b sc x => match x with
  | .Constant .none _ _ => true
  | _ => false
def cTup (f : FL) : F := fun b sc x => match x with
  | .Tuple xs _ _ => f b sc xs && Nat.ble xs.length 1000
  | _ => false
def cLst (f : FL) : F := fun b sc x => match x with
  | .List xs _ => f b sc xs && Nat.ble xs.length 1000
  | _ => false
def cDnew : F := fun b sc x => match x with
  | .Dict [] [] _ => true
  | _ => false
def cBin (op : BOp) (fa fd : F) : F := fun b sc x => match x with
  | .BinOp l o r _ => o == opOf op && fa b sc l && fd b sc r
  | _ => false
def cNeg (fa : F) : F := fun b sc x => match x with
  | .UnaryOp .USub y _ => fa b sc y
  | _ => false
def cCmp (op : Cmp) (fa fd : F) : F := fun b sc x => match x with
  | .Compare l [o] [r] _ => o == cmpOf op && !behindInMarks (cmpOf op) r && fa b sc l && fd b sc r
  | _ => false
def cChain (p q : Cmp) (fa fm fd : F) : F := fun b sc x => match x with
  | .Compare l [o1, o2] [y, r] _ => o1 == cmpOf p && o2 == cmpOf q && !lastMarks [cmpOf p, cmpOf q] [y, r] && fa b sc l && fm b sc y && fd b sc r
  | _ => false
def cInG (K : Ky) (t : Bool) (g : String) (fa : F) : F := fun b sc x => match x with
  | .Compare l [o] [.Name nm _] _ => o == (if t then CmpOp.In else CmpOp.NotIn) && nm == Str.ofString g && K.gt.contains g && glN sc g && fa b sc l
  | _ => false
def cAnd (fa fc : F) : F := fun b sc x => match x with
  | .BoolOp .And (y :: z :: rest) p => fa b sc y && (match rest with | [] => fc b sc z | _ :: _ => fc b sc (.BoolOp .And (z :: rest) p))
  | _ => false
def cOr (fa fc : F) : F := fun b sc x => match x with
  | .BoolOp .Or (y :: z :: rest) p => fa b sc y && (match rest with | [] => fc b sc z | _ :: _ => fc b sc (.BoolOp .Or (z :: rest) p))
  | _ => false
def cNot (fa : F) : F := fun b sc x => match x with
  | .UnaryOp .Not y _ => fa b sc y
  | _ => false
def cIte (ft fa fc : F) : F := fun b sc x => match x with
  | .IfExp w y z _ => ft b sc w && fa b sc y && fc b sc z
  | _ => false
def cIdx (d : Bo) (fd fi : F) : F := fun b sc x => match x with
  | .Subscript y z _ => notSlice z && fd b sc y && fi (b || bsF d) sc z
  | _ => false
def cSlc (d : Bo) (fd : F) (fl fh : Bool → Scope → Option Expr → Bool) : F := fun b sc x => match x with
  | .Subscript y (.Slice l h none _) _ => fd b sc y && fl (b || bsF d) sc l && fh (b || bsF d) sc h
  | _ => false
def cAttr (K : Ky) (i : Nat) (f : String) : F := fun b sc x => match x with
  | .Attribute (.Name nm _) f' _ => nameB K.N sc i nm && f' == Str.ofString f && K.fds.contains f
  | _ => false
def cRng1 (K : Ky) (fc : F) : F := fun b sc x => match x with
  | .Call (.Name nm _) [y] [] _ => nm == Str.ofString "range" && glB sc K.bl "range" && noStar y && fc b sc y
  | _ => false
def cRng2 (K : Ky) (fa fc : F) : F := fun b sc x => match x with
  | .Call (.Name nm _) [y, z] [] _ => nm == Str.ofString "range" && glB sc K.bl "range" && noStar y && noStar z && fa b sc y && fc b sc z
  | _ => false
def cComp (K : Ky) (tg : Tg) (fi fe : F) (ft : FL) : F := fun b sc x => match x with
  | .ListComp y [⟨tgE, iter, ifsE, 0⟩] scope _ => blkB K.N sc scope tg.ix && notSet iter && fi b sc iter && chkTg K.N (relS scope sc) false tg tgE && ft b (relS scope sc) ifsE && fe b (relS scope sc) y
  | _ => false
def cDcomp (K : Ky) (tg : Tg) (fi fk fv : F) : F := fun b sc x => match x with
  | .DictComp y z [⟨tgE, iter, [], 0⟩] scope _ => blkB K.N sc scope tg.ix && notSet iter && fi b sc iter && chkTg K.N (relS scope sc) false tg tgE && fk b (relS scope sc) y && fv b (relS scope sc) z
  | _ => false
def cCall (K : Ky) (f : String) (n : Nat) (fa : List Bool → FL) : F := fun b sc x => match x with
  | .Call (.Name nm _) (e0 :: es) [] _ => nm == Str.ofString f && glN sc f && (match K.fn f with
    | some fn => Nat.ble n fn.np && Nat.ble fn.np (n + fn.dflt.length) && (n == es.length + 1) && (fn.io.drop n).all (! ·) && (!b || (fn.io.take n).all (! ·)) && fa (fn.io.take n) b sc (e0 :: es)
    | none => false)
  | _ => false
def cOcall (K : Ky) (i : Nat) (m : String) (n : Nat) (fa : FL) : F := fun b sc x => match x with
  | .Call (.Attribute (.Name nm _) m' apos) es [] pos => !b && nameB K.N sc i nm && m' == Str.ofString m && apos.endLine == pos.line && (n == es.length) && Nat.blt n 30 && fa false sc es
  | _ => false
def cIsi (K : Ky) (t : Ty) (fd : F) : F := fun b sc x => match x with
  | .Call (.Name nm _) [y, .Name tn _] [] _ => nm == Str.ofString "isinstance" && glB sc K.bl "isinstance" && noStar y && fd b sc y && (match t.nm with | some s => tn == Str.ofString s && glB sc K.bl s | none => false)
  | _ => false
def cB1 (K : Ky) (f : B1) (fd : F) : F := fun b sc x => match x with
  | .Call (.Name nm _) [y] [] _ => nm == Str.ofString f.nm && glB sc K.bl f.nm && noStar y && fd b sc y
  | _ => false
def cB2 (K : Ky) (f : B2) (fa fd : F) : F := fun b sc x => match x with
  | .Call (.Name nm _) [y, z] [] _ => nm == Str.ofString f.nm && glB sc K.bl f.nm && noStar y && noStar z && fa b sc y && fd b sc z
  | _ => false
def cJoin (m : M1) (d : Bo) (fa : F) : F := fun b sc x => match m, d with
  | .join, .x (.str s) => match x with
    | .Call (.Attribute (.Constant (.str z) _ _) mm apos) [y] [] pos => z == sOf s && okSb s && mm == Str.ofString "join" && noStar y && apos.endLine == pos.line && fa b sc y
    | _ => false
  | _, _ => false
def cMut (K : Ky) (m : String) (p : Pl) (fa : F) : F := fun b sc x => match x with
  | .Call (.Attribute o mm apos) [y] [] pos => mm == Str.ofString m && plcB K.N sc K.fds p o && noStar y && apos.endLine == pos.line && fa (b || !p.isV) sc y
  | _ => false
def cPop (K : Ky) (p : Pl) : F := fun b sc x => match x with
  | .Call (.Attribute o mm apos) [] [] pos => mm == Str.ofString "pop" && plcB K.N sc K.fds p o && apos.endLine == pos.line
  | _ => false
def cNil : FL := fun _ _ xs => xs.isEmpty
def cCons (f : F) (fr : FL) : FL := fun b sc xs => match xs with
  | x :: xs => noStar x && f b sc x && fr b sc xs
  | [] => false
def cNilA : List Bool → FL := fun io _ _ xs => io.isEmpty && xs.isEmpty
def cConsA (K : Ky) (c : C) (f : F) (fr : List Bool → FL) : List Bool → FL := fun io b sc xs => match io, xs with
  | true :: io, .Name nm _ :: xs => (match c with | .var i => nameB K.N sc i nm | _ => false) && fr io b sc xs
  | false :: io, x :: xs => noStar x && f b sc x && fr io b sc xs
  | _, _ => false
def cOne (f : F) : FL := fun b sc xs => match xs with
  | [x] => f b sc x
  | _ => false
def cNo : F := fun _ _ _ => false
def cVal (f : F) : F := fun b sc x => f b sc x && plainT x
mutual
def chk (K : Ky) : C → F
  | .var i => cVar K i
  | .glob g => cGlob K g
  | .int i => cInt i
  | .str s => cStr s
  | .bl v => cBl v
  | .non => cNon
  | .tup es => cTup (chkL K es)
  | .lst es => cLst (chkL K es)
  | .dnew _ => cDnew
  | .bin op a d => cBin op (chk K a) (chkB K d)
  | .neg a => cNeg (chk K a)
  | .cmp op a d => cCmp op (chk K a) (chkB K d)
  | .chain p q a m d => cChain p q (chk K a) (chk K m) (chkB K d)
  | .inG t a g => cInG K t g (chk K a)
  | .and_ a c => cAnd (chk K a) (chk K c)
  | .or_ a c => cOr (chk K a) (chk K c)
  | .not_ a => cNot (chk K a)
  | .ite t a c => cIte (chkT K t) (chk K a) (chk K c)
  | .idx d i => cIdx d (chkB K d) (chk K i)
  | .slc d lo hi => cSlc d (chkB K d) (chkO K lo) (chkO K hi)
  | .attr i f => cAttr K i f
  | .comp tg elt it ifs => cComp K tg (chkI K it) (chk K elt) (chkTs K ifs)
  | .dcomp tg a v it => cDcomp K tg (chkI K it) (chk K a) (chk K v)
  | .rng _ _ => cNo
  | .call f args => cCall K f args.length (chkA K args)
  | .ocall i m args => cOcall K i m args.length (chkL K args)
  | .isi d t => cIsi K t (chkB K d)
  | .b1 f d => cB1 K f (chkB K d)
  | .b2 f a d => cB2 K f (chk K a) (chkB K d)
  | .m1 m d a => cJoin m d (chk K a)
  | .m2 _ _ _ _ => cNo
  | .app p a => cMut K "append" p (chk K a)
  | .ext p a => cMut K "extend" p (chk K a)
  | .pop p => cPop K p
/-- what is walked -/
def chkI (K : Ky) : C → F
  | .rng none c => cRng1 K (chk K c)
  | .rng (some a) c => cRng2 K (chk K a) (chk K c)
  | .var i => cVar K i
  | .idx d i => cIdx d (chkB K d) (chk K i)
  | .slc d lo hi => cSlc d (chkB K d) (chkO K lo) (chkO K hi)
  | .attr i f => cAttr K i f
  | .tup es => cTup (chkL K es)
  | .lst es => cLst (chkL K es)
  | .str s => cStr s
  | .call f args => cCall K f args.length (chkA K args)
  | .b1 f d => cB1 K f (chkB K d)
  | .bin op a d => cBin op (chk K a) (chkB K d)
  | _ => cNo
def chkB (K : Ky) : Bo → F
  | .p p => fun _ sc x => plcB K.N sc K.fds p x
  | .x c => chk K c
def chkT (K : Ky) : T → F
  | .val (.x (.cmp op a d)) => cCmp op (chk K a) (chkB K d)
  | .val (.x (.chain p q a m d)) => cChain p q (chk K a) (chk K m) (chkB K d)
  | .val (.x (.inG t a g)) => cInG K t g (chk K a)
  | .val d => cVal (chkB K d)
  | .and_ s t => cAnd (chkT K s) (chkT K t)
  | .or_ s t => cOr (chkT K s) (chkT K t)
  | .not_ t => cNot (chkT K t)
def chkL (K : Ky) : List C → FL
  | [] => cNil
  | c :: cs => cCons (chk K c) (chkL K cs)
def chkO (K : Ky) : Option C → Bool → Scope → Option Expr → Bool
  | none => fun _ _ x => x.isNone
  | some c => fun b sc x => match x with | some x => chk K c b sc x | none => false
def chkA (K : Ky) : List C → List Bool → FL
  | [] => cNilA
  | c :: cs => cConsA K c (chk K c) (chkA K cs)
def chkTs (K : Ky) : List T → FL
  | [] => cNil
  | [t] => cOne (chkT K t)
  | _ => fun _ _ _ => false
end
end Gr

end
section
set_option Elab.async false
set_option linter.all false
set_option maxRecDepth 100000
set_option maxHeartbeats 4000000
namespace Gr
open PySem PySem.Spec L2
open PyProof.Rows hiding St
/-- the link of a program at hand of a body's depth -/
structure LnkX (g : Gm) (wd : Wd) (K : Ky) (P : Cx) (A : Around) : Prop where
  lk : Lnk g wd K.fds K.bl
  hu : A.units + 66 < cLine
  fns : ∀ f fn, K.fn f = some fn → P.fns f = some fn ∧ ∃ a fd ps dvs k0, FLnk g fn a fd ps dvs ∧ FnOk wd.prog wd.w g.K wd.mg wd.base (L2.CX wd.prog wd.w) k0 a fd ps (spF g P.call f fn.io) ∧ Room k0 A ∧ wd.mg (Str.ofString f) = some (.ref a)
  meths : ∀ m c C fn, g.ca c = some C → P.fns (c ++ "." ++ m) = some fn → ∃ a fd ps dvs k0, FLnk g fn a fd ps dvs ∧ Meth g.K C (Str.ofString m) a ∧ FnOk wd.prog wd.w g.K wd.mg wd.base (L2.CX wd.prog wd.w) k0 a fd ps (spF g P.call (c ++ "." ++ m) fn.io) ∧ Room k0 A
  glb : ∀ x d, x ∈ K.gl → P.glb x = some d → ∃ v u, wd.mg (Str.ofString x) = some u ∧ RelV v u ∧ ∀ H, RepD g H v d
  gtp : ∀ x d, x ∈ K.gt → P.glb x = some d → ∃ a vs ds, d = .tup ds ∧ wd.mg (Str.ofString x) = some (.ref a) ∧ ∀ H, SqT g.K H a vs ∧ RepDs g H vs ds
  news : ∀ c, c ∈ K.cl → ∃ C fn fa fd ps dvs k0, g.ca c = some C ∧ P.fns (c ++ ".__init__") = some fn ∧ Mk g.K C fa ∧ FLnk g fn fa fd ps dvs ∧ FnOk wd.prog wd.w g.K wd.mg wd.base (L2.CX wd.prog wd.w) k0 fa fd ps (spF g P.call (c ++ ".__init__") fn.io) ∧ Room (k0 + 1) A ∧
    wd.mg (Str.ofString c) = some (.ref C)
structure CtxOk (g : Gm) (wd : Wd) (K : Ky) (A : Around) (sc : Scope) (X : L2.Cx) (W : WX) : Prop where
  ex : ∃ lv, Ct g wd K.N sc lv X
  tk : Takes X W
  hA : X.A = A
section
variable {X : L2.Cx} {g : Gm} {wd : Wd} {K : Ky} {P : Cx} {A : Around} {sc : Scope} {lv : Nat} {W : WX} {b b2 : Bool} {pins : List (Addr × Obj)} {σ σ' σ1 : L2.St} {H H0 H1 H2 : Hp} {s s2 : Shared} {e e1 e2 : Env} {fp fp1 fp2 : List Addr} {Y : Xt}
variable {x y z : Expr} {ma mb mc : WpK} {me me' : WpE} {pos apos npos : Pos} {es : List Expr} {N : List String}
theorem tE_eq {m m' : WpE} (p : PE X x (tE g W b m)) (h : ∀ Y e k, m' Y e k = m Y e k) : PE X x (tE g W b m') := by
  have : m' = m := by funext Y e k; exact h Y e k
  rw [this]; exact p
theorem tB_eq {m m' : WpK} (p : PE X x (tB g W b m)) (h : ∀ Y e k, m' Y e k = m Y e k) : PE X x (tB g W b m') := by
  have : m' = m := by funext Y e k; exact h Y e k
  rw [this]; exact p
theorem tK_eq {m m' : WpK} (p : PE X x (tK g W b m)) (h : ∀ Y e k, m' Y e k = m Y e k) : PE X x (tK g W b m') := by
  have : m' = m := by funext Y e k; exact h Y e k
  rw [this]; exact p
theorem tT_eq {m m' : WpTt} (p : PT X x (tTs g W b m)) (h : ∀ Y e k, m' Y e k = m Y e k) : PT X x (tTs g W b m') := by
  have : m' = m := by funext Y e k; exact h Y e k
  rw [this]; exact p
theorem tW_eq {m m' : WpTt} (p : PW X x (tTs g W b m)) (h : ∀ Y e k, m' Y e k = m Y e k) : PW X x (tTs g W b m') := by
  have : m' = m := by funext Y e k; exact h Y e k
  rw [this]; exact p
theorem gl_at (ct : Ct g wd N sc lv X) {f : String} (h : glN sc f = true) : Gl X (Str.ofString f) ∧ (Str.ofString f == ("__debug__" : Str)) = false := by
  unfold glN at h
  simp only [Bool.and_eq_true, beq_iff_eq, Bool.not_eq_true'] at h
  refine ⟨?_, h.2⟩
  show X.env.scope.names.lookup _ = _
  rw [ct.sc]; exact h.1
theorem je_glob (ct : Ct g wd N sc lv X) (L : LnkX g wd K P A) {gn : String} (hg : glN sc gn = true) (hx : gn ∈ K.gl) : PE X (.Name (Str.ofString gn) pos) (tE g W b fun _ e k => optK (P.glb gn) fun d => k (.val d) e) := by
  refine ⟨fun pins s σ H Q I q => ?_⟩
  obtain ⟨e, fp, Y, K', st, hw, hxx, hk⟩ := q
  obtain ⟨d, h1, h2⟩ := optK_iff.mp hw
  obtain ⟨v, u, q1, q2, q3⟩ := L.glb gn d hx h1
  obtain ⟨g1, g2⟩ := gl_at ct hg
  exact (pe_glob g1 (by rw [ct.mg]; exact q1) q2 g2).run pins s σ H Q I (hk _ _ _ _ _ .refl st (.val (q3 H)) h2)
/-- in, not in of a tuple that stands in the text's top -/
theorem inG_run (ct : Ct g wd N sc lv X) (L : LnkX g wd K P A) (hA : X.A = A) {gn : String} (hg : glN sc gn = true) (hgt : gn ∈ K.gt) {t : Bool} {v : V} {u : Value} {d : Gr.D} {k : Bool → Prop} (I : Inv X pins σ H s) (rv : RelV v u) (rd : RepD g H v d)
    (h : optK (P.glb gn) fun y => inK d y fun b => k (b == t)) :
    wpAny (model X.prog X.w) X.A (eval (.Name (Str.ofString gn) npos) X.env) (fun u2 s2 => wpAny (model X.prog X.w) X.A (compareOp (if t then CmpOp.In else CmpOp.NotIn) u u2) (FinB X pins σ H k) X.xe s2) X.xe s := by
  obtain ⟨y, h1, h2⟩ := optK_iff.mp h
  obtain ⟨a, vs, ds, rfl, q1, q2⟩ := L.gtp gn y hgt h1
  obtain ⟨g1, g2⟩ := gl_at ct hg
  refine ld_glob I g1 (by rw [ct.mg]; exact q1) ?_ g2
  have hu : X.A.units + 66 < cLine := by rw [hA]; exact L.hu
  cases t with
  | true => exact in_ok ct.K hu I false rv (show RelV (.ref a) (.ref a) from rfl) rd (.inr ⟨a, vs, ds, rfl, rfl, (q2 H).1, (q2 H).2⟩) (by simpa using h2)
  | false => exact in_ok ct.K hu I true rv (show RelV (.ref a) (.ref a) from rfl) rd (.inr ⟨a, vs, ds, rfl, rfl, (q2 H).1, (q2 H).2⟩) (by simpa using h2)
theorem noIn (t : Bool) (nm : Str) : behindInMarks (if t then CmpOp.In else CmpOp.NotIn) (.Name nm npos) = false := rfl
theorem je_inG (ct : Ct g wd N sc lv X) (L : LnkX g wd K P A) (hA : X.A = A) {gn : String} (hg : glN sc gn = true) (hgt : gn ∈ K.gt) {t : Bool} (ha : PE X x (tK g W b ma)) :
    PE X (.Compare x [if t then CmpOp.In else CmpOp.NotIn] [.Name (Str.ofString gn) npos] pos) (tE g W b fun Y e k => ma Y e fun d e1 => optK (P.glb gn) fun y => inK d y fun b => k (.val (.bl (b == t))) e1) := by
  refine ⟨fun pins s σ H Q I q => ?_⟩
  obtain ⟨e, fp, Y, K', st, hw, hx, hk⟩ := q
  refine wpAny_Compare1 (runK ha I st hw hx fun v u s1 H1 fp1 d e1 I1 rv p1 st1 hx1 rd kk => ?_) (noIn t _)
  exact thn (inG_run ct L hA hg hgt (k := fun r => K' (.val (.bl r)) e1) I1 rv rd kk) fun u2 s2 h2 => thn h2 fun w s3 f => finT st1 p1 hk f
theorem jt_inG (ct : Ct g wd N sc lv X) (L : LnkX g wd K P A) (hA : X.A = A) {gn : String} (hg : glN sc gn = true) (hgt : gn ∈ K.gt) {t : Bool} (ha : PE X x (tK g W b ma)) :
    PT X (.Compare x [if t then CmpOp.In else CmpOp.NotIn] [.Name (Str.ofString gn) npos] pos) (tTs g W b fun Y e k => ma Y e fun d e1 => optK (P.glb gn) fun y => inK d y fun b => k (b == t) e1) := by
  refine ⟨fun pins s σ H Q I q => ?_⟩
  obtain ⟨e, fp, Y, K', st, hw, hx, hk⟩ := q
  refine wpAny_isTrue_Compare1 (runK ha I st hw hx fun v u s1 H1 fp1 d e1 I1 rv p1 st1 hx1 rd kk => ?_) (noIn t _)
  refine thn (inG_run ct L hA hg hgt (k := fun r => K' r e1) I1 rv rd kk) fun u2 s2 h2 => thn h2 fun w s3 ⟨v3, H3, I3, r3, c, e3, e4, q⟩ => ?_
  subst e3 e4
  cases r3
  exact wpAny_truthy_bool ⟨_, I3, hk _ _ _ _ p1 st1 q⟩
theorem plain_he (h : plainT x = true) (env : Env) : True := trivial
theorem plainT_he (h : plainT x = true) {X : L2.Cx} : ∀ whole, isTrue x X.env whole = (do let v ← whole; standAt x.pos; holding [v] (truthy v)) := fun w => by
  cases x <;> first | rfl | (simp [plainT] at h)
theorem notSet_fold (h : notSet x = true) {X : L2.Cx} : ∀ v, foldedSetIterable x X.env v = pure v := fun v => by
  cases x <;> first | rfl | (simp [notSet] at h)
theorem ownOf_ok {ix : List Nat} {scope : Scope} (h : blkB N sc scope ix = true) : BlkOk (N.map Str.ofString) sc scope (ownOf N ix) ∧ (ownOf N ix).map (·.2) = ix := by
  unfold blkB at h
  simp only [Bool.and_eq_true, beq_iff_eq, List.all_eq_true, Bool.or_eq_true, Bool.not_eq_true', List.contains_iff_mem] at h
  obtain ⟨⟨⟨⟨⟨h1, h2⟩, h3⟩, h4⟩, h5⟩, h6⟩ := h
  refine ⟨⟨h2, h3, h4, fun y hy e => ?_, fun y hy e => ?_⟩, h1⟩
  · rcases h5 y hy with z | z
    · rw [e] at z; simp at z
    · exact z
  · rcases h6 y hy with z | z
    · rcases e with e | e <;> rw [e] at z <;> simp at z
    · rcases z with z | z
      · exact .inl z
      · refine .inr fun hm => ?_
        have := List.contains_iff_mem.mpr hm
        rw [this] at z; cases z
theorem blk_ctx (c : CtxOk g wd K A sc X W) {scope : Scope} {C : Addr} {cl : List (Str × Addr)} {fp : List Addr} {s : Shared} {H : Hp} : CtxOk g wd K A (relS scope sc) (blkX X s H scope C cl fp) WF := by
  obtain ⟨lv, ct⟩ := c.ex
  refine ⟨⟨lv, ⟨ct.prog, ct.w, ct.K, ct.mg, ct.base, ct.N, ct.nd, ?_, ct.calm, ct.room⟩⟩, fun _ _ ⟨_, _, _, _, _, _, _, _, _, _, _, _, _, _, _, _, w⟩ => w.elim, c.hA⟩
  show relS scope X.env.scope = _
  rw [ct.sc]
theorem top_no : Top X false := ⟨fun h => nomatch h⟩
theorem tg_go (ct : Ct g wd N sc lv X) {top : Bool} (tp : Top X top) : ∀ {is : List Nat} {es : List Expr}, chkTg.go N sc top is es = true → PGs X es (tGs g is) ∧ es.length = is.length ∧ namesE es = true
  | [], [], _ => ⟨jgs_nil, rfl, rfl⟩
  | i :: is, .Name nm p :: es, h => by
    simp only [chkTg.go, Bool.and_eq_true] at h
    obtain ⟨h1, h2, h3⟩ := tg_go ct tp h.2
    exact ⟨jgs_cons ct tp h.1 h1, congrArg (· + 1) h2, h3⟩
theorem tg_ok (ct : Ct g wd N sc lv X) {top : Bool} (tp : Top X top) {tg : Tg} (h : chkTg N sc top tg x = true) : PG X x (tG g tg) := by
  unfold chkTg at h
  split at h
  · exact jg_nm ct tp h
  · obtain ⟨h1, h2, h3⟩ := tg_go ct tp h
    exact jg_tp ct h2 h3 h1
  · cases h
end
end Gr

end
section
set_option Elab.async false
set_option linter.all false
set_option maxRecDepth 100000
set_option maxHeartbeats 4000000
namespace Gr
open PySem PySem.Spec L2
open PyProof.Rows hiding St
section
variable {g : Gm} {wd : Wd} {K : Ky} {P : Cx} {A : Around}
theorem or_left (b c : Bool) : (b = true → (b || c) = true) := fun h => by rw [h]; rfl
theorem isV_or (p : Pl) (b : Bool) : p.isV = true ∨ (b || !p.isV) = true := by cases p <;> simp [Pl.isV]
theorem pl_base {N : List String} {sc : Scope} {fds : List String} {p : Pl} {o : Expr} {m : Str} {X : L2.Cx} (h : plcB N sc fds p o = true) : attributeBase o m X.env (eval o X.env) = eval o X.env := by
  cases p with
  | v i => simp only [plcB] at h; split at h <;> first | rfl | cases h
  | f i f => simp only [plcB] at h; split at h <;> first | rfl | cases h
variable (g wd K P A)
abbrev SC (c : C) : Prop := ∀ (b : Bool) (sc : Scope) (X : L2.Cx) (W : WX) (x : Expr), CtxOk g wd K A sc X W → chk K c b sc x = true → PE X x (tE g W b fun Y => wp P Y c)
abbrev SB (d : Bo) : Prop := ∀ (b : Bool) (sc : Scope) (X : L2.Cx) (W : WX) (x : Expr), CtxOk g wd K A sc X W → chkB K d b sc x = true → PE X x (tB g W b fun Y => wpB P Y d)
abbrev ST (t : T) : Prop := ∀ (b : Bool) (sc : Scope) (X : L2.Cx) (W : WX) (x : Expr), CtxOk g wd K A sc X W → chkT K t b sc x = true → PT X x (tTs g W b fun Y => wpT P Y t) ∧ ((∃ op vs p, x = .BoolOp op vs p) → PW X x (tTs g W b fun Y => wpT P Y t))
abbrev SL (cs : List C) : Prop := ∀ (b : Bool) (sc : Scope) (X : L2.Cx) (W : WX) (xs : List Expr), CtxOk g wd K A sc X W → chkL K cs b sc xs = true → PA X xs (tL g W b xs.length fun Y => wpL P Y cs)
variable {g wd K P A} (L : LnkX g wd K P A)
include L
theorem snd_var {i : Nat}  : SC g wd K P A (.var i) := by
  intro b sc X W x c h
  obtain ⟨lv, ct⟩ := c.ex
  simp only [chk, cVar] at h
  split at h
  · have := je_var (W := W) (P := P) ct h (pos := by assumption)
    refine ⟨fun pins s σ H Q I q => this.run pins s σ H Q I ?_⟩
    obtain ⟨e, fp, Y, K', st, hw, hx, hk⟩ := q
    exact ⟨e, fp, Y, K', st, hw, hx, fun v H1 fp1 r e1 p st rr kk => hk _ _ _ _ _ (p.weak fun _ => rfl) st rr kk⟩
  · cases h
theorem snd_glob {gn : String}  : SC g wd K P A (.glob gn) := by
  intro b sc X W x c h
  obtain ⟨lv, ct⟩ := c.ex
  simp only [chk, cGlob] at h
  split at h
  · simp only [Bool.and_eq_true, beq_iff_eq, List.contains_iff_mem] at h
    obtain ⟨⟨rfl, h2⟩, h3⟩ := h
    exact tE_eq (je_glob ct L h3 h2) fun Y e k => by simp only [wp]
  · cases h
theorem snd_int {i : Int}  : SC g wd K P A (.int i) := by
  intro b sc X W x c h
  simp only [chk, cInt] at h
  split at h
  · simp only [beq_iff_eq] at h
    subst h
    exact tE_eq je_int fun Y e k => by simp only [wp]
  · cases h
theorem snd_str {z : List Nat}  : SC g wd K P A (.str z) := by
  intro b sc X W x c h
  simp only [chk, cStr] at h
  split at h
  · simp only [Bool.and_eq_true, beq_iff_eq] at h
    obtain ⟨rfl, h2⟩ := h
    exact tE_eq (je_str h2) fun Y e k => by simp only [wp]
  · cases h
theorem snd_bl {v : Bool}  : SC g wd K P A (.bl v) := by
  intro b sc X W x c h
  simp only [chk, cBl] at h
  split at h
  · simp only [beq_iff_eq] at h
    subst h
    exact tE_eq je_bl fun Y e k => by simp only [wp]
  · cases h
theorem snd_non   : SC g wd K P A (.non) := by
  intro b sc X W x c h
  simp only [chk, cNon] at h
  split at h
  · exact tE_eq je_non fun Y e k => by simp only [wp]
  · cases h
theorem snd_tup {es : List C} (ses : SL g wd K P A es) : SC g wd K P A (.tup es) := by
  intro b sc X W x c h
  simp only [chk, cTup] at h
  split at h
  · simp only [Bool.and_eq_true, Nat.ble_eq] at h
    exact tE_eq (je_tup h.2 (ses _ _ _ _ _ c h.1)) fun Y e k => by simp only [wp]
  · cases h
theorem snd_lst {es : List C} (ses : SL g wd K P A es) : SC g wd K P A (.lst es) := by
  intro b sc X W x c h
  simp only [chk, cLst] at h
  split at h
  · simp only [Bool.and_eq_true, Nat.ble_eq] at h
    exact tE_eq (je_lst h.2 (ses _ _ _ _ _ c h.1)) fun Y e k => by simp only [wp]
  · cases h
theorem snd_dnew {t : Bool}  : SC g wd K P A (.dnew t) := by
  intro b sc X W x c h
  simp only [chk, cDnew] at h
  split at h
  · exact tE_eq (je_dnew (t := t)) fun Y e k => by simp only [wp]
  · cases h
theorem snd_bin {op : BOp} {a : C} {d : Bo} (sa : SC g wd K P A a) (sd : SB g wd K P A d) : SC g wd K P A (.bin op a d) := by
  intro b sc X W x c h
  obtain ⟨lv, ct⟩ := c.ex
  simp only [chk, cBin] at h
  split at h
  · simp only [Bool.and_eq_true, beq_iff_eq] at h
    obtain ⟨⟨rfl, h2⟩, h3⟩ := h
    exact tE_eq (je_bin ct.K (je_keep (sa _ _ _ _ _ c h2)) (sd _ _ _ _ _ c h3)) fun Y e k => by simp only [wp, keptW]
  · cases h
theorem snd_neg {a : C} (sa : SC g wd K P A a) : SC g wd K P A (.neg a) := by
  intro b sc X W x c h
  simp only [chk, cNeg] at h
  split at h
  · exact tE_eq (je_neg (je_keep (sa _ _ _ _ _ c h))) fun Y e k => by simp only [wp, keptW]
  · cases h
theorem snd_cmp {op : Cmp} {a : C} {d : Bo} (sa : SC g wd K P A a) (sd : SB g wd K P A d) : SC g wd K P A (.cmp op a d) := by
  intro b sc X W x c h
  obtain ⟨lv, ct⟩ := c.ex
  simp only [chk, cCmp] at h
  split at h
  · simp only [Bool.and_eq_true, beq_iff_eq, Bool.not_eq_true'] at h
    obtain ⟨⟨⟨rfl, h1⟩, h2⟩, h3⟩ := h
    exact tE_eq (je_cmp ct.K (by rw [c.hA]; exact L.hu) h1 (je_keep (sa _ _ _ _ _ c h2)) (sd _ _ _ _ _ c h3)) fun Y e k => by simp only [wp, keptW]
  · cases h
theorem snd_chain {p q : Cmp} {a m : C} {d : Bo} (sa : SC g wd K P A a) (sm : SC g wd K P A m) (sd : SB g wd K P A d) : SC g wd K P A (.chain p q a m d) := by
  intro b sc X W x c h
  obtain ⟨lv, ct⟩ := c.ex
  simp only [chk, cChain] at h
  split at h
  · simp only [Bool.and_eq_true, beq_iff_eq, Bool.not_eq_true'] at h
    obtain ⟨⟨⟨⟨⟨rfl, rfl⟩, h1⟩, h2⟩, h3⟩, h4⟩ := h
    exact tE_eq (je_chain ct.K (by rw [c.hA]; exact L.hu) h1 (je_keep (sa _ _ _ _ _ c h2)) (je_keep (sm _ _ _ _ _ c h3)) (sd _ _ _ _ _ c h4)) fun Y e k => by simp only [wp, keptW]
  · cases h
theorem snd_inG {t : Bool} {a : C} {gn : String} (sa : SC g wd K P A a) : SC g wd K P A (.inG t a gn) := by
  intro b sc X W x c h
  obtain ⟨lv, ct⟩ := c.ex
  simp only [chk, cInG] at h
  split at h
  · simp only [Bool.and_eq_true, beq_iff_eq, List.contains_iff_mem] at h
    obtain ⟨⟨⟨⟨rfl, rfl⟩, h2⟩, h3⟩, h4⟩ := h
    exact tE_eq (je_inG ct L c.hA h3 h2 (je_keep (sa _ _ _ _ _ c h4))) fun Y e k => by simp only [wp, keptW]
  · cases h
theorem snd_and_ {a d : C} (sa : SC g wd K P A a) (sd : SC g wd K P A d) : SC g wd K P A (.and_ a d) := by
  intro b sc X W x c h
  simp only [chk, cAnd] at h
  split at h
  · rename_i y z rest p
    simp only [Bool.and_eq_true] at h
    cases rest with
    | nil => exact tE_eq (je_and (je_keep (sa _ _ _ _ _ c h.1)) (je_one (sd _ _ _ _ _ c h.2))) fun Y e k => by simp only [wp, keptW]
    | cons w rest => exact tE_eq (je_and (je_keep (sa _ _ _ _ _ c h.1)) (sd _ _ _ _ _ c h.2)) fun Y e k => by simp only [wp, keptW]
  · cases h
theorem snd_or_ {a d : C} (sa : SC g wd K P A a) (sd : SC g wd K P A d) : SC g wd K P A (.or_ a d) := by
  intro b sc X W x c h
  simp only [chk, cOr] at h
  split at h
  · rename_i y z rest p
    simp only [Bool.and_eq_true] at h
    cases rest with
    | nil => exact tE_eq (je_or (je_keep (sa _ _ _ _ _ c h.1)) (je_one (sd _ _ _ _ _ c h.2))) fun Y e k => by simp only [wp, keptW]
    | cons w rest => exact tE_eq (je_or (je_keep (sa _ _ _ _ _ c h.1)) (sd _ _ _ _ _ c h.2)) fun Y e k => by simp only [wp, keptW]
  · cases h
theorem snd_not_ {a : C} (sa : SC g wd K P A a) : SC g wd K P A (.not_ a) := by
  intro b sc X W x c h
  simp only [chk, cNot] at h
  split at h
  · exact tE_eq (je_not (je_keep (sa _ _ _ _ _ c h))) fun Y e k => by simp only [wp, keptW]
  · cases h
theorem snd_ite {t : T} {a d : C} (st : ST g wd K P A t) (sa : SC g wd K P A a) (sd : SC g wd K P A d) : SC g wd K P A (.ite t a d) := by
  intro b sc X W x c h
  simp only [chk, cIte] at h
  split at h
  · simp only [Bool.and_eq_true] at h
    exact tE_eq (je_ite (st _ _ _ _ _ c h.1.1).1 (sa _ _ _ _ _ c h.1.2) (sd _ _ _ _ _ c h.2)) fun Y e k => by simp only [wp]
  · cases h
theorem snd_idx {d : Bo} {i : C} (sd : SB g wd K P A d) (sdx : ∀ c, d = .x c → SC g wd K P A c) (si : SC g wd K P A i) : SC g wd K P A (.idx d i) := by
  intro b sc X W x c h
  obtain ⟨lv, ct⟩ := c.ex
  have hu : X.A.units + 66 < cLine := by rw [c.hA]; exact L.hu
  simp only [chk, cIdx] at h
  split at h
  · simp only [Bool.and_eq_true] at h
    obtain ⟨⟨h1, h2⟩, h3⟩ := h
    cases d with
    | p p => exact tE_eq (je_idx_p ct L.lk hu (show plcB K.N sc K.fds p _ = true by simpa only [chkB] using h2) (or_left _ _) (isV_or p b) h1 (je_keep (si _ _ _ _ _ c h3))) fun Y e k => by simp only [wp, wpBs, keptW, optK]
    | x d =>
      simp only [bsF, Bool.or_false] at h3
      simp only [chkB] at h2
      exact tE_eq (je_idx_x ct.K hu h1 (je_look (sdx _ rfl _ _ _ _ _ c h2)) (je_keep (sdx _ rfl _ _ _ _ _ c h2)) (je_keep (si _ _ _ _ _ c h3))) fun Y e k => by simp only [wp, wpBs, keptW, optK]
  · cases h
theorem snd_attr {i : Nat} {f : String}  : SC g wd K P A (.attr i f) := by
  intro b sc X W x c h
  obtain ⟨lv, ct⟩ := c.ex
  simp only [chk, cAttr] at h
  split at h
  · simp only [Bool.and_eq_true, beq_iff_eq, List.contains_iff_mem] at h
    obtain ⟨⟨h1, rfl⟩, h3⟩ := h
    exact tE_eq (je_attr ct L.lk h1 h3) fun Y e k => by simp only [wp]
  · cases h
theorem snd_isi {d : Bo} {t : Ty} (sd : SB g wd K P A d) : SC g wd K P A (.isi d t) := by
  intro b sc X W x c h
  obtain ⟨lv, ct⟩ := c.ex
  simp only [chk, cIsi] at h
  split at h
  · simp only [Bool.and_eq_true, beq_iff_eq] at h
    obtain ⟨⟨⟨⟨rfl, h2⟩, h3⟩, h4⟩, h5⟩ := h
    split at h5
    · rename_i tn ht
      simp only [Bool.and_eq_true, beq_iff_eq] at h5
      obtain ⟨rfl, h6⟩ := h5
      exact tE_eq (je_isi ct L.lk ht h2 h6 h3 (sd _ _ _ _ _ c h4)) fun Y e k => by simp only [wp]
    · cases h5
  · cases h
theorem snd_b1 {f : B1} {d : Bo} (sd : SB g wd K P A d) : SC g wd K P A (.b1 f d) := by
  intro b sc X W x c h
  obtain ⟨lv, ct⟩ := c.ex
  simp only [chk, cB1] at h
  split at h
  · simp only [Bool.and_eq_true, beq_iff_eq] at h
    obtain ⟨⟨⟨rfl, h2⟩, h3⟩, h4⟩ := h
    exact tE_eq (je_b1 ct L.lk h2 h3 (sd _ _ _ _ _ c h4)) fun Y e k => by simp only [wp]
  · cases h
theorem snd_b2 {f : B2} {a : C} {d : Bo} (sa : SC g wd K P A a) (sd : SB g wd K P A d) : SC g wd K P A (.b2 f a d) := by
  intro b sc X W x c h
  obtain ⟨lv, ct⟩ := c.ex
  simp only [chk, cB2] at h
  split at h
  · simp only [Bool.and_eq_true, beq_iff_eq] at h
    obtain ⟨⟨⟨⟨⟨rfl, h2⟩, h3⟩, h4⟩, h5⟩, h6⟩ := h
    exact tE_eq (je_b2 ct L.lk h2 h3 h4 (je_keep (sa _ _ _ _ _ c h5)) (sd _ _ _ _ _ c h6)) fun Y e k => by simp only [wp, keptW]
  · cases h
theorem snd_m1 {m : M1} {d : Bo} {a : C} (sa : SC g wd K P A a) : SC g wd K P A (.m1 m d a) := by
  intro b sc X W x c h
  obtain ⟨lv, ct⟩ := c.ex
  simp only [chk, cJoin] at h
  split at h
  · split at h
    · simp only [Bool.and_eq_true, beq_iff_eq] at h
      obtain ⟨⟨⟨⟨⟨rfl, h2⟩, rfl⟩, h4⟩, h5⟩, h6⟩ := h
      exact tE_eq (je_join ct h2 h4 (by rw [h5]; exact beq_self_eq_true _) (je_keep (sa _ _ _ _ _ c h6))) fun Y e k => by simp only [wp, wpBs, keptW, optK, frzK]
    · cases h
  · cases h
theorem snd_app {p : Pl} {a : C} (sa : SC g wd K P A a) : SC g wd K P A (.app p a) := by
  intro b sc X W x c h
  obtain ⟨lv, ct⟩ := c.ex
  simp only [chk, cMut] at h
  split at h
  · simp only [Bool.and_eq_true, beq_iff_eq] at h
    obtain ⟨⟨⟨⟨rfl, h2⟩, h3⟩, h4⟩, h5⟩ := h
    exact tE_eq (je_app ct L.lk h2 (or_left _ _) (isV_or p b) h3 (by rw [h4]; exact beq_self_eq_true _) (pl_base h2) (je_keep (sa _ _ _ _ _ c h5))) fun Y e k => by simp only [wp, keptW]
  · cases h
theorem snd_ext {p : Pl} {a : C} (sa : SC g wd K P A a) : SC g wd K P A (.ext p a) := by
  intro b sc X W x c h
  obtain ⟨lv, ct⟩ := c.ex
  simp only [chk, cMut] at h
  split at h
  · simp only [Bool.and_eq_true, beq_iff_eq] at h
    obtain ⟨⟨⟨⟨rfl, h2⟩, h3⟩, h4⟩, h5⟩ := h
    exact tE_eq (je_ext ct L.lk h2 (or_left _ _) (isV_or p b) h3 (by rw [h4]; exact beq_self_eq_true _) (pl_base h2) (je_keep (sa _ _ _ _ _ c h5))) fun Y e k => by simp only [wp, keptW]
  · cases h
theorem snd_pop {p : Pl}  : SC g wd K P A (.pop p) := by
  intro b sc X W x c h
  obtain ⟨lv, ct⟩ := c.ex
  simp only [chk, cPop] at h
  split at h
  · simp only [Bool.and_eq_true, beq_iff_eq] at h
    obtain ⟨⟨rfl, h2⟩, h4⟩ := h
    exact tE_eq (je_pop ct L.lk h2 (by rw [h4]; exact beq_self_eq_true _) (pl_base h2)) fun Y e k => by simp only [wp]
  · cases h
abbrev SO (o : Option C) : Prop := ∀ (b : Bool) (sc : Scope) (X : L2.Cx) (W : WX) (x : Option Expr), CtxOk g wd K A sc X W → chkO K o b sc x = true → PO X x (tOp' g W b fun Y => wpO P Y o)
abbrev SI (it : C) : Prop := ∀ (b : Bool) (sc : Scope) (X : L2.Cx) (W : WX) (x tg : Expr), CtxOk g wd K A sc X W → chkI K it b sc x = true → PI X tg x (tIt g W b fun Y e k => wp P Y it e fun s e1 => frzK s fun d => itemsK d fun xs => k xs e1)
abbrev STs (ts : List T) : Prop := ∀ (b : Bool) (sc : Scope) (X : L2.Cx) (W : WX) (xs : List Expr), CtxOk g wd K A sc X W → chkTs K ts b sc xs = true → PTs X xs (tTs g W b fun Y => wpTs P Y ts)
abbrev SA (cs : List C) : Prop := ∀ (io : List Bool) (b : Bool) (sc : Scope) (X : L2.Cx) (W : WX) (xs : List Expr), CtxOk g wd K A sc X W → chkA K cs io b sc xs = true → PA X xs (tAr g W b io cs fun Y e k => wpA P Y io cs e k) ∧ (∀ x ∈ xs, noStar x = true) ∧ xs.length = cs.length
omit L in
theorem po_eq {X : L2.Cx} {W : WX} {b : Bool} {x : Option Expr} {m m' : WpOp} (p : PO X x (tOp' g W b m)) (h : ∀ Y e k, m' Y e k = m Y e k) : PO X x (tOp' g W b m') := by
  have : m' = m := by funext Y e k; exact h Y e k
  rw [this]; exact p
theorem snd_onone : SO (g := g) (wd := wd) (K := K) (P := P) (A := A) none := by
  intro b sc X W x c h
  simp only [chkO] at h
  cases x with
  | none => exact po_eq jo_none fun Y e k => by simp only [wpO]
  | some x => cases h
theorem snd_osome {a : C} (sa : SC g wd K P A a) : SO (g := g) (wd := wd) (K := K) (P := P) (A := A) (some a) := by
  intro b sc X W x c h
  simp only [chkO] at h
  cases x with
  | none => cases h
  | some x => exact po_eq (jo_some (je_keep (sa _ _ _ _ _ c h))) fun Y e k => by simp only [wpO, intW, keptW]
theorem snd_slc {d : Bo} {lo hi : Option C} (sd : SB g wd K P A d) (sdx : ∀ c, d = .x c → SC g wd K P A c) (sl : SO (g := g) (wd := wd) (K := K) (P := P) (A := A) lo) (sh : SO (g := g) (wd := wd) (K := K) (P := P) (A := A) hi) : SC g wd K P A (.slc d lo hi) := by
  intro b sc X W x c h
  obtain ⟨lv, ct⟩ := c.ex
  simp only [chk, cSlc] at h
  split at h
  · simp only [Bool.and_eq_true] at h
    obtain ⟨⟨h2, h3⟩, h4⟩ := h
    cases d with
    | p p => exact tE_eq (je_slc_p ct L.lk (show plcB K.N sc K.fds p _ = true by simpa only [chkB] using h2) (or_left _ _) (isV_or p b) (sl _ _ _ _ _ c h3) (sh _ _ _ _ _ c h4)) fun Y e k => by simp only [wp, wpBs]
    | x d =>
      simp only [bsF, Bool.or_false] at h3 h4
      simp only [chkB] at h2
      exact tE_eq (je_slc_x ct.K (je_keep (sdx _ rfl _ _ _ _ _ c h2)) (sl _ _ _ _ _ c h3) (sh _ _ _ _ _ c h4)) fun Y e k => by simp only [wp, wpBs, keptW]
  · cases h
theorem snd_lnil : SL g wd K P A [] := by
  intro b sc X W xs c h
  simp only [chkL, cNil] at h
  cases xs with
  | nil =>
    have e : (fun Y => wpL P Y ([] : List C)) = fun _ e k => k [] e := by funext Y e k; simp only [wpL]
    rw [e]; exact jl_nil
  | cons _ _ => cases h
theorem snd_lcons {a : C} {cs : List C} (sa : SC g wd K P A a) (sr : SL g wd K P A cs) : SL g wd K P A (a :: cs) := by
  intro b sc X W xs c h
  simp only [chkL, cCons] at h
  cases xs with
  | nil => cases h
  | cons x xs =>
    simp only [Bool.and_eq_true] at h
    have e : (fun Y => wpL P Y (a :: cs)) = fun Y e k => keptW (fun Y => wp P Y a) Y e fun d e1 => wpL P Y cs e1 fun ds e2 => k (d :: ds) e2 := by funext Y e k; simp only [wpL, keptW]
    rw [e]
    exact jl_cons h.1.1 (je_keep (sa _ _ _ _ _ c h.1.2)) (sr _ _ _ _ _ c h.2)
theorem len_L : ∀ {cs : List C} {b : Bool} {sc : Scope} {xs : List Expr}, chkL K cs b sc xs = true → xs.length = cs.length ∧ ∀ x ∈ xs, noStar x = true
  | [], b, sc, [], _ => ⟨rfl, fun x h => nomatch h⟩
  | [], b, sc, _ :: _, h => by simp [chkL, cNil] at h
  | c :: cs, b, sc, [], h => by simp [chkL, cCons] at h
  | c :: cs, b, sc, x :: xs, h => by
    simp only [chkL, cCons, Bool.and_eq_true] at h
    obtain ⟨h1, h2⟩ := len_L h.2
    exact ⟨congrArg (· + 1) h1, fun y hy => by rcases List.mem_cons.mp hy with rfl | hy; exact h.1.1; exact h2 y hy⟩
theorem snd_anil : SA (g := g) (wd := wd) (K := K) (P := P) (A := A) [] := by
  intro io b sc X W xs c h
  simp only [chkA, cNilA, Bool.and_eq_true] at h
  cases io with
  | cons _ _ => cases h.1
  | nil =>
    cases xs with
    | cons _ _ => cases h.2
    | nil =>
      have e : (fun Y e k => wpA P Y [] ([] : List C) e k) = fun _ e k => k [] e := by funext Y e k; simp only [wpA]
      rw [e]; exact ⟨ja_nil, (fun x h => nomatch h), rfl⟩
theorem snd_acons {a : C} {cs : List C} (sa : SC g wd K P A a) (sr : SA (g := g) (wd := wd) (K := K) (P := P) (A := A) cs) : SA (g := g) (wd := wd) (K := K) (P := P) (A := A) (a :: cs) := by
  intro io b sc X W xs c h
  obtain ⟨lv, ct⟩ := c.ex
  simp only [chkA, cConsA] at h
  split at h
  · simp only [Bool.and_eq_true] at h
    obtain ⟨h1, h2⟩ := h
    split at h1
    · obtain ⟨q1, q2, q3⟩ := sr _ _ _ _ _ _ c h2
      refine ⟨?_, fun y hy => ?_, congrArg (· + 1) q3⟩
      · rename_i i
        rename_i io' nm pp xs' c'
        have e : (fun Y e k => wpA P Y (true :: io') (.var i :: cs) e k) = fun Y e k => lookK e i fun s => hereK s (wpA P Y io' cs e k) := by funext Y e k; simp only [wpA]
        rw [e]
        exact ja_own ct h1 q1
      · rcases List.mem_cons.mp hy with rfl | hy
        · rfl
        · exact q2 y hy
    · cases h1
  · simp only [Bool.and_eq_true] at h
    obtain ⟨q1, q2, q3⟩ := sr _ _ _ _ _ _ c h.2
    refine ⟨?_, fun y hy => ?_, congrArg (· + 1) q3⟩
    · rename_i io' x' xs'
      have e : (fun Y e k => wpA P Y (false :: io') (a :: cs) e k) = fun Y e k => keptW (fun Y => wp P Y a) Y e fun d e1 => wpA P Y io' cs e1 fun ds e2 => k (d :: ds) e2 := by funext Y e k; simp only [wpA, keptW]
      rw [e]
      exact ja_val h.1.1 (je_keep (sa _ _ _ _ _ c h.1.2)) q1
    · rcases List.mem_cons.mp hy with rfl | hy
      · exact h.1.1
      · exact q2 y hy
  · cases h
theorem snd_call {f : String} {args : List C} (sa : SA (g := g) (wd := wd) (K := K) (P := P) (A := A) args) : SC g wd K P A (.call f args) := by
  intro b sc X W x c h
  obtain ⟨lv, ct⟩ := c.ex
  simp only [chk, cCall] at h
  split at h
  · simp only [Bool.and_eq_true, beq_iff_eq] at h
    obtain ⟨⟨rfl, h2⟩, h3⟩ := h
    split at h3
    · rename_i fn hfn
      simp only [Bool.and_eq_true, beq_iff_eq, Nat.ble_eq, Bool.or_eq_true, Bool.not_eq_true'] at h3
      obtain ⟨⟨⟨⟨⟨h4, h5⟩, h6⟩, h7⟩, h8⟩, h9⟩ := h3
      obtain ⟨q1, q2, q3⟩ := sa _ _ _ _ _ _ c h9
      obtain ⟨p1, a, fd, ps, dvs, k0, FL, F, hr, hm⟩ := L.fns f fn hfn
      obtain ⟨g1, g2⟩ := gl_at ct h2
      refine tE_eq (je_call ct c.tk FL (by rw [ct.prog, ct.w, ct.K, ct.mg, ct.base]; exact F) (by rw [c.hA]; exact hr) g1 (by rw [ct.mg]; exact hm) g2 (by simp) q2 h4 (by omega) q3 h7 (fun hb => by rcases h8 with h8 | h8; (rw [hb] at h8; cases h8); exact h8) q1) fun Y e k => ?_
      simp only [wp, p1, optK]
    · cases h3
  · cases h
theorem snd_ocall {i : Nat} {m : String} {args : List C} (sa : SL g wd K P A args) : SC g wd K P A (.ocall i m args) := by
  intro b sc X W x c h
  obtain ⟨lv, ct⟩ := c.ex
  simp only [chk, cOcall] at h
  split at h
  · simp only [Bool.and_eq_true, beq_iff_eq, Bool.not_eq_true', Nat.blt_eq] at h
    obtain ⟨⟨⟨⟨⟨⟨rfl, h2⟩, rfl⟩, h4⟩, h5⟩, h6⟩, h7⟩ := h
    obtain ⟨l1, l2⟩ := len_L L h7
    have hM : MethsAt g X P m := fun cn C fn q1 q2 => by
      obtain ⟨a, fd, ps, dvs, k0, FL, Me, F, hr⟩ := L.meths m cn C fn q1 q2
      exact ⟨a, fd, ps, dvs, k0, FL, Me, by rw [ct.prog, ct.w, ct.K, ct.mg, ct.base]; exact F, by rw [c.hA]; exact hr⟩
    have pa := sa _ _ _ _ _ c h7
    refine tE_eq (je_ocall (n := args.length) ct L.lk c.tk h2 hM h5 h6 l2 (by rw [h4]; exact beq_self_eq_true _) (ml := fun Y => wpL P Y args) ?_) fun Y e k => ?_
    · cases args with
      | nil =>
        refine .inl ⟨List.eq_nil_of_length_eq_zero l1, fun Y e k q => ?_⟩
        simp only [wpL] at q
        exact q
      | cons a as => exact .inr ⟨(by intro z; subst z; cases l1), pa⟩
    · simp only [wp]
  · cases h
omit L in
theorem pi_eq {X : L2.Cx} {W : WX} {b : Bool} {tg x : Expr} {m m' : WpLs} (p : PI X tg x (tIt g W b m)) (h : ∀ Y e k, m' Y e k = m Y e k) : PI X tg x (tIt g W b m') := by
  have : m' = m := by funext Y e k; exact h Y e k
  rw [this]; exact p
theorem snd_ival {a : C} (sa : SC g wd K P A a) (h : chkI K a = chk K a) : SI (g := g) (wd := wd) (K := K) (P := P) (A := A) a := by
  intro b sc X W x tg c q
  obtain ⟨lv, ct⟩ := c.ex
  rw [h] at q
  exact pi_eq (ji_val ct.K (je_keep (sa _ _ _ _ _ c q))) fun Y e k => by simp only [itW, keptW]
theorem snd_ino {a : C} (h : chkI K a = cNo) : SI (g := g) (wd := wd) (K := K) (P := P) (A := A) a := by
  intro b sc X W x tg c q
  rw [h] at q
  cases q
theorem snd_irng1 {a : C} (sa : SC g wd K P A a) : SI (g := g) (wd := wd) (K := K) (P := P) (A := A) (.rng none a) := by
  intro b sc X W x tg c h
  obtain ⟨lv, ct⟩ := c.ex
  simp only [chkI, cRng1] at h
  split at h
  · simp only [Bool.and_eq_true, beq_iff_eq] at h
    obtain ⟨⟨⟨rfl, h2⟩, h3⟩, h4⟩ := h
    exact pi_eq (ji_rng1 ct L.lk h2 h3 (je_keep (sa _ _ _ _ _ c h4))) fun Y e k => by simp only [wp, rngW1, keptW]
  · cases h
theorem snd_irng2 {a d : C} (sa : SC g wd K P A a) (sd : SC g wd K P A d) : SI (g := g) (wd := wd) (K := K) (P := P) (A := A) (.rng (some a) d) := by
  intro b sc X W x tg c h
  obtain ⟨lv, ct⟩ := c.ex
  simp only [chkI, cRng2] at h
  split at h
  · simp only [Bool.and_eq_true, beq_iff_eq] at h
    obtain ⟨⟨⟨⟨⟨rfl, h2⟩, h3⟩, h4⟩, h5⟩, h6⟩ := h
    exact pi_eq (ji_rng2 ct L.lk h2 h3 h4 (je_keep (sa _ _ _ _ _ c h5)) (je_keep (sd _ _ _ _ _ c h6))) fun Y e k => by simp only [wp, rngW2, keptW]
  · cases h
theorem snd_rng {a : Option C} {d : C} : SC g wd K P A (.rng a d) := by
  intro b sc X W x c h
  simp only [chk] at h
  cases h
theorem snd_m2 {m : M2} {o : Bo} {a d : C} : SC g wd K P A (.m2 m o a d) := by
  intro b sc X W x c h
  simp only [chk] at h
  cases h
theorem snd_tsnil : STs (g := g) (wd := wd) (K := K) (P := P) (A := A) [] := by
  intro b sc X W xs c h
  simp only [chkTs, cNil] at h
  cases xs with
  | nil =>
    have e : (fun Y => wpTs P Y ([] : List T)) = fun _ e k => k true e := by funext Y e k; simp only [wpTs]
    rw [e]; exact jts_nil
  | cons _ _ => cases h
theorem snd_tsone {t : T} (st : ST g wd K P A t) : STs (g := g) (wd := wd) (K := K) (P := P) (A := A) [t] := by
  intro b sc X W xs c h
  simp only [chkTs, cOne] at h
  split at h
  · have e : (fun Y => wpTs P Y [t]) = fun Y e k => wpT P Y t e fun t e1 => if t = true then k true e1 else k false e1 := by funext Y e k; simp only [wpTs]
    rw [e]; exact jts_one (st _ _ _ _ _ c h).1
  · cases h
theorem snd_tsmany {t u : T} {ts : List T} : STs (g := g) (wd := wd) (K := K) (P := P) (A := A) (t :: u :: ts) := by
  intro b sc X W xs c h
  simp only [chkTs] at h
  cases h
theorem snd_comp {tg : Tg} {elt it : C} {ifs : List T} (si : SI (g := g) (wd := wd) (K := K) (P := P) (A := A) it) (se : SC g wd K P A elt) (st : STs (g := g) (wd := wd) (K := K) (P := P) (A := A) ifs) : SC g wd K P A (.comp tg elt it ifs) := by
  intro b sc X W x c h
  obtain ⟨lv, ct⟩ := c.ex
  simp only [chk, cComp] at h
  split at h
  · simp only [Bool.and_eq_true] at h
    obtain ⟨⟨⟨⟨⟨h1, h2⟩, h3⟩, h4⟩, h5⟩, h6⟩ := h
    obtain ⟨ok, ho⟩ := ownOf_ok h1
    rw [← ct.N, ← ct.sc] at ok
    refine tE_eq (je_comp ct ok ho (si _ _ _ _ _ _ c h3) (fun s H C cl fp => tg_ok (blk_ctx c).ex.choose_spec top_no h4) (fun s H C cl fp => ?_) (fun s H C cl fp => ?_) (notSet_fold h2) (mt := wpTs P (fun _ _ _ => False) ifs) (ml := wp P (fun _ _ _ => False) elt)) fun Y e k => ?_
    · have := st _ _ _ _ _ (blk_ctx c (s := s) (H := H) (C := C) (cl := cl) (fp := fp)) h5
      refine ⟨fun pins s' σ H' Q I q => this.run pins s' σ H' Q I ?_⟩
      obtain ⟨e, fp, Y, K', st, hw, hx, hk⟩ := q
      exact ⟨e, fp, fun _ _ _ => False, K', st, hw, .none, hk⟩
    · have := je_keep (se _ _ _ _ _ (blk_ctx c (s := s) (H := H) (C := C) (cl := cl) (fp := fp)) h6)
      refine ⟨fun pins s' σ H' Q I q => this.run pins s' σ H' Q I ?_⟩
      obtain ⟨e, fp, Y, K', st, hw, hx, hk⟩ := q
      exact ⟨e, fp, fun _ _ _ => False, K', st, hw, .none, hk⟩
    · simp only [wp]
  · cases h
theorem snd_dcomp {tg : Tg} {a v it : C} (si : SI (g := g) (wd := wd) (K := K) (P := P) (A := A) it) (sa : SC g wd K P A a) (sv : SC g wd K P A v) : SC g wd K P A (.dcomp tg a v it) := by
  intro b sc X W x c h
  obtain ⟨lv, ct⟩ := c.ex
  simp only [chk, cDcomp] at h
  split at h
  · simp only [Bool.and_eq_true] at h
    obtain ⟨⟨⟨⟨⟨h1, h2⟩, h3⟩, h4⟩, h5⟩, h6⟩ := h
    obtain ⟨ok, ho⟩ := ownOf_ok h1
    rw [← ct.N, ← ct.sc] at ok
    refine tE_eq (je_dcomp ct ok ho (si _ _ _ _ _ _ c h3) (fun s H C cl fp => tg_ok (blk_ctx c).ex.choose_spec top_no h4) (fun s H C cl fp => ?_) (fun s H C cl fp => ?_) (notSet_fold h2) (mk := wp P (fun _ _ _ => False) a) (ml := wp P (fun _ _ _ => False) v)) fun Y e k => ?_
    · have := je_keep (sa _ _ _ _ _ (blk_ctx c (s := s) (H := H) (C := C) (cl := cl) (fp := fp)) h5)
      refine ⟨fun pins s' σ H' Q I q => this.run pins s' σ H' Q I ?_⟩
      obtain ⟨e, fp, Y, K', st, hw, hx, hk⟩ := q
      exact ⟨e, fp, fun _ _ _ => False, K', st, hw, .none, hk⟩
    · have := je_keep (sv _ _ _ _ _ (blk_ctx c (s := s) (H := H) (C := C) (cl := cl) (fp := fp)) h6)
      refine ⟨fun pins s' σ H' Q I q => this.run pins s' σ H' Q I ?_⟩
      obtain ⟨e, fp, Y, K', st, hw, hx, hk⟩ := q
      exact ⟨e, fp, fun _ _ _ => False, K', st, hw, .none, hk⟩
    · simp only [wp]
  · cases h
end
end Gr

end
section
set_option Elab.async false
set_option linter.all false
set_option maxRecDepth 100000
set_option maxHeartbeats 4000000
namespace Gr
open PySem PySem.Spec L2
open PyProof.Rows hiding St
section
variable {g : Gm} {wd : Wd} {K : Ky} {P : Cx} {A : Around} (L : LnkX g wd K P A)
include L
theorem snd_tcmp {op : Cmp} {a : C} {d : Bo} (sa : SC g wd K P A a) (sd : SB g wd K P A d) : ST g wd K P A (.val (.x (.cmp op a d))) := by
  intro b sc X W x c h
  obtain ⟨lv, ct⟩ := c.ex
  simp only [chkT, cCmp] at h
  split at h
  · simp only [Bool.and_eq_true, beq_iff_eq, Bool.not_eq_true'] at h
    obtain ⟨⟨⟨rfl, h1⟩, h2⟩, h3⟩ := h
    exact ⟨tT_eq (jt_cmp ct.K (by rw [c.hA]; exact L.hu) h1 (je_keep (sa _ _ _ _ _ c h2)) (sd _ _ _ _ _ c h3)) fun Y e k => by simp only [wpT, wpB, wp, keptW, frzK, truthK], fun ⟨_, _, _, z⟩ => nomatch z⟩
  · cases h
theorem snd_tchain {p q : Cmp} {a m : C} {d : Bo} (sa : SC g wd K P A a) (sm : SC g wd K P A m) (sd : SB g wd K P A d) : ST g wd K P A (.val (.x (.chain p q a m d))) := by
  intro b sc X W x c h
  obtain ⟨lv, ct⟩ := c.ex
  simp only [chkT, cChain] at h
  split at h
  · simp only [Bool.and_eq_true, beq_iff_eq, Bool.not_eq_true'] at h
    obtain ⟨⟨⟨⟨⟨rfl, rfl⟩, h1⟩, h2⟩, h3⟩, h4⟩ := h
    exact ⟨tT_eq (jt_chain ct.K (by rw [c.hA]; exact L.hu) h1 (je_keep (sa _ _ _ _ _ c h2)) (je_keep (sm _ _ _ _ _ c h3)) (sd _ _ _ _ _ c h4)) fun Y e k => by simp only [wpT, wpB, wp, keptW, frzK, truthK], fun ⟨_, _, _, z⟩ => nomatch z⟩
  · cases h
theorem snd_tinG {t : Bool} {a : C} {gn : String} (sa : SC g wd K P A a) : ST g wd K P A (.val (.x (.inG t a gn))) := by
  intro b sc X W x c h
  obtain ⟨lv, ct⟩ := c.ex
  simp only [chkT, cInG] at h
  split at h
  · simp only [Bool.and_eq_true, beq_iff_eq, List.contains_iff_mem] at h
    obtain ⟨⟨⟨⟨rfl, rfl⟩, h2⟩, h3⟩, h4⟩ := h
    exact ⟨tT_eq (jt_inG ct L c.hA h3 h2 (je_keep (sa _ _ _ _ _ c h4))) fun Y e k => by simp only [wpT, wpB, wp, keptW, frzK, truthK], fun ⟨_, _, _, z⟩ => nomatch z⟩
  · cases h
theorem snd_tval {d : Bo} (sd : SB g wd K P A d) (he : chkT K (.val d) = cVal (chkB K d)) : ST g wd K P A (.val d) := by
  intro b sc X W x c h
  obtain ⟨lv, ct⟩ := c.ex
  rw [he] at h
  simp only [cVal, Bool.and_eq_true] at h
  refine ⟨tT_eq (jt_val ct.K (sd _ _ _ _ _ c h.1) (plainT_he h.2)) fun Y e k => by simp only [wpT], fun ⟨_, _, _, z⟩ => ?_⟩
  subst z
  simp [plainT] at h
theorem snd_tand {s t : T} (ss : ST g wd K P A s) (st : ST g wd K P A t) : ST g wd K P A (.and_ s t) := by
  intro b sc X W x c h
  simp only [chkT, cAnd] at h
  split at h
  · rename_i y z rest p
    simp only [Bool.and_eq_true] at h
    have : PW X (.BoolOp .And (y :: z :: rest) p) (tTs g W b fun Y => wpT P Y (.and_ s t)) := by
      cases rest with
      | nil => exact tW_eq (jw_and (ss _ _ _ _ _ c h.1).1 (jw_one_and (st _ _ _ _ _ c h.2).1)) fun Y e k => by simp only [wpT]
      | cons w rest => exact tW_eq (jw_and (ss _ _ _ _ _ c h.1).1 ((st _ _ _ _ _ c h.2).2 ⟨_, _, _, rfl⟩)) fun Y e k => by simp only [wpT]
    exact ⟨this.pt, fun _ => this⟩
  · cases h
theorem snd_tor {s t : T} (ss : ST g wd K P A s) (st : ST g wd K P A t) : ST g wd K P A (.or_ s t) := by
  intro b sc X W x c h
  simp only [chkT, cOr] at h
  split at h
  · rename_i y z rest p
    simp only [Bool.and_eq_true] at h
    have : PW X (.BoolOp .Or (y :: z :: rest) p) (tTs g W b fun Y => wpT P Y (.or_ s t)) := by
      cases rest with
      | nil => exact tW_eq (jw_or (ss _ _ _ _ _ c h.1).1 (jw_one_or (st _ _ _ _ _ c h.2).1)) fun Y e k => by simp only [wpT]
      | cons w rest => exact tW_eq (jw_or (ss _ _ _ _ _ c h.1).1 ((st _ _ _ _ _ c h.2).2 ⟨_, _, _, rfl⟩)) fun Y e k => by simp only [wpT]
    exact ⟨this.pt, fun _ => this⟩
  · cases h
theorem snd_tnot {t : T} (st : ST g wd K P A t) : ST g wd K P A (.not_ t) := by
  intro b sc X W x c h
  simp only [chkT, cNot] at h
  split at h
  · exact ⟨tT_eq (jt_not (st _ _ _ _ _ c h).1) fun Y e k => by simp only [wpT], fun ⟨_, _, _, z⟩ => nomatch z⟩
  · cases h
theorem snd_bp {p : Pl} : SB g wd K P A (.p p) := by
  intro b sc X W x c h
  obtain ⟨lv, ct⟩ := c.ex
  simp only [chkB] at h
  cases p with
  | v i =>
    simp only [plcB] at h
    split at h
    · exact tB_eq (jb_v ct h) fun Y e k => by simp only [wpB, rdW]
    · cases h
  | f i f =>
    simp only [plcB] at h
    split at h
    · simp only [Bool.and_eq_true, beq_iff_eq, List.contains_iff_mem] at h
      obtain ⟨⟨h1, rfl⟩, h3⟩ := h
      exact tB_eq (jb_f ct L.lk h1 h3) fun Y e k => by simp only [wpB, rdW]
    · cases h
theorem snd_bx {a : C} (sa : SC g wd K P A a) : SB g wd K P A (.x a) := by
  intro b sc X W x c h
  simp only [chkB] at h
  exact tB_eq (je_look (sa _ _ _ _ _ c h)) fun Y e k => by simp only [wpB, keptW]
mutual
theorem snd : ∀ c : C, SC g wd K P A c
  | .var i => snd_var L
  | .glob x => snd_glob L
  | .int i => snd_int L
  | .str s => snd_str L
  | .bl b => snd_bl L
  | .non => snd_non L
  | .tup es => snd_tup L (sndL es)
  | .lst es => snd_lst L (sndL es)
  | .dnew t => snd_dnew L
  | .bin op a d => snd_bin L (snd a) (sndB d)
  | .neg a => snd_neg L (snd a)
  | .cmp op a d => snd_cmp L (snd a) (sndB d)
  | .chain p q a m d => snd_chain L (snd a) (snd m) (sndB d)
  | .inG t a x => snd_inG L (snd a)
  | .and_ a c => snd_and_ L (snd a) (snd c)
  | .or_ a c => snd_or_ L (snd a) (snd c)
  | .not_ a => snd_not_ L (snd a)
  | .ite t a c => snd_ite L (sndT t) (snd a) (snd c)
  | .idx (.p p) i => snd_idx L (snd_bp L) (fun _ z => nomatch z) (snd i)
  | .idx (.x d) i => snd_idx L (snd_bx L (snd d)) (fun _ z => by cases z; exact snd d) (snd i)
  | .slc (.p p) lo hi => snd_slc L (snd_bp L) (fun _ z => nomatch z) (sndO lo) (sndO hi)
  | .slc (.x d) lo hi => snd_slc L (snd_bx L (snd d)) (fun _ z => by cases z; exact snd d) (sndO lo) (sndO hi)
  | .attr i f => snd_attr L
  | .comp tg elt it ifs => snd_comp L (sndI it) (snd elt) (sndTs ifs)
  | .dcomp tg a v it => snd_dcomp L (sndI it) (snd a) (snd v)
  | .rng a c => snd_rng L
  | .call f args => snd_call L (sndA args)
  | .ocall i m args => snd_ocall L (sndL args)
  | .isi d t => snd_isi L (sndB d)
  | .b1 f d => snd_b1 L (sndB d)
  | .b2 f a d => snd_b2 L (snd a) (sndB d)
  | .m1 m d a => snd_m1 L (snd a)
  | .m2 m o a d => snd_m2 L
  | .app p a => snd_app L (snd a)
  | .ext p a => snd_ext L (snd a)
  | .pop p => snd_pop L
theorem sndI : ∀ c : C, SI (g := g) (wd := wd) (K := K) (P := P) (A := A) c
  | .rng none c => snd_irng1 L (snd c)
  | .rng (some a) c => snd_irng2 L (snd a) (snd c)
  | .var i => snd_ival L (snd_var L) (by simp only [chk, chkI])
  | .idx (.p p) i => snd_ival L (snd_idx L (snd_bp L) (fun _ z => nomatch z) (snd i)) (by simp only [chk, chkI])
  | .idx (.x d) i => snd_ival L (snd_idx L (snd_bx L (snd d)) (fun _ z => by cases z; exact snd d) (snd i)) (by simp only [chk, chkI])
  | .slc (.p p) lo hi => snd_ival L (snd_slc L (snd_bp L) (fun _ z => nomatch z) (sndO lo) (sndO hi)) (by simp only [chk, chkI])
  | .slc (.x d) lo hi => snd_ival L (snd_slc L (snd_bx L (snd d)) (fun _ z => by cases z; exact snd d) (sndO lo) (sndO hi)) (by simp only [chk, chkI])
  | .attr i f => snd_ival L (snd_attr L) (by simp only [chk, chkI])
  | .tup es => snd_ival L (snd_tup L (sndL es)) (by simp only [chk, chkI])
  | .lst es => snd_ival L (snd_lst L (sndL es)) (by simp only [chk, chkI])
  | .str s => snd_ival L (snd_str L) (by simp only [chk, chkI])
  | .call f args => snd_ival L (snd_call L (sndA args)) (by simp only [chk, chkI])
  | .b1 f d => snd_ival L (snd_b1 L (sndB d)) (by simp only [chk, chkI])
  | .bin op a d => snd_ival L (snd_bin L (snd a) (sndB d)) (by simp only [chk, chkI])
  | .glob _ | .int _ | .bl _ | .non | .dnew _ | .neg _ | .cmp _ _ _ | .chain _ _ _ _ _ | .inG _ _ _ | .and_ _ _ | .or_ _ _ | .not_ _ | .ite _ _ _ | .comp _ _ _ _ | .dcomp _ _ _ _ | .ocall _ _ _ | .isi _ _ | .b2 _ _ _ | .m1 _ _ _ | .m2 _ _ _ _ | .app _ _ | .ext _ _ | .pop _ => snd_ino L (by simp only [chkI])
theorem sndB : ∀ d : Bo, SB g wd K P A d
  | .p p => snd_bp L
  | .x c => snd_bx L (snd c)
theorem sndT : ∀ t : T, ST g wd K P A t
  | .val (.x (.cmp op a d)) => snd_tcmp L (snd a) (sndB d)
  | .val (.x (.chain p q a m d)) => snd_tchain L (snd a) (snd m) (sndB d)
  | .val (.x (.inG t a x)) => snd_tinG L (snd a)
  | .val (.p p) => snd_tval L (snd_bp L) (by simp only [chkT])
  | .val (.x (.var i)) => snd_tval L (snd_bx L (snd_var L)) (by simp only [chkT])
  | .val (.x (.bl v)) => snd_tval L (snd_bx L (snd_bl L)) (by simp only [chkT])
  | .val (.x (.idx (.p p) i)) => snd_tval L (snd_bx L (snd_idx L (snd_bp L) (fun _ z => nomatch z) (snd i))) (by simp only [chkT])
  | .val (.x (.idx (.x d) i)) => snd_tval L (snd_bx L (snd_idx L (snd_bx L (snd d)) (fun _ z => by cases z; exact snd d) (snd i))) (by simp only [chkT])
  | .val (.x (.attr i f)) => snd_tval L (snd_bx L (snd_attr L)) (by simp only [chkT])
  | .val (.x (.call f args)) => snd_tval L (snd_bx L (snd_call L (sndA args))) (by simp only [chkT])
  | .val (.x (.ocall i m args)) => snd_tval L (snd_bx L (snd_ocall L (sndL args))) (by simp only [chkT])
  | .val (.x (.isi d t)) => snd_tval L (snd_bx L (snd_isi L (sndB d))) (by simp only [chkT])
  | .val (.x (.b1 f d)) => snd_tval L (snd_bx L (snd_b1 L (sndB d))) (by simp only [chkT])
  | .val (.x (.comp tg elt it ifs)) => snd_tval L (snd_bx L (snd_comp L (sndI it) (snd elt) (sndTs ifs))) (by simp only [chkT])
  | .val (.x (.glob x)) => snd_tval L (snd_bx L (snd_glob L)) (by simp only [chkT])
  | .val (.x (.int i)) => snd_tval L (snd_bx L (snd_int L)) (by simp only [chkT])
  | .val (.x (.str s)) => snd_tval L (snd_bx L (snd_str L)) (by simp only [chkT])
  | .val (.x .non) => snd_tval L (snd_bx L (snd_non L)) (by simp only [chkT])
  | .val (.x (.tup es)) => snd_tval L (snd_bx L (snd_tup L (sndL es))) (by simp only [chkT])
  | .val (.x (.lst es)) => snd_tval L (snd_bx L (snd_lst L (sndL es))) (by simp only [chkT])
  | .val (.x (.dnew t)) => snd_tval L (snd_bx L (snd_dnew L)) (by simp only [chkT])
  | .val (.x (.bin op a d)) => snd_tval L (snd_bx L (snd_bin L (snd a) (sndB d))) (by simp only [chkT])
  | .val (.x (.neg a)) => snd_tval L (snd_bx L (snd_neg L (snd a))) (by simp only [chkT])
  | .val (.x (.and_ a c)) => snd_tval L (snd_bx L (snd_and_ L (snd a) (snd c))) (by simp only [chkT])
  | .val (.x (.or_ a c)) => snd_tval L (snd_bx L (snd_or_ L (snd a) (snd c))) (by simp only [chkT])
  | .val (.x (.not_ a)) => snd_tval L (snd_bx L (snd_not_ L (snd a))) (by simp only [chkT])
  | .val (.x (.ite t a c)) => snd_tval L (snd_bx L (snd_ite L (sndT t) (snd a) (snd c))) (by simp only [chkT])
  | .val (.x (.slc (.p p) lo hi)) => snd_tval L (snd_bx L (snd_slc L (snd_bp L) (fun _ z => nomatch z) (sndO lo) (sndO hi))) (by simp only [chkT])
  | .val (.x (.slc (.x d) lo hi)) => snd_tval L (snd_bx L (snd_slc L (snd_bx L (snd d)) (fun _ z => by cases z; exact snd d) (sndO lo) (sndO hi))) (by simp only [chkT])
  | .val (.x (.dcomp tg a v it)) => snd_tval L (snd_bx L (snd_dcomp L (sndI it) (snd a) (snd v))) (by simp only [chkT])
  | .val (.x (.rng a c)) => snd_tval L (snd_bx L (snd_rng L)) (by simp only [chkT])
  | .val (.x (.b2 f a d)) => snd_tval L (snd_bx L (snd_b2 L (snd a) (sndB d))) (by simp only [chkT])
  | .val (.x (.m1 m d a)) => snd_tval L (snd_bx L (snd_m1 L (snd a))) (by simp only [chkT])
  | .val (.x (.m2 m o a d)) => snd_tval L (snd_bx L (snd_m2 L)) (by simp only [chkT])
  | .val (.x (.app p a)) => snd_tval L (snd_bx L (snd_app L (snd a))) (by simp only [chkT])
  | .val (.x (.ext p a)) => snd_tval L (snd_bx L (snd_ext L (snd a))) (by simp only [chkT])
  | .val (.x (.pop p)) => snd_tval L (snd_bx L (snd_pop L)) (by simp only [chkT])
  | .and_ s t => snd_tand L (sndT s) (sndT t)
  | .or_ s t => snd_tor L (sndT s) (sndT t)
  | .not_ t => snd_tnot L (sndT t)
theorem sndL : ∀ cs : List C, SL g wd K P A cs
  | [] => snd_lnil L
  | c :: cs => snd_lcons L (snd c) (sndL cs)
theorem sndA : ∀ cs : List C, SA (g := g) (wd := wd) (K := K) (P := P) (A := A) cs
  | [] => snd_anil L
  | c :: cs => snd_acons L (snd c) (sndA cs)
theorem sndO : ∀ o : Option C, SO (g := g) (wd := wd) (K := K) (P := P) (A := A) o
  | none => snd_onone L
  | some c => snd_osome L (snd c)
theorem sndTs : ∀ ts : List T, STs (g := g) (wd := wd) (K := K) (P := P) (A := A) ts
  | [] => snd_tsnil L
  | [t] => snd_tsone L (sndT t)
  | _ :: _ :: _ => snd_tsmany L
end
end
end Gr

end
section
set_option Elab.async false
set_option linter.all false
set_option maxRecDepth 100000
set_option maxHeartbeats 4000000
namespace Gr
open PySem PySem.Spec L2
open PyProof.Rows hiding St
/-! ### the checker of statements -/
abbrev FS := Scope → (Nat → Bool) → Stmt → Bool
abbrev FSs := Scope → (Nat → Bool) → List Stmt → Bool
def nonComp : Expr → Bool
  | .ListComp .. => false
  | .SetComp .. => false
  | .DictComp .. => false
  | _ => true
/-- is a comprehension's value swapped with the name? -/
def swC (sc scope : Scope) (nm : Str) (np cp : Pos) : Bool := (sc.names.lookup nm == some .local) && np.line == cp.line && !(scope.names.any fun (n, k) => n == nm && (k == .local || k == .cell))
def sAsg (K : Ky) (i : Nat) (e : C) (fe : F) (ft : Option (Tg × F × F × FL)) (fd : Option (Tg × F × F × F)) : FS := fun sc pr st => match st with
  | .Assign [.Name nm np] x _ => asgB K.N sc true i nm && !pr i && sc.kind == .function && (match x with
    | .ListComp y [⟨tgE, iter, ifsE, 0⟩] scope cp => (match swC sc scope nm np cp with
      | false => fe false sc x
      | true => (match ft with
        | some (tg, fi, fy, fts) => blkB K.N sc scope tg.ix && notSet iter && fi false sc iter && chkTg K.N (relS scope sc) false tg tgE && fts false (relS scope sc) ifsE && fy false (relS scope sc) y
        | none => false))
    | .DictComp y z [⟨tgE, iter, [], 0⟩] scope cp => (match swC sc scope nm np cp with
      | false => fe false sc x
      | true => (match fd with
        | some (tg, fi, fy, fz) => blkB K.N sc scope tg.ix && notSet iter && fi false sc iter && chkTg K.N (relS scope sc) false tg tgE && fy false (relS scope sc) y && fz false (relS scope sc) z
        | none => false))
    | x => nonComp x && fe false sc x)
  | _ => false
def notTup : Expr → Bool
  | .Tuple .. => false
  | _ => true
def sAsgT (K : Ky) (is : List Nat) (fe : F) : FS := fun sc pr st => match st with
  | .Assign [.Tuple es k p] x _ => chkTg K.N sc true (.tp is) (.Tuple es k p) && is.all (fun i => !pr i) && nonComp x && notTup x && fe false sc x
  | _ => false
def locs (sc : Scope) (line : Nat) (ts : List Expr) : List Str := ts.filterMap fun
  | .Name id pos => if sc.names.lookup id == some .local && pos.line == line then some id else none
  | _ => none
def sAsgP (K : Ky) (is : List Nat) (fe : FL) : FS := fun sc pr st => match st with
  | .Assign [.Tuple ts _ _] (.Tuple es _ _) _ => chkTg.go K.N sc true is ts && is.all (fun i => !pr i) && fe false sc es && Nat.ble es.length 1000 && ts.length == es.length && !((locs sc ((ts.head?.map (·.pos.line)).getD 0) ts).length == ts.length)
  | _ => false
def sSetP (K : Ky) (p : Pl) (fi fe : F) : FS := fun sc pr st => match st with
  | .Assign [.Subscript y z _] x _ => plcB K.N sc K.fds p y && nonComp x && fi (!p.isV) sc z && fe false sc x
  | _ => false
def sSetF (K : Ky) (i : Nat) (f : String) (fe : F) : FS := fun sc pr st => match st with
  | .Assign [.Attribute (.Name nm _) f' _] x _ => nameB K.N sc i nm && f' == Str.ofString f && K.fds.contains f && nonComp x && fe false sc x
  | _ => false
def sAugF (K : Ky) (i : Nat) (f : String) (op : BOp) (fe : F) : FS := fun sc pr st => match st with
  | .AugAssign (.Attribute (.Name nm _) f' _) o x _ => op == .add && o == opOf op && nameB K.N sc i nm && f' == Str.ofString f && K.fds.contains f && fe true sc x
  | _ => false
def sDel (K : Ky) (p : Pl) (fl : F) : FS := fun sc pr st => match st with
  | .Delete [.Subscript y (.Slice (some z) none none _) _] _ => plcB K.N sc K.fds p y && fl (!p.isV) sc z
  | _ => false
def sNew (K : Ky) (i : Nat) (c : String) (n : Nat) (fa : FL) : FS := fun sc pr st => match st with
  | .Assign [.Name nm _] (.Call (.Name cn _) es [] _) _ => asgB K.N sc true i nm && !pr i && cn == Str.ofString c && glN sc c && K.cl.contains c && (n == es.length) && fa true sc es
  | _ => false
def sEx (fe : F) : FS := fun sc pr st => match st with
  | .Expr x _ => nonComp x && fe false sc x
  | _ => false
def sRet (fe : F) : FS := fun sc pr st => match st with
  | .Return (some x) _ => fe false sc x
  | _ => false
def sRetv (K : Ky) (i : Nat) : FS := fun sc pr st => match st with
  | .Return (some (.Name nm _)) _ => nameB K.N sc i nm
  | _ => false
def sRetN : FS := fun sc pr st => match st with
  | .Return none _ => true
  | _ => false
def sIte (ft : F) (fa fb : FSs) : FS := fun sc pr st => match st with
  | .If c a b _ => ft false sc c && fa sc pr a && fb sc pr b
  | _ => false
def sFor (K : Ky) (tg : Tg) (fi : F) (fb : FSs) : FS := fun sc pr st => match st with
  | .For tgE iter body [] _ => notSet iter && fi false sc iter && chkTg K.N sc true tg tgE && tg.ix.all (fun i => !pr i) && fb sc pr body
  | _ => false
def sWhile (ft : F) (fb : FSs) : FS := fun sc pr st => match st with
  | .While c body [] _ => ft false sc c && fb sc pr body
  | _ => false
def sBrk : FS := fun sc pr st => match st with
  | .Break _ => true
  | _ => false
def sCnt : FS := fun sc pr st => match st with
  | .Continue _ => true
  | _ => false
def sPass : FS := fun sc pr st => match st with
  | .Pass _ => true
  | _ => false
def sNo : FS := fun _ _ _ => false
def sYes : FS := fun _ _ _ => true
def sNil : FSs := fun _ _ xs => xs.isEmpty
def sCons (f : FS) (fr : FSs) : FSs := fun sc pr xs => match xs with
  | x :: xs => f sc pr x && fr sc pr xs
  | [] => false
mutual
def chkS (K : Ky) : S → FS
  | .asg i (.comp tg elt it ifs) => sAsg K i (.comp tg elt it ifs) (chk K (.comp tg elt it ifs)) (some (tg, chkI K it, chk K elt, chkTs K ifs)) none
  | .asg i (.dcomp tg a v it) => sAsg K i (.dcomp tg a v it) (chk K (.dcomp tg a v it)) none (some (tg, chkI K it, chk K a, chk K v))
  | .asg i e => sAsg K i e (chk K e) none none
  | .asgT is e => sAsgT K is (chk K e)
  | .asgP is es => sAsgP K is (chkL K es)
  | .aug _ _ _ => sNo
  | .setI i ix e => sSetP K (.v i) (chk K ix) (chk K e)
  | .setF i f e => sSetF K i f (chk K e)
  | .augF i f op e => sAugF K i f op (chkB K e)
  | .setFI i f ix e => sSetP K (.f i f) (chk K ix) (chk K e)
  | .delFS i f lo => sDel K (.f i f) (chk K lo)
  | .new i c args => sNew K i c args.length (chkL K args)
  | .ex e => sEx (chk K e)
  | .ret e => sRet (chk K e)
  | .retv i => sRetv K i
  | .retN => sRetN
  | .ite t a b => sIte (chkT K t) (chkSs K a) (chkSs K b)
  | .for_ tg it body => sFor K tg (chkI K it) (chkSs K body)
  | .while_ t body => sWhile (chkT K t) (chkSs K body)
  | .brk => sBrk
  | .cnt => sCnt
  | .pass => sPass
  | .raise _ _ => sYes
  | .try_ _ _ _ _ => sYes
def chkSs (K : Ky) : List S → FSs
  | [] => sNil
  | s :: ss => sCons (chkS K s) (chkSs K ss)
end
end Gr

end
section
set_option Elab.async false
set_option linter.all false
set_option maxRecDepth 100000
set_option maxHeartbeats 4000000
namespace Gr
open PySem PySem.Spec L2
open PyProof.Rows hiding St
section
variable {X : L2.Cx} {g : Gm} {W : WX} {b : Bool} {pr : Nat → Bool} {wd : Wd} {N : List String} {sc : Scope} {lv : Nat}
variable {elt kx iter tgE : Expr} {scope : Scope} {own : List (Str × Nat)} {tg : Tg} {mi : WpLs} {ml mk : Env → (Sl → Env → Prop) → Prop} {pos apos apos' : Pos}
theorem js_asgDc (ct : Ct g wd N sc lv X) {i : Nat} {nm : Str} (hi : X.N[i]? = some nm) (hl : X.env.scope.names.lookup nm = some .local) (hp : pr i = false) (hsw : swapsWith (.DictComp kx elt [⟨tgE, iter, [], 0⟩] scope apos) (some (.Name nm apos')) pos.line X.env = pure true)
    (ok : BlkOk X.N X.env.scope scope own) (ho : own.map (·.2) = tg.ix) (hit : PI X tgE iter (tIt g W b mi)) (hg : ∀ s H C cl fp, PG (blkX X s H scope C cl fp) tgE (tG g tg)) (hkx : ∀ s H C cl fp, PE (blkX X s H scope C cl fp) kx (tK g WF b (kept0 mk)))
    (he : ∀ s H C cl fp, PE (blkX X s H scope C cl fp) elt (tK g WF b (kept0 ml))) (hs : ∀ x, foldedSetIterable iter X.env x = pure x) :
    PS X (.Assign [.Name nm apos'] (.DictComp kx elt [⟨tgE, iter, [], 0⟩] scope apos) pos) (tS g W pr fun e E => mi E.ex e fun xs e1 => wipeK tg.ix e1 fun e2 => dcompK tg mk ml xs [] e2 fun ds e3 => backK tg.ix e1 e3 fun e4 => asgK (.own (.dct false ds)) i e4 E.nx) := by
  refine ⟨fun pins s σ H D I q => ?_⟩
  obtain ⟨e, fp, E, st, hw, sok⟩ := q
  have h : tDc (tIt g W b mi) (tG g tg) tYes (tK g WF b (kept0 mk)) (tK g WF b (kept0 ml)) (own.map (·.2)) σ H (fun x H1 => gName i x σ H1 D.nx) := by
    rw [ho]
    exact dcomp_read (K := fun r e4 => asgK r i e4 E.nx) (fun j => Iff.rfl) st hw sok.xok fun v H1 fp1 r e1 p1 st1 rr kk => asg_end sok hp p1 st1 rr kk
  rw [exec_Assign_Name_used _ _ _ _ hsw]
  refine wpAny_bind (wpAny_standAt (wpAny_bind ?_))
  show wpAny _ X.A (do let _ ← comprehension (.DictComp kx elt [⟨tgE, iter, [], 0⟩] scope apos) scope X.env (firstIterPos [⟨tgE, iter, [], 0⟩] apos) newDict false (eval iter X.env) (some (assign (.Name nm apos') X.env))) _ _ s
  refine wpAny_bind (thn (dc_core (Qf := fun _ s' => SP X pins D .next s') ct.calm ct.nd I hit ok hg (fun _ _ _ _ _ => pts_nil) hkx he hs h fun L C s' m H' I' q hn f => ?_) fun _ s' hq => wpAny_pure (wpAny_pure hq))
  show wpAny _ _ (assign (.Name nm apos') X.env (.ref L)) _ _ _
  refine wpAny_assign_Name (store_ok2 (v := V.ref L) I' ct.nd hi (.inl hl) rfl (fun s2 I2 ⟨a, sb, ha⟩ => ?_) (.inr hl))
  obtain ⟨f0, f1, f2, f3, f4, f5⟩ := f
  have haC : C ≠ a := by
    rcases ha with z | z
    · rw [z]; exact f1
    · exact fun e => f4 nm a z e.symm
  refine ⟨m, hn.sameBut sb haC, fun h3 sb3 => ?_⟩
  exact ⟨_, H', I2.turned (t' := s2.toks) (fun b o hb e => (sb3.2 b hb).trans e) f0 f1 f3 f4 f5, q⟩
theorem tS_eq {st : Stmt} {m m' : Env → Gr.Ends → Prop} (p : PS X st (tS g W pr m)) (h : ∀ e E, m' e E = m e E) : PS X st (tS g W pr m') := by
  have : m' = m := by funext e E; exact h e E
  rw [this]; exact p
theorem tSs_eq {st : List Stmt} {m m' : Env → Gr.Ends → Prop} (p : PSs X st (tS g W pr m)) (h : ∀ e E, m' e E = m e E) : PSs X st (tS g W pr m') := by
  have : m' = m := by funext e E; exact h e E
  rw [this]; exact p
theorem sw_non {x : Expr} (h : nonComp x = true) (t : Option Expr) (l : Nat) (env : PySem.Env) : swapsWith x t l env = pure false := by
  cases x <;> first | rfl | (simp [nonComp] at h)
theorem sw_lc {y : Expr} {gs : List Comprehension} {scope : Scope} {cp np : Pos} {nm : Str} {l : Nat} (ct : Ct g wd N sc lv X) (hk : sc.kind = .function) : swapsWith (.ListComp y gs scope cp) (some (.Name nm np)) l X.env = pure (swC sc scope nm np cp) := by
  have hb : X.env.blockKind = .function := by unfold Env.blockKind; rw [ct.sc, hk]; rfl
  unfold swapsWith swC
  simp only [hb, Expr.pos]
  have : X.env.kindOf nm = sc.names.lookup nm := by unfold Env.kindOf; rw [ct.sc]
  rw [this]
  simp
theorem sw_dc {y z : Expr} {gs : List Comprehension} {scope : Scope} {cp np : Pos} {nm : Str} {l : Nat} (ct : Ct g wd N sc lv X) (hk : sc.kind = .function) : swapsWith (.DictComp y z gs scope cp) (some (.Name nm np)) l X.env = pure (swC sc scope nm np cp) := by
  have hb : X.env.blockKind = .function := by unfold Env.blockKind; rw [ct.sc, hk]; rfl
  unfold swapsWith swC
  simp only [hb, Expr.pos]
  have : X.env.kindOf nm = sc.names.lookup nm := by unfold Env.kindOf; rw [ct.sc]
  rw [this]
  simp
theorem stores_none {ts es : List Expr} {k1 k2 : Nat} {p1 p2 : Pos} (ct : Ct g wd N sc lv X) (h : ((locs sc ((ts.head?.map (·.pos.line)).getD 0) ts).length == ts.length) = false) : swappedStores [.Tuple ts k1 p1] (.Tuple es k2 p2) X.env = pure none := by
  have ek : ∀ nm, X.env.kindOf nm = sc.names.lookup nm := fun nm => by unfold Env.kindOf; rw [ct.sc]
  unfold swappedStores
  simp only [ek]
  have c3 : ((locs sc ((ts.head?.map (·.pos.line)).getD 0) ts).length != ts.length) = true := by rw [bne, h]; rfl
  split
  · rfl
  · split
    · rfl
    · split
      · rfl
      · rename_i hn
        exact absurd (by rw [Bool.or_eq_true]; exact .inl c3) hn
end
end Gr

end
section
set_option Elab.async false
set_option linter.all false
set_option maxRecDepth 100000
set_option maxHeartbeats 4000000
namespace Gr
open PySem PySem.Spec L2
open PyProof.Rows hiding St
section
variable (g : Gm) (wd : Wd) (K : Ky) (P : Cx) (A : Around)
/-- a def's body, at a known depth -/
structure BodyAt (sc : Scope) (X : L2.Cx) (W : WX) : Prop where
  ex : ∃ k, BodyCx g wd K.N sc k X W
  hA : X.A = A
abbrev SS (s : S) : Prop := ∀ (sc : Scope) (pr : Nat → Bool) (X : L2.Cx) (W : WX) (x : Stmt), BodyAt g wd K A sc X W → chkS K s sc pr x = true → PS X x (tS g W pr fun e E => wpS P s e E)
abbrev SSs (ss : List S) : Prop := ∀ (sc : Scope) (pr : Nat → Bool) (X : L2.Cx) (W : WX) (xs : List Stmt), BodyAt g wd K A sc X W → chkSs K ss sc pr xs = true → PSs X xs (tS g W pr fun e E => wpSs P ss e E)
variable {g wd K P A} (L : LnkX g wd K P A)
theorem BodyAt.c {sc : Scope} {X : L2.Cx} {W : WX} (h : BodyAt g wd K A sc X W) : CtxOk g wd K A sc X W := by
  obtain ⟨k, hb⟩ := h.ex
  exact ⟨⟨k, hb.ct⟩, hb.tk, h.hA⟩
include L
theorem ss_asg0 {i : Nat} {e : C} (hk : chkS K (.asg i e) = sAsg K i e (chk K e) none none) : SS g wd K P A (.asg i e) := by
  intro sc pr X W x B h
  obtain ⟨k, hb⟩ := B.ex
  have ct := hb.ct
  have c := B.c
  rw [hk] at h
  simp only [sAsg] at h
  split at h
  · rename_i nm np x' p'
    simp only [Bool.and_eq_true, beq_iff_eq, Bool.not_eq_true'] at h
    obtain ⟨⟨⟨h1, h2⟩, h3⟩, h4⟩ := h
    have go : ∀ {l : Pos}, swapsWith x' (some (.Name nm np)) l.line X.env = pure false → chk K e false sc x' = true → PS X (.Assign [.Name nm np] x' l) (tS g W pr fun e' E => wpS P (.asg i e) e' E) := fun hs hc => tS_eq (js_asg ct hb.tp h1 h2 hs (snd L e _ _ _ _ _ c hc)) fun e E => by simp only [wpS]
    split at h4
    · split at h4
      · rename_i hsw
        exact go (by rw [sw_lc ct h3, hsw]) h4
      · cases h4
    · split at h4
      · rename_i hsw
        exact go (by rw [sw_dc ct h3, hsw]) h4
      · cases h4
    · simp only [Bool.and_eq_true] at h4
      exact go (sw_non h4.1 _ _ _) h4.2
  · cases h
theorem asg_loc {sc : Scope} {X : L2.Cx} {k : Nat} {i : Nat} {nm : Str} (ct : Ct g wd K.N sc k X) (h : asgB K.N sc true i nm = true) {scope : Scope} {np cp : Pos} (hs : swC sc scope nm np cp = true) : X.N[i]? = some nm ∧ X.env.scope.names.lookup nm = some .local := by
  refine ⟨(loc_of (top := true) (X := { X with fn := fun _ => true }) ⟨ct.prog, ct.w, ct.K, ct.mg, ct.base, ct.N, ct.nd, ct.sc, ct.calm, ct.room⟩ ⟨fun _ _ => rfl⟩ h).1, ?_⟩
  unfold swC at hs
  simp only [Bool.and_eq_true, beq_iff_eq] at hs
  rw [ct.sc]; exact hs.1.1
theorem ss_asgC {i : Nat} {tg : Tg} {elt it : C} {ifs : List T} : SS g wd K P A (.asg i (.comp tg elt it ifs)) := by
  intro sc pr X W x B h
  obtain ⟨k, hb⟩ := B.ex
  have ct := hb.ct
  have c := B.c
  simp only [chkS, sAsg] at h
  split at h
  · rename_i nm np x' p'
    simp only [Bool.and_eq_true, beq_iff_eq, Bool.not_eq_true'] at h
    obtain ⟨⟨⟨h1, h2⟩, h3⟩, h4⟩ := h
    have go : ∀ {l : Pos}, swapsWith x' (some (.Name nm np)) l.line X.env = pure false → chk K (.comp tg elt it ifs) false sc x' = true → PS X (.Assign [.Name nm np] x' l) (tS g W pr fun e' E => wpS P (.asg i (.comp tg elt it ifs)) e' E) := fun hs hc => tS_eq (js_asg ct hb.tp h1 h2 hs (snd L _ _ _ _ _ _ c hc)) fun e E => by simp only [wpS]
    split at h4
    · split at h4
      · rename_i hsw
        exact go (by rw [sw_lc ct h3, hsw]) h4
      · rename_i hsw
        obtain ⟨n1, n2⟩ := asg_loc L ct h1 hsw
        simp only [Bool.and_eq_true] at h4
        obtain ⟨⟨⟨⟨⟨q1, q2⟩, q3⟩, q4⟩, q5⟩, q6⟩ := h4
        obtain ⟨ok, ho⟩ := ownOf_ok q1
        rw [← ct.N, ← ct.sc] at ok
        refine tS_eq (js_asgLc ct n1 n2 h2 (by rw [sw_lc ct h3, hsw]) ok ho (sndI L it _ _ _ _ _ _ c q3) (fun s H C cl fp => tg_ok (blk_ctx c).ex.choose_spec top_no q4) (fun s H C cl fp => ?_) (fun s H C cl fp => ?_) (notSet_fold q2) (mt := wpTs P (fun _ _ _ => False) ifs) (ml := wp P (fun _ _ _ => False) elt)) fun e E => ?_
        · have := sndTs L ifs _ _ _ _ _ (blk_ctx c (s := s) (H := H) (C := C) (cl := cl) (fp := fp)) q5
          refine ⟨fun pins s' σ H' Q I q => this.run pins s' σ H' Q I ?_⟩
          obtain ⟨e, fp, Y, K', st, hw, hx, hk⟩ := q
          exact ⟨e, fp, fun _ _ _ => False, K', st, hw, .none, hk⟩
        · have := je_keep (snd L elt _ _ _ _ _ (blk_ctx c (s := s) (H := H) (C := C) (cl := cl) (fp := fp)) q6)
          refine ⟨fun pins s' σ H' Q I q => this.run pins s' σ H' Q I ?_⟩
          obtain ⟨e, fp, Y, K', st, hw, hx, hk⟩ := q
          exact ⟨e, fp, fun _ _ _ => False, K', st, hw, .none, hk⟩
        · simp only [wpS, wp]
    · split at h4
      · rename_i hsw
        exact go (by rw [sw_dc ct h3, hsw]) h4
      · cases h4
    · simp only [Bool.and_eq_true] at h4
      exact go (sw_non h4.1 _ _ _) h4.2
  · cases h
theorem ss_asgD {i : Nat} {tg : Tg} {a v it : C} : SS g wd K P A (.asg i (.dcomp tg a v it)) := by
  intro sc pr X W x B h
  obtain ⟨k, hb⟩ := B.ex
  have ct := hb.ct
  have c := B.c
  simp only [chkS, sAsg] at h
  split at h
  · rename_i nm np x' p'
    simp only [Bool.and_eq_true, beq_iff_eq, Bool.not_eq_true'] at h
    obtain ⟨⟨⟨h1, h2⟩, h3⟩, h4⟩ := h
    have go : ∀ {l : Pos}, swapsWith x' (some (.Name nm np)) l.line X.env = pure false → chk K (.dcomp tg a v it) false sc x' = true → PS X (.Assign [.Name nm np] x' l) (tS g W pr fun e' E => wpS P (.asg i (.dcomp tg a v it)) e' E) := fun hs hc => tS_eq (js_asg ct hb.tp h1 h2 hs (snd L _ _ _ _ _ _ c hc)) fun e E => by simp only [wpS]
    split at h4
    · split at h4
      · rename_i hsw
        exact go (by rw [sw_lc ct h3, hsw]) h4
      · cases h4
    · split at h4
      · rename_i hsw
        exact go (by rw [sw_dc ct h3, hsw]) h4
      · rename_i hsw
        obtain ⟨n1, n2⟩ := asg_loc L ct h1 hsw
        simp only [Bool.and_eq_true] at h4
        obtain ⟨⟨⟨⟨⟨q1, q2⟩, q3⟩, q4⟩, q5⟩, q6⟩ := h4
        obtain ⟨ok, ho⟩ := ownOf_ok q1
        rw [← ct.N, ← ct.sc] at ok
        refine tS_eq (js_asgDc ct n1 n2 h2 (by rw [sw_dc ct h3, hsw]) ok ho (sndI L it _ _ _ _ _ _ c q3) (fun s H C cl fp => tg_ok (blk_ctx c).ex.choose_spec top_no q4) (fun s H C cl fp => ?_) (fun s H C cl fp => ?_) (notSet_fold q2) (mk := wp P (fun _ _ _ => False) a) (ml := wp P (fun _ _ _ => False) v)) fun e E => ?_
        · have := je_keep (snd L a _ _ _ _ _ (blk_ctx c (s := s) (H := H) (C := C) (cl := cl) (fp := fp)) q5)
          refine ⟨fun pins s' σ H' Q I q => this.run pins s' σ H' Q I ?_⟩
          obtain ⟨e, fp, Y, K', st, hw, hx, hk⟩ := q
          exact ⟨e, fp, fun _ _ _ => False, K', st, hw, .none, hk⟩
        · have := je_keep (snd L v _ _ _ _ _ (blk_ctx c (s := s) (H := H) (C := C) (cl := cl) (fp := fp)) q6)
          refine ⟨fun pins s' σ H' Q I q => this.run pins s' σ H' Q I ?_⟩
          obtain ⟨e, fp, Y, K', st, hw, hx, hk⟩ := q
          exact ⟨e, fp, fun _ _ _ => False, K', st, hw, .none, hk⟩
        · simp only [wpS, wp]
    · simp only [Bool.and_eq_true] at h4
      exact go (sw_non h4.1 _ _ _) h4.2
  · cases h
theorem ss_asgT {is : List Nat} {e : C} : SS g wd K P A (.asgT is e) := by
  intro sc pr X W x B h
  obtain ⟨k, hb⟩ := B.ex
  have ct := hb.ct
  have c := B.c
  simp only [chkS, sAsgT] at h
  split at h
  · rename_i es kk p' x' p2
    simp only [Bool.and_eq_true] at h
    obtain ⟨⟨⟨⟨h1, h2⟩, h3⟩, h4⟩, h5⟩ := h
    have hw : ∀ env, swappedStores [.Tuple es kk p'] x' env = pure none := fun env => by
      cases x' <;> first | rfl | (simp [notTup] at h4)
    exact tS_eq (js_asgT ct (tg_ok ct hb.tp h1) h2 (show swapsWithSole [Expr.Tuple es kk p'] x' p2.line X.env = pure false from sw_non h3 (some (.Tuple es kk p')) p2.line X.env) (hw _) rfl (je_keep (snd L e _ _ _ _ _ c h5))) fun e E => by simp only [wpS, keptW]
  · cases h
omit L in
theorem vl_ok (L : LnkX g wd K P A) : ∀ {cs : List C} {b : Bool} {sc : Scope} {X : L2.Cx} {W : WX} {xs : List Expr}, CtxOk g wd K A sc X W → chkL K cs b sc xs = true → PA X xs (tVl g W b xs.length fun Y => wpV P Y cs)
  | [], b, sc, X, W, [], c, h => by
    have e : (fun Y => wpV P Y ([] : List C)) = fun _ e k => k [] e := by funext Y e k; simp only [wpV]
    rw [e]; exact jv_nil
  | [], b, sc, X, W, _ :: _, c, h => by simp [chkL, cNil] at h
  | a :: cs, b, sc, X, W, [], c, h => by simp [chkL, cCons] at h
  | a :: cs, b, sc, X, W, x :: xs, c, h => by
    simp only [chkL, cCons, Bool.and_eq_true] at h
    have e : (fun Y => wpV P Y (a :: cs)) = fun Y e k => wp P Y a e fun s e1 => wpV P Y cs e1 fun ss e2 => k (s :: ss) e2 := by funext Y e k; simp only [wpV]
    rw [e]
    exact jv_cons h.1.1 (snd L a _ _ _ _ _ c h.1.2) (vl_ok L c h.2)
omit L in
theorem vs_go {N : List String} {sc : Scope} {X : L2.Cx} {k : Nat} (ct : Ct g wd N sc k X) (tp : Top X true) : ∀ {is : List Nat} {es : List Expr}, chkTg.go N sc true is es = true → PGs X es (tVs g is) ∧ es.length = is.length ∧ namesE es = true
  | [], [], _ => ⟨jvs_nil, rfl, rfl⟩
  | i :: is, .Name nm p :: es, h => by
    simp only [chkTg.go, Bool.and_eq_true] at h
    obtain ⟨h1, h2, h3⟩ := vs_go ct tp h.2
    exact ⟨jvs_cons ct tp h.1 h1, congrArg (· + 1) h2, h3⟩
theorem ss_asgP {is : List Nat} {es : List C} : SS g wd K P A (.asgP is es) := by
  intro sc pr X W x B h
  obtain ⟨k, hb⟩ := B.ex
  have ct := hb.ct
  have c := B.c
  simp only [chkS, sAsgP] at h
  split at h
  · simp only [Bool.and_eq_true, Nat.ble_eq, beq_iff_eq, Bool.not_eq_true'] at h
    obtain ⟨⟨⟨⟨⟨h1, h2⟩, h3⟩, h4⟩, h5⟩, h6⟩ := h
    obtain ⟨q1, q2, q3⟩ := vs_go ct hb.tp h1
    exact tS_eq (js_asgP ct h4 h5 q3 h2 (vl_ok L c h3) q1 rfl (stores_none ct h6)) fun e E => by simp only [wpS]
  · cases h
theorem ss_setI {i : Nat} {ix e : C} : SS g wd K P A (.setI i ix e) := by
  intro sc pr X W x B h
  obtain ⟨k, hb⟩ := B.ex
  have ct := hb.ct
  have c := B.c
  simp only [chkS, sSetP] at h
  split at h
  · simp only [Bool.and_eq_true] at h
    obtain ⟨⟨⟨h1, h2⟩, h3⟩, h4⟩ := h
    exact tS_eq (js_setP ct L.lk (by rw [B.hA]; exact L.hu) h1 (.inl rfl) (sw_non h2 _ _ _) (je_keep (snd L e _ _ _ _ _ c h4)) (je_keep (snd L ix _ _ _ _ _ c h3))) fun e E => by simp only [wpS, keptW]
  · cases h
theorem ss_setFI {i : Nat} {f : String} {ix e : C} : SS g wd K P A (.setFI i f ix e) := by
  intro sc pr X W x B h
  obtain ⟨k, hb⟩ := B.ex
  have ct := hb.ct
  have c := B.c
  simp only [chkS, sSetP] at h
  split at h
  · simp only [Bool.and_eq_true] at h
    obtain ⟨⟨⟨h1, h2⟩, h3⟩, h4⟩ := h
    exact tS_eq (js_setP ct L.lk (by rw [B.hA]; exact L.hu) h1 (.inr rfl) (sw_non h2 _ _ _) (je_keep (snd L e _ _ _ _ _ c h4)) (je_keep (snd L ix _ _ _ _ _ c h3))) fun e E => by simp only [wpS, keptW]
  · cases h
theorem ss_setF {i : Nat} {f : String} {e : C} : SS g wd K P A (.setF i f e) := by
  intro sc pr X W x B h
  obtain ⟨k, hb⟩ := B.ex
  have ct := hb.ct
  have c := B.c
  simp only [chkS, sSetF] at h
  split at h
  · simp only [Bool.and_eq_true, beq_iff_eq, List.contains_iff_mem] at h
    obtain ⟨⟨⟨⟨h1, rfl⟩, h3⟩, h4⟩, h5⟩ := h
    exact tS_eq (js_setF ct L.lk h1 h3 (sw_non h4 _ _ _) (snd L e _ _ _ _ _ c h5)) fun e E => by simp only [wpS]
  · cases h
theorem ss_augF {i : Nat} {f : String} {op : BOp} {e : Bo} : SS g wd K P A (.augF i f op e) := by
  intro sc pr X W x B h
  obtain ⟨k, hb⟩ := B.ex
  have ct := hb.ct
  have c := B.c
  simp only [chkS, sAugF] at h
  split at h
  · simp only [Bool.and_eq_true, beq_iff_eq, List.contains_iff_mem] at h
    obtain ⟨⟨⟨⟨⟨h1, rfl⟩, h3⟩, rfl⟩, h5⟩, h6⟩ := h
    exact tS_eq (js_augF ct L.lk h1 h3 h5 (sndB L e _ _ _ _ _ c h6)) fun e E => by simp only [wpS]
  · cases h
theorem ss_del {i : Nat} {f : String} {lo : C} : SS g wd K P A (.delFS i f lo) := by
  intro sc pr X W x B h
  obtain ⟨k, hb⟩ := B.ex
  have ct := hb.ct
  have c := B.c
  simp only [chkS, sDel] at h
  split at h
  · simp only [Bool.and_eq_true] at h
    exact tS_eq (js_delP ct L.lk h.1 (.inr rfl) (je_keep (snd L lo _ _ _ _ _ c h.2))) fun e E => by simp only [wpS, keptW]
  · cases h
theorem ss_new {i : Nat} {cn : String} {args : List C} : SS g wd K P A (.new i cn args) := by
  intro sc pr X W x B h
  obtain ⟨k, hb⟩ := B.ex
  have ct := hb.ct
  have c := B.c
  simp only [chkS, sNew] at h
  split at h
  · simp only [Bool.and_eq_true, beq_iff_eq, Bool.not_eq_true', List.contains_iff_mem] at h
    obtain ⟨⟨⟨⟨⟨⟨h1, h2⟩, rfl⟩, h3⟩, h4⟩, h5⟩, h6⟩ := h
    obtain ⟨C, fn, fa, fd, ps, dvs, k0, q1, q2, q3, q4, q5, q6, q7⟩ := L.news cn h4
    obtain ⟨g1, g2⟩ := gl_at ct h3
    obtain ⟨l1, l2⟩ := len_L L h6
    refine tS_eq (js_new (n := args.length) ct hb.tp q1 q2 q3 q4 (by rw [ct.prog, ct.w, ct.K, ct.mg, ct.base]; exact q5) (by rw [B.hA]; exact q6) g1 (by rw [ct.mg]; exact q7) g2 h1 h2 h5 l2 (ml := fun Y => wpL P Y args) ?_) fun e E => by simp only [wpS]
    cases args with
    | nil =>
      refine .inl ⟨List.eq_nil_of_length_eq_zero l1, fun Y e k q => ?_⟩
      simp only [wpL] at q
      exact q
    | cons a as => exact .inr ⟨(by intro z; subst z; cases l1), sndL L _ _ _ _ _ _ c h6⟩
  · cases h
theorem ss_ex {e : C} : SS g wd K P A (.ex e) := by
  intro sc pr X W x B h
  simp only [chkS, sEx] at h
  split at h
  · simp only [Bool.and_eq_true] at h
    exact tS_eq (js_ex (snd L e _ _ _ _ _ B.c h.2) (sw_non h.1 _ _ _)) fun e E => by simp only [wpS]
  · cases h
theorem ss_ret {e : C} : SS g wd K P A (.ret e) := by
  intro sc pr X W x B h
  simp only [chkS, sRet] at h
  split at h
  · exact tS_eq (js_ret (snd L e _ _ _ _ _ B.c h)) fun e E => by simp only [wpS]
  · cases h
theorem ss_retv {i : Nat} : SS g wd K P A (.retv i) := by
  intro sc pr X W x B h
  obtain ⟨k, hb⟩ := B.ex
  simp only [chkS, sRetv] at h
  split at h
  · exact tS_eq (js_retv hb.ct h) fun e E => by simp only [wpS]
  · cases h
theorem ss_simple {s : S} {f : FS} (hk : chkS K s = f) (hf : ∀ sc pr X W x, BodyAt g wd K A sc X W → f sc pr x = true → PS X x (tS g W pr fun e E => wpS P s e E)) : SS g wd K P A s := by
  intro sc pr X W x B h
  rw [hk] at h
  exact hf _ _ _ _ _ B h
theorem ss_ite {t : T} {a b : List S} (sa : SSs g wd K P A a) (sb : SSs g wd K P A b) : SS g wd K P A (.ite t a b) := by
  intro sc pr X W x B h
  simp only [chkS, sIte] at h
  split at h
  · simp only [Bool.and_eq_true] at h
    exact tS_eq (js_ite (sndT L t _ _ _ _ _ B.c h.1.1).1 (sa _ _ _ _ _ B h.1.2) (sb _ _ _ _ _ B h.2)) fun e E => by simp only [wpS]
  · cases h
theorem ss_for {tg : Tg} {it : C} {body : List S} (sb : SSs g wd K P A body) : SS g wd K P A (.for_ tg it body) := by
  intro sc pr X W x B h
  obtain ⟨k, hb⟩ := B.ex
  simp only [chkS, sFor] at h
  split at h
  · simp only [Bool.and_eq_true] at h
    obtain ⟨⟨⟨⟨h1, h2⟩, h3⟩, h4⟩, h5⟩ := h
    exact tS_eq (js_for hb.ct hb.po (sndI L it _ _ _ _ _ _ B.c h2) (tg_ok hb.ct hb.tp h3) h4 (sb _ _ _ _ _ B h5) (notSet_fold h1)) fun e E => by simp only [wpS]
  · cases h
theorem ss_while {t : T} {body : List S} (sb : SSs g wd K P A body) : SS g wd K P A (.while_ t body) := by
  intro sc pr X W x B h
  obtain ⟨k, hb⟩ := B.ex
  simp only [chkS, sWhile] at h
  split at h
  · simp only [Bool.and_eq_true] at h
    exact tS_eq (js_while hb.po (sndT L t _ _ _ _ _ B.c h.1).1 (sb _ _ _ _ _ B h.2)) fun e E => by simp only [wpS]
  · cases h
theorem ss_nil : SSs g wd K P A [] := by
  intro sc pr X W xs B h
  simp only [chkSs, sNil] at h
  cases xs with
  | nil => exact tSs_eq js_nil fun e E => by simp only [wpSs]
  | cons _ _ => cases h
theorem ss_cons {s : S} {ss : List S} (s1 : SS g wd K P A s) (s2 : SSs g wd K P A ss) : SSs g wd K P A (s :: ss) := by
  intro sc pr X W xs B h
  simp only [chkSs, sCons] at h
  cases xs with
  | nil => cases h
  | cons x xs =>
    simp only [Bool.and_eq_true] at h
    exact tSs_eq (js_cons (s1 _ _ _ _ _ B h.1) (s2 _ _ _ _ _ B h.2)) fun e E => by simp only [wpSs]
theorem ss_asgX {i : Nat} : ∀ e : C, SS g wd K P A (.asg i e)
  | .comp tg elt it ifs => ss_asgC L
  | .dcomp tg a v it => ss_asgD L
  | .var _ | .glob _ | .int _ | .str _ | .bl _ | .non | .tup _ | .lst _ | .dnew _ | .bin _ _ _ | .neg _ | .cmp _ _ _ | .chain _ _ _ _ _ | .inG _ _ _ | .and_ _ _ | .or_ _ _ | .not_ _ | .ite _ _ _ | .idx _ _ | .slc _ _ _ | .attr _ _ | .rng _ _ | .call _ _ | .ocall _ _ _ | .isi _ _ | .b1 _ _ | .b2 _ _ _ | .m1 _ _ _ | .m2 _ _ _ _ | .app _ _ | .ext _ _ | .pop _ => ss_asg0 L (by simp only [chkS])
mutual
theorem ssn : ∀ s : S, SS g wd K P A s
  | .asg i e => ss_asgX L e
  | .asgT is e => ss_asgT L
  | .asgP is es => ss_asgP L
  | .aug i op e => ss_simple L (f := sNo) (by simp only [chkS]) fun _ _ _ _ _ _ h => nomatch h
  | .setI i ix e => ss_setI L
  | .setF i f e => ss_setF L
  | .augF i f op e => ss_augF L
  | .setFI i f ix e => ss_setFI L
  | .delFS i f lo => ss_del L
  | .new i c args => ss_new L
  | .ex e => ss_ex L
  | .ret e => ss_ret L
  | .retv i => ss_retv L
  | .retN => ss_simple L (f := sRetN) (by simp only [chkS]) fun _ _ _ _ _ _ h => by
      simp only [sRetN] at h
      split at h
      · exact tS_eq js_retN fun e E => by simp only [wpS]
      · cases h
  | .ite t a b => ss_ite L (ssns a) (ssns b)
  | .for_ tg it body => ss_for L (ssns body)
  | .while_ t body => ss_while L (ssns body)
  | .brk => ss_simple L (f := sBrk) (by simp only [chkS]) fun _ _ _ _ _ _ h => by
      simp only [sBrk] at h
      split at h
      · exact tS_eq js_brk fun e E => by simp only [wpS]
      · cases h
  | .cnt => ss_simple L (f := sCnt) (by simp only [chkS]) fun _ _ _ _ _ _ h => by
      simp only [sCnt] at h
      split at h
      · exact tS_eq js_cnt fun e E => by simp only [wpS]
      · cases h
  | .pass => ss_simple L (f := sPass) (by simp only [chkS]) fun _ _ _ _ _ _ h => by
      simp only [sPass] at h
      split at h
      · exact tS_eq js_pass fun e E => by simp only [wpS]
      · cases h
  | .raise c e => ss_simple L (f := sYes) (by simp only [chkS]) fun _ _ _ _ _ _ _ => tS_eq js_never fun e E => by simp only [wpS]
  | .try_ a b c d => ss_simple L (f := sYes) (by simp only [chkS]) fun _ _ _ _ _ _ _ => tS_eq js_never fun e E => by simp only [wpS]
theorem ssns : ∀ ss : List S, SSs g wd K P A ss
  | [] => ss_nil L
  | s :: ss => ss_cons L (ssn s) (ssns ss)
end
end
end Gr

end
section
set_option Elab.async false
set_option linter.all false
set_option maxRecDepth 100000
set_option maxHeartbeats 4000000
namespace Gr
open PySem PySem.Spec L2
open PyProof.Rows hiding St
abbrev Ky.at (K : Ky) (N : List String) : Ky := { K with N := N }
/-- a def of the program, as it stands behind the top -/
structure DefAt (g : Gm) (K : Ky) (G : Prog) (f : String) (fn : Fn) (a : Addr) (fd : FuncData) (ps : List Str) (dvs : List V) : Prop where
  at_ : G.fns f = some fn
  lnk : FLnk g fn a fd ps dvs
  io : fn.io.length = ps.length
  ex : ∃ (xn qual : Str) (params : Arguments) (body : List Stmt) (scope : Scope), FunD g.K xn qual params body scope dvs [] a fd ∧ FnScope (fn.N.map Str.ofString) ps scope ∧ chkSs (K.at fn.N) fn.body scope (prOf fn.io) body = true
structure Link (g : Gm) (mg : Str → Option Value) (K : Ky) (G : Prog) : Prop where
  cls : ∀ c C, g.ca c = some C → Cls g.K C ∧ ∀ f ∈ K.fds, NoAttr g.K C (Str.ofString f)
  noX : ∀ a c v, ¬ g.xa a c v
  bl : ∀ x ∈ K.bl, mg (Str.ofString x) = none
  fns : ∀ f fn, K.fn f = some fn → ∃ a fd ps dvs, DefAt g K G f fn a fd ps dvs ∧ mg (Str.ofString f) = some (.ref a)
  meths : ∀ m c C fn, g.ca c = some C → G.fns (c ++ "." ++ m) = some fn → ∃ a fd ps dvs, DefAt g K G (c ++ "." ++ m) fn a fd ps dvs ∧ Meth g.K C (Str.ofString m) a
  glb : ∀ x d, x ∈ K.gl → G.glb x = some d → ∃ v u, mg (Str.ofString x) = some u ∧ RelV v u ∧ ∀ H, RepD g H v d
  gtp : ∀ x d, x ∈ K.gt → G.glb x = some d → ∃ a vs ds, d = .tup ds ∧ mg (Str.ofString x) = some (.ref a) ∧ ∀ H, SqT g.K H a vs ∧ RepDs g H vs ds
  news : ∀ c, c ∈ K.cl → ∃ C fn fa fd ps dvs, g.ca c = some C ∧ DefAt g K G (c ++ ".__init__") fn fa fd ps dvs ∧ Mk g.K C fa ∧ mg (Str.ofString c) = some (.ref C)
theorem all_ok {g : Gm} {wd : Wd} {K : Ky} {G : Prog} (L : Link g wd.mg K G) : ∀ (n : Nat) {f : String} {fn : Fn} {a : Addr} {fd : FuncData} {ps : List Str} {dvs : List V}, DefAt g K G f fn a fd ps dvs →
    FnOk wd.prog wd.w g.K wd.mg wd.base (L2.CX wd.prog wd.w) (2 * n) a fd ps (spF g (G.callF n) f fn.io)
  | 0, f, fn, a, fd, ps, dvs, d => ⟨fun vs H Q E h => h.1.trans d.io, fun A outer s H args us vs Q E _ _ _ _ h => by
      obtain ⟨_, as, fp, K', X, _, _, hc, _⟩ := h
      exact hc.elim⟩
  | n + 1, f, fn, a, fd, ps, dvs, d => by
    obtain ⟨xn, qual, params, body, scope, FD, S, hc⟩ := d.ex
    refine fn_ok (k := 2 * n + 1) d.at_ d.io FD S fun X W hb => ?_
    have room := hb.ct.room
    have r0 : Room (2 * n) X.A := room.mono (Nat.le_succ _)
    have LX : LnkX g wd (K.at fn.N) (G.cx (G.callF n)) X.A :=
      { lk := ⟨L.cls, L.noX, L.bl⟩
        hu := by have := room.un; omega
        fns := fun f' fn' hf => by
          obtain ⟨a', fd', ps', dvs', d', hm⟩ := L.fns f' fn' hf
          exact ⟨d'.at_, a', fd', ps', dvs', 2 * n, d'.lnk, all_ok L n d', r0, hm⟩
        meths := fun m c C fn' hC hf => by
          obtain ⟨a', fd', ps', dvs', d', hm⟩ := L.meths m c C fn' hC hf
          exact ⟨a', fd', ps', dvs', 2 * n, d'.lnk, hm, all_ok L n d', r0⟩
        glb := L.glb
        gtp := L.gtp
        news := fun c hcl => by
          obtain ⟨C, fn', fa', fd', ps', dvs', hC, d', hm, hmg⟩ := L.news c hcl
          exact ⟨C, fn', fa', fd', ps', dvs', 2 * n, hC, d'.at_, hm, d'.lnk, all_ok L n d', room, hmg⟩ }
    exact ssns LX fn.body scope (prOf fn.io) X W body ⟨⟨_, hb⟩, rfl⟩ hc
/-- what law(script) promises -/
def spLaw (K : PySem.W.Frag) : Sp := fun vs H Q _ => ∃ (a : Addr) (ns : List Int), vs = [.ref a] ∧ ns.length ≤ 63 ∧ FzL K H a (ns.map V.int) ∧ ∀ H', Q (.bl true) H'
/-- the law's plain fact -/
def LawTrue (G : Prog) (n : Nat) : Prop := ∀ ns : List Int, ns.length ≤ 63 → G.callF n "law" [.val (.lst (ns.map .int))] (fun r _ => r = .val (.bl true)) (fun _ _ => False)
theorem reps_of_ints {g : Gm} {H : Hp} : ∀ ns : List Int, RepDs g H (ns.map V.int) (ns.map D.int)
  | [] => .nil
  | _ :: ns => .cons (.int _) (reps_of_ints ns)
theorem law_ok {g : Gm} {wd : Wd} {K : Ky} {G : Prog} {n : Nat} {fn : Fn} {a : Addr} {fd : FuncData} {ps : List Str} {dvs : List V} (L : Link g wd.mg K G) (d : DefAt g K G "law" fn a fd ps dvs) (hio : fn.io = [false]) (h : LawTrue G n) :
    FnOk wd.prog wd.w g.K wd.mg wd.base (L2.CX wd.prog wd.w) (2 * n) a fd ps (spLaw g.K) := by
  refine (all_ok L n d).imp fun vs H Q E q => ?_
  obtain ⟨b, ns, rfl, hl, hz, hQ⟩ := q
  refine ⟨by rw [hio]; rfl, _, [], _, _, RepSs.cons (as := []) (.val (.lst hz (reps_of_ints ns))) .nil, .nil, h ns hl, fun v H1 r outs fpO _ _ _ rr hr => ?_, fun _ _ _ _ _ _ _ z => z.elim⟩
  subst hr
  cases rr with
  | val rd => rw [rd.bl_inv]; exact hQ H1
theorem fz_only {K : PySem.W.Frag} {H : Hp} {a : Addr} {xs : List V} (ho : Only H) (h : SqL K H a xs) : FzL K H a xs := by
  rcases h with (h | ⟨o, h⟩) | h
  · rcases ho a with q | ⟨o, ys, q⟩ <;> rw [q] at h <;> cases h
  · exact .inl ⟨o, h⟩
  · exact .inr h
theorem walk {l : PySem.W.OpenLaw} {q : Program} {loose : List Str} {XP : (Str → Option Value) → Heap → Prop} {YP : World → Heap → Prop} {d : DefRec} {K : Params → PySem.W.Frag} {k : Nat} (hn : l.most = some 63) (hdf : d.params.defaults = []) (hr : Room k callerA)
    (hY : ∀ (w : World) (h : Heap), YP w h → (K w.params).In h)
    (F : ∀ (w : World) (mg : Str → Option Value) (fa : Addr) (h : Heap), (K w.params).In h → h.Ns mainGlobals mg → mg d.name = some (.ref fa) →
      ∃ fd : FuncData, (∀ (s : Shared) (u : Value), BindsTo s fd ⟨[u], []⟩ [("script", u)]) ∧ ∀ base : Heap, (K w.params).In base → base.Ns mainGlobals mg → FnOk l.prog w (K w.params) mg base (L2.CX l.prog w) k fa fd ["script"] (spLaw (K w.params))) :
    PySem.W.WalkO q loose XP YP l.row.toRowW d [] (fun f vs => PySem.call f vs) :=
  L2.walk_of (n := 63) (k := k) (x := "script") (CX := fun w => L2.CX l.prog w) (sp := fun w => spLaw (K w.params)) hn (by decide) hdf hr hY F (fun _ _ a ns hl ho hS => ⟨a, ns, rfl, hl, fz_only ho hS, fun _ => rfl⟩) fun _ _ _ _ _ z => by
    obtain ⟨_, _, _, _, _, _, _, _, _, _, _, _, z⟩ := z
    exact z
end Gr

end
section
set_option Elab.async false
set_option linter.all false
set_option maxRecDepth 100000
set_option maxHeartbeats 4000000
namespace Gr
open PySem PySem.Spec L2
open PyProof.Rows hiding St
/-- what the top has written of a def -/
def FF (K : PySem.W.Frag) (x : Str) (st : Stmt) (f : Addr) : Prop := ∃ (oc kV dc pm cd ct : Value) (od an : Option Addr) (sl : Array (Option Value)),
  PySem.W.nsIn K mainGlobals x = some (some (.ref f)) ∧ K.lookup f = some ⟨oc, od, .func (PySem.W.fnOf x x (defArgs st) (defBody st) (defScope st) .none kV dc pm an cd ct), sl⟩ ∧ PySem.W.codeIn K cd x = true ∧ PySem.W.keepIn K (.ref f) = true
/-- .. with one default, an int -/
def FFD (K : PySem.W.Frag) (x : Str) (st : Stmt) (i : Int) (f : Addr) : Prop := ∃ (T : Addr) (oT : Value) (dT : Option Addr) (tk : Tok) (n : Nat) (sT : Array (Option Value)) (oc kV dc pm cd ct : Value) (od an : Option Addr) (sl : Array (Option Value)),
  PySem.W.nsIn K mainGlobals x = some (some (.ref f)) ∧ K.lookup f = some ⟨oc, od, .func (PySem.W.fnOf x x (defArgs st) (defBody st) (defScope st) (.ref T) kV dc pm an cd ct), sl⟩ ∧ PySem.W.codeIn K cd x = true ∧ PySem.W.keepIn K (.ref f) = true ∧
  K.lookup T = some ⟨oT, dT, .seq #[.int i tk] n, sT⟩
/-- a method -/
def FM (K : PySem.W.Frag) (C : Addr) (m qual : Str) (st : Stmt) (f : Addr) : Prop := ∃ (oc kV dc pm cd ct : Value) (od an : Option Addr) (sl : Array (Option Value)),
  PySem.W.findIn K (.ref C) m = some (some (.ref f)) ∧ PySem.W.isFn K (.ref f) = true ∧ K.lookup f = some ⟨oc, od, .func (PySem.W.fnOf m qual (defArgs st) (defBody st) (defScope st) .none kV dc pm an cd ct), sl⟩ ∧ PySem.W.codeIn K cd qual = true ∧ PySem.W.keepIn K (.ref f) = true
/-- a class -/
structure FC (K : PySem.W.Frag) (x : Str) (C : Addr) : Prop where
  at_ : PySem.W.nsIn K mainGlobals x = some (some (.ref C))
  pg : PySem.W.plainGet K C Str.empty = true
  hd : PySem.W.hasDictIn K C = true
  po : PySem.W.plainOver K C = true
  sa : PySem.W.findIn K (.ref C) "__setattr__" = some (some (.builtin "object.__setattr__"))
  mks : PySem.W.makesIn K C = true
  kc : PySem.W.keepIn K (.ref C) = true
theorem drop_len {α : Type} (l : List α) : l.drop (l.length - 0) = [] := by simp
section
variable {g : Gm} {K : Ky} {G : Prog} {f : Addr} {x qual m : Str} {st : Stmt} {name : String} {fn : Fn} {ps : List Str} {C : Addr}
theorem mk0 {fd : FuncData} (F : FunD g.K x qual (defArgs st) (defBody st) (defScope st) [] [] f fd) (hfn : G.fns name = some fn) (hd : fn.dflt = []) (hnp : ps.length = fn.np) (hio : fn.io.length = fn.np) (hs : C8.scC (fn.N.map Str.ofString) ps (defScope st) = true)
    (hb : Binds g.K fd ps []) (hc : chkSs (K.at fn.N) fn.body (defScope st) (prOf fn.io) (defBody st) = true) : DefAt g K G name fn f fd ps [] :=
  ⟨hfn, ⟨F.kp, hnp, hio, fun H => by rw [hd]; exact .nil, fun n _ _ => ⟨[], by simp; exact .nil, hb⟩⟩, hio.trans hnp.symm, x, qual, _, _, _, F, C8.fnScope_by hs, hc⟩
theorem def0 (h : FF g.K x st f) (hfn : G.fns name = some fn) (hd : fn.dflt = []) (hnp : ps.length = fn.np) (hio : fn.io.length = fn.np) (hs : C8.scC (fn.N.map Str.ofString) ps (defScope st) = true)
    (hb : ∀ (kV doc pm : Value) (an : Option Addr) (cdv ct : Value) (us : List Value), us.length = ps.length → bindArgs (PySem.W.fnOf x x (defArgs st) (defBody st) (defScope st) .none kV doc pm an cdv ct) ⟨us, []⟩ = pure (ps.zip us))
    (hc : chkSs (K.at fn.N) fn.body (defScope st) (prOf fn.io) (defBody st) = true) : ∃ fd, DefAt g K G name fn f fd ps [] := by
  obtain ⟨oc, kV, dc, pm, cd, ct, od, an, sl, h1, h2, h3, h4⟩ := h
  have F : FunD g.K x x (defArgs st) (defBody st) (defScope st) [] [] f _ := ⟨⟨oc, od, .none, kV, dc, pm, an, cd, ct, sl, rfl, h2, h3, .inl ⟨rfl, rfl⟩, .inl rfl⟩, h4⟩
  exact ⟨_, mk0 F hfn hd hnp hio hs (F.bindsN hb) hc⟩
theorem defM (h : FM g.K C m qual st f) (hfn : G.fns name = some fn) (hd : fn.dflt = []) (hnp : ps.length = fn.np) (hio : fn.io.length = fn.np) (hs : C8.scC (fn.N.map Str.ofString) ps (defScope st) = true)
    (hb : ∀ (kV doc pm : Value) (an : Option Addr) (cdv ct : Value) (us : List Value), us.length = ps.length → bindArgs (PySem.W.fnOf m qual (defArgs st) (defBody st) (defScope st) .none kV doc pm an cdv ct) ⟨us, []⟩ = pure (ps.zip us))
    (hc : chkSs (K.at fn.N) fn.body (defScope st) (prOf fn.io) (defBody st) = true) : (∃ fd, DefAt g K G name fn f fd ps []) ∧ Meth g.K C m f := by
  obtain ⟨oc, kV, dc, pm, cd, ct, od, an, sl, h0, h1, h2, h3, h4⟩ := h
  have F : FunD g.K m qual (defArgs st) (defBody st) (defScope st) [] [] f _ := ⟨⟨oc, od, .none, kV, dc, pm, an, cd, ct, sl, rfl, h2, h3, .inl ⟨rfl, rfl⟩, .inl rfl⟩, h4⟩
  exact ⟨⟨_, mk0 F hfn hd hnp hio hs (F.bindsN hb) hc⟩, ⟨h0, h1, h4⟩⟩
theorem def1 {i : Int} {n0 : Nat} (h : FFD g.K x st i f) (hfn : G.fns name = some fn) (hd : fn.dflt = [.int i]) (hnp : ps.length = fn.np) (hn0 : fn.np = n0 + 1) (hio : fn.io.length = fn.np) (hs : C8.scC (fn.N.map Str.ofString) ps (defScope st) = true)
    (hb1 : ∀ (T : Addr) (kV doc pm : Value) (an : Option Addr) (cdv ct : Value) (us its : List Value), us.length = n0 → its.length = 1 →
      ∃ k, bindArgs (PySem.W.fnOf x x (defArgs st) (defBody st) (defScope st) (.ref T) kV doc pm an cdv ct) ⟨us, []⟩ = seqItems? (.ref T) >>= k ∧ k (some its.toArray) = pure (ps.zip (us ++ its.drop 0)))
    (hb0 : ∀ (T : Addr) (kV doc pm : Value) (an : Option Addr) (cdv ct : Value) (us its : List Value), us.length = n0 + 1 → its.length = 1 →
      ∃ k, bindArgs (PySem.W.fnOf x x (defArgs st) (defBody st) (defScope st) (.ref T) kV doc pm an cdv ct) ⟨us, []⟩ = seqItems? (.ref T) >>= k ∧ k (some its.toArray) = pure (ps.zip (us ++ its.drop 1)))
    (hc : chkSs (K.at fn.N) fn.body (defScope st) (prOf fn.io) (defBody st) = true) : ∃ fd, DefAt g K G name fn f fd ps [.int i] := by
  obtain ⟨T, oT, dT, tk, n, sT, oc, kV, dc, pm, cd, ct, od, an, sl, h1, h2, h3, h4, h5⟩ := h
  have F : FunD g.K x x (defArgs st) (defBody st) (defScope st) [.int i] [] f _ := ⟨⟨oc, od, .ref T, kV, dc, pm, an, cd, ct, sl, rfl, h2, h3, .inr ⟨by simp, T, _, [.int i tk], n, rfl, h5, rfl, .cons ⟨tk, rfl⟩ .nil⟩, .inl rfl⟩, h4⟩
  refine ⟨_, hfn, ⟨h4, hnp, hio, fun H => by rw [hd]; exact .cons (.int i) .nil, fun n hn hm => ?_⟩, hio.trans hnp.symm, x, x, _, _, _, F, C8.fnScope_by hs, hc⟩
  have hm : fn.np - n ≤ 1 := hm
  by_cases c : n = fn.np
  · subst c
    rw [Nat.sub_self]
    obtain ⟨ds, e1, e2⟩ := F.binds1 (ps := ps) fn.np 1 (by simp) (by simp; omega) (by rw [hn0]; exact hb0)
    exact ⟨ds, e1, e2⟩
  · have e : n = n0 := by omega
    subst e
    rw [show fn.np - n = 1 by omega]
    obtain ⟨ds, e1, e2⟩ := F.binds1 (ps := ps) n 0 (by simp) (by simp; omega) hb1
    exact ⟨ds, e1, e2⟩
end
end Gr

end
section
set_option Elab.async false
set_option linter.all false
set_option maxRecDepth 100000
set_option maxHeartbeats 4000000
namespace Gr
open PySem PySem.Spec L2
open PyProof.Rows hiding St
theorem FF.at_ {K : PySem.W.Frag} {x : Str} {st : Stmt} {f : Addr} (h : FF K x st f) : PySem.W.nsIn K mainGlobals x = some (some (.ref f)) := by
  obtain ⟨_, _, _, _, _, _, _, _, _, h, _⟩ := h
  exact h
theorem FFD.at_ {K : PySem.W.Frag} {x : Str} {st : Stmt} {i : Int} {f : Addr} (h : FFD K x st i f) : PySem.W.nsIn K mainGlobals x = some (some (.ref f)) := by
  obtain ⟨_, _, _, _, _, _, _, _, _, _, _, _, _, _, _, h, _⟩ := h
  exact h
theorem FF.in {K : PySem.W.Frag} {x : Str} {st : Stmt} {f : Addr} {oc kV dc pm cd ct : Value} {od an : Option Addr} {sl : Array (Option Value)}
    (h1 : PySem.W.nsIn K mainGlobals x = some (some (.ref f))) (h2 : K.lookup f = some ⟨oc, od, .func (PySem.W.fnOf x x (defArgs st) (defBody st) (defScope st) .none kV dc pm an cd ct), sl⟩) (h3 : PySem.W.codeIn K cd x = true) (h4 : PySem.W.keepIn K (.ref f) = true) : FF K x st f :=
  ⟨_, _, _, _, _, _, _, _, _, h1, h2, h3, h4⟩
theorem FFD.in {K : PySem.W.Frag} {x : Str} {st : Stmt} {i : Int} {f T : Addr} {oT : Value} {dT : Option Addr} {tk : Tok} {n : Nat} {sT : Array (Option Value)} {oc kV dc pm cd ct : Value} {od an : Option Addr} {sl : Array (Option Value)}
    (h1 : PySem.W.nsIn K mainGlobals x = some (some (.ref f))) (h2 : K.lookup f = some ⟨oc, od, .func (PySem.W.fnOf x x (defArgs st) (defBody st) (defScope st) (.ref T) kV dc pm an cd ct), sl⟩) (h3 : PySem.W.codeIn K cd x = true) (h4 : PySem.W.keepIn K (.ref f) = true)
    (h5 : K.lookup T = some ⟨oT, dT, .seq #[.int i tk] n, sT⟩) : FFD K x st i f :=
  ⟨_, _, _, _, _, _, _, _, _, _, _, _, _, _, _, h1, h2, h3, h4, h5⟩
theorem FM.in {K : PySem.W.Frag} {C : Addr} {m qual : Str} {st : Stmt} {f : Addr} {oc kV dc pm cd ct : Value} {od an : Option Addr} {sl : Array (Option Value)}
    (h0 : PySem.W.findIn K (.ref C) m = some (some (.ref f))) (h1 : PySem.W.isFn K (.ref f) = true) (h2 : K.lookup f = some ⟨oc, od, .func (PySem.W.fnOf m qual (defArgs st) (defBody st) (defScope st) .none kV dc pm an cd ct), sl⟩) (h3 : PySem.W.codeIn K cd qual = true) (h4 : PySem.W.keepIn K (.ref f) = true) : FM K C m qual st f :=
  ⟨_, _, _, _, _, _, _, _, _, h0, h1, h2, h3, h4⟩
theorem nat_in {K : PySem.W.Frag} {C : Addr} {f : Str} (h : PySem.W.findIn K (.ref C) f = some none) : NoAttr K C f := h
def FInt (K : PySem.W.Frag) (x : Str) (i : Int) : Prop := ∃ t, PySem.W.nsIn K mainGlobals x = some (some (.int i t))
theorem FInt.in {K : PySem.W.Frag} {x : Str} {i : Int} {t : Tok} (h : PySem.W.nsIn K mainGlobals x = some (some (.int i t))) : FInt K x i := ⟨_, h⟩
def FStr (K : PySem.W.Frag) (x : Str) (s : List Nat) : Prop := ∃ y t, PySem.W.nsIn K mainGlobals x = some (some (.str y t)) ∧ y = sOf s
theorem FStr.in {K : PySem.W.Frag} {x y : Str} {s : List Nat} {t : Tok} (h : PySem.W.nsIn K mainGlobals x = some (some (.str y t))) (e : y = sOf s) : FStr K x s := ⟨_, _, h, e⟩
def strsV : List Value → Option (List (List Nat))
  | [] => some []
  | .str y _ :: r => (strsV r).map (y.cps.toList :: ·)
  | _ :: _ => none
def FTup (K : PySem.W.Frag) (x : Str) (ss : List (List Nat)) : Prop := ∃ a dT its n sl, PySem.W.nsIn K mainGlobals x = some (some (.ref a)) ∧ K.lookup a = some ⟨.type "tuple", dT, .seq its n, sl⟩ ∧ its.size ≤ sizeLine ∧ strsV its.toList = some ss
theorem FTup.in {K : PySem.W.Frag} {x : Str} {ss : List (List Nat)} {a : Addr} {dT : Option Addr} {its : Array Value} {n : Nat} {sl : Array (Option Value)} (h1 : PySem.W.nsIn K mainGlobals x = some (some (.ref a))) (h2 : K.lookup a = some ⟨.type "tuple", dT, .seq its n, sl⟩) (h3 : its.size ≤ sizeLine) (h4 : strsV its.toList = some ss) : FTup K x ss :=
  ⟨_, _, _, _, _, h1, h2, h3, h4⟩
section
variable {g : Gm} {mg : Str → Option Value} {h : Heap} {x : Str}
theorem FInt.out {i : Int} (f : FInt g.K x i) (X : g.K.In h) (Gn : h.Ns mainGlobals mg) : ∃ v u, mg x = some u ∧ RelV v u ∧ ∀ H, RepD g H v (.int i) := by
  obtain ⟨t, f⟩ := f
  exact ⟨.int i, _, PySem.W.mg_of X Gn f, ⟨t, rfl⟩, fun H => .int i⟩
theorem FStr.out {s : List Nat} (f : FStr g.K x s) (X : g.K.In h) (Gn : h.Ns mainGlobals mg) (ok : okS s) : ∃ v u, mg x = some u ∧ RelV v u ∧ ∀ H, RepD g H v (.str s) := by
  obtain ⟨y, t, f, rfl⟩ := f
  exact ⟨.str (sOf s), _, PySem.W.mg_of X Gn f, ⟨t, rfl⟩, fun H => .str s ok⟩
theorem strsV_vals : ∀ {its : List Value} {ss : List (List Nat)}, strsV its = some ss → Vals (ss.map fun s => V.str (sOf s)) its
  | [], ss, h => by cases h; exact .nil
  | .str y t :: r, ss, h => by
    unfold strsV at h
    cases e : strsV r with
    | none => rw [e] at h; cases h
    | some q => rw [e] at h; cases h; exact .cons ⟨t, by cases y; rfl⟩ (strsV_vals e)
  | .none :: r, ss, h => by cases h
  | .bool _ :: r, ss, h => by cases h
  | .int _ _ :: r, ss, h => by cases h
  | .ref _ :: r, ss, h => by cases h
  | .type _ :: r, ss, h => by cases h
  | .bytes _ _ :: r, ss, h => by cases h
  | .float _ _ :: r, ss, h => by cases h
  | .builtin _ :: r, ss, h => by cases h
theorem reps_strsV {H : Hp} : ∀ {ss : List (List Nat)}, (∀ s ∈ ss, okS s) → RepDs g H (ss.map fun s => V.str (sOf s)) (ss.map D.str)
  | [], _ => .nil
  | s :: r, h => .cons (.str s (h s (List.mem_cons_self ..))) (reps_strsV fun t q => h t (List.mem_cons_of_mem _ q))
theorem FTup.out {ss : List (List Nat)} (f : FTup g.K x ss) (X : g.K.In h) (Gn : h.Ns mainGlobals mg) (ok : ∀ s ∈ ss, okS s) : ∃ a vs ds, D.tup (ss.map D.str) = .tup ds ∧ mg x = some (.ref a) ∧ ∀ H, SqT g.K H a vs ∧ RepDs g H vs ds := by
  obtain ⟨a, dT, its, n, sl, f1, f2, f3, f4⟩ := f
  exact ⟨a, _, _, rfl, PySem.W.mg_of X Gn f1, fun H => ⟨.inr ⟨_, its, n, f2, rfl, rfl, f3, strsV_vals f4⟩, reps_strsV ok⟩⟩
end
theorem no_pre {c m t : String} (e : c ++ m = t) (h : c.toList.isPrefixOf t.toList = false) : False := by
  subst e
  rw [String.toList_append] at h
  have : c.toList.isPrefixOf (c.toList ++ m.toList) = true := List.isPrefixOf_iff_prefix.2 ⟨_, rfl⟩
  rw [this] at h
  cases h
theorem pre_eq {c m m2 t : String} (e : c ++ m = t) (h : t = c ++ m2) : m = m2 := by
  subst h
  have e2 := congrArg String.toList e
  rw [String.toList_append, String.toList_append] at e2
  exact String.toList_inj.mp (List.append_cancel_left e2)
theorem mem_lookup {α : Type} : ∀ {l : List (String × α)} {f : String} {fn : α}, l.lookup f = some fn → (f, fn) ∈ l
  | [], _, _, h => by cases h
  | (x, y) :: l, f, fn, h => by
    rw [List.lookup_cons] at h
    by_cases c : (f == x) = true
    · rw [c] at h
      cases h
      rw [eq_of_beq c]
      exact List.mem_cons_self ..
    · rw [Bool.not_eq_true] at c
      rw [c] at h
      exact List.mem_cons_of_mem _ (mem_lookup h)
end Gr

end
section
/-! The meaning's equations, as rules that are used from the outside in. -/
namespace Gr
@[simp ↓] theorem lookK_e2 : type_of% @lookK.eq_2 := @lookK.eq_2
@[simp ↓] theorem lookK_e3 : type_of% @lookK.eq_3 := @lookK.eq_3
@[simp ↓] theorem setK_e2 : type_of% @setK.eq_2 := @setK.eq_2
@[simp ↓] theorem setK_e3 : type_of% @setK.eq_3 := @setK.eq_3
@[simp ↓] theorem fgetK_e2 : type_of% @fgetK.eq_2 := @fgetK.eq_2
@[simp ↓] theorem fputK_e1 : type_of% @fputK.eq_1 := @fputK.eq_1
@[simp ↓] theorem fputK_e2 : type_of% @fputK.eq_2 := @fputK.eq_2
@[simp ↓] theorem objK_e1 : type_of% @objK.eq_1 := @objK.eq_1
@[simp ↓] theorem frzK_e1 : type_of% @frzK.eq_1 := @frzK.eq_1
@[simp ↓] theorem frzK_e2 : type_of% @frzK.eq_2 := @frzK.eq_2
@[simp ↓] theorem ownK_e1 : type_of% @ownK.eq_1 := @ownK.eq_1
@[simp ↓] theorem valK_e1 : type_of% @valK.eq_1 := @valK.eq_1
@[simp ↓] theorem onlyIf_e1 : type_of% @onlyIf.eq_1 := @onlyIf.eq_1
@[simp ↓] theorem rdK_e1 : type_of% @rdK.eq_1 := @rdK.eq_1
@[simp ↓] theorem rdK_e2 : type_of% @rdK.eq_2 := @rdK.eq_2
@[simp ↓] theorem rdOK_e1 : type_of% @rdOK.eq_1 := @rdOK.eq_1
@[simp ↓] theorem rdOK_e2 : type_of% @rdOK.eq_2 := @rdOK.eq_2
@[simp ↓] theorem wrOK_e1 : type_of% @wrOK.eq_1 := @wrOK.eq_1
@[simp ↓] theorem wrOK_e2 : type_of% @wrOK.eq_2 := @wrOK.eq_2
@[simp ↓] theorem intD_e1 : type_of% @intD.eq_1 := @intD.eq_1
@[simp ↓] theorem varK_e1 : type_of% @varK.eq_1 := @varK.eq_1
@[simp ↓] theorem varK_e2 : type_of% @varK.eq_2 := @varK.eq_2
@[simp ↓] theorem attrK_e1 : type_of% @attrK.eq_1 := @attrK.eq_1
@[simp ↓] theorem attrK_e2 : type_of% @attrK.eq_2 := @attrK.eq_2
@[simp ↓] theorem optK_e1 : type_of% @optK.eq_1 := @optK.eq_1
@[simp ↓] theorem setsK_e1 : type_of% @setsK.eq_1 := @setsK.eq_1
@[simp ↓] theorem setsK_e2 : type_of% @setsK.eq_2 := @setsK.eq_2
@[simp ↓] theorem bind1K_e1 : type_of% @bind1K.eq_1 := @bind1K.eq_1
@[simp ↓] theorem bind1K_e2 : type_of% @bind1K.eq_2 := @bind1K.eq_2
@[simp ↓] theorem Tg_ix_e1 : type_of% @Tg.ix.eq_1 := @Tg.ix.eq_1
@[simp ↓] theorem Tg_ix_e2 : type_of% @Tg.ix.eq_2 := @Tg.ix.eq_2
@[simp ↓] theorem wipeK_e1 : type_of% @wipeK.eq_1 := @wipeK.eq_1
@[simp ↓] theorem wipeK_e2 : type_of% @wipeK.eq_2 := @wipeK.eq_2
@[simp ↓] theorem calmK_e1 : type_of% @calmK.eq_1 := @calmK.eq_1
@[simp ↓] theorem calmK_e2 : type_of% @calmK.eq_2 := @calmK.eq_2
@[simp ↓] theorem backK_e1 : type_of% @backK.eq_1 := @backK.eq_1
@[simp ↓] theorem backK_e2 : type_of% @backK.eq_2 := @backK.eq_2
@[simp ↓] theorem compK_e1 : type_of% @compK.eq_1 := @compK.eq_1
@[simp ↓] theorem compK_e2 : type_of% @compK.eq_2 := @compK.eq_2
@[simp ↓] theorem strK_e1 : type_of% @strK.eq_1 := @strK.eq_1
@[simp ↓] theorem lstK_e1 : type_of% @lstK.eq_1 := @lstK.eq_1
@[simp ↓] theorem dcompK_e1 : type_of% @dcompK.eq_1 := @dcompK.eq_1
@[simp ↓] theorem dcompK_e2 : type_of% @dcompK.eq_2 := @dcompK.eq_2
@[simp ↓] theorem giveK_e1 : type_of% @giveK.eq_1 := @giveK.eq_1
@[simp ↓] theorem giveK_e2 : type_of% @giveK.eq_2 := @giveK.eq_2
@[simp ↓] theorem handK_e1 : type_of% @handK.eq_1 := @handK.eq_1
@[simp ↓] theorem handK_e2 : type_of% @handK.eq_2 := @handK.eq_2
@[simp ↓] theorem handK_e3 : type_of% @handK.eq_3 := @handK.eq_3
@[simp ↓] theorem handBackK_e1 : type_of% @handBackK.eq_1 := @handBackK.eq_1
@[simp ↓] theorem handBackK_e2 : type_of% @handBackK.eq_2 := @handBackK.eq_2
@[simp ↓] theorem handBackK_e3 : type_of% @handBackK.eq_3 := @handBackK.eq_3
@[simp ↓] theorem doCallK_e1 : type_of% @doCallK.eq_1 := @doCallK.eq_1
@[simp ↓] theorem binK_e1 : type_of% @binK.eq_1 := @binK.eq_1
@[simp ↓] theorem binK_e2 : type_of% @binK.eq_2 := @binK.eq_2
@[simp ↓] theorem binK_e3 : type_of% @binK.eq_3 := @binK.eq_3
@[simp ↓] theorem binK_e4 : type_of% @binK.eq_4 := @binK.eq_4
@[simp ↓] theorem binK_e5 : type_of% @binK.eq_5 := @binK.eq_5
@[simp ↓] theorem binK_e6 : type_of% @binK.eq_6 := @binK.eq_6
@[simp ↓] theorem binK_e7 : type_of% @binK.eq_7 := @binK.eq_7
@[simp ↓] theorem binK_e10 : type_of% @binK.eq_10 := @binK.eq_10
@[simp ↓] theorem binK_e11 : type_of% @binK.eq_11 := @binK.eq_11
@[simp ↓] theorem inK_e1 : type_of% @inK.eq_1 := @inK.eq_1
@[simp ↓] theorem inK_e2 : type_of% @inK.eq_2 := @inK.eq_2
@[simp ↓] theorem inK_e3 : type_of% @inK.eq_3 := @inK.eq_3
@[simp ↓] theorem inK_e4 : type_of% @inK.eq_4 := @inK.eq_4
@[simp ↓] theorem inK_e5 : type_of% @inK.eq_5 := @inK.eq_5
@[simp ↓] theorem inK_e6 : type_of% @inK.eq_6 := @inK.eq_6
@[simp ↓] theorem isNon_e1 : type_of% @isNon.eq_1 := @isNon.eq_1
@[simp ↓] theorem isK_e1 : type_of% @isK.eq_1 := @isK.eq_1
@[simp ↓] theorem cmpK_e1 : type_of% @cmpK.eq_1 := @cmpK.eq_1
@[simp ↓] theorem cmpK_e2 : type_of% @cmpK.eq_2 := @cmpK.eq_2
@[simp ↓] theorem cmpK_e3 : type_of% @cmpK.eq_3 := @cmpK.eq_3
@[simp ↓] theorem cmpK_e4 : type_of% @cmpK.eq_4 := @cmpK.eq_4
@[simp ↓] theorem cmpK_e5 : type_of% @cmpK.eq_5 := @cmpK.eq_5
@[simp ↓] theorem cmpK_e6 : type_of% @cmpK.eq_6 := @cmpK.eq_6
@[simp ↓] theorem cmpK_e7 : type_of% @cmpK.eq_7 := @cmpK.eq_7
@[simp ↓] theorem cmpK_e8 : type_of% @cmpK.eq_8 := @cmpK.eq_8
@[simp ↓] theorem cmpK_e9 : type_of% @cmpK.eq_9 := @cmpK.eq_9
@[simp ↓] theorem cmpK_e10 : type_of% @cmpK.eq_10 := @cmpK.eq_10
@[simp ↓] theorem cmpK_e11 : type_of% @cmpK.eq_11 := @cmpK.eq_11
@[simp ↓] theorem idxK_e1 : type_of% @idxK.eq_1 := @idxK.eq_1
@[simp ↓] theorem idxK_e2 : type_of% @idxK.eq_2 := @idxK.eq_2
@[simp ↓] theorem idxK_e3 : type_of% @idxK.eq_3 := @idxK.eq_3
@[simp ↓] theorem idxK_e4 : type_of% @idxK.eq_4 := @idxK.eq_4
@[simp ↓] theorem idxK_e5 : type_of% @idxK.eq_5 := @idxK.eq_5
@[simp ↓] theorem idxK_e6 : type_of% @idxK.eq_6 := @idxK.eq_6
@[simp ↓] theorem intOK_e1 : type_of% @intOK.eq_1 := @intOK.eq_1
@[simp ↓] theorem intOK_e2 : type_of% @intOK.eq_2 := @intOK.eq_2
@[simp ↓] theorem sliceK_e1 : type_of% @sliceK.eq_1 := @sliceK.eq_1
@[simp ↓] theorem sliceK_e2 : type_of% @sliceK.eq_2 := @sliceK.eq_2
@[simp ↓] theorem sliceK_e3 : type_of% @sliceK.eq_3 := @sliceK.eq_3
@[simp ↓] theorem itemsK_e1 : type_of% @itemsK.eq_1 := @itemsK.eq_1
@[simp ↓] theorem itemsK_e2 : type_of% @itemsK.eq_2 := @itemsK.eq_2
@[simp ↓] theorem itemsK_e3 : type_of% @itemsK.eq_3 := @itemsK.eq_3
@[simp ↓] theorem truthK_e1 : type_of% @truthK.eq_1 := @truthK.eq_1
@[simp ↓] theorem truthK_e2 : type_of% @truthK.eq_2 := @truthK.eq_2
@[simp ↓] theorem truthK_e3 : type_of% @truthK.eq_3 := @truthK.eq_3
@[simp ↓] theorem truthK_e4 : type_of% @truthK.eq_4 := @truthK.eq_4
@[simp ↓] theorem truthK_e5 : type_of% @truthK.eq_5 := @truthK.eq_5
@[simp ↓] theorem truthK_e6 : type_of% @truthK.eq_6 := @truthK.eq_6
@[simp ↓] theorem isTyK_e1 : type_of% @isTyK.eq_1 := @isTyK.eq_1
@[simp ↓] theorem isTyK_e2 : type_of% @isTyK.eq_2 := @isTyK.eq_2
@[simp ↓] theorem isTyK_e3 : type_of% @isTyK.eq_3 := @isTyK.eq_3
@[simp ↓] theorem isTyK_e4 : type_of% @isTyK.eq_4 := @isTyK.eq_4
@[simp ↓] theorem isTyK_e5 : type_of% @isTyK.eq_5 := @isTyK.eq_5
@[simp ↓] theorem isTyK_e6 : type_of% @isTyK.eq_6 := @isTyK.eq_6
@[simp ↓] theorem isTyK_e7 : type_of% @isTyK.eq_7 := @isTyK.eq_7
@[simp ↓] theorem bi1K_e1 : type_of% @bi1K.eq_1 := @bi1K.eq_1
@[simp ↓] theorem bi1K_e2 : type_of% @bi1K.eq_2 := @bi1K.eq_2
@[simp ↓] theorem bi1K_e3 : type_of% @bi1K.eq_3 := @bi1K.eq_3
@[simp ↓] theorem bi1K_e4 : type_of% @bi1K.eq_4 := @bi1K.eq_4
@[simp ↓] theorem bi1K_e5 : type_of% @bi1K.eq_5 := @bi1K.eq_5
@[simp ↓] theorem bi1K_e6 : type_of% @bi1K.eq_6 := @bi1K.eq_6
@[simp ↓] theorem bi1K_e7 : type_of% @bi1K.eq_7 := @bi1K.eq_7
@[simp ↓] theorem bi1K_e8 : type_of% @bi1K.eq_8 := @bi1K.eq_8
@[simp ↓] theorem bi1K_e9 : type_of% @bi1K.eq_9 := @bi1K.eq_9
@[simp ↓] theorem bi1K_e10 : type_of% @bi1K.eq_10 := @bi1K.eq_10
@[simp ↓] theorem bi1K_e11 : type_of% @bi1K.eq_11 := @bi1K.eq_11
@[simp ↓] theorem bi1K_e12 : type_of% @bi1K.eq_12 := @bi1K.eq_12
@[simp ↓] theorem bi1K_e13 : type_of% @bi1K.eq_13 := @bi1K.eq_13
@[simp ↓] theorem bi1K_e14 : type_of% @bi1K.eq_14 := @bi1K.eq_14
@[simp ↓] theorem bi1K_e15 : type_of% @bi1K.eq_15 := @bi1K.eq_15
@[simp ↓] theorem bi2K_e1 : type_of% @bi2K.eq_1 := @bi2K.eq_1
@[simp ↓] theorem bi2K_e2 : type_of% @bi2K.eq_2 := @bi2K.eq_2
@[simp ↓] theorem m1K_e1 : type_of% @m1K.eq_1 := @m1K.eq_1
@[simp ↓] theorem negK_e1 : type_of% @negK.eq_1 := @negK.eq_1
@[simp ↓] theorem blK_e1 : type_of% @blK.eq_1 := @blK.eq_1
@[simp ↓] theorem rngK_e1 : type_of% @rngK.eq_1 := @rngK.eq_1
@[simp ↓] theorem rngK_e2 : type_of% @rngK.eq_2 := @rngK.eq_2
@[simp ↓] theorem appK_e1 : type_of% @appK.eq_1 := @appK.eq_1
@[simp ↓] theorem extK_e1 : type_of% @extK.eq_1 := @extK.eq_1
@[simp ↓] theorem extK_e2 : type_of% @extK.eq_2 := @extK.eq_2
@[simp ↓] theorem popK_e1 : type_of% @popK.eq_1 := @popK.eq_1
@[simp ↓] theorem defaults_e1 : type_of% @defaults.eq_1 := @defaults.eq_1
@[simp ↓] theorem noF_e1 : type_of% @noF.eq_1 := @noF.eq_1
@[simp ↓] theorem noF_e2 : type_of% @noF.eq_2 := @noF.eq_2
@[simp ↓] theorem ioM_e1 : type_of% @ioM.eq_1 := @ioM.eq_1
@[simp ↓] theorem out1K_e1 : type_of% @out1K.eq_1 := @out1K.eq_1
@[simp ↓] theorem wp_e1 : type_of% @wp.eq_1 := @wp.eq_1
@[simp ↓] theorem wp_e2 : type_of% @wp.eq_2 := @wp.eq_2
@[simp ↓] theorem wp_e3 : type_of% @wp.eq_3 := @wp.eq_3
@[simp ↓] theorem wp_e4 : type_of% @wp.eq_4 := @wp.eq_4
@[simp ↓] theorem wp_e5 : type_of% @wp.eq_5 := @wp.eq_5
@[simp ↓] theorem wp_e6 : type_of% @wp.eq_6 := @wp.eq_6
@[simp ↓] theorem wp_e7 : type_of% @wp.eq_7 := @wp.eq_7
@[simp ↓] theorem wp_e8 : type_of% @wp.eq_8 := @wp.eq_8
@[simp ↓] theorem wp_e9 : type_of% @wp.eq_9 := @wp.eq_9
@[simp ↓] theorem wp_e10 : type_of% @wp.eq_10 := @wp.eq_10
@[simp ↓] theorem wp_e11 : type_of% @wp.eq_11 := @wp.eq_11
@[simp ↓] theorem wp_e12 : type_of% @wp.eq_12 := @wp.eq_12
@[simp ↓] theorem wp_e13 : type_of% @wp.eq_13 := @wp.eq_13
@[simp ↓] theorem wp_e14 : type_of% @wp.eq_14 := @wp.eq_14
@[simp ↓] theorem wp_e15 : type_of% @wp.eq_15 := @wp.eq_15
@[simp ↓] theorem wp_e16 : type_of% @wp.eq_16 := @wp.eq_16
@[simp ↓] theorem wp_e17 : type_of% @wp.eq_17 := @wp.eq_17
@[simp ↓] theorem wp_e18 : type_of% @wp.eq_18 := @wp.eq_18
@[simp ↓] theorem wp_e19 : type_of% @wp.eq_19 := @wp.eq_19
@[simp ↓] theorem wp_e20 : type_of% @wp.eq_20 := @wp.eq_20
@[simp ↓] theorem wp_e21 : type_of% @wp.eq_21 := @wp.eq_21
@[simp ↓] theorem wp_e22 : type_of% @wp.eq_22 := @wp.eq_22
@[simp ↓] theorem wp_e23 : type_of% @wp.eq_23 := @wp.eq_23
@[simp ↓] theorem wp_e24 : type_of% @wp.eq_24 := @wp.eq_24
@[simp ↓] theorem wp_e25 : type_of% @wp.eq_25 := @wp.eq_25
@[simp ↓] theorem wp_e26 : type_of% @wp.eq_26 := @wp.eq_26
@[simp ↓] theorem wp_e27 : type_of% @wp.eq_27 := @wp.eq_27
@[simp ↓] theorem wp_e28 : type_of% @wp.eq_28 := @wp.eq_28
@[simp ↓] theorem wp_e29 : type_of% @wp.eq_29 := @wp.eq_29
@[simp ↓] theorem wp_e30 : type_of% @wp.eq_30 := @wp.eq_30
@[simp ↓] theorem wp_e31 : type_of% @wp.eq_31 := @wp.eq_31
@[simp ↓] theorem wp_e32 : type_of% @wp.eq_32 := @wp.eq_32
@[simp ↓] theorem wp_e33 : type_of% @wp.eq_33 := @wp.eq_33
@[simp ↓] theorem wp_e34 : type_of% @wp.eq_34 := @wp.eq_34
@[simp ↓] theorem wp_e35 : type_of% @wp.eq_35 := @wp.eq_35
@[simp ↓] theorem wpL_e1 : type_of% @wpL.eq_1 := @wpL.eq_1
@[simp ↓] theorem wpL_e2 : type_of% @wpL.eq_2 := @wpL.eq_2
@[simp ↓] theorem wpB_e1 : type_of% @wpB.eq_1 := @wpB.eq_1
@[simp ↓] theorem wpB_e2 : type_of% @wpB.eq_2 := @wpB.eq_2
@[simp ↓] theorem wpBs_e1 : type_of% @wpBs.eq_1 := @wpBs.eq_1
@[simp ↓] theorem wpBs_e2 : type_of% @wpBs.eq_2 := @wpBs.eq_2
@[simp ↓] theorem wpV_e1 : type_of% @wpV.eq_1 := @wpV.eq_1
@[simp ↓] theorem wpV_e2 : type_of% @wpV.eq_2 := @wpV.eq_2
@[simp ↓] theorem wpO_e1 : type_of% @wpO.eq_1 := @wpO.eq_1
@[simp ↓] theorem wpO_e2 : type_of% @wpO.eq_2 := @wpO.eq_2
@[simp ↓] theorem wpA_e1 : type_of% @wpA.eq_1 := @wpA.eq_1
@[simp ↓] theorem wpA_e2 : type_of% @wpA.eq_2 := @wpA.eq_2
@[simp ↓] theorem wpA_e3 : type_of% @wpA.eq_3 := @wpA.eq_3
@[simp ↓] theorem wpT_e1 : type_of% @wpT.eq_1 := @wpT.eq_1
@[simp ↓] theorem wpT_e2 : type_of% @wpT.eq_2 := @wpT.eq_2
@[simp ↓] theorem wpT_e3 : type_of% @wpT.eq_3 := @wpT.eq_3
@[simp ↓] theorem wpT_e4 : type_of% @wpT.eq_4 := @wpT.eq_4
@[simp ↓] theorem wpTs_e1 : type_of% @wpTs.eq_1 := @wpTs.eq_1
@[simp ↓] theorem wpTs_e2 : type_of% @wpTs.eq_2 := @wpTs.eq_2
@[simp ↓] theorem retK_e1 : type_of% @retK.eq_1 := @retK.eq_1
@[simp ↓] theorem retK_e2 : type_of% @retK.eq_2 := @retK.eq_2
@[simp ↓] theorem asgK_e1 : type_of% @asgK.eq_1 := @asgK.eq_1
@[simp ↓] theorem asgK_e2 : type_of% @asgK.eq_2 := @asgK.eq_2
@[simp ↓] theorem asgsK_e1 : type_of% @asgsK.eq_1 := @asgsK.eq_1
@[simp ↓] theorem asgsK_e2 : type_of% @asgsK.eq_2 := @asgsK.eq_2
@[simp ↓] theorem setDK_e1 : type_of% @setDK.eq_1 := @setDK.eq_1
@[simp ↓] theorem setDK_e2 : type_of% @setDK.eq_2 := @setDK.eq_2
@[simp ↓] theorem setDK_e3 : type_of% @setDK.eq_3 := @setDK.eq_3
@[simp ↓] theorem augK_e1 : type_of% @augK.eq_1 := @augK.eq_1
@[simp ↓] theorem augK_e2 : type_of% @augK.eq_2 := @augK.eq_2
@[simp ↓] theorem fldK_e1 : type_of% @fldK.eq_1 := @fldK.eq_1
@[simp ↓] theorem fldK_e2 : type_of% @fldK.eq_2 := @fldK.eq_2
@[simp ↓] theorem delK_e1 : type_of% @delK.eq_1 := @delK.eq_1
@[simp ↓] theorem newK_e1 : type_of% @newK.eq_1 := @newK.eq_1
@[simp ↓] theorem forK_e1 : type_of% @forK.eq_1 := @forK.eq_1
@[simp ↓] theorem forK_e2 : type_of% @forK.eq_2 := @forK.eq_2
@[simp ↓] theorem whileN_e2 : type_of% @whileN.eq_2 := @whileN.eq_2
@[simp ↓] theorem unname_e1 : type_of% @unname.eq_1 := @unname.eq_1
@[simp ↓] theorem unname_e2 : type_of% @unname.eq_2 := @unname.eq_2
@[simp ↓] theorem nameK_e1 : type_of% @nameK.eq_1 := @nameK.eq_1
@[simp ↓] theorem nameK_e2 : type_of% @nameK.eq_2 := @nameK.eq_2
@[simp ↓] theorem wpS_e1 : type_of% @wpS.eq_1 := @wpS.eq_1
@[simp ↓] theorem wpS_e2 : type_of% @wpS.eq_2 := @wpS.eq_2
@[simp ↓] theorem wpS_e3 : type_of% @wpS.eq_3 := @wpS.eq_3
@[simp ↓] theorem wpS_e4 : type_of% @wpS.eq_4 := @wpS.eq_4
@[simp ↓] theorem wpS_e5 : type_of% @wpS.eq_5 := @wpS.eq_5
@[simp ↓] theorem wpS_e6 : type_of% @wpS.eq_6 := @wpS.eq_6
@[simp ↓] theorem wpS_e7 : type_of% @wpS.eq_7 := @wpS.eq_7
@[simp ↓] theorem wpS_e8 : type_of% @wpS.eq_8 := @wpS.eq_8
@[simp ↓] theorem wpS_e9 : type_of% @wpS.eq_9 := @wpS.eq_9
@[simp ↓] theorem wpS_e10 : type_of% @wpS.eq_10 := @wpS.eq_10
@[simp ↓] theorem wpS_e11 : type_of% @wpS.eq_11 := @wpS.eq_11
@[simp ↓] theorem wpS_e12 : type_of% @wpS.eq_12 := @wpS.eq_12
@[simp ↓] theorem wpS_e13 : type_of% @wpS.eq_13 := @wpS.eq_13
@[simp ↓] theorem wpS_e14 : type_of% @wpS.eq_14 := @wpS.eq_14
@[simp ↓] theorem wpS_e15 : type_of% @wpS.eq_15 := @wpS.eq_15
@[simp ↓] theorem wpS_e16 : type_of% @wpS.eq_16 := @wpS.eq_16
@[simp ↓] theorem wpS_e17 : type_of% @wpS.eq_17 := @wpS.eq_17
@[simp ↓] theorem wpS_e18 : type_of% @wpS.eq_18 := @wpS.eq_18
@[simp ↓] theorem wpS_e19 : type_of% @wpS.eq_19 := @wpS.eq_19
@[simp ↓] theorem wpS_e20 : type_of% @wpS.eq_20 := @wpS.eq_20
@[simp ↓] theorem wpSs_e1 : type_of% @wpSs.eq_1 := @wpSs.eq_1
@[simp ↓] theorem wpSs_e2 : type_of% @wpSs.eq_2 := @wpSs.eq_2
@[simp ↓] theorem outsK_e1 : type_of% @outsK.eq_1 := @outsK.eq_1
@[simp ↓] theorem outsK_e2 : type_of% @outsK.eq_2 := @outsK.eq_2
@[simp ↓] theorem outsK_e3 : type_of% @outsK.eq_3 := @outsK.eq_3
@[simp ↓] theorem fits_e1 : type_of% @fits.eq_1 := @fits.eq_1
@[simp ↓] theorem fits_e2 : type_of% @fits.eq_2 := @fits.eq_2
@[simp ↓] theorem fits_e3 : type_of% @fits.eq_3 := @fits.eq_3
@[simp ↓] theorem fits_e4 : type_of% @fits.eq_4 := @fits.eq_4
@[simp ↓] theorem padK_e1 : type_of% @padK.eq_1 := @padK.eq_1
@[simp ↓] theorem padK_e2 : type_of% @padK.eq_2 := @padK.eq_2
@[simp ↓] theorem padK_e3 : type_of% @padK.eq_3 := @padK.eq_3
@[simp ↓] theorem Prog_cx_e1 : type_of% @Prog.cx.eq_1 := @Prog.cx.eq_1
end Gr

end
section
set_option linter.all false
namespace Gr
theorem callF_at {G : Prog} {n : Nat} {f : String} {fn : Fn} {a k x} (h : G.fns f = some fn) : G.callF (n + 1) f a k x = onlyIf (fits fn.io a) (padK fn.N a fun e => wpSs ⟨G.fns, G.glb, G.callF n⟩ fn.body e
    { nx := fun e => outsK fn.io e (k (.val .non)), rt := fun r e => outsK fn.io e (k r), bk := fun _ => False, ct := fun _ => False, ex := fun c v _ => x c v }) := by
  rw [Prog.callF, h, optK, runFn, Prog.cx]
@[simp] theorem blsOf_s1 : type_of% @blsOf.eq_1 := @blsOf.eq_1
@[simp] theorem blsOf_s2 : type_of% @blsOf.eq_2 := @blsOf.eq_2
@[simp] theorem blsOf_s3 : type_of% @blsOf.eq_3 := @blsOf.eq_3
@[simp] theorem intsOf_s1 : type_of% @intsOf.eq_1 := @intsOf.eq_1
@[simp] theorem intsOf_s2 : type_of% @intsOf.eq_2 := @intsOf.eq_2
@[simp] theorem intsOf_s3 : type_of% @intsOf.eq_3 := @intsOf.eq_3
@[simp] theorem strsOf_s1 : type_of% @strsOf.eq_1 := @strsOf.eq_1
@[simp] theorem strsOf_s2 : type_of% @strsOf.eq_2 := @strsOf.eq_2
@[simp] theorem strsOf_s3 : type_of% @strsOf.eq_3 := @strsOf.eq_3
@[simp] theorem eqOk_s1 : type_of% @eqOk.eq_1 := @eqOk.eq_1
@[simp] theorem eqOks_s1 : type_of% @eqOks.eq_1 := @eqOks.eq_1
@[simp] theorem plain_s1 : type_of% @plain.eq_1 := @plain.eq_1
@[simp] theorem plain_s2 : type_of% @plain.eq_2 := @plain.eq_2
@[simp] theorem plain_s3 : type_of% @plain.eq_3 := @plain.eq_3
@[simp] theorem plain_s4 : type_of% @plain.eq_4 := @plain.eq_4
@[simp] theorem plain_s5 : type_of% @plain.eq_5 := @plain.eq_5
@[simp] theorem plain_s6 : type_of% @plain.eq_6 := @plain.eq_6
@[simp] theorem plain_s7 : type_of% @plain.eq_7 := @plain.eq_7
@[simp] theorem plain_s8 : type_of% @plain.eq_8 := @plain.eq_8
@[simp] theorem plain_s9 : type_of% @plain.eq_9 := @plain.eq_9
@[simp] theorem plains_s1 : type_of% @plains.eq_1 := @plains.eq_1
@[simp] theorem plains_s2 : type_of% @plains.eq_2 := @plains.eq_2
@[simp] theorem depth_s1 : type_of% @depth.eq_1 := @depth.eq_1
@[simp] theorem depth_s2 : type_of% @depth.eq_2 := @depth.eq_2
@[simp] theorem depth_s3 : type_of% @depth.eq_3 := @depth.eq_3
@[simp] theorem depth_s4 : type_of% @depth.eq_4 := @depth.eq_4
@[simp] theorem depth_s5 : type_of% @depth.eq_5 := @depth.eq_5
@[simp] theorem depth_s6 : type_of% @depth.eq_6 := @depth.eq_6
@[simp] theorem depth_s7 : type_of% @depth.eq_7 := @depth.eq_7
@[simp] theorem depth_s8 : type_of% @depth.eq_8 := @depth.eq_8
@[simp] theorem depth_s9 : type_of% @depth.eq_9 := @depth.eq_9
@[simp] theorem depths_s1 : type_of% @depths.eq_1 := @depths.eq_1
@[simp] theorem depths_s2 : type_of% @depths.eq_2 := @depths.eq_2
@[simp] theorem flatTs_s1 : type_of% @flatTs.eq_1 := @flatTs.eq_1
@[simp] theorem flatTs_s2 : type_of% @flatTs.eq_2 := @flatTs.eq_2
@[simp] theorem flatTs_s3 : type_of% @flatTs.eq_3 := @flatTs.eq_3
@[simp] theorem flatTs_s4 : type_of% @flatTs.eq_4 := @flatTs.eq_4
@[simp] theorem ltL_s1 : type_of% @ltL.eq_1 := @ltL.eq_1
@[simp] theorem ltL_s2 : type_of% @ltL.eq_2 := @ltL.eq_2
@[simp] theorem ltL_s3 : type_of% @ltL.eq_3 := @ltL.eq_3
@[simp] theorem b2i_s1 : type_of% @b2i.eq_1 := @b2i.eq_1
@[simp] theorem joinS_s1 : type_of% @joinS.eq_1 := @joinS.eq_1
@[simp] theorem joinS_s2 : type_of% @joinS.eq_2 := @joinS.eq_2
@[simp] theorem joinS_s3 : type_of% @joinS.eq_3 := @joinS.eq_3
@[simp] theorem truthK_s7 : type_of% @truthK.eq_7 := @truthK.eq_7
@[simp] theorem eqD_str (x y) : eqD (.str x) (.str y) = (x == y) := by simp [eqD]
@[simp] theorem eqD_int (x y) : eqD (.int x) (.int y) = (x == y) := by simp [eqD]
@[simp] theorem eqD_bl (x y) : eqD (.bl x) (.bl y) = (x == y) := by simp [eqD]
@[simp] theorem eqD_tup (x y) : eqD (.tup x) (.tup y) = eqDs x y := by simp [eqD]
@[simp] theorem eqD_lst (x y) : eqD (.lst x) (.lst y) = eqDs x y := by simp [eqD]
@[simp] theorem eqD_non : eqD .non .non = true := by simp [eqD]
@[simp] theorem eqD_non_tup (x) : eqD .non (.tup x) = false := by simp [eqD]
@[simp] theorem eqD_tup_non (x) : eqD (.tup x) .non = false := by simp [eqD]
@[simp] theorem eqDs_nil : eqDs [] [] = true := by simp [eqDs]
@[simp] theorem eqDs_cons (x y xs ys) : eqDs (x :: xs) (y :: ys) = (eqD x y && eqDs xs ys) := by simp [eqDs]
@[simp] theorem eqDs_cn (x xs) : eqDs (x :: xs) [] = false := by simp [eqDs]
@[simp] theorem eqDs_nc (x xs) : eqDs [] (x :: xs) = false := by simp [eqDs]
theorem atX_nat {α : Type} (xs : List α) (i : Nat) : atX xs (i : Int) = xs[i]? := by
  unfold atX ixN
  by_cases c : i < xs.length
  · rw [if_pos (by omega), if_pos (by omega)]; rfl
  · rw [if_pos (by omega), if_neg (by omega)]
    exact (List.getElem?_eq_none (by omega)).symm
@[simp] theorem atX_0 {α : Type} (xs : List α) : atX xs 0 = xs[0]? := atX_nat xs 0
@[simp] theorem atX_1 {α : Type} (xs : List α) : atX xs 1 = xs[1]? := atX_nat xs 1
@[simp] theorem atX_2 {α : Type} (xs : List α) : atX xs 2 = xs[2]? := atX_nat xs 2
@[simp] theorem atX_3 {α : Type} (xs : List α) : atX xs 3 = xs[3]? := atX_nat xs 3
@[simp] theorem atX_4 {α : Type} (xs : List α) : atX xs 4 = xs[4]? := atX_nat xs 4
@[simp] theorem atX_5 {α : Type} (xs : List α) : atX xs 5 = xs[5]? := atX_nat xs 5
@[simp] theorem atX_6 {α : Type} (xs : List α) : atX xs 6 = xs[6]? := atX_nat xs 6
@[simp] theorem atX_7 {α : Type} (xs : List α) : atX xs 7 = xs[7]? := atX_nat xs 7
@[simp] theorem atX_8 {α : Type} (xs : List α) : atX xs 8 = xs[8]? := atX_nat xs 8
@[simp] theorem atX_9 {α : Type} (xs : List α) : atX xs 9 = xs[9]? := atX_nat xs 9
@[simp] theorem atX_10 {α : Type} (xs : List α) : atX xs 10 = xs[10]? := atX_nat xs 10
@[simp] theorem atX_11 {α : Type} (xs : List α) : atX xs 11 = xs[11]? := atX_nat xs 11
@[simp] theorem atX_12 {α : Type} (xs : List α) : atX xs 12 = xs[12]? := atX_nat xs 12
@[simp] theorem atX_13 {α : Type} (xs : List α) : atX xs 13 = xs[13]? := atX_nat xs 13
@[simp] theorem atX_14 {α : Type} (xs : List α) : atX xs 14 = xs[14]? := atX_nat xs 14
@[simp] theorem atX_15 {α : Type} (xs : List α) : atX xs 15 = xs[15]? := atX_nat xs 15
@[simp] theorem ixN_0 (n : Nat) : ixN n 0 = if 0 < n then some 0 else none := by
  unfold ixN; rw [if_pos (by omega)]; by_cases c : 0 < n
  · rw [if_pos (by omega), if_pos c]; rfl
  · rw [if_neg (by omega), if_neg c]
@[simp] theorem ixN_1 (n : Nat) : ixN n 1 = if 1 < n then some 1 else none := by
  unfold ixN; rw [if_pos (by omega)]; by_cases c : 1 < n
  · rw [if_pos (by omega), if_pos c]; rfl
  · rw [if_neg (by omega), if_neg c]
@[simp] theorem ixN_2 (n : Nat) : ixN n 2 = if 2 < n then some 2 else none := by
  unfold ixN; rw [if_pos (by omega)]; by_cases c : 2 < n
  · rw [if_pos (by omega), if_pos c]; rfl
  · rw [if_neg (by omega), if_neg c]
@[simp] theorem ixN_3 (n : Nat) : ixN n 3 = if 3 < n then some 3 else none := by
  unfold ixN; rw [if_pos (by omega)]; by_cases c : 3 < n
  · rw [if_pos (by omega), if_pos c]; rfl
  · rw [if_neg (by omega), if_neg c]
@[simp] theorem ixN_4 (n : Nat) : ixN n 4 = if 4 < n then some 4 else none := by
  unfold ixN; rw [if_pos (by omega)]; by_cases c : 4 < n
  · rw [if_pos (by omega), if_pos c]; rfl
  · rw [if_neg (by omega), if_neg c]
@[simp] theorem ixN_5 (n : Nat) : ixN n 5 = if 5 < n then some 5 else none := by
  unfold ixN; rw [if_pos (by omega)]; by_cases c : 5 < n
  · rw [if_pos (by omega), if_pos c]; rfl
  · rw [if_neg (by omega), if_neg c]
@[simp] theorem ixN_6 (n : Nat) : ixN n 6 = if 6 < n then some 6 else none := by
  unfold ixN; rw [if_pos (by omega)]; by_cases c : 6 < n
  · rw [if_pos (by omega), if_pos c]; rfl
  · rw [if_neg (by omega), if_neg c]
@[simp] theorem ixN_7 (n : Nat) : ixN n 7 = if 7 < n then some 7 else none := by
  unfold ixN; rw [if_pos (by omega)]; by_cases c : 7 < n
  · rw [if_pos (by omega), if_pos c]; rfl
  · rw [if_neg (by omega), if_neg c]
@[simp] theorem ixN_8 (n : Nat) : ixN n 8 = if 8 < n then some 8 else none := by
  unfold ixN; rw [if_pos (by omega)]; by_cases c : 8 < n
  · rw [if_pos (by omega), if_pos c]; rfl
  · rw [if_neg (by omega), if_neg c]
@[simp] theorem ixN_9 (n : Nat) : ixN n 9 = if 9 < n then some 9 else none := by
  unfold ixN; rw [if_pos (by omega)]; by_cases c : 9 < n
  · rw [if_pos (by omega), if_pos c]; rfl
  · rw [if_neg (by omega), if_neg c]
@[simp] theorem ixN_10 (n : Nat) : ixN n 10 = if 10 < n then some 10 else none := by
  unfold ixN; rw [if_pos (by omega)]; by_cases c : 10 < n
  · rw [if_pos (by omega), if_pos c]; rfl
  · rw [if_neg (by omega), if_neg c]
@[simp] theorem ixN_11 (n : Nat) : ixN n 11 = if 11 < n then some 11 else none := by
  unfold ixN; rw [if_pos (by omega)]; by_cases c : 11 < n
  · rw [if_pos (by omega), if_pos c]; rfl
  · rw [if_neg (by omega), if_neg c]
@[simp] theorem ixN_12 (n : Nat) : ixN n 12 = if 12 < n then some 12 else none := by
  unfold ixN; rw [if_pos (by omega)]; by_cases c : 12 < n
  · rw [if_pos (by omega), if_pos c]; rfl
  · rw [if_neg (by omega), if_neg c]
@[simp] theorem ixN_13 (n : Nat) : ixN n 13 = if 13 < n then some 13 else none := by
  unfold ixN; rw [if_pos (by omega)]; by_cases c : 13 < n
  · rw [if_pos (by omega), if_pos c]; rfl
  · rw [if_neg (by omega), if_neg c]
@[simp] theorem ixN_14 (n : Nat) : ixN n 14 = if 14 < n then some 14 else none := by
  unfold ixN; rw [if_pos (by omega)]; by_cases c : 14 < n
  · rw [if_pos (by omega), if_pos c]; rfl
  · rw [if_neg (by omega), if_neg c]
@[simp] theorem ixN_15 (n : Nat) : ixN n 15 = if 15 < n then some 15 else none := by
  unfold ixN; rw [if_pos (by omega)]; by_cases c : 15 < n
  · rw [if_pos (by omega), if_pos c]; rfl
  · rw [if_neg (by omega), if_neg c]
theorem atX_last {α : Type} (xs : List α) (x : α) : atX (xs ++ [x]) (-1) = some x := by
  unfold atX ixN
  rw [if_neg (by omega), if_pos (by rw [List.length_append, List.length_singleton]; omega)]
  rw [show ((-1 : Int) + ((xs ++ [x]).length : Nat)).toNat = xs.length by rw [List.length_append, List.length_singleton]; omega]
  simp
end Gr
namespace Gr
theorem wh_step {t : Env → (Bool → Env → Prop) → Prop} {body : Env → Ends → Prop} {e : Env} {E : Ends} :
    (∃ n, whileN t body n e E) = ∃ n, t e fun b e1 => if b = true then body e1 { E with nx := fun e2 => whileN t body n e2 E, ct := fun e2 => whileN t body n e2 E, bk := E.nx } else E.nx e1 := by
  refine propext ⟨fun ⟨n, h⟩ => ?_, fun ⟨n, h⟩ => ⟨n + 1, h⟩⟩
  cases n with
  | zero => exact h.elim
  | succ n => exact ⟨n, h⟩
end Gr
namespace Gr
@[simp] theorem nat_ble (a b : Nat) : Nat.ble a b = decide (a ≤ b) := by
  rw [Bool.eq_iff_iff, Nat.ble_eq, decide_eq_true_iff]
theorem callR {G : Prog} {n : Nat} {f : String} {fn : Fn} {a k x} (h : G.fns f = some fn) : G.callF (n + 1) f a k x = runFn (G.cx (G.callF n)) fn a k x := by
  rw [Prog.callF, h, optK]
theorem runR {P : Cx} {fn : Fn} {a k x} : runFn P fn a k x = onlyIf (fits fn.io a) (padK fn.N a fun e => wpSs P fn.body e
    { nx := fun e => outsK fn.io e (k (.val .non)), rt := fun r e => outsK fn.io e (k r), bk := fun _ => False, ct := fun _ => False, ex := fun c v _ => x c v }) := runFn.eq_1 ..
end Gr
namespace Gr
@[simp] theorem atX_neg {α : Type} (xs : List α) : atX xs (-1) = xs.getLast? := by
  rcases List.eq_nil_or_concat xs with rfl | ⟨ys, y, rfl⟩
  · rfl
  · rw [List.concat_eq_append, atX_last]; simp
theorem clamp_nat (n i : Nat) : clampN n (i : Int) = min i n := by
  unfold clampN; rw [if_neg (by omega)]; rfl
@[simp] theorem cut_init {α : Type} (xs : List α) : cut xs none (some (-1)) = xs.dropLast := by
  show (xs.take (clampN xs.length (-1))).drop 0 = _
  rw [List.drop_zero, List.dropLast_eq_take, clampN, if_pos (by omega)]
  congr 1
  omega
@[simp] theorem cut_all {α : Type} (xs : List α) : cut xs none none = xs := by
  show (xs.take xs.length).drop 0 = xs
  simp
theorem drop_min {α : Type} (xs : List α) (i : Nat) : xs.drop (min i xs.length) = xs.drop i := by
  by_cases c : i ≤ xs.length
  · rw [Nat.min_eq_left c]
  · rw [Nat.min_eq_right (by omega), List.drop_length, List.drop_eq_nil_of_le (by omega)]
theorem take_min {α : Type} (xs : List α) (i : Nat) : xs.take (min i xs.length) = xs.take i := by
  by_cases c : i ≤ xs.length
  · rw [Nat.min_eq_left c]
  · rw [Nat.min_eq_right (by omega), List.take_length, List.take_of_length_le (by omega)]
theorem cut_from {α : Type} (xs : List α) (i : Nat) : cut xs (some (i : Int)) none = xs.drop i := by
  show (xs.take xs.length).drop (clampN xs.length i) = _
  rw [clamp_nat, List.take_length, drop_min]
theorem cut_mid {α : Type} (xs : List α) (i j : Nat) : cut xs (some (i : Int)) (some (j : Int)) = (xs.take j).drop i := by
  show (xs.take (clampN xs.length j)).drop (clampN xs.length i) = _
  rw [clamp_nat, clamp_nat, take_min]
  by_cases c : i ≤ xs.length
  · rw [Nat.min_eq_left c]
  · rw [Nat.min_eq_right (by omega), List.drop_eq_nil_of_le (by rw [List.length_take]; omega), List.drop_eq_nil_of_le (by rw [List.length_take]; omega)]
end Gr
namespace Gr
@[simp ↓] theorem hereK_val (d p) : hereK (.val d) p = p := rfl
@[simp ↓] theorem hereK_own (d p) : hereK (.own d) p = p := rfl
@[simp ↓] theorem hereK_obj (c fs p) : hereK (.obj c fs) p = p := rfl
@[simp] theorem isNon_non : isNon .non = true := rfl
@[simp] theorem isNon_tup (x) : isNon (.tup x) = false := rfl
@[simp] theorem isNon_int (x) : isNon (.int x) = false := rfl
@[simp] theorem isNon_str (x) : isNon (.str x) = false := rfl
end Gr

end
section
set_option linter.all false
set_option maxRecDepth 100000
/-! The program's defs, as terms of the small language (printed by gen.py and mkpg.py). -/
namespace Gr
def p_is_name : Fn := ⟨["thing", "char"], 1, [false], [], [
  .ite (.or_ (.not_ (.val (.x (.isi (.p (.v 0)) .str)))) (.not_ (.val (.x (.chain .le .le (.int 1) (.b1 .len (.p (.v 0))) (.x (.int 12))))))) [.ret (.bl false)] [],
  .ret (.b1 .all (.x (.comp (.nm 1) (.cmp .isin (.var 1) (.x (.glob "LETTERS"))) (.var 0) [])))]⟩
def p_is_text (tn : String) : Fn := ⟨["thing", "char"], 1, [false], [], [
  .ite (.or_ (.not_ (.val (.x (.isi (.p (.v 0)) .str)))) (.not_ (.val (.x (.chain .le .le (.int 1) (.b1 .len (.p (.v 0))) (.x (.glob tn))))))) [.ret (.bl false)] [],
  .ret (.b1 .all (.x (.comp (.nm 1) (.cmp .isin (.var 1) (.x (.glob "CHARS"))) (.var 0) [])))]⟩
def p_is_set : Fn := ⟨["thing", "char", "k"], 1, [false], [], [
  .ite (.or_ (.not_ (.val (.x (.isi (.p (.v 0)) .str)))) (.or_ (.val (.x (.cmp .eq (.b1 .len (.p (.v 0))) (.x (.int 0))))) (.val (.x (.b1 .any (.x (.comp (.nm 1) (.cmp .notin (.var 1) (.x (.glob "CHARS"))) (.var 0) []))))))) [.ret (.bl false)] [],
  .ret (.b1 .all (.x (.comp (.nm 2) (.cmp .lt (.idx (.p (.v 0)) (.bin .sub (.var 2) (.x (.int 1)))) (.x (.idx (.p (.v 0)) (.var 2)))) (.rng (some (.int 1)) (.b1 .len (.p (.v 0)))) [])))]⟩
def p_is_expression (ln : String) : Fn := ⟨["thing", "deep", "head", "part"], 2, [false, false], [(.int 12)], [
  .ite (.or_ (.not_ (.val (.x (.isi (.p (.v 0)) .tuple)))) (.or_ (.val (.x (.cmp .eq (.b1 .len (.p (.v 0))) (.x (.int 0))))) (.or_ (.not_ (.val (.x (.isi (.x (.idx (.p (.v 0)) (.int 0))) .str)))) (.val (.x (.cmp .eq (.var 1) (.x (.int 0)))))))) [.ret (.bl false)] [],
  .asg 2 (.idx (.p (.v 0)) (.int 0)),
  .ite (.val (.x (.inG true (.var 2) ln))) [.ret (.cmp .eq (.b1 .len (.p (.v 0))) (.x (.int 1)))] [],
  .ite (.val (.x (.cmp .eq (.var 2) (.x (.str [109, 97, 114, 107]))))) [.ret (.and_ (.cmp .eq (.b1 .len (.p (.v 0))) (.x (.int 3))) (.and_ (.call "is_name" [(.idx (.p (.v 0)) (.int 1))]) (.call "is_expression" [(.idx (.p (.v 0)) (.int 2)), (.bin .sub (.var 1) (.x (.int 1)))])))] [],
  .ite (.val (.x (.cmp .ne (.b1 .len (.p (.v 0))) (.x (.int 2))))) [.ret (.bl false)] [],
  .ite (.val (.x (.cmp .eq (.var 2) (.x (.str [115, 101, 116]))))) [.ret (.call "is_set" [(.idx (.p (.v 0)) (.int 1))])] [],
  .ite (.val (.x (.cmp .eq (.var 2) (.x (.str [116, 101, 120, 116]))))) [.ret (.call "is_text" [(.idx (.p (.v 0)) (.int 1))])] [],
  .ite (.val (.x (.cmp .eq (.var 2) (.x (.str [99, 97, 108, 108]))))) [.ret (.call "is_name" [(.idx (.p (.v 0)) (.int 1))])] [],
  .ite (.val (.x (.inG true (.var 2) "ONES"))) [.ret (.call "is_expression" [(.idx (.p (.v 0)) (.int 1)), (.bin .sub (.var 1) (.x (.int 1)))])] [],
  .ite (.or_ (.and_ (.val (.x (.cmp .ne (.var 2) (.x (.str [115, 101, 113]))))) (.val (.x (.cmp .ne (.var 2) (.x (.str [97, 108, 116])))))) (.or_ (.not_ (.val (.x (.isi (.x (.idx (.p (.v 0)) (.int 1))) .tuple)))) (.val (.x (.cmp .gt (.b1 .len (.x (.idx (.p (.v 0)) (.int 1)))) (.x (.glob "MAX_PARTS"))))))) [.ret (.bl false)] [],
  .ret (.b1 .all (.x (.comp (.nm 3) (.call "is_expression" [(.var 3), (.bin .sub (.var 1) (.x (.int 1)))]) (.idx (.p (.v 0)) (.int 1)) [])))]⟩
def p_is_grammar : Fn := ⟨["thing", "names", "rule"], 1, [false], [], [
  .ite (.or_ (.not_ (.val (.x (.isi (.p (.v 0)) .tuple)))) (.not_ (.val (.x (.chain .le .le (.int 1) (.b1 .len (.p (.v 0))) (.x (.glob "MAX_RULES"))))))) [.ret (.bl false)] [],
  .asg 1 (.lst []),
  .for_ (.nm 2) (.var 0) [.ite (.or_ (.not_ (.val (.x (.isi (.p (.v 2)) .tuple)))) (.or_ (.val (.x (.cmp .ne (.b1 .len (.p (.v 2))) (.x (.int 2))))) (.or_ (.not_ (.val (.x (.call "is_name" [(.idx (.p (.v 2)) (.int 0))])))) (.val (.x (.cmp .isin (.idx (.p (.v 2)) (.int 0)) (.p (.v 1)))))))) [.ret (.bl false)] [], .ite (.not_ (.val (.x (.call "is_expression" [(.idx (.p (.v 2)) (.int 1))])))) [.ret (.bl false)] [], .ex (.app (.v 1) (.idx (.p (.v 2)) (.int 0)))],
  .ret (.bl true)]⟩
class GA (G : Prog) where
  tn : String
  ln : String
  at_is_name : G.fns "is_name" = some p_is_name
  at_is_text : G.fns "is_text" = some (p_is_text tn)
  at_is_set : G.fns "is_set" = some p_is_set
  at_is_expression : G.fns "is_expression" = some (p_is_expression ln)
  at_is_grammar : G.fns "is_grammar" = some p_is_grammar
  gl_MAX_RULES : G.glb "MAX_RULES" = some (.int 16)
  gl_MAX_PARTS : G.glb "MAX_PARTS" = some (.int 16)
  gl_CHARS : G.glb "CHARS" = some (.str [32, 33, 34, 35, 36, 38, 39, 40, 41, 42, 43, 44, 45, 46, 47, 48, 49, 50, 51, 52, 53, 54, 55, 56, 57, 58, 59, 60, 61, 62, 63, 64, 65, 66, 67, 68, 69, 70, 71, 72, 73, 74, 75, 76, 77, 78, 79, 80, 81, 82, 83, 84, 85, 86, 87, 88, 89, 90, 91, 92, 93, 94, 95, 96, 97, 98, 99, 100, 101, 102, 103, 104, 105, 106, 107, 108, 109, 110, 111, 112, 113, 114, 115, 116, 117, 118, 119, 120, 121, 122, 123, 124, 125, 126])
  gl_LETTERS : G.glb "LETTERS" = some (.str [97, 98, 99, 100, 101, 102, 103, 104, 105, 106, 107, 108, 109, 110, 111, 112, 113, 114, 115, 116, 117, 118, 119, 120, 121, 122])
  gl_ONES : G.glb "ONES" = some (.tup [(.str [115, 116, 97, 114]), (.str [111, 112, 116]), (.str [110, 111, 116]), (.str [97, 110, 100])])
  gl_MAX_TEXT : G.glb tn = some (.int 20)
  gl_LONE : G.glb ln = some (.tup [(.str [101, 112, 115]), (.str [102, 97, 105, 108]), (.str [97, 110, 121])])
@[simp ↓] theorem pat_is_name {G : Prog} [c : GA G] : G.fns "is_name" = some p_is_name := c.at_is_name
@[simp ↓] theorem pio_is_name : p_is_name.io = [false] := rfl
@[simp ↓] theorem pnp_is_name : p_is_name.np = 1 := rfl
@[simp ↓] theorem pdf_is_name : p_is_name.dflt = [] := rfl
@[simp ↓] theorem pN_is_name : p_is_name.N = ["thing", "char"] := rfl
@[simp ↓] theorem pat_is_text {G : Prog} [c : GA G] : G.fns "is_text" = some (p_is_text c.tn) := c.at_is_text
@[simp ↓] theorem pio_is_text {tn : String} : (p_is_text tn).io = [false] := rfl
@[simp ↓] theorem pnp_is_text {tn : String} : (p_is_text tn).np = 1 := rfl
@[simp ↓] theorem pdf_is_text {tn : String} : (p_is_text tn).dflt = [] := rfl
@[simp ↓] theorem pN_is_text {tn : String} : (p_is_text tn).N = ["thing", "char"] := rfl
@[simp ↓] theorem pat_is_set {G : Prog} [c : GA G] : G.fns "is_set" = some p_is_set := c.at_is_set
@[simp ↓] theorem pio_is_set : p_is_set.io = [false] := rfl
@[simp ↓] theorem pnp_is_set : p_is_set.np = 1 := rfl
@[simp ↓] theorem pdf_is_set : p_is_set.dflt = [] := rfl
@[simp ↓] theorem pN_is_set : p_is_set.N = ["thing", "char", "k"] := rfl
@[simp ↓] theorem pat_is_expression {G : Prog} [c : GA G] : G.fns "is_expression" = some (p_is_expression c.ln) := c.at_is_expression
@[simp ↓] theorem pio_is_expression {ln : String} : (p_is_expression ln).io = [false, false] := rfl
@[simp ↓] theorem pnp_is_expression {ln : String} : (p_is_expression ln).np = 2 := rfl
@[simp ↓] theorem pdf_is_expression {ln : String} : (p_is_expression ln).dflt = [(.int 12)] := rfl
@[simp ↓] theorem pN_is_expression {ln : String} : (p_is_expression ln).N = ["thing", "deep", "head", "part"] := rfl
@[simp ↓] theorem pat_is_grammar {G : Prog} [c : GA G] : G.fns "is_grammar" = some p_is_grammar := c.at_is_grammar
@[simp ↓] theorem pio_is_grammar : p_is_grammar.io = [false] := rfl
@[simp ↓] theorem pnp_is_grammar : p_is_grammar.np = 1 := rfl
@[simp ↓] theorem pdf_is_grammar : p_is_grammar.dflt = [] := rfl
@[simp ↓] theorem pN_is_grammar : p_is_grammar.N = ["thing", "names", "rule"] := rfl
@[simp ↓] theorem pgl_GA_MAX_RULES {G : Prog} [c : GA G] : G.glb "MAX_RULES" = some (.int 16) := c.gl_MAX_RULES
@[simp ↓] theorem pgl_GA_MAX_PARTS {G : Prog} [c : GA G] : G.glb "MAX_PARTS" = some (.int 16) := c.gl_MAX_PARTS
@[simp ↓] theorem pgl_GA_CHARS {G : Prog} [c : GA G] : G.glb "CHARS" = some (.str [32, 33, 34, 35, 36, 38, 39, 40, 41, 42, 43, 44, 45, 46, 47, 48, 49, 50, 51, 52, 53, 54, 55, 56, 57, 58, 59, 60, 61, 62, 63, 64, 65, 66, 67, 68, 69, 70, 71, 72, 73, 74, 75, 76, 77, 78, 79, 80, 81, 82, 83, 84, 85, 86, 87, 88, 89, 90, 91, 92, 93, 94, 95, 96, 97, 98, 99, 100, 101, 102, 103, 104, 105, 106, 107, 108, 109, 110, 111, 112, 113, 114, 115, 116, 117, 118, 119, 120, 121, 122, 123, 124, 125, 126]) := c.gl_CHARS
@[simp ↓] theorem pgl_GA_LETTERS {G : Prog} [c : GA G] : G.glb "LETTERS" = some (.str [97, 98, 99, 100, 101, 102, 103, 104, 105, 106, 107, 108, 109, 110, 111, 112, 113, 114, 115, 116, 117, 118, 119, 120, 121, 122]) := c.gl_LETTERS
@[simp ↓] theorem pgl_GA_ONES {G : Prog} [c : GA G] : G.glb "ONES" = some (.tup [(.str [115, 116, 97, 114]), (.str [111, 112, 116]), (.str [110, 111, 116]), (.str [97, 110, 100])]) := c.gl_ONES
@[simp ↓] theorem pgl_MAX_TEXT {G : Prog} [c : GA G] : G.glb c.tn = some (.int 20) := c.gl_MAX_TEXT
@[simp ↓] theorem pgl_LONE {G : Prog} [c : GA G] : G.glb c.ln = some (.tup [(.str [101, 112, 115]), (.str [102, 97, 105, 108]), (.str [97, 110, 121])]) := c.gl_LONE
def p_parts_of : Fn := ⟨["expression", "head"], 1, [false], [], [
  .asg 1 (.idx (.p (.v 0)) (.int 0)),
  .ite (.or_ (.val (.x (.cmp .eq (.var 1) (.x (.str [115, 101, 113]))))) (.val (.x (.cmp .eq (.var 1) (.x (.str [97, 108, 116])))))) [.ret (.b1 .list (.x (.idx (.p (.v 0)) (.int 1))))] [],
  .ite (.val (.x (.inG true (.var 1) "ONES"))) [.ret (.lst [(.idx (.p (.v 0)) (.int 1))])] [],
  .ite (.val (.x (.cmp .eq (.var 1) (.x (.str [109, 97, 114, 107]))))) [.ret (.lst [(.idx (.p (.v 0)) (.int 2))])] [],
  .ret (.lst [])]⟩
def p_may_be_empty : Fn := ⟨["expression", "names", "head", "part"], 2, [false, false], [], [
  .asg 2 (.idx (.p (.v 0)) (.int 0)),
  .ite (.val (.x (.cmp .isin (.var 2) (.x (.tup [(.str [101, 112, 115]), (.str [115, 116, 97, 114]), (.str [111, 112, 116]), (.str [110, 111, 116]), (.str [97, 110, 100])]))))) [.ret (.bl true)] [],
  .ite (.val (.x (.cmp .eq (.var 2) (.x (.str [99, 97, 108, 108]))))) [.ret (.cmp .isin (.idx (.p (.v 0)) (.int 1)) (.p (.v 1)))] [],
  .ite (.val (.x (.cmp .eq (.var 2) (.x (.str [115, 101, 113]))))) [.ret (.b1 .all (.x (.comp (.nm 3) (.call "may_be_empty" [(.var 3), (.var 1)]) (.idx (.p (.v 0)) (.int 1)) [])))] [],
  .ite (.val (.x (.cmp .eq (.var 2) (.x (.str [97, 108, 116]))))) [.ret (.b1 .any (.x (.comp (.nm 3) (.call "may_be_empty" [(.var 3), (.var 1)]) (.idx (.p (.v 0)) (.int 1)) [])))] [],
  .ite (.val (.x (.cmp .eq (.var 2) (.x (.str [109, 97, 114, 107]))))) [.ret (.call "may_be_empty" [(.idx (.p (.v 0)) (.int 2)), (.var 1)])] [],
  .ret (.bl false)]⟩
def p_empty_rules : Fn := ⟨["grammar", "names", "more", "found", "rule"], 1, [false], [], [
  .asg 1 (.lst []),
  .asg 2 (.bl true),
  .while_ (.val (.p (.v 2))) [.asg 3 (.comp (.nm 4) (.idx (.p (.v 4)) (.int 0)) (.var 0) [(.val (.x (.call "may_be_empty" [(.idx (.p (.v 4)) (.int 1)), (.var 1)])))]), .asg 2 (.cmp .ne (.var 3) (.p (.v 1))), .asg 1 (.var 3)],
  .retv 1]⟩
class GB (G : Prog) : Prop where
  at_parts_of : G.fns "parts_of" = some p_parts_of
  at_may_be_empty : G.fns "may_be_empty" = some p_may_be_empty
  at_empty_rules : G.fns "empty_rules" = some p_empty_rules
  gl_ONES : G.glb "ONES" = some (.tup [(.str [115, 116, 97, 114]), (.str [111, 112, 116]), (.str [110, 111, 116]), (.str [97, 110, 100])])
@[simp ↓] theorem pat_parts_of {G : Prog} [c : GB G] : G.fns "parts_of" = some p_parts_of := c.at_parts_of
@[simp ↓] theorem pio_parts_of : p_parts_of.io = [false] := rfl
@[simp ↓] theorem pnp_parts_of : p_parts_of.np = 1 := rfl
@[simp ↓] theorem pdf_parts_of : p_parts_of.dflt = [] := rfl
@[simp ↓] theorem pN_parts_of : p_parts_of.N = ["expression", "head"] := rfl
@[simp ↓] theorem pat_may_be_empty {G : Prog} [c : GB G] : G.fns "may_be_empty" = some p_may_be_empty := c.at_may_be_empty
@[simp ↓] theorem pio_may_be_empty : p_may_be_empty.io = [false, false] := rfl
@[simp ↓] theorem pnp_may_be_empty : p_may_be_empty.np = 2 := rfl
@[simp ↓] theorem pdf_may_be_empty : p_may_be_empty.dflt = [] := rfl
@[simp ↓] theorem pN_may_be_empty : p_may_be_empty.N = ["expression", "names", "head", "part"] := rfl
@[simp ↓] theorem pat_empty_rules {G : Prog} [c : GB G] : G.fns "empty_rules" = some p_empty_rules := c.at_empty_rules
@[simp ↓] theorem pio_empty_rules : p_empty_rules.io = [false] := rfl
@[simp ↓] theorem pnp_empty_rules : p_empty_rules.np = 1 := rfl
@[simp ↓] theorem pdf_empty_rules : p_empty_rules.dflt = [] := rfl
@[simp ↓] theorem pN_empty_rules : p_empty_rules.N = ["grammar", "names", "more", "found", "rule"] := rfl
@[simp ↓] theorem pgl_GB_ONES {G : Prog} [c : GB G] : G.glb "ONES" = some (.tup [(.str [115, 116, 97, 114]), (.str [111, 112, 116]), (.str [110, 111, 116]), (.str [97, 110, 100])]) := c.gl_ONES
def p_checked : Fn := ⟨["thing"], 1, [false], [], [
  .ite (.not_ (.val (.x (.call "is_grammar" [(.var 0)])))) [.raise "Invalid" (.str [103, 114, 97, 109, 109, 97, 114])] [],
  .retv 0]⟩
def p_calls_of : Fn := ⟨["expression", "found", "part", "name"], 1, [false], [], [
  .ite (.val (.x (.cmp .eq (.idx (.p (.v 0)) (.int 0)) (.x (.str [99, 97, 108, 108]))))) [.ret (.lst [(.idx (.p (.v 0)) (.int 1))])] [],
  .asg 1 (.lst []),
  .for_ (.nm 2) (.call "parts_of" [(.var 0)]) [.for_ (.nm 3) (.call "calls_of" [(.var 2)]) [.ite (.val (.x (.cmp .notin (.var 3) (.p (.v 1))))) [.ex (.app (.v 1) (.var 3))] []]],
  .retv 1]⟩
def p_first_calls : Fn := ⟨["expression", "names", "head", "found", "part"], 2, [false, false], [], [
  .asg 2 (.idx (.p (.v 0)) (.int 0)),
  .ite (.val (.x (.cmp .eq (.var 2) (.x (.str [99, 97, 108, 108]))))) [.ret (.lst [(.idx (.p (.v 0)) (.int 1))])] [],
  .asg 3 (.lst []),
  .for_ (.nm 4) (.call "parts_of" [(.var 0)]) [.ex (.ext (.v 3) (.call "first_calls" [(.var 4), (.var 1)])), .ite (.and_ (.val (.x (.cmp .eq (.var 2) (.x (.str [115, 101, 113]))))) (.not_ (.val (.x (.call "may_be_empty" [(.var 4), (.var 1)]))))) [.brk] []],
  .retv 3]⟩
def p_has_idle_star : Fn := ⟨["expression", "names", "part"], 2, [false, false], [], [
  .ite (.and_ (.val (.x (.cmp .eq (.idx (.p (.v 0)) (.int 0)) (.x (.str [115, 116, 97, 114]))))) (.val (.x (.call "may_be_empty" [(.idx (.p (.v 0)) (.int 1)), (.var 1)])))) [.ret (.bl true)] [],
  .ret (.b1 .any (.x (.comp (.nm 2) (.call "has_idle_star" [(.var 2), (.var 1)]) (.call "parts_of" [(.var 0)]) [])))]⟩
def p_reached : Fn := ⟨["start", "table", "found", "left", "name"], 2, [false, false], [], [
  .asg 2 (.lst []),
  .asg 3 (.b1 .list (.x (.idx (.p (.v 1)) (.var 0)))),
  .while_ (.val (.p (.v 3))) [.asg 4 (.pop (.v 3)), .ite (.val (.x (.cmp .notin (.var 4) (.p (.v 2))))) [.ex (.app (.v 2) (.var 4)), .ex (.ext (.v 3) (.idx (.p (.v 1)) (.var 4)))] []],
  .retv 2]⟩
def p_check : Fn := ⟨["grammar", "names", "rule", "name", "expression", "called", "empty", "table"], 1, [false], [], [
  .ex (.call "checked" [(.var 0)]),
  .asg 1 (.comp (.nm 2) (.idx (.p (.v 2)) (.int 0)) (.var 0) []),
  .for_ (.tp [3, 4]) (.var 0) [.for_ (.nm 5) (.call "calls_of" [(.var 4)]) [.ite (.val (.x (.cmp .notin (.var 5) (.p (.v 1))))) [.raise "Unknown" (.var 5)] []]],
  .asg 6 (.call "empty_rules" [(.var 0)]),
  .asg 7 (.dcomp (.nm 2) (.idx (.p (.v 2)) (.int 0)) (.call "first_calls" [(.idx (.p (.v 2)) (.int 1)), (.var 6)]) (.var 0)),
  .for_ (.tp [3, 4]) (.var 0) [.ite (.or_ (.val (.x (.cmp .isin (.var 3) (.x (.call "reached" [(.var 3), (.var 7)]))))) (.val (.x (.call "has_idle_star" [(.var 4), (.var 6)])))) [.raise "Looping" (.var 3)] []],
  .retv 0]⟩
class GK (G : Prog) : Prop where
  at_checked : G.fns "checked" = some p_checked
  at_calls_of : G.fns "calls_of" = some p_calls_of
  at_first_calls : G.fns "first_calls" = some p_first_calls
  at_has_idle_star : G.fns "has_idle_star" = some p_has_idle_star
  at_reached : G.fns "reached" = some p_reached
  at_check : G.fns "check" = some p_check
@[simp ↓] theorem pat_checked {G : Prog} [c : GK G] : G.fns "checked" = some p_checked := c.at_checked
@[simp ↓] theorem pio_checked : p_checked.io = [false] := rfl
@[simp ↓] theorem pnp_checked : p_checked.np = 1 := rfl
@[simp ↓] theorem pdf_checked : p_checked.dflt = [] := rfl
@[simp ↓] theorem pN_checked : p_checked.N = ["thing"] := rfl
@[simp ↓] theorem pat_calls_of {G : Prog} [c : GK G] : G.fns "calls_of" = some p_calls_of := c.at_calls_of
@[simp ↓] theorem pio_calls_of : p_calls_of.io = [false] := rfl
@[simp ↓] theorem pnp_calls_of : p_calls_of.np = 1 := rfl
@[simp ↓] theorem pdf_calls_of : p_calls_of.dflt = [] := rfl
@[simp ↓] theorem pN_calls_of : p_calls_of.N = ["expression", "found", "part", "name"] := rfl
@[simp ↓] theorem pat_first_calls {G : Prog} [c : GK G] : G.fns "first_calls" = some p_first_calls := c.at_first_calls
@[simp ↓] theorem pio_first_calls : p_first_calls.io = [false, false] := rfl
@[simp ↓] theorem pnp_first_calls : p_first_calls.np = 2 := rfl
@[simp ↓] theorem pdf_first_calls : p_first_calls.dflt = [] := rfl
@[simp ↓] theorem pN_first_calls : p_first_calls.N = ["expression", "names", "head", "found", "part"] := rfl
@[simp ↓] theorem pat_has_idle_star {G : Prog} [c : GK G] : G.fns "has_idle_star" = some p_has_idle_star := c.at_has_idle_star
@[simp ↓] theorem pio_has_idle_star : p_has_idle_star.io = [false, false] := rfl
@[simp ↓] theorem pnp_has_idle_star : p_has_idle_star.np = 2 := rfl
@[simp ↓] theorem pdf_has_idle_star : p_has_idle_star.dflt = [] := rfl
@[simp ↓] theorem pN_has_idle_star : p_has_idle_star.N = ["expression", "names", "part"] := rfl
@[simp ↓] theorem pat_reached {G : Prog} [c : GK G] : G.fns "reached" = some p_reached := c.at_reached
@[simp ↓] theorem pio_reached : p_reached.io = [false, false] := rfl
@[simp ↓] theorem pnp_reached : p_reached.np = 2 := rfl
@[simp ↓] theorem pdf_reached : p_reached.dflt = [] := rfl
@[simp ↓] theorem pN_reached : p_reached.N = ["start", "table", "found", "left", "name"] := rfl
@[simp ↓] theorem pat_check {G : Prog} [c : GK G] : G.fns "check" = some p_check := c.at_check
@[simp ↓] theorem pio_check : p_check.io = [false] := rfl
@[simp ↓] theorem pnp_check : p_check.np = 1 := rfl
@[simp ↓] theorem pdf_check : p_check.dflt = [] := rfl
@[simp ↓] theorem pN_check : p_check.N = ["grammar", "names", "rule", "name", "expression", "called", "empty", "table"] := rfl
def p_Writer_init : Fn := ⟨["self"], 1, [true], [], [
  .setF 0 "rows" (.lst []),
  .setF 0 "starts" (.dnew false)]⟩
def p_Writer_put : Fn := ⟨["self", "row"], 2, [true, false], [], [
  .ex (.app (.f 0 "rows") (.var 1)),
  .ret (.bin .sub (.b1 .len (.p (.f 0 "rows"))) (.x (.int 1)))]⟩
def p_Writer_aim : Fn := ⟨["self", "at", "target"], 3, [true, false, false], [], [
  .setFI 0 "rows" (.var 1) (.tup [(.idx (.x (.idx (.p (.f 0 "rows")) (.var 1))) (.int 0)), (.var 2)])]⟩
def p_Writer_here : Fn := ⟨["self"], 1, [true], [], [
  .ret (.b1 .len (.p (.f 0 "rows")))]⟩
def p_write_alt : Fn := ⟨["writer", "parts", "ends", "part", "choice", "at"], 2, [true, false], [], [
  .ite (.not_ (.val (.p (.v 1)))) [.ex (.ocall 0 "put" [(.tup [(.str [102, 97, 105, 108])])]), .retN] [],
  .asg 2 (.lst []),
  .for_ (.nm 3) (.slc (.p (.v 1)) none (some (.neg (.int 1)))) [.asg 4 (.ocall 0 "put" [(.tup [(.str [99, 104, 111, 105, 99, 101]), (.int 0)])]), .ex (.call "write" [(.var 0), (.var 3)]), .ex (.app (.v 2) (.ocall 0 "put" [(.tup [(.str [99, 111, 109, 109, 105, 116]), (.int 0)])])), .ex (.ocall 0 "aim" [(.var 4), (.ocall 0 "here" [])])],
  .ex (.call "write" [(.var 0), (.idx (.p (.v 1)) (.neg (.int 1)))]),
  .for_ (.nm 5) (.var 2) [.ex (.ocall 0 "aim" [(.var 5), (.ocall 0 "here" [])])]]⟩
def p_write_one : Fn := ⟨["writer", "head", "inner", "choice"], 3, [true, false, false], [], [
  .asg 3 (.ocall 0 "put" [(.tup [(.str [99, 104, 111, 105, 99, 101]), (.int 0)])]),
  .ex (.call "write" [(.var 0), (.var 2)]),
  .ite (.val (.x (.cmp .eq (.var 1) (.x (.str [115, 116, 97, 114]))))) [.ex (.ocall 0 "put" [(.tup [(.str [99, 111, 109, 109, 105, 116]), (.var 3)])]), .ex (.ocall 0 "aim" [(.var 3), (.ocall 0 "here" [])])] [.ite (.val (.x (.cmp .eq (.var 1) (.x (.str [111, 112, 116]))))) [.ex (.ocall 0 "put" [(.tup [(.str [99, 111, 109, 109, 105, 116]), (.bin .add (.ocall 0 "here" []) (.x (.int 1)))])]), .ex (.ocall 0 "aim" [(.var 3), (.ocall 0 "here" [])])] [.ite (.val (.x (.cmp .eq (.var 1) (.x (.str [110, 111, 116]))))) [.ex (.ocall 0 "put" [(.tup [(.str [114, 101, 102, 117, 115, 101])])]), .ex (.ocall 0 "aim" [(.var 3), (.ocall 0 "here" [])])] [.ex (.ocall 0 "put" [(.tup [(.str [114, 101, 116, 117, 114, 110, 45, 116, 111]), (.bin .add (.ocall 0 "here" []) (.x (.int 2)))])]), .ex (.ocall 0 "aim" [(.var 3), (.ocall 0 "here" [])]), .ex (.ocall 0 "put" [(.tup [(.str [102, 97, 105, 108])])])]]]]⟩
def p_write : Fn := ⟨["writer", "expression", "head", "part"], 2, [true, false], [], [
  .asg 2 (.idx (.p (.v 1)) (.int 0)),
  .ite (.or_ (.val (.x (.cmp .eq (.var 2) (.x (.str [102, 97, 105, 108]))))) (.val (.x (.cmp .eq (.var 2) (.x (.str [97, 110, 121])))))) [.ex (.ocall 0 "put" [(.tup [(.var 2)])])] [.ite (.val (.x (.cmp .isin (.var 2) (.x (.tup [(.str [115, 101, 116]), (.str [116, 101, 120, 116]), (.str [99, 97, 108, 108])]))))) [.ex (.ocall 0 "put" [(.tup [(.var 2), (.idx (.p (.v 1)) (.int 1))])])] [.ite (.val (.x (.cmp .eq (.var 2) (.x (.str [115, 101, 113]))))) [.for_ (.nm 3) (.idx (.p (.v 1)) (.int 1)) [.ex (.call "write" [(.var 0), (.var 3)])]] [.ite (.val (.x (.cmp .eq (.var 2) (.x (.str [97, 108, 116]))))) [.ex (.call "write_alt" [(.var 0), (.idx (.p (.v 1)) (.int 1))])] [.ite (.val (.x (.cmp .eq (.var 2) (.x (.str [109, 97, 114, 107]))))) [.ex (.ocall 0 "put" [(.tup [(.str [111, 112, 101, 110]), (.idx (.p (.v 1)) (.int 1))])]), .ex (.call "write" [(.var 0), (.idx (.p (.v 1)) (.int 2))]), .ex (.ocall 0 "put" [(.tup [(.str [99, 108, 111, 115, 101])])])] [.ite (.val (.x (.cmp .ne (.var 2) (.x (.str [101, 112, 115]))))) [.ex (.call "write_one" [(.var 0), (.var 2), (.idx (.p (.v 1)) (.int 1))])] []]]]]]]⟩
def p_compiled : Fn := ⟨["grammar", "writer", "name", "expression"], 1, [false], [], [
  .ex (.call "checked" [(.var 0)]),
  .new 1 "Writer" [],
  .for_ (.tp [2, 3]) (.var 0) [.setFI 1 "starts" (.var 2) (.ocall 1 "here" []), .ex (.call "write" [(.var 1), (.var 3)]), .ex (.ocall 1 "put" [(.tup [(.str [114, 101, 116, 117, 114, 110])])])],
  .ret (.tup [(.attr 1 "rows"), (.attr 1 "starts")])]⟩
def p_Machine_init : Fn := ⟨["self", "rows", "starts", "text"], 4, [true, false, false, false], [], [
  .setF 0 "rows" (.var 1),
  .setF 0 "starts" (.var 2),
  .setF 0 "text" (.var 3),
  .setF 0 "place" (.int 0),
  .setF 0 "stack" (.lst []),
  .setF 0 "trees" (.lst []),
  .setF 0 "memory" (.dnew true),
  .setF 0 "entered" (.lst []),
  .setF 0 "row" (.int 0),
  .setF 0 "done" (.bl false),
  .setF 0 "told" .non]⟩
def p_Machine_enter : Fn := ⟨["self", "name", "back", "key", "told"], 3, [true, false, false], [], [
  .asg 3 (.tup [(.var 1), (.attr 0 "place")]),
  .ite (.val (.x (.cmp .isin (.var 3) (.p (.f 0 "memory"))))) [.asg 4 (.idx (.p (.f 0 "memory")) (.var 3)), .ite (.val (.x (.cmp .is (.var 4) (.x .non)))) [.ex (.ocall 0 "fail" [])] [.setF 0 "place" (.idx (.p (.v 4)) (.int 0)), .ex (.ext (.f 0 "trees") (.idx (.p (.v 4)) (.int 1))), .setF 0 "row" (.var 2)]] [.ex (.app (.f 0 "entered") (.var 3)), .ex (.app (.f 0 "stack") (.tup [(.str [99, 97, 108, 108]), (.var 2), (.var 3), (.b1 .len (.p (.f 0 "trees")))])), .setF 0 "row" (.idx (.p (.f 0 "starts")) (.var 1))]]⟩
def p_Machine_leave : Fn := ⟨["self", "head", "back", "key", "many", "told"], 1, [true], [], [
  .asgT [1, 2, 3, 4] (.pop (.f 0 "stack")),
  .asg 5 (.tup [(.attr 0 "place"), (.b1 .tuple (.x (.slc (.p (.f 0 "trees")) (some (.var 4)) none)))]),
  .setFI 0 "memory" (.var 3) (.var 5),
  .ite (.not_ (.val (.p (.f 0 "stack")))) [.setF 0 "done" (.bl true), .setF 0 "told" (.var 5)] [],
  .setF 0 "row" (.var 2)]⟩
def p_Machine_fail : Fn := ⟨["self", "frame", "head", "target", "place", "many"], 1, [true], [], [
  .while_ (.and_ (.val (.p (.f 0 "stack"))) (.val (.x (.cmp .ne (.idx (.x (.idx (.p (.f 0 "stack")) (.neg (.int 1)))) (.int 0)) (.x (.str [99, 104, 111, 105, 99, 101])))))) [.asg 1 (.pop (.f 0 "stack")), .ite (.val (.x (.cmp .eq (.idx (.p (.v 1)) (.int 0)) (.x (.str [99, 97, 108, 108]))))) [.setFI 0 "memory" (.idx (.p (.v 1)) (.int 2)) .non] []],
  .ite (.not_ (.val (.p (.f 0 "stack")))) [.setF 0 "done" (.bl true), .retN] [],
  .asgT [2, 3, 4, 5] (.pop (.f 0 "stack")),
  .setF 0 "row" (.var 3),
  .setF 0 "place" (.var 4),
  .delFS 0 "trees" (.var 5)]⟩
def p_Machine_take : Fn := ⟨["self", "size", "fits"], 3, [true, false, false], [], [
  .ite (.val (.p (.v 2))) [.augF 0 "place" .add (.p (.v 1)), .augF 0 "row" .add (.x (.int 1))] [.ex (.ocall 0 "fail" [])]]⟩
def p_Machine_close : Fn := ⟨["self", "head", "label", "start", "many", "tree"], 1, [true], [], [
  .asgT [1, 2, 3, 4] (.pop (.f 0 "stack")),
  .asg 5 (.tup [(.var 2), (.var 3), (.attr 0 "place"), (.b1 .tuple (.x (.slc (.p (.f 0 "trees")) (some (.var 4)) none)))]),
  .delFS 0 "trees" (.var 4),
  .ex (.app (.f 0 "trees") (.var 5)),
  .augF 0 "row" .add (.x (.int 1))]⟩
def p_Machine_step_back : Fn := ⟨["self", "target", "head", "other", "place", "many"], 2, [true, false], [], [
  .asgT [2, 3, 4, 5] (.pop (.f 0 "stack")),
  .setF 0 "place" (.var 4),
  .delFS 0 "trees" (.var 5),
  .setF 0 "row" (.var 1)]⟩
def p_Machine_step_choice : Fn := ⟨["self", "row", "head"], 2, [true, false], [], [
  .asg 2 (.idx (.p (.v 1)) (.int 0)),
  .ite (.val (.x (.cmp .eq (.var 2) (.x (.str [99, 104, 111, 105, 99, 101]))))) [.ex (.app (.f 0 "stack") (.tup [(.str [99, 104, 111, 105, 99, 101]), (.idx (.p (.v 1)) (.int 1)), (.attr 0 "place"), (.b1 .len (.p (.f 0 "trees")))])), .augF 0 "row" .add (.x (.int 1))] [.ite (.val (.x (.cmp .eq (.var 2) (.x (.str [99, 111, 109, 109, 105, 116]))))) [.ex (.pop (.f 0 "stack")), .setF 0 "row" (.idx (.p (.v 1)) (.int 1))] [.ite (.val (.x (.cmp .eq (.var 2) (.x (.str [114, 101, 116, 117, 114, 110, 45, 116, 111]))))) [.ex (.ocall 0 "step_back" [(.idx (.p (.v 1)) (.int 1))])] [.ex (.pop (.f 0 "stack")), .ex (.ocall 0 "fail" [])]]]]⟩
def p_Machine_step : Fn := ⟨["self", "row", "head", "text", "size"], 1, [true], [], [
  .asg 1 (.idx (.p (.f 0 "rows")) (.attr 0 "row")),
  .asg 2 (.idx (.p (.v 1)) (.int 0)),
  .asg 3 (.attr 0 "text"),
  .ite (.val (.x (.cmp .eq (.var 2) (.x (.str [116, 101, 120, 116]))))) [.asg 4 (.b1 .len (.x (.idx (.p (.v 1)) (.int 1)))), .ex (.ocall 0 "take" [(.var 4), (.cmp .eq (.slc (.p (.v 3)) (some (.attr 0 "place")) (some (.bin .add (.attr 0 "place") (.p (.v 4))))) (.x (.idx (.p (.v 1)) (.int 1))))])] [.ite (.val (.x (.cmp .eq (.var 2) (.x (.str [115, 101, 116]))))) [.ex (.ocall 0 "take" [(.int 1), (.and_ (.cmp .lt (.attr 0 "place") (.x (.b1 .len (.p (.v 3))))) (.cmp .isin (.idx (.p (.v 3)) (.attr 0 "place")) (.x (.idx (.p (.v 1)) (.int 1)))))])] [.ite (.val (.x (.cmp .eq (.var 2) (.x (.str [97, 110, 121]))))) [.ex (.ocall 0 "take" [(.int 1), (.cmp .lt (.attr 0 "place") (.x (.b1 .len (.p (.v 3)))))])] [.ite (.val (.x (.cmp .eq (.var 2) (.x (.str [102, 97, 105, 108]))))) [.ex (.ocall 0 "fail" [])] [.ite (.val (.x (.cmp .eq (.var 2) (.x (.str [99, 97, 108, 108]))))) [.ex (.ocall 0 "enter" [(.idx (.p (.v 1)) (.int 1)), (.bin .add (.attr 0 "row") (.x (.int 1)))])] [.ite (.val (.x (.cmp .eq (.var 2) (.x (.str [114, 101, 116, 117, 114, 110]))))) [.ex (.ocall 0 "leave" [])] [.ite (.val (.x (.cmp .eq (.var 2) (.x (.str [111, 112, 101, 110]))))) [.ex (.app (.f 0 "stack") (.tup [(.str [109, 97, 114, 107]), (.idx (.p (.v 1)) (.int 1)), (.attr 0 "place"), (.b1 .len (.p (.f 0 "trees")))])), .augF 0 "row" .add (.x (.int 1))] [.ite (.val (.x (.cmp .eq (.var 2) (.x (.str [99, 108, 111, 115, 101]))))) [.ex (.ocall 0 "close" [])] [.ex (.ocall 0 "step_choice" [(.var 1)])]]]]]]]]]⟩
def p_run : Fn := ⟨["grammar", "text", "at", "rows", "starts", "machine"], 3, [false, false, false], [], [
  .ex (.call "check" [(.var 0)]),
  .asgT [3, 4] (.call "compiled" [(.var 0)]),
  .new 5 "Machine" [(.var 3), (.var 4), (.var 1)],
  .setF 5 "place" (.var 2),
  .ex (.ocall 5 "enter" [(.idx (.x (.idx (.p (.v 0)) (.int 0))) (.int 0)), (.int 0)]),
  .while_ (.not_ (.val (.p (.f 5 "done")))) [.ex (.ocall 5 "step" [])],
  .ret (.tup [(.attr 5 "told"), (.attr 5 "entered")])]⟩
def p_match : Fn := ⟨["grammar", "text", "at"], 3, [false, false, false], [(.int 0)], [
  .ret (.idx (.x (.call "run" [(.var 0), (.var 1), (.var 2)])) (.int 0))]⟩
class GM (G : Prog) : Prop where
  at_Writer_init : G.fns "Writer.__init__" = some p_Writer_init
  at_Writer_put : G.fns "Writer.put" = some p_Writer_put
  at_Writer_aim : G.fns "Writer.aim" = some p_Writer_aim
  at_Writer_here : G.fns "Writer.here" = some p_Writer_here
  at_write_alt : G.fns "write_alt" = some p_write_alt
  at_write_one : G.fns "write_one" = some p_write_one
  at_write : G.fns "write" = some p_write
  at_compiled : G.fns "compiled" = some p_compiled
  at_Machine_init : G.fns "Machine.__init__" = some p_Machine_init
  at_Machine_enter : G.fns "Machine.enter" = some p_Machine_enter
  at_Machine_leave : G.fns "Machine.leave" = some p_Machine_leave
  at_Machine_fail : G.fns "Machine.fail" = some p_Machine_fail
  at_Machine_take : G.fns "Machine.take" = some p_Machine_take
  at_Machine_close : G.fns "Machine.close" = some p_Machine_close
  at_Machine_step_back : G.fns "Machine.step_back" = some p_Machine_step_back
  at_Machine_step_choice : G.fns "Machine.step_choice" = some p_Machine_step_choice
  at_Machine_step : G.fns "Machine.step" = some p_Machine_step
  at_run : G.fns "run" = some p_run
  at_match : G.fns "match" = some p_match
@[simp ↓] theorem pat_Writer_init {G : Prog} [c : GM G] : G.fns "Writer.__init__" = some p_Writer_init := c.at_Writer_init
@[simp ↓] theorem pio_Writer_init : p_Writer_init.io = [true] := rfl
@[simp ↓] theorem pnp_Writer_init : p_Writer_init.np = 1 := rfl
@[simp ↓] theorem pdf_Writer_init : p_Writer_init.dflt = [] := rfl
@[simp ↓] theorem pN_Writer_init : p_Writer_init.N = ["self"] := rfl
@[simp ↓] theorem pat_Writer_put {G : Prog} [c : GM G] : G.fns "Writer.put" = some p_Writer_put := c.at_Writer_put
@[simp ↓] theorem pio_Writer_put : p_Writer_put.io = [true, false] := rfl
@[simp ↓] theorem pnp_Writer_put : p_Writer_put.np = 2 := rfl
@[simp ↓] theorem pdf_Writer_put : p_Writer_put.dflt = [] := rfl
@[simp ↓] theorem pN_Writer_put : p_Writer_put.N = ["self", "row"] := rfl
@[simp ↓] theorem pat_Writer_aim {G : Prog} [c : GM G] : G.fns "Writer.aim" = some p_Writer_aim := c.at_Writer_aim
@[simp ↓] theorem pio_Writer_aim : p_Writer_aim.io = [true, false, false] := rfl
@[simp ↓] theorem pnp_Writer_aim : p_Writer_aim.np = 3 := rfl
@[simp ↓] theorem pdf_Writer_aim : p_Writer_aim.dflt = [] := rfl
@[simp ↓] theorem pN_Writer_aim : p_Writer_aim.N = ["self", "at", "target"] := rfl
@[simp ↓] theorem pat_Writer_here {G : Prog} [c : GM G] : G.fns "Writer.here" = some p_Writer_here := c.at_Writer_here
@[simp ↓] theorem pio_Writer_here : p_Writer_here.io = [true] := rfl
@[simp ↓] theorem pnp_Writer_here : p_Writer_here.np = 1 := rfl
@[simp ↓] theorem pdf_Writer_here : p_Writer_here.dflt = [] := rfl
@[simp ↓] theorem pN_Writer_here : p_Writer_here.N = ["self"] := rfl
@[simp ↓] theorem pat_write_alt {G : Prog} [c : GM G] : G.fns "write_alt" = some p_write_alt := c.at_write_alt
@[simp ↓] theorem pio_write_alt : p_write_alt.io = [true, false] := rfl
@[simp ↓] theorem pnp_write_alt : p_write_alt.np = 2 := rfl
@[simp ↓] theorem pdf_write_alt : p_write_alt.dflt = [] := rfl
@[simp ↓] theorem pN_write_alt : p_write_alt.N = ["writer", "parts", "ends", "part", "choice", "at"] := rfl
@[simp ↓] theorem pat_write_one {G : Prog} [c : GM G] : G.fns "write_one" = some p_write_one := c.at_write_one
@[simp ↓] theorem pio_write_one : p_write_one.io = [true, false, false] := rfl
@[simp ↓] theorem pnp_write_one : p_write_one.np = 3 := rfl
@[simp ↓] theorem pdf_write_one : p_write_one.dflt = [] := rfl
@[simp ↓] theorem pN_write_one : p_write_one.N = ["writer", "head", "inner", "choice"] := rfl
@[simp ↓] theorem pat_write {G : Prog} [c : GM G] : G.fns "write" = some p_write := c.at_write
@[simp ↓] theorem pio_write : p_write.io = [true, false] := rfl
@[simp ↓] theorem pnp_write : p_write.np = 2 := rfl
@[simp ↓] theorem pdf_write : p_write.dflt = [] := rfl
@[simp ↓] theorem pN_write : p_write.N = ["writer", "expression", "head", "part"] := rfl
@[simp ↓] theorem pat_compiled {G : Prog} [c : GM G] : G.fns "compiled" = some p_compiled := c.at_compiled
@[simp ↓] theorem pio_compiled : p_compiled.io = [false] := rfl
@[simp ↓] theorem pnp_compiled : p_compiled.np = 1 := rfl
@[simp ↓] theorem pdf_compiled : p_compiled.dflt = [] := rfl
@[simp ↓] theorem pN_compiled : p_compiled.N = ["grammar", "writer", "name", "expression"] := rfl
@[simp ↓] theorem pat_Machine_init {G : Prog} [c : GM G] : G.fns "Machine.__init__" = some p_Machine_init := c.at_Machine_init
@[simp ↓] theorem pio_Machine_init : p_Machine_init.io = [true, false, false, false] := rfl
@[simp ↓] theorem pnp_Machine_init : p_Machine_init.np = 4 := rfl
@[simp ↓] theorem pdf_Machine_init : p_Machine_init.dflt = [] := rfl
@[simp ↓] theorem pN_Machine_init : p_Machine_init.N = ["self", "rows", "starts", "text"] := rfl
@[simp ↓] theorem pat_Machine_enter {G : Prog} [c : GM G] : G.fns "Machine.enter" = some p_Machine_enter := c.at_Machine_enter
@[simp ↓] theorem pio_Machine_enter : p_Machine_enter.io = [true, false, false] := rfl
@[simp ↓] theorem pnp_Machine_enter : p_Machine_enter.np = 3 := rfl
@[simp ↓] theorem pdf_Machine_enter : p_Machine_enter.dflt = [] := rfl
@[simp ↓] theorem pN_Machine_enter : p_Machine_enter.N = ["self", "name", "back", "key", "told"] := rfl
@[simp ↓] theorem pat_Machine_leave {G : Prog} [c : GM G] : G.fns "Machine.leave" = some p_Machine_leave := c.at_Machine_leave
@[simp ↓] theorem pio_Machine_leave : p_Machine_leave.io = [true] := rfl
@[simp ↓] theorem pnp_Machine_leave : p_Machine_leave.np = 1 := rfl
@[simp ↓] theorem pdf_Machine_leave : p_Machine_leave.dflt = [] := rfl
@[simp ↓] theorem pN_Machine_leave : p_Machine_leave.N = ["self", "head", "back", "key", "many", "told"] := rfl
@[simp ↓] theorem pat_Machine_fail {G : Prog} [c : GM G] : G.fns "Machine.fail" = some p_Machine_fail := c.at_Machine_fail
@[simp ↓] theorem pio_Machine_fail : p_Machine_fail.io = [true] := rfl
@[simp ↓] theorem pnp_Machine_fail : p_Machine_fail.np = 1 := rfl
@[simp ↓] theorem pdf_Machine_fail : p_Machine_fail.dflt = [] := rfl
@[simp ↓] theorem pN_Machine_fail : p_Machine_fail.N = ["self", "frame", "head", "target", "place", "many"] := rfl
@[simp ↓] theorem pat_Machine_take {G : Prog} [c : GM G] : G.fns "Machine.take" = some p_Machine_take := c.at_Machine_take
@[simp ↓] theorem pio_Machine_take : p_Machine_take.io = [true, false, false] := rfl
@[simp ↓] theorem pnp_Machine_take : p_Machine_take.np = 3 := rfl
@[simp ↓] theorem pdf_Machine_take : p_Machine_take.dflt = [] := rfl
@[simp ↓] theorem pN_Machine_take : p_Machine_take.N = ["self", "size", "fits"] := rfl
@[simp ↓] theorem pat_Machine_close {G : Prog} [c : GM G] : G.fns "Machine.close" = some p_Machine_close := c.at_Machine_close
@[simp ↓] theorem pio_Machine_close : p_Machine_close.io = [true] := rfl
@[simp ↓] theorem pnp_Machine_close : p_Machine_close.np = 1 := rfl
@[simp ↓] theorem pdf_Machine_close : p_Machine_close.dflt = [] := rfl
@[simp ↓] theorem pN_Machine_close : p_Machine_close.N = ["self", "head", "label", "start", "many", "tree"] := rfl
@[simp ↓] theorem pat_Machine_step_back {G : Prog} [c : GM G] : G.fns "Machine.step_back" = some p_Machine_step_back := c.at_Machine_step_back
@[simp ↓] theorem pio_Machine_step_back : p_Machine_step_back.io = [true, false] := rfl
@[simp ↓] theorem pnp_Machine_step_back : p_Machine_step_back.np = 2 := rfl
@[simp ↓] theorem pdf_Machine_step_back : p_Machine_step_back.dflt = [] := rfl
@[simp ↓] theorem pN_Machine_step_back : p_Machine_step_back.N = ["self", "target", "head", "other", "place", "many"] := rfl
@[simp ↓] theorem pat_Machine_step_choice {G : Prog} [c : GM G] : G.fns "Machine.step_choice" = some p_Machine_step_choice := c.at_Machine_step_choice
@[simp ↓] theorem pio_Machine_step_choice : p_Machine_step_choice.io = [true, false] := rfl
@[simp ↓] theorem pnp_Machine_step_choice : p_Machine_step_choice.np = 2 := rfl
@[simp ↓] theorem pdf_Machine_step_choice : p_Machine_step_choice.dflt = [] := rfl
@[simp ↓] theorem pN_Machine_step_choice : p_Machine_step_choice.N = ["self", "row", "head"] := rfl
@[simp ↓] theorem pat_Machine_step {G : Prog} [c : GM G] : G.fns "Machine.step" = some p_Machine_step := c.at_Machine_step
@[simp ↓] theorem pio_Machine_step : p_Machine_step.io = [true] := rfl
@[simp ↓] theorem pnp_Machine_step : p_Machine_step.np = 1 := rfl
@[simp ↓] theorem pdf_Machine_step : p_Machine_step.dflt = [] := rfl
@[simp ↓] theorem pN_Machine_step : p_Machine_step.N = ["self", "row", "head", "text", "size"] := rfl
@[simp ↓] theorem pat_run {G : Prog} [c : GM G] : G.fns "run" = some p_run := c.at_run
@[simp ↓] theorem pio_run : p_run.io = [false, false, false] := rfl
@[simp ↓] theorem pnp_run : p_run.np = 3 := rfl
@[simp ↓] theorem pdf_run : p_run.dflt = [] := rfl
@[simp ↓] theorem pN_run : p_run.N = ["grammar", "text", "at", "rows", "starts", "machine"] := rfl
@[simp ↓] theorem pat_match {G : Prog} [c : GM G] : G.fns "match" = some p_match := c.at_match
@[simp ↓] theorem pio_match : p_match.io = [false, false, false] := rfl
@[simp ↓] theorem pnp_match : p_match.np = 3 := rfl
@[simp ↓] theorem pdf_match : p_match.dflt = [(.int 0)] := rfl
@[simp ↓] theorem pN_match : p_match.N = ["grammar", "text", "at"] := rfl
def p_l_stream : Fn := ⟨["script", "row", "cell", "left", "k", "seed"], 1, [false], [], [
  .asg 1 (.lst [(.int 1)]),
  .for_ (.nm 2) (.slc (.p (.v 0)) none (some (.int 63))) [.asg 3 (.b1 .abs (.x (.b1 .int (.p (.v 2))))), .for_ (.nm 4) (.rng none (.int 60)) [.ex (.app (.v 1) (.bin .mod (.var 3) (.x (.int 59)))), .asg 3 (.bin .fdiv (.var 3) (.x (.int 59))), .ite (.val (.x (.cmp .eq (.var 3) (.x (.int 0))))) [.brk] []]],
  .asg 5 (.int 7),
  .for_ (.nm 2) (.slc (.p (.v 0)) none (some (.int 63))) [.asg 5 (.bin .mod (.b1 .int (.x (.bin .add (.bin .add (.bin .mul (.var 5) (.x (.int 131))) (.p (.v 2))) (.x (.int 17))))) (.x (.int 1000003)))],
  .for_ (.nm 4) (.rng none (.int 150)) [.asg 5 (.bin .mod (.b1 .int (.x (.bin .add (.bin .add (.bin .mul (.var 5) (.x (.int 48271))) (.x (.bin .mul (.var 4) (.x (.int 69621))))) (.x (.int 11))))) (.x (.int 2147483647))), .ex (.app (.v 1) (.bin .mod (.bin .fdiv (.var 5) (.x (.int 1009))) (.x (.int 59))))],
  .retv 1]⟩
def p_l_take1 (many : String) : Fn := ⟨["row", many], 2, [true, false], [], [
  .ite (.val (.x (.cmp .lt (.idx (.p (.v 0)) (.int 0)) (.x (.b1 .len (.p (.v 0))))))) [.setI 0 (.int 0) (.bin .add (.idx (.p (.v 0)) (.int 0)) (.x (.int 1))), .ret (.bin .mod (.b1 .int (.x (.idx (.p (.v 0)) (.bin .sub (.idx (.p (.v 0)) (.int 0)) (.x (.int 1)))))) (.p (.v 1)))] [],
  .ret (.int 0)]⟩
def p_l_take2 (many : String) : Fn := ⟨["row", many], 2, [true, false], [], [
  .ite (.val (.x (.cmp .eq (.idx (.p (.v 0)) (.int 0)) (.x (.b1 .len (.p (.v 0))))))) [.ex (.app (.v 0) (.bin .mod (.bin .fdiv (.bin .mod (.b1 .int (.x (.bin .add (.bin .add (.bin .mul (.idx (.p (.v 0)) (.int 0)) (.x (.int 48271))) (.x (.bin .mul (.idx (.p (.v 0)) (.neg (.int 1))) (.x (.int 70001))))) (.x (.int 11))))) (.x (.int 2147483647))) (.x (.int 1009))) (.x (.int 59))))] [],
  .setI 0 (.int 0) (.bin .add (.idx (.p (.v 0)) (.int 0)) (.x (.int 1))),
  .ret (.bin .mod (.b1 .int (.x (.idx (.p (.v 0)) (.bin .sub (.idx (.p (.v 0)) (.int 0)) (.x (.int 1)))))) (.p (.v 1)))]⟩
class GS (G : Prog) : Prop where
  at_l_stream : G.fns "_law_stream" = some p_l_stream
class GT1 (G : Prog) where
  mn : String
  at_l_take : G.fns "_law_take" = some (p_l_take1 mn)
class GT2 (G : Prog) where
  mn : String
  at_l_take : G.fns "_law_take" = some (p_l_take2 mn)
end Gr

end
section
set_option linter.all false
set_option maxRecDepth 100000
set_option maxHeartbeats 4000000
/-! Expressions as a type, and how they are written as data. -/
namespace Gr
abbrev Nm := List Nat
inductive O where
  | star | opt | not | and
  deriving DecidableEq
inductive E where
  | eps | fail | any
  | set (s : Nm)
  | text (s : Nm)
  | call (n : Nm)
  | seq (es : List E)
  | alt (es : List E)
  | one (o : O) (e : E)
  | mark (l : Nm) (e : E)
  deriving Inhabited
def s_eps : Nm := [101, 112, 115]
def s_fail : Nm := [102, 97, 105, 108]
def s_any : Nm := [97, 110, 121]
def s_set : Nm := [115, 101, 116]
def s_text : Nm := [116, 101, 120, 116]
def s_call : Nm := [99, 97, 108, 108]
def s_seq : Nm := [115, 101, 113]
def s_alt : Nm := [97, 108, 116]
def s_mark : Nm := [109, 97, 114, 107]
def O.nm : O → Nm
  | .star => [115, 116, 97, 114]
  | .opt => [111, 112, 116]
  | .not => [110, 111, 116]
  | .and => [97, 110, 100]
mutual
def enc : E → D
  | .eps => .tup [.str [101, 112, 115]]
  | .fail => .tup [.str [102, 97, 105, 108]]
  | .any => .tup [.str [97, 110, 121]]
  | .set s => .tup [.str [115, 101, 116], .str s]
  | .text s => .tup [.str [116, 101, 120, 116], .str s]
  | .call s => .tup [.str [99, 97, 108, 108], .str s]
  | .seq es => .tup [.str [115, 101, 113], .tup (encs es)]
  | .alt es => .tup [.str [97, 108, 116], .tup (encs es)]
  | .one o e => .tup [.str o.nm, enc e]
  | .mark l e => .tup [.str [109, 97, 114, 107], .str l, enc e]
def encs : List E → List D
  | [] => []
  | e :: es => enc e :: encs es
end
theorem encs_map : ∀ es, encs es = es.map enc
  | [] => rfl
  | e :: es => by rw [encs, encs_map es]; rfl
mutual
def dep : E → Nat
  | .eps => 1
  | .fail => 1
  | .any => 1
  | .set _ => 1
  | .text _ => 1
  | .call _ => 1
  | .seq es => deps es + 1
  | .alt es => deps es + 1
  | .one _ e => dep e + 1
  | .mark _ e => dep e + 1
def deps : List E → Nat
  | [] => 0
  | e :: es => max (dep e) (deps es)
end
theorem dep_mem : ∀ {es : List E} {e : E}, e ∈ es → dep e ≤ deps es
  | x :: es, e, h => by
    rw [deps]
    rcases List.mem_cons.1 h with rfl | h
    · exact Nat.le_max_left ..
    · exact Nat.le_trans (dep_mem h) (Nat.le_max_right ..)
theorem deps_le {es : List E} {d : Nat} : deps es ≤ d ↔ ∀ e ∈ es, dep e ≤ d := by
  induction es with
  | nil => simp [deps]
  | cons x es ih => simp only [deps, List.mem_cons, forall_eq_or_imp, ← ih]; omega
abbrev Gram := List (Nm × E)
def encR (r : Nm × E) : D := .tup [.str r.1, enc r.2]
def encG (g : Gram) : D := .tup (g.map encR)
@[simp] theorem enc_eps : enc .eps = .tup [.str [101, 112, 115]] := by rw [enc]
@[simp] theorem enc_fail : enc .fail = .tup [.str [102, 97, 105, 108]] := by rw [enc]
@[simp] theorem enc_any : enc .any = .tup [.str [97, 110, 121]] := by rw [enc]
@[simp] theorem enc_set (s) : enc (.set s) = .tup [.str [115, 101, 116], .str s] := by rw [enc]
@[simp] theorem enc_text (s) : enc (.text s) = .tup [.str [116, 101, 120, 116], .str s] := by rw [enc]
@[simp] theorem enc_call (s) : enc (.call s) = .tup [.str [99, 97, 108, 108], .str s] := by rw [enc]
@[simp] theorem enc_seq (es) : enc (.seq es) = .tup [.str [115, 101, 113], .tup (es.map enc)] := by rw [enc, encs_map]
@[simp] theorem enc_alt (es) : enc (.alt es) = .tup [.str [97, 108, 116], .tup (es.map enc)] := by rw [enc, encs_map]
@[simp] theorem enc_one (o e) : enc (.one o e) = .tup [.str o.nm, enc e] := by rw [enc]
@[simp] theorem enc_mark (l e) : enc (.mark l e) = .tup [.str [109, 97, 114, 107], .str l, enc e] := by rw [enc]
@[simp] theorem nm_star : O.nm .star = [115, 116, 97, 114] := rfl
@[simp] theorem nm_opt : O.nm .opt = [111, 112, 116] := rfl
@[simp] theorem nm_not : O.nm .not = [110, 111, 116] := rfl
@[simp] theorem nm_and : O.nm .and = [97, 110, 100] := rfl

/-! ### rows -/
inductive Row where
  | text (s : Nm) | set (s : Nm) | any | fail | call (n : Nm) | ret | opn (l : Nm) | close
  | choice (t : Nat) | commit (t : Nat) | retto (t : Nat) | refuse
def Row.enc : Row → D
  | .text s => .tup [.str [116, 101, 120, 116], .str s]
  | .set s => .tup [.str [115, 101, 116], .str s]
  | .any => .tup [.str [97, 110, 121]]
  | .fail => .tup [.str [102, 97, 105, 108]]
  | .call n => .tup [.str [99, 97, 108, 108], .str n]
  | .ret => .tup [.str [114, 101, 116, 117, 114, 110]]
  | .opn l => .tup [.str [111, 112, 101, 110], .str l]
  | .close => .tup [.str [99, 108, 111, 115, 101]]
  | .choice t => .tup [.str [99, 104, 111, 105, 99, 101], .int t]
  | .commit t => .tup [.str [99, 111, 109, 109, 105, 116], .int t]
  | .retto t => .tup [.str [114, 101, 116, 117, 114, 110, 45, 116, 111], .int t]
  | .refuse => .tup [.str [114, 101, 102, 117, 115, 101]]
mutual
def len : E → Nat
  | .eps => 0
  | .fail => 1
  | .any => 1
  | .set _ => 1
  | .text _ => 1
  | .call _ => 1
  | .seq es => lens es
  | .alt es => lena es
  | .one .star e => len e + 2
  | .one .opt e => len e + 2
  | .one .not e => len e + 2
  | .one .and e => len e + 3
  | .mark _ e => len e + 2
def lens : List E → Nat
  | [] => 0
  | e :: es => len e + lens es
def lena : List E → Nat
  | [] => 1
  | [e] => len e
  | e :: es => len e + 2 + lena es
end
mutual
/-- the rows of an expression that begin at an index -/
def code : E → Nat → List Row
  | .eps, _ => []
  | .fail, _ => [.fail]
  | .any, _ => [.any]
  | .set s, _ => [.set s]
  | .text s, _ => [.text s]
  | .call n, _ => [.call n]
  | .seq es, a => codes es a
  | .alt es, a => codea es a (a + lena es)
  | .one .star e, a => .choice (a + len e + 2) :: (code e (a + 1) ++ [.commit a])
  | .one .opt e, a => .choice (a + len e + 2) :: (code e (a + 1) ++ [.commit (a + len e + 2)])
  | .one .not e, a => .choice (a + len e + 2) :: (code e (a + 1) ++ [.refuse])
  | .one .and e, a => .choice (a + len e + 2) :: (code e (a + 1) ++ [.retto (a + len e + 3), .fail])
  | .mark l e, a => .opn l :: (code e (a + 1) ++ [.close])
def codes : List E → Nat → List Row
  | [], _ => []
  | e :: es, a => code e a ++ codes es (a + len e)
/-- .. of the parts of an alt whose code ends at an index -/
def codea : List E → Nat → Nat → List Row
  | [], _, _ => [.fail]
  | [e], a, _ => code e a
  | e :: e2 :: es, a, b => .choice (a + len e + 2) :: (code e (a + 1) ++ .commit b :: codea (e2 :: es) (a + len e + 2) b)
end
mutual
theorem len_code : ∀ (e : E) (a : Nat), (code e a).length = len e
  | .eps, _ => by simp [code, len]
  | .fail, _ => by simp [code, len]
  | .any, _ => by simp [code, len]
  | .set s, _ => by simp [code, len]
  | .text s, _ => by simp [code, len]
  | .call n, _ => by simp [code, len]
  | .seq es, a => by simp [code, len, len_codes es]
  | .alt es, a => by simp [code, len, len_codea es]
  | .one .star e, a => by simp [code, len, len_code e]
  | .one .opt e, a => by simp [code, len, len_code e]
  | .one .not e, a => by simp [code, len, len_code e]
  | .one .and e, a => by simp [code, len, len_code e]
  | .mark l e, a => by simp [code, len, len_code e]
theorem len_codes : ∀ (es : List E) (a : Nat), (codes es a).length = lens es
  | [], _ => by simp [codes, lens]
  | e :: es, a => by simp [codes, lens, len_code e, len_codes es]
theorem len_codea : ∀ (es : List E) (a b : Nat), (codea es a b).length = lena es
  | [], _, _ => by simp [codea, lena]
  | [e], a, _ => by simp [codea, lena, len_code e]
  | e :: e2 :: es, a, b => by simp [codea, lena, len_code e, len_codea (e2 :: es)]; omega
end
/-- the rows of rules -/
def codeG : Gram → Nat → List Row
  | [], _ => []
  | r :: g, a => code r.2 a ++ .ret :: codeG g (a + len r.2 + 1)
def lenG : Gram → Nat
  | [] => 0
  | r :: g => len r.2 + 1 + lenG g
def startsG : Gram → Nat → List (Nm × Nat)
  | [], _ => []
  | r :: g, a => (r.1, a) :: startsG g (a + len r.2 + 1)
end Gr

end
section
set_option Elab.async false
set_option linter.all false
set_option maxRecDepth 100000
set_option maxHeartbeats 4000000
/-! What the writer writes. -/
namespace Gr
abbrev KT' := Sl → List Sl → Prop
abbrev Wr (rs : List D) (st : List (D × D)) : Sl := .obj "Writer" [("rows", true, .lst rs), ("starts", true, .dct false st)]
section
variable {G : Prog} [GM G] {n : Nat} {k : KT'} {x : String → D → Prop} {rs : List D} {st : List (D × D)}
theorem winit : G.callF (n + 1) "Writer.__init__" [.obj "Writer" []] k x = k (.val .non) [Wr [] []] := by
  rw [callF_at (GM.at_Writer_init)]; simp [p_Writer_init]
theorem wput {r : D} (h : rs.length < big) : G.callF (n + 1) "Writer.put" [Wr rs st, .val r] k x = k (.val (.int rs.length)) [Wr (rs ++ [r]) st] := by
  rw [callF_at (GM.at_Writer_put)]; simp [p_Writer_put, h]
theorem where_ : G.callF (n + 1) "Writer.here" [Wr rs st] k x = k (.val (.int rs.length)) [Wr rs st] := by
  rw [callF_at (GM.at_Writer_here)]; simp [p_Writer_here]
theorem ixN_nat {n i : Nat} (h : i < n) : ixN n (i : Int) = some i := by
  unfold ixN; rw [if_pos (by omega), if_pos (by omega)]; rfl
theorem waim {rs' rs2 : List D} {hd : Nm} {y : List D} {t : Int} (i : Nat) (hi : i = rs'.length) : G.callF (n + 1) "Writer.aim" [Wr (rs' ++ .tup (.str hd :: y) :: rs2) st, .val (.int i), .val (.int t)] k x = k (.val .non) [Wr (rs' ++ .tup [.str hd, .int t] :: rs2) st] := by
  subst hi
  rw [callF_at (GM.at_Writer_aim)]; simp [p_Writer_aim, atX_nat, ixN_nat]
end
end Gr

end
section
set_option Elab.async false
set_option linter.all false
set_option maxRecDepth 100000
set_option maxHeartbeats 4000000
namespace Gr
theorem forK_fold {α σ : Type} (g : α → D) (env : σ → Env) (step : σ → α → σ) (I : σ → List α → Prop) {tg : Tg} {body : Env → Ends → Prop} {E : Ends}
    (hI : ∀ s x xs, I s (x :: xs) → I (step s x) xs)
    (h : ∀ s x xs, I s (x :: xs) → ∀ (N : Env → Prop), (bind1K tg (g x) (env s) fun e1 => body e1 { E with nx := N, ct := N, bk := E.nx }) = N (env (step s x))) :
    ∀ (xs : List α) (s : σ), I s xs → forK tg body (xs.map g) (env s) E = E.nx (env (xs.foldl step s))
  | [], s, _ => by rw [List.map_nil, forK, List.foldl_nil]
  | y :: xs, s, hs => by
    rw [List.map_cons, forK, List.foldl_cons, h s y xs hs, forK_fold g env step I hI h xs _ (hI _ _ _ hs)]
theorem forK_ends {tg : Tg} {body : Env → Ends → Prop} : ∀ (xs : List D) (e : Env) (E E' : Ends), E.nx = E'.nx → E.rt = E'.rt → E.bk = E'.bk → E.ct = E'.ct → E.ex = E'.ex → forK tg body xs e E = forK tg body xs e E' := by
  intro xs e E E' h1 h2 h3 h4 h5
  have : E = E' := by cases E; cases E'; simp_all
  rw [this]
section
variable {G : Prog} [GM G]
/-- what stands ahead of the last part of an alt: commits aim at an index -/
def altp : List E → Nat → Nat → List Row
  | [], _, _ => []
  | e :: es, a, b => .choice (a + len e + 2) :: (code e (a + 1) ++ .commit b :: altp es (a + len e + 2) b)
def lenp : List E → Nat
  | [] => 0
  | e :: es => len e + 2 + lenp es
def endsp : List E → Nat → List Nat
  | [], _ => []
  | e :: es, a => (a + len e + 1) :: endsp es (a + len e + 2)
theorem len_altp : ∀ (es : List E) (a b : Nat), (altp es a b).length = lenp es
  | [], _, _ => rfl
  | e :: es, a, b => by simp [altp, lenp, len_code, len_altp es]; omega
theorem altp_cons (e es a b) : altp (e :: es) a b = .choice (a + len e + 2) :: (code e (a + 1) ++ .commit b :: altp es (a + len e + 2) b) := rfl
theorem lenp_cons (e es) : lenp (e :: es) = len e + 2 + lenp es := rfl
theorem codea_cc (e e2 es a b) : codea (e :: e2 :: es) a b = .choice (a + len e + 2) :: (code e (a + 1) ++ .commit b :: codea (e2 :: es) (a + len e + 2) b) := by rw [codea]
theorem lena_cc (e e2 es) : lena (e :: e2 :: es) = len e + 2 + lena (e2 :: es) := by rw [lena]; simp
theorem codea_snoc : ∀ (es : List E) (l : E) (a b : Nat), codea (es ++ [l]) a b = altp es a b ++ code l (a + lenp es)
  | [], l, a, b => by simp [codea, altp, lenp]
  | [e], l, a, b => by simp [codea, altp, lenp, Nat.add_assoc]
  | e :: e2 :: es, l, a, b => by
    have := codea_snoc (e2 :: es) l (a + len e + 2) b
    simp only [List.cons_append] at this ⊢
    rw [codea_cc, this, altp_cons e (e2 :: es), lenp_cons e]
    simp [Nat.add_assoc]
theorem lena_snoc : ∀ (es : List E) (l : E), lena (es ++ [l]) = lenp es + len l
  | [], l => by simp [lena, lenp]
  | [e], l => by simp [lena, lenp]
  | e :: e2 :: es, l => by
    have := lena_snoc (e2 :: es) l
    simp only [List.cons_append] at this ⊢
    rw [lena_cc, this, lenp_cons e]; omega
end
section
variable {G : Prog} [GM G]
abbrev WOk (G : Prog) (e : E) : Prop := ∀ (m : Nat) (k : KT') (x : String → D → Prop) (rs : List D) (st : List (D × D)), 2 * dep e + 1 ≤ m → rs.length + len e ≤ big →
  G.callF m "write" [Wr rs st, .val (enc e)] k x = k (.val .non) [Wr (rs ++ (code e rs.length).map Row.enc) st]
/-- the loop that aims the commits of an alt -/
theorem aims {n b : Nat} {st : List (D × D)} (hn : 0 < n) : ∀ (es : List E) (rs ts : List D) (s1 s2 s3 s4 s5 : Sl), b = rs.length + lenp es + ts.length →
    ∃ s5', ∀ E : Ends, forK (.nm 5) (wpSs ⟨G.fns, G.glb, G.callF n⟩ [.ex (.ocall 0 "aim" [(.var 5), (.ocall 0 "here" [])])]) ((endsp es rs.length).map fun (i : Nat) => D.int i)
      [Wr (rs ++ ((altp es rs.length 0).map Row.enc ++ ts)) st, s1, s2, s3, s4, s5] E = E.nx [Wr (rs ++ ((altp es rs.length b).map Row.enc ++ ts)) st, s1, s2, s3, s4, s5']
  | [], rs, ts, s1, s2, s3, s4, s5, _ => ⟨s5, fun E => by simp [altp, endsp]⟩
  | e :: es, rs, ts, s1, s2, s3, s4, s5, hb => by
    obtain ⟨n, rfl⟩ : ∃ j, n = j + 1 := ⟨n - 1, by omega⟩
    let rs' := rs ++ (Row.choice (rs.length + len e + 2)).enc :: ((code e (rs.length + 1)).map Row.enc ++ [(Row.commit b).enc])
    have hl : rs'.length = rs.length + len e + 2 := by simp [rs', len_code]; omega
    obtain ⟨s5', h⟩ := aims (b := b) (n := n + 1) (st := st) (Nat.succ_pos n) es rs' ts s1 s2 s3 s4 (.val (.int (rs.length + len e + 1 : Nat))) (by rw [hb, hl, lenp]; omega)
    refine ⟨s5', fun E => ?_⟩
    rw [endsp, List.map_cons, forK]
    have e1 : rs ++ ((altp (e :: es) rs.length 0).map Row.enc ++ ts) = (rs ++ (Row.choice (rs.length + len e + 2)).enc :: (code e (rs.length + 1)).map Row.enc) ++ (.tup (.str [99, 111, 109, 109, 105, 116] :: [.int 0])) :: ((altp es (rs.length + len e + 2) 0).map Row.enc ++ ts) := by
      simp [altp, Row.enc]
    have e2 : rs ++ ((altp (e :: es) rs.length b).map Row.enc ++ ts) = rs' ++ ((altp es rs'.length b).map Row.enc ++ ts) := by
      rw [hl]; simp [altp, rs']
    have e3 : rs' ++ ((altp es rs'.length 0).map Row.enc ++ ts) = (rs ++ (Row.choice (rs.length + len e + 2)).enc :: (code e (rs.length + 1)).map Row.enc) ++ (.tup [.str [99, 111, 109, 109, 105, 116], .int b]) :: ((altp es (rs.length + len e + 2) 0).map Row.enc ++ ts) := by
      rw [hl]; simp [rs', Row.enc]
    have e4 : (rs ++ ((altp (e :: es) rs.length 0).map Row.enc ++ ts)).length = b := by
      rw [hb]; simp [len_altp]; omega
    have e5 : (rs ++ (Row.choice (rs.length + len e + 2)).enc :: (code e (rs.length + 1)).map Row.enc).length = rs.length + len e + 1 := by
      simp [len_code]; omega
    rw [e2, ← h E, e3, hl]
    rw [e1] at e4 ⊢
    generalize rs ++ (Row.choice (rs.length + len e + 2)).enc :: (code e (rs.length + 1)).map Row.enc = A at *
    generalize (altp es (rs.length + len e + 2) 0).map Row.enc ++ ts = B at *
    have w1 := fun k x => where_ (G := G) (n := n) (k := k) (x := x) (rs := A ++ D.tup [.str [99, 111, 109, 109, 105, 116], .int 0] :: B) (st := st)
    have w2 := fun k x => waim (G := G) (n := n) (k := k) (x := x) (rs' := A) (rs2 := B) (hd := [99, 111, 109, 109, 105, 116]) (y := [.int 0]) (st := st) (t := b) (rs.length + len e + 1) e5.symm
    rw [e4] at w1
    generalize rs.length + len e + 1 = i at *
    simp [↓w1, ↓w2]
end
end Gr

end
section
set_option Elab.async false
set_option linter.all false
set_option maxRecDepth 100000
set_option maxHeartbeats 4000000
namespace Gr
section
variable {G : Prog} [GM G]
/-- the loop over all parts but the last -/
theorem parts {n : Nat} {st : List (D × D)} (s1 s5 : Sl) : ∀ (es : List E) (rs : List D) (en : List Nat) (s3 s4 : Sl), (∀ e ∈ es, WOk G e ∧ 2 * dep e + 1 ≤ n + 1) → rs.length + lenp es ≤ big → en.length + lenp es ≤ big →
    ∃ s3' s4', ∀ E : Ends, forK (.nm 3) (wpSs ⟨G.fns, G.glb, G.callF (n + 1)⟩ [.asg 4 (.ocall 0 "put" [(.tup [(.str [99, 104, 111, 105, 99, 101]), (.int 0)])]), .ex (.call "write" [(.var 0), (.var 3)]), .ex (.app (.v 2) (.ocall 0 "put" [(.tup [(.str [99, 111, 109, 109, 105, 116]), (.int 0)])])), .ex (.ocall 0 "aim" [(.var 4), (.ocall 0 "here" [])])])
      (es.map enc) [Wr rs st, s1, .own (.lst (en.map fun (i : Nat) => D.int i)), s3, s4, s5] E
      = E.nx [Wr (rs ++ (altp es rs.length 0).map Row.enc) st, s1, .own (.lst ((en ++ endsp es rs.length).map fun (i : Nat) => D.int i)), s3', s4', s5]
  | [], rs, en, s3, s4, _, _, _ => ⟨s3, s4, fun E => by simp [altp, endsp]⟩
  | e :: es, rs, en, s3, s4, hw, hb, hc => by
    obtain ⟨hw1, hd⟩ := hw e (List.mem_cons_self ..)
    rw [lenp_cons] at hb hc
    let rs' := rs ++ (Row.choice (rs.length + len e + 2)).enc :: ((code e (rs.length + 1)).map Row.enc ++ [(Row.commit 0).enc])
    have hl : rs'.length = rs.length + len e + 2 := by simp [rs', len_code]; omega
    obtain ⟨s3', s4', h⟩ := parts (n := n) (st := st) s1 s5 es rs' (en ++ [rs.length + len e + 1]) (.val (enc e)) (.val (.int rs.length)) (fun y hy => hw y (List.mem_cons_of_mem _ hy)) (by rw [hl]; omega) (by simp; omega)
    refine ⟨s3', s4', fun E => ?_⟩
    have e2 : rs ++ (altp (e :: es) rs.length 0).map Row.enc = rs' ++ (altp es rs'.length 0).map Row.enc := by
      rw [hl]; simp [altp, rs']
    have e3 : en ++ endsp (e :: es) rs.length = en ++ [rs.length + len e + 1] ++ endsp es rs'.length := by
      rw [hl]; simp [endsp]
    rw [List.map_cons, forK, e2, e3, ← h E]
    have p1 := fun k x => wput (G := G) (n := n) (k := k) (x := x) (rs := rs) (st := st) (r := .tup [.str [99, 104, 111, 105, 99, 101], .int 0]) (by omega)
    have p2 := fun k x => hw1 (n + 1) k x (rs ++ [.tup [.str [99, 104, 111, 105, 99, 101], .int 0]]) st hd (by simp; omega)
    have e4 : (rs ++ [D.tup [.str [99, 104, 111, 105, 99, 101], .int 0]]).length = rs.length + 1 := by simp
    rw [e4] at p2
    generalize hA : rs ++ [D.tup [.str [99, 104, 111, 105, 99, 101], .int 0]] = A at *
    have e5 : (A ++ (code e (rs.length + 1)).map Row.enc).length = rs.length + len e + 1 := by simp [e4, len_code]; omega
    have p3 := fun k x => wput (G := G) (n := n) (k := k) (x := x) (rs := A ++ (code e (rs.length + 1)).map Row.enc) (st := st) (r := .tup [.str [99, 111, 109, 109, 105, 116], .int 0]) (by omega)
    rw [e5] at p3
    have e6 : A ++ (code e (rs.length + 1)).map Row.enc ++ [D.tup [.str [99, 111, 109, 109, 105, 116], .int 0]] = rs ++ D.tup (.str [99, 104, 111, 105, 99, 101] :: [.int 0]) :: ((code e (rs.length + 1)).map Row.enc ++ [D.tup [.str [99, 111, 109, 109, 105, 116], .int 0]]) := by
      rw [← hA]; simp
    have p4 := fun k x => where_ (G := G) (n := n) (k := k) (x := x) (rs := A ++ (code e (rs.length + 1)).map Row.enc ++ [D.tup [.str [99, 111, 109, 109, 105, 116], .int 0]]) (st := st)
    have e7 : (A ++ (code e (rs.length + 1)).map Row.enc ++ [D.tup [.str [99, 111, 109, 109, 105, 116], .int 0]]).length = rs.length + len e + 2 := by
      rw [List.length_append, e5]; rfl
    rw [e7] at p4
    have p5 := fun k x => waim (G := G) (n := n) (k := k) (x := x) (rs' := rs) (hd := [99, 104, 111, 105, 99, 101]) (y := [.int 0]) (rs2 := (code e (rs.length + 1)).map Row.enc ++ [D.tup [.str [99, 111, 109, 109, 105, 116], .int 0]]) (st := st) (t := (rs.length + len e + 2 : Nat)) rs.length rfl
    rw [← e6] at p5
    have e8 : rs ++ D.tup [.str [99, 104, 111, 105, 99, 101], .int (rs.length + len e + 2 : Nat)] :: ((code e (rs.length + 1)).map Row.enc ++ [D.tup [.str [99, 111, 109, 109, 105, 116], .int 0]]) = rs' := by
      simp [rs', Row.enc]
    rw [e8] at p5
    generalize rs.length + len e + 2 = i2 at *
    generalize rs.length + len e + 1 = i1 at *
    generalize A ++ (code e (rs.length + 1)).map Row.enc = A1 at *
    generalize A1 ++ [D.tup [.str [99, 111, 109, 109, 105, 116], .int 0]] = A2 at *
    have hb' : en.length < big := by omega
    simp [↓p1, ↓p2, ↓p3, ↓p4, ↓p5, hb']
theorem alt_ok {n : Nat} {st : List (D × D)} {k : KT'} {x : String → D → Prop} {es : List E} {rs : List D} (hw : ∀ e ∈ es, WOk G e ∧ 2 * dep e + 1 ≤ n + 1) (hb : rs.length + lena es ≤ big) :
    G.callF (n + 2) "write_alt" [Wr rs st, .val (.tup (es.map enc))] k x = k (.val .non) [Wr (rs ++ (codea es rs.length (rs.length + lena es)).map Row.enc) st] := by
  rw [callF_at (GM.at_write_alt)]
  rcases List.eq_nil_or_concat es with rfl | ⟨es', l, rfl⟩
  · simp [lena] at hb
    simp [p_write_alt, ↓wput (show rs.length < big by omega), codea, Row.enc]
  · rw [List.concat_eq_append] at *
    rw [lena_snoc] at hb ⊢
    rw [codea_snoc]
    obtain ⟨s3', s4', h⟩ := parts (G := G) (n := n) (st := st) (.val (.tup (es'.map enc ++ [enc l]))) .no es' rs [] .no .no (fun e he => hw e (List.mem_append_left _ he)) (by omega) (by simp; omega)
    obtain ⟨hw1, hd⟩ := hw l (by simp)
    have p2 := fun k x => hw1 (n + 1) k x (rs ++ (altp es' rs.length 0).map Row.enc) st hd (by simp [len_altp]; omega)
    have e4 : (rs ++ (altp es' rs.length 0).map Row.enc).length = rs.length + lenp es' := by simp [len_altp]
    rw [e4] at p2
    obtain ⟨s5', h2⟩ := aims (G := G) (b := rs.length + (lenp es' + len l)) (n := n + 1) (st := st) (Nat.succ_pos n) es' rs ((code l (rs.length + lenp es')).map Row.enc) (.val (.tup (es'.map enc ++ [enc l]))) (.val (.lst ((endsp es' rs.length).map fun (i : Nat) => D.int i))) s3' s4' .no (by simp [len_code]; omega)
    have e9 : (es' ++ [l]).map enc = es'.map enc ++ [enc l] := by simp
    rw [e9]
    generalize hB : altp es' rs.length 0 = B0 at *
    have e1 : rs ++ (List.map Row.enc B0 ++ List.map Row.enc (code l (rs.length + lenp es'))) = rs ++ List.map Row.enc B0 ++ List.map Row.enc (code l (rs.length + lenp es')) := by simp
    rw [e1] at h2
    generalize rs.length + lenp es' = i2 at *
    simp [p_write_alt]
    rw [List.map_nil, List.nil_append] at h
    simp [↓h, ↓p2]
    rw [List.append_assoc] at h2
    simp [↓h2]
end
end Gr

end
section
set_option Elab.async false
set_option linter.all false
set_option maxRecDepth 100000
set_option maxHeartbeats 4000000
namespace Gr
section
variable {G : Prog} [GM G]
theorem seqs {n : Nat} {st : List (D × D)} (s1 s2 : Sl) : ∀ (es : List E) (rs : List D) (s3 : Sl), (∀ e ∈ es, WOk G e ∧ 2 * dep e + 1 ≤ n) → rs.length + lens es ≤ big →
    ∃ s3', ∀ E : Ends, forK (.nm 3) (wpSs ⟨G.fns, G.glb, G.callF n⟩ [.ex (.call "write" [(.var 0), (.var 3)])]) (es.map enc) [Wr rs st, s1, s2, s3] E = E.nx [Wr (rs ++ (codes es rs.length).map Row.enc) st, s1, s2, s3']
  | [], rs, s3, _, _ => ⟨s3, fun E => by simp [codes]⟩
  | e :: es, rs, s3, hw, hb => by
    obtain ⟨hw1, hd⟩ := hw e (List.mem_cons_self ..)
    rw [lens] at hb
    have e1 : (rs ++ (code e rs.length).map Row.enc).length = rs.length + len e := by simp [len_code]
    obtain ⟨s3', h⟩ := seqs (n := n) (st := st) s1 s2 es (rs ++ (code e rs.length).map Row.enc) (.val (enc e)) (fun y hy => hw y (List.mem_cons_of_mem _ hy)) (by rw [e1]; omega)
    refine ⟨s3', fun E => ?_⟩
    have p := fun k x => hw1 n k x rs st hd (by omega)
    rw [List.map_cons, forK, codes, List.map_append, ← List.append_assoc, ← e1, ← h E]
    simp [↓p]
theorem one_ok {n : Nat} {st : List (D × D)} {k : KT'} {x : String → D → Prop} {e : E} {o : O} {rs : List D} (hw : WOk G e) (hd : 2 * dep e + 1 ≤ n + 1) (hb : rs.length + len (.one o e) ≤ big) :
    G.callF (n + 2) "write_one" [Wr rs st, .val (.str o.nm), .val (enc e)] k x = k (.val .non) [Wr (rs ++ (code (.one o e) rs.length).map Row.enc) st] := by
  rw [callF_at (GM.at_write_one)]
  have hb1 : rs.length + len e + 2 ≤ big := by cases o <;> simp [len] at hb <;> omega
  have p1 := fun k x => wput (G := G) (n := n) (k := k) (x := x) (rs := rs) (st := st) (r := .tup [.str [99, 104, 111, 105, 99, 101], .int 0]) (by omega)
  have p2 := fun k x => hw (n + 1) k x (rs ++ [.tup [.str [99, 104, 111, 105, 99, 101], .int 0]]) st hd (by simp; omega)
  have e4 : (rs ++ [D.tup [.str [99, 104, 111, 105, 99, 101], .int 0]]).length = rs.length + 1 := by simp
  rw [e4] at p2
  have main : ∀ (r : D) (ts : List D), ∃ A A1 A2 : List D, A = rs ++ [D.tup [.str [99, 104, 111, 105, 99, 101], .int 0]] ∧ A1 = A ++ (code e (rs.length + 1)).map Row.enc ∧ A2 = A1 ++ [r] ∧ A1.length = rs.length + len e + 1 ∧ A2.length = rs.length + len e + 2 ∧
      (∀ k x (t : Int), G.callF (n + 1) "Writer.aim" [Wr A2 st, .val (.int rs.length), .val (.int t)] k x = k (.val .non) [Wr (rs ++ D.tup [.str [99, 104, 111, 105, 99, 101], .int t] :: ((code e (rs.length + 1)).map Row.enc ++ [r])) st]) := by
    intro r ts
    refine ⟨_, _, _, rfl, rfl, rfl, by simp [len_code]; omega, by simp [len_code]; omega, fun k x t => ?_⟩
    have := waim (G := G) (n := n) (k := k) (x := x) (rs' := rs) (hd := [99, 104, 111, 105, 99, 101]) (y := [.int 0]) (rs2 := (code e (rs.length + 1)).map Row.enc ++ [r]) (st := st) (t := t) rs.length rfl
    rw [← this]
    simp
  cases o with
  | star =>
    obtain ⟨A, A1, A2, hA, hA1, hA2, h1, h2, h3⟩ := main (.tup [.str [99, 111, 109, 109, 105, 116], .int rs.length]) []
    have p3 := fun k x => wput (G := G) (n := n) (k := k) (x := x) (rs := A1) (st := st) (r := .tup [.str [99, 111, 109, 109, 105, 116], .int rs.length]) (by omega)
    have p4 := fun k x => where_ (G := G) (n := n) (k := k) (x := x) (rs := A2) (st := st)
    rw [← hA] at p1 p2
    rw [← hA1] at p2
    rw [← hA2] at p3
    rw [h1] at p3
    rw [h2] at p4
    simp only [code, List.map_cons, List.map_append, List.map_nil, Row.enc]
    generalize rs.length + len e + 2 = i2 at *
    simp [p_write_one, ↓p1, ↓p2, ↓p3, ↓p4, ↓h3]
  | opt =>
    obtain ⟨A, A1, A2, hA, hA1, hA2, h1, h2, h3⟩ := main (.tup [.str [99, 111, 109, 109, 105, 116], .int (rs.length + len e + 2 : Nat)]) []
    have p3 := fun k x => wput (G := G) (n := n) (k := k) (x := x) (rs := A1) (st := st) (r := .tup [.str [99, 111, 109, 109, 105, 116], .int (rs.length + len e + 2 : Nat)]) (by omega)
    have p4 := fun k x => where_ (G := G) (n := n) (k := k) (x := x) (rs := A2) (st := st)
    have p5 := fun k x => where_ (G := G) (n := n) (k := k) (x := x) (rs := A1) (st := st)
    rw [← hA] at p1 p2
    rw [← hA1] at p2
    rw [← hA2] at p3
    rw [h1] at p3 p5
    rw [h2] at p4
    simp only [code, List.map_cons, List.map_append, List.map_nil, Row.enc]
    have e5 : ((rs.length + len e + 1 : Nat) : Int) + 1 = (rs.length + len e + 2 : Nat) := by omega
    generalize rs.length + len e + 2 = i2 at *
    generalize rs.length + len e + 1 = i1 at *
    simp [p_write_one, ↓p1, ↓p2, ↓p3, ↓p4, ↓p5, ↓h3, e5]
  | not =>
    obtain ⟨A, A1, A2, hA, hA1, hA2, h1, h2, h3⟩ := main (.tup [.str [114, 101, 102, 117, 115, 101]]) []
    have p3 := fun k x => wput (G := G) (n := n) (k := k) (x := x) (rs := A1) (st := st) (r := .tup [.str [114, 101, 102, 117, 115, 101]]) (by omega)
    have p4 := fun k x => where_ (G := G) (n := n) (k := k) (x := x) (rs := A2) (st := st)
    rw [← hA] at p1 p2
    rw [← hA1] at p2
    rw [← hA2] at p3
    rw [h1] at p3
    rw [h2] at p4
    simp only [code, List.map_cons, List.map_append, List.map_nil, Row.enc]
    generalize rs.length + len e + 2 = i2 at *
    simp [p_write_one, ↓p1, ↓p2, ↓p3, ↓p4, ↓h3]
  | and =>
    have hb2 : rs.length + len e + 3 ≤ big := by simp [len] at hb; omega
    obtain ⟨A, A1, A2, hA, hA1, hA2, h1, h2, h3⟩ := main (.tup [.str [114, 101, 116, 117, 114, 110, 45, 116, 111], .int (rs.length + len e + 3 : Nat)]) []
    have p3 := fun k x => wput (G := G) (n := n) (k := k) (x := x) (rs := A1) (st := st) (r := .tup [.str [114, 101, 116, 117, 114, 110, 45, 116, 111], .int (rs.length + len e + 3 : Nat)]) (by omega)
    have p4 := fun k x => where_ (G := G) (n := n) (k := k) (x := x) (rs := A2) (st := st)
    have p5 := fun k x => where_ (G := G) (n := n) (k := k) (x := x) (rs := A1) (st := st)
    rw [← hA] at p1 p2
    rw [← hA1] at p2
    rw [← hA2] at p3
    rw [h1] at p3 p5
    rw [h2] at p4
    simp only [code, List.map_cons, List.map_append, List.map_nil, Row.enc]
    have e5 : ((rs.length + len e + 1 : Nat) : Int) + 2 = (rs.length + len e + 3 : Nat) := by omega
    have p6 := fun k x => wput (G := G) (n := n) (k := k) (x := x) (rs := rs ++ D.tup [.str [99, 104, 111, 105, 99, 101], .int (rs.length + len e + 2 : Nat)] :: ((code e (rs.length + 1)).map Row.enc ++ [D.tup [.str [114, 101, 116, 117, 114, 110, 45, 116, 111], .int (rs.length + len e + 3 : Nat)]])) (st := st) (r := .tup [.str [102, 97, 105, 108]]) (by simp [len_code]; omega)
    generalize rs.length + len e + 3 = i3 at *
    generalize rs.length + len e + 2 = i2 at *
    generalize rs.length + len e + 1 = i1 at *
    simp [p_write_one, ↓p1, ↓p2, ↓p3, ↓p4, ↓p5, ↓h3, e5, ↓p6]
theorem write_all : ∀ (d : Nat) (e : E), dep e ≤ d → WOk G e := by
  intro d
  induction d with
  | zero => intro e h; cases e <;> simp [dep] at h
  | succ d ih =>
    intro e hd m k x rs st hm hb
    obtain ⟨m, rfl⟩ : ∃ j, m = j + 3 := ⟨m - 3, by cases e <;> simp [dep] at hm <;> omega⟩
    rw [callF_at (GM.at_write)]
    cases e with
    | eps => simp [p_write, code]
    | fail => simp [len] at hb; simp [p_write, code, ↓wput (show rs.length < big by omega), Row.enc]
    | any => simp [len] at hb; simp [p_write, code, ↓wput (show rs.length < big by omega), Row.enc]
    | set s => simp [len] at hb; simp [p_write, code, ↓wput (show rs.length < big by omega), Row.enc]
    | text s => simp [len] at hb; simp [p_write, code, ↓wput (show rs.length < big by omega), Row.enc]
    | call s => simp [len] at hb; simp [p_write, code, ↓wput (show rs.length < big by omega), Row.enc]
    | seq es =>
      rw [len] at hb
      simp only [dep] at hd hm
      obtain ⟨s3', h⟩ := seqs (G := G) (n := m + 2) (st := st) (.val (enc (.seq es))) (.val (.str [115, 101, 113])) es rs .no (fun e he => ⟨ih e (by have := dep_mem he; omega), by have := dep_mem he; omega⟩) hb
      simp only [enc_seq] at h
      simp [p_write, code, ↓h]
    | alt es =>
      rw [len] at hb
      simp only [dep] at hd hm
      have h := fun k x => alt_ok (G := G) (n := m) (st := st) (k := k) (x := x) (es := es) (rs := rs) (fun e he => ⟨ih e (by have := dep_mem he; omega), by have := dep_mem he; omega⟩) hb
      simp [p_write, code, ↓h]
    | one o e =>
      simp only [dep] at hd hm
      have h := fun k x => one_ok (G := G) (n := m) (st := st) (k := k) (x := x) (o := o) (rs := rs) (ih e (by omega)) (by omega) hb
      cases o <;> simp only [nm_star, nm_opt, nm_not, nm_and] at h <;> simp [p_write, ↓h]
    | mark l e =>
      simp only [dep] at hd hm
      rw [len] at hb
      have p2 := fun k x => ih e (by omega) (m + 2) k x (rs ++ [.tup [.str [111, 112, 101, 110], .str l]]) st (by omega) (by simp; omega)
      have p3 := fun k x => wput (G := G) (n := m + 1) (k := k) (x := x) (rs := rs ++ [.tup [.str [111, 112, 101, 110], .str l]] ++ (code e (rs.length + 1)).map Row.enc) (st := st) (r := .tup [.str [99, 108, 111, 115, 101]]) (by simp [len_code]; omega)
      rw [show (rs ++ [D.tup [.str [111, 112, 101, 110], .str l]]).length = rs.length + 1 by simp] at p2
      have p1 := fun k x => wput (G := G) (n := m + 1) (k := k) (x := x) (rs := rs) (st := st) (r := .tup [.str [111, 112, 101, 110], .str l]) (by omega)
      simp only [code, List.map_cons, List.map_append, List.map_nil, Row.enc]
      rw [show ∀ a b : D, rs ++ a :: (List.map Row.enc (code e (rs.length + 1)) ++ [b]) = rs ++ [a] ++ (code e (rs.length + 1)).map Row.enc ++ [b] by intro a b; simp]
      generalize rs ++ [D.tup [.str [111, 112, 101, 110], .str l]] = A at *
      generalize A ++ (code e (rs.length + 1)).map Row.enc = B at *
      simp [p_write, ↓p1, ↓p2, ↓p3]
end
end Gr

end
section
set_option Elab.async false
set_option linter.all false
set_option maxRecDepth 100000
set_option maxHeartbeats 4000000
/-! The machine's methods, on an abstract state. -/
namespace Gr
inductive Tr where
  | mk (l : Nm) (s e : Nat) (ts : List Tr)
  deriving Inhabited
mutual
def Tr.enc : Tr → D
  | .mk l s e ts => .tup [.str l, .int s, .int e, .tup (encTs ts)]
def encTs : List Tr → List D
  | [] => []
  | t :: ts => t.enc :: encTs ts
end
theorem encTs_map : ∀ ts, encTs ts = ts.map Tr.enc
  | [] => rfl
  | t :: ts => by rw [encTs, encTs_map ts]; rfl
@[simp] theorem Tr.enc_mk (l s e ts) : Tr.enc (.mk l s e ts) = .tup [.str l, .int s, .int e, .tup (ts.map Tr.enc)] := by rw [Tr.enc, encTs_map]
abbrev Key := Nm × Nat
abbrev Told := Option (Nat × List Tr)
abbrev Mem := List (Key × Told)
def encK (k : Key) : D := .tup [.str k.1, .int k.2]
def encT : Told → D
  | none => .non
  | some (p, ts) => .tup [.int p, .tup (ts.map Tr.enc)]
@[simp] theorem encT_none : encT none = .non := rfl
@[simp] theorem encT_some (p ts) : encT (some (p, ts)) = .tup [.int p, .tup (ts.map Tr.enc)] := rfl
@[simp] theorem encK_mk (a b) : encK (a, b) = .tup [.str a, .int b] := rfl
def encM (m : Mem) : List (D × D) := m.map fun p => (encK p.1, encT p.2)
def putM (m : Mem) (k : Key) (v : Told) : Mem := if m.any (fun p => p.1 == k) then m.map (fun p => if p.1 == k then (p.1, v) else p) else m ++ [(k, v)]
def getM : Mem → Key → Option Told
  | [], _ => none
  | (a, v) :: r, k => if a == k then some v else getM r k
theorem eqD_key (a b : Key) : eqD (encK a) (encK b) = (a == b) := by
  obtain ⟨a, i⟩ := a
  obtain ⟨b, j⟩ := b
  simp only [encK_mk, eqD_tup, eqDs_cons, eqD_str, eqD_int, eqDs_nil, Bool.and_true]
  rw [Bool.eq_iff_iff]
  simp
  intro _
  omega
theorem putD_enc (m : Mem) (k : Key) (v : Told) : putD (encM m) (encK k) (encT v) = encM (putM m k v) := by
  unfold putD putM encM
  rw [List.any_map]
  have : ((fun p : D × D => eqD p.1 (encK k)) ∘ fun p : Key × Told => (encK p.1, encT p.2)) = fun p => p.1 == k := by
    funext p; exact eqD_key _ _
  rw [this]
  split
  · rw [List.map_map, List.map_map]
    congr 1
    funext p
    simp only [Function.comp, eqD_key]
    split <;> simp
  · simp
theorem lookD_enc (m : Mem) (k : Key) : lookD (encM m) (encK k) = (getM m k).map encT := by
  induction m with
  | nil => rfl
  | cons p m ih =>
    obtain ⟨a, v⟩ := p
    simp only [encM, List.map_cons, lookD, eqD_key, getM]
    split
    · rfl
    · exact ih
theorem len_putM_le (m : Mem) (k v) : (putM m k v).length ≤ m.length + 1 := by
  unfold putM; split <;> simp
theorem len_putM_ge (m : Mem) (k v) : m.length ≤ (putM m k v).length := by
  unfold putM; split <;> simp
theorem len_encM (m : Mem) : (encM m).length = m.length := by simp [encM]
inductive Fr where
  | choice (t p m : Nat) | call (b : Nat) (k : Key) (m : Nat) | mark (l : Nm) (p m : Nat)
def Fr.enc : Fr → D
  | .choice t p m => .tup [.str [99, 104, 111, 105, 99, 101], .int t, .int p, .int m]
  | .call b k m => .tup [.str [99, 97, 108, 108], .int b, encK k, .int m]
  | .mark l p m => .tup [.str [109, 97, 114, 107], .str l, .int p, .int m]
structure Mo where
  place : Nat
  row : Nat
  stack : List Fr
  trees : List Tr
  mem : Mem
  ent : List Key
  done : Bool
  told : Told
structure Ctx where
  rows : List Row
  starts : List (Nm × Nat)
  text : Nm
def encS (s : List (Nm × Nat)) : List (D × D) := s.map fun p => (.str p.1, .int p.2)
def getS : List (Nm × Nat) → Nm → Option Nat
  | [], _ => none
  | (a, v) :: r, k => if a == k then some v else getS r k
theorem lookD_encS (s : List (Nm × Nat)) (n : Nm) : lookD (encS s) (.str n) = (getS s n).map fun (i : Nat) => .int i := by
  induction s with
  | nil => rfl
  | cons p m ih =>
    obtain ⟨a, v⟩ := p
    simp only [encS, List.map_cons, lookD, eqD_str, getS]
    split
    · rfl
    · exact ih
abbrev Mo.enc (c : Ctx) (M : Mo) : Sl := .obj "Machine" [("rows", false, .lst (c.rows.map Row.enc)), ("starts", false, .dct false (encS c.starts)), ("text", false, .str c.text), ("place", false, .int M.place),
  ("stack", true, .lst (M.stack.map Fr.enc).reverse), ("trees", true, .lst (M.trees.map Tr.enc)), ("memory", true, .dct true (encM M.mem)), ("entered", true, .lst (M.ent.map encK)), ("row", false, .int M.row), ("done", false, .bl M.done), ("told", false, encT M.told)]
/-- back to the last choice -/
def failS : List Fr → Mem → Mem × Option (Nat × Nat × Nat × List Fr)
  | [], m => (m, none)
  | .choice t p k :: S, m => (m, some (t, p, k, S))
  | .call _ key _ :: S, m => failS S (putM m key none)
  | .mark _ _ _ :: S, m => failS S m
def Mo.fail (M : Mo) : Mo :=
  match failS M.stack M.mem with
  | (m, none) => { M with mem := m, stack := [], done := true }
  | (m, some (t, p, k, S)) => { M with mem := m, stack := S, row := t, place := p, trees := M.trees.take k }
def callsIn : List Fr → Nat
  | [] => 0
  | .choice _ _ _ :: _ => 0
  | .call _ _ _ :: S => callsIn S + 1
  | .mark _ _ _ :: S => callsIn S
section
variable {G : Prog} [GM G] {n : Nat} {k : KT'} {x : String → D → Prop} {c : Ctx}
theorem minit {text : Nm} {rs : List D} {st : List (D × D)} : G.callF (n + 1) "Machine.__init__" [.obj "Machine" [], .val (.lst rs), .val (.dct false st), .val (.str text)] k x
    = k (.val .non) [.obj "Machine" [("rows", false, .lst rs), ("starts", false, .dct false st), ("text", false, .str text), ("place", false, .int 0),
  ("stack", true, .lst []), ("trees", true, .lst []), ("memory", true, .dct true []), ("entered", true, .lst []), ("row", false, .int 0), ("done", false, .bl false), ("told", false, .non)]] := by
  rw [callF_at (GM.at_Machine_init)]; simp [p_Machine_init]
/-- where a failing loop ends -/
def popS : List Fr → Mem → Mem × List Fr
  | [], m => (m, [])
  | .choice t p k :: S, m => (m, .choice t p k :: S)
  | .call _ key _ :: S, m => popS S (putM m key none)
  | .mark _ _ _ :: S, m => popS S m
theorem wh_stop {t : Env → (Bool → Env → Prop) → Prop} {body : Env → Ends → Prop} {e : Env} {E : Ends} (h : ∀ kk : Bool → Env → Prop, t e kk = kk false e) : (∃ n, whileN t body n e E) = E.nx e := by
  rw [wh_step]; simp only [h]; simp
theorem wh_go {t : Env → (Bool → Env → Prop) → Prop} {body : Env → Ends → Prop} {e e' : Env} {E : Ends} (h : ∀ kk : Bool → Env → Prop, t e kk = kk true e) (hb : ∀ N, body e { E with nx := N, ct := N, bk := E.nx } = N e') : (∃ n, whileN t body n e E) = ∃ n, whileN t body n e' E := by
  rw [wh_step]; simp only [h, if_true, hb]
end
end Gr

end
section
set_option Elab.async false
set_option linter.all false
set_option maxRecDepth 100000
set_option maxHeartbeats 4000000
namespace Gr
section
variable {G : Prog} [GM G] {n : Nat} {k : KT'} {x : String → D → Prop} {c : Ctx}
@[simp] theorem take_clamp {α β : Type} (xs : List α) (f : α → β) (q : Nat) : (xs.map f).take (clampN xs.length (q : Int)) = (xs.take q).map f := by
  rw [clamp_nat, List.map_take, ← List.length_map (f := f), take_min]
theorem failS_pop : ∀ (S : List Fr) (m : Mem), failS S m = match popS S m with
    | (m', []) => (m', none)
    | (m', .choice t p k :: S') => (m', some (t, p, k, S'))
    | (m', _ :: _) => (m', none)
  | [], m => rfl
  | .choice t p k :: S, m => rfl
  | .call _ key _ :: S, m => by rw [failS, popS, failS_pop S]
  | .mark _ _ _ :: S, m => by rw [failS, popS, failS_pop S]
theorem popS_shape : ∀ (S : List Fr) (m : Mem), (∃ m', popS S m = (m', [])) ∨ ∃ m' t p k S', popS S m = (m', .choice t p k :: S')
  | [], m => .inl ⟨m, rfl⟩
  | .choice t p k :: S, m => .inr ⟨m, t, p, k, S, rfl⟩
  | .call _ key _ :: S, m => by rw [popS]; exact popS_shape S _
  | .mark _ _ _ :: S, m => by rw [popS]; exact popS_shape S _
theorem putD_key (m : Mem) (a : Nm) (b : Nat) (v : Told) : putD (encM m) (.tup [.str a, .int b]) (encT v) = encM (putM m (a, b) v) := putD_enc m (a, b) v
theorem fail_loop (M : Mo) : ∀ (S : List Fr) (m : Mem) (s1 : Sl), m.length + callsIn S ≤ big → ∃ s1', ∀ (E : Ends) (X : Xt) (r1 r2 r3 r4 : Sl),
    (∃ j, whileN (wpT ⟨G.fns, G.glb, G.callF n⟩ X (.and_ (.val (.p (.f 0 "stack"))) (.val (.x (.cmp .ne (.idx (.x (.idx (.p (.f 0 "stack")) (.neg (.int 1)))) (.int 0)) (.x (.str [99, 104, 111, 105, 99, 101])))))))
      (wpSs ⟨G.fns, G.glb, G.callF n⟩ [.asg 1 (.pop (.f 0 "stack")), .ite (.val (.x (.cmp .eq (.idx (.p (.v 1)) (.int 0)) (.x (.str [99, 97, 108, 108]))))) [.setFI 0 "memory" (.idx (.p (.v 1)) (.int 2)) .non] []]) j
      [Mo.enc c { M with stack := S, mem := m }, s1, r1, r2, r3, r4] E)
      = E.nx [Mo.enc c { M with stack := (popS S m).2, mem := (popS S m).1 }, s1', r1, r2, r3, r4]
  | [], m, s1, hb => ⟨s1, fun E X r1 r2 r3 r4 => wh_stop fun kk => by simp⟩
  | .choice t p q :: S, m, s1, hb => ⟨s1, fun E X r1 r2 r3 r4 => wh_stop fun kk => by simp [Fr.enc, popS]⟩
  | .call b key q :: S, m, s1, hb => by
    rw [callsIn] at hb
    obtain ⟨s1', h⟩ := fail_loop M S (putM m key none) (.val (.tup [.str [99, 97, 108, 108], .int b, encK key, .int q])) (by have := len_putM_le m key none; omega)
    refine ⟨s1', fun E X r1 r2 r3 r4 => ?_⟩
    rw [wh_go (fun kk => by simp [Fr.enc]), h]
    · rfl
    · intro N
      obtain ⟨a, b2⟩ := key
      have := putD_key m a b2 none
      rw [encT_none] at this
      have hb2 : (encM m).length < big := by rw [len_encM]; omega
      simp [Fr.enc, this, hb2, Mo.enc]
  | .mark b key q :: S, m, s1, hb => by
    rw [callsIn] at hb
    obtain ⟨s1', h⟩ := fail_loop M S m (.val (.tup [.str [109, 97, 114, 107], .str b, .int key, .int q])) (by omega)
    refine ⟨s1', fun E X r1 r2 r3 r4 => ?_⟩
    rw [wh_go (fun kk => by simp [Fr.enc]), h]
    · rfl
    · intro N
      simp [Fr.enc, Mo.enc]
theorem fail_ok (M : Mo) (hb : M.mem.length + callsIn M.stack ≤ big) : G.callF (n + 1) "Machine.fail" [M.enc c] k x = k (.val .non) [M.fail.enc c] := by
  rw [callF_at (GM.at_Machine_fail)]
  obtain ⟨s1', h⟩ := fail_loop (G := G) (n := n) (c := c) M M.stack M.mem .no hb
  rw [Mo.fail, failS_pop]
  rcases popS_shape M.stack M.mem with ⟨m', e⟩ | ⟨m', t, p, q, S', e⟩
  · rw [e] at h
    rw [e]
    simp only [] at h ⊢
    simp [p_Machine_fail, ↓h, Mo.enc]
  · rw [e] at h
    rw [e]
    simp only [] at h ⊢
    simp [p_Machine_fail, ↓h, Fr.enc, Mo.enc]

def Mo.take (M : Mo) (size : Nat) (b : Bool) : Mo := if b then { M with place := M.place + size, row := M.row + 1 } else M.fail
theorem take_ok (M : Mo) (size : Nat) (b : Bool) (hb : M.mem.length + callsIn M.stack ≤ big) : G.callF (n + 2) "Machine.take" [M.enc c, .val (.int size), .val (.bl b)] k x = k (.val .non) [(M.take size b).enc c] := by
  rw [callF_at (GM.at_Machine_take)]
  cases b with
  | false =>
    have h := fun k x => fail_ok (G := G) (n := n) (k := k) (x := x) (c := c) M hb
    simp only [Mo.enc] at h
    simp [p_Machine_take, ↓h, Mo.take, Mo.enc]
  | true => simp [p_Machine_take, Mo.take, Mo.enc]
def Mo.enter (M : Mo) (c : Ctx) (name : Nm) (back : Nat) : Mo :=
  match getM M.mem (name, M.place) with
  | some none => M.fail
  | some (some (p, ts)) => { M with place := p, trees := M.trees ++ ts, row := back }
  | none => { M with ent := M.ent ++ [(name, M.place)], stack := .call back (name, M.place) M.trees.length :: M.stack, row := (getS c.starts name).getD 0 }
def Mo.okEnter (M : Mo) (c : Ctx) (name : Nm) : Prop :=
  match getM M.mem (name, M.place) with
  | some none => M.mem.length + callsIn M.stack ≤ big
  | some (some (_, ts)) => M.trees.length + ts.length ≤ big
  | none => M.ent.length < big ∧ M.stack.length < big ∧ (getS c.starts name).isSome
theorem enter_ok (M : Mo) (name : Nm) (back : Nat) (h : M.okEnter c name) : G.callF (n + 2) "Machine.enter" [M.enc c, .val (.str name), .val (.int back)] k x = k (.val .non) [(M.enter c name back).enc c] := by
  rw [callF_at (GM.at_Machine_enter)]
  unfold Mo.okEnter at h
  unfold Mo.enter
  have e := lookD_enc M.mem (name, M.place)
  rw [encK_mk] at e
  cases hg : getM M.mem (name, M.place) with
  | none =>
    rw [hg] at e h
    obtain ⟨h1, h2, h3⟩ := h
    obtain ⟨a, ha⟩ := Option.isSome_iff_exists.1 h3
    have e2 := lookD_encS c.starts name
    rw [ha] at e2
    simp at e
    simp [p_Machine_enter, e, h1, h2, e2, ha, Fr.enc, Mo.enc]
  | some t =>
    rw [hg] at e h
    cases t with
    | none =>
      have h := fun k x => fail_ok (G := G) (n := n) (k := k) (x := x) (c := c) M h
      simp only [Mo.enc] at h
      simp at e
      simp [p_Machine_enter, e, ↓h, Mo.enc]
    | some t =>
      obtain ⟨p, ts⟩ := t
      simp only [] at h
      simp at e
      simp [p_Machine_enter, e, h, Mo.enc]
end
end Gr

end
section
set_option Elab.async false
set_option linter.all false
set_option maxRecDepth 100000
set_option maxHeartbeats 4000000
namespace Gr
@[simp] theorem cut_from' {α β : Type} (xs : List α) (f : α → β) (i : Nat) : cut (xs.map f) (some (i : Int)) none = (xs.drop i).map f := by rw [cut_from, List.map_drop]
section
variable {G : Prog} [GM G] {n : Nat} {k : KT'} {x : String → D → Prop} {c : Ctx}
def Mo.leave (M : Mo) (b : Nat) (key : Key) (m : Nat) (S : List Fr) : Mo :=
  { M with mem := putM M.mem key (some (M.place, M.trees.drop m)), stack := S, row := b, done := M.done || S.isEmpty, told := if S.isEmpty then some (M.place, M.trees.drop m) else M.told }
theorem leave_ok (M : Mo) {b m : Nat} {key : Key} {S : List Fr} (hs : M.stack = .call b key m :: S) (hb : M.mem.length < big) : G.callF (n + 1) "Machine.leave" [M.enc c] k x = k (.val .non) [(M.leave b key m S).enc c] := by
  rw [callF_at (GM.at_Machine_leave)]
  obtain ⟨a, i⟩ := key
  have hb2 : (encM M.mem).length < big := by rw [len_encM]; omega
  have e := putD_key M.mem a i (some (M.place, M.trees.drop m))
  simp at e
  rcases S with _ | ⟨f, S⟩
  · simp [p_Machine_leave, hs, Fr.enc, Mo.enc, Mo.leave, hb2, e]
  · simp [p_Machine_leave, hs, Fr.enc, Mo.enc, Mo.leave, hb2, e]
def Mo.close (M : Mo) (l : Nm) (p m : Nat) (S : List Fr) : Mo :=
  { M with trees := M.trees.take m ++ [.mk l p M.place (M.trees.drop m)], stack := S, row := M.row + 1 }
theorem close_ok (M : Mo) {p m : Nat} {l : Nm} {S : List Fr} (hs : M.stack = .mark l p m :: S) (hb : M.trees.length < big) : G.callF (n + 1) "Machine.close" [M.enc c] k x = k (.val .non) [(M.close l p m S).enc c] := by
  rw [callF_at (GM.at_Machine_close)]
  have : (List.map Tr.enc (List.take m M.trees)).length < big := by simp; omega
  simp at this
  simp [p_Machine_close, hs, Fr.enc, Mo.enc, Mo.close, this]
def Mo.back (M : Mo) (p m : Nat) (S : List Fr) (t : Nat) : Mo := { M with place := p, trees := M.trees.take m, stack := S, row := t }
theorem mback_ok (M : Mo) {p m t o : Nat} {S : List Fr} (hs : M.stack = .choice o p m :: S) : G.callF (n + 1) "Machine.step_back" [M.enc c, .val (.int t)] k x = k (.val .non) [(M.back p m S t).enc c] := by
  rw [callF_at (GM.at_Machine_step_back)]
  simp [p_Machine_step_back, hs, Fr.enc, Mo.enc, Mo.back]
/-- what a row does -/
inductive Stp (c : Ctx) (M : Mo) : Row → Mo → Prop
  | text {s} (hb : M.mem.length + callsIn M.stack ≤ big) : Stp c M (.text s) (M.take s.length (((c.text.take (M.place + s.length)).drop M.place) == s))
  | set {s} (hb : M.mem.length + callsIn M.stack ≤ big) : Stp c M (.set s) (M.take 1 (match c.text[M.place]? with | some ch => s.contains ch | none => false))
  | any (hb : M.mem.length + callsIn M.stack ≤ big) : Stp c M .any (M.take 1 (decide (M.place < c.text.length)))
  | fail (hb : M.mem.length + callsIn M.stack ≤ big) : Stp c M .fail M.fail
  | call {nm} (hb : M.okEnter c nm) : Stp c M (.call nm) (M.enter c nm (M.row + 1))
  | ret {b key m S} (hs : M.stack = .call b key m :: S) (hb : M.mem.length < big) : Stp c M .ret (M.leave b key m S)
  | opn {l} (hb : M.stack.length < big) : Stp c M (.opn l) { M with stack := .mark l M.place M.trees.length :: M.stack, row := M.row + 1 }
  | close {l p m S} (hs : M.stack = .mark l p m :: S) (hb : M.trees.length < big) : Stp c M .close (M.close l p m S)
  | choice {t} (hb : M.stack.length < big) : Stp c M (.choice t) { M with stack := .choice t M.place M.trees.length :: M.stack, row := M.row + 1 }
  | commit {t f S} (hs : M.stack = f :: S) : Stp c M (.commit t) { M with stack := S, row := t }
  | retto {t o p m S} (hs : M.stack = .choice o p m :: S) : Stp c M (.retto t) (M.back p m S t)
  | refuse {f S} (hs : M.stack = f :: S) (hb : M.mem.length + callsIn S ≤ big) : Stp c M .refuse ({ M with stack := S } : Mo).fail
theorem choice_ok (M : Mo) {t : Nat} (hb : M.stack.length < big) : G.callF (n + 1) "Machine.step_choice" [M.enc c, .val (Row.choice t).enc] k x = k (.val .non) [({ M with stack := .choice t M.place M.trees.length :: M.stack, row := M.row + 1 } : Mo).enc c] := by
  rw [callF_at (GM.at_Machine_step_choice)]
  simp [p_Machine_step_choice, Fr.enc, Mo.enc, Row.enc, hb]
theorem commit_ok (M : Mo) {t : Nat} {f S} (hs : M.stack = f :: S) : G.callF (n + 1) "Machine.step_choice" [M.enc c, .val (Row.commit t).enc] k x = k (.val .non) [({ M with stack := S, row := t } : Mo).enc c] := by
  rw [callF_at (GM.at_Machine_step_choice)]
  simp [p_Machine_step_choice, Mo.enc, Row.enc, hs]
theorem retto_ok (M : Mo) {t o p m : Nat} {S} (hs : M.stack = .choice o p m :: S) : G.callF (n + 2) "Machine.step_choice" [M.enc c, .val (Row.retto t).enc] k x = k (.val .non) [(M.back p m S t).enc c] := by
  rw [callF_at (GM.at_Machine_step_choice)]
  have h := fun k x => mback_ok (G := G) (n := n) (k := k) (x := x) (c := c) M (t := t) hs
  simp only [Mo.enc] at h
  simp [p_Machine_step_choice, Mo.enc, Row.enc, ↓h]
theorem refuse_ok (M : Mo) {f S} (hs : M.stack = f :: S) (hb : M.mem.length + callsIn S ≤ big) : G.callF (n + 2) "Machine.step_choice" [M.enc c, .val Row.refuse.enc] k x = k (.val .non) [(({ M with stack := S } : Mo).fail).enc c] := by
  rw [callF_at (GM.at_Machine_step_choice)]
  have h := fun k x => fail_ok (G := G) (n := n) (k := k) (x := x) (c := c) { M with stack := S } hb
  simp only [Mo.enc] at h
  simp [p_Machine_step_choice, Mo.enc, Row.enc, hs, ↓h]
@[simp] theorem cut_mid' (xs : Nm) (i j : Nat) : cut xs (some (i : Int)) (some ((i : Int) + (j : Int))) = (xs.take (i + j)).drop i := by
  rw [show (i : Int) + (j : Int) = ((i + j : Nat) : Int) by omega, cut_mid]
theorem step_ok (M : Mo) {r : Row} {M' : Mo} (hr : c.rows[M.row]? = some r) (h : Stp c M r M') : G.callF (n + 3) "Machine.step" [M.enc c] k x = k (.val .non) [M'.enc c] := by
  rw [callF_at (GM.at_Machine_step)]
  have hi : atX (c.rows.map Row.enc) (M.row : Int) = some r.enc := by rw [atX_nat, List.getElem?_map, hr]; rfl
  cases h with
  | text hb =>
    rename_i s
    have h := fun b k x => take_ok (G := G) (n := n) (k := k) (x := x) (c := c) M s.length b hb
    simp only [Mo.enc] at h
    simp [p_Machine_step, hi, Row.enc, ↓h, Mo.enc]
  | set hb =>
    have h := fun b k x => take_ok (G := G) (n := n) (k := k) (x := x) (c := c) M 1 b hb
    simp only [Mo.enc, show ((1 : Nat) : Int) = 1 from rfl] at h
    cases hc : c.text[M.place]? with
    | none =>
      have := List.getElem?_eq_none_iff.1 hc
      simp [p_Machine_step, hi, Row.enc, ↓h, Mo.enc, show ¬ (M.place < c.text.length) by omega]
    | some ch =>
      obtain ⟨this, e2⟩ := List.getElem?_eq_some_iff.1 hc
      simp [p_Machine_step, hi, Row.enc, ↓h, Mo.enc, this, hc, e2, atX_nat]
  | any hb =>
    have h := fun b k x => take_ok (G := G) (n := n) (k := k) (x := x) (c := c) M 1 b hb
    simp only [Mo.enc, show ((1 : Nat) : Int) = 1 from rfl] at h
    simp [p_Machine_step, hi, Row.enc, ↓h, Mo.enc]
  | fail hb =>
    have h := fun k x => fail_ok (G := G) (n := n + 1) (k := k) (x := x) (c := c) M hb
    simp only [Mo.enc] at h
    simp [p_Machine_step, hi, Row.enc, ↓h, Mo.enc]
  | call hb =>
    rename_i nm
    have h := fun k x => enter_ok (G := G) (n := n) (k := k) (x := x) (c := c) M nm (M.row + 1) hb
    simp only [Mo.enc] at h
    simp at h
    simp [p_Machine_step, hi, Row.enc, ↓h, Mo.enc]
  | ret hs hb =>
    have h := fun k x => leave_ok (G := G) (n := n + 1) (k := k) (x := x) (c := c) M hs hb
    simp only [Mo.enc] at h
    simp [p_Machine_step, hi, Row.enc, ↓h, Mo.enc]
  | opn hb =>
    simp [p_Machine_step, hi, Row.enc, Mo.enc, Fr.enc, hb]
  | close hs hb =>
    have h := fun k x => close_ok (G := G) (n := n + 1) (k := k) (x := x) (c := c) M hs hb
    simp only [Mo.enc] at h
    simp [p_Machine_step, hi, Row.enc, ↓h, Mo.enc]
  | choice hb =>
    rename_i t
    have h := fun k x => choice_ok (G := G) (n := n + 1) (k := k) (x := x) (c := c) M (t := t) hb
    simp only [Mo.enc, Row.enc] at h
    simp [p_Machine_step, hi, Row.enc, ↓h, Mo.enc]
  | commit hs =>
    rename_i t f S
    have h := fun k x => commit_ok (G := G) (n := n + 1) (k := k) (x := x) (c := c) M (t := t) hs
    simp only [Mo.enc, Row.enc] at h
    simp [p_Machine_step, hi, Row.enc, ↓h, Mo.enc]
  | retto hs =>
    rename_i t o p m S
    have h := fun k x => retto_ok (G := G) (n := n) (k := k) (x := x) (c := c) M (t := t) hs
    simp only [Mo.enc, Row.enc] at h
    simp [p_Machine_step, hi, Row.enc, ↓h, Mo.enc]
  | refuse hs hb =>
    have h := fun k x => refuse_ok (G := G) (n := n) (k := k) (x := x) (c := c) M hs hb
    simp only [Mo.enc, Row.enc] at h
    simp [p_Machine_step, hi, Row.enc, ↓h, Mo.enc]
end
end Gr

end
section
set_option Elab.async false
set_option linter.all false
set_option maxRecDepth 100000
set_option maxHeartbeats 4000000
/-! The big-step reading with memory, and that the machine does it. -/
namespace Gr
structure St where
  mem : Mem
  ent : List Key
inductive It where
  | e (x : E) | seqs (es : List E) | alts (es : List E)
def bodyG : Gram → Nm → Option E
  | [], _ => none
  | (a, e) :: r, k => if a == k then some e else bodyG r k
def cat (t : List Tr) : Told → Told
  | some (p, ts) => some (p, t ++ ts)
  | none => none
def tlen : Told → Nat
  | some (_, ts) => ts.length
  | none => 0
/-- a piece that takes some characters: how many, and whether it does -/
def basic (tx : Nm) : E → Nat → Option (Nat × Bool)
  | .any, p => some (1, decide (p < tx.length))
  | .set s, p => some (1, match tx[p]? with | some ch => s.contains ch | none => false)
  | .text s, p => some (s.length, ((tx.take (p + s.length)).drop p) == s)
  | _, _ => none
inductive Ev (gr : Gram) (tx : Nm) : It → Nat → St → Told → St → Nat → Prop
  | eps {p s W} : Ev gr tx (.e .eps) p s (some (p, [])) s W
  | fail {p s W} : Ev gr tx (.e .fail) p s none s W
  | takeT {e p s sz W} (h : basic tx e p = some (sz, true)) : Ev gr tx (.e e) p s (some (p + sz, [])) s W
  | takeF {e p s sz W} (h : basic tx e p = some (sz, false)) : Ev gr tx (.e e) p s none s W
  | hit {n p s r W} (h : getM s.mem (n, p) = some r) (hw : tlen r ≤ W) : Ev gr tx (.e (.call n)) p s r s W
  | miss {n p s r e s1 W W'} (h : getM s.mem (n, p) = none) (hb : bodyG gr n = some e) (h1 : Ev gr tx (.e e) p ⟨s.mem, s.ent ++ [(n, p)]⟩ r s1 W) (hw : W + 1 ≤ W') : Ev gr tx (.e (.call n)) p s r ⟨putM s1.mem (n, p) r, s1.ent⟩ W'
  | seq {es p s r s' W} (h : Ev gr tx (.seqs es) p s r s' W) : Ev gr tx (.e (.seq es)) p s r s' W
  | alt {es p s r s' W} (h : Ev gr tx (.alts es) p s r s' W) : Ev gr tx (.e (.alt es)) p s r s' W
  | nil {p s W} : Ev gr tx (.seqs []) p s (some (p, [])) s W
  | consF {e es p s s1 W} (h : Ev gr tx (.e e) p s none s1 W) : Ev gr tx (.seqs (e :: es)) p s none s1 W
  | consT {e es p s p1 t1 s1 r s2 W W2} (h : Ev gr tx (.e e) p s (some (p1, t1)) s1 W) (h2 : Ev gr tx (.seqs es) p1 s1 r s2 W2) (hw : t1.length + W2 ≤ W) : Ev gr tx (.seqs (e :: es)) p s (cat t1 r) s2 W
  | altN {p s W} : Ev gr tx (.alts []) p s none s W
  | alt1 {e p s r s' W} (h : Ev gr tx (.e e) p s r s' W) : Ev gr tx (.alts [e]) p s r s' W
  | altT {e e2 es p s r s1 W W'} (h : Ev gr tx (.e e) p s (some r) s1 W) (hw : W + 1 ≤ W') : Ev gr tx (.alts (e :: e2 :: es)) p s (some r) s1 W'
  | altF {e e2 es p s s1 r s2 W W'} (h : Ev gr tx (.e e) p s none s1 W) (h2 : Ev gr tx (.alts (e2 :: es)) p s1 r s2 W') (hw : W + 1 ≤ W') : Ev gr tx (.alts (e :: e2 :: es)) p s r s2 W'
  | starF {e p s s1 W W'} (h : Ev gr tx (.e e) p s none s1 W) (hw : W + 1 ≤ W') : Ev gr tx (.e (.one .star e)) p s (some (p, [])) s1 W'
  | starT {e p s p1 t1 s1 r s2 W W2 W'} (h : Ev gr tx (.e e) p s (some (p1, t1)) s1 W) (hw : W + 1 ≤ W') (h2 : Ev gr tx (.e (.one .star e)) p1 s1 (some r) s2 W2) (hw2 : t1.length + W2 ≤ W') : Ev gr tx (.e (.one .star e)) p s (cat t1 (some r)) s2 W'
  | optF {e p s s1 W W'} (h : Ev gr tx (.e e) p s none s1 W) (hw : W + 1 ≤ W') : Ev gr tx (.e (.one .opt e)) p s (some (p, [])) s1 W'
  | optT {e p s r s1 W W'} (h : Ev gr tx (.e e) p s (some r) s1 W) (hw : W + 1 ≤ W') : Ev gr tx (.e (.one .opt e)) p s (some r) s1 W'
  | notF {e p s s1 W W'} (h : Ev gr tx (.e e) p s none s1 W) (hw : W + 1 ≤ W') : Ev gr tx (.e (.one .not e)) p s (some (p, [])) s1 W'
  | notT {e p s r s1 W W'} (h : Ev gr tx (.e e) p s (some r) s1 W) (hw : W + 1 ≤ W') : Ev gr tx (.e (.one .not e)) p s none s1 W'
  | andF {e p s s1 W W'} (h : Ev gr tx (.e e) p s none s1 W) (hw : W + 1 ≤ W') : Ev gr tx (.e (.one .and e)) p s none s1 W'
  | andT {e p s r s1 W W'} (h : Ev gr tx (.e e) p s (some r) s1 W) (hw : W + 1 ≤ W') : Ev gr tx (.e (.one .and e)) p s (some (p, [])) s1 W'
  | markF {l e p s s1 W W'} (h : Ev gr tx (.e e) p s none s1 W) (hw : W + 1 ≤ W') : Ev gr tx (.e (.mark l e)) p s none s1 W'
  | markT {l e p s p1 t1 s1 W W'} (h : Ev gr tx (.e e) p s (some (p1, t1)) s1 W) (hw : W + 1 ≤ W') : Ev gr tx (.e (.mark l e)) p s (some (p1, [.mk l p p1 t1])) s1 W'
theorem tlen_cat (t : List Tr) (r : Told) : tlen (cat t r) ≤ t.length + tlen r := by
  cases r with
  | none => simp [cat, tlen]
  | some r => obtain ⟨p, ts⟩ := r; simp [cat, tlen]
variable {gr : Gram} {tx : Nm}
theorem Ev.tl {i p s r s' W} (h : Ev gr tx i p s r s' W) : tlen r ≤ W := by
  induction h with
  | consT h h2 hw ih ih2 => have := tlen_cat ‹_› ‹Told›; omega
  | starT h hw h2 hw2 ih ih2 => exact Nat.le_trans (tlen_cat _ _) (by omega)
  | markT => simp [tlen]; omega
  | _ => first | (simp [tlen]; done) | omega
theorem Ev.mono {i p s r s' W} (h : Ev gr tx i p s r s' W) : s.mem.length ≤ s'.mem.length ∧ s.ent.length ≤ s'.ent.length := by
  induction h with
  | miss h hb h1 hw ih =>
    simp only [List.length_append, List.length_singleton] at ih
    exact ⟨Nat.le_trans ih.1 (len_putM_ge ..), by simp only; omega⟩
  | _ => first | exact ⟨Nat.le_refl _, Nat.le_refl _⟩ | assumption | omega
/-- rows stand at an index -/
def At (rows : List Row) (a : Nat) (rs : List Row) : Prop := ∃ pre post, rows = pre ++ (rs ++ post) ∧ pre.length = a
theorem At.left {rows : List Row} {a : Nat} {x y : List Row} (h : At rows a (x ++ y)) : At rows a x := by
  obtain ⟨pre, post, e, l⟩ := h
  exact ⟨pre, y ++ post, by rw [e, List.append_assoc], l⟩
theorem At.right {rows : List Row} {a : Nat} {x y : List Row} (h : At rows a (x ++ y)) : At rows (a + x.length) y := by
  obtain ⟨pre, post, e, l⟩ := h
  exact ⟨pre ++ x, post, by rw [e]; simp, by simp [l]⟩
theorem At.head {rows : List Row} {a : Nat} {x : Row} {y : List Row} (h : At rows a (x :: y)) : rows[a]? = some x := by
  obtain ⟨pre, post, e, l⟩ := h
  rw [e, ← l]; simp
theorem At.tail {rows : List Row} {a : Nat} {x : Row} {y : List Row} (h : At rows a (x :: y)) : At rows (a + 1) y := At.right (x := [x]) h
inductive Run (c : Ctx) : Mo → Mo → Prop
  | refl {M} : Run c M M
  | step {M r M1 M2} (hd : M.done = false) (hr : c.rows[M.row]? = some r) (h : Stp c M r M1) (t : Run c M1 M2) : Run c M M2
theorem Run.trans {c : Ctx} {A B C : Mo} (h : Run c A B) (h2 : Run c B C) : Run c A C := by
  induction h with
  | refl => exact h2
  | step hd hr h t ih => exact .step hd hr h (ih h2)
theorem callsIn_le : ∀ S : List Fr, callsIn S ≤ S.length
  | [] => Nat.le_refl _
  | .choice _ _ _ :: _ => Nat.zero_le _
  | .call _ _ _ :: S => Nat.succ_le_succ (callsIn_le S)
  | .mark _ _ _ :: S => Nat.le_succ_of_le (callsIn_le S)
end Gr

end
section
set_option Elab.async false
set_option linter.all false
set_option maxRecDepth 100000
set_option maxHeartbeats 4000000
namespace Gr
variable {gr : Gram} {tx : Nm} {c : Ctx}
abbrev mo (p a : Nat) (S : List Fr) (T : List Tr) (s : St) (told : Told) : Mo := ⟨p, a, S, T, s.mem, s.ent, false, told⟩
def itCode : It → Nat → List Row
  | .e x, a => code x a
  | .seqs es, a => codes es a
  | .alts es, a => codea es a (a + lena es)
def itLen : It → Nat
  | .e x => len x
  | .seqs es => lens es
  | .alts es => lena es
def Out (c : Ctx) (p a : Nat) (S : List Fr) (T : List Tr) (s : St) (told : Told) (s' : St) (L : Nat) : Told → Prop
  | some (p', ts) => Run c (mo p a S T s told) (mo p' (a + L) S (T ++ ts) s' told)
  | none => ∃ q b J, Run c (mo p a S T s told) (mo q b S (T ++ J) s' told).fail
theorem fail_choice {q b t p0 : Nat} {S T J s told} : (mo q b (.choice t p0 T.length :: S) (T ++ J) s told).fail = mo p0 t S T s told := by
  simp [Mo.fail, failS]
theorem fail_mark {q b l p m S T s told} : (mo q b (.mark l p m :: S) T s told).fail = (mo q b S T s told).fail := by
  simp [Mo.fail, failS]
theorem fail_call {q b bk key m S T s told} : (mo q b (.call bk key m :: S) T s told).fail = (mo q b S T ⟨putM s.mem key none, s.ent⟩ told).fail := by
  simp [Mo.fail, failS]
theorem stepR {M M1 M2 : Mo} {r : Row} (hd : M.done = false) (hr : c.rows[M.row]? = some r) (h : Stp c M r M1) (t : Run c M1 M2) : Run c M M2 := .step hd hr h t
theorem basic_row {x : E} {p sz : Nat} {b : Bool} (h : basic tx x p = some (sz, b)) (ht : c.text = tx) {a : Nat} (hc : At c.rows a (code x a)) {M : Mo} (hM : M.place = p) (hb : M.mem.length + callsIn M.stack ≤ big) : len x = 1 ∧ ∃ r, c.rows[a]? = some r ∧ Stp c M r (M.take sz b) := by
  subst hM ht
  cases x <;> simp only [basic, Option.some.injEq, Prod.mk.injEq, reduceCtorEq] at h
  · obtain ⟨rfl, rfl⟩ := h
    rw [code] at hc
    exact ⟨by rw [len], _, hc.head, .any hb⟩
  · obtain ⟨rfl, rfl⟩ := h
    rw [code] at hc
    exact ⟨by rw [len], _, hc.head, .set hb⟩
  · obtain ⟨rfl, rfl⟩ := h
    rw [code] at hc
    exact ⟨by rw [len], _, hc.head, .text hb⟩
theorem Ev.sim (hs : ∀ n e, bodyG gr n = some e → ∃ a, getS c.starts n = some a ∧ At c.rows a (code e a ++ [.ret])) (ht : c.text = tx) {it p s r s' W} (h : Ev gr tx it p s r s' W) :
    ∀ a S T told, S ≠ [] → At c.rows a (itCode it a) → s'.mem.length + S.length + W ≤ big → s'.ent.length ≤ big → T.length + W ≤ big → Out c p a S T s told s' (itLen it) r := by
  induction h with
  | eps => intro a S T told hS hc h1 h2 h3; simp only [Out, itLen, len, List.append_nil, Nat.add_zero]; exact .refl
  | nil => intro a S T told hS hc h1 h2 h3; simp only [Out, itLen, lens, List.append_nil, Nat.add_zero]; exact .refl
  | @fail p s W =>
    intro a S T told hS hc h1 h2 h3
    simp only [itCode, code] at hc
    have := callsIn_le S
    refine ⟨p, a, [], ?_⟩
    rw [List.append_nil]
    exact stepR rfl hc.head (.fail (by show s.mem.length + callsIn S ≤ big; omega)) .refl
  | @altN p s W =>
    intro a S T told hS hc h1 h2 h3
    simp only [itCode, codea] at hc
    have := callsIn_le S
    refine ⟨p, a, [], ?_⟩
    rw [List.append_nil]
    exact stepR rfl hc.head (.fail (by show s.mem.length + callsIn S ≤ big; omega)) .refl
  | @takeT x p s sz W h =>
    intro a S T told hS hc h1 h2 h3
    have := callsIn_le S
    obtain ⟨hl, r, hr, hst⟩ := basic_row (c := c) h ht hc (M := mo p a S T s told) rfl (by show s.mem.length + callsIn S ≤ big; omega)
    simp only [Out, itLen, hl, List.append_nil]
    exact stepR rfl hr hst .refl
  | @takeF x p s sz W h =>
    intro a S T told hS hc h1 h2 h3
    have := callsIn_le S
    obtain ⟨hl, r, hr, hst⟩ := basic_row (c := c) h ht hc (M := mo p a S T s told) rfl (by show s.mem.length + callsIn S ≤ big; omega)
    refine ⟨p, a, [], ?_⟩
    rw [List.append_nil]
    exact stepR rfl hr hst .refl
  | @hit n p s r W h hw =>
    intro a S T told hS hc h1 h2 h3
    simp only [itCode, code] at hc
    have := callsIn_le S
    have ho : (mo p a S T s told).okEnter c n := by
      unfold Mo.okEnter
      show match getM s.mem (n, p) with | some none => s.mem.length + callsIn S ≤ big | some (some (_, ts)) => T.length + ts.length ≤ big | none => _
      rw [h]
      cases r with
      | none => show s.mem.length + callsIn S ≤ big; omega
      | some r => simp [tlen] at hw; show T.length + r.2.length ≤ big; omega
    have hst := Stp.call ho
    unfold Mo.enter at hst
    simp only [] at hst
    rw [h] at hst
    cases r with
    | none =>
      refine ⟨p, a, [], ?_⟩
      rw [List.append_nil]
      exact stepR rfl hc.head hst .refl
    | some r =>
      obtain ⟨q, ts⟩ := r
      simp only [Out, itLen, len]
      exact stepR rfl hc.head hst .refl
  | @miss n p s r e s1 W W' h hb h1 hw ih =>
    intro a S T told hS hc b1 b2 b3
    simp only [itCode, code] at hc
    obtain ⟨a2, hg, hp⟩ := hs n e hb
    have hm := h1.mono
    simp only [List.length_append, List.length_singleton] at hm
    have hpm := len_putM_ge s1.mem (n, p) r
    simp only at b1 b2
    have ho : (mo p a S T s told).okEnter c n := by
      unfold Mo.okEnter
      show match getM s.mem (n, p) with | some none => s.mem.length + callsIn S ≤ big | some (some (_, ts)) => T.length + ts.length ≤ big | none => s.ent.length < big ∧ S.length < big ∧ (getS c.starts n).isSome
      rw [h]
      exact ⟨by omega, by omega, by rw [hg]; rfl⟩
    have hst := Stp.call ho
    unfold Mo.enter at hst
    simp only [] at hst
    rw [h] at hst
    simp only [hg, Option.getD_some] at hst
    have ih := ih a2 (.call (a + 1) (n, p) T.length :: S) T told (fun z => nomatch z) hp.left (by simp only [List.length_cons]; omega) (by omega) (by omega)
    cases r with
    | none =>
      obtain ⟨q, b, J, ih⟩ := ih
      refine ⟨q, b, J, stepR rfl hc.head hst ?_⟩
      rw [fail_call] at ih
      exact ih
    | some r =>
      obtain ⟨q, ts⟩ := r
      simp only [Out, itLen, len]
      refine stepR rfl hc.head hst (.trans ih ?_)
      have hr := hp.right.head
      rw [len_code] at hr
      have hl : s1.mem.length < big := by have := hm.1; omega
      refine stepR rfl hr (.ret rfl hl) ?_
      unfold Mo.leave
      simp only [List.drop_left]
      rcases S with _ | ⟨f, S⟩
      · exact (hS rfl).elim
      · exact .refl
  | seq h ih => intro a S T told hS hc; simp only [itCode, code] at hc; simp only [itLen, len]; exact ih a S T told hS hc
  | alt h ih => intro a S T told hS hc; simp only [itCode, code] at hc; simp only [itLen, len]; exact ih a S T told hS hc
  | @consF e es p s s1 W h ih =>
    intro a S T told hS hc h1 h2 h3
    simp only [itCode, codes] at hc
    exact ih a S T told hS hc.left h1 h2 h3
  | @consT e es p s p1 t1 s1 r s2 W W2 h h2 hw ih ih2 =>
    intro a S T told hS hc b1 b2 b3
    simp only [itCode, codes] at hc
    have hm := h2.mono
    have hc2 := hc.right
    rw [len_code] at hc2
    have i1 := ih a S T told hS hc.left (by omega) (by omega) b3
    have i2 := ih2 (a + len e) S (T ++ t1) told hS hc2 (by omega) b2 (by rw [List.length_append]; omega)
    cases r with
    | none =>
      obtain ⟨q, b, J, i2⟩ := i2
      refine ⟨q, b, t1 ++ J, ?_⟩
      rw [← List.append_assoc]
      exact .trans i1 i2
    | some r =>
      obtain ⟨q, ts⟩ := r
      simp only [Out, cat, itLen, lens, ← List.append_assoc, ← Nat.add_assoc] at i2 ⊢
      exact .trans i1 i2
  | @alt1 e p s r s' W h ih =>
    intro a S T told hS hc h1 h2 h3
    simp only [itCode, codea] at hc
    simp only [itLen, lena]
    exact ih a S T told hS hc h1 h2 h3
  | @altT e e2 es p s r s1 W W' h hw ih =>
    intro a S T told hS hc h1 h2 h3
    simp only [itCode, codea_cc] at hc
    have i1 := ih (a + 1) (.choice (a + len e + 2) p T.length :: S) T told (fun z => nomatch z) hc.tail.left (by simp only [List.length_cons]; omega) h2 (by omega)
    have hr := hc.tail.right.head
    rw [len_code] at hr
    obtain ⟨q, ts⟩ := r
    simp only [Out, itLen] at i1 ⊢
    exact stepR rfl hc.head (.choice (by show S.length < big; omega)) (.trans i1 (stepR rfl hr (.commit rfl) .refl))
  | @altF e e2 es p s s1 r s2 W W' h h2 hw ih ih2 =>
    intro a S T told hS hc b1 b2 b3
    simp only [itCode, codea_cc] at hc
    have hm := h2.mono
    obtain ⟨q, b, J, i1⟩ := ih (a + 1) (.choice (a + len e + 2) p T.length :: S) T told (fun z => nomatch z) hc.tail.left (by simp only [List.length_cons]; omega) (by omega) (by omega)
    rw [fail_choice] at i1
    have hr := hc.tail.right.tail
    rw [len_code, show a + 1 + len e + 1 = a + len e + 2 by omega] at hr
    have e0 : a + lena (e :: e2 :: es) = a + len e + 2 + lena (e2 :: es) := by rw [lena_cc]; omega
    rw [e0] at hr
    have i2 := ih2 (a + len e + 2) S T told hS hr b1 b2 b3
    have first := stepR (c := c) (M := mo p a S T s told) rfl hc.head (.choice (by show S.length < big; omega)) i1
    cases r with
    | none =>
      obtain ⟨q, b, J, i2⟩ := i2
      exact ⟨q, b, J, .trans first i2⟩
    | some r =>
      obtain ⟨q, ts⟩ := r
      simp only [Out, itLen] at i2 ⊢
      rw [e0]
      exact .trans first i2
  | @starF e p s s1 W W' h hw ih =>
    intro a S T told hS hc h1 h2 h3
    simp only [itCode, code] at hc
    obtain ⟨q, b, J, i1⟩ := ih (a + 1) (.choice (a + len e + 2) p T.length :: S) T told (fun z => nomatch z) hc.tail.left (by simp only [List.length_cons]; omega) h2 (by omega)
    rw [fail_choice] at i1
    simp only [Out, itLen, len, List.append_nil]
    exact stepR rfl hc.head (.choice (by show S.length < big; omega)) i1
  | @starT e p s p1 t1 s1 r s2 W W2 W' h hw h2 hw2 ih ih2 =>
    intro a S T told hS hc b1 b2 b3
    have hm := h2.mono
    have i2 := ih2 a S (T ++ t1) told hS hc (by omega) b2 (by rw [List.length_append]; omega)
    simp only [itCode, code] at hc
    have i1 := ih (a + 1) (.choice (a + len e + 2) p T.length :: S) T told (fun z => nomatch z) hc.tail.left (by simp only [List.length_cons]; omega) (by omega) (by omega)
    have hr := hc.tail.right.head
    rw [len_code] at hr
    obtain ⟨q, ts⟩ := r
    simp only [Out, itLen, cat, ← List.append_assoc] at i1 i2 ⊢
    exact stepR rfl hc.head (.choice (by show S.length < big; omega)) (.trans i1 (stepR rfl hr (.commit rfl) i2))
  | @optF e p s s1 W W' h hw ih =>
    intro a S T told hS hc h1 h2 h3
    simp only [itCode, code] at hc
    obtain ⟨q, b, J, i1⟩ := ih (a + 1) (.choice (a + len e + 2) p T.length :: S) T told (fun z => nomatch z) hc.tail.left (by simp only [List.length_cons]; omega) h2 (by omega)
    rw [fail_choice] at i1
    simp only [Out, itLen, len, List.append_nil]
    exact stepR rfl hc.head (.choice (by show S.length < big; omega)) i1
  | @optT e p s r s1 W W' h hw ih =>
    intro a S T told hS hc b1 b2 b3
    simp only [itCode, code] at hc
    have i1 := ih (a + 1) (.choice (a + len e + 2) p T.length :: S) T told (fun z => nomatch z) hc.tail.left (by simp only [List.length_cons]; omega) (by omega) (by omega)
    have hr := hc.tail.right.head
    rw [len_code] at hr
    obtain ⟨q, ts⟩ := r
    simp only [Out, itLen, len] at i1 ⊢
    exact stepR rfl hc.head (.choice (by show S.length < big; omega)) (.trans i1 (stepR rfl hr (.commit rfl) .refl))
  | @notF e p s s1 W W' h hw ih =>
    intro a S T told hS hc h1 h2 h3
    simp only [itCode, code] at hc
    obtain ⟨q, b, J, i1⟩ := ih (a + 1) (.choice (a + len e + 2) p T.length :: S) T told (fun z => nomatch z) hc.tail.left (by simp only [List.length_cons]; omega) h2 (by omega)
    rw [fail_choice] at i1
    simp only [Out, itLen, len, List.append_nil]
    exact stepR rfl hc.head (.choice (by show S.length < big; omega)) i1
  | @notT e p s r s1 W W' h hw ih =>
    intro a S T told hS hc b1 b2 b3
    have := callsIn_le S
    simp only [itCode, code] at hc
    have i1 := ih (a + 1) (.choice (a + len e + 2) p T.length :: S) T told (fun z => nomatch z) hc.tail.left (by simp only [List.length_cons]; omega) (by omega) (by omega)
    have hr := hc.tail.right.head
    rw [len_code] at hr
    obtain ⟨q, ts⟩ := r
    simp only [Out, itLen, len] at i1 ⊢
    exact ⟨q, a + 1 + len e, ts, stepR rfl hc.head (.choice (by show S.length < big; omega)) (.trans i1 (stepR rfl hr (.refuse rfl (by show s1.mem.length + callsIn S ≤ big; omega)) .refl))⟩
  | @andF e p s s1 W W' h hw ih =>
    intro a S T told hS hc h1 h2 h3
    have := callsIn_le S
    simp only [itCode, code] at hc
    obtain ⟨q, b, J, i1⟩ := ih (a + 1) (.choice (a + len e + 2) p T.length :: S) T told (fun z => nomatch z) hc.tail.left (by simp only [List.length_cons]; omega) h2 (by omega)
    rw [fail_choice] at i1
    have hr := hc.tail.right.tail.head
    rw [len_code, show a + 1 + len e + 1 = a + len e + 2 by omega] at hr
    refine ⟨p, a + len e + 2, [], ?_⟩
    rw [List.append_nil]
    exact stepR rfl hc.head (.choice (by show S.length < big; omega)) (.trans i1 (stepR rfl hr (.fail (by show s1.mem.length + callsIn S ≤ big; omega)) .refl))
  | @andT e p s r s1 W W' h hw ih =>
    intro a S T told hS hc b1 b2 b3
    simp only [itCode, code] at hc
    have i1 := ih (a + 1) (.choice (a + len e + 2) p T.length :: S) T told (fun z => nomatch z) hc.tail.left (by simp only [List.length_cons]; omega) (by omega) (by omega)
    have hr := hc.tail.right.head
    rw [len_code] at hr
    obtain ⟨q, ts⟩ := r
    simp only [Out, itLen, len, List.append_nil] at i1 ⊢
    refine stepR rfl hc.head (.choice (by show S.length < big; omega)) (.trans i1 (stepR rfl hr (.retto rfl) ?_))
    simp only [Mo.back, List.take_left]
    exact .refl
  | @markF l e p s s1 W W' h hw ih =>
    intro a S T told hS hc h1 h2 h3
    simp only [itCode, code] at hc
    obtain ⟨q, b, J, i1⟩ := ih (a + 1) (.mark l p T.length :: S) T told (fun z => nomatch z) hc.tail.left (by simp only [List.length_cons]; omega) h2 (by omega)
    rw [fail_mark] at i1
    exact ⟨q, b, J, stepR rfl hc.head (.opn (by show S.length < big; omega)) i1⟩
  | @markT l e p s p1 t1 s1 W W' h hw ih =>
    intro a S T told hS hc b1 b2 b3
    have ht := h.tl
    simp only [tlen] at ht
    simp only [itCode, code] at hc
    have i1 := ih (a + 1) (.mark l p T.length :: S) T told (fun z => nomatch z) hc.tail.left (by simp only [List.length_cons]; omega) (by omega) (by omega)
    have hr := hc.tail.right.head
    rw [len_code] at hr
    simp only [Out, itLen, len] at i1 ⊢
    refine stepR rfl hc.head (.opn (by show S.length < big; omega)) (.trans i1 (stepR rfl hr (.close rfl (by show (T ++ t1).length < big; rw [List.length_append]; omega)) ?_))
    simp only [Mo.close, List.take_left, List.drop_left]
    rw [show a + (len e + 2) = a + 1 + len e + 1 by omega]
    exact .refl

theorem bodyG_at : ∀ (g : Gram) (a : Nat) (n : Nm) (e : E) (pre : List Row), pre.length = a → bodyG g n = some e → ∃ b, getS (startsG g a) n = some b ∧ At (pre ++ codeG g a) b (code e b ++ [.ret])
  | [], a, n, e, pre, _, h => by cases h
  | (m, x) :: g, a, n, e, pre, hp, h => by
    rw [bodyG] at h
    rw [startsG, getS, codeG]
    split at h
    · cases h
      rename_i hm
      rw [if_pos hm]
      exact ⟨a, rfl, pre, codeG g (a + len x + 1), by simp, hp⟩
    · rename_i hm
      rw [if_neg hm]
      obtain ⟨b, h1, h2⟩ := bodyG_at g (a + len x + 1) n e (pre ++ (code x a ++ [.ret])) (by simp [hp, len_code]; omega) h
      refine ⟨b, h1, ?_⟩
      simpa using h2
/-- a run from the start to the end -/
theorem Ev.run (hs : ∀ n e, bodyG gr n = some e → ∃ a, getS c.starts n = some a ∧ At c.rows a (code e a ++ [.ret])) (ht : c.text = tx) {n : Nm} {p : Nat} {r : Told} {s' : St} {W : Nat}
    (h : Ev gr tx (.e (.call n)) p ⟨[], []⟩ r s' W) (b1 : s'.mem.length + W + 1 ≤ big) (b2 : s'.ent.length ≤ big) :
    ∃ M, Run c ((⟨p, 0, [], [], [], [], false, none⟩ : Mo).enter c n 0) M ∧ (⟨p, 0, [], [], [], [], false, none⟩ : Mo).okEnter c n ∧ M.done = true ∧ M.told = r ∧ M.ent = s'.ent := by
  cases h with
  | takeT h => cases h
  | takeF h => cases h
  | hit h => cases h
  | @miss _ _ _ _ e s1 W0 _ h hb h1 hw =>
    obtain ⟨a, hg, ha⟩ := hs n e hb
    have hm := h1.mono
    have hpm := len_putM_ge s1.mem (n, p) r
    simp only [List.nil_append] at h1 hm b1 b2
    simp only [List.length_nil, List.length_singleton] at hm
    have he : (⟨p, 0, [], [], [], [], false, none⟩ : Mo).enter c n 0 = mo p a [.call 0 (n, p) 0] [] ⟨[], [(n, p)]⟩ none := by
      simp [Mo.enter, getM, hg]
    have i1 := Ev.sim hs ht h1 a [.call 0 (n, p) 0] [] none (by simp) ha.left (by simp only [List.length_singleton]; omega) b2 (by simp only [List.length_nil]; omega)
    rw [he]
    have hok : (⟨p, 0, [], [], [], [], false, none⟩ : Mo).okEnter c n := by
      simp [Mo.okEnter, getM, hg, big]
    cases r with
    | none =>
      obtain ⟨q, b, J, i1⟩ := i1
      refine ⟨_, i1, hok, ?_, ?_, ?_⟩ <;> simp [Mo.fail, failS]
    | some r =>
      obtain ⟨q, ts⟩ := r
      have hr := ha.right.head
      rw [len_code] at hr
      refine ⟨_, .trans i1 (stepR rfl hr (.ret rfl (by show s1.mem.length < big; omega)) .refl), hok, ?_, ?_, ?_⟩ <;> simp [Mo.leave]
end Gr

end
section
set_option Elab.async false
set_option linter.all false
set_option maxRecDepth 100000
set_option maxHeartbeats 4000000
/-! compiled, run and match. -/
namespace Gr
theorem putD_new (st : List (Nm × Nat)) (n : Nm) (v : Nat) (h : n ∉ st.map Prod.fst) : putD (encS st) (.str n) (.int v) = encS (st ++ [(n, v)]) := by
  unfold putD
  rw [if_neg]
  · simp [encS]
  · simp only [encS, List.any_map, List.any_eq_true, not_exists, not_and, Function.comp, eqD_str]
    intro p hp e
    exact h (List.mem_map.2 ⟨p, hp, by simpa using e⟩)
theorem len_encS (st : List (Nm × Nat)) : (encS st).length = st.length := by simp [encS]
section
variable {G : Prog} [GM G]
theorem rules_loop {n : Nat} (s1 : Sl) : ∀ (g : Gram) (rs : List D) (st : List (Nm × Nat)) (s2 s3 : Sl), (∀ r ∈ g, 2 * dep r.2 + 1 ≤ n) → rs.length + lenG g ≤ big → st.length + lenG g ≤ big → (st.map Prod.fst ++ g.map Prod.fst).Nodup →
    ∃ s2' s3', ∀ E : Ends, forK (.tp [2, 3]) (wpSs ⟨G.fns, G.glb, G.callF n⟩ [.setFI 1 "starts" (.var 2) (.ocall 1 "here" []), .ex (.call "write" [(.var 1), (.var 3)]), .ex (.ocall 1 "put" [(.tup [(.str [114, 101, 116, 117, 114, 110])])])]) (g.map encR) [s1, Wr rs (encS st), s2, s3] E
      = E.nx [s1, Wr (rs ++ (codeG g rs.length).map Row.enc) (encS (st ++ startsG g rs.length)), s2', s3']
  | [], rs, st, s2, s3, _, _, _, _ => ⟨s2, s3, fun E => by simp [codeG, startsG]⟩
  | r :: g, rs, st, s2, s3, hd, hb, hc, hn => by
    obtain ⟨a, e⟩ := r
    rw [lenG] at hb hc
    have hd0 := hd (a, e) (List.mem_cons_self ..)
    simp only at hd0 hb hc
    have h1 : 1 ≤ dep e := by cases e <;> simp [dep]
    obtain ⟨n, rfl⟩ : ∃ j, n = j + 1 := ⟨n - 1, by omega⟩
    have e1 : (rs ++ (code e rs.length ++ [Row.ret]).map Row.enc).length = rs.length + len e + 1 := by simp [len_code]; omega
    have hna : a ∉ st.map Prod.fst := by
      intro hm
      exact (List.nodup_append.1 hn).2.2 a hm a (by simp) rfl
    obtain ⟨s2', s3', h⟩ := rules_loop (n := n + 1) s1 g (rs ++ (code e rs.length ++ [Row.ret]).map Row.enc) (st ++ [(a, rs.length)]) (.val (.str a)) (.val (enc e)) (fun r hr => hd r (List.mem_cons_of_mem _ hr)) (by rw [e1]; omega) (by simp; omega) (by simpa using hn)
    refine ⟨s2', s3', fun E => ?_⟩
    have e2 : rs ++ (codeG ((a, e) :: g) rs.length).map Row.enc = rs ++ (code e rs.length ++ [Row.ret]).map Row.enc ++ (codeG g (rs ++ (code e rs.length ++ [Row.ret]).map Row.enc).length).map Row.enc := by
      rw [e1, codeG]; simp
    have e3 : st ++ startsG ((a, e) :: g) rs.length = st ++ [(a, rs.length)] ++ startsG g (rs ++ (code e rs.length ++ [Row.ret]).map Row.enc).length := by
      rw [e1, startsG]; simp
    rw [List.map_cons, forK, e2, e3, ← h E]
    have p1 := fun k x => where_ (G := G) (n := n) (k := k) (x := x) (rs := rs) (st := encS st)
    have p2 := fun k x => write_all (G := G) (dep e) e (Nat.le_refl _) (n + 1) k x rs (encS (st ++ [(a, rs.length)])) hd0 (by omega)
    have p3 := fun k x => wput (G := G) (n := n) (k := k) (x := x) (rs := rs ++ (code e rs.length).map Row.enc) (st := encS (st ++ [(a, rs.length)])) (r := .tup [.str [114, 101, 116, 117, 114, 110]]) (by simp [len_code]; omega)
    have p4 := putD_new st a rs.length hna
    have p5 : (encS st).length < big := by rw [len_encS]; omega
    rw [show rs ++ (code e rs.length ++ [Row.ret]).map Row.enc = rs ++ (code e rs.length).map Row.enc ++ [D.tup [.str [114, 101, 116, 117, 114, 110]]] by simp [Row.enc]]
    generalize rs ++ (code e rs.length).map Row.enc = A at *
    generalize encS (st ++ [(a, rs.length)]) = B at *
    simp [encR, ↓p1, ↓p2, ↓p3, p4, p5]
theorem compiled_ok [GK G] {n : Nat} {k : KT'} {x : String → D → Prop} {g : Gram} (hck : ∀ k x, G.callF n "checked" [.val (encG g)] k x = k (.val (encG g)) []) (hd : ∀ r ∈ g, 2 * dep r.2 + 1 ≤ n) (hb : lenG g ≤ big) (hn : (g.map Prod.fst).Nodup) (h0 : 0 < n) :
    G.callF (n + 1) "compiled" [.val (encG g)] k x = k (.val (.tup [.lst ((codeG g 0).map Row.enc), .dct false (encS (startsG g 0))])) [] := by
  rw [callF_at (GM.at_compiled)]
  obtain ⟨s2', s3', h⟩ := rules_loop (G := G) (n := n) (.val (encG g)) g [] [] .no .no hd (by simpa using hb) (by simpa using hb) (by simpa using hn)
  obtain ⟨n, rfl⟩ : ∃ j, n = j + 1 := ⟨n - 1, by omega⟩
  have p0 := fun k x => winit (G := G) (n := n) (k := k) (x := x)
  simp only [encG, encS, List.map_nil, List.nil_append, List.length_nil] at h hck ⊢
  simp [p_compiled, ↓hck, ↓p0, ↓h]
theorem while_run {n : Nat} {c : Ctx} {X : Xt} {s0 s1 s2 s3 s4 : Sl} {E : Ends} {M M' : Mo} (h : Run c M M') (hd : M'.done = true) :
    (∃ j, whileN (wpT ⟨G.fns, G.glb, G.callF (n + 3)⟩ X (.not_ (.val (.p (.f 5 "done"))))) (wpSs ⟨G.fns, G.glb, G.callF (n + 3)⟩ [.ex (.ocall 5 "step" [])]) j [s0, s1, s2, s3, s4, M.enc c] E) = E.nx [s0, s1, s2, s3, s4, M'.enc c] := by
  induction h with
  | refl => exact wh_stop fun kk => by simp [Mo.enc, hd]
  | @step M r M1 M2 hd0 hr hs t ih =>
    rw [← ih hd]
    refine wh_go (fun kk => by simp [Mo.enc, hd0]) fun N => ?_
    have p := fun k x => step_ok (G := G) (n := n) (k := k) (x := x) (c := c) M hr hs
    simp only [Mo.enc] at p ⊢
    simp [↓p]
theorem run_ok [GK G] {n : Nat} {k : KT'} {x : String → D → Prop} {g : Gram} {a : Nm} {e0 : E} {tx : Nm} {at_ : Nat} {r : Told} {s' : St} {W : Nat} (hg : g.head? = some (a, e0))
    (hc : ∀ k x, G.callF (n + 3) "check" [.val (encG g)] k x = k (.val (encG g)) []) (hck : ∀ k x, G.callF (n + 2) "checked" [.val (encG g)] k x = k (.val (encG g)) [])
    (hd : ∀ r ∈ g, 2 * dep r.2 + 1 ≤ n + 2) (hb : lenG g ≤ big) (hn : (g.map Prod.fst).Nodup)
    (h : Ev g tx (.e (.call a)) at_ ⟨[], []⟩ r s' W) (b1 : s'.mem.length + W + 1 ≤ big) (b2 : s'.ent.length ≤ big) :
    G.callF (n + 4) "run" [.val (encG g), .val (.str tx), .val (.int at_)] k x = k (.val (.tup [encT r, .lst (s'.ent.map encK)])) [] := by
  rw [callF_at (GM.at_run)]
  obtain ⟨M, hr, hok, hdone, htold, hent⟩ := Ev.run (c := ⟨codeG g 0, startsG g 0, tx⟩) (fun n e hb => by simpa using bodyG_at g 0 n e [] rfl hb) rfl h b1 b2
  have p1 := fun k x => compiled_ok (G := G) (k := k) (x := x) hck hd hb hn (by omega)
  have p2 := fun k x => minit (G := G) (n := n + 2) (k := k) (x := x) (text := tx) (rs := (codeG g 0).map Row.enc) (st := encS (startsG g 0))
  have p3 := fun k x => enter_ok (G := G) (n := n + 1) (k := k) (x := x) (c := ⟨codeG g 0, startsG g 0, tx⟩) ⟨at_, 0, [], [], [], [], false, none⟩ a 0 hok
  have p4 := fun X E => while_run (G := G) (n := n) (X := X) (E := E) (s0 := .val (encG g)) (s1 := .val (.str tx)) (s2 := .val (.int at_)) (s3 := .val (.lst ((codeG g 0).map Row.enc))) (s4 := .val (.dct false (encS (startsG g 0)))) hr hdone
  have p5 : (g.map encR)[0]? = some (.tup [.str a, enc e0]) := by
    cases g with
    | nil => cases hg
    | cons r g => cases hg; rfl
  simp only [encG] at *
  simp only [Mo.enc, encM, encT_none, List.map_nil, List.reverse_nil, show ((0 : Nat) : Int) = 0 from rfl] at p3 p4
  simp only [htold, hent, hdone] at p4
  simp [p_run, ↓hc, ↓p1, ↓p2, p5, ↓p3, ↓p4]
theorem match_ok {n : Nat} {k : KT'} {x : String → D → Prop} {g : Gram} {tx : Nm} {at_ : Nat} {r : Told} {s' : St}
    (h : ∀ k x, G.callF n "run" [.val (encG g), .val (.str tx), .val (.int at_)] k x = k (.val (.tup [encT r, .lst (s'.ent.map encK)])) []) :
    G.callF (n + 1) "match" [.val (encG g), .val (.str tx), .val (.int at_)] k x = k (.val (encT r)) [] := by
  rw [callF_at (GM.at_match)]
  simp [p_match, ↓h]
end
end Gr

end
section
set_option Elab.async false
set_option linter.all false
set_option maxRecDepth 100000
set_option maxHeartbeats 4000000
/-! What the laws draw: any row of ints. -/
namespace Gr
theorem forK_inv {σ : Type} (env : σ → Env) (I : List D → σ → Prop) {tg : Tg} {body : Env → Ends → Prop}
    (h : ∀ y xs s, I (y :: xs) s → (∃ s', I xs s' ∧ ∀ E : Ends, E.nx = E.ct → bind1K tg y (env s) (fun e1 => body e1 E) = E.nx (env s')) ∨ (∃ s', I [] s' ∧ ∀ E : Ends, bind1K tg y (env s) (fun e1 => body e1 E) = E.bk (env s'))) :
    ∀ xs s, I xs s → ∃ s', I [] s' ∧ ∀ E : Ends, forK tg body xs (env s) E = E.nx (env s')
  | [], s, hs => ⟨s, hs, fun E => by rw [forK]⟩
  | y :: xs, s, hs => by
    rcases h y xs s hs with ⟨s1, h1, h2⟩ | ⟨s1, h1, h2⟩
    · obtain ⟨s2, h3, h4⟩ := forK_inv env I h xs s1 h1
      exact ⟨s2, h3, fun E => by rw [forK, h2 _ rfl]; exact h4 E⟩
    · exact ⟨s1, h1, fun E => by rw [forK, h2]⟩
/-- a row of draws: the place of the next one, then ints -/
def RowOk (ds : List D) : Prop := ∃ (p : Nat) (vs : List Int), ds = .int p :: vs.map .int ∧ 1 ≤ p ∧ p ≤ vs.length + 1
section
variable {G : Prog} {n : Nat}
theorem digits {P : Cx} {s0 s2 s5 : Sl} : ∀ (xs : List D) (vs : List Int) (left : Int) (s4 : Sl), 0 ≤ left → (∀ x ∈ xs, ∃ i, x = .int i) → vs.length + xs.length < big →
    ∃ (s : List Int × Int × Sl), s.1.length ≤ vs.length + xs.length ∧ ∀ E : Ends, forK (.nm 4) (wpSs P [.ex (.app (.v 1) (.bin .mod (.var 3) (.x (.int 59)))), .asg 3 (.bin .fdiv (.var 3) (.x (.int 59))), .ite (.val (.x (.cmp .eq (.var 3) (.x (.int 0))))) [.brk] []]) xs
      [s0, .own (.lst (.int 1 :: vs.map .int)), s2, .val (.int left), s4, s5] E = E.nx [s0, .own (.lst (.int 1 :: s.1.map .int)), s2, .val (.int s.2.1), s.2.2, s5]
  | [], vs, left, s4, _, _, _ => ⟨(vs, left, s4), by simp, fun E => by rw [forK]⟩
  | y :: xs, vs, left, s4, h0, hx, hb => by
    obtain ⟨i, rfl⟩ := hx _ (List.mem_cons_self ..)
    simp only [List.length_cons] at hb
    by_cases c : left / 59 = 0
    · refine ⟨(vs ++ [left % 59], left / 59, .val (.int i)), by simp, fun E => ?_⟩
      rw [forK]
      simp [show vs.length + 1 < big by omega, c]
    · obtain ⟨s, h1, h2⟩ := digits (P := P) xs (vs ++ [left % 59]) (left / 59) (.val (.int i)) (by omega) (fun x hx' => hx x (List.mem_cons_of_mem _ hx')) (by simp; omega)
      refine ⟨s, by simp at h1 ⊢; omega, fun E => ?_⟩
      rw [forK, ← h2]
      simp [show vs.length + 1 < big by omega, c]
theorem cells {P : Cx} {s0 : Sl} : ∀ (ns : List Int) (vs : List Int) (s2 s3 s4 s5 : Sl), vs.length + 60 * ns.length < 16000000 →
    ∃ (s : List Int × Sl × Sl × Sl), s.1.length ≤ vs.length + 60 * ns.length ∧ ∀ E : Ends, forK (.nm 2) (wpSs P [.asg 3 (.b1 .abs (.x (.b1 .int (.p (.v 2))))), .for_ (.nm 4) (.rng none (.int 60)) [.ex (.app (.v 1) (.bin .mod (.var 3) (.x (.int 59)))), .asg 3 (.bin .fdiv (.var 3) (.x (.int 59))), .ite (.val (.x (.cmp .eq (.var 3) (.x (.int 0))))) [.brk] []]])
      (ns.map .int) [s0, .own (.lst (.int 1 :: vs.map .int)), s2, s3, s4, s5] E = E.nx [s0, .own (.lst (.int 1 :: s.1.map .int)), s.2.1, s.2.2.1, s.2.2.2, s5]
  | [], vs, s2, s3, s4, s5, _ => ⟨(vs, s2, s3, s4), by simp, fun E => by rw [List.map_nil, forK]⟩
  | c :: ns, vs, s2, s3, s4, s5, hb => by
    simp only [List.length_cons] at hb
    obtain ⟨s, h1, h2⟩ := digits (P := P) (s0 := s0) (s2 := .val (.int c)) (s5 := s5) ((List.range 60).map fun (k : Nat) => .int k) vs (if c < 0 then -c else c) s4 (by split <;> omega) (by simp) (by simp [big]; omega)
    simp only [List.length_map, List.length_range] at h1
    obtain ⟨t, h3, h4⟩ := cells (P := P) (s0 := s0) ns s.1 (.val (.int c)) (.val (.int s.2.1)) s.2.2 s5 (by omega)
    refine ⟨t, by simp only [List.length_cons]; omega, fun E => ?_⟩
    rw [List.map_cons, forK, ← h4]
    simp [big, ↓h2]

theorem seeds {P : Cx} {s0 s1 s3 s4 : Sl} : ∀ (ns : List Int) (s2 : Sl) (seed : Int),
    ∃ (s : Sl × Int), ∀ E : Ends, forK (.nm 2) (wpSs P [.asg 5 (.bin .mod (.b1 .int (.x (.bin .add (.bin .add (.bin .mul (.var 5) (.x (.int 131))) (.p (.v 2))) (.x (.int 17))))) (.x (.int 1000003)))])
      (ns.map .int) [s0, s1, s2, s3, s4, .val (.int seed)] E = E.nx [s0, s1, s.1, s3, s4, .val (.int s.2)]
  | [], s2, seed => ⟨(s2, seed), fun E => by rw [List.map_nil, forK]⟩
  | c :: ns, s2, seed => by
    obtain ⟨t, h4⟩ := seeds (P := P) (s0 := s0) (s1 := s1) (s3 := s3) (s4 := s4) ns (.val (.int c)) ((seed * 131 + c + 17) % 1000003)
    refine ⟨t, fun E => ?_⟩
    rw [List.map_cons, forK, ← h4]
    simp
theorem draws {P : Cx} {s0 s2 s3 : Sl} : ∀ (xs : List D) (vs : List Int) (s4 : Sl) (seed : Int), (∀ x ∈ xs, ∃ i, x = .int i) → vs.length + xs.length < big →
    ∃ (s : List Int × Sl × Int), s.1.length = vs.length + xs.length ∧ ∀ E : Ends, forK (.nm 4) (wpSs P [.asg 5 (.bin .mod (.b1 .int (.x (.bin .add (.bin .add (.bin .mul (.var 5) (.x (.int 48271))) (.x (.bin .mul (.var 4) (.x (.int 69621))))) (.x (.int 11))))) (.x (.int 2147483647))), .ex (.app (.v 1) (.bin .mod (.bin .fdiv (.var 5) (.x (.int 1009))) (.x (.int 59))))])
      xs [s0, .own (.lst (.int 1 :: vs.map .int)), s2, s3, s4, .val (.int seed)] E = E.nx [s0, .own (.lst (.int 1 :: s.1.map .int)), s2, s3, s.2.1, .val (.int s.2.2)]
  | [], vs, s4, seed, _, _ => ⟨(vs, s4, seed), by simp, fun E => by rw [forK]⟩
  | y :: xs, vs, s4, seed, hx, hb => by
    obtain ⟨i, rfl⟩ := hx _ (List.mem_cons_self ..)
    simp only [List.length_cons] at hb
    obtain ⟨s, h1, h2⟩ := draws (P := P) (s0 := s0) (s2 := s2) (s3 := s3) xs (vs ++ [((seed * 48271 + i * 69621 + 11) % 2147483647) / 1009 % 59]) (.val (.int i)) ((seed * 48271 + i * 69621 + 11) % 2147483647) (fun x hx' => hx x (List.mem_cons_of_mem _ hx')) (by simp; omega)
    refine ⟨s, by simp at h1 ⊢; omega, fun E => ?_⟩
    rw [forK, ← h2]
    simp [show vs.length + 1 < big by omega]
theorem take_ints (ns : List Int) : cut (ns.map D.int) none (some 63) = (ns.take 63).map .int := by
  show ((ns.map D.int).take (clampN _ ((63 : Nat) : Int))).drop 0 = _
  rw [clamp_nat, List.drop_zero, take_min, List.map_take]
theorem stream_ok [GS G] (ns : List Int) (hl : ns.length ≤ 63) : ∃ ds, RowOk ds ∧ ds.length ≤ 4000 ∧ ∀ (k : Sl → List Sl → Prop) (x : String → D → Prop), G.callF (n + 1) "_law_stream" [.val (.lst (ns.map .int))] k x = k (.own (.lst ds)) [] := by
  obtain ⟨s, h1, h2⟩ := cells (P := ⟨G.fns, G.glb, G.callF n⟩) (s0 := .val (.lst (ns.map .int))) (ns.take 63) [] .no .no .no .no (by simp; omega)
  obtain ⟨t, h4⟩ := seeds (P := ⟨G.fns, G.glb, G.callF n⟩) (s0 := .val (.lst (ns.map .int))) (s1 := .own (.lst (.int 1 :: s.1.map .int))) (s3 := s.2.2.1) (s4 := s.2.2.2) (ns.take 63) s.2.1 7
  simp only [List.length_take, List.length_nil] at h1
  obtain ⟨u, h5, h6⟩ := draws (P := ⟨G.fns, G.glb, G.callF n⟩) (s0 := .val (.lst (ns.map .int))) (s2 := t.1) (s3 := s.2.2.1) ((List.range 150).map fun (k : Nat) => .int k) s.1 s.2.2.2 t.2 (by simp) (by simp [big]; omega)
  simp only [List.length_map, List.length_range] at h5
  refine ⟨.int 1 :: u.1.map .int, ⟨1, u.1, rfl, by omega, by omega⟩, by simp; omega, fun k x => ?_⟩
  rw [callF_at (GS.at_l_stream)]
  simp only [List.map_nil, List.map_take] at h2 h4
  simp [p_l_stream, take_ints, ↓h2, ↓h4, ↓h6, big]
theorem take1_ok [c : GT1 G] {ds : List D} (h : RowOk ds) (m : Nat) (hm : 0 < m) : ∃ (v : Nat) (ds' : List D), v < m ∧ RowOk ds' ∧ ds'.length = ds.length ∧ ∀ (n : Nat) (k : Sl → List Sl → Prop) (x : String → D → Prop), G.callF (n + 1) "_law_take" [.own (.lst ds), .val (.int m)] k x = k (.val (.int v)) [.own (.lst ds')] := by
  obtain ⟨p, vs, rfl, h1, h2⟩ := h
  have c0 : 0 < (m : Int) := by omega
  by_cases hp : p < vs.length + 1
  · obtain ⟨q, rfl⟩ : ∃ q, p = q + 1 := ⟨p - 1, by omega⟩
    have hq : q < vs.length := by omega
    refine ⟨(vs[q] % m).toNat, .int ((q + 2 : Nat) : Int) :: vs.map .int, ?_, ⟨q + 2, vs, rfl, by omega, by omega⟩, rfl, fun n k x => ?_⟩
    · have := Int.emod_lt_of_pos vs[q] c0; have := Int.emod_nonneg vs[q] (show (m : Int) ≠ 0 by omega); omega
    · have e := Int.emod_nonneg vs[q] (show (m : Int) ≠ 0 by omega)
      have e2 : ∀ d : D, atX (d :: vs.map D.int) ((q : Int) + 1) = some (.int vs[q]) := by
        intro d
        rw [show (q : Int) + 1 = ((q + 1 : Nat) : Int) by omega, atX_nat]; simp [hq]
      rw [callF_at c.at_l_take]
      simp [p_l_take1, show (q : Int) + 1 < vs.length + 1 by omega, show (q : Int) + 1 + 1 = q + 2 by omega, show (q : Int) + 2 - 1 = q + 1 by omega, e2, c0, hm, Int.toNat_of_nonneg e]
  · refine ⟨0, .int p :: vs.map .int, hm, ⟨p, vs, rfl, h1, h2⟩, rfl, fun n k x => ?_⟩
    rw [callF_at c.at_l_take]
    simp [p_l_take1, show ¬ ((p : Int) < vs.length + 1) by omega]
theorem take_idx {vs : List Int} {q : Nat} (hq : q < vs.length) (d : D) : atX (d :: vs.map D.int) ((q : Int) + 1) = some (.int vs[q]) := by
  rw [show (q : Int) + 1 = ((q + 1 : Nat) : Int) by omega, atX_nat]; simp [hq]
theorem take2_ok [c : GT2 G] {ds : List D} (h : RowOk ds) (hl : ds.length < big) (m : Nat) (hm : 0 < m) : ∃ (v : Nat) (ds' : List D), v < m ∧ RowOk ds' ∧ ds'.length ≤ ds.length + 1 ∧ ∀ (n : Nat) (k : Sl → List Sl → Prop) (x : String → D → Prop), G.callF (n + 1) "_law_take" [.own (.lst ds), .val (.int m)] k x = k (.val (.int v)) [.own (.lst ds')] := by
  obtain ⟨p, vs, rfl, h1, h2⟩ := h
  obtain ⟨q, rfl⟩ : ∃ q, p = q + 1 := ⟨p - 1, by omega⟩
  simp only [List.length_cons, List.length_map] at hl
  have c0 : 0 < (m : Int) := by omega
  by_cases hp : q < vs.length
  · have e := Int.emod_nonneg vs[q] (show (m : Int) ≠ 0 by omega)
    refine ⟨(vs[q] % m).toNat, .int ((q + 2 : Nat) : Int) :: vs.map .int, by have := Int.emod_lt_of_pos vs[q] c0; omega, ⟨q + 2, vs, rfl, by omega, by omega⟩, by simp, fun n k x => ?_⟩
    rw [callF_at c.at_l_take]
    simp [p_l_take2, show ¬ ((q : Int) = vs.length) by omega, show (q : Int) + 1 + 1 = q + 2 by omega, show (q : Int) + 2 - 1 = q + 1 by omega, take_idx hp, c0, hm, Int.toNat_of_nonneg e]
  · obtain rfl : q = vs.length := by omega
    obtain ⟨w, hw⟩ : ∃ w, (D.int ((vs.length : Int) + 1) :: vs.map D.int).getLast? = some (.int w) := by
      rcases List.eq_nil_or_concat vs with rfl | ⟨vs', l, rfl⟩
      · exact ⟨_, rfl⟩
      · exact ⟨l, by simp [List.getLast?_cons]⟩
    obtain ⟨z, hz0⟩ : ∃ z : Int, (((vs.length : Int) + 1) * 48271 + w * 70001 + 11) % 2147483647 / 1009 % 59 = z := ⟨_, rfl⟩
    have e := Int.emod_nonneg z (show (m : Int) ≠ 0 by omega)
    have e2 : ∀ d : D, atX (d :: (vs.map D.int ++ [.int z])) ((vs.length : Int) + 1) = some (.int z) := by
      intro d
      have := take_idx (vs := vs ++ [z]) (q := vs.length) (by simp) d
      simpa using this
    refine ⟨(z % m).toNat, .int ((vs.length + 2 : Nat) : Int) :: (vs ++ [z]).map .int, by have := Int.emod_lt_of_pos z c0; omega, ⟨vs.length + 2, _, rfl, by omega, by simp⟩, by simp, fun n k x => ?_⟩
    rw [callF_at c.at_l_take]
    simp [p_l_take2, hw, show vs.length + 1 < big by omega, hz0, show (vs.length : Int) + 1 + 1 = vs.length + 2 by omega, show (vs.length : Int) + 2 - 1 = vs.length + 1 by omega, e2, c0, hm, Int.toNat_of_nonneg e]
end
end Gr
namespace Gr
/-- a draw, with the bound as an int -/
theorem take1_int {G : Prog} [c : GT1 G] {ds : List D} (h : RowOk ds) (m : Nat) (i : Int) (hi : i = m) (hm : 0 < m) : ∃ (v : Nat) (ds' : List D), v < m ∧ RowOk ds' ∧ ∀ (n : Nat) (k : Sl → List Sl → Prop) (x : String → D → Prop), G.callF (n + 1) "_law_take" [.own (.lst ds), .val (.int i)] k x = k (.val (.int v)) [.own (.lst ds')] := by
  subst hi
  obtain ⟨v, ds', h1, h2, _, h3⟩ := take1_ok (G := G) h m hm
  exact ⟨v, ds', h1, h2, h3⟩
theorem take2_int {G : Prog} [c : GT2 G] {ds : List D} (h : RowOk ds) (hl : ds.length < big) (m : Nat) (i : Int) (hi : i = m) (hm : 0 < m) : ∃ (v : Nat) (ds' : List D), v < m ∧ RowOk ds' ∧ ds'.length ≤ ds.length + 1 ∧ ∀ (n : Nat) (k : Sl → List Sl → Prop) (x : String → D → Prop), G.callF (n + 1) "_law_take" [.own (.lst ds), .val (.int i)] k x = k (.val (.int v)) [.own (.lst ds')] := by
  subst hi
  exact take2_ok h hl m hm
end Gr

end
section
set_option linter.all false
set_option maxRecDepth 100000
namespace Gr
def f_is_name : Fn := ⟨["thing", "char"], 1, [false], [], [
  .ite (.or_ (.not_ (.val (.x (.isi (.p (.v 0)) .str)))) (.not_ (.val (.x (.chain .le .le (.int 1) (.b1 .len (.p (.v 0))) (.x (.int 12))))))) [.ret (.bl false)] [],
  .ret (.b1 .all (.x (.comp (.nm 1) (.cmp .isin (.var 1) (.x (.glob "LETTERS"))) (.var 0) [])))]⟩
def f_is_text : Fn := ⟨["thing", "char"], 1, [false], [], [
  .ite (.or_ (.not_ (.val (.x (.isi (.p (.v 0)) .str)))) (.not_ (.val (.x (.chain .le .le (.int 1) (.b1 .len (.p (.v 0))) (.x (.glob "MAX_TEXT"))))))) [.ret (.bl false)] [],
  .ret (.b1 .all (.x (.comp (.nm 1) (.cmp .isin (.var 1) (.x (.glob "CHARS"))) (.var 0) [])))]⟩
def f_is_set : Fn := ⟨["thing", "char", "k"], 1, [false], [], [
  .ite (.or_ (.not_ (.val (.x (.isi (.p (.v 0)) .str)))) (.or_ (.val (.x (.cmp .eq (.b1 .len (.p (.v 0))) (.x (.int 0))))) (.val (.x (.b1 .any (.x (.comp (.nm 1) (.cmp .notin (.var 1) (.x (.glob "CHARS"))) (.var 0) []))))))) [.ret (.bl false)] [],
  .ret (.b1 .all (.x (.comp (.nm 2) (.cmp .lt (.idx (.p (.v 0)) (.bin .sub (.var 2) (.x (.int 1)))) (.x (.idx (.p (.v 0)) (.var 2)))) (.rng (some (.int 1)) (.b1 .len (.p (.v 0)))) [])))]⟩
def f_is_expression : Fn := ⟨["thing", "deep", "head", "part"], 2, [false, false], [(.int 12)], [
  .ite (.or_ (.not_ (.val (.x (.isi (.p (.v 0)) .tuple)))) (.or_ (.val (.x (.cmp .eq (.b1 .len (.p (.v 0))) (.x (.int 0))))) (.or_ (.not_ (.val (.x (.isi (.x (.idx (.p (.v 0)) (.int 0))) .str)))) (.val (.x (.cmp .eq (.var 1) (.x (.int 0)))))))) [.ret (.bl false)] [],
  .asg 2 (.idx (.p (.v 0)) (.int 0)),
  .ite (.val (.x (.inG true (.var 2) "LONE"))) [.ret (.cmp .eq (.b1 .len (.p (.v 0))) (.x (.int 1)))] [],
  .ite (.val (.x (.cmp .eq (.var 2) (.x (.str [109, 97, 114, 107]))))) [.ret (.and_ (.cmp .eq (.b1 .len (.p (.v 0))) (.x (.int 3))) (.and_ (.call "is_name" [(.idx (.p (.v 0)) (.int 1))]) (.call "is_expression" [(.idx (.p (.v 0)) (.int 2)), (.bin .sub (.var 1) (.x (.int 1)))])))] [],
  .ite (.val (.x (.cmp .ne (.b1 .len (.p (.v 0))) (.x (.int 2))))) [.ret (.bl false)] [],
  .ite (.val (.x (.cmp .eq (.var 2) (.x (.str [115, 101, 116]))))) [.ret (.call "is_set" [(.idx (.p (.v 0)) (.int 1))])] [],
  .ite (.val (.x (.cmp .eq (.var 2) (.x (.str [116, 101, 120, 116]))))) [.ret (.call "is_text" [(.idx (.p (.v 0)) (.int 1))])] [],
  .ite (.val (.x (.cmp .eq (.var 2) (.x (.str [99, 97, 108, 108]))))) [.ret (.call "is_name" [(.idx (.p (.v 0)) (.int 1))])] [],
  .ite (.val (.x (.inG true (.var 2) "ONES"))) [.ret (.call "is_expression" [(.idx (.p (.v 0)) (.int 1)), (.bin .sub (.var 1) (.x (.int 1)))])] [],
  .ite (.or_ (.and_ (.val (.x (.cmp .ne (.var 2) (.x (.str [115, 101, 113]))))) (.val (.x (.cmp .ne (.var 2) (.x (.str [97, 108, 116])))))) (.or_ (.not_ (.val (.x (.isi (.x (.idx (.p (.v 0)) (.int 1))) .tuple)))) (.val (.x (.cmp .gt (.b1 .len (.x (.idx (.p (.v 0)) (.int 1)))) (.x (.glob "MAX_PARTS"))))))) [.ret (.bl false)] [],
  .ret (.b1 .all (.x (.comp (.nm 3) (.call "is_expression" [(.var 3), (.bin .sub (.var 1) (.x (.int 1)))]) (.idx (.p (.v 0)) (.int 1)) [])))]⟩
def f_is_grammar : Fn := ⟨["thing", "names", "rule"], 1, [false], [], [
  .ite (.or_ (.not_ (.val (.x (.isi (.p (.v 0)) .tuple)))) (.not_ (.val (.x (.chain .le .le (.int 1) (.b1 .len (.p (.v 0))) (.x (.glob "MAX_RULES"))))))) [.ret (.bl false)] [],
  .asg 1 (.lst []),
  .for_ (.nm 2) (.var 0) [.ite (.or_ (.not_ (.val (.x (.isi (.p (.v 2)) .tuple)))) (.or_ (.val (.x (.cmp .ne (.b1 .len (.p (.v 2))) (.x (.int 2))))) (.or_ (.not_ (.val (.x (.call "is_name" [(.idx (.p (.v 2)) (.int 0))])))) (.val (.x (.cmp .isin (.idx (.p (.v 2)) (.int 0)) (.p (.v 1)))))))) [.ret (.bl false)] [], .ite (.not_ (.val (.x (.call "is_expression" [(.idx (.p (.v 2)) (.int 1))])))) [.ret (.bl false)] [], .ex (.app (.v 1) (.idx (.p (.v 2)) (.int 0)))],
  .ret (.bl true)]⟩
def f_checked : Fn := ⟨["thing"], 1, [false], [], [
  .ite (.not_ (.val (.x (.call "is_grammar" [(.var 0)])))) [.raise "Invalid" (.str [103, 114, 97, 109, 109, 97, 114])] [],
  .retv 0]⟩
def f_parts_of : Fn := ⟨["expression", "head"], 1, [false], [], [
  .asg 1 (.idx (.p (.v 0)) (.int 0)),
  .ite (.or_ (.val (.x (.cmp .eq (.var 1) (.x (.str [115, 101, 113]))))) (.val (.x (.cmp .eq (.var 1) (.x (.str [97, 108, 116])))))) [.ret (.b1 .list (.x (.idx (.p (.v 0)) (.int 1))))] [],
  .ite (.val (.x (.inG true (.var 1) "ONES"))) [.ret (.lst [(.idx (.p (.v 0)) (.int 1))])] [],
  .ite (.val (.x (.cmp .eq (.var 1) (.x (.str [109, 97, 114, 107]))))) [.ret (.lst [(.idx (.p (.v 0)) (.int 2))])] [],
  .ret (.lst [])]⟩
def f_calls_of : Fn := ⟨["expression", "found", "part", "name"], 1, [false], [], [
  .ite (.val (.x (.cmp .eq (.idx (.p (.v 0)) (.int 0)) (.x (.str [99, 97, 108, 108]))))) [.ret (.lst [(.idx (.p (.v 0)) (.int 1))])] [],
  .asg 1 (.lst []),
  .for_ (.nm 2) (.call "parts_of" [(.var 0)]) [.for_ (.nm 3) (.call "calls_of" [(.var 2)]) [.ite (.val (.x (.cmp .notin (.var 3) (.p (.v 1))))) [.ex (.app (.v 1) (.var 3))] []]],
  .retv 1]⟩
def f_may_be_empty : Fn := ⟨["expression", "names", "head", "part"], 2, [false, false], [], [
  .asg 2 (.idx (.p (.v 0)) (.int 0)),
  .ite (.val (.x (.cmp .isin (.var 2) (.x (.tup [(.str [101, 112, 115]), (.str [115, 116, 97, 114]), (.str [111, 112, 116]), (.str [110, 111, 116]), (.str [97, 110, 100])]))))) [.ret (.bl true)] [],
  .ite (.val (.x (.cmp .eq (.var 2) (.x (.str [99, 97, 108, 108]))))) [.ret (.cmp .isin (.idx (.p (.v 0)) (.int 1)) (.p (.v 1)))] [],
  .ite (.val (.x (.cmp .eq (.var 2) (.x (.str [115, 101, 113]))))) [.ret (.b1 .all (.x (.comp (.nm 3) (.call "may_be_empty" [(.var 3), (.var 1)]) (.idx (.p (.v 0)) (.int 1)) [])))] [],
  .ite (.val (.x (.cmp .eq (.var 2) (.x (.str [97, 108, 116]))))) [.ret (.b1 .any (.x (.comp (.nm 3) (.call "may_be_empty" [(.var 3), (.var 1)]) (.idx (.p (.v 0)) (.int 1)) [])))] [],
  .ite (.val (.x (.cmp .eq (.var 2) (.x (.str [109, 97, 114, 107]))))) [.ret (.call "may_be_empty" [(.idx (.p (.v 0)) (.int 2)), (.var 1)])] [],
  .ret (.bl false)]⟩
def f_empty_rules : Fn := ⟨["grammar", "names", "more", "found", "rule"], 1, [false], [], [
  .asg 1 (.lst []),
  .asg 2 (.bl true),
  .while_ (.val (.p (.v 2))) [.asg 3 (.comp (.nm 4) (.idx (.p (.v 4)) (.int 0)) (.var 0) [(.val (.x (.call "may_be_empty" [(.idx (.p (.v 4)) (.int 1)), (.var 1)])))]), .asg 2 (.cmp .ne (.var 3) (.p (.v 1))), .asg 1 (.var 3)],
  .retv 1]⟩
def f_first_calls : Fn := ⟨["expression", "names", "head", "found", "part"], 2, [false, false], [], [
  .asg 2 (.idx (.p (.v 0)) (.int 0)),
  .ite (.val (.x (.cmp .eq (.var 2) (.x (.str [99, 97, 108, 108]))))) [.ret (.lst [(.idx (.p (.v 0)) (.int 1))])] [],
  .asg 3 (.lst []),
  .for_ (.nm 4) (.call "parts_of" [(.var 0)]) [.ex (.ext (.v 3) (.call "first_calls" [(.var 4), (.var 1)])), .ite (.and_ (.val (.x (.cmp .eq (.var 2) (.x (.str [115, 101, 113]))))) (.not_ (.val (.x (.call "may_be_empty" [(.var 4), (.var 1)]))))) [.brk] []],
  .retv 3]⟩
def f_has_idle_star : Fn := ⟨["expression", "names", "part"], 2, [false, false], [], [
  .ite (.and_ (.val (.x (.cmp .eq (.idx (.p (.v 0)) (.int 0)) (.x (.str [115, 116, 97, 114]))))) (.val (.x (.call "may_be_empty" [(.idx (.p (.v 0)) (.int 1)), (.var 1)])))) [.ret (.bl true)] [],
  .ret (.b1 .any (.x (.comp (.nm 2) (.call "has_idle_star" [(.var 2), (.var 1)]) (.call "parts_of" [(.var 0)]) [])))]⟩
def f_reached : Fn := ⟨["start", "table", "found", "left", "name"], 2, [false, false], [], [
  .asg 2 (.lst []),
  .asg 3 (.b1 .list (.x (.idx (.p (.v 1)) (.var 0)))),
  .while_ (.val (.p (.v 3))) [.asg 4 (.pop (.v 3)), .ite (.val (.x (.cmp .notin (.var 4) (.p (.v 2))))) [.ex (.app (.v 2) (.var 4)), .ex (.ext (.v 3) (.idx (.p (.v 1)) (.var 4)))] []],
  .retv 2]⟩
def f_check : Fn := ⟨["grammar", "names", "rule", "name", "expression", "called", "empty", "table"], 1, [false], [], [
  .ex (.call "checked" [(.var 0)]),
  .asg 1 (.comp (.nm 2) (.idx (.p (.v 2)) (.int 0)) (.var 0) []),
  .for_ (.tp [3, 4]) (.var 0) [.for_ (.nm 5) (.call "calls_of" [(.var 4)]) [.ite (.val (.x (.cmp .notin (.var 5) (.p (.v 1))))) [.raise "Unknown" (.var 5)] []]],
  .asg 6 (.call "empty_rules" [(.var 0)]),
  .asg 7 (.dcomp (.nm 2) (.idx (.p (.v 2)) (.int 0)) (.call "first_calls" [(.idx (.p (.v 2)) (.int 1)), (.var 6)]) (.var 0)),
  .for_ (.tp [3, 4]) (.var 0) [.ite (.or_ (.val (.x (.cmp .isin (.var 3) (.x (.call "reached" [(.var 3), (.var 7)]))))) (.val (.x (.call "has_idle_star" [(.var 4), (.var 6)])))) [.raise "Looping" (.var 3)] []],
  .retv 0]⟩
def f_Writer_init : Fn := ⟨["self"], 1, [true], [], [
  .setF 0 "rows" (.lst []),
  .setF 0 "starts" (.dnew false)]⟩
def f_Writer_put : Fn := ⟨["self", "row"], 2, [true, false], [], [
  .ex (.app (.f 0 "rows") (.var 1)),
  .ret (.bin .sub (.b1 .len (.p (.f 0 "rows"))) (.x (.int 1)))]⟩
def f_Writer_aim : Fn := ⟨["self", "at", "target"], 3, [true, false, false], [], [
  .setFI 0 "rows" (.var 1) (.tup [(.idx (.x (.idx (.p (.f 0 "rows")) (.var 1))) (.int 0)), (.var 2)])]⟩
def f_Writer_here : Fn := ⟨["self"], 1, [true], [], [
  .ret (.b1 .len (.p (.f 0 "rows")))]⟩
def f_write_alt : Fn := ⟨["writer", "parts", "ends", "part", "choice", "at"], 2, [true, false], [], [
  .ite (.not_ (.val (.p (.v 1)))) [.ex (.ocall 0 "put" [(.tup [(.str [102, 97, 105, 108])])]), .retN] [],
  .asg 2 (.lst []),
  .for_ (.nm 3) (.slc (.p (.v 1)) none (some (.neg (.int 1)))) [.asg 4 (.ocall 0 "put" [(.tup [(.str [99, 104, 111, 105, 99, 101]), (.int 0)])]), .ex (.call "write" [(.var 0), (.var 3)]), .ex (.app (.v 2) (.ocall 0 "put" [(.tup [(.str [99, 111, 109, 109, 105, 116]), (.int 0)])])), .ex (.ocall 0 "aim" [(.var 4), (.ocall 0 "here" [])])],
  .ex (.call "write" [(.var 0), (.idx (.p (.v 1)) (.neg (.int 1)))]),
  .for_ (.nm 5) (.var 2) [.ex (.ocall 0 "aim" [(.var 5), (.ocall 0 "here" [])])]]⟩
def f_write_one : Fn := ⟨["writer", "head", "inner", "choice"], 3, [true, false, false], [], [
  .asg 3 (.ocall 0 "put" [(.tup [(.str [99, 104, 111, 105, 99, 101]), (.int 0)])]),
  .ex (.call "write" [(.var 0), (.var 2)]),
  .ite (.val (.x (.cmp .eq (.var 1) (.x (.str [115, 116, 97, 114]))))) [.ex (.ocall 0 "put" [(.tup [(.str [99, 111, 109, 109, 105, 116]), (.var 3)])]), .ex (.ocall 0 "aim" [(.var 3), (.ocall 0 "here" [])])] [.ite (.val (.x (.cmp .eq (.var 1) (.x (.str [111, 112, 116]))))) [.ex (.ocall 0 "put" [(.tup [(.str [99, 111, 109, 109, 105, 116]), (.bin .add (.ocall 0 "here" []) (.x (.int 1)))])]), .ex (.ocall 0 "aim" [(.var 3), (.ocall 0 "here" [])])] [.ite (.val (.x (.cmp .eq (.var 1) (.x (.str [110, 111, 116]))))) [.ex (.ocall 0 "put" [(.tup [(.str [114, 101, 102, 117, 115, 101])])]), .ex (.ocall 0 "aim" [(.var 3), (.ocall 0 "here" [])])] [.ex (.ocall 0 "put" [(.tup [(.str [114, 101, 116, 117, 114, 110, 45, 116, 111]), (.bin .add (.ocall 0 "here" []) (.x (.int 2)))])]), .ex (.ocall 0 "aim" [(.var 3), (.ocall 0 "here" [])]), .ex (.ocall 0 "put" [(.tup [(.str [102, 97, 105, 108])])])]]]]⟩
def f_write : Fn := ⟨["writer", "expression", "head", "part"], 2, [true, false], [], [
  .asg 2 (.idx (.p (.v 1)) (.int 0)),
  .ite (.or_ (.val (.x (.cmp .eq (.var 2) (.x (.str [102, 97, 105, 108]))))) (.val (.x (.cmp .eq (.var 2) (.x (.str [97, 110, 121])))))) [.ex (.ocall 0 "put" [(.tup [(.var 2)])])] [.ite (.val (.x (.cmp .isin (.var 2) (.x (.tup [(.str [115, 101, 116]), (.str [116, 101, 120, 116]), (.str [99, 97, 108, 108])]))))) [.ex (.ocall 0 "put" [(.tup [(.var 2), (.idx (.p (.v 1)) (.int 1))])])] [.ite (.val (.x (.cmp .eq (.var 2) (.x (.str [115, 101, 113]))))) [.for_ (.nm 3) (.idx (.p (.v 1)) (.int 1)) [.ex (.call "write" [(.var 0), (.var 3)])]] [.ite (.val (.x (.cmp .eq (.var 2) (.x (.str [97, 108, 116]))))) [.ex (.call "write_alt" [(.var 0), (.idx (.p (.v 1)) (.int 1))])] [.ite (.val (.x (.cmp .eq (.var 2) (.x (.str [109, 97, 114, 107]))))) [.ex (.ocall 0 "put" [(.tup [(.str [111, 112, 101, 110]), (.idx (.p (.v 1)) (.int 1))])]), .ex (.call "write" [(.var 0), (.idx (.p (.v 1)) (.int 2))]), .ex (.ocall 0 "put" [(.tup [(.str [99, 108, 111, 115, 101])])])] [.ite (.val (.x (.cmp .ne (.var 2) (.x (.str [101, 112, 115]))))) [.ex (.call "write_one" [(.var 0), (.var 2), (.idx (.p (.v 1)) (.int 1))])] []]]]]]]⟩
def f_compiled : Fn := ⟨["grammar", "writer", "name", "expression"], 1, [false], [], [
  .ex (.call "checked" [(.var 0)]),
  .new 1 "Writer" [],
  .for_ (.tp [2, 3]) (.var 0) [.setFI 1 "starts" (.var 2) (.ocall 1 "here" []), .ex (.call "write" [(.var 1), (.var 3)]), .ex (.ocall 1 "put" [(.tup [(.str [114, 101, 116, 117, 114, 110])])])],
  .ret (.tup [(.attr 1 "rows"), (.attr 1 "starts")])]⟩
def f_Machine_init : Fn := ⟨["self", "rows", "starts", "text"], 4, [true, false, false, false], [], [
  .setF 0 "rows" (.var 1),
  .setF 0 "starts" (.var 2),
  .setF 0 "text" (.var 3),
  .setF 0 "place" (.int 0),
  .setF 0 "stack" (.lst []),
  .setF 0 "trees" (.lst []),
  .setF 0 "memory" (.dnew true),
  .setF 0 "entered" (.lst []),
  .setF 0 "row" (.int 0),
  .setF 0 "done" (.bl false),
  .setF 0 "told" .non]⟩
def f_Machine_enter : Fn := ⟨["self", "name", "back", "key", "told"], 3, [true, false, false], [], [
  .asg 3 (.tup [(.var 1), (.attr 0 "place")]),
  .ite (.val (.x (.cmp .isin (.var 3) (.p (.f 0 "memory"))))) [.asg 4 (.idx (.p (.f 0 "memory")) (.var 3)), .ite (.val (.x (.cmp .is (.var 4) (.x .non)))) [.ex (.ocall 0 "fail" [])] [.setF 0 "place" (.idx (.p (.v 4)) (.int 0)), .ex (.ext (.f 0 "trees") (.idx (.p (.v 4)) (.int 1))), .setF 0 "row" (.var 2)]] [.ex (.app (.f 0 "entered") (.var 3)), .ex (.app (.f 0 "stack") (.tup [(.str [99, 97, 108, 108]), (.var 2), (.var 3), (.b1 .len (.p (.f 0 "trees")))])), .setF 0 "row" (.idx (.p (.f 0 "starts")) (.var 1))]]⟩
def f_Machine_leave : Fn := ⟨["self", "head", "back", "key", "many", "told"], 1, [true], [], [
  .asgT [1, 2, 3, 4] (.pop (.f 0 "stack")),
  .asg 5 (.tup [(.attr 0 "place"), (.b1 .tuple (.x (.slc (.p (.f 0 "trees")) (some (.var 4)) none)))]),
  .setFI 0 "memory" (.var 3) (.var 5),
  .ite (.not_ (.val (.p (.f 0 "stack")))) [.setF 0 "done" (.bl true), .setF 0 "told" (.var 5)] [],
  .setF 0 "row" (.var 2)]⟩
def f_Machine_fail : Fn := ⟨["self", "frame", "head", "target", "place", "many"], 1, [true], [], [
  .while_ (.and_ (.val (.p (.f 0 "stack"))) (.val (.x (.cmp .ne (.idx (.x (.idx (.p (.f 0 "stack")) (.neg (.int 1)))) (.int 0)) (.x (.str [99, 104, 111, 105, 99, 101])))))) [.asg 1 (.pop (.f 0 "stack")), .ite (.val (.x (.cmp .eq (.idx (.p (.v 1)) (.int 0)) (.x (.str [99, 97, 108, 108]))))) [.setFI 0 "memory" (.idx (.p (.v 1)) (.int 2)) .non] []],
  .ite (.not_ (.val (.p (.f 0 "stack")))) [.setF 0 "done" (.bl true), .retN] [],
  .asgT [2, 3, 4, 5] (.pop (.f 0 "stack")),
  .setF 0 "row" (.var 3),
  .setF 0 "place" (.var 4),
  .delFS 0 "trees" (.var 5)]⟩
def f_Machine_take : Fn := ⟨["self", "size", "fits"], 3, [true, false, false], [], [
  .ite (.val (.p (.v 2))) [.augF 0 "place" .add (.p (.v 1)), .augF 0 "row" .add (.x (.int 1))] [.ex (.ocall 0 "fail" [])]]⟩
def f_Machine_close : Fn := ⟨["self", "head", "label", "start", "many", "tree"], 1, [true], [], [
  .asgT [1, 2, 3, 4] (.pop (.f 0 "stack")),
  .asg 5 (.tup [(.var 2), (.var 3), (.attr 0 "place"), (.b1 .tuple (.x (.slc (.p (.f 0 "trees")) (some (.var 4)) none)))]),
  .delFS 0 "trees" (.var 4),
  .ex (.app (.f 0 "trees") (.var 5)),
  .augF 0 "row" .add (.x (.int 1))]⟩
def f_Machine_step_back : Fn := ⟨["self", "target", "head", "other", "place", "many"], 2, [true, false], [], [
  .asgT [2, 3, 4, 5] (.pop (.f 0 "stack")),
  .setF 0 "place" (.var 4),
  .delFS 0 "trees" (.var 5),
  .setF 0 "row" (.var 1)]⟩
def f_Machine_step_choice : Fn := ⟨["self", "row", "head"], 2, [true, false], [], [
  .asg 2 (.idx (.p (.v 1)) (.int 0)),
  .ite (.val (.x (.cmp .eq (.var 2) (.x (.str [99, 104, 111, 105, 99, 101]))))) [.ex (.app (.f 0 "stack") (.tup [(.str [99, 104, 111, 105, 99, 101]), (.idx (.p (.v 1)) (.int 1)), (.attr 0 "place"), (.b1 .len (.p (.f 0 "trees")))])), .augF 0 "row" .add (.x (.int 1))] [.ite (.val (.x (.cmp .eq (.var 2) (.x (.str [99, 111, 109, 109, 105, 116]))))) [.ex (.pop (.f 0 "stack")), .setF 0 "row" (.idx (.p (.v 1)) (.int 1))] [.ite (.val (.x (.cmp .eq (.var 2) (.x (.str [114, 101, 116, 117, 114, 110, 45, 116, 111]))))) [.ex (.ocall 0 "step_back" [(.idx (.p (.v 1)) (.int 1))])] [.ex (.pop (.f 0 "stack")), .ex (.ocall 0 "fail" [])]]]]⟩
def f_Machine_step : Fn := ⟨["self", "row", "head", "text", "size"], 1, [true], [], [
  .asg 1 (.idx (.p (.f 0 "rows")) (.attr 0 "row")),
  .asg 2 (.idx (.p (.v 1)) (.int 0)),
  .asg 3 (.attr 0 "text"),
  .ite (.val (.x (.cmp .eq (.var 2) (.x (.str [116, 101, 120, 116]))))) [.asg 4 (.b1 .len (.x (.idx (.p (.v 1)) (.int 1)))), .ex (.ocall 0 "take" [(.var 4), (.cmp .eq (.slc (.p (.v 3)) (some (.attr 0 "place")) (some (.bin .add (.attr 0 "place") (.p (.v 4))))) (.x (.idx (.p (.v 1)) (.int 1))))])] [.ite (.val (.x (.cmp .eq (.var 2) (.x (.str [115, 101, 116]))))) [.ex (.ocall 0 "take" [(.int 1), (.and_ (.cmp .lt (.attr 0 "place") (.x (.b1 .len (.p (.v 3))))) (.cmp .isin (.idx (.p (.v 3)) (.attr 0 "place")) (.x (.idx (.p (.v 1)) (.int 1)))))])] [.ite (.val (.x (.cmp .eq (.var 2) (.x (.str [97, 110, 121]))))) [.ex (.ocall 0 "take" [(.int 1), (.cmp .lt (.attr 0 "place") (.x (.b1 .len (.p (.v 3)))))])] [.ite (.val (.x (.cmp .eq (.var 2) (.x (.str [102, 97, 105, 108]))))) [.ex (.ocall 0 "fail" [])] [.ite (.val (.x (.cmp .eq (.var 2) (.x (.str [99, 97, 108, 108]))))) [.ex (.ocall 0 "enter" [(.idx (.p (.v 1)) (.int 1)), (.bin .add (.attr 0 "row") (.x (.int 1)))])] [.ite (.val (.x (.cmp .eq (.var 2) (.x (.str [114, 101, 116, 117, 114, 110]))))) [.ex (.ocall 0 "leave" [])] [.ite (.val (.x (.cmp .eq (.var 2) (.x (.str [111, 112, 101, 110]))))) [.ex (.app (.f 0 "stack") (.tup [(.str [109, 97, 114, 107]), (.idx (.p (.v 1)) (.int 1)), (.attr 0 "place"), (.b1 .len (.p (.f 0 "trees")))])), .augF 0 "row" .add (.x (.int 1))] [.ite (.val (.x (.cmp .eq (.var 2) (.x (.str [99, 108, 111, 115, 101]))))) [.ex (.ocall 0 "close" [])] [.ex (.ocall 0 "step_choice" [(.var 1)])]]]]]]]]]⟩
def f_run : Fn := ⟨["grammar", "text", "at", "rows", "starts", "machine"], 3, [false, false, false], [], [
  .ex (.call "check" [(.var 0)]),
  .asgT [3, 4] (.call "compiled" [(.var 0)]),
  .new 5 "Machine" [(.var 3), (.var 4), (.var 1)],
  .setF 5 "place" (.var 2),
  .ex (.ocall 5 "enter" [(.idx (.x (.idx (.p (.v 0)) (.int 0))) (.int 0)), (.int 0)]),
  .while_ (.not_ (.val (.p (.f 5 "done")))) [.ex (.ocall 5 "step" [])],
  .ret (.tup [(.attr 5 "told"), (.attr 5 "entered")])]⟩
def f_match : Fn := ⟨["grammar", "text", "at"], 3, [false, false, false], [(.int 0)], [
  .ret (.idx (.x (.call "run" [(.var 0), (.var 1), (.var 2)])) (.int 0))]⟩
def f_l_stream : Fn := ⟨["script", "row", "cell", "left", "k", "seed"], 1, [false], [], [
  .asg 1 (.lst [(.int 1)]),
  .for_ (.nm 2) (.slc (.p (.v 0)) none (some (.int 63))) [.asg 3 (.b1 .abs (.x (.b1 .int (.p (.v 2))))), .for_ (.nm 4) (.rng none (.int 60)) [.ex (.app (.v 1) (.bin .mod (.var 3) (.x (.int 59)))), .asg 3 (.bin .fdiv (.var 3) (.x (.int 59))), .ite (.val (.x (.cmp .eq (.var 3) (.x (.int 0))))) [.brk] []]],
  .asg 5 (.int 7),
  .for_ (.nm 2) (.slc (.p (.v 0)) none (some (.int 63))) [.asg 5 (.bin .mod (.b1 .int (.x (.bin .add (.bin .add (.bin .mul (.var 5) (.x (.int 131))) (.p (.v 2))) (.x (.int 17))))) (.x (.int 1000003)))],
  .for_ (.nm 4) (.rng none (.int 150)) [.asg 5 (.bin .mod (.b1 .int (.x (.bin .add (.bin .add (.bin .mul (.var 5) (.x (.int 48271))) (.x (.bin .mul (.var 4) (.x (.int 69621))))) (.x (.int 11))))) (.x (.int 2147483647))), .ex (.app (.v 1) (.bin .mod (.bin .fdiv (.var 5) (.x (.int 1009))) (.x (.int 59))))],
  .retv 1]⟩
def f_l_take : Fn := ⟨["row", "many"], 2, [true, false], [], [
  .ite (.val (.x (.cmp .lt (.idx (.p (.v 0)) (.int 0)) (.x (.b1 .len (.p (.v 0))))))) [.setI 0 (.int 0) (.bin .add (.idx (.p (.v 0)) (.int 0)) (.x (.int 1))), .ret (.bin .mod (.b1 .int (.x (.idx (.p (.v 0)) (.bin .sub (.idx (.p (.v 0)) (.int 0)) (.x (.int 1)))))) (.p (.v 1)))] [],
  .ret (.int 0)]⟩
def f_law : Fn := ⟨["script", "row", "words", "k", "piece", "text", "at", "called", "choice", "word", "grammar", "start", "place", "trees", "entered", "fits"], 1, [false], [], [
  .asg 1 (.call "_law_stream" [(.var 0)]),
  .asg 2 (.lst []),
  .for_ (.nm 3) (.rng none (.bin .add (.int 1) (.x (.call "_law_take" [(.var 1), (.int 3)])))) [.ex (.app (.v 2) (.idx (.x (.lst [(.str [97]), (.str [98]), (.str [97, 98]), (.str [98, 97]), (.str [97, 97, 98]), (.str [99])])) (.call "_law_take" [(.var 1), (.int 6)])))],
  .asg 4 (.m1 .join (.x (.str [])) (.comp (.nm 3) (.idx (.p (.v 2)) (.call "_law_take" [(.var 1), (.b1 .len (.p (.v 2)))])) (.rng none (.bin .add (.int 1) (.x (.call "_law_take" [(.var 1), (.int 6)])))) [])),
  .asg 5 (.slc (.x (.bin .mul (.var 4) (.x (.int 2600)))) none (some (.bin .sub (.idx (.x (.lst [(.int 300), (.int 900), (.int 2500)])) (.call "_law_take" [(.var 1), (.int 3)])) (.x (.call "_law_take" [(.var 1), (.int 40)]))))),
  .ite (.val (.x (.cmp .eq (.call "_law_take" [(.var 1), (.int 3)]) (.x (.int 0))))) [.asg 6 (.bin .sub (.bin .sub (.b1 .len (.p (.v 5))) (.x (.int 1))) (.x (.call "_law_take" [(.var 1), (.int 30)]))), .asg 5 (.bin .add (.bin .add (.slc (.p (.v 5)) none (some (.var 6))) (.x (.str [122]))) (.x (.slc (.p (.v 5)) (some (.bin .add (.var 6) (.x (.int 1)))) none)))] [],
  .asg 7 (.cmp .eq (.call "_law_take" [(.var 1), (.int 2)]) (.x (.int 0))),
  .asg 8 (.tup [(.str [109, 97, 114, 107]), (.str [109]), (.tup [(.str [97, 108, 116]), (.b1 .tuple (.x (.comp (.nm 9) (.tup [(.str [116, 101, 120, 116]), (.var 9)]) (.var 2) [])))])]),
  .ite (.val (.p (.v 7))) [.asg 10 (.tup [(.tup [(.str [116]), (.tup [(.str [115, 116, 97, 114]), (.tup [(.str [99, 97, 108, 108]), (.str [117])])])]), (.tup [(.str [117]), (.var 8)])])] [.asg 10 (.tup [(.tup [(.str [116]), (.tup [(.str [115, 116, 97, 114]), (.var 8)])])])],
  .asg 11 (.call "_law_take" [(.var 1), (.int 5)]),
  .asgP [12, 13, 14] [(.var 11), (.lst []), (.lst [(.tup [(.str [116]), (.var 11)])])],
  .while_ (.val (.x (.bl true))) [.ite (.val (.p (.v 7))) [.ex (.app (.v 14) (.tup [(.str [117]), (.var 12)]))] [], .asg 15 (.comp (.nm 9) (.var 9) (.var 2) [(.val (.x (.cmp .eq (.slc (.p (.v 5)) (some (.var 12)) (some (.bin .add (.var 12) (.x (.b1 .len (.p (.v 9))))))) (.p (.v 9)))))]), .ite (.val (.x (.cmp .eq (.b1 .len (.p (.v 15))) (.x (.int 0))))) [.brk] [], .ex (.app (.v 13) (.tup [(.str [109]), (.var 12), (.bin .add (.var 12) (.x (.b1 .len (.x (.idx (.p (.v 15)) (.int 0)))))), (.tup [])])), .asg 12 (.bin .add (.var 12) (.x (.b1 .len (.x (.idx (.p (.v 15)) (.int 0))))))],
  .ite (.val (.x (.cmp .ne (.call "match" [(.var 10), (.var 5), (.var 11)]) (.x (.tup [(.var 12), (.b1 .tuple (.p (.v 13)))]))))) [.ret (.bl false)] [],
  .ret (.cmp .eq (.call "run" [(.var 10), (.var 5), (.var 11)]) (.x (.tup [(.tup [(.var 12), (.b1 .tuple (.p (.v 13)))]), (.var 14)])))]⟩
def fnsT : String → Option Fn
  | "is_name" => some f_is_name
  | "is_text" => some f_is_text
  | "is_set" => some f_is_set
  | "is_expression" => some f_is_expression
  | "is_grammar" => some f_is_grammar
  | "checked" => some f_checked
  | "parts_of" => some f_parts_of
  | "calls_of" => some f_calls_of
  | "may_be_empty" => some f_may_be_empty
  | "empty_rules" => some f_empty_rules
  | "first_calls" => some f_first_calls
  | "has_idle_star" => some f_has_idle_star
  | "reached" => some f_reached
  | "check" => some f_check
  | "Writer.__init__" => some f_Writer_init
  | "Writer.put" => some f_Writer_put
  | "Writer.aim" => some f_Writer_aim
  | "Writer.here" => some f_Writer_here
  | "write_alt" => some f_write_alt
  | "write_one" => some f_write_one
  | "write" => some f_write
  | "compiled" => some f_compiled
  | "Machine.__init__" => some f_Machine_init
  | "Machine.enter" => some f_Machine_enter
  | "Machine.leave" => some f_Machine_leave
  | "Machine.fail" => some f_Machine_fail
  | "Machine.take" => some f_Machine_take
  | "Machine.close" => some f_Machine_close
  | "Machine.step_back" => some f_Machine_step_back
  | "Machine.step_choice" => some f_Machine_step_choice
  | "Machine.step" => some f_Machine_step
  | "run" => some f_run
  | "match" => some f_match
  | "_law_stream" => some f_l_stream
  | "_law_take" => some f_l_take
  | "law" => some f_law
  | _ => none
def glbT : String → Option D
  | "MAX_RULES" => some (.int 16)
  | "MAX_PARTS" => some (.int 16)
  | "MAX_DEPTH" => some (.int 12)
  | "MAX_TEXT" => some (.int 20)
  | "CHARS" => some (.str [32, 33, 34, 35, 36, 38, 39, 40, 41, 42, 43, 44, 45, 46, 47, 48, 49, 50, 51, 52, 53, 54, 55, 56, 57, 58, 59, 60, 61, 62, 63, 64, 65, 66, 67, 68, 69, 70, 71, 72, 73, 74, 75, 76, 77, 78, 79, 80, 81, 82, 83, 84, 85, 86, 87, 88, 89, 90, 91, 92, 93, 94, 95, 96, 97, 98, 99, 100, 101, 102, 103, 104, 105, 106, 107, 108, 109, 110, 111, 112, 113, 114, 115, 116, 117, 118, 119, 120, 121, 122, 123, 124, 125, 126])
  | "LETTERS" => some (.str [97, 98, 99, 100, 101, 102, 103, 104, 105, 106, 107, 108, 109, 110, 111, 112, 113, 114, 115, 116, 117, 118, 119, 120, 121, 122])
  | "LONE" => some (.tup [(.str [101, 112, 115]), (.str [102, 97, 105, 108]), (.str [97, 110, 121])])
  | "ONES" => some (.tup [(.str [115, 116, 97, 114]), (.str [111, 112, 116]), (.str [110, 111, 116]), (.str [97, 110, 100])])
  | _ => none
abbrev GT : Prog := ⟨fnsT, glbT⟩
@[simp ↓] theorem at_is_name : fnsT "is_name" = some f_is_name := rfl
@[simp ↓] theorem io_is_name : f_is_name.io = [false] := rfl
@[simp ↓] theorem np_is_name : f_is_name.np = 1 := rfl
@[simp ↓] theorem df_is_name : f_is_name.dflt = [] := rfl
@[simp ↓] theorem at_is_text : fnsT "is_text" = some f_is_text := rfl
@[simp ↓] theorem io_is_text : f_is_text.io = [false] := rfl
@[simp ↓] theorem np_is_text : f_is_text.np = 1 := rfl
@[simp ↓] theorem df_is_text : f_is_text.dflt = [] := rfl
@[simp ↓] theorem at_is_set : fnsT "is_set" = some f_is_set := rfl
@[simp ↓] theorem io_is_set : f_is_set.io = [false] := rfl
@[simp ↓] theorem np_is_set : f_is_set.np = 1 := rfl
@[simp ↓] theorem df_is_set : f_is_set.dflt = [] := rfl
@[simp ↓] theorem at_is_expression : fnsT "is_expression" = some f_is_expression := rfl
@[simp ↓] theorem io_is_expression : f_is_expression.io = [false, false] := rfl
@[simp ↓] theorem np_is_expression : f_is_expression.np = 2 := rfl
@[simp ↓] theorem df_is_expression : f_is_expression.dflt = [(.int 12)] := rfl
@[simp ↓] theorem at_is_grammar : fnsT "is_grammar" = some f_is_grammar := rfl
@[simp ↓] theorem io_is_grammar : f_is_grammar.io = [false] := rfl
@[simp ↓] theorem np_is_grammar : f_is_grammar.np = 1 := rfl
@[simp ↓] theorem df_is_grammar : f_is_grammar.dflt = [] := rfl
@[simp ↓] theorem at_checked : fnsT "checked" = some f_checked := rfl
@[simp ↓] theorem io_checked : f_checked.io = [false] := rfl
@[simp ↓] theorem np_checked : f_checked.np = 1 := rfl
@[simp ↓] theorem df_checked : f_checked.dflt = [] := rfl
@[simp ↓] theorem at_parts_of : fnsT "parts_of" = some f_parts_of := rfl
@[simp ↓] theorem io_parts_of : f_parts_of.io = [false] := rfl
@[simp ↓] theorem np_parts_of : f_parts_of.np = 1 := rfl
@[simp ↓] theorem df_parts_of : f_parts_of.dflt = [] := rfl
@[simp ↓] theorem at_calls_of : fnsT "calls_of" = some f_calls_of := rfl
@[simp ↓] theorem io_calls_of : f_calls_of.io = [false] := rfl
@[simp ↓] theorem np_calls_of : f_calls_of.np = 1 := rfl
@[simp ↓] theorem df_calls_of : f_calls_of.dflt = [] := rfl
@[simp ↓] theorem at_may_be_empty : fnsT "may_be_empty" = some f_may_be_empty := rfl
@[simp ↓] theorem io_may_be_empty : f_may_be_empty.io = [false, false] := rfl
@[simp ↓] theorem np_may_be_empty : f_may_be_empty.np = 2 := rfl
@[simp ↓] theorem df_may_be_empty : f_may_be_empty.dflt = [] := rfl
@[simp ↓] theorem at_empty_rules : fnsT "empty_rules" = some f_empty_rules := rfl
@[simp ↓] theorem io_empty_rules : f_empty_rules.io = [false] := rfl
@[simp ↓] theorem np_empty_rules : f_empty_rules.np = 1 := rfl
@[simp ↓] theorem df_empty_rules : f_empty_rules.dflt = [] := rfl
@[simp ↓] theorem at_first_calls : fnsT "first_calls" = some f_first_calls := rfl
@[simp ↓] theorem io_first_calls : f_first_calls.io = [false, false] := rfl
@[simp ↓] theorem np_first_calls : f_first_calls.np = 2 := rfl
@[simp ↓] theorem df_first_calls : f_first_calls.dflt = [] := rfl
@[simp ↓] theorem at_has_idle_star : fnsT "has_idle_star" = some f_has_idle_star := rfl
@[simp ↓] theorem io_has_idle_star : f_has_idle_star.io = [false, false] := rfl
@[simp ↓] theorem np_has_idle_star : f_has_idle_star.np = 2 := rfl
@[simp ↓] theorem df_has_idle_star : f_has_idle_star.dflt = [] := rfl
@[simp ↓] theorem at_reached : fnsT "reached" = some f_reached := rfl
@[simp ↓] theorem io_reached : f_reached.io = [false, false] := rfl
@[simp ↓] theorem np_reached : f_reached.np = 2 := rfl
@[simp ↓] theorem df_reached : f_reached.dflt = [] := rfl
@[simp ↓] theorem at_check : fnsT "check" = some f_check := rfl
@[simp ↓] theorem io_check : f_check.io = [false] := rfl
@[simp ↓] theorem np_check : f_check.np = 1 := rfl
@[simp ↓] theorem df_check : f_check.dflt = [] := rfl
@[simp ↓] theorem at_Writer_init : fnsT "Writer.__init__" = some f_Writer_init := rfl
@[simp ↓] theorem io_Writer_init : f_Writer_init.io = [true] := rfl
@[simp ↓] theorem np_Writer_init : f_Writer_init.np = 1 := rfl
@[simp ↓] theorem df_Writer_init : f_Writer_init.dflt = [] := rfl
@[simp ↓] theorem at_Writer_put : fnsT "Writer.put" = some f_Writer_put := rfl
@[simp ↓] theorem io_Writer_put : f_Writer_put.io = [true, false] := rfl
@[simp ↓] theorem np_Writer_put : f_Writer_put.np = 2 := rfl
@[simp ↓] theorem df_Writer_put : f_Writer_put.dflt = [] := rfl
@[simp ↓] theorem at_Writer_aim : fnsT "Writer.aim" = some f_Writer_aim := rfl
@[simp ↓] theorem io_Writer_aim : f_Writer_aim.io = [true, false, false] := rfl
@[simp ↓] theorem np_Writer_aim : f_Writer_aim.np = 3 := rfl
@[simp ↓] theorem df_Writer_aim : f_Writer_aim.dflt = [] := rfl
@[simp ↓] theorem at_Writer_here : fnsT "Writer.here" = some f_Writer_here := rfl
@[simp ↓] theorem io_Writer_here : f_Writer_here.io = [true] := rfl
@[simp ↓] theorem np_Writer_here : f_Writer_here.np = 1 := rfl
@[simp ↓] theorem df_Writer_here : f_Writer_here.dflt = [] := rfl
@[simp ↓] theorem at_write_alt : fnsT "write_alt" = some f_write_alt := rfl
@[simp ↓] theorem io_write_alt : f_write_alt.io = [true, false] := rfl
@[simp ↓] theorem np_write_alt : f_write_alt.np = 2 := rfl
@[simp ↓] theorem df_write_alt : f_write_alt.dflt = [] := rfl
@[simp ↓] theorem at_write_one : fnsT "write_one" = some f_write_one := rfl
@[simp ↓] theorem io_write_one : f_write_one.io = [true, false, false] := rfl
@[simp ↓] theorem np_write_one : f_write_one.np = 3 := rfl
@[simp ↓] theorem df_write_one : f_write_one.dflt = [] := rfl
@[simp ↓] theorem at_write : fnsT "write" = some f_write := rfl
@[simp ↓] theorem io_write : f_write.io = [true, false] := rfl
@[simp ↓] theorem np_write : f_write.np = 2 := rfl
@[simp ↓] theorem df_write : f_write.dflt = [] := rfl
@[simp ↓] theorem at_compiled : fnsT "compiled" = some f_compiled := rfl
@[simp ↓] theorem io_compiled : f_compiled.io = [false] := rfl
@[simp ↓] theorem np_compiled : f_compiled.np = 1 := rfl
@[simp ↓] theorem df_compiled : f_compiled.dflt = [] := rfl
@[simp ↓] theorem at_Machine_init : fnsT "Machine.__init__" = some f_Machine_init := rfl
@[simp ↓] theorem io_Machine_init : f_Machine_init.io = [true, false, false, false] := rfl
@[simp ↓] theorem np_Machine_init : f_Machine_init.np = 4 := rfl
@[simp ↓] theorem df_Machine_init : f_Machine_init.dflt = [] := rfl
@[simp ↓] theorem at_Machine_enter : fnsT "Machine.enter" = some f_Machine_enter := rfl
@[simp ↓] theorem io_Machine_enter : f_Machine_enter.io = [true, false, false] := rfl
@[simp ↓] theorem np_Machine_enter : f_Machine_enter.np = 3 := rfl
@[simp ↓] theorem df_Machine_enter : f_Machine_enter.dflt = [] := rfl
@[simp ↓] theorem at_Machine_leave : fnsT "Machine.leave" = some f_Machine_leave := rfl
@[simp ↓] theorem io_Machine_leave : f_Machine_leave.io = [true] := rfl
@[simp ↓] theorem np_Machine_leave : f_Machine_leave.np = 1 := rfl
@[simp ↓] theorem df_Machine_leave : f_Machine_leave.dflt = [] := rfl
@[simp ↓] theorem at_Machine_fail : fnsT "Machine.fail" = some f_Machine_fail := rfl
@[simp ↓] theorem io_Machine_fail : f_Machine_fail.io = [true] := rfl
@[simp ↓] theorem np_Machine_fail : f_Machine_fail.np = 1 := rfl
@[simp ↓] theorem df_Machine_fail : f_Machine_fail.dflt = [] := rfl
@[simp ↓] theorem at_Machine_take : fnsT "Machine.take" = some f_Machine_take := rfl
@[simp ↓] theorem io_Machine_take : f_Machine_take.io = [true, false, false] := rfl
@[simp ↓] theorem np_Machine_take : f_Machine_take.np = 3 := rfl
@[simp ↓] theorem df_Machine_take : f_Machine_take.dflt = [] := rfl
@[simp ↓] theorem at_Machine_close : fnsT "Machine.close" = some f_Machine_close := rfl
@[simp ↓] theorem io_Machine_close : f_Machine_close.io = [true] := rfl
@[simp ↓] theorem np_Machine_close : f_Machine_close.np = 1 := rfl
@[simp ↓] theorem df_Machine_close : f_Machine_close.dflt = [] := rfl
@[simp ↓] theorem at_Machine_step_back : fnsT "Machine.step_back" = some f_Machine_step_back := rfl
@[simp ↓] theorem io_Machine_step_back : f_Machine_step_back.io = [true, false] := rfl
@[simp ↓] theorem np_Machine_step_back : f_Machine_step_back.np = 2 := rfl
@[simp ↓] theorem df_Machine_step_back : f_Machine_step_back.dflt = [] := rfl
@[simp ↓] theorem at_Machine_step_choice : fnsT "Machine.step_choice" = some f_Machine_step_choice := rfl
@[simp ↓] theorem io_Machine_step_choice : f_Machine_step_choice.io = [true, false] := rfl
@[simp ↓] theorem np_Machine_step_choice : f_Machine_step_choice.np = 2 := rfl
@[simp ↓] theorem df_Machine_step_choice : f_Machine_step_choice.dflt = [] := rfl
@[simp ↓] theorem at_Machine_step : fnsT "Machine.step" = some f_Machine_step := rfl
@[simp ↓] theorem io_Machine_step : f_Machine_step.io = [true] := rfl
@[simp ↓] theorem np_Machine_step : f_Machine_step.np = 1 := rfl
@[simp ↓] theorem df_Machine_step : f_Machine_step.dflt = [] := rfl
@[simp ↓] theorem at_run : fnsT "run" = some f_run := rfl
@[simp ↓] theorem io_run : f_run.io = [false, false, false] := rfl
@[simp ↓] theorem np_run : f_run.np = 3 := rfl
@[simp ↓] theorem df_run : f_run.dflt = [] := rfl
@[simp ↓] theorem at_match : fnsT "match" = some f_match := rfl
@[simp ↓] theorem io_match : f_match.io = [false, false, false] := rfl
@[simp ↓] theorem np_match : f_match.np = 3 := rfl
@[simp ↓] theorem df_match : f_match.dflt = [(.int 0)] := rfl
@[simp ↓] theorem at_l_stream : fnsT "_law_stream" = some f_l_stream := rfl
@[simp ↓] theorem io_l_stream : f_l_stream.io = [false] := rfl
@[simp ↓] theorem np_l_stream : f_l_stream.np = 1 := rfl
@[simp ↓] theorem df_l_stream : f_l_stream.dflt = [] := rfl
@[simp ↓] theorem at_l_take : fnsT "_law_take" = some f_l_take := rfl
@[simp ↓] theorem io_l_take : f_l_take.io = [true, false] := rfl
@[simp ↓] theorem np_l_take : f_l_take.np = 2 := rfl
@[simp ↓] theorem df_l_take : f_l_take.dflt = [] := rfl
@[simp ↓] theorem at_law : fnsT "law" = some f_law := rfl
@[simp ↓] theorem io_law : f_law.io = [false] := rfl
@[simp ↓] theorem np_law : f_law.np = 1 := rfl
@[simp ↓] theorem df_law : f_law.dflt = [] := rfl
@[simp ↓] theorem gl_MAX_RULES : glbT "MAX_RULES" = some (.int 16) := rfl
@[simp ↓] theorem gl_MAX_PARTS : glbT "MAX_PARTS" = some (.int 16) := rfl
@[simp ↓] theorem gl_MAX_DEPTH : glbT "MAX_DEPTH" = some (.int 12) := rfl
@[simp ↓] theorem gl_MAX_TEXT : glbT "MAX_TEXT" = some (.int 20) := rfl
@[simp ↓] theorem gl_CHARS : glbT "CHARS" = some (.str [32, 33, 34, 35, 36, 38, 39, 40, 41, 42, 43, 44, 45, 46, 47, 48, 49, 50, 51, 52, 53, 54, 55, 56, 57, 58, 59, 60, 61, 62, 63, 64, 65, 66, 67, 68, 69, 70, 71, 72, 73, 74, 75, 76, 77, 78, 79, 80, 81, 82, 83, 84, 85, 86, 87, 88, 89, 90, 91, 92, 93, 94, 95, 96, 97, 98, 99, 100, 101, 102, 103, 104, 105, 106, 107, 108, 109, 110, 111, 112, 113, 114, 115, 116, 117, 118, 119, 120, 121, 122, 123, 124, 125, 126]) := rfl
@[simp ↓] theorem gl_LETTERS : glbT "LETTERS" = some (.str [97, 98, 99, 100, 101, 102, 103, 104, 105, 106, 107, 108, 109, 110, 111, 112, 113, 114, 115, 116, 117, 118, 119, 120, 121, 122]) := rfl
@[simp ↓] theorem gl_LONE : glbT "LONE" = some (.tup [(.str [101, 112, 115]), (.str [102, 97, 105, 108]), (.str [97, 110, 121])]) := rfl
@[simp ↓] theorem gl_ONES : glbT "ONES" = some (.tup [(.str [115, 116, 97, 114]), (.str [111, 112, 116]), (.str [110, 111, 116]), (.str [97, 110, 100])]) := rfl
instance : GA GT := { tn := "MAX_TEXT", ln := "LONE", gl_MAX_TEXT := rfl, gl_LONE := rfl, at_is_name := rfl, at_is_text := rfl, at_is_set := rfl, at_is_expression := rfl, at_is_grammar := rfl, gl_MAX_RULES := rfl, gl_MAX_PARTS := rfl, gl_CHARS := rfl, gl_LETTERS := rfl, gl_ONES := rfl }
instance : GB GT := { at_parts_of := rfl, at_may_be_empty := rfl, at_empty_rules := rfl, gl_ONES := rfl }
instance : GK GT := { at_checked := rfl, at_calls_of := rfl, at_first_calls := rfl, at_has_idle_star := rfl, at_reached := rfl, at_check := rfl }
instance : GM GT := { at_Writer_init := rfl, at_Writer_put := rfl, at_Writer_aim := rfl, at_Writer_here := rfl, at_write_alt := rfl, at_write_one := rfl, at_write := rfl, at_compiled := rfl, at_Machine_init := rfl, at_Machine_enter := rfl, at_Machine_leave := rfl, at_Machine_fail := rfl, at_Machine_take := rfl, at_Machine_close := rfl, at_Machine_step_back := rfl, at_Machine_step_choice := rfl, at_Machine_step := rfl, at_run := rfl, at_match := rfl }
instance : GS GT := { at_l_stream := rfl }
instance : GT1 GT := { mn := "many", at_l_take := rfl }
end Gr

end
section
set_option Elab.async false
set_option linter.all false
set_option maxRecDepth 100000
set_option maxHeartbeats 4000000
namespace Gr

theorem is_name_t {n : Nat} {k : KT'} {x} : GT.callF (n + 1) "is_name" [.val (.str [116])] k x = k (.val (.bl true)) [] := by
  rw [callF_at rfl]; simp [f_is_name]
theorem is_name_u {n : Nat} {k : KT'} {x} : GT.callF (n + 1) "is_name" [.val (.str [117])] k x = k (.val (.bl true)) [] := by
  rw [callF_at rfl]; simp [f_is_name]
theorem is_name_m {n : Nat} {k : KT'} {x} : GT.callF (n + 1) "is_name" [.val (.str [109])] k x = k (.val (.bl true)) [] := by
  rw [callF_at rfl]; simp [f_is_name]
def Wrd (w : List Nat) : Prop := w ∈ ([[97], [98], [97, 98], [98, 97], [97, 97, 98], [99]] : List (List Nat))
theorem is_text_w {w : List Nat} (h : Wrd w) {n : Nat} {k : KT'} {x} : GT.callF (n + 1) "is_text" [.val (.str w)] k x = k (.val (.bl true)) [] := by
  unfold Wrd at h
  rw [callF_at rfl]
  simp only [List.mem_cons, List.not_mem_nil, or_false] at h
  rcases h with rfl | rfl | rfl | rfl | rfl | rfl <;> simp [f_is_text]
theorem is_expr_w {w : List Nat} (h : Wrd w) {n : Nat} {k : KT'} {x} {d : Int} (hd : 0 < d) : GT.callF (n + 2) "is_expression" [.val (.tup [.str [116, 101, 120, 116], .str w]), .val (.int d)] k x = k (.val (.bl true)) [] := by
  rw [callF_at rfl]
  simp [f_is_expression, is_text_w h, show ¬ d = 0 by omega]
end Gr

end
section
set_option Elab.async false
set_option linter.all false
set_option maxRecDepth 100000
set_option maxHeartbeats 4000000
namespace Gr
abbrev tx (w : List Nat) : D := .tup [.str [116, 101, 120, 116], .str w]
abbrev alt (ws : List (List Nat)) : D := .tup [.str [97, 108, 116], .tup (ws.map tx)]
abbrev chc (ws : List (List Nat)) : D := .tup [.str [109, 97, 114, 107], .str [109], alt ws]
abbrev cal : D := .tup [.str [99, 97, 108, 108], .str [117]]
abbrev star (x : D) : D := .tup [.str [115, 116, 97, 114], x]
theorem is_expr_cal {n : Nat} {k : KT'} {x} {d : Int} (hd : 0 < d) : GT.callF (n + 2) "is_expression" [.val cal, .val (.int d)] k x = k (.val (.bl true)) [] := by
  rw [callF_at rfl]
  simp [f_is_expression, ↓is_name_u, show ¬ d = 0 by omega]
inductive WL : List (List Nat) → Prop
  | one {a} : Wrd a → WL [a]
  | two {a b} : Wrd a → Wrd b → WL [a, b]
  | thr {a b c} : Wrd a → Wrd b → Wrd c → WL [a, b, c]
theorem is_expr_alt {ws} (h : WL ws) {n : Nat} {k : KT'} {x} {d : Int} (hd : 1 < d) : GT.callF (n + 3) "is_expression" [.val (alt ws), .val (.int d)] k x = k (.val (.bl true)) [] := by
  rw [callF_at rfl]
  cases h <;> simp [f_is_expression, ↓is_expr_w, *, show ¬ d = 0 by omega, show 0 < d - 1 by omega]
theorem is_expr_chc {ws} (h : WL ws) {n : Nat} {k : KT'} {x} {d : Int} (hd : 2 < d) : GT.callF (n + 4) "is_expression" [.val (chc ws), .val (.int d)] k x = k (.val (.bl true)) [] := by
  rw [callF_at rfl]
  simp [f_is_expression, ↓is_expr_alt h, ↓is_name_m, show ¬ d = 0 by omega, show 1 < d - 1 by omega]
theorem is_expr_sca {n : Nat} {k : KT'} {x} : GT.callF (n + 3) "is_expression" [.val (star cal), .val (.int 12)] k x = k (.val (.bl true)) [] := by
  rw [callF_at rfl]
  simp [f_is_expression, ↓is_expr_cal]
theorem is_expr_sch {ws} (h : WL ws) {n : Nat} {k : KT'} {x} : GT.callF (n + 5) "is_expression" [.val (star (chc ws)), .val (.int 12)] k x = k (.val (.bl true)) [] := by
  rw [callF_at rfl]
  simp [f_is_expression, ↓is_expr_chc h]
abbrev g1 (ws : List (List Nat)) : D := .tup [.tup [.str [116], star cal], .tup [.str [117], chc ws]]
abbrev g2 (ws : List (List Nat)) : D := .tup [.tup [.str [116], star (chc ws)]]
theorem is_g1 {ws} (h : WL ws) {n : Nat} {k : KT'} {x} : GT.callF (n + 6) "is_grammar" [.val (g1 ws)] k x = k (.val (.bl true)) [] := by
  rw [callF_at rfl]
  simp [f_is_grammar, ↓is_expr_sca, ↓is_expr_chc h, ↓is_name_t, ↓is_name_u, big]
theorem is_g2 {ws} (h : WL ws) {n : Nat} {k : KT'} {x} : GT.callF (n + 6) "is_grammar" [.val (g2 ws)] k x = k (.val (.bl true)) [] := by
  rw [callF_at rfl]
  simp [f_is_grammar, ↓is_expr_sch h, ↓is_name_t, ↓is_name_u, big]
end Gr

end
section
set_option Elab.async false
set_option linter.all false
set_option maxRecDepth 100000
set_option maxHeartbeats 4000000
namespace Gr
section
variable {n : Nat} {k : KT'} {x : String → D → Prop} {ws : List (List Nat)} {w : List Nat} {ns : List D}
theorem parts_tx : GT.callF (n + 1) "parts_of" [.val (tx w)] k x = k (.own (.lst [])) [] := by
  rw [callF_at rfl]; simp [f_parts_of]
theorem parts_cal : GT.callF (n + 1) "parts_of" [.val cal] k x = k (.own (.lst [])) [] := by
  rw [callF_at rfl]; simp [f_parts_of]
theorem parts_alt : GT.callF (n + 1) "parts_of" [.val (alt ws)] k x = k (.own (.lst (ws.map tx))) [] := by
  rw [callF_at rfl]; simp [f_parts_of]
theorem parts_chc : GT.callF (n + 1) "parts_of" [.val (chc ws)] k x = k (.own (.lst [alt ws])) [] := by
  rw [callF_at rfl]; simp [f_parts_of]
theorem parts_star {y : D} : GT.callF (n + 1) "parts_of" [.val (star y)] k x = k (.own (.lst [y])) [] := by
  rw [callF_at rfl]; simp [f_parts_of]
theorem calls_tx : GT.callF (n + 2) "calls_of" [.val (tx w)] k x = k (.own (.lst [])) [] := by
  rw [callF_at rfl]; simp [f_calls_of, ↓parts_tx]
theorem calls_cal : GT.callF (n + 2) "calls_of" [.val cal] k x = k (.own (.lst [.str [117]])) [] := by
  rw [callF_at rfl]; simp [f_calls_of]
theorem calls_alt (h : WL ws) : GT.callF (n + 3) "calls_of" [.val (alt ws)] k x = k (.own (.lst [])) [] := by
  rw [callF_at rfl]; cases h <;> simp [f_calls_of, ↓parts_alt, ↓calls_tx]
theorem calls_chc (h : WL ws) : GT.callF (n + 4) "calls_of" [.val (chc ws)] k x = k (.own (.lst [])) [] := by
  rw [callF_at rfl]; simp [f_calls_of, ↓parts_chc, ↓calls_alt h]
theorem calls_sca : GT.callF (n + 3) "calls_of" [.val (star cal)] k x = k (.own (.lst [.str [117]])) [] := by
  rw [callF_at rfl]; simp [f_calls_of, ↓parts_star, ↓calls_cal, big]
theorem calls_sch (h : WL ws) : GT.callF (n + 5) "calls_of" [.val (star (chc ws))] k x = k (.own (.lst [])) [] := by
  rw [callF_at rfl]; simp [f_calls_of, ↓parts_star, ↓calls_chc h]
theorem may_tx : GT.callF (n + 1) "may_be_empty" [.val (tx w), .val (.lst ns)] k x = k (.val (.bl false)) [] := by
  rw [callF_at rfl]; simp [f_may_be_empty]
theorem may_cal0 : GT.callF (n + 1) "may_be_empty" [.val cal, .val (.lst [])] k x = k (.val (.bl false)) [] := by
  rw [callF_at rfl]; simp [f_may_be_empty]
theorem may_cal1 : GT.callF (n + 1) "may_be_empty" [.val cal, .val (.lst [.str [116]])] k x = k (.val (.bl false)) [] := by
  rw [callF_at rfl]; simp [f_may_be_empty]
theorem may_star {y : D} : GT.callF (n + 1) "may_be_empty" [.val (star y), .val (.lst ns)] k x = k (.val (.bl true)) [] := by
  rw [callF_at rfl]; simp [f_may_be_empty]
theorem may_alt (h : WL ws) : GT.callF (n + 2) "may_be_empty" [.val (alt ws), .val (.lst ns)] k x = k (.val (.bl false)) [] := by
  rw [callF_at rfl]; cases h <;> simp [f_may_be_empty, ↓may_tx]
theorem may_chc (h : WL ws) : GT.callF (n + 3) "may_be_empty" [.val (chc ws), .val (.lst ns)] k x = k (.val (.bl false)) [] := by
  rw [callF_at rfl]; simp [f_may_be_empty, ↓may_alt h]
theorem empty_g1 (h : WL ws) : GT.callF (n + 4) "empty_rules" [.val (g1 ws)] k x = k (.val (.lst [.str [116]])) [] := by
  rw [callF_at rfl]; simp [f_empty_rules, ↓wh_step, ↓may_star, ↓may_chc h]
theorem empty_g2 (h : WL ws) : GT.callF (n + 4) "empty_rules" [.val (g2 ws)] k x = k (.val (.lst [.str [116]])) [] := by
  rw [callF_at rfl]; simp [f_empty_rules, ↓wh_step, ↓may_star, ↓may_chc h]
theorem first_tx : GT.callF (n + 2) "first_calls" [.val (tx w), .val (.lst ns)] k x = k (.own (.lst [])) [] := by
  rw [callF_at rfl]; simp [f_first_calls, ↓parts_tx]
theorem first_cal : GT.callF (n + 2) "first_calls" [.val cal, .val (.lst ns)] k x = k (.own (.lst [.str [117]])) [] := by
  rw [callF_at rfl]; simp [f_first_calls]
theorem first_alt (h : WL ws) : GT.callF (n + 3) "first_calls" [.val (alt ws), .val (.lst ns)] k x = k (.own (.lst [])) [] := by
  rw [callF_at rfl]; cases h <;> simp [f_first_calls, ↓parts_alt, ↓first_tx, big]
theorem first_chc (h : WL ws) : GT.callF (n + 4) "first_calls" [.val (chc ws), .val (.lst ns)] k x = k (.own (.lst [])) [] := by
  rw [callF_at rfl]; simp [f_first_calls, ↓parts_chc, ↓first_alt h, big]
theorem first_sca : GT.callF (n + 3) "first_calls" [.val (star cal), .val (.lst ns)] k x = k (.own (.lst [.str [117]])) [] := by
  rw [callF_at rfl]; simp [f_first_calls, ↓parts_star, ↓first_cal, big]
theorem first_sch (h : WL ws) : GT.callF (n + 5) "first_calls" [.val (star (chc ws)), .val (.lst ns)] k x = k (.own (.lst [])) [] := by
  rw [callF_at rfl]; simp [f_first_calls, ↓parts_star, ↓first_chc h, big]
theorem idle_tx : GT.callF (n + 2) "has_idle_star" [.val (tx w), .val (.lst ns)] k x = k (.val (.bl false)) [] := by
  rw [callF_at rfl]; simp [f_has_idle_star, ↓parts_tx]
theorem idle_cal : GT.callF (n + 2) "has_idle_star" [.val cal, .val (.lst ns)] k x = k (.val (.bl false)) [] := by
  rw [callF_at rfl]; simp [f_has_idle_star, ↓parts_cal]
theorem idle_alt (h : WL ws) : GT.callF (n + 3) "has_idle_star" [.val (alt ws), .val (.lst ns)] k x = k (.val (.bl false)) [] := by
  rw [callF_at rfl]; cases h <;> simp [f_has_idle_star, ↓parts_alt, ↓idle_tx]
theorem idle_chc (h : WL ws) : GT.callF (n + 4) "has_idle_star" [.val (chc ws), .val (.lst ns)] k x = k (.val (.bl false)) [] := by
  rw [callF_at rfl]; simp [f_has_idle_star, ↓parts_chc, ↓idle_alt h]
theorem idle_sca : GT.callF (n + 3) "has_idle_star" [.val (star cal), .val (.lst [.str [116]])] k x = k (.val (.bl false)) [] := by
  rw [callF_at rfl]; simp [f_has_idle_star, ↓parts_star, ↓idle_cal, ↓may_cal1]
theorem idle_sch (h : WL ws) : GT.callF (n + 5) "has_idle_star" [.val (star (chc ws)), .val (.lst ns)] k x = k (.val (.bl false)) [] := by
  rw [callF_at rfl]; simp [f_has_idle_star, ↓parts_star, ↓idle_chc h, ↓may_chc h]
theorem reach_t1 : GT.callF (n + 1) "reached" [.val (.str [116]), .val (.dct false [(.str [116], .lst [.str [117]]), (.str [117], .lst [])])] k x = k (.own (.lst [.str [117]])) [] := by
  rw [callF_at rfl]; simp [f_reached, ↓wh_step, lookD, big]
theorem reach_u1 : GT.callF (n + 1) "reached" [.val (.str [117]), .val (.dct false [(.str [116], .lst [.str [117]]), (.str [117], .lst [])])] k x = k (.own (.lst [])) [] := by
  rw [callF_at rfl]; simp [f_reached, ↓wh_step, lookD, big]
theorem reach_t2 : GT.callF (n + 1) "reached" [.val (.str [116]), .val (.dct false [(.str [116], .lst [])])] k x = k (.own (.lst [])) [] := by
  rw [callF_at rfl]; simp [f_reached, ↓wh_step, lookD, big]
theorem checked_g1 (h : WL ws) : GT.callF (n + 7) "checked" [.val (g1 ws)] k x = k (.val (g1 ws)) [] := by
  rw [callF_at rfl]; simp [f_checked, ↓is_g1 h]
theorem checked_g2 (h : WL ws) : GT.callF (n + 7) "checked" [.val (g2 ws)] k x = k (.val (g2 ws)) [] := by
  rw [callF_at rfl]; simp [f_checked, ↓is_g2 h]
theorem check_g1 (h : WL ws) : GT.callF (n + 8) "check" [.val (g1 ws)] k x = k (.val (g1 ws)) [] := by
  rw [callF_at rfl]; simp [f_check, ↓checked_g1 h, ↓calls_sca, ↓calls_chc h, ↓empty_g1 h, ↓first_sca, ↓first_chc h, ↓reach_t1, ↓reach_u1, ↓idle_sca, ↓idle_chc h, putD, big]
theorem check_g2 (h : WL ws) : GT.callF (n + 8) "check" [.val (g2 ws)] k x = k (.val (g2 ws)) [] := by
  rw [callF_at rfl]; simp [f_check, ↓checked_g2 h, ↓calls_sch h, ↓empty_g2 h, ↓first_sch h, ↓reach_t2, ↓idle_sch h, putD, big]
end
end Gr

end
section
set_option Elab.async false
set_option linter.all false
set_option maxRecDepth 100000
set_option maxHeartbeats 4000000
/-! k25: what the grammar's reading finds. -/
namespace Gr
/-- the first word that stands at a place -/
def fit (ws : List Nm) (tx : Nm) (p : Nat) : Option Nm := ws.find? fun w => ((tx.take (p + w.length)).drop p) == w
inductive Scan (ws : List Nm) (tx : Nm) : Nat → Nat → List (Nat × Nat) → Prop
  | stop {p} (h : fit ws tx p = none) : Scan ws tx p p []
  | go {p q ts w} (h : fit ws tx p = some w) (t : Scan ws tx (p + w.length) q ts) : Scan ws tx p q ((p, p + w.length) :: ts)
theorem fit_len {ws : List Nm} {tx : Nm} {p : Nat} {w : Nm} (h : fit ws tx p = some w) (hw : ∀ w ∈ ws, w ≠ []) : 0 < w.length ∧ p + w.length ≤ tx.length := by
  have h1 := List.find?_some h
  have h2 := hw w (List.mem_of_find?_eq_some h)
  have h3 : 0 < w.length := by cases w with | nil => exact (h2 rfl).elim | cons => simp
  simp only [beq_iff_eq] at h1
  have := congrArg List.length h1
  simp at this
  exact ⟨h3, by omega⟩
theorem scan_ex {ws : List Nm} {tx : Nm} (hw : ∀ w ∈ ws, w ≠ []) : ∀ (d p : Nat), tx.length - p ≤ d → ∃ q ts, Scan ws tx p q ts ∧ ts.length ≤ d := by
  intro d
  induction d with
  | zero =>
    intro p hd
    cases h : fit ws tx p with
    | none => exact ⟨p, [], .stop h, by simp⟩
    | some w => have := fit_len h hw; omega
  | succ d ih =>
    intro p hd
    cases h : fit ws tx p with
    | none => exact ⟨p, [], .stop h, by simp⟩
    | some w =>
      have := fit_len h hw
      obtain ⟨q, ts, h1, h2⟩ := ih (p + w.length) (by omega)
      exact ⟨q, _, .go h h1, by simp; omega⟩
def trs (ts : List (Nat × Nat)) : List Tr := ts.map fun p => .mk [109] p.1 p.2 []
variable {gr : Gram} {tx : Nm}
theorem ev_alts (p : Nat) (s : St) : ∀ (ws : List Nm), ws ≠ [] → ∀ W, 1 ≤ W → Ev gr tx (.alts (ws.map .text)) p s ((fit ws tx p).map fun w => (p + w.length, [])) s W
  | [w], _, W, hW => by
    refine .alt1 ?_
    cases h : ((tx.take (p + w.length)).drop p) == w with
    | true => simp only [fit, List.find?, h]; exact .takeT (by simp [basic, h])
    | false => simp only [fit, List.find?, h]; exact .takeF (sz := w.length) (by simp [basic, h])
  | w :: w2 :: ws, _, W, hW => by
    cases h : ((tx.take (p + w.length)).drop p) == w with
    | true =>
      simp only [fit, List.find?, h]
      exact .altT (W := 0) (.takeT (by simp [basic, h])) (by omega)
    | false =>
      have := ev_alts p s (w2 :: ws) (by simp) W hW
      simp only [fit, List.find?, h] at this ⊢
      exact .altF (W := 0) (.takeF (sz := w.length) (by simp [basic, h])) this (by omega)
def chE (ws : List Nm) : E := .mark [109] (.alt (ws.map .text))
theorem ev_ch (p : Nat) (s : St) {ws : List Nm} (h0 : ws ≠ []) {W : Nat} (hW : 2 ≤ W) : Ev gr tx (.e (chE ws)) p s ((fit ws tx p).map fun w => (p + w.length, trs [(p, p + w.length)])) s W := by
  have h := Ev.alt (ev_alts (gr := gr) (tx := tx) p s ws h0 1 (Nat.le_refl _))
  cases hf : fit ws tx p with
  | none => rw [hf] at h; exact .markF h (by omega)
  | some w => rw [hf] at h; exact .markT h (by omega)
theorem ev_star {ws : List Nm} (h0 : ws ≠ []) {p q : Nat} {ts : List (Nat × Nat)} (h : Scan ws tx p q ts) (s : St) : Ev gr tx (.e (.one .star (chE ws))) p s (some (q, trs ts)) s (ts.length + 3) := by
  induction h with
  | @stop p h =>
    have := ev_ch (gr := gr) (tx := tx) p s h0 (W := 2) (by omega)
    rw [h] at this
    exact .starF this (by simp)
  | @go p q ts w h t ih =>
    have := ev_ch (gr := gr) (tx := tx) p s h0 (W := 2) (by omega)
    rw [h] at this
    exact .starT this (by simp) ih (by simp [trs]; omega)
/-- the state after so many calls of u -/
inductive Calls (ws : List Nm) (tx : Nm) : Nat → St → St → Prop
theorem getM_put {m : Mem} {a b : Key} {v : Told} (h : a ≠ b) : getM (putM m a v) b = getM m b := by
  unfold putM
  split
  · rename_i hh
    clear hh
    induction m with
    | nil => rfl
    | cons p m ih =>
      obtain ⟨k, t⟩ := p
      simp only [List.map_cons, getM]
      by_cases hk : k == a
      · simp only [hk, if_true]
        have : ¬ (k == b) = true := by simp at hk ⊢; rw [hk]; exact h
        simp only [getM, this, if_false, ih, Bool.false_eq_true]
      · simp only [hk, if_false, getM, ih, Bool.false_eq_true]
  · induction m with
    | nil => simp [getM, h]
    | cons p m ih =>
      obtain ⟨k, t⟩ := p
      rename_i hh
      simp only [List.any_cons, Bool.or_eq_true, not_or] at hh
      simp only [List.cons_append, getM, ih hh.2]
theorem ev_starc {ws : List Nm} (h0 : ws ≠ []) (hw : ∀ w ∈ ws, w ≠ []) (hb : bodyG gr [117] = some (chE ws)) {p q : Nat} {ts : List (Nat × Nat)} (h : Scan ws tx p q ts) : ∀ (s : St), (∀ p', p ≤ p' → getM s.mem ([117], p') = none) →
    ∃ m', m'.length ≤ s.mem.length + ts.length + 1 ∧ Ev gr tx (.e (.one .star (.call [117]))) p s (some (q, trs ts)) ⟨m', s.ent ++ (ts.map fun t => ([117], t.1)) ++ [([117], q)]⟩ (ts.length + 4) := by
  induction h with
  | @stop p h =>
    intro s hs
    have := ev_ch (gr := gr) (tx := tx) p ⟨s.mem, s.ent ++ [([117], p)]⟩ h0 (W := 2) (by omega)
    rw [h] at this
    have h2 := Ev.miss (hs p (Nat.le_refl _)) hb this (Nat.le_refl _)
    have h3 := Ev.starF h2 (Nat.le_refl _)
    refine ⟨putM s.mem ([117], p) none, ?_, ?_⟩
    · have := len_putM_le s.mem ([117], p) none
      simpa using this
    · simpa [trs] using h3
  | @go p q ts w h t ih =>
    intro s hs
    have hl := fit_len h hw
    have h1 := ev_ch (gr := gr) (tx := tx) p ⟨s.mem, s.ent ++ [([117], p)]⟩ h0 (W := 2) (by omega)
    rw [h] at h1
    have h2 := Ev.miss (hs p (Nat.le_refl _)) hb h1 (Nat.le_refl _)
    obtain ⟨m', h3, h4⟩ := ih ⟨putM s.mem ([117], p) (some (p + w.length, trs [(p, p + w.length)])), s.ent ++ [([117], p)]⟩ (fun p' hp' => by
      simp only
      rw [getM_put (by intro e; simp at e; omega)]
      exact hs p' (by omega))
    have h5 := len_putM_le s.mem ([117], p) (some (p + w.length, trs [(p, p + w.length)]))
    refine ⟨m', by simp at h3 ⊢; omega, ?_⟩
    have h6 := Ev.starT h2 (W' := ts.length + 5) (by omega) h4 (by simp [trs]; omega)
    simp only [List.map_cons, List.append_assoc, List.singleton_append, List.cons_append] at h6 ⊢
    exact h6
end Gr

end
section
set_option Elab.async false
set_option linter.all false
set_option maxRecDepth 100000
set_option maxHeartbeats 4000000
namespace Gr
def gram1 (ws : List Nm) : Gram := [([116], .one .star (.call [117])), ([117], chE ws)]
def gram2 (ws : List Nm) : Gram := [([116], .one .star (chE ws))]
theorem enc_txs (ws : List Nm) : (ws.map E.text).map enc = ws.map tx := by simp [Function.comp_def]
theorem enc_g1 (ws : List Nm) : encG (gram1 ws) = g1 ws := by simp [encG, gram1, encR, chE, Function.comp_def]
theorem enc_g2 (ws : List Nm) : encG (gram2 ws) = g2 ws := by simp [encG, gram2, encR, chE, Function.comp_def]
theorem wl_ne {ws : List Nm} (h : WL ws) : ws ≠ [] := by cases h <;> simp
theorem wrd_ne {w : Nm} (h : Wrd w) : w ≠ [] := by
  intro e; subst e; simp [Wrd] at h
theorem wl_mem {ws : List Nm} (h : WL ws) : ∀ w ∈ ws, w ≠ [] := by
  cases h <;> simp only [List.mem_cons, List.not_mem_nil, or_false, forall_eq_or_imp, forall_eq] <;> simp only [wrd_ne, *, ne_eq, not_false_eq_true, and_self]
theorem wl_len {ws : List Nm} (h : WL ws) : ws.length ≤ 3 := by cases h <;> simp
theorem len_texts (ws : List Nm) : lena (ws.map .text) ≤ 3 * ws.length + 1 := by
  induction ws with
  | nil => simp [lena]
  | cons w ws ih =>
    cases ws with
    | nil => simp [lena, len]
    | cons w2 ws => simp only [List.map_cons, lena_cc, len, List.length_cons] at ih ⊢; omega
theorem deps_texts (ws : List Nm) : deps (ws.map .text) ≤ 1 := by
  rw [deps_le]; simp [dep]
variable {n : Nat} {k : KT'} {x : String → D → Prop}
theorem run1 {ws : List Nm} (hw : WL ws) {tx : Nm} {p q : Nat} {ts : List (Nat × Nat)} (h : Scan ws tx p q ts) (hl : ts.length ≤ 1000000) :
    GT.callF (n + 20) "run" [.val (g1 ws), .val (.str tx), .val (.int p)] k x = k (.val (.tup [encT (some (q, trs ts)), .lst ((([116], p) :: ((ts.map fun t => ([117], t.1)) ++ [([117], q)])).map encK)])) [] := by
  obtain ⟨m', h1, h2⟩ := ev_starc (gr := gram1 ws) (wl_ne hw) (wl_mem hw) (by simp [bodyG, gram1]) h ⟨[], [([116], p)]⟩ (by intro _ _; rfl)
  have h3 := Ev.miss (gr := gram1 ws) (tx := tx) (n := [116]) (p := p) (s := ⟨[], []⟩) rfl (by simp [bodyG, gram1]) h2 (Nat.le_refl _)
  have h4 := len_putM_le m' ([116], p) (some (q, trs ts))
  have e := run_ok (G := GT) (n := n + 16) (k := k) (x := x) (g := gram1 ws) rfl (fun k x => by rw [enc_g1]; exact check_g1 (n := n + 11) hw) (fun k x => by rw [enc_g1]; exact checked_g1 (n := n + 11) hw)
    (by have := deps_texts ws; simp [gram1, dep, chE]; omega) (by have := len_texts ws; have := wl_len hw; simp [gram1, lenG, len, chE, big]; omega) (by simp [gram1]) h3 (by simp at h1 h4 ⊢; simp [big]; omega) (by simp [big]; omega)
  rw [enc_g1] at e
  rw [e]; simp
theorem run2 {ws : List Nm} (hw : WL ws) {tx : Nm} {p q : Nat} {ts : List (Nat × Nat)} (h : Scan ws tx p q ts) (hl : ts.length ≤ 1000000) :
    GT.callF (n + 20) "run" [.val (g2 ws), .val (.str tx), .val (.int p)] k x = k (.val (.tup [encT (some (q, trs ts)), .lst ([([116], p)].map encK)])) [] := by
  have h2 := ev_star (gr := gram2 ws) (wl_ne hw) h ⟨[], [([116], p)]⟩
  have h3 := Ev.miss (gr := gram2 ws) (tx := tx) (n := [116]) (p := p) (s := ⟨[], []⟩) rfl (by simp [bodyG, gram2]) h2 (Nat.le_refl _)
  have e := run_ok (G := GT) (n := n + 16) (k := k) (x := x) (g := gram2 ws) rfl (fun k x => by rw [enc_g2]; exact check_g2 (n := n + 11) hw) (fun k x => by rw [enc_g2]; exact checked_g2 (n := n + 11) hw)
    (by have := deps_texts ws; simp [gram2, dep, chE]; omega) (by have := len_texts ws; have := wl_len hw; simp [gram2, lenG, len, chE, big]; omega) (by simp [gram2]) h3 (by simp [putM]; simp [big]; omega) (by simp [big])
  rw [enc_g2] at e
  rw [e]
/-- the run of either -/
def ent25 (b : Bool) (p q : Nat) (ts : List (Nat × Nat)) : List Key := if b then ([116], p) :: ((ts.map fun t => ([117], t.1)) ++ [([117], q)]) else [([116], p)]
def g25 (b : Bool) (ws : List Nm) : D := if b then g1 ws else g2 ws
theorem run25 {b : Bool} {ws : List Nm} (hw : WL ws) {tx : Nm} {p q : Nat} {ts : List (Nat × Nat)} (h : Scan ws tx p q ts) (hl : ts.length ≤ 1000000) :
    GT.callF (n + 20) "run" [.val (g25 b ws), .val (.str tx), .val (.int p)] k x = k (.val (.tup [encT (some (q, trs ts)), .lst ((ent25 b p q ts).map encK)])) [] := by
  cases b
  · exact run2 hw h hl
  · exact run1 hw h hl
theorem match25 {b : Bool} {ws : List Nm} (hw : WL ws) {tx : Nm} {p q : Nat} {ts : List (Nat × Nat)} (h : Scan ws tx p q ts) (hl : ts.length ≤ 1000000) :
    GT.callF (n + 21) "match" [.val (g25 b ws), .val (.str tx), .val (.int p)] k x = k (.val (encT (some (q, trs ts)))) [] := by
  have e := fun k x => run25 (n := n) (k := k) (x := x) (b := b) hw h hl
  rw [callF_at (GM.at_match)]
  simp at e
  simp [p_match, ↓e]
end Gr

end
section
set_option Elab.async false
set_option linter.all false
set_option maxRecDepth 100000
set_option maxHeartbeats 4000000
namespace Gr
theorem six {v : Nat} (h : v < 6) : ∃ w, Wrd w ∧ atX [D.str [97], .str [98], .str [97, 98], .str [98, 97], .str [97, 97, 98], .str [99]] (v : Int) = some (.str w) := by
  rw [atX_nat]
  match v, h with
  | 0, _ => exact ⟨_, by unfold Wrd; simp, rfl⟩
  | 1, _ => exact ⟨_, by unfold Wrd; simp, rfl⟩
  | 2, _ => exact ⟨_, by unfold Wrd; simp, rfl⟩
  | 3, _ => exact ⟨_, by unfold Wrd; simp, rfl⟩
  | 4, _ => exact ⟨_, by unfold Wrd; simp, rfl⟩
  | 5, _ => exact ⟨_, by unfold Wrd; simp, rfl⟩
variable {n : Nat}
def Calm (s : Sl) : Prop := ∀ p, calmK s p = p
theorem calm_no : Calm .no := fun _ => rfl
theorem calm_val (d) : Calm (.val d) := fun _ => rfl
theorem words_loop {s0 : Sl} {rest : Env} : ∀ (xs : List D) (ds : List D) (ws : List Nm) (s3 : Sl), Calm s3 → RowOk ds → (∀ w ∈ ws, Wrd w) → ws.length + xs.length ≤ 3 →
    ∃ (ds' : List D) (ws' : List Nm) (s3' : Sl), Calm s3' ∧ RowOk ds' ∧ (∀ w ∈ ws', Wrd w) ∧ ws'.length = ws.length + xs.length ∧ ∀ E : Ends,
      forK (.nm 3) (wpSs ⟨GT.fns, GT.glb, GT.callF (n + 1)⟩ [.ex (.app (.v 2) (.idx (.x (.lst [(.str [97]), (.str [98]), (.str [97, 98]), (.str [98, 97]), (.str [97, 97, 98]), (.str [99])])) (.call "_law_take" [(.var 1), (.int 6)])))]) xs
        (s0 :: .own (.lst ds) :: .own (.lst (ws.map .str)) :: s3 :: rest) E = E.nx (s0 :: .own (.lst ds') :: .own (.lst (ws'.map .str)) :: s3' :: rest)
  | [], ds, ws, s3, hc, h, hw, hl => ⟨ds, ws, s3, hc, h, hw, by simp, fun E => by rw [forK]⟩
  | y :: xs, ds, ws, s3, hc, h, hw, hl => by
    simp only [List.length_cons] at hl
    obtain ⟨v, ds1, hv, h1, ht⟩ := take1_int (G := GT) h 6 6 rfl (by omega)
    obtain ⟨w, hw1, hi⟩ := six hv
    obtain ⟨ds', ws', s3', g0, g1, g2, g3, g4⟩ := words_loop (s0 := s0) (rest := rest) xs ds1 (ws ++ [w]) (.val y) (calm_val _) h1 (by intro u hu; rcases List.mem_append.1 hu with hu | hu; exact hw u hu; simp at hu; rw [hu]; exact hw1) (by simp; omega)
    refine ⟨ds', ws', s3', g0, g1, g2, by simp at g3 ⊢; omega, fun E => ?_⟩
    rw [forK, ← g4 E]
    simp [↓ht, hi, show ws.length < big by simp [big]; omega]
theorem wl_of {ws : List Nm} (h : ∀ w ∈ ws, Wrd w) (h1 : 1 ≤ ws.length) (h3 : ws.length ≤ 3) : WL ws := by
  match ws, h, h1, h3 with
  | [a], h, _, _ => exact .one (h a (by simp))
  | [a, b], h, _, _ => exact .two (h a (by simp)) (h b (by simp))
  | [a, b, c], h, _, _ => exact .thr (h a (by simp)) (h b (by simp)) (h c (by simp))
theorem wrd_len {w : Nm} (h : Wrd w) : w.length ≤ 3 := by
  unfold Wrd at h
  simp only [List.mem_cons, List.not_mem_nil, or_false] at h
  rcases h with rfl | rfl | rfl | rfl | rfl | rfl <;> simp
theorem piece_comp {s0 : Sl} {rest : Env} {ws : List Nm} (hw : ∀ w ∈ ws, Wrd w) (h1 : 1 ≤ ws.length) : ∀ (xs : List D) (ds : List D), RowOk ds →
    ∃ (ds' : List D) (ys : List Nm), RowOk ds' ∧ ys.length = xs.length ∧ (∀ y ∈ ys, Wrd y) ∧ ∀ (ifs : Env → (Bool → Env → Prop) → Prop) (X : Xt) (k : List D → Env → Prop), (∀ e k, ifs e k = k true e) →
      compK (.nm 3) ifs (wp ⟨GT.fns, GT.glb, GT.callF (n + 1)⟩ X (.idx (.p (.v 2)) (.call "_law_take" [(.var 1), (.b1 .len (.p (.v 2)))]))) xs
        (s0 :: .own (.lst ds) :: .own (.lst (ws.map .str)) :: .no :: rest) k = k (ys.map .str) (s0 :: .own (.lst ds') :: .own (.lst (ws.map .str)) :: .no :: rest)
  | [], ds, h => ⟨ds, [], h, rfl, by simp, fun ifs X k hi => by rw [compK]; rfl⟩
  | y :: xs, ds, h => by
    obtain ⟨v, ds1, hv, h2, ht⟩ := take1_int (G := GT) h ws.length (ws.length : Int) rfl (by omega)
    obtain ⟨ds', ys, g1, g2, g3, g4⟩ := piece_comp (s0 := s0) (rest := rest) hw h1 xs ds1 h2
    have hi : atX (ws.map D.str) (v : Int) = some (.str ws[v]) := by rw [atX_nat]; simp [hv]
    refine ⟨ds', ws[v] :: ys, g1, by simp [g2], by simp only [List.mem_cons, forall_eq_or_imp]; exact ⟨hw _ (List.getElem_mem ..), g3⟩, fun ifs X k hifs => ?_⟩
    have g4 := g4 ifs X (fun zs => k (.str ws[v] :: zs)) hifs
    rw [compK, List.map_cons, ← g4]
    simp [hifs, ↓ht, hi, Tg.ix]
theorem join_len : ∀ (ys : List Nm), (joinS [] ys).length = (ys.map (·.length)).sum
  | [] => rfl
  | [y] => by simp [joinS]
  | y :: y2 :: ys => by
    have := join_len (y2 :: ys)
    simp only [joinS, List.map_cons, List.sum_cons, List.length_append, List.length_nil] at this ⊢
    simp [this]
theorem sum_len {ys : List Nm} (h : ∀ y ∈ ys, Wrd y) : (ys.map (·.length)).sum ≤ 3 * ys.length := by
  induction ys with
  | nil => simp
  | cons y ys ih =>
    have h1 := wrd_len (h y (by simp))
    have h2 := ih fun z hz => h z (by simp [hz])
    simp only [List.map_cons, List.sum_cons, List.length_cons]; omega
end Gr

end
section
set_option Elab.async false
set_option linter.all false
set_option maxRecDepth 100000
set_option maxHeartbeats 4000000
namespace Gr
theorem wh_brk {t : Env → (Bool → Env → Prop) → Prop} {body : Env → Ends → Prop} {e e' : Env} {E : Ends} (h : ∀ kk : Bool → Env → Prop, t e kk = kk true e) (hb : ∀ N, body e { E with nx := N, ct := N, bk := E.nx } = E.nx e') : (∃ n, whileN t body n e E) = E.nx e' := by
  rw [wh_step]; simp only [h, if_true, hb]; simp
variable {n : Nat}
theorem cut_word (tx : Nm) (p l : Nat) : cut tx (some (p : Int)) (some ((p : Int) + (l : Int))) = (tx.take (p + l)).drop p := by
  rw [show (p : Int) + (l : Int) = ((p + l : Nat) : Int) by omega, cut_mid]
section
variable {P : Cx} {s0 s1 s2 s3 s4 s6 s7 s8 s10 s11 s13 s14 s15 : Sl} {tx : Nm} {p : Nat}
theorem fits_comp : ∀ (ws : List Nm) (X : Xt) (k : List D → Env → Prop),
    compK (.nm 9) (wpTs P X [(.val (.x (.cmp .eq (.slc (.p (.v 5)) (some (.var 12)) (some (.bin .add (.var 12) (.x (.b1 .len (.p (.v 9))))))) (.p (.v 9)))))]) (wp P X (.var 9)) (ws.map .str)
      [s0, s1, s2, s3, s4, .val (.str tx), s6, s7, s8, .no, s10, s11, .val (.int p), s13, s14, s15] k
    = k ((ws.filter fun w => ((tx.take (p + w.length)).drop p) == w).map .str) [s0, s1, s2, s3, s4, .val (.str tx), s6, s7, s8, .no, s10, s11, .val (.int p), s13, s14, s15]
  | [], X, k => by rw [List.map_nil, compK]; rfl
  | w :: ws, X, k => by
    rw [List.map_cons, compK]
    have ih := fits_comp ws X
    cases h : ((tx.take (p + w.length)).drop p) == w with
    | true => simp [cut_mid', h, List.filter, Tg.ix, ↓ih] <;> simp at h <;> simp [h]
    | false => simp [cut_mid', h, List.filter, Tg.ix, ↓ih] <;> simp at h <;> simp [h]
end
end Gr

end
section
set_option Elab.async false
set_option linter.all false
set_option maxRecDepth 100000
set_option maxHeartbeats 4000000
namespace Gr
section
variable {P : Cx} {s0 s1 s3 s4 s6 s8 s10 s11 : Sl} {tx : Nm} {ws : List Nm} {b : Bool}
def ent1 (b : Bool) (p : Nat) : List Key := if b then [([117], p)] else []
def ents (b : Bool) (ts : List (Nat × Nat)) (q : Nat) : List Key := if b then (ts.map fun t => ([117], t.1)) ++ [([117], q)] else []
theorem scan_loop {p q : Nat} {ts : List (Nat × Nat)} (h : Scan ws tx p q ts) : ∀ (T : List Tr) (N : List Key) (s15 : Sl), T.length + ts.length < big → N.length + ts.length + 1 < big → ∃ s15', ∀ (X : Xt) (E : Ends),
    (∃ j, whileN (wpT P X (.val (.x (.bl true)))) (wpSs P [.ite (.val (.p (.v 7))) [.ex (.app (.v 14) (.tup [(.str [117]), (.var 12)]))] [], .asg 15 (.comp (.nm 9) (.var 9) (.var 2) [(.val (.x (.cmp .eq (.slc (.p (.v 5)) (some (.var 12)) (some (.bin .add (.var 12) (.x (.b1 .len (.p (.v 9))))))) (.p (.v 9)))))]), .ite (.val (.x (.cmp .eq (.b1 .len (.p (.v 15))) (.x (.int 0))))) [.brk] [], .ex (.app (.v 13) (.tup [(.str [109]), (.var 12), (.bin .add (.var 12) (.x (.b1 .len (.x (.idx (.p (.v 15)) (.int 0)))))), (.tup [])])), .asg 12 (.bin .add (.var 12) (.x (.b1 .len (.x (.idx (.p (.v 15)) (.int 0))))))]) j
      [s0, s1, .val (.lst (ws.map .str)), s3, s4, .val (.str tx), s6, .val (.bl b), s8, .no, s10, s11, .val (.int p), .own (.lst (T.map Tr.enc)), .own (.lst (N.map encK)), s15] E)
    = E.nx [s0, s1, .val (.lst (ws.map .str)), s3, s4, .val (.str tx), s6, .val (.bl b), s8, .no, s10, s11, .val (.int q), .own (.lst ((T ++ trs ts).map Tr.enc)), .own (.lst ((N ++ ents b ts q).map encK)), s15'] := by
  induction h with
  | @stop p h =>
    intro T N s15 hT hN
    refine ⟨.own (.lst []), fun X E => wh_brk (fun kk => by simp) fun M => ?_⟩
    have hf : (ws.filter fun w => ((tx.take (p + w.length)).drop p) == w) = [] := by
      rw [List.filter_eq_nil_iff]; simpa [fit] using h
    have c := fun X k s13 s14 s15 => fits_comp (P := P) (s0 := s0) (s1 := s1) (s2 := .val (.lst (ws.map .str))) (s3 := s3) (s4 := s4) (s6 := s6) (s7 := .val (.bl b)) (s8 := s8) (s10 := s10) (s11 := s11) (s13 := s13) (s14 := s14) (s15 := s15) (tx := tx) (p := p) ws X k
    rw [hf] at c
    cases b with
    | true => simp [↓c, Tg.ix, trs, ents, show N.length < big by omega]
    | false => simp [↓c, Tg.ix, trs, ents]
  | @go p q ts w h t ih =>
    intro T N s15 hT hN
    simp only [List.length_cons] at hT hN
    obtain ⟨f, hf⟩ : ∃ f, (ws.filter fun w => ((tx.take (p + w.length)).drop p) == w) = w :: f := by
      have h2 : (ws.filter fun w => ((tx.take (p + w.length)).drop p) == w).head? = some w := by rw [List.head?_filter]; exact h
      cases e : (ws.filter fun w => ((tx.take (p + w.length)).drop p) == w) with
      | nil => rw [e] at h2; cases h2
      | cons a f => rw [e] at h2; cases h2; exact ⟨f, rfl⟩
    obtain ⟨s15', g⟩ := ih (T ++ trs [(p, p + w.length)]) (N ++ ent1 b p) (.own (.lst ((w :: f).map .str))) (by simp [trs]; omega) (by cases b <;> simp [ent1] <;> omega)
    refine ⟨s15', fun X E => ?_⟩
    have c := fun X k s13 s14 s15 => fits_comp (P := P) (s0 := s0) (s1 := s1) (s2 := .val (.lst (ws.map .str))) (s3 := s3) (s4 := s4) (s6 := s6) (s7 := .val (.bl b)) (s8 := s8) (s10 := s10) (s11 := s11) (s13 := s13) (s14 := s14) (s15 := s15) (tx := tx) (p := p) ws X k
    rw [hf] at c
    have e1 : T ++ trs ((p, p + w.length) :: ts) = T ++ trs [(p, p + w.length)] ++ trs ts := by simp [trs]
    have e2 : N ++ ents b ((p, p + w.length) :: ts) q = N ++ ent1 b p ++ ents b ts q := by cases b <;> simp [ents, ent1]
    rw [e1, e2, ← g X E]
    refine wh_go (fun kk => by simp) fun M => ?_
    cases b with
    | true => simp [↓c, Tg.ix, trs, ent1, show N.length < big by omega, show T.length < big by omega, show ¬ ((f.length : Int) + 1 = 0) by omega]
    | false => simp [↓c, Tg.ix, trs, ent1, show T.length < big by omega, show ¬ ((f.length : Int) + 1 = 0) by omega]
end
end Gr

end
section
set_option Elab.async false
set_option linter.all false
set_option maxRecDepth 100000
set_option maxHeartbeats 4000000
namespace Gr
mutual
theorem eqD_refl : ∀ (d : D), plain d = true → eqD d d = true
  | .non, _ => by simp [eqD]
  | .bl _, _ => by simp [eqD]
  | .int _, _ => by simp [eqD]
  | .str _, _ => by simp [eqD]
  | .tup xs, h => by rw [plain] at h; rw [eqD]; exact eqDs_refl xs h
  | .lst xs, h => by rw [plain] at h; rw [eqD]; exact eqDs_refl xs h
  | .dct _ _, h => by simp [plain] at h
  | .fn _, h => by simp [plain] at h
  | .exc _ _, h => by simp [plain] at h
theorem eqDs_refl : ∀ (ds : List D), plains ds = true → eqDs ds ds = true
  | [], _ => by simp [eqDs]
  | d :: ds, h => by
    rw [plains, Bool.and_eq_true] at h
    rw [eqDs, eqD_refl d h.1, eqDs_refl ds h.2]; rfl
end
theorem plains_iff {ds : List D} : plains ds = true ↔ ∀ d ∈ ds, plain d = true := by
  induction ds with
  | nil => simp
  | cons d ds ih => simp [plains, ih]
theorem depths_le {ds : List D} {n : Nat} : depths ds ≤ n ↔ ∀ d ∈ ds, depth d ≤ n := by
  induction ds with
  | nil => simp
  | cons d ds ih => simp only [depths, List.mem_cons, forall_eq_or_imp, ← ih]; omega
theorem trs_fine (ts : List (Nat × Nat)) : plains ((trs ts).map Tr.enc) = true ∧ depths ((trs ts).map Tr.enc) ≤ 2 := by
  rw [plains_iff, depths_le]
  constructor <;> (intro d hd; simp only [trs, List.mem_map] at hd; obtain ⟨_, ⟨_, _, rfl⟩, rfl⟩ := hd; simp)
theorem keys_fine (ks : List Key) : plains (ks.map encK) = true ∧ depths (ks.map encK) ≤ 1 := by
  rw [plains_iff, depths_le]
  constructor <;> (intro d hd; simp only [List.mem_map] at hd; obtain ⟨_, _, rfl⟩ := hd; simp [encK])
theorem three {v : Nat} (h : v < 3) : ∃ i : Int, i ≤ 2500 ∧ 0 ≤ i ∧ atX [D.int 300, .int 900, .int 2500] (v : Int) = some (.int i) := by
  rw [atX_nat]
  match v, h with
  | 0, _ => exact ⟨_, by omega, by omega, rfl⟩
  | 1, _ => exact ⟨_, by omega, by omega, rfl⟩
  | 2, _ => exact ⟨_, by omega, by omega, rfl⟩
theorem cut_le {α : Type} (xs : List α) (a b : Option Int) : (cut xs a b).length ≤ xs.length := by
  unfold cut; simp; omega
theorem rep_len (x : Nm) (n : Nat) : (List.replicate n x).flatten.length = n * x.length := by simp
theorem wpSs_app {P : Cx} : ∀ (a b : List S) (e : Env) (E : Ends), wpSs P (a ++ b) e E = wpSs P a e { E with nx := fun e1 => wpSs P b e1 E }
  | [], b, e, E => by rw [List.nil_append, wpSs]
  | s :: a, b, e, E => by
    rw [List.cons_append, wpSs, wpSs]
    congr 1
    cases E with | mk nx rt bk ct ex => simp only [Ends.mk.injEq, and_true]; funext e1; exact wpSs_app a b e1 _
def law25b : List S := f_law.body.drop 6
theorem law25_split : f_law.body = f_law.body.take 6 ++ law25b := (List.take_append_drop 6 _).symm
theorem chc_comp {P : Cx} {X : Xt} {s0 s1 s2 s3 s4 s5 s6 s7 s8 : Sl} {rest : Env} : ∀ (ws : List Nm) (k : List D → Env → Prop),
    compK (.nm 9) (wpTs P X []) (wp P X (.tup [(.str [116, 101, 120, 116]), (.var 9)])) (ws.map .str) (s0 :: s1 :: s2 :: s3 :: s4 :: s5 :: s6 :: s7 :: s8 :: .no :: rest) k
    = k (ws.map tx) (s0 :: s1 :: s2 :: s3 :: s4 :: s5 :: s6 :: s7 :: s8 :: .no :: rest)
  | [], k => by rw [List.map_nil, compK]; rfl
  | w :: ws, k => by
    rw [List.map_cons, compK]
    have ih := chc_comp (P := P) (X := X) (s0 := s0) (s1 := s1) (s2 := s2) (s3 := s3) (s4 := s4) (s5 := s5) (s6 := s6) (s7 := s7) (s8 := s8) (rest := rest) ws
    simp [Tg.ix, ↓ih]
theorem tail25 {ds : List D} (h7 : RowOk ds) {ws : List Nm} (hwS : WL ws) {tx : Nm} (htx : tx.length ≤ 1000000) (s0 s3 s4 s6 : Sl) (E : Ends) (hE : ∀ s e, E.rt (.val (.bl true)) (s :: e)) :
    wpSs ⟨GT.fns, GT.glb, GT.callF 39⟩ law25b [s0, .own (.lst ds), .own (.lst (ws.map .str)), s3, s4, .val (.str tx), s6, .no, .no, .no, .no, .no, .no, .no, .no, .no] E := by
  obtain ⟨v6, ds8, hv6, h8, t6⟩ := take1_int (G := GT) h7 2 2 rfl (by omega)
  obtain ⟨v7, ds9, hv7, h9, t7⟩ := take1_int (G := GT) h8 5 5 rfl (by omega)
  obtain ⟨q, ts, hsc, hts⟩ := scan_ex (ws := ws) (tx := tx) (wl_mem hwS) tx.length v7 (by omega)
  obtain ⟨s15', hloop⟩ := scan_loop (P := ⟨GT.fns, GT.glb, GT.callF 39⟩) (s0 := s0) (s1 := .own (.lst ds9)) (s3 := s3) (s4 := s4) (s6 := s6) (s8 := .val (chc ws)) (s10 := .val (g25 (decide (v6 = 0)) ws)) (s11 := .val (.int v7)) (b := decide (v6 = 0)) hsc [] [([116], v7)] .no (by simp [big]; omega) (by simp [big]; omega)
  have m := fun k x => match25 (n := 18) (k := k) (x := x) (b := decide (v6 = 0)) hwS hsc (by omega)
  have r := fun k x => run25 (n := 19) (k := k) (x := x) (b := decide (v6 = 0)) hwS hsc (by omega)
  have f1 := trs_fine ts
  have f2 := keys_fine (ent25 (decide (v6 = 0)) v7 q ts)
  have f3 : ent25 (decide (v6 = 0)) v7 q ts = ([116], v7) :: ents (decide (v6 = 0)) ts q := by unfold ent25 ents; split <;> simp
  rw [f3] at r f2
  have e1 := eqDs_refl _ f1.1
  have e2 := eqDs_refl _ f2.1
  simp only [encT_some] at m r
  simp at e2 f2 r
  have hg : (if v6 = 0 then g1 ws else g2 ws) = g25 (decide (v6 = 0)) ws := by unfold g25; simp
  simp only [List.map_nil, List.map_cons, List.nil_append, encK_mk] at hloop
  by_cases c : v6 = 0
  · subst c
    simp [g25] at hloop m r e1 e2 f1 f2
    have f3 : max (depths (List.map Tr.enc (trs ts)) + 1) 0 ≤ 63 := by omega
    simp [law25b, f_law, ↓t6, Tg.ix, ↓chc_comp, ↓t7, ↓hloop, ↓m, ↓r, e1, e2, f1.1, f2.1, hE, show depths (List.map Tr.enc (trs ts)) + 1 ≤ 63 by omega]
    omega
  · simp [g25, c] at hloop m r e1 e2 f1 f2
    have c2 : ((v6 : Int) == 0) = false := by simp [c]
    simp [law25b, f_law, ↓t6, c, c2, Tg.ix, ↓chc_comp, ↓t7, ↓hloop, ↓m, ↓r, e1, e2, f1.1, f2.1, hE, show depths (List.map Tr.enc (trs ts)) + 1 ≤ 63 by omega]
    omega
theorem lawTrue0 : ∀ ns : List Int, ns.length ≤ 63 → GT.callF 40 "law" [.val (.lst (ns.map .int))] (fun r _ => r = .val (.bl true)) (fun _ _ => False) := by
  intro ns hl
  obtain ⟨ds0, h0, _, hs⟩ := stream_ok (G := GT) (n := 38) ns hl
  obtain ⟨v1, ds1, hv1, h1, t1⟩ := take1_int (G := GT) h0 3 3 rfl (by omega)
  rw [callF_at rfl]
  obtain ⟨ds2, ws, s3, hc3, h2, hw, hwl, lw⟩ := words_loop (n := 38) (s0 := .val (.lst (ns.map .int))) (rest := [.no, .no, .no, .no, .no, .no, .no, .no, .no, .no, .no, .no]) ((List.range (1 + (v1 : Int)).toNat).map fun (k : Nat) => .int k) ds1 [] .no calm_no h1 (by simp) (by simp; omega)
  simp at hwl
  obtain ⟨v2, ds3, hv2, h3, t2⟩ := take1_int (G := GT) h2 6 6 rfl (by omega)
  have hwl1 : 1 ≤ ws.length := by omega
  obtain ⟨ds4, ys, h4, hy, hyw, lp⟩ := piece_comp (n := 38) (s0 := .val (.lst (ns.map .int))) (rest := [.no, .no, .no, .no, .no, .no, .no, .no, .no, .no, .no, .no]) hw hwl1 ((List.range (1 + (v2 : Int)).toNat).map fun (k : Nat) => .int k) ds3 h3
  simp at hy
  obtain ⟨v3, ds5, hv3, h5, t3⟩ := take1_int (G := GT) h4 3 3 rfl (by omega)
  obtain ⟨i3, hi3, hi3', a3⟩ := three hv3
  obtain ⟨v4, ds6, hv4, h6, t4⟩ := take1_int (G := GT) h5 40 40 rfl (by omega)
  obtain ⟨v5, ds7, hv5, h7, t5⟩ := take1_int (G := GT) h6 3 3 rfl (by omega)
  have hr1 : (1 : Int) + v1 ≤ 16777216 ∧ -(2 ^ 62) ≤ (1 : Int) + v1 := by omega
  have hr2 : (1 : Int) + v2 ≤ 16777216 ∧ -(2 ^ 62) ≤ (1 : Int) + v2 := by omega
  have hsum := sum_len hyw
  have hjl := join_len ys
  simp only [List.map_nil] at lw
  have hwS : WL ws := wl_of hw hwl1 (by omega)
  have lp' := fun k => lp (wpTs ⟨GT.fns, GT.glb, GT.callF 39⟩ (fun _ _ _ => False) []) (fun _ _ _ => False) k (fun e k => by simp)
  have hstr : ∀ ys : List Nm, strsOf (ys.map D.str) = some ys := by
    intro ys
    induction ys with
    | nil => rfl
    | cons y ys ih => simp [strsOf, ih]
  have c3 := hc3
  unfold Calm at c3
  have hjb : (joinS [] ys).length * 2600 ≤ big := by simp [big]; omega
  have hrep := rep_len (joinS [] ys) 2600
  rw [law25_split]
  simp only [wpSs_app]
  simp [f_law, ↓hs, ↓t1, hr1, show (-4611686018427387904 : Int) ≤ 1 + v1 by omega, ↓lw, ↓t2, hr2, show (-4611686018427387904 : Int) ≤ 1 + v2 by omega, ↓lp', c3, Tg.ix, hstr, show (ys.map fun x => x.length).sum ≤ big by simp [big]; omega,
    hjb, ↓t3, ↓t4, a3, ↓t5, -List.reduceReplicate]
  generalize hT0 : cut (List.replicate 2600 (joinS [] ys)).flatten none (some (i3 - (v4 : Int))) = T0
  have hT0l : T0.length ≤ 46800 := by
    rw [← hT0]
    refine Nat.le_trans (cut_le _ _ _) ?_
    rw [rep_len]; omega
  by_cases c5 : v5 = 0
  · obtain ⟨v6, ds8, hv6, h8, t6⟩ := take1_int (G := GT) h7 30 30 rfl (by omega)
    have l1 := fun a b => cut_le T0 a b
    have l2 : ∀ a b c d : Option Int, (cut T0 a b).length + (1 + (cut T0 c d).length) ≤ big := by
      intro a b c d; have := l1 a b; have := l1 c d; simp [big]; omega
    have l3 : ∀ a b : Option Int, (cut T0 a b).length + 1 ≤ big := by
      intro a b; have := l1 a b; simp [big]; omega
    simp [c5, ↓t6, l2, l3]
    have b1 := l1 none (some ((T0.length : Int) - 1 - v6))
    have b2 := l1 (some ((T0.length : Int) - 1 - v6 + 1)) none
    refine ⟨by simp only [big]; omega, tail25 h8 hwS ?_ _ _ _ _ _ ?_⟩
    · simp only [List.length_append, List.length_cons]; omega
    · intro s e; simp
  · simp only [c5, if_false]
    refine tail25 h7 hwS (by omega) _ _ _ _ _ ?_
    intro s e; simp
end Gr

end
section
namespace Gr
theorem lawTrue : LawTrue GT 40 := lawTrue0
end Gr

end
section
set_option Elab.async false
set_option linter.all false
set_option maxRecDepth 100000
set_option maxHeartbeats 4000000
namespace Gr
open PySem PySem.Spec L2
def top (i : Nat) : Stmt := PySem.Challenge.pw_graft_k25_long_texts.main.body.getD i (.Pass ⟨0, 0, 0, 0⟩)
def clsBody : Stmt → List Stmt
  | .ClassDef (body := b) .. => b
  | _ => []
def KT : Ky := ⟨[], ["done", "entered", "memory", "place", "row", "rows", "stack", "starts", "text", "told", "trees"], ["len", "list", "tuple", "all", "any", "sum", "max", "int", "abs", "ord", "min", "isinstance", "str", "bool", "range"], [("is_name", f_is_name), ("is_text", f_is_text), ("is_set", f_is_set), ("is_expression", f_is_expression), ("is_grammar", f_is_grammar), ("checked", f_checked), ("parts_of", f_parts_of), ("calls_of", f_calls_of), ("may_be_empty", f_may_be_empty), ("empty_rules", f_empty_rules), ("first_calls", f_first_calls), ("has_idle_star", f_has_idle_star), ("reached", f_reached), ("check", f_check), ("write_alt", f_write_alt), ("write_one", f_write_one), ("write", f_write), ("compiled", f_compiled), ("run", f_run), ("match", f_match), ("_law_stream", f_l_stream), ("_law_take", f_l_take), ("law", f_law)], ["CHARS", "LETTERS", "MAX_PARTS", "MAX_RULES", "MAX_TEXT"], ["LONE", "ONES"], ["Writer", "Machine"]⟩
abbrev s_is_name : Stmt := top 14
theorem c_is_name : chkSs (KT.at f_is_name.N) f_is_name.body (defScope s_is_name) (prOf f_is_name.io) (defBody s_is_name) = true := by decide +kernel
abbrev s_is_text : Stmt := top 15
theorem c_is_text : chkSs (KT.at f_is_text.N) f_is_text.body (defScope s_is_text) (prOf f_is_text.io) (defBody s_is_text) = true := by decide +kernel
abbrev s_is_set : Stmt := top 16
theorem c_is_set : chkSs (KT.at f_is_set.N) f_is_set.body (defScope s_is_set) (prOf f_is_set.io) (defBody s_is_set) = true := by decide +kernel
abbrev s_is_expression : Stmt := top 17
theorem c_is_expression : chkSs (KT.at f_is_expression.N) f_is_expression.body (defScope s_is_expression) (prOf f_is_expression.io) (defBody s_is_expression) = true := by decide +kernel
abbrev s_is_grammar : Stmt := top 18
theorem c_is_grammar : chkSs (KT.at f_is_grammar.N) f_is_grammar.body (defScope s_is_grammar) (prOf f_is_grammar.io) (defBody s_is_grammar) = true := by decide +kernel
abbrev s_checked : Stmt := top 19
theorem c_checked : chkSs (KT.at f_checked.N) f_checked.body (defScope s_checked) (prOf f_checked.io) (defBody s_checked) = true := by decide +kernel
abbrev s_parts_of : Stmt := top 20
theorem c_parts_of : chkSs (KT.at f_parts_of.N) f_parts_of.body (defScope s_parts_of) (prOf f_parts_of.io) (defBody s_parts_of) = true := by decide +kernel
abbrev s_calls_of : Stmt := top 21
theorem c_calls_of : chkSs (KT.at f_calls_of.N) f_calls_of.body (defScope s_calls_of) (prOf f_calls_of.io) (defBody s_calls_of) = true := by decide +kernel
abbrev s_may_be_empty : Stmt := top 23
theorem c_may_be_empty : chkSs (KT.at f_may_be_empty.N) f_may_be_empty.body (defScope s_may_be_empty) (prOf f_may_be_empty.io) (defBody s_may_be_empty) = true := by decide +kernel
abbrev s_empty_rules : Stmt := top 24
theorem c_empty_rules : chkSs (KT.at f_empty_rules.N) f_empty_rules.body (defScope s_empty_rules) (prOf f_empty_rules.io) (defBody s_empty_rules) = true := by decide +kernel
abbrev s_first_calls : Stmt := top 25
theorem c_first_calls : chkSs (KT.at f_first_calls.N) f_first_calls.body (defScope s_first_calls) (prOf f_first_calls.io) (defBody s_first_calls) = true := by decide +kernel
abbrev s_has_idle_star : Stmt := top 26
theorem c_has_idle_star : chkSs (KT.at f_has_idle_star.N) f_has_idle_star.body (defScope s_has_idle_star) (prOf f_has_idle_star.io) (defBody s_has_idle_star) = true := by decide +kernel
abbrev s_reached : Stmt := top 27
theorem c_reached : chkSs (KT.at f_reached.N) f_reached.body (defScope s_reached) (prOf f_reached.io) (defBody s_reached) = true := by decide +kernel
abbrev s_check : Stmt := top 28
theorem c_check : chkSs (KT.at f_check.N) f_check.body (defScope s_check) (prOf f_check.io) (defBody s_check) = true := by decide +kernel
abbrev s_Writer_init : Stmt := (clsBody (top 30)).getD 0 (.Pass ⟨0, 0, 0, 0⟩)
theorem c_Writer_init : chkSs (KT.at f_Writer_init.N) f_Writer_init.body (defScope s_Writer_init) (prOf f_Writer_init.io) (defBody s_Writer_init) = true := by decide +kernel
abbrev s_Writer_put : Stmt := (clsBody (top 30)).getD 1 (.Pass ⟨0, 0, 0, 0⟩)
theorem c_Writer_put : chkSs (KT.at f_Writer_put.N) f_Writer_put.body (defScope s_Writer_put) (prOf f_Writer_put.io) (defBody s_Writer_put) = true := by decide +kernel
abbrev s_Writer_aim : Stmt := (clsBody (top 30)).getD 2 (.Pass ⟨0, 0, 0, 0⟩)
theorem c_Writer_aim : chkSs (KT.at f_Writer_aim.N) f_Writer_aim.body (defScope s_Writer_aim) (prOf f_Writer_aim.io) (defBody s_Writer_aim) = true := by decide +kernel
abbrev s_Writer_here : Stmt := (clsBody (top 30)).getD 3 (.Pass ⟨0, 0, 0, 0⟩)
theorem c_Writer_here : chkSs (KT.at f_Writer_here.N) f_Writer_here.body (defScope s_Writer_here) (prOf f_Writer_here.io) (defBody s_Writer_here) = true := by decide +kernel
abbrev s_write_alt : Stmt := top 31
theorem c_write_alt : chkSs (KT.at f_write_alt.N) f_write_alt.body (defScope s_write_alt) (prOf f_write_alt.io) (defBody s_write_alt) = true := by decide +kernel
abbrev s_write_one : Stmt := top 32
theorem c_write_one : chkSs (KT.at f_write_one.N) f_write_one.body (defScope s_write_one) (prOf f_write_one.io) (defBody s_write_one) = true := by decide +kernel
abbrev s_write : Stmt := top 33
theorem c_write : chkSs (KT.at f_write.N) f_write.body (defScope s_write) (prOf f_write.io) (defBody s_write) = true := by decide +kernel
abbrev s_compiled : Stmt := top 34
theorem c_compiled : chkSs (KT.at f_compiled.N) f_compiled.body (defScope s_compiled) (prOf f_compiled.io) (defBody s_compiled) = true := by decide +kernel
abbrev s_Machine_init : Stmt := (clsBody (top 35)).getD 0 (.Pass ⟨0, 0, 0, 0⟩)
theorem c_Machine_init : chkSs (KT.at f_Machine_init.N) f_Machine_init.body (defScope s_Machine_init) (prOf f_Machine_init.io) (defBody s_Machine_init) = true := by decide +kernel
abbrev s_Machine_enter : Stmt := (clsBody (top 35)).getD 1 (.Pass ⟨0, 0, 0, 0⟩)
theorem c_Machine_enter : chkSs (KT.at f_Machine_enter.N) f_Machine_enter.body (defScope s_Machine_enter) (prOf f_Machine_enter.io) (defBody s_Machine_enter) = true := by decide +kernel
abbrev s_Machine_leave : Stmt := (clsBody (top 35)).getD 2 (.Pass ⟨0, 0, 0, 0⟩)
theorem c_Machine_leave : chkSs (KT.at f_Machine_leave.N) f_Machine_leave.body (defScope s_Machine_leave) (prOf f_Machine_leave.io) (defBody s_Machine_leave) = true := by decide +kernel
abbrev s_Machine_fail : Stmt := (clsBody (top 35)).getD 3 (.Pass ⟨0, 0, 0, 0⟩)
theorem c_Machine_fail : chkSs (KT.at f_Machine_fail.N) f_Machine_fail.body (defScope s_Machine_fail) (prOf f_Machine_fail.io) (defBody s_Machine_fail) = true := by decide +kernel
abbrev s_Machine_take : Stmt := (clsBody (top 35)).getD 4 (.Pass ⟨0, 0, 0, 0⟩)
theorem c_Machine_take : chkSs (KT.at f_Machine_take.N) f_Machine_take.body (defScope s_Machine_take) (prOf f_Machine_take.io) (defBody s_Machine_take) = true := by decide +kernel
abbrev s_Machine_close : Stmt := (clsBody (top 35)).getD 5 (.Pass ⟨0, 0, 0, 0⟩)
theorem c_Machine_close : chkSs (KT.at f_Machine_close.N) f_Machine_close.body (defScope s_Machine_close) (prOf f_Machine_close.io) (defBody s_Machine_close) = true := by decide +kernel
abbrev s_Machine_step_back : Stmt := (clsBody (top 35)).getD 6 (.Pass ⟨0, 0, 0, 0⟩)
theorem c_Machine_step_back : chkSs (KT.at f_Machine_step_back.N) f_Machine_step_back.body (defScope s_Machine_step_back) (prOf f_Machine_step_back.io) (defBody s_Machine_step_back) = true := by decide +kernel
abbrev s_Machine_step_choice : Stmt := (clsBody (top 35)).getD 7 (.Pass ⟨0, 0, 0, 0⟩)
theorem c_Machine_step_choice : chkSs (KT.at f_Machine_step_choice.N) f_Machine_step_choice.body (defScope s_Machine_step_choice) (prOf f_Machine_step_choice.io) (defBody s_Machine_step_choice) = true := by decide +kernel
abbrev s_Machine_step : Stmt := (clsBody (top 35)).getD 8 (.Pass ⟨0, 0, 0, 0⟩)
theorem c_Machine_step : chkSs (KT.at f_Machine_step.N) f_Machine_step.body (defScope s_Machine_step) (prOf f_Machine_step.io) (defBody s_Machine_step) = true := by decide +kernel
abbrev s_run : Stmt := top 36
theorem c_run : chkSs (KT.at f_run.N) f_run.body (defScope s_run) (prOf f_run.io) (defBody s_run) = true := by decide +kernel
abbrev s_match : Stmt := top 37
theorem c_match : chkSs (KT.at f_match.N) f_match.body (defScope s_match) (prOf f_match.io) (defBody s_match) = true := by decide +kernel
abbrev s_l_stream : Stmt := top 39
theorem c_l_stream : chkSs (KT.at f_l_stream.N) f_l_stream.body (defScope s_l_stream) (prOf f_l_stream.io) (defBody s_l_stream) = true := by decide +kernel
abbrev s_l_take : Stmt := top 40
theorem c_l_take : chkSs (KT.at f_l_take.N) f_l_take.body (defScope s_l_take) (prOf f_l_take.io) (defBody s_l_take) = true := by decide +kernel
abbrev s_law : Stmt := top 41
theorem c_law : chkSs (KT.at f_law.N) f_law.body (defScope s_law) (prOf f_law.io) (defBody s_law) = true := by decide +kernel
end Gr

end
section
set_option Elab.async false
set_option linter.all false
set_option maxRecDepth 100000
set_option maxHeartbeats 4000000
namespace Gr
open PySem PySem.Spec L2
open PyProof.Rows hiding St
def GmT (K : PySem.W.Frag) (C1 C2 : Addr) : Gm := ⟨K, fun _ => none, fun c => if c = "Writer" then some C1 else if c = "Machine" then some C2 else none, fun _ _ _ => False⟩
structure Facts (K : PySem.W.Frag) (C1 C2 : Addr) : Prop where
  k_Writer : FC K "Writer" C1
  k_Machine : FC K "Machine" C2
  n_Writer_done : NoAttr K C1 "done"
  n_Writer_entered : NoAttr K C1 "entered"
  n_Writer_memory : NoAttr K C1 "memory"
  n_Writer_place : NoAttr K C1 "place"
  n_Writer_row : NoAttr K C1 "row"
  n_Writer_rows : NoAttr K C1 "rows"
  n_Writer_stack : NoAttr K C1 "stack"
  n_Writer_starts : NoAttr K C1 "starts"
  n_Writer_text : NoAttr K C1 "text"
  n_Writer_told : NoAttr K C1 "told"
  n_Writer_trees : NoAttr K C1 "trees"
  n_Machine_done : NoAttr K C2 "done"
  n_Machine_entered : NoAttr K C2 "entered"
  n_Machine_memory : NoAttr K C2 "memory"
  n_Machine_place : NoAttr K C2 "place"
  n_Machine_row : NoAttr K C2 "row"
  n_Machine_rows : NoAttr K C2 "rows"
  n_Machine_stack : NoAttr K C2 "stack"
  n_Machine_starts : NoAttr K C2 "starts"
  n_Machine_text : NoAttr K C2 "text"
  n_Machine_told : NoAttr K C2 "told"
  n_Machine_trees : NoAttr K C2 "trees"
  d_is_name : ∃ f, FF K "is_name" s_is_name f
  d_is_text : ∃ f, FF K "is_text" s_is_text f
  d_is_set : ∃ f, FF K "is_set" s_is_set f
  d_is_expression : ∃ f, FFD K "is_expression" s_is_expression 12 f
  d_is_grammar : ∃ f, FF K "is_grammar" s_is_grammar f
  d_checked : ∃ f, FF K "checked" s_checked f
  d_parts_of : ∃ f, FF K "parts_of" s_parts_of f
  d_calls_of : ∃ f, FF K "calls_of" s_calls_of f
  d_may_be_empty : ∃ f, FF K "may_be_empty" s_may_be_empty f
  d_empty_rules : ∃ f, FF K "empty_rules" s_empty_rules f
  d_first_calls : ∃ f, FF K "first_calls" s_first_calls f
  d_has_idle_star : ∃ f, FF K "has_idle_star" s_has_idle_star f
  d_reached : ∃ f, FF K "reached" s_reached f
  d_check : ∃ f, FF K "check" s_check f
  d_Writer_init : ∃ f, FM K C1 "__init__" "Writer.__init__" s_Writer_init f
  d_Writer_put : ∃ f, FM K C1 "put" "Writer.put" s_Writer_put f
  d_Writer_aim : ∃ f, FM K C1 "aim" "Writer.aim" s_Writer_aim f
  d_Writer_here : ∃ f, FM K C1 "here" "Writer.here" s_Writer_here f
  d_write_alt : ∃ f, FF K "write_alt" s_write_alt f
  d_write_one : ∃ f, FF K "write_one" s_write_one f
  d_write : ∃ f, FF K "write" s_write f
  d_compiled : ∃ f, FF K "compiled" s_compiled f
  d_Machine_init : ∃ f, FM K C2 "__init__" "Machine.__init__" s_Machine_init f
  d_Machine_enter : ∃ f, FM K C2 "enter" "Machine.enter" s_Machine_enter f
  d_Machine_leave : ∃ f, FM K C2 "leave" "Machine.leave" s_Machine_leave f
  d_Machine_fail : ∃ f, FM K C2 "fail" "Machine.fail" s_Machine_fail f
  d_Machine_take : ∃ f, FM K C2 "take" "Machine.take" s_Machine_take f
  d_Machine_close : ∃ f, FM K C2 "close" "Machine.close" s_Machine_close f
  d_Machine_step_back : ∃ f, FM K C2 "step_back" "Machine.step_back" s_Machine_step_back f
  d_Machine_step_choice : ∃ f, FM K C2 "step_choice" "Machine.step_choice" s_Machine_step_choice f
  d_Machine_step : ∃ f, FM K C2 "step" "Machine.step" s_Machine_step f
  d_run : ∃ f, FF K "run" s_run f
  d_match : ∃ f, FFD K "match" s_match 0 f
  d_l_stream : ∃ f, FF K "_law_stream" s_l_stream f
  d_l_take : ∃ f, FF K "_law_take" s_l_take f
  d_law : ∃ f, FF K "law" s_law f
  b_len : PySem.W.nsIn K mainGlobals "len" = some none
  b_list : PySem.W.nsIn K mainGlobals "list" = some none
  b_tuple : PySem.W.nsIn K mainGlobals "tuple" = some none
  b_all : PySem.W.nsIn K mainGlobals "all" = some none
  b_any : PySem.W.nsIn K mainGlobals "any" = some none
  b_sum : PySem.W.nsIn K mainGlobals "sum" = some none
  b_max : PySem.W.nsIn K mainGlobals "max" = some none
  b_int : PySem.W.nsIn K mainGlobals "int" = some none
  b_abs : PySem.W.nsIn K mainGlobals "abs" = some none
  b_ord : PySem.W.nsIn K mainGlobals "ord" = some none
  b_min : PySem.W.nsIn K mainGlobals "min" = some none
  b_isinstance : PySem.W.nsIn K mainGlobals "isinstance" = some none
  b_str : PySem.W.nsIn K mainGlobals "str" = some none
  b_bool : PySem.W.nsIn K mainGlobals "bool" = some none
  b_range : PySem.W.nsIn K mainGlobals "range" = some none
  g_CHARS : FStr K "CHARS" [32, 33, 34, 35, 36, 38, 39, 40, 41, 42, 43, 44, 45, 46, 47, 48, 49, 50, 51, 52, 53, 54, 55, 56, 57, 58, 59, 60, 61, 62, 63, 64, 65, 66, 67, 68, 69, 70, 71, 72, 73, 74, 75, 76, 77, 78, 79, 80, 81, 82, 83, 84, 85, 86, 87, 88, 89, 90, 91, 92, 93, 94, 95, 96, 97, 98, 99, 100, 101, 102, 103, 104, 105, 106, 107, 108, 109, 110, 111, 112, 113, 114, 115, 116, 117, 118, 119, 120, 121, 122, 123, 124, 125, 126]
  g_LETTERS : FStr K "LETTERS" [97, 98, 99, 100, 101, 102, 103, 104, 105, 106, 107, 108, 109, 110, 111, 112, 113, 114, 115, 116, 117, 118, 119, 120, 121, 122]
  g_MAX_PARTS : FInt K "MAX_PARTS" 16
  g_MAX_RULES : FInt K "MAX_RULES" 16
  g_MAX_TEXT : FInt K "MAX_TEXT" 20
  g_LONE : FTup K "LONE" [[101, 112, 115], [102, 97, 105, 108], [97, 110, 121]]
  g_ONES : FTup K "ONES" [[115, 116, 97, 114], [111, 112, 116], [110, 111, 116], [97, 110, 100]]
section
variable {K : PySem.W.Frag} {mg : Str → Option Value} {h : Heap} {C1 C2 : Addr}
theorem m_is_name (F : Facts K C1 C2) (X : K.In h) (Gn : h.Ns mainGlobals mg) : ∃ a fd ps dvs, DefAt (GmT K C1 C2) KT GT "is_name" f_is_name a fd ps dvs ∧ mg (Str.ofString "is_name") = some (.ref a) := by
  obtain ⟨f, h⟩ := F.d_is_name
  obtain ⟨fd, d⟩ := def0 (g := GmT K C1 C2) (K := KT) (G := GT) (name := "is_name") (fn := f_is_name) (ps := ["thing"]) h rfl rfl rfl rfl (by decide +kernel) (fun _ _ _ _ _ _ us hl => match us, hl with | [_], _ => rfl) c_is_name
  exact ⟨f, fd, ["thing"], [], d, PySem.W.mg_of X Gn h.at_⟩
theorem m_is_text (F : Facts K C1 C2) (X : K.In h) (Gn : h.Ns mainGlobals mg) : ∃ a fd ps dvs, DefAt (GmT K C1 C2) KT GT "is_text" f_is_text a fd ps dvs ∧ mg (Str.ofString "is_text") = some (.ref a) := by
  obtain ⟨f, h⟩ := F.d_is_text
  obtain ⟨fd, d⟩ := def0 (g := GmT K C1 C2) (K := KT) (G := GT) (name := "is_text") (fn := f_is_text) (ps := ["thing"]) h rfl rfl rfl rfl (by decide +kernel) (fun _ _ _ _ _ _ us hl => match us, hl with | [_], _ => rfl) c_is_text
  exact ⟨f, fd, ["thing"], [], d, PySem.W.mg_of X Gn h.at_⟩
theorem m_is_set (F : Facts K C1 C2) (X : K.In h) (Gn : h.Ns mainGlobals mg) : ∃ a fd ps dvs, DefAt (GmT K C1 C2) KT GT "is_set" f_is_set a fd ps dvs ∧ mg (Str.ofString "is_set") = some (.ref a) := by
  obtain ⟨f, h⟩ := F.d_is_set
  obtain ⟨fd, d⟩ := def0 (g := GmT K C1 C2) (K := KT) (G := GT) (name := "is_set") (fn := f_is_set) (ps := ["thing"]) h rfl rfl rfl rfl (by decide +kernel) (fun _ _ _ _ _ _ us hl => match us, hl with | [_], _ => rfl) c_is_set
  exact ⟨f, fd, ["thing"], [], d, PySem.W.mg_of X Gn h.at_⟩
theorem m_is_expression (F : Facts K C1 C2) (X : K.In h) (Gn : h.Ns mainGlobals mg) : ∃ a fd ps dvs, DefAt (GmT K C1 C2) KT GT "is_expression" f_is_expression a fd ps dvs ∧ mg (Str.ofString "is_expression") = some (.ref a) := by
  obtain ⟨f, h⟩ := F.d_is_expression
  obtain ⟨fd, d⟩ := def1 (g := GmT K C1 C2) (K := KT) (G := GT) (name := "is_expression") (fn := f_is_expression) (ps := ["thing", "deep"]) (n0 := 1) h rfl rfl rfl rfl rfl (by decide +kernel) (fun _ _ _ _ _ _ _ us its hl hi => match us, its, hl, hi with | [_], [_], _, _ => ⟨_, rfl, rfl⟩) (fun _ _ _ _ _ _ _ us its hl hi => match us, its, hl, hi with | [_, _], [_], _, _ => ⟨_, rfl, rfl⟩) c_is_expression
  exact ⟨f, fd, ["thing", "deep"], [.int 12], d, PySem.W.mg_of X Gn h.at_⟩
theorem m_is_grammar (F : Facts K C1 C2) (X : K.In h) (Gn : h.Ns mainGlobals mg) : ∃ a fd ps dvs, DefAt (GmT K C1 C2) KT GT "is_grammar" f_is_grammar a fd ps dvs ∧ mg (Str.ofString "is_grammar") = some (.ref a) := by
  obtain ⟨f, h⟩ := F.d_is_grammar
  obtain ⟨fd, d⟩ := def0 (g := GmT K C1 C2) (K := KT) (G := GT) (name := "is_grammar") (fn := f_is_grammar) (ps := ["thing"]) h rfl rfl rfl rfl (by decide +kernel) (fun _ _ _ _ _ _ us hl => match us, hl with | [_], _ => rfl) c_is_grammar
  exact ⟨f, fd, ["thing"], [], d, PySem.W.mg_of X Gn h.at_⟩
theorem m_checked (F : Facts K C1 C2) (X : K.In h) (Gn : h.Ns mainGlobals mg) : ∃ a fd ps dvs, DefAt (GmT K C1 C2) KT GT "checked" f_checked a fd ps dvs ∧ mg (Str.ofString "checked") = some (.ref a) := by
  obtain ⟨f, h⟩ := F.d_checked
  obtain ⟨fd, d⟩ := def0 (g := GmT K C1 C2) (K := KT) (G := GT) (name := "checked") (fn := f_checked) (ps := ["thing"]) h rfl rfl rfl rfl (by decide +kernel) (fun _ _ _ _ _ _ us hl => match us, hl with | [_], _ => rfl) c_checked
  exact ⟨f, fd, ["thing"], [], d, PySem.W.mg_of X Gn h.at_⟩
theorem m_parts_of (F : Facts K C1 C2) (X : K.In h) (Gn : h.Ns mainGlobals mg) : ∃ a fd ps dvs, DefAt (GmT K C1 C2) KT GT "parts_of" f_parts_of a fd ps dvs ∧ mg (Str.ofString "parts_of") = some (.ref a) := by
  obtain ⟨f, h⟩ := F.d_parts_of
  obtain ⟨fd, d⟩ := def0 (g := GmT K C1 C2) (K := KT) (G := GT) (name := "parts_of") (fn := f_parts_of) (ps := ["expression"]) h rfl rfl rfl rfl (by decide +kernel) (fun _ _ _ _ _ _ us hl => match us, hl with | [_], _ => rfl) c_parts_of
  exact ⟨f, fd, ["expression"], [], d, PySem.W.mg_of X Gn h.at_⟩
theorem m_calls_of (F : Facts K C1 C2) (X : K.In h) (Gn : h.Ns mainGlobals mg) : ∃ a fd ps dvs, DefAt (GmT K C1 C2) KT GT "calls_of" f_calls_of a fd ps dvs ∧ mg (Str.ofString "calls_of") = some (.ref a) := by
  obtain ⟨f, h⟩ := F.d_calls_of
  obtain ⟨fd, d⟩ := def0 (g := GmT K C1 C2) (K := KT) (G := GT) (name := "calls_of") (fn := f_calls_of) (ps := ["expression"]) h rfl rfl rfl rfl (by decide +kernel) (fun _ _ _ _ _ _ us hl => match us, hl with | [_], _ => rfl) c_calls_of
  exact ⟨f, fd, ["expression"], [], d, PySem.W.mg_of X Gn h.at_⟩
theorem m_may_be_empty (F : Facts K C1 C2) (X : K.In h) (Gn : h.Ns mainGlobals mg) : ∃ a fd ps dvs, DefAt (GmT K C1 C2) KT GT "may_be_empty" f_may_be_empty a fd ps dvs ∧ mg (Str.ofString "may_be_empty") = some (.ref a) := by
  obtain ⟨f, h⟩ := F.d_may_be_empty
  obtain ⟨fd, d⟩ := def0 (g := GmT K C1 C2) (K := KT) (G := GT) (name := "may_be_empty") (fn := f_may_be_empty) (ps := ["expression", "names"]) h rfl rfl rfl rfl (by decide +kernel) (fun _ _ _ _ _ _ us hl => match us, hl with | [_, _], _ => rfl) c_may_be_empty
  exact ⟨f, fd, ["expression", "names"], [], d, PySem.W.mg_of X Gn h.at_⟩
theorem m_empty_rules (F : Facts K C1 C2) (X : K.In h) (Gn : h.Ns mainGlobals mg) : ∃ a fd ps dvs, DefAt (GmT K C1 C2) KT GT "empty_rules" f_empty_rules a fd ps dvs ∧ mg (Str.ofString "empty_rules") = some (.ref a) := by
  obtain ⟨f, h⟩ := F.d_empty_rules
  obtain ⟨fd, d⟩ := def0 (g := GmT K C1 C2) (K := KT) (G := GT) (name := "empty_rules") (fn := f_empty_rules) (ps := ["grammar"]) h rfl rfl rfl rfl (by decide +kernel) (fun _ _ _ _ _ _ us hl => match us, hl with | [_], _ => rfl) c_empty_rules
  exact ⟨f, fd, ["grammar"], [], d, PySem.W.mg_of X Gn h.at_⟩
theorem m_first_calls (F : Facts K C1 C2) (X : K.In h) (Gn : h.Ns mainGlobals mg) : ∃ a fd ps dvs, DefAt (GmT K C1 C2) KT GT "first_calls" f_first_calls a fd ps dvs ∧ mg (Str.ofString "first_calls") = some (.ref a) := by
  obtain ⟨f, h⟩ := F.d_first_calls
  obtain ⟨fd, d⟩ := def0 (g := GmT K C1 C2) (K := KT) (G := GT) (name := "first_calls") (fn := f_first_calls) (ps := ["expression", "names"]) h rfl rfl rfl rfl (by decide +kernel) (fun _ _ _ _ _ _ us hl => match us, hl with | [_, _], _ => rfl) c_first_calls
  exact ⟨f, fd, ["expression", "names"], [], d, PySem.W.mg_of X Gn h.at_⟩
theorem m_has_idle_star (F : Facts K C1 C2) (X : K.In h) (Gn : h.Ns mainGlobals mg) : ∃ a fd ps dvs, DefAt (GmT K C1 C2) KT GT "has_idle_star" f_has_idle_star a fd ps dvs ∧ mg (Str.ofString "has_idle_star") = some (.ref a) := by
  obtain ⟨f, h⟩ := F.d_has_idle_star
  obtain ⟨fd, d⟩ := def0 (g := GmT K C1 C2) (K := KT) (G := GT) (name := "has_idle_star") (fn := f_has_idle_star) (ps := ["expression", "names"]) h rfl rfl rfl rfl (by decide +kernel) (fun _ _ _ _ _ _ us hl => match us, hl with | [_, _], _ => rfl) c_has_idle_star
  exact ⟨f, fd, ["expression", "names"], [], d, PySem.W.mg_of X Gn h.at_⟩
theorem m_reached (F : Facts K C1 C2) (X : K.In h) (Gn : h.Ns mainGlobals mg) : ∃ a fd ps dvs, DefAt (GmT K C1 C2) KT GT "reached" f_reached a fd ps dvs ∧ mg (Str.ofString "reached") = some (.ref a) := by
  obtain ⟨f, h⟩ := F.d_reached
  obtain ⟨fd, d⟩ := def0 (g := GmT K C1 C2) (K := KT) (G := GT) (name := "reached") (fn := f_reached) (ps := ["start", "table"]) h rfl rfl rfl rfl (by decide +kernel) (fun _ _ _ _ _ _ us hl => match us, hl with | [_, _], _ => rfl) c_reached
  exact ⟨f, fd, ["start", "table"], [], d, PySem.W.mg_of X Gn h.at_⟩
theorem m_check (F : Facts K C1 C2) (X : K.In h) (Gn : h.Ns mainGlobals mg) : ∃ a fd ps dvs, DefAt (GmT K C1 C2) KT GT "check" f_check a fd ps dvs ∧ mg (Str.ofString "check") = some (.ref a) := by
  obtain ⟨f, h⟩ := F.d_check
  obtain ⟨fd, d⟩ := def0 (g := GmT K C1 C2) (K := KT) (G := GT) (name := "check") (fn := f_check) (ps := ["grammar"]) h rfl rfl rfl rfl (by decide +kernel) (fun _ _ _ _ _ _ us hl => match us, hl with | [_], _ => rfl) c_check
  exact ⟨f, fd, ["grammar"], [], d, PySem.W.mg_of X Gn h.at_⟩
theorem m_Writer_init (F : Facts K C1 C2) : ∃ a fd ps dvs, DefAt (GmT K C1 C2) KT GT "Writer.__init__" f_Writer_init a fd ps dvs ∧ Meth K C1 "__init__" a := by
  obtain ⟨f, h⟩ := F.d_Writer_init
  obtain ⟨⟨fd, d⟩, e⟩ := defM (g := GmT K C1 C2) (K := KT) (G := GT) (name := "Writer.__init__") (fn := f_Writer_init) (ps := ["self"]) h rfl rfl rfl rfl (by decide +kernel) (fun _ _ _ _ _ _ us hl => match us, hl with | [_], _ => rfl) c_Writer_init
  exact ⟨f, fd, ["self"], [], d, e⟩
theorem m_Writer_put (F : Facts K C1 C2) : ∃ a fd ps dvs, DefAt (GmT K C1 C2) KT GT "Writer.put" f_Writer_put a fd ps dvs ∧ Meth K C1 "put" a := by
  obtain ⟨f, h⟩ := F.d_Writer_put
  obtain ⟨⟨fd, d⟩, e⟩ := defM (g := GmT K C1 C2) (K := KT) (G := GT) (name := "Writer.put") (fn := f_Writer_put) (ps := ["self", "row"]) h rfl rfl rfl rfl (by decide +kernel) (fun _ _ _ _ _ _ us hl => match us, hl with | [_, _], _ => rfl) c_Writer_put
  exact ⟨f, fd, ["self", "row"], [], d, e⟩
theorem m_Writer_aim (F : Facts K C1 C2) : ∃ a fd ps dvs, DefAt (GmT K C1 C2) KT GT "Writer.aim" f_Writer_aim a fd ps dvs ∧ Meth K C1 "aim" a := by
  obtain ⟨f, h⟩ := F.d_Writer_aim
  obtain ⟨⟨fd, d⟩, e⟩ := defM (g := GmT K C1 C2) (K := KT) (G := GT) (name := "Writer.aim") (fn := f_Writer_aim) (ps := ["self", "at", "target"]) h rfl rfl rfl rfl (by decide +kernel) (fun _ _ _ _ _ _ us hl => match us, hl with | [_, _, _], _ => rfl) c_Writer_aim
  exact ⟨f, fd, ["self", "at", "target"], [], d, e⟩
theorem m_Writer_here (F : Facts K C1 C2) : ∃ a fd ps dvs, DefAt (GmT K C1 C2) KT GT "Writer.here" f_Writer_here a fd ps dvs ∧ Meth K C1 "here" a := by
  obtain ⟨f, h⟩ := F.d_Writer_here
  obtain ⟨⟨fd, d⟩, e⟩ := defM (g := GmT K C1 C2) (K := KT) (G := GT) (name := "Writer.here") (fn := f_Writer_here) (ps := ["self"]) h rfl rfl rfl rfl (by decide +kernel) (fun _ _ _ _ _ _ us hl => match us, hl with | [_], _ => rfl) c_Writer_here
  exact ⟨f, fd, ["self"], [], d, e⟩
theorem m_write_alt (F : Facts K C1 C2) (X : K.In h) (Gn : h.Ns mainGlobals mg) : ∃ a fd ps dvs, DefAt (GmT K C1 C2) KT GT "write_alt" f_write_alt a fd ps dvs ∧ mg (Str.ofString "write_alt") = some (.ref a) := by
  obtain ⟨f, h⟩ := F.d_write_alt
  obtain ⟨fd, d⟩ := def0 (g := GmT K C1 C2) (K := KT) (G := GT) (name := "write_alt") (fn := f_write_alt) (ps := ["writer", "parts"]) h rfl rfl rfl rfl (by decide +kernel) (fun _ _ _ _ _ _ us hl => match us, hl with | [_, _], _ => rfl) c_write_alt
  exact ⟨f, fd, ["writer", "parts"], [], d, PySem.W.mg_of X Gn h.at_⟩
theorem m_write_one (F : Facts K C1 C2) (X : K.In h) (Gn : h.Ns mainGlobals mg) : ∃ a fd ps dvs, DefAt (GmT K C1 C2) KT GT "write_one" f_write_one a fd ps dvs ∧ mg (Str.ofString "write_one") = some (.ref a) := by
  obtain ⟨f, h⟩ := F.d_write_one
  obtain ⟨fd, d⟩ := def0 (g := GmT K C1 C2) (K := KT) (G := GT) (name := "write_one") (fn := f_write_one) (ps := ["writer", "head", "inner"]) h rfl rfl rfl rfl (by decide +kernel) (fun _ _ _ _ _ _ us hl => match us, hl with | [_, _, _], _ => rfl) c_write_one
  exact ⟨f, fd, ["writer", "head", "inner"], [], d, PySem.W.mg_of X Gn h.at_⟩
theorem m_write (F : Facts K C1 C2) (X : K.In h) (Gn : h.Ns mainGlobals mg) : ∃ a fd ps dvs, DefAt (GmT K C1 C2) KT GT "write" f_write a fd ps dvs ∧ mg (Str.ofString "write") = some (.ref a) := by
  obtain ⟨f, h⟩ := F.d_write
  obtain ⟨fd, d⟩ := def0 (g := GmT K C1 C2) (K := KT) (G := GT) (name := "write") (fn := f_write) (ps := ["writer", "expression"]) h rfl rfl rfl rfl (by decide +kernel) (fun _ _ _ _ _ _ us hl => match us, hl with | [_, _], _ => rfl) c_write
  exact ⟨f, fd, ["writer", "expression"], [], d, PySem.W.mg_of X Gn h.at_⟩
theorem m_compiled (F : Facts K C1 C2) (X : K.In h) (Gn : h.Ns mainGlobals mg) : ∃ a fd ps dvs, DefAt (GmT K C1 C2) KT GT "compiled" f_compiled a fd ps dvs ∧ mg (Str.ofString "compiled") = some (.ref a) := by
  obtain ⟨f, h⟩ := F.d_compiled
  obtain ⟨fd, d⟩ := def0 (g := GmT K C1 C2) (K := KT) (G := GT) (name := "compiled") (fn := f_compiled) (ps := ["grammar"]) h rfl rfl rfl rfl (by decide +kernel) (fun _ _ _ _ _ _ us hl => match us, hl with | [_], _ => rfl) c_compiled
  exact ⟨f, fd, ["grammar"], [], d, PySem.W.mg_of X Gn h.at_⟩
theorem m_Machine_init (F : Facts K C1 C2) : ∃ a fd ps dvs, DefAt (GmT K C1 C2) KT GT "Machine.__init__" f_Machine_init a fd ps dvs ∧ Meth K C2 "__init__" a := by
  obtain ⟨f, h⟩ := F.d_Machine_init
  obtain ⟨⟨fd, d⟩, e⟩ := defM (g := GmT K C1 C2) (K := KT) (G := GT) (name := "Machine.__init__") (fn := f_Machine_init) (ps := ["self", "rows", "starts", "text"]) h rfl rfl rfl rfl (by decide +kernel) (fun _ _ _ _ _ _ us hl => match us, hl with | [_, _, _, _], _ => rfl) c_Machine_init
  exact ⟨f, fd, ["self", "rows", "starts", "text"], [], d, e⟩
theorem m_Machine_enter (F : Facts K C1 C2) : ∃ a fd ps dvs, DefAt (GmT K C1 C2) KT GT "Machine.enter" f_Machine_enter a fd ps dvs ∧ Meth K C2 "enter" a := by
  obtain ⟨f, h⟩ := F.d_Machine_enter
  obtain ⟨⟨fd, d⟩, e⟩ := defM (g := GmT K C1 C2) (K := KT) (G := GT) (name := "Machine.enter") (fn := f_Machine_enter) (ps := ["self", "name", "back"]) h rfl rfl rfl rfl (by decide +kernel) (fun _ _ _ _ _ _ us hl => match us, hl with | [_, _, _], _ => rfl) c_Machine_enter
  exact ⟨f, fd, ["self", "name", "back"], [], d, e⟩
theorem m_Machine_leave (F : Facts K C1 C2) : ∃ a fd ps dvs, DefAt (GmT K C1 C2) KT GT "Machine.leave" f_Machine_leave a fd ps dvs ∧ Meth K C2 "leave" a := by
  obtain ⟨f, h⟩ := F.d_Machine_leave
  obtain ⟨⟨fd, d⟩, e⟩ := defM (g := GmT K C1 C2) (K := KT) (G := GT) (name := "Machine.leave") (fn := f_Machine_leave) (ps := ["self"]) h rfl rfl rfl rfl (by decide +kernel) (fun _ _ _ _ _ _ us hl => match us, hl with | [_], _ => rfl) c_Machine_leave
  exact ⟨f, fd, ["self"], [], d, e⟩
theorem m_Machine_fail (F : Facts K C1 C2) : ∃ a fd ps dvs, DefAt (GmT K C1 C2) KT GT "Machine.fail" f_Machine_fail a fd ps dvs ∧ Meth K C2 "fail" a := by
  obtain ⟨f, h⟩ := F.d_Machine_fail
  obtain ⟨⟨fd, d⟩, e⟩ := defM (g := GmT K C1 C2) (K := KT) (G := GT) (name := "Machine.fail") (fn := f_Machine_fail) (ps := ["self"]) h rfl rfl rfl rfl (by decide +kernel) (fun _ _ _ _ _ _ us hl => match us, hl with | [_], _ => rfl) c_Machine_fail
  exact ⟨f, fd, ["self"], [], d, e⟩
theorem m_Machine_take (F : Facts K C1 C2) : ∃ a fd ps dvs, DefAt (GmT K C1 C2) KT GT "Machine.take" f_Machine_take a fd ps dvs ∧ Meth K C2 "take" a := by
  obtain ⟨f, h⟩ := F.d_Machine_take
  obtain ⟨⟨fd, d⟩, e⟩ := defM (g := GmT K C1 C2) (K := KT) (G := GT) (name := "Machine.take") (fn := f_Machine_take) (ps := ["self", "size", "fits"]) h rfl rfl rfl rfl (by decide +kernel) (fun _ _ _ _ _ _ us hl => match us, hl with | [_, _, _], _ => rfl) c_Machine_take
  exact ⟨f, fd, ["self", "size", "fits"], [], d, e⟩
theorem m_Machine_close (F : Facts K C1 C2) : ∃ a fd ps dvs, DefAt (GmT K C1 C2) KT GT "Machine.close" f_Machine_close a fd ps dvs ∧ Meth K C2 "close" a := by
  obtain ⟨f, h⟩ := F.d_Machine_close
  obtain ⟨⟨fd, d⟩, e⟩ := defM (g := GmT K C1 C2) (K := KT) (G := GT) (name := "Machine.close") (fn := f_Machine_close) (ps := ["self"]) h rfl rfl rfl rfl (by decide +kernel) (fun _ _ _ _ _ _ us hl => match us, hl with | [_], _ => rfl) c_Machine_close
  exact ⟨f, fd, ["self"], [], d, e⟩
theorem m_Machine_step_back (F : Facts K C1 C2) : ∃ a fd ps dvs, DefAt (GmT K C1 C2) KT GT "Machine.step_back" f_Machine_step_back a fd ps dvs ∧ Meth K C2 "step_back" a := by
  obtain ⟨f, h⟩ := F.d_Machine_step_back
  obtain ⟨⟨fd, d⟩, e⟩ := defM (g := GmT K C1 C2) (K := KT) (G := GT) (name := "Machine.step_back") (fn := f_Machine_step_back) (ps := ["self", "target"]) h rfl rfl rfl rfl (by decide +kernel) (fun _ _ _ _ _ _ us hl => match us, hl with | [_, _], _ => rfl) c_Machine_step_back
  exact ⟨f, fd, ["self", "target"], [], d, e⟩
theorem m_Machine_step_choice (F : Facts K C1 C2) : ∃ a fd ps dvs, DefAt (GmT K C1 C2) KT GT "Machine.step_choice" f_Machine_step_choice a fd ps dvs ∧ Meth K C2 "step_choice" a := by
  obtain ⟨f, h⟩ := F.d_Machine_step_choice
  obtain ⟨⟨fd, d⟩, e⟩ := defM (g := GmT K C1 C2) (K := KT) (G := GT) (name := "Machine.step_choice") (fn := f_Machine_step_choice) (ps := ["self", "row"]) h rfl rfl rfl rfl (by decide +kernel) (fun _ _ _ _ _ _ us hl => match us, hl with | [_, _], _ => rfl) c_Machine_step_choice
  exact ⟨f, fd, ["self", "row"], [], d, e⟩
theorem m_Machine_step (F : Facts K C1 C2) : ∃ a fd ps dvs, DefAt (GmT K C1 C2) KT GT "Machine.step" f_Machine_step a fd ps dvs ∧ Meth K C2 "step" a := by
  obtain ⟨f, h⟩ := F.d_Machine_step
  obtain ⟨⟨fd, d⟩, e⟩ := defM (g := GmT K C1 C2) (K := KT) (G := GT) (name := "Machine.step") (fn := f_Machine_step) (ps := ["self"]) h rfl rfl rfl rfl (by decide +kernel) (fun _ _ _ _ _ _ us hl => match us, hl with | [_], _ => rfl) c_Machine_step
  exact ⟨f, fd, ["self"], [], d, e⟩
theorem m_run (F : Facts K C1 C2) (X : K.In h) (Gn : h.Ns mainGlobals mg) : ∃ a fd ps dvs, DefAt (GmT K C1 C2) KT GT "run" f_run a fd ps dvs ∧ mg (Str.ofString "run") = some (.ref a) := by
  obtain ⟨f, h⟩ := F.d_run
  obtain ⟨fd, d⟩ := def0 (g := GmT K C1 C2) (K := KT) (G := GT) (name := "run") (fn := f_run) (ps := ["grammar", "text", "at"]) h rfl rfl rfl rfl (by decide +kernel) (fun _ _ _ _ _ _ us hl => match us, hl with | [_, _, _], _ => rfl) c_run
  exact ⟨f, fd, ["grammar", "text", "at"], [], d, PySem.W.mg_of X Gn h.at_⟩
theorem m_match (F : Facts K C1 C2) (X : K.In h) (Gn : h.Ns mainGlobals mg) : ∃ a fd ps dvs, DefAt (GmT K C1 C2) KT GT "match" f_match a fd ps dvs ∧ mg (Str.ofString "match") = some (.ref a) := by
  obtain ⟨f, h⟩ := F.d_match
  obtain ⟨fd, d⟩ := def1 (g := GmT K C1 C2) (K := KT) (G := GT) (name := "match") (fn := f_match) (ps := ["grammar", "text", "at"]) (n0 := 2) h rfl rfl rfl rfl rfl (by decide +kernel) (fun _ _ _ _ _ _ _ us its hl hi => match us, its, hl, hi with | [_, _], [_], _, _ => ⟨_, rfl, rfl⟩) (fun _ _ _ _ _ _ _ us its hl hi => match us, its, hl, hi with | [_, _, _], [_], _, _ => ⟨_, rfl, rfl⟩) c_match
  exact ⟨f, fd, ["grammar", "text", "at"], [.int 0], d, PySem.W.mg_of X Gn h.at_⟩
theorem m_l_stream (F : Facts K C1 C2) (X : K.In h) (Gn : h.Ns mainGlobals mg) : ∃ a fd ps dvs, DefAt (GmT K C1 C2) KT GT "_law_stream" f_l_stream a fd ps dvs ∧ mg (Str.ofString "_law_stream") = some (.ref a) := by
  obtain ⟨f, h⟩ := F.d_l_stream
  obtain ⟨fd, d⟩ := def0 (g := GmT K C1 C2) (K := KT) (G := GT) (name := "_law_stream") (fn := f_l_stream) (ps := ["script"]) h rfl rfl rfl rfl (by decide +kernel) (fun _ _ _ _ _ _ us hl => match us, hl with | [_], _ => rfl) c_l_stream
  exact ⟨f, fd, ["script"], [], d, PySem.W.mg_of X Gn h.at_⟩
theorem m_l_take (F : Facts K C1 C2) (X : K.In h) (Gn : h.Ns mainGlobals mg) : ∃ a fd ps dvs, DefAt (GmT K C1 C2) KT GT "_law_take" f_l_take a fd ps dvs ∧ mg (Str.ofString "_law_take") = some (.ref a) := by
  obtain ⟨f, h⟩ := F.d_l_take
  obtain ⟨fd, d⟩ := def0 (g := GmT K C1 C2) (K := KT) (G := GT) (name := "_law_take") (fn := f_l_take) (ps := ["row", "many"]) h rfl rfl rfl rfl (by decide +kernel) (fun _ _ _ _ _ _ us hl => match us, hl with | [_, _], _ => rfl) c_l_take
  exact ⟨f, fd, ["row", "many"], [], d, PySem.W.mg_of X Gn h.at_⟩
theorem m_law (F : Facts K C1 C2) (X : K.In h) (Gn : h.Ns mainGlobals mg) : ∃ a fd ps dvs, DefAt (GmT K C1 C2) KT GT "law" f_law a fd ps dvs ∧ mg (Str.ofString "law") = some (.ref a) := by
  obtain ⟨f, h⟩ := F.d_law
  obtain ⟨fd, d⟩ := def0 (g := GmT K C1 C2) (K := KT) (G := GT) (name := "law") (fn := f_law) (ps := ["script"]) h rfl rfl rfl rfl (by decide +kernel) (fun _ _ _ _ _ _ us hl => match us, hl with | [_], _ => rfl) c_law
  exact ⟨f, fd, ["script"], [], d, PySem.W.mg_of X Gn h.at_⟩
def tblT : List (String × Fn) := [("is_name", f_is_name), ("is_text", f_is_text), ("is_set", f_is_set), ("is_expression", f_is_expression), ("is_grammar", f_is_grammar), ("checked", f_checked), ("parts_of", f_parts_of), ("calls_of", f_calls_of), ("may_be_empty", f_may_be_empty), ("empty_rules", f_empty_rules), ("first_calls", f_first_calls), ("has_idle_star", f_has_idle_star), ("reached", f_reached), ("check", f_check), ("Writer.__init__", f_Writer_init), ("Writer.put", f_Writer_put), ("Writer.aim", f_Writer_aim), ("Writer.here", f_Writer_here), ("write_alt", f_write_alt), ("write_one", f_write_one), ("write", f_write), ("compiled", f_compiled), ("Machine.__init__", f_Machine_init), ("Machine.enter", f_Machine_enter), ("Machine.leave", f_Machine_leave), ("Machine.fail", f_Machine_fail), ("Machine.take", f_Machine_take), ("Machine.close", f_Machine_close), ("Machine.step_back", f_Machine_step_back), ("Machine.step_choice", f_Machine_step_choice), ("Machine.step", f_Machine_step), ("run", f_run), ("match", f_match), ("_law_stream", f_l_stream), ("_law_take", f_l_take), ("law", f_law)]
theorem fns_tbl {f : String} {fn : Fn} (h : fnsT f = some fn) : (f, fn) ∈ tblT := by
  unfold fnsT at h
  split at h <;> first | (cases h; simp only [tblT, List.mem_cons, true_or, or_true]; done) | (cases h; unfold tblT; simp) | cases h
theorem meths_Writer (F : Facts K C1 C2) (m : String) : ∀ p ∈ tblT, "Writer" ++ "." ++ m = p.1 → ∃ a fd ps dvs, DefAt (GmT K C1 C2) KT GT p.1 p.2 a fd ps dvs ∧ Meth K C1 (Str.ofString m) a :=
    List.forall_mem_cons.2 ⟨fun e => (no_pre e (by decide +kernel)).elim,
    List.forall_mem_cons.2 ⟨fun e => (no_pre e (by decide +kernel)).elim,
    List.forall_mem_cons.2 ⟨fun e => (no_pre e (by decide +kernel)).elim,
    List.forall_mem_cons.2 ⟨fun e => (no_pre e (by decide +kernel)).elim,
    List.forall_mem_cons.2 ⟨fun e => (no_pre e (by decide +kernel)).elim,
    List.forall_mem_cons.2 ⟨fun e => (no_pre e (by decide +kernel)).elim,
    List.forall_mem_cons.2 ⟨fun e => (no_pre e (by decide +kernel)).elim,
    List.forall_mem_cons.2 ⟨fun e => (no_pre e (by decide +kernel)).elim,
    List.forall_mem_cons.2 ⟨fun e => (no_pre e (by decide +kernel)).elim,
    List.forall_mem_cons.2 ⟨fun e => (no_pre e (by decide +kernel)).elim,
    List.forall_mem_cons.2 ⟨fun e => (no_pre e (by decide +kernel)).elim,
    List.forall_mem_cons.2 ⟨fun e => (no_pre e (by decide +kernel)).elim,
    List.forall_mem_cons.2 ⟨fun e => (no_pre e (by decide +kernel)).elim,
    List.forall_mem_cons.2 ⟨fun e => (no_pre e (by decide +kernel)).elim,
    List.forall_mem_cons.2 ⟨fun e => by rw [pre_eq (m2 := "__init__") e rfl]; exact m_Writer_init F,
    List.forall_mem_cons.2 ⟨fun e => by rw [pre_eq (m2 := "put") e rfl]; exact m_Writer_put F,
    List.forall_mem_cons.2 ⟨fun e => by rw [pre_eq (m2 := "aim") e rfl]; exact m_Writer_aim F,
    List.forall_mem_cons.2 ⟨fun e => by rw [pre_eq (m2 := "here") e rfl]; exact m_Writer_here F,
    List.forall_mem_cons.2 ⟨fun e => (no_pre e (by decide +kernel)).elim,
    List.forall_mem_cons.2 ⟨fun e => (no_pre e (by decide +kernel)).elim,
    List.forall_mem_cons.2 ⟨fun e => (no_pre e (by decide +kernel)).elim,
    List.forall_mem_cons.2 ⟨fun e => (no_pre e (by decide +kernel)).elim,
    List.forall_mem_cons.2 ⟨fun e => (no_pre e (by decide +kernel)).elim,
    List.forall_mem_cons.2 ⟨fun e => (no_pre e (by decide +kernel)).elim,
    List.forall_mem_cons.2 ⟨fun e => (no_pre e (by decide +kernel)).elim,
    List.forall_mem_cons.2 ⟨fun e => (no_pre e (by decide +kernel)).elim,
    List.forall_mem_cons.2 ⟨fun e => (no_pre e (by decide +kernel)).elim,
    List.forall_mem_cons.2 ⟨fun e => (no_pre e (by decide +kernel)).elim,
    List.forall_mem_cons.2 ⟨fun e => (no_pre e (by decide +kernel)).elim,
    List.forall_mem_cons.2 ⟨fun e => (no_pre e (by decide +kernel)).elim,
    List.forall_mem_cons.2 ⟨fun e => (no_pre e (by decide +kernel)).elim,
    List.forall_mem_cons.2 ⟨fun e => (no_pre e (by decide +kernel)).elim,
    List.forall_mem_cons.2 ⟨fun e => (no_pre e (by decide +kernel)).elim,
    List.forall_mem_cons.2 ⟨fun e => (no_pre e (by decide +kernel)).elim,
    List.forall_mem_cons.2 ⟨fun e => (no_pre e (by decide +kernel)).elim,
    List.forall_mem_cons.2 ⟨fun e => (no_pre e (by decide +kernel)).elim,
    fun _ z => nomatch z⟩⟩⟩⟩⟩⟩⟩⟩⟩⟩⟩⟩⟩⟩⟩⟩⟩⟩⟩⟩⟩⟩⟩⟩⟩⟩⟩⟩⟩⟩⟩⟩⟩⟩⟩⟩
theorem meths_Machine (F : Facts K C1 C2) (m : String) : ∀ p ∈ tblT, "Machine" ++ "." ++ m = p.1 → ∃ a fd ps dvs, DefAt (GmT K C1 C2) KT GT p.1 p.2 a fd ps dvs ∧ Meth K C2 (Str.ofString m) a :=
    List.forall_mem_cons.2 ⟨fun e => (no_pre e (by decide +kernel)).elim,
    List.forall_mem_cons.2 ⟨fun e => (no_pre e (by decide +kernel)).elim,
    List.forall_mem_cons.2 ⟨fun e => (no_pre e (by decide +kernel)).elim,
    List.forall_mem_cons.2 ⟨fun e => (no_pre e (by decide +kernel)).elim,
    List.forall_mem_cons.2 ⟨fun e => (no_pre e (by decide +kernel)).elim,
    List.forall_mem_cons.2 ⟨fun e => (no_pre e (by decide +kernel)).elim,
    List.forall_mem_cons.2 ⟨fun e => (no_pre e (by decide +kernel)).elim,
    List.forall_mem_cons.2 ⟨fun e => (no_pre e (by decide +kernel)).elim,
    List.forall_mem_cons.2 ⟨fun e => (no_pre e (by decide +kernel)).elim,
    List.forall_mem_cons.2 ⟨fun e => (no_pre e (by decide +kernel)).elim,
    List.forall_mem_cons.2 ⟨fun e => (no_pre e (by decide +kernel)).elim,
    List.forall_mem_cons.2 ⟨fun e => (no_pre e (by decide +kernel)).elim,
    List.forall_mem_cons.2 ⟨fun e => (no_pre e (by decide +kernel)).elim,
    List.forall_mem_cons.2 ⟨fun e => (no_pre e (by decide +kernel)).elim,
    List.forall_mem_cons.2 ⟨fun e => (no_pre e (by decide +kernel)).elim,
    List.forall_mem_cons.2 ⟨fun e => (no_pre e (by decide +kernel)).elim,
    List.forall_mem_cons.2 ⟨fun e => (no_pre e (by decide +kernel)).elim,
    List.forall_mem_cons.2 ⟨fun e => (no_pre e (by decide +kernel)).elim,
    List.forall_mem_cons.2 ⟨fun e => (no_pre e (by decide +kernel)).elim,
    List.forall_mem_cons.2 ⟨fun e => (no_pre e (by decide +kernel)).elim,
    List.forall_mem_cons.2 ⟨fun e => (no_pre e (by decide +kernel)).elim,
    List.forall_mem_cons.2 ⟨fun e => (no_pre e (by decide +kernel)).elim,
    List.forall_mem_cons.2 ⟨fun e => by rw [pre_eq (m2 := "__init__") e rfl]; exact m_Machine_init F,
    List.forall_mem_cons.2 ⟨fun e => by rw [pre_eq (m2 := "enter") e rfl]; exact m_Machine_enter F,
    List.forall_mem_cons.2 ⟨fun e => by rw [pre_eq (m2 := "leave") e rfl]; exact m_Machine_leave F,
    List.forall_mem_cons.2 ⟨fun e => by rw [pre_eq (m2 := "fail") e rfl]; exact m_Machine_fail F,
    List.forall_mem_cons.2 ⟨fun e => by rw [pre_eq (m2 := "take") e rfl]; exact m_Machine_take F,
    List.forall_mem_cons.2 ⟨fun e => by rw [pre_eq (m2 := "close") e rfl]; exact m_Machine_close F,
    List.forall_mem_cons.2 ⟨fun e => by rw [pre_eq (m2 := "step_back") e rfl]; exact m_Machine_step_back F,
    List.forall_mem_cons.2 ⟨fun e => by rw [pre_eq (m2 := "step_choice") e rfl]; exact m_Machine_step_choice F,
    List.forall_mem_cons.2 ⟨fun e => by rw [pre_eq (m2 := "step") e rfl]; exact m_Machine_step F,
    List.forall_mem_cons.2 ⟨fun e => (no_pre e (by decide +kernel)).elim,
    List.forall_mem_cons.2 ⟨fun e => (no_pre e (by decide +kernel)).elim,
    List.forall_mem_cons.2 ⟨fun e => (no_pre e (by decide +kernel)).elim,
    List.forall_mem_cons.2 ⟨fun e => (no_pre e (by decide +kernel)).elim,
    List.forall_mem_cons.2 ⟨fun e => (no_pre e (by decide +kernel)).elim,
    fun _ z => nomatch z⟩⟩⟩⟩⟩⟩⟩⟩⟩⟩⟩⟩⟩⟩⟩⟩⟩⟩⟩⟩⟩⟩⟩⟩⟩⟩⟩⟩⟩⟩⟩⟩⟩⟩⟩⟩
theorem ca_inv {c : String} {C : Addr} (e : (GmT K C1 C2).ca c = some C) : c = "Writer" ∧ C = C1 ∨ c = "Machine" ∧ C = C2 := by
  unfold GmT at e
  dsimp only at e
  repeat' split at e
  all_goals first | (cases e; simp [*]; done) | cases e
theorem fns_all (F : Facts K C1 C2) (X : K.In h) (Gn : h.Ns mainGlobals mg) : ∀ p ∈ KT.fl, ∃ a fd ps dvs, DefAt (GmT K C1 C2) KT GT p.1 p.2 a fd ps dvs ∧ mg (Str.ofString p.1) = some (.ref a) :=
    List.forall_mem_cons.2 ⟨m_is_name F X Gn,
    List.forall_mem_cons.2 ⟨m_is_text F X Gn,
    List.forall_mem_cons.2 ⟨m_is_set F X Gn,
    List.forall_mem_cons.2 ⟨m_is_expression F X Gn,
    List.forall_mem_cons.2 ⟨m_is_grammar F X Gn,
    List.forall_mem_cons.2 ⟨m_checked F X Gn,
    List.forall_mem_cons.2 ⟨m_parts_of F X Gn,
    List.forall_mem_cons.2 ⟨m_calls_of F X Gn,
    List.forall_mem_cons.2 ⟨m_may_be_empty F X Gn,
    List.forall_mem_cons.2 ⟨m_empty_rules F X Gn,
    List.forall_mem_cons.2 ⟨m_first_calls F X Gn,
    List.forall_mem_cons.2 ⟨m_has_idle_star F X Gn,
    List.forall_mem_cons.2 ⟨m_reached F X Gn,
    List.forall_mem_cons.2 ⟨m_check F X Gn,
    List.forall_mem_cons.2 ⟨m_write_alt F X Gn,
    List.forall_mem_cons.2 ⟨m_write_one F X Gn,
    List.forall_mem_cons.2 ⟨m_write F X Gn,
    List.forall_mem_cons.2 ⟨m_compiled F X Gn,
    List.forall_mem_cons.2 ⟨m_run F X Gn,
    List.forall_mem_cons.2 ⟨m_match F X Gn,
    List.forall_mem_cons.2 ⟨m_l_stream F X Gn,
    List.forall_mem_cons.2 ⟨m_l_take F X Gn,
    List.forall_mem_cons.2 ⟨m_law F X Gn,
    fun _ z => nomatch z⟩⟩⟩⟩⟩⟩⟩⟩⟩⟩⟩⟩⟩⟩⟩⟩⟩⟩⟩⟩⟩⟩⟩
theorem cls_Writer (F : Facts K C1 C2) : ∀ f ∈ KT.fds, NoAttr K C1 (Str.ofString f) :=
    List.forall_mem_cons.2 ⟨F.n_Writer_done,
    List.forall_mem_cons.2 ⟨F.n_Writer_entered,
    List.forall_mem_cons.2 ⟨F.n_Writer_memory,
    List.forall_mem_cons.2 ⟨F.n_Writer_place,
    List.forall_mem_cons.2 ⟨F.n_Writer_row,
    List.forall_mem_cons.2 ⟨F.n_Writer_rows,
    List.forall_mem_cons.2 ⟨F.n_Writer_stack,
    List.forall_mem_cons.2 ⟨F.n_Writer_starts,
    List.forall_mem_cons.2 ⟨F.n_Writer_text,
    List.forall_mem_cons.2 ⟨F.n_Writer_told,
    List.forall_mem_cons.2 ⟨F.n_Writer_trees,
    fun _ z => nomatch z⟩⟩⟩⟩⟩⟩⟩⟩⟩⟩⟩
theorem cls_Machine (F : Facts K C1 C2) : ∀ f ∈ KT.fds, NoAttr K C2 (Str.ofString f) :=
    List.forall_mem_cons.2 ⟨F.n_Machine_done,
    List.forall_mem_cons.2 ⟨F.n_Machine_entered,
    List.forall_mem_cons.2 ⟨F.n_Machine_memory,
    List.forall_mem_cons.2 ⟨F.n_Machine_place,
    List.forall_mem_cons.2 ⟨F.n_Machine_row,
    List.forall_mem_cons.2 ⟨F.n_Machine_rows,
    List.forall_mem_cons.2 ⟨F.n_Machine_stack,
    List.forall_mem_cons.2 ⟨F.n_Machine_starts,
    List.forall_mem_cons.2 ⟨F.n_Machine_text,
    List.forall_mem_cons.2 ⟨F.n_Machine_told,
    List.forall_mem_cons.2 ⟨F.n_Machine_trees,
    fun _ z => nomatch z⟩⟩⟩⟩⟩⟩⟩⟩⟩⟩⟩
theorem bl_all (F : Facts K C1 C2) (X : K.In h) (Gn : h.Ns mainGlobals mg) : ∀ x ∈ KT.bl, mg (Str.ofString x) = none :=
    List.forall_mem_cons.2 ⟨PySem.W.mg_none_of X Gn F.b_len,
    List.forall_mem_cons.2 ⟨PySem.W.mg_none_of X Gn F.b_list,
    List.forall_mem_cons.2 ⟨PySem.W.mg_none_of X Gn F.b_tuple,
    List.forall_mem_cons.2 ⟨PySem.W.mg_none_of X Gn F.b_all,
    List.forall_mem_cons.2 ⟨PySem.W.mg_none_of X Gn F.b_any,
    List.forall_mem_cons.2 ⟨PySem.W.mg_none_of X Gn F.b_sum,
    List.forall_mem_cons.2 ⟨PySem.W.mg_none_of X Gn F.b_max,
    List.forall_mem_cons.2 ⟨PySem.W.mg_none_of X Gn F.b_int,
    List.forall_mem_cons.2 ⟨PySem.W.mg_none_of X Gn F.b_abs,
    List.forall_mem_cons.2 ⟨PySem.W.mg_none_of X Gn F.b_ord,
    List.forall_mem_cons.2 ⟨PySem.W.mg_none_of X Gn F.b_min,
    List.forall_mem_cons.2 ⟨PySem.W.mg_none_of X Gn F.b_isinstance,
    List.forall_mem_cons.2 ⟨PySem.W.mg_none_of X Gn F.b_str,
    List.forall_mem_cons.2 ⟨PySem.W.mg_none_of X Gn F.b_bool,
    List.forall_mem_cons.2 ⟨PySem.W.mg_none_of X Gn F.b_range,
    fun _ z => nomatch z⟩⟩⟩⟩⟩⟩⟩⟩⟩⟩⟩⟩⟩⟩⟩
theorem gl_all (F : Facts K C1 C2) (X : K.In h) (Gn : h.Ns mainGlobals mg) : ∀ x ∈ KT.gl, ∀ d, glbT x = some d → ∃ v u, mg (Str.ofString x) = some u ∧ RelV v u ∧ ∀ H, RepD (GmT K C1 C2) H v d :=
    List.forall_mem_cons.2 ⟨fun d e => by cases e; exact F.g_CHARS.out X Gn ⟨by decide +kernel, by decide +kernel⟩,
    List.forall_mem_cons.2 ⟨fun d e => by cases e; exact F.g_LETTERS.out X Gn ⟨by decide +kernel, by decide +kernel⟩,
    List.forall_mem_cons.2 ⟨fun d e => by cases e; exact F.g_MAX_PARTS.out X Gn,
    List.forall_mem_cons.2 ⟨fun d e => by cases e; exact F.g_MAX_RULES.out X Gn,
    List.forall_mem_cons.2 ⟨fun d e => by cases e; exact F.g_MAX_TEXT.out X Gn,
    fun _ z => nomatch z⟩⟩⟩⟩⟩
theorem gt_all (F : Facts K C1 C2) (X : K.In h) (Gn : h.Ns mainGlobals mg) : ∀ x ∈ KT.gt, ∀ d, glbT x = some d → ∃ a vs ds, d = .tup ds ∧ mg (Str.ofString x) = some (.ref a) ∧ ∀ H, SqT K H a vs ∧ RepDs (GmT K C1 C2) H vs ds :=
    List.forall_mem_cons.2 ⟨fun d e => by cases e; exact FTup.out (g := GmT K C1 C2) F.g_LONE X Gn (by unfold okS; decide +kernel),
    List.forall_mem_cons.2 ⟨fun d e => by cases e; exact FTup.out (g := GmT K C1 C2) F.g_ONES X Gn (by unfold okS; decide +kernel),
    fun _ z => nomatch z⟩⟩
theorem link (F : Facts K C1 C2) (X : K.In h) (Gn : h.Ns mainGlobals mg) : Link (GmT K C1 C2) mg KT GT where
  cls := fun c C e => by
    rcases ca_inv e with ⟨_, rfl⟩ | ⟨_, rfl⟩
    · exact ⟨⟨F.k_Writer.pg, F.k_Writer.hd, F.k_Writer.po, F.k_Writer.sa⟩, cls_Writer F⟩
    · exact ⟨⟨F.k_Machine.pg, F.k_Machine.hd, F.k_Machine.po, F.k_Machine.sa⟩, cls_Machine F⟩
  noX := fun _ _ _ z => z
  bl := bl_all F X Gn
  fns := fun f fn e => fns_all F X Gn (f, fn) (mem_lookup e)
  meths := fun m c C fn e1 e2 => by
    rcases ca_inv e1 with ⟨rfl, rfl⟩ | ⟨rfl, rfl⟩
    · exact meths_Writer F m _ (fns_tbl e2) rfl
    · exact meths_Machine F m _ (fns_tbl e2) rfl
  glb := fun x d hx e => gl_all F X Gn x hx d e
  gtp := fun x d hx e => gt_all F X Gn x hx d e
  news := List.forall_mem_cons.2 ⟨by
    obtain ⟨a, fd, ps, dvs, d, e⟩ := m_Writer_init F
    exact ⟨C1, _, a, fd, ps, dvs, rfl, d, ⟨F.k_Writer.mks, e.at_, e.fn, F.k_Writer.kc⟩, PySem.W.mg_of X Gn F.k_Writer.at_⟩,
    List.forall_mem_cons.2 ⟨by
    obtain ⟨a, fd, ps, dvs, d, e⟩ := m_Machine_init F
    exact ⟨C2, _, a, fd, ps, dvs, rfl, d, ⟨F.k_Machine.mks, e.at_, e.fn, F.k_Machine.kc⟩, PySem.W.mg_of X Gn F.k_Machine.at_⟩,
    fun _ z => nomatch z⟩⟩
end
theorem all_mk {l : PySem.W.OpenLaw} {w : World} {K : PySem.W.Frag} {h : Heap} {mg : Str → Option Value} {fa C1 C2 : Addr} {n : Nat} (X : K.In h) (Gn : h.Ns mainGlobals mg) (hfa : mg "law" = some (.ref fa)) (P : LawTrue GT n) (F : Facts K C1 C2) :
    ∃ fd : FuncData, (∀ (s : Shared) (v : Value), BindsTo s fd ⟨[v], []⟩ [("script", v)]) ∧ ∀ base : Heap, K.In base → base.Ns mainGlobals mg → FnOk l.prog w K mg base (L2.CX l.prog w) (2 * n) fa fd ["script"] (spLaw K) := by
  obtain ⟨f, oc, kV, dc, pm, cd, ct, od, an, sl, h1, h2, h3, h4⟩ := F.d_law
  have e := hfa.symm.trans (PySem.W.mg_of X Gn h1)
  cases e
  have F0 : FunD K "law" "law" (defArgs s_law) (defBody s_law) (defScope s_law) [] [] fa (PySem.W.fnOf "law" "law" (defArgs s_law) (defBody s_law) (defScope s_law) .none kV dc pm an cd ct) := ⟨⟨oc, od, .none, kV, dc, pm, an, cd, ct, sl, rfl, h2, h3, .inl ⟨rfl, rfl⟩, .inl rfl⟩, h4⟩
  exact ⟨_, fun s v => .of_eq rfl, fun base _ _ => law_ok (wd := ⟨l.prog, w, mg, base⟩) (link F X Gn) (mk0 (g := GmT K C1 C2) (K := KT) (G := GT) (name := "law") (fn := f_law) (ps := ["script"]) F0 rfl rfl rfl rfl (by decide +kernel) (F0.bindsN fun _ _ _ _ _ _ us hl => match us, hl with | [_], _ => rfl) c_law) rfl P⟩
end Gr

end
set_option Elab.async false
set_option linter.all false
set_option maxRecDepth 100000
open PySem PySem.W PyProof.Rows
set_option maxRecDepth 100000 in
set_option maxHeartbeats 0 in
theorem PySem.Challenge.cw_graft_k25_long_texts_holds : PySem.Challenge.rw_graft_k25_long_texts.Holds := by
  w_on; o_law; k_head; (case hw => w_witness2)
  k_fill
  refine Gr.walk (l := PySem.Challenge.rw_graft_k25_long_texts) (k := 2 * 40) rfl rfl ⟨rfl, by decide, by decide⟩ (fun w h Y => PySem.W.kIn_of Y) ?F
  case F =>
    intro w mg fa h KX G hmg
    refine' Gr.all_mk (n := 40) KX G hmg Gr.lawTrue (Gr.Facts.mk (Gr.FC.mk ?h1 ?h2 ?h3 ?h4 ?h5 ?h6 ?h7) (Gr.FC.mk ?h8 ?h9 ?h10 ?h11 ?h12 ?h13 ?h14) (Gr.nat_in ?h15) (Gr.nat_in ?h16) (Gr.nat_in ?h17) (Gr.nat_in ?h18) (Gr.nat_in ?h19) (Gr.nat_in ?h20) (Gr.nat_in ?h21) (Gr.nat_in ?h22) (Gr.nat_in ?h23) (Gr.nat_in ?h24) (Gr.nat_in ?h25) (Gr.nat_in ?h26) (Gr.nat_in ?h27) (Gr.nat_in ?h28) (Gr.nat_in ?h29) (Gr.nat_in ?h30) (Gr.nat_in ?h31) (Gr.nat_in ?h32) (Gr.nat_in ?h33) (Gr.nat_in ?h34) (Gr.nat_in ?h35) (Gr.nat_in ?h36) (Exists.intro _ (Gr.FF.in ?h37 ?h38 ?h39 ?h40)) (Exists.intro _ (Gr.FF.in ?h41 ?h42 ?h43 ?h44)) (Exists.intro _ (Gr.FF.in ?h45 ?h46 ?h47 ?h48)) (Exists.intro _ (Gr.FFD.in ?h49 ?h50 ?h51 ?h52 ?h53)) (Exists.intro _ (Gr.FF.in ?h54 ?h55 ?h56 ?h57)) (Exists.intro _ (Gr.FF.in ?h58 ?h59 ?h60 ?h61)) (Exists.intro _ (Gr.FF.in ?h62 ?h63 ?h64 ?h65)) (Exists.intro _ (Gr.FF.in ?h66 ?h67 ?h68 ?h69)) (Exists.intro _ (Gr.FF.in ?h70 ?h71 ?h72 ?h73)) (Exists.intro _ (Gr.FF.in ?h74 ?h75 ?h76 ?h77)) (Exists.intro _ (Gr.FF.in ?h78 ?h79 ?h80 ?h81)) (Exists.intro _ (Gr.FF.in ?h82 ?h83 ?h84 ?h85)) (Exists.intro _ (Gr.FF.in ?h86 ?h87 ?h88 ?h89)) (Exists.intro _ (Gr.FF.in ?h90 ?h91 ?h92 ?h93)) (Exists.intro _ (Gr.FM.in ?h94 ?h95 ?h96 ?h97 ?h98)) (Exists.intro _ (Gr.FM.in ?h99 ?h100 ?h101 ?h102 ?h103)) (Exists.intro _ (Gr.FM.in ?h104 ?h105 ?h106 ?h107 ?h108)) (Exists.intro _ (Gr.FM.in ?h109 ?h110 ?h111 ?h112 ?h113)) (Exists.intro _ (Gr.FF.in ?h114 ?h115 ?h116 ?h117)) (Exists.intro _ (Gr.FF.in ?h118 ?h119 ?h120 ?h121)) (Exists.intro _ (Gr.FF.in ?h122 ?h123 ?h124 ?h125)) (Exists.intro _ (Gr.FF.in ?h126 ?h127 ?h128 ?h129)) (Exists.intro _ (Gr.FM.in ?h130 ?h131 ?h132 ?h133 ?h134)) (Exists.intro _ (Gr.FM.in ?h135 ?h136 ?h137 ?h138 ?h139)) (Exists.intro _ (Gr.FM.in ?h140 ?h141 ?h142 ?h143 ?h144)) (Exists.intro _ (Gr.FM.in ?h145 ?h146 ?h147 ?h148 ?h149)) (Exists.intro _ (Gr.FM.in ?h150 ?h151 ?h152 ?h153 ?h154)) (Exists.intro _ (Gr.FM.in ?h155 ?h156 ?h157 ?h158 ?h159)) (Exists.intro _ (Gr.FM.in ?h160 ?h161 ?h162 ?h163 ?h164)) (Exists.intro _ (Gr.FM.in ?h165 ?h166 ?h167 ?h168 ?h169)) (Exists.intro _ (Gr.FM.in ?h170 ?h171 ?h172 ?h173 ?h174)) (Exists.intro _ (Gr.FF.in ?h175 ?h176 ?h177 ?h178)) (Exists.intro _ (Gr.FFD.in ?h179 ?h180 ?h181 ?h182 ?h183)) (Exists.intro _ (Gr.FF.in ?h184 ?h185 ?h186 ?h187)) (Exists.intro _ (Gr.FF.in ?h188 ?h189 ?h190 ?h191)) (Exists.intro _ (Gr.FF.in ?h192 ?h193 ?h194 ?h195)) ?h196 ?h197 ?h198 ?h199 ?h200 ?h201 ?h202 ?h203 ?h204 ?h205 ?h206 ?h207 ?h208 ?h209 ?h210 (Gr.FStr.in ?h211 ?h212) (Gr.FStr.in ?h213 ?h214) (Gr.FInt.in ?h215) (Gr.FInt.in ?h216) (Gr.FInt.in ?h217) (Gr.FTup.in ?h218 ?h219 ?h220 ?h221) (Gr.FTup.in ?h222 ?h223 ?h224 ?h225))
    (case h1 => k_is)
    (case h2 => k_is)
    (case h3 => k_is)
    (case h4 => k_is)
    (case h5 => k_is)
    (case h6 => k_is)
    (case h7 => k_is)
    (case h8 => k_is)
    (case h9 => k_is)
    (case h10 => k_is)
    (case h11 => k_is)
    (case h12 => k_is)
    (case h13 => k_is)
    (case h14 => k_is)
    (case h15 => k_is)
    (case h16 => k_is)
    (case h17 => k_is)
    (case h18 => k_is)
    (case h19 => k_is)
    (case h20 => k_is)
    (case h21 => k_is)
    (case h22 => k_is)
    (case h23 => k_is)
    (case h24 => k_is)
    (case h25 => k_is)
    (case h26 => k_is)
    (case h27 => k_is)
    (case h28 => k_is)
    (case h29 => k_is)
    (case h30 => k_is)
    (case h31 => k_is)
    (case h32 => k_is)
    (case h33 => k_is)
    (case h34 => k_is)
    (case h35 => k_is)
    (case h36 => k_is)
    (case h37 => k_is)
    (case h38 => k_is)
    (case h39 => k_is)
    (case h40 => k_is)
    (case h41 => k_is)
    (case h42 => k_is)
    (case h43 => k_is)
    (case h44 => k_is)
    (case h45 => k_is)
    (case h46 => k_is)
    (case h47 => k_is)
    (case h48 => k_is)
    (case h49 => k_is)
    (case h50 => k_is)
    (case h51 => k_is)
    (case h52 => k_is)
    (case h53 => k_is)
    (case h54 => k_is)
    (case h55 => k_is)
    (case h56 => k_is)
    (case h57 => k_is)
    (case h58 => k_is)
    (case h59 => k_is)
    (case h60 => k_is)
    (case h61 => k_is)
    (case h62 => k_is)
    (case h63 => k_is)
    (case h64 => k_is)
    (case h65 => k_is)
    (case h66 => k_is)
    (case h67 => k_is)
    (case h68 => k_is)
    (case h69 => k_is)
    (case h70 => k_is)
    (case h71 => k_is)
    (case h72 => k_is)
    (case h73 => k_is)
    (case h74 => k_is)
    (case h75 => k_is)
    (case h76 => k_is)
    (case h77 => k_is)
    (case h78 => k_is)
    (case h79 => k_is)
    (case h80 => k_is)
    (case h81 => k_is)
    (case h82 => k_is)
    (case h83 => k_is)
    (case h84 => k_is)
    (case h85 => k_is)
    (case h86 => k_is)
    (case h87 => k_is)
    (case h88 => k_is)
    (case h89 => k_is)
    (case h90 => k_is)
    (case h91 => k_is)
    (case h92 => k_is)
    (case h93 => k_is)
    (case h94 => k_is)
    (case h95 => k_is)
    (case h96 => k_is)
    (case h97 => k_is)
    (case h98 => k_is)
    (case h99 => k_is)
    (case h100 => k_is)
    (case h101 => k_is)
    (case h102 => k_is)
    (case h103 => k_is)
    (case h104 => k_is)
    (case h105 => k_is)
    (case h106 => k_is)
    (case h107 => k_is)
    (case h108 => k_is)
    (case h109 => k_is)
    (case h110 => k_is)
    (case h111 => k_is)
    (case h112 => k_is)
    (case h113 => k_is)
    (case h114 => k_is)
    (case h115 => k_is)
    (case h116 => k_is)
    (case h117 => k_is)
    (case h118 => k_is)
    (case h119 => k_is)
    (case h120 => k_is)
    (case h121 => k_is)
    (case h122 => k_is)
    (case h123 => k_is)
    (case h124 => k_is)
    (case h125 => k_is)
    (case h126 => k_is)
    (case h127 => k_is)
    (case h128 => k_is)
    (case h129 => k_is)
    (case h130 => k_is)
    (case h131 => k_is)
    (case h132 => k_is)
    (case h133 => k_is)
    (case h134 => k_is)
    (case h135 => k_is)
    (case h136 => k_is)
    (case h137 => k_is)
    (case h138 => k_is)
    (case h139 => k_is)
    (case h140 => k_is)
    (case h141 => k_is)
    (case h142 => k_is)
    (case h143 => k_is)
    (case h144 => k_is)
    (case h145 => k_is)
    (case h146 => k_is)
    (case h147 => k_is)
    (case h148 => k_is)
    (case h149 => k_is)
    (case h150 => k_is)
    (case h151 => k_is)
    (case h152 => k_is)
    (case h153 => k_is)
    (case h154 => k_is)
    (case h155 => k_is)
    (case h156 => k_is)
    (case h157 => k_is)
    (case h158 => k_is)
    (case h159 => k_is)
    (case h160 => k_is)
    (case h161 => k_is)
    (case h162 => k_is)
    (case h163 => k_is)
    (case h164 => k_is)
    (case h165 => k_is)
    (case h166 => k_is)
    (case h167 => k_is)
    (case h168 => k_is)
    (case h169 => k_is)
    (case h170 => k_is)
    (case h171 => k_is)
    (case h172 => k_is)
    (case h173 => k_is)
    (case h174 => k_is)
    (case h175 => k_is)
    (case h176 => k_is)
    (case h177 => k_is)
    (case h178 => k_is)
    (case h179 => k_is)
    (case h180 => k_is)
    (case h181 => k_is)
    (case h182 => k_is)
    (case h183 => k_is)
    (case h184 => k_is)
    (case h185 => k_is)
    (case h186 => k_is)
    (case h187 => k_is)
    (case h188 => k_is)
    (case h189 => k_is)
    (case h190 => k_is)
    (case h191 => k_is)
    (case h192 => k_is)
    (case h193 => k_is)
    (case h194 => k_is)
    (case h195 => k_is)
    (case h196 => k_is)
    (case h197 => k_is)
    (case h198 => k_is)
    (case h199 => k_is)
    (case h200 => k_is)
    (case h201 => k_is)
    (case h202 => k_is)
    (case h203 => k_is)
    (case h204 => k_is)
    (case h205 => k_is)
    (case h206 => k_is)
    (case h207 => k_is)
    (case h208 => k_is)
    (case h209 => k_is)
    (case h210 => k_is)
    (case h211 => k_is)
    (case h212 => decide +kernel)
    (case h213 => k_is)
    (case h214 => decide +kernel)
    (case h215 => k_is)
    (case h216 => k_is)
    (case h217 => k_is)
    (case h218 => k_is)
    (case h219 => k_is)
    (case h220 => decide +kernel)
    (case h221 => decide +kernel)
    (case h222 => k_is)
    (case h223 => k_is)
    (case h224 => decide +kernel)
    (case h225 => decide +kernel)
