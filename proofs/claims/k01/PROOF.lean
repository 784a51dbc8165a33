import PyProof.Rows.All
import HandS.ForMost
import HandS.Wide
import HandS.TupAny
import HandS.TupMul
import HandS.TupLe
import HandS.Style
import HandS.Deep
import HandS.Gcd
import HandS.IsInst
import HandS.Conv
import HandS.More
import HandS.Flow
import HandS.Exc
import HandS.Walk
import HandS.Zip
import HandS.NoneIn
import HandS.Comp
import HandS.ExcInit
import HandS.ExcField
import HandS.ClsMeth
import HandS.Defaults
import HandS.HeadHook2
import KE.KStateDown
import HandS.Ends
import HandS.EndBits
import HandS.HeadEnd
import HandS.HeadHook1
import HandS.Head0
import HandS.Head1
import HandS.Head2
import HandS.Head3
import PySem.Challenge.RW_polytopebench_k01_judged_made
set_option Elab.async false
set_option linter.all false
set_option maxRecDepth 100000
/-! Plain data, the store, the small language and its evaluator. -/
namespace Pv
open PySem

/-- data: what a value stands for. ref n: the n-th object of the store -/
inductive D where
  | non | bl (b : Bool) | int (i : Int) | str (x : Str)
  | tup (xs : List D) | lst (xs : List D) | dct (ks : List L2.Key) (vs : List D)
  | ref (n : Nat)
instance : Inhabited D := ⟨.non⟩

mutual
/-- no object of the store is named from b on -/
def D.und (b : Nat) : D → Bool
  | .non => true | .bl _ => true | .int _ => true | .str _ => true
  | .tup xs => D.undAll b xs
  | .lst xs => D.undAll b xs
  | .dct _ vs => D.undAll b vs
  | .ref n => decide (n < b)
def D.undAll (b : Nat) : List D → Bool
  | [] => true
  | x :: r => D.und b x && D.undAll b r
end

/-- an object that may change -/
inductive O where
  | lst (xs : List D) | dct (ks : List L2.Key) (vs : List D)
  /-- a dict that is walked -/
  | lck (ks : List L2.Key) (vs : List D)
abbrev Store := List O

structure Exn where
  cls : Str
  fs : List (Str × D)

inductive Res (α : Type) where
  | ok (a : α) (S : Store) | exc (x : Exn) (S : Store) | bad

namespace Res
variable {α β γ : Type}
def bind (r : Res α) (f : α → Store → Res β) : Res β :=
  match r with
  | .ok a S => f a S
  | .exc x S => .exc x S
  | .bad => .bad
@[simp] theorem bind_ok (a : α) (S : Store) (f : α → Store → Res β) : (Res.ok a S).bind f = f a S := rfl
@[simp] theorem bind_exc (x : Exn) (S : Store) (f : α → Store → Res β) : (Res.exc x S : Res α).bind f = .exc x S := rfl
@[simp] theorem bind_bad (f : α → Store → Res β) : (Res.bad : Res α).bind f = .bad := rfl
theorem bind_assoc (r : Res α) (f : α → Store → Res β) (g : β → Store → Res γ) : (r.bind f).bind g = r.bind fun a S => (f a S).bind g := by
  cases r <;> rfl
/-- nothing is raised here -/
def calm (r : Res α) : Res α :=
  match r with
  | .exc _ _ => .bad
  | r => r
@[simp] theorem calm_ok (a : α) (S : Store) : (Res.ok a S).calm = .ok a S := rfl
end Res
def lift {α : Type} (S : Store) : Option α → Res α
  | some a => .ok a S
  | none => .bad
@[simp] theorem lift_some {α : Type} (S : Store) (a : α) : lift S (some a) = .ok a S := rfl
@[simp] theorem lift_none {α : Type} (S : Store) : lift S (none : Option α) = .bad := rfl

/-! ### operations on data -/
abbrev LIM : Nat := 1000000
/-- the items of a list -/
def lstOf (S : Store) : D → Option (List D)
  | .lst xs => some xs
  | .ref n => match S[n]? with
    | some (.lst xs) => some xs
    | _ => none
  | _ => none
def seqOf (S : Store) : D → Option (List D)
  | .tup xs => some xs
  | d => lstOf S d
def dctOf (S : Store) : D → Option (List L2.Key × List D)
  | .dct ks vs => some (ks, vs)
  | .ref n => match S[n]? with
    | some (.dct ks vs) => some (ks, vs)
    | some (.lck ks vs) => some (ks, vs)
    | _ => none
  | _ => none
def truthy (S : Store) : D → Option Bool
  | .non => some false
  | .bl b => some b
  | .int i => some (i != 0)
  | .str x => if x.length ≤ LIM then some (x.length != 0) else none
  | .tup xs => some (!xs.isEmpty)
  | .lst xs => some (!xs.isEmpty)
  | .dct ks _ => some (!ks.isEmpty)
  | .ref n => match S[n]? with
    | some (.lst xs) => some (!xs.isEmpty)
    | some (.dct ks _) => some (!ks.isEmpty)
    | _ => none
def lenOf (S : Store) : D → Option Int
  | .str x => if x.length ≤ LIM then some (x.length : Int) else none
  | .tup xs => some (xs.length : Int)
  | .lst xs => some (xs.length : Int)
  | .dct ks _ => some (ks.length : Int)
  | .ref n => match S[n]? with
    | some (.lst xs) => some (xs.length : Int)
    | some (.dct ks _) => some (ks.length : Int)
    | _ => none
  | _ => none
/-- the place of an index -/
def ixOf (n : Nat) (i : Int) : Option Nat := if 0 ≤ i then (if i < n then some i.toNat else none) else if -(n : Int) ≤ i then some (i + n).toNat else none
def atOf {α : Type} (xs : List α) (i : Int) : Option α := (ixOf xs.length i).bind fun j => xs[j]?
def cutOf {α : Type} (xs : List α) (lo hi : Option Int) : List α := (xs.drop (HT.sIx xs.length 0 lo)).take (HT.sIx xs.length xs.length hi - HT.sIx xs.length 0 lo)

mutual
/-- the data of a comparison at any depth -/
def D.toP : D → Option PyData
  | .non => some .none
  | .bl b => some (.bool b)
  | .int i => some (.int i)
  | .str x => some (.str x)
  | .tup xs => (D.toPs xs).map .tuple
  | .lst xs => (D.toPs xs).map .list
  | .dct _ _ => none
  | .ref _ => none
def D.toPs : List D → Option (List PyData)
  | [] => some []
  | x :: r => match D.toP x, D.toPs r with
    | some d, some ds => some (d :: ds)
    | _, _ => none
end
/-- a list that changes is read once -/
def flatOf (S : Store) (d : D) : D :=
  match d with
  | .ref n => match S[n]? with
    | some (.lst xs) => .lst xs
    | _ => d
  | d => d
def eqOf (S : Store) (x y : D) : Option Bool :=
  match x, y with
  | .int i, .int j => some (i == j)
  | .str a, .str b => some (decide (a = b))
  | .bl a, .bl b => some (a == b)
  | x, y => match (flatOf S x).toP, (flatOf S y).toP with
    | some p, some q => if SeqAt.shaped p && SeqAt.shaped q then some (PyData.eqv p q) else none
    | _, _ => none
def intsOf : List D → Option (List Int)
  | [] => some []
  | .int i :: r => (intsOf r).map (i :: ·)
  | _ => none
def boolsOf : List D → Option (List Bool)
  | [] => some []
  | .bl b :: r => (boolsOf r).map (b :: ·)
  | _ => none
def ltOf : D → D → Option Bool
  | .int i, .int j => some (decide (i < j))
  | .tup xs, .tup ys => match intsOf xs, intsOf ys with
    | some ns, some ms => some (HT.lexLt ns ms)
    | _, _ => none
  | _, _ => none
def leOf : D → D → Option Bool
  | .int i, .int j => some (decide (i ≤ j))
  | _, _ => none
def gtOf : D → D → Option Bool
  | .int i, .int j => some (decide (j < i))
  | _, _ => none
/-- is: None, truth values -/
def isOf : D → D → Option Bool
  | .bl a, .bl b => some (decide (a = b))
  | .non, .non => some true
  | .bl _, .non => some false
  | .int _, .non => some false
  | .str _, .non => some false
  | .tup _, .non => some false
  | .lst _, .non => some false
  | .dct _ _, .non => some false
  | .ref _, .non => some false
  | _, _ => none
def keyOf : D → Option L2.Key
  | .int i => some (.inl i)
  | .str x => some (.inr x)
  | _ => none
/-- x in a sequence -/
def inSeq (S : Store) (x : D) (ys : List D) : Option Bool :=
  match (flatOf S x).toP, D.toPs ys with
  | some p, some ps => if SeqAt.shaped p && SeqAt.shaped (.list ps) then some (ps.any fun z => PyData.eqv z p) else none
  | _, _ => none
def valOf (k : L2.Key) : List L2.Key → List D → Option D
  | j :: ks, v :: vs => if j = k then some v else valOf k ks vs
  | _, _ => none
def putV (k : L2.Key) (v : D) : List L2.Key → List D → List D
  | j :: ks, w :: vs => (if j = k then v else w) :: putV k v ks vs
  | _, vs => vs
def putOf (k : L2.Key) (v : D) (ks : List L2.Key) (vs : List D) : List L2.Key × List D :=
  if (valOf k ks vs).isSome then (ks, putV k v ks vs) else (ks ++ [k], vs ++ [v])
def bitsOk (i j : Int) : Bool := decide (i.natAbs.log2 + j.natAbs.log2 < 1000000)

inductive Bin where
  | add | sub | mul | fdiv | mod | pow
inductive Cmp where
  | eq | ne | lt | le | gt | ge | isC | isNotC | inC | notInC
/-- a operator b, without making an object -/
def binV : Bin → D → D → Option D
  | .add, .int i, .int j => some (.int (i + j))
  | .add, .str x, .str y => if x.length + y.length ≤ LIM then some (.str (x ++ y)) else none
  | .add, .tup xs, .tup ys => if xs.length + ys.length ≤ LIM then some (.tup (xs ++ ys)) else none
  | .sub, .int i, .int j => some (.int (i - j))
  | .mul, .int i, .int j => if bitsOk i j then some (.int (i * j)) else none
  | .mul, .tup xs, .int k => if 2 ≤ k ∧ k ≤ 1000 ∧ xs.length ≤ 1000 ∧ xs ≠ [] then some (.tup (List.replicate k.toNat xs).flatten) else none
  | .fdiv, .int i, .int j => if j ≠ 0 ∧ j.natAbs.log2 < 9000 then some (.int (i.fdiv j)) else none
  | .mod, .int i, .int j => if j ≠ 0 then some (.int (i.fmod j)) else none
  | .pow, .int i, .int j => if 0 ≤ j ∧ j ≤ 1000000 ∧ i.natAbs < 2 ^ 64 then some (.int (i ^ j.toNat)) else none
  | _, _, _ => none
/-- a list made by an operator -/
def binL (S : Store) : Bin → D → D → Option (List D)
  | .add, x, y => match lstOf S x, lstOf S y with
    | some xs, some ys => if xs.length + ys.length ≤ LIM then some (xs ++ ys) else none
    | _, _ => none
  | .mul, x, .int k => match lstOf S x with
    | some xs => if k ≤ 1000 ∧ xs.length ≤ 1000 ∧ -1000 ≤ k then some (List.replicate k.toNat xs).flatten else none
    | none => none
  | _, _, _ => none
/-- a list handed out: as a value, or as an object of the store -/
def newL (md : Bool) (S : Store) (xs : List D) : Res D := if md then .ok (.ref S.length) (S ++ [.lst xs]) else .ok (.lst xs) S
def newD (md : Bool) (S : Store) (ks : List L2.Key) (vs : List D) : Res D := if md then .ok (.ref S.length) (S ++ [.dct ks vs]) else .ok (.dct ks vs) S
def binOf (md : Bool) (S : Store) (o : Bin) (x y : D) : Res D :=
  match binV o x y with
  | some d => .ok d S
  | none => match binL S o x y with
    | some xs => newL md S xs
    | none => .bad
/-- x in a sequence, in a dict -/
def inOf (S : Store) (x y : D) : Option Bool :=
  match seqOf S y with
  | some ys => inSeq S x ys
  | none => match keyOf x, dctOf S y with
    | some k, some (ks, vs) => some (valOf k ks vs).isSome
    | _, _ => none
def cmpOf (S : Store) : Cmp → D → D → Option Bool
  | .eq, x, y => eqOf S x y
  | .ne, x, y => (eqOf S x y).map (!·)
  | .lt, x, y => ltOf x y
  | .le, x, y => leOf x y
  | .gt, x, y => gtOf x y
  | .ge, x, y => leOf y x
  | .isC, x, y => isOf x y
  | .isNotC, x, y => (isOf x y).map (!·)
  | .inC, x, y => inOf S x y
  | .notInC, x, y => (inOf S x y).map (!·)
inductive Ty where
  | int | bool | str | tuple | list | dict
  deriving DecidableEq
/-- the class of a value -/
def tyOf (S : Store) : D → Option Ty
  | .bl _ => some .bool
  | .int _ => some .int
  | .str _ => some .str
  | .tup _ => some .tuple
  | .lst _ => some .list
  | .dct _ _ => some .dict
  | .ref n => match S[n]? with
    | some (.lst _) => some .list
    | some (.dct _ _) => some .dict
    | _ => none
  | .non => none
def instOf (S : Store) (x : D) (ts : List Ty) : Option Bool :=
  match x with
  | .non => some false
  | x => (tyOf S x).map fun t => ts.any fun u => decide (t = u) || (decide (t = .bool) && decide (u = .int))
inductive Bif where
  | len | abs | int | max2 | min2 | sum | any | all | tuple | list | dict | gcd | maxL | minL
def maxOf : List Int → Option Int
  | [] => none
  | [a] => some a
  | a :: r => (maxOf r).map fun m => if m ≤ a then a else m
def minOf : List Int → Option Int
  | [] => none
  | [a] => some a
  | a :: r => (minOf r).map fun m => if a ≤ m then a else m
/-- a built-in that makes no object -/
def bifV (S : Store) : Bif → List D → Option D
  | .len, [x] => (lenOf S x).map .int
  | .abs, [.int i] => some (.int (if i < 0 then -i else i))
  | .int, [.int i] => some (.int i)
  | .int, [.bl b] => some (.int (if b then 1 else 0))
  | .max2, [.int i, .int j] => some (.int (if j > i then j else i))
  | .min2, [.int i, .int j] => some (.int (if j < i then j else i))
  | .gcd, [.int i, .int j] => some (.int (Nat.gcd i.natAbs j.natAbs : Nat))
  | .sum, [x] => (lstOf S x).bind fun xs => (intsOf xs).map fun ns => .int ns.sum
  | .maxL, [x] => (lstOf S x).bind fun xs => (intsOf xs).bind fun ns => (maxOf ns).map .int
  | .minL, [x] => (lstOf S x).bind fun xs => (intsOf xs).bind fun ns => (minOf ns).map .int
  | .any, [x] => (lstOf S x).bind fun xs => (boolsOf xs).map fun bs => .bl (bs.any id)
  | .all, [x] => (lstOf S x).bind fun xs => (boolsOf xs).map fun bs => .bl (bs.all id)
  | .tuple, [x] => (seqOf S x).map .tup
  | _, _ => none
def bifOf (md : Bool) (S : Store) (b : Bif) (xs : List D) : Res D :=
  match b, xs with
  | .list, [x] => match seqOf S x with
    | some ys => newL md S ys
    | none => .bad
  | .dict, [x] => match dctOf S x with
    | some (ks, vs) => newD md S ks vs
    | none => .bad
  | b, xs => lift S (bifV S b xs)

/-- x[k] -/
def ixF (x k : D) (S : Store) : Res D :=
  match k with
  | .int n => (match seqOf S x with
    | some xs => lift S (atOf xs n)
    | none => match dctOf S x with
      | some (ks, vs) => lift S (valOf (.inl n) ks vs)
      | none => .bad)
  | .str z => (match dctOf S x with
    | some (ks, vs) => lift S (valOf (.inr z) ks vs)
    | none => .bad)
  | _ => .bad
/-- x[l:h] -/
def slF (md : Bool) (x : D) (l h : Option Int) (S : Store) : Res D :=
  match x with
  | .tup xs => .ok (.tup (cutOf xs l h)) S
  | x => match lstOf S x with
    | some xs => newL md S (cutOf xs l h)
    | none => .bad
/-- x[::-1] -/
def revF (md : Bool) (x : D) (S : Store) : Res D :=
  match lstOf S x with
  | some xs => newL md S xs.reverse
  | none => .bad

/-! ### the small language -/
mutual
inductive IR where
  | var (i : Nat)
  | cst (d : D)
  | glb (x : Str)
  | neg (a : IR) | not (a : IR)
  | bin (o : Bin) (a b : IR)
  | cmp (o : Cmp) (a b : IR)
  | chain (o p : Cmp) (a b c : IR)
  | and (a b : IR) | or (a b : IR)
  | ite (t a b : IR)
  | call (f : Str) (as : IRs)
  | callK (f : Str) (as : IRs) (ks : List Str) (ws : IRs)
  | bif (b : Bif) (as : IRs)
  | inst (a : IR) (ts : List Ty)
  | ix (a i : IR)
  | sl (a : IR) (lo hi : OIR)
  | rev (a : IR)
  | tup (as : IRs) | lst (as : IRs)
  | dct (ks : List L2.Key) (vs : IRs)
  | comp (own : List Nat) (tg : Tg) (src : Src) (ifs : IRs) (elt : IR)
  /-- over the keys of the dict in a slot -/
  | compD (own : List Nat) (tg : Tg) (i : Nat) (ifs : IRs) (elt : IR)
  | comp2 (own vs1 : List Nat) (tg : Tg) (src : Src) (ifs : IRs) (tg1 : Tg) (src1 : Src) (ifs1 : IRs) (elt : IR)
  /-- o.append(x), o.extend(x), o.pop(), o.pop(i) -/
  | app (o x : IR) | ext (o x : IR) | pop (o : IR) | popAt (o i : IR)
inductive IRs where
  | nil | cons (a : IR) (r : IRs)
inductive OIR where
  | non | some (a : IR)
inductive Src where
  | it (a : IR) | rng1 (a : IR) | rng2 (a b : IR) | zip (a b : IR) | enum (a : IR)
/-- where a value goes -/
inductive Tg where
  | name (i : Nat) | tup (ts : Tgs)
inductive Tgs where
  | nil | cons (t : Tg) (r : Tgs)
end
/-- what a clause hands back: a list or tuple of texts, None, fields of the error -/
inductive Hp where
  | non | str (x : Str) | fld (f : Str)
structure Hd where
  cls : Str
  /-- classes that are known to pass by -/
  oth : List Str
  /-- a list or a tuple of these; none: not known -/
  ans : Option (Bool × List Hp)
mutual
inductive ST where
  | set (i : Nat) (md : Bool) (e : IR)
  | setT (tg : Tg) (md : Bool) (e : IR)
  | par (i j : Nat) (md : Bool) (a b : IR)
  | setIx (o i e : IR)
  | aug (i : Nat) (o : Bin) (e : IR)
  | iff (t : IR) (a b : STs)
  | for (tg : Tg) (src : Src) (body : STs)
  | whl (t : IR) (body : STs)
  | ret (md : Bool) (e : IR) | retN
  | raise (cls : Str) (as : IRs)
  | tri (body : STs) (hs : List Hd)
  | expr (e : IR)
  | pass
inductive STs where
  | nil | cons (s : ST) (r : STs)
end

/-! ### the evaluator -/
abbrev Env := List (Option D)
def wipeE (ρ : Env) : List Nat → Env
  | [] => ρ
  | v :: vs => (wipeE ρ vs).set v none
/-- what a loop walks: items that stay, or a list that changes (its length stays) -/
inductive Wlk where
  | fix (xs : List D) | live (n len : Nat)
  /-- the keys of a dict, locked meanwhile -/
  | keys (n len : Nat)
def keyD : L2.Key → D
  | .inl i => .int i
  | .inr x => .str x
def Wlk.at (S : Store) : Wlk → Option (List D)
  | .fix xs => some xs
  | .live n len => match S[n]? with
    | some (.lst ys) => if ys.length = len then some ys else none
    | _ => none
  | .keys n len => match S[n]? with
    | some (.lck ks _) => if ks.length = len then some (ks.map keyD) else none
    | _ => none
def Wlk.len : Wlk → Nat
  | .fix xs => xs.length
  | .live _ n => n
  | .keys _ n => n
def rngOk (i j : Int) : Bool := decide (-(2 ^ 62) ≤ i ∧ i < 2 ^ 62 ∧ -(2 ^ 62) ≤ j ∧ j < 2 ^ 62)
def rngOf (i j : Int) : List D := (List.range (j - i).toNat).map fun k => .int (i + (k : Nat))
def wlkOf (S : Store) : D → Option Wlk
  | .lst xs => some (.fix xs)
  | .tup xs => some (.fix xs)
  | .ref n => match S[n]? with
    | some (.lst xs) => some (.live n xs.length)
    | _ => none
  | _ => none
def zipOf (S : Store) (x y : D) : Option (List D) :=
  match x, y with
  | .tup xs, .tup ys => some ((xs.zip ys).map fun p => .tup [p.1, p.2])
  | .lst xs, .lst ys => some ((xs.zip ys).map fun p => .tup [p.1, p.2])
  | _, _ => none
def enumOf (xs : List D) : List D := (xs.zipIdx).map fun p => .tup [.int (p.2 : Nat), p.1]
mutual
def assignTo : Tg → D → Env → Store → Option Env
  | .name i, d, ρ, _ => some (ρ.set i (some d))
  | .tup ts, d, ρ, S => match seqOf S d with
    | some xs => assignAll ts xs ρ S
    | none => none
def assignAll : Tgs → List D → Env → Store → Option Env
  | .nil, [], ρ, _ => some ρ
  | .cons t r, x :: xs, ρ, S => match assignTo t x ρ S with
    | some ρ1 => assignAll r xs ρ1 S
    | none => none
  | _, _, _, _ => none
end
/-- the functions that are called: by name -/
abbrev Fns := Str → List D → Store → Res D
structure Sig where
  /-- the values of the module's names -/
  glb : Str → Option D
  /-- the parameters of a def -/
  ps : Str → List Str
def bindK {α : Type} (ps : List Str) (us : List α) (ks : List Str) (ws : List α) : List α := us ++ (ps.drop us.length).filterMap fun p => (ks.zip ws).lookup p

/-- a comprehension's turns over items that stay -/
def compL (turn : D → Store → Res (Option D)) : List D → List D → Store → Res (List D)
  | [], acc, S => .ok acc S
  | x :: r, acc, S => (turn x S).bind fun o S1 => compL turn r (match o with | some d => acc ++ [d] | none => acc) S1
/-- .. over a list that may change meanwhile -/
def compR (turn : D → Store → Res (Option D)) (w : Wlk) : Nat → Nat → List D → Store → Res (List D)
  | 0, i, acc, S => match w.at S with
    | some ys => if i = ys.length then .ok acc S else .bad
    | none => .bad
  | k + 1, i, acc, S => match w.at S with
    | some ys => match ys[i]? with
      | some x => (turn x S).bind fun o S1 => compR turn w k (i + 1) (match o with | some d => acc ++ [d] | none => acc) S1
      | none => .bad
    | none => .bad
def compW (turn : D → Store → Res (Option D)) (w : Wlk) (S : Store) : Res (List D) :=
  match w with
  | .fix xs => if xs.length ≤ LIM then compL turn xs [] S else .bad
  | .live n len => if len ≤ LIM then compR turn w len 0 [] S else .bad
  | .keys n len => if len ≤ LIM then compR turn w len 0 [] S else .bad
/-- the second clause: it goes on with the list so far -/
def compL2 (turn : D → List D → Store → Res (List D)) : List D → List D → Store → Res (List D)
  | [], acc, S => .ok acc S
  | x :: r, acc, S => (turn x acc S).bind fun acc1 S1 => compL2 turn r acc1 S1

inductive Fl where
  | nx (ρ : Env) | rt (d : D)
def forL (body : D → Env → Store → Res Fl) : List D → Env → Store → Res Fl
  | [], ρ, S => .ok (.nx ρ) S
  | x :: r, ρ, S => (body x ρ S).bind fun f S1 => match f with
    | .nx ρ1 => forL body r ρ1 S1
    | f => .ok f S1
def forR (body : D → Env → Store → Res Fl) (w : Wlk) : Nat → Nat → Env → Store → Res Fl
  | 0, i, ρ, S => match w.at S with
    | some ys => if i = ys.length then .ok (.nx ρ) S else .bad
    | none => .bad
  | k + 1, i, ρ, S => match w.at S with
    | some ys => match ys[i]? with
      | some x => (body x ρ S).bind fun f S1 => match f with
        | .nx ρ1 => forR body w k (i + 1) ρ1 S1
        | f => .ok f S1
      | none => .bad
    | none => .bad
def forW (body : D → Env → Store → Res Fl) (w : Wlk) (ρ : Env) (S : Store) : Res Fl :=
  match w with
  | .fix xs => forL body xs ρ S
  | .live n len => forR body w len 0 ρ S
  | .keys n len => forR body w len 0 ρ S
def whileN (test : Env → Store → Res Bool) (body : Env → Store → Res Fl) : Nat → Env → Store → Res Fl
  | 0, _, _ => .bad
  | n + 1, ρ, S => (test ρ S).bind fun b S1 => if b then (body ρ S1).bind fun f S2 => (match f with
      | .nx ρ1 => whileN test body n ρ1 S2
      | f => .ok f S2)
    else .ok (.nx ρ) S1
def FUEL : Nat := 100000
/-- a list of the store -/
def isL (S : Store) (d : D) : Bool := match d with
  | .ref n => (match S[n]? with
    | some (.lst _) => true
    | _ => false)
  | _ => false

section
variable (G : Sig) (Γ : Fns) (b : Nat)
mutual
def IR.run (md : Bool) : IR → Env → Store → Res D
  | .var i, ρ, S => match ρ[i]? with
    | some (some d) => .ok d S
    | _ => .bad
  | .cst d, _, S => .ok d S
  | .glb x, _, S => lift S (G.glb x)
  | .neg a, ρ, S => (a.run false ρ S).bind fun x S1 => match x with
    | .int i => .ok (.int (-i)) S1
    | _ => .bad
  | .not a, ρ, S => (a.run false ρ S).bind fun x S1 => (lift S1 (truthy S1 x)).bind fun b S2 => .ok (.bl (!b)) S2
  | .bin o a b, ρ, S => (a.run md ρ S).bind fun x S1 => (b.run md ρ S1).bind fun y S2 => binOf md S2 o x y
  | .cmp o a b, ρ, S => (a.run false ρ S).bind fun x S1 => (b.run false ρ S1).bind fun y S2 => (lift S2 (cmpOf S2 o x y)).bind fun c S3 => .ok (.bl c) S3
  | .chain o p a b c, ρ, S => (a.run false ρ S).bind fun x S1 => (b.run false ρ S1).bind fun y S2 => (lift S2 (cmpOf S2 o x y)).bind fun k S3 =>
      if k then (c.run false ρ S3).bind fun z S4 => (lift S4 (cmpOf S4 p y z)).bind fun m S5 => .ok (.bl m) S5 else .ok (.bl false) S3
  | .and a b, ρ, S => (a.run md ρ S).bind fun x S1 => (lift S1 (truthy S1 x)).bind fun k S2 => if k then b.run md ρ S2 else .ok x S2
  | .or a b, ρ, S => (a.run md ρ S).bind fun x S1 => (lift S1 (truthy S1 x)).bind fun k S2 => if k then .ok x S2 else b.run md ρ S2
  | .ite t a b, ρ, S => (t.run false ρ S).bind fun x S1 => (lift S1 (truthy S1 x)).bind fun k S2 => if k then a.run md ρ S2 else b.run md ρ S2
  | .call f as, ρ, S => (as.runs false ρ S).bind fun xs S1 => Γ f xs S1
  | .callK f as ks ws, ρ, S => (as.runs false ρ S).bind fun xs S1 => (ws.runs false ρ S1).bind fun ys S2 => Γ f (bindK (G.ps f) xs ks ys) S2
  | .bif f as, ρ, S => (as.runs false ρ S).bind fun xs S1 => bifOf md S1 f xs
  | .inst a ts, ρ, S => (a.run false ρ S).bind fun x S1 => (lift S1 (instOf S1 x ts)).bind fun b S2 => .ok (.bl b) S2
  | .ix a i, ρ, S => (a.run false ρ S).bind fun x S1 => (i.run false ρ S1).bind fun k S2 => ixF x k S2
  | .sl a lo hi, ρ, S => (a.run false ρ S).bind fun x S1 => (lo.runO ρ S1).bind fun l S2 => (hi.runO ρ S2).bind fun h S3 => slF md x l h S3
  | .rev a, ρ, S => (a.run false ρ S).bind fun x S1 => revF md x S1
  | .tup as, ρ, S => (as.runs md ρ S).bind fun xs S1 => if xs.length ≤ LIM then .ok (.tup xs) S1 else .bad
  | .lst as, ρ, S => (as.runs md ρ S).bind fun xs S1 => if xs.length ≤ LIM then newL md S1 xs else .bad
  | .dct ks vs, ρ, S => (vs.runs md ρ S).bind fun xs S1 => if ks.length ≤ 15 ∧ ks.Nodup ∧ ks.length = xs.length then newD md S1 ks xs else .bad
  | .comp own tg src ifs elt, ρ, S => (src.runS ρ S).bind fun w S1 =>
      ((compW (fun x S2 => (match assignTo tg x (wipeE ρ own) S2 with
        | some ρ1 => (ifs.tests ρ1 S2).bind fun b S3 => if b then (elt.run md ρ1 S3).bind fun d S4 => .ok (some d) S4 else .ok none S3
        | none => .bad)) w S1).calm).bind fun xs S5 => newL md S5 xs
  | .compD own tg i ifs elt, ρ, S => match ρ[i]? with
    | some (some (.ref n)) => (match S[n]? with
      | some (.dct ks vs) => ((compW (fun x S2 => (match assignTo tg x (wipeE ρ own) S2 with
        | some ρ1 => (ifs.tests ρ1 S2).bind fun b S3 => if b then (elt.run md ρ1 S3).bind fun d S4 => .ok (some d) S4 else .ok none S3
        | none => .bad)) (.keys n ks.length) (S.set n (.lck ks vs))).calm).bind fun xs S5 => (match S5[n]? with
          | some (.lck ks' vs') => newL md (S5.set n (.dct ks' vs')) xs
          | _ => .bad)
      | _ => .bad)
    | _ => .bad
  | .comp2 own vs1 tg src ifs tg1 src1 ifs1 elt, ρ, S => (src.runS ρ S).bind fun w S1 => (match w with
      | .fix items => ((compL2 (fun x acc S2 => (match assignTo tg x (wipeE ρ own) S2 with
        | some ρ1 => (ifs.tests ρ1 S2).bind fun b S3 => if b then (src1.runS ρ1 S3).bind fun w1 S4 => (match w1 with
            | .fix items1 => if acc.length + items1.length ≤ LIM then compL (fun y S5 => (match assignTo tg1 y (wipeE ρ1 vs1) S5 with
              | some ρ2 => (ifs1.tests ρ2 S5).bind fun b S6 => if b then (elt.run md ρ2 S6).bind fun d S7 => .ok (some d) S7 else .ok none S6
              | none => .bad)) items1 acc S4 else .bad
            | _ => .bad) else .ok acc S3
        | none => .bad)) items [] S1).calm).bind fun xs S8 => newL md S8 xs
      | _ => .bad)
  | .app o x, ρ, S => (o.run false ρ S).bind fun l S1 => if isL S1 l then (x.run false ρ S1).bind fun d S2 => (match l with
    | .ref n => (match S2[n]? with
      | some (.lst xs) => if xs.length < LIM ∧ (b ≤ n ∨ d.und 0 = true) then .ok .non (S2.set n (.lst (xs ++ [d]))) else .bad
      | _ => .bad)
    | _ => .bad) else .bad
  | .ext o x, ρ, S => (o.run false ρ S).bind fun l S1 => if isL S1 l then (x.run false ρ S1).bind fun d S2 => (match l, lstOf S2 d with
    | .ref n, some ys => (match S2[n]? with
      | some (.lst xs) => if xs.length + ys.length < LIM ∧ (b ≤ n ∨ D.undAll 0 ys = true) then .ok .non (S2.set n (.lst (xs ++ ys))) else .bad
      | _ => .bad)
    | _, _ => .bad) else .bad
  | .pop o, ρ, S => (o.run false ρ S).bind fun l S1 => match l with
    | .ref n => (match S1[n]? with
      | some (.lst xs) => (match xs.getLast? with
        | some d => .ok d (S1.set n (.lst xs.dropLast))
        | none => .bad)
      | _ => .bad)
    | _ => .bad
  | .popAt o i, ρ, S => (o.run false ρ S).bind fun l S1 => if isL S1 l then (i.run false ρ S1).bind fun k S2 => (match l, k with
    | .ref n, .int j => (match S2[n]? with
      | some (.lst xs) => (match ixOf xs.length j with
        | some m => (match xs[m]? with
          | some d => .ok d (S2.set n (.lst (xs.eraseIdx m)))
          | none => .bad)
        | none => .bad)
      | _ => .bad)
    | _, _ => .bad) else .bad
def IRs.runs (md : Bool) : IRs → Env → Store → Res (List D)
  | .nil, _, S => .ok [] S
  | .cons a r, ρ, S => (a.run md ρ S).bind fun x S1 => (r.runs md ρ S1).bind fun xs S2 => .ok (x :: xs) S2
/-- tests, all of them -/
def IRs.tests : IRs → Env → Store → Res Bool
  | .nil, _, S => .ok true S
  | .cons a r, ρ, S => (a.run false ρ S).bind fun x S1 => (lift S1 (truthy S1 x)).bind fun k S2 => if k then r.tests ρ S2 else .ok false S2
def OIR.runO : OIR → Env → Store → Res (Option Int)
  | .non, _, S => .ok none S
  | .some a, ρ, S => (a.run false ρ S).bind fun x S1 => match x with
    | .int i => .ok (Option.some i) S1
    | _ => .bad
def Src.runS : Src → Env → Store → Res Wlk
  | .it a, ρ, S => (a.run false ρ S).bind fun x S1 => lift S1 (wlkOf S1 x)
  | .rng1 a, ρ, S => (a.run false ρ S).bind fun x S1 => match x with
    | .int j => if rngOk 0 j then .ok (.fix (rngOf 0 j)) S1 else .bad
    | _ => .bad
  | .rng2 a b, ρ, S => (a.run false ρ S).bind fun x S1 => (b.run false ρ S1).bind fun y S2 => match x, y with
    | .int i, .int j => if rngOk i j then .ok (.fix (rngOf i j)) S2 else .bad
    | _, _ => .bad
  | .zip a b, ρ, S => (a.run false ρ S).bind fun x S1 => (b.run false ρ S1).bind fun y S2 => (lift S2 (zipOf S2 x y)).bind fun xs S3 => .ok (.fix xs) S3
  | .enum a, ρ, S => (a.run false ρ S).bind fun x S1 => match x with
    | .lst xs => .ok (.fix (enumOf xs)) S1
    | _ => .bad
end

/-- o[i] = d -/
def setAt (o i d : D) (S : Store) : Option Store :=
  match o with
  | .ref n => match S[n]?, i with
    | some (.lst xs), .int k => (match ixOf xs.length k with
      | some j => if b ≤ n ∨ d.und 0 = true then some (S.set n (.lst (xs.set j d))) else none
      | none => none)
    | some (.dct ks vs), i => (match keyOf i with
      | some k => if ks.length < LIM ∧ (b ≤ n ∨ d.und 0 = true) then some (S.set n (.dct (putOf k d ks vs).1 (putOf k d ks vs).2)) else none
      | none => none)
    | _, _ => none
  | _ => none
/-- what a clause hands back -/
def Hp.val (x : Exn) : Hp → Option D
  | .non => some .non
  | .str z => some (.str z)
  | .fld f => x.fs.lookup f
def partsOf (x : Exn) : List Hp → Option (List D)
  | [] => some []
  | p :: r => match p.val x, partsOf x r with
    | some d, some ds => some (d :: ds)
    | _, _ => none
def handle (x : Exn) (S : Store) : List Hd → Res Fl
  | [] => .exc x S
  | h :: r => if h.cls = x.cls then (match h.ans with
      | some (asl, parts) => (match partsOf x parts with
        | some ds => .ok (.rt (if asl then .lst ds else .tup ds)) S
        | none => .bad)
      | none => .bad)
    else if x.cls ∈ h.oth then handle x S r else .bad
def evT (t : Env → Store → Res D) (ρ : Env) (S : Store) : Res Bool := (t ρ S).bind fun x S1 => lift S1 (truthy S1 x)
mutual
def ST.exec : ST → Env → Store → Res Fl
  | .set i md e, ρ, S => (e.run G Γ b md ρ S).bind fun d S1 => .ok (.nx (ρ.set i (some d))) S1
  | .setT tg md e, ρ, S => (e.run G Γ b md ρ S).bind fun d S1 => (lift S1 (assignTo tg d ρ S1)).bind fun ρ1 S2 => .ok (.nx ρ1) S2
  | .par i j md e f, ρ, S => (e.run G Γ b md ρ S).bind fun d S1 => (f.run G Γ b md ρ S1).bind fun d2 S2 => .ok (.nx ((ρ.set i (some d)).set j (some d2))) S2
  | .setIx o i e, ρ, S => (e.run G Γ b false ρ S).bind fun d S1 => (o.run G Γ b false ρ S1).bind fun x S2 => (i.run G Γ b false ρ S2).bind fun k S3 => match setAt b x k d S3 with
    | some S4 => .ok (.nx ρ) S4
    | none => .bad
  | .aug i o e, ρ, S => match ρ[i]? with
    | some (some x) => (e.run G Γ b false ρ S).bind fun y S1 => match binV o x y with
      | some d => .ok (.nx (ρ.set i (some d))) S1
      | none => .bad
    | _ => .bad
  | .iff t a c, ρ, S => (evT (t.run G Γ b false) ρ S).bind fun k S1 => if k then a.execs ρ S1 else c.execs ρ S1
  | .for tg src body, ρ, S => (src.runS G Γ b ρ S).bind fun w S1 => forW (fun x ρ1 S2 => match assignTo tg x ρ1 S2 with
      | some ρ2 => body.execs ρ2 S2
      | none => .bad) w ρ S1
  | .whl t body, ρ, S => whileN (evT (t.run G Γ b false)) body.execs FUEL ρ S
  | .ret md e, ρ, S => (e.run G Γ b md ρ S).bind fun d S1 => .ok (.rt d) S1
  | .retN, _, S => .ok (.rt .non) S
  | .raise c as, ρ, S => (as.runs G Γ b false ρ S).bind fun xs S1 => (Γ c xs S1).bind fun _ _ => .bad
  | .tri body hs, ρ, S => match body.execs ρ S with
    | .exc x S1 => handle x S1 hs
    | r => r
  | .expr e, ρ, S => (e.run G Γ b false ρ S).bind fun _ S1 => .ok (.nx ρ) S1
  | .pass, ρ, S => .ok (.nx ρ) S
def STs.execs : STs → Env → Store → Res Fl
  | .nil, ρ, S => .ok (.nx ρ) S
  | .cons s r, ρ, S => (s.exec ρ S).bind fun f S1 => match f with
    | .nx ρ1 => r.execs ρ1 S1
    | f => .ok f S1
end
end

/-! ### defs -/
/-- objects from b on become values -/
def thaw (f : Nat → Option D) : D → Option D
  | .ref n => f n
  | .tup xs => (thaws f xs).map .tup
  | .lst xs => (thaws f xs).map .lst
  | .dct ks vs => (thaws f vs).map (.dct ks)
  | d => some d
where thaws (f : Nat → Option D) : List D → Option (List D)
  | [] => some []
  | x :: r => match thaw f x, thaws f r with
    | some d, some ds => some (d :: ds)
    | _, _ => none
def frz (S : Store) (b : Nat) : Nat → D → Option D
  | 0, d => if d.und b then some d else none
  | k + 1, d => if d.und b then some d else thaw (fun n => if n < b then some (.ref n) else match S[n]? with
      | some (.lst xs) => (thaw.thaws (fun m => frz S b k (.ref m)) xs).map .lst
      | some (.dct ks vs) => (thaw.thaws (fun m => frz S b k (.ref m)) vs).map (.dct ks)
      | _ => none) d
structure Fn where
  name : Str
  /-- parameters; all names, parameters first -/
  ps : List Str
  N : List Str
  body : STs
  /-- hands out its own objects as they are -/
  own : Bool := false
def frzX (S : Store) (b : Nat) : List (Str × D) → Option (List (Str × D))
  | [] => some []
  | (f, d) :: r => match frz S b 60 d, frzX S b r with
    | some d, some r => some ((f, d) :: r)
    | _, _ => none
def Fn.fin (f : Fn) (b : Nat) (d : D) (S : Store) : Res D := if f.own then .ok d S else match frz S b 60 d with
  | some d => .ok d (S.take b)
  | none => .bad
def Fn.run (G : Sig) (Γ : Fns) (f : Fn) (args : List D) (S : Store) : Res D :=
  if args.length = f.ps.length then
    match f.body.execs G Γ S.length (args.map some ++ List.replicate (f.N.length - args.length) none) S with
    | .ok (.rt d) S1 => f.fin S.length d S1
    | .ok (.nx _) S1 => f.fin S.length .non S1
    | .exc x S1 => (match frzX S1 S.length x.fs with
      | some fs => .exc ⟨x.cls, fs⟩ (S1.take S.length)
      | none => .bad)
    | .bad => .bad
  else .bad
/-- an error class with one attribute, or none -/
structure Ec where
  cls : Str
  att : Option Str
def ecRun (es : List Ec) (x : Str) (args : List D) (S : Store) : Res D := match es.find? (fun e => decide (e.cls = x)) with
  | some e => (match e.att, args with
    | some f, [d] => .exc ⟨x, [(f, d)]⟩ S
    | none, [] => .exc ⟨x, []⟩ S
    | _, _ => .bad)
  | none => .bad
/-- defs and error classes by name, k calls deep -/
def fns (G : Sig) (fs : List Fn) (es : List Ec) : Nat → Fns
  | 0 => fun x args S => ecRun es x args S
  | k + 1 => fun x args S => match fs.find? (fun f => decide (f.name = x)) with
    | some f => f.run G (fns G fs es k) args S
    | none => ecRun es x args S
end Pv

/-! Worlds: which object stands for which data. -/
namespace Pv
open PySem L2

/-- an object that stays -/
inductive FO where
  | lst (vs : List V) | tup (vs : List V) | dct (kvs : List (Key × V))
/-- what is known of addresses: objects that stay; the store's objects -/
structure Wd where
  fz : Addr → Option FO
  io : Nat → Option Addr
  /-- an object that is being made: what it holds now -/
  hd : Addr → Option HO
def Wd.cut (W : Wd) (b : Nat) : Wd := ⟨W.fz, fun n => if n < b then W.io n else none, W.hd⟩
structure Ext (W W' : Wd) : Prop where
  fz : ∀ a o, W.fz a = some o → W'.fz a = some o
  io : ∀ n a, W.io n = some a → W'.io n = some a
  hd : W'.hd = W.hd
theorem Ext.refl (W : Wd) : Ext W W := ⟨fun _ _ h => h, fun _ _ h => h, rfl⟩
theorem Ext.trans {W1 W2 W3 : Wd} (a : Ext W1 W2) (b : Ext W2 W3) : Ext W1 W3 := ⟨fun x o h => b.fz x o (a.fz x o h), fun n x h => b.io n x (a.io n x h), b.hd.trans a.hd⟩
theorem Ext.cut {W W' : Wd} (e : Ext W W') (b : Nat) : Ext (W.cut b) (W'.cut b) := by
  refine ⟨e.fz, fun n a h => ?_, e.hd⟩
  unfold Wd.cut at h ⊢
  simp only at h ⊢
  split at h
  · rename_i q; rw [if_pos q]; exact e.io n a h
  · cases h
theorem cut_ext (W : Wd) (b : Nat) : Ext (W.cut b) W := by
  refine ⟨fun _ _ h => h, fun n a h => ?_, rfl⟩
  unfold Wd.cut at h
  simp only at h
  split at h
  · exact h
  · cases h
theorem cut_cut {W : Wd} {b c : Nat} (h : c ≤ b) : Ext (W.cut c) ((W.cut b).cut c) := by
  refine ⟨fun _ _ h => h, fun n a q => ?_, rfl⟩
  unfold Wd.cut at q ⊢
  simp only at q ⊢
  split at q
  · rename_i z; rw [if_pos z, if_pos (by omega)]; exact q
  · cases q

/-- a list, a tuple of the written part -/
def KL (K : PySem.W.Frag) (a : Addr) (xs : List V) : Prop :=
  ∃ (its : List Value) (n : Nat), K.lookup a = some { cls := .type "list", data := .seq its.toArray n } ∧ its.length ≤ sizeLine ∧ Vals xs its
/-- a list that is read -/
def ExL (K : PySem.W.Frag) (H : L2.Hp) (a : Addr) (xs : List V) : Prop := Rd H a (.lst xs) ∨ KL K a xs
theorem ExL.sq {K : PySem.W.Frag} {H : L2.Hp} {a : Addr} {xs : List V} (h : ExL K H a xs) : SqL K H a xs := by
  rcases h with h | ⟨its, n, h1, h2, h3⟩
  · exact .inl h
  · exact .inr ⟨_, its.toArray, n, h1, rfl, rfl, rfl, by simpa using h2, by simpa using h3⟩
theorem ExL.at {X : Cx} {pins : List (Addr × Obj)} {σ : L2.St} {H : L2.Hp} {s : Shared} {a : Addr} {xs : List V} (I : Inv X pins σ H s) (h : ExL X.K H a xs) :
    xs.length ≤ sizeLine ∧ ∃ (its : List Value) (n : Nat), Vals xs its ∧ s.heap.get? a = some { cls := .type "list", data := .seq its.toArray n } := by
  rcases h with h | ⟨its, n, h1, h2, h3⟩
  · obtain ⟨z, its, n, r, e⟩ := h.ok I.hok
    exact ⟨z, its, n, r, e⟩
  · exact ⟨by rw [h3.length]; exact h2, its, n, h3, I.kIn a _ h1⟩
def KT (K : PySem.W.Frag) (a : Addr) (xs : List V) : Prop :=
  ∃ (o : Obj) (its : Array Value) (n : Nat), K.lookup a = some o ∧ o.cls = .type "tuple" ∧ o.data = .seq its n ∧ its.size ≤ sizeLine ∧ Vals xs its.toList
/-- a list that stays, a tuple -/
def LAt (K : PySem.W.Frag) (W : Wd) (a : Addr) (vs : List V) : Prop := W.fz a = some (.lst vs) ∨ KL K a vs
def TAt (K : PySem.W.Frag) (W : Wd) (a : Addr) (vs : List V) : Prop := W.fz a = some (.tup vs) ∨ KT K a vs

section
variable (K : PySem.W.Frag)
mutual
/-- the value stands for the data -/
inductive Rep (W : Wd) : V → D → Prop
  | non : Rep W .non .non
  | bl (b : Bool) : Rep W (.bl b) (.bl b)
  | int (i : Int) : Rep W (.int i) (.int i)
  | str (x : Str) : Rep W (.str x) (.str x)
  | tup {a : Addr} {vs : List V} {ds : List D} : TAt K W a vs → RepAll W vs ds → Rep W (.ref a) (.tup ds)
  | lst {a : Addr} {vs : List V} {ds : List D} : LAt K W a vs → RepAll W vs ds → Rep W (.ref a) (.lst ds)
  | dct {a : Addr} {kvs : List (Key × V)} {ds : List D} : W.fz a = some (.dct kvs) → RepAll W (kvs.map (·.2)) ds → Rep W (.ref a) (.dct (kvs.map (·.1)) ds)
  | ref {a : Addr} {n : Nat} : W.io n = some a → Rep W (.ref a) (.ref n)
inductive RepAll (W : Wd) : List V → List D → Prop
  | nil : RepAll W [] []
  | cons {v : V} {d : D} {vs : List V} {ds : List D} : Rep W v d → RepAll W vs ds → RepAll W (v :: vs) (d :: ds)
end
end
section
variable {K : PySem.W.Frag} {W W' : Wd}
section
variable (ef : ∀ a o, W.fz a = some o → W'.fz a = some o) (ei : ∀ n a, W.io n = some a → W'.io n = some a)
include ef ei
mutual
theorem Rep.monoF : ∀ {v : V} {d : D}, Rep K W v d → Rep K W' v d
  | _, _, .non => .non
  | _, _, .bl b => .bl b
  | _, _, .int i => .int i
  | _, _, .str x => .str x
  | _, _, .tup h r => .tup (h.imp (ef _ _) id) (RepAll.monoF r)
  | _, _, .lst h r => .lst (h.imp (ef _ _) id) (RepAll.monoF r)
  | _, _, .dct h r => .dct (ef _ _ h) (RepAll.monoF r)
  | _, _, .ref h => .ref (ei _ _ h)
theorem RepAll.monoF : ∀ {vs : List V} {ds : List D}, RepAll K W vs ds → RepAll K W' vs ds
  | _, _, .nil => .nil
  | _, _, .cons a b => .cons (Rep.monoF a) (RepAll.monoF b)
end
end
theorem Rep.mono (e : Ext W W') {v : V} {d : D} (h : Rep K W v d) : Rep K W' v d := Rep.monoF e.fz e.io h
theorem RepAll.mono (e : Ext W W') {vs : List V} {ds : List D} (h : RepAll K W vs ds) : RepAll K W' vs ds := RepAll.monoF e.fz e.io h
theorem RepAll.length : ∀ {vs : List V} {ds : List D}, RepAll K W vs ds → vs.length = ds.length
  | _, _, .nil => rfl
  | _, _, .cons _ b => by rw [List.length_cons, List.length_cons, b.length]
theorem RepAll.append : ∀ {vs ws : List V} {ds es : List D}, RepAll K W vs ds → RepAll K W ws es → RepAll K W (vs ++ ws) (ds ++ es)
  | _, _, _, _, .nil, r => r
  | _, _, _, _, .cons a b, r => .cons a (b.append r)
theorem RepAll.get : ∀ {vs : List V} {ds : List D} {i : Nat} {d : D}, RepAll K W vs ds → ds[i]? = some d → ∃ v, vs[i]? = some v ∧ Rep K W v d
  | _, _, _, _, .nil, h => by simp at h
  | _, _, 0, _, .cons a b, h => by simp at h; subst h; exact ⟨_, rfl, a⟩
  | _, _, i + 1, _, .cons a b, h => by
    obtain ⟨v, h1, h2⟩ := b.get (i := i) (by simpa using h)
    exact ⟨v, by simpa using h1, h2⟩
theorem RepAll.getV : ∀ {vs : List V} {ds : List D} {i : Nat} {v : V}, RepAll K W vs ds → vs[i]? = some v → ∃ d, ds[i]? = some d ∧ Rep K W v d
  | _, _, _, _, .nil, h => by simp at h
  | _, _, 0, _, .cons a b, h => by simp at h; subst h; exact ⟨_, rfl, a⟩
  | _, _, i + 1, _, .cons a b, h => by
    obtain ⟨v, h1, h2⟩ := b.getV (i := i) (by simpa using h)
    exact ⟨v, by simpa using h1, h2⟩
theorem RepAll.take : ∀ {vs : List V} {ds : List D} (n : Nat), RepAll K W vs ds → RepAll K W (vs.take n) (ds.take n)
  | _, _, 0, _ => .nil
  | _, _, _ + 1, .nil => .nil
  | _, _, n + 1, .cons a b => .cons a (b.take n)
theorem RepAll.drop : ∀ {vs : List V} {ds : List D} (n : Nat), RepAll K W vs ds → RepAll K W (vs.drop n) (ds.drop n)
  | _, _, 0, h => h
  | _, _, _ + 1, .nil => .nil
  | _, _, n + 1, .cons _ b => b.drop n
theorem RepAll.set : ∀ {vs : List V} {ds : List D} {v : V} {d : D} (i : Nat), RepAll K W vs ds → Rep K W v d → RepAll K W (vs.set i v) (ds.set i d)
  | _, _, _, _, _, .nil, _ => .nil
  | _, _, _, _, 0, .cons _ b, r => .cons r b
  | _, _, _, _, n + 1, .cons a b, r => .cons a (b.set n r)
theorem RepAll.eraseIdx : ∀ {vs : List V} {ds : List D} (i : Nat), RepAll K W vs ds → RepAll K W (vs.eraseIdx i) (ds.eraseIdx i)
  | _, _, _, .nil => .nil
  | _, _, 0, .cons _ b => b
  | _, _, n + 1, .cons a b => .cons a (b.eraseIdx n)
theorem RepAll.dropLast : ∀ {vs : List V} {ds : List D}, RepAll K W vs ds → RepAll K W vs.dropLast ds.dropLast
  | _, _, .nil => .nil
  | _, _, .cons _ .nil => .nil
  | _, _, .cons a (.cons b r) => .cons a (RepAll.dropLast (.cons b r))
theorem RepAll.reverse : ∀ {vs : List V} {ds : List D}, RepAll K W vs ds → RepAll K W vs.reverse ds.reverse
  | _, _, .nil => .nil
  | _, _, .cons a b => by
    rw [List.reverse_cons, List.reverse_cons]
    exact b.reverse.append (.cons a .nil)
theorem RepAll.rep {vs : List V} {ds : List D} (h : RepAll K W vs ds) : ∀ k : Nat, RepAll K W (List.replicate k vs).flatten (List.replicate k ds).flatten
  | 0 => .nil
  | k + 1 => by
    rw [List.replicate_succ, List.replicate_succ, List.flatten_cons, List.flatten_cons]
    exact h.append (h.rep k)
theorem RepAll.cut {vs : List V} {ds : List D} (h : RepAll K W vs ds) (lo hi : Option Int) : RepAll K W (cutV vs lo hi) (cutOf ds lo hi) := by
  unfold cutV cutOf
  rw [h.length]
  exact (h.drop _).take _
theorem RepAll.ints : ∀ {vs : List V} {ds : List D} {ns : List Int}, RepAll K W vs ds → intsOf ds = some ns → vs = ns.map V.int
  | _, _, _, .nil, h => by cases h; rfl
  | _, _, ns, .cons (d := d) a b, h => by
    cases a with
    | int i =>
      unfold intsOf at h
      rename_i vs ds
      cases e : intsOf ds with
      | none => rw [e] at h; cases h
      | some ms =>
        rw [e] at h
        cases h
        rw [b.ints e]
        rfl
    | _ => cases h
theorem RepAll.bools : ∀ {vs : List V} {ds : List D} {ns : List Bool}, RepAll K W vs ds → boolsOf ds = some ns → vs = ns.map V.bl
  | _, _, _, .nil, h => by cases h; rfl
  | _, _, ns, .cons (d := d) a b, h => by
    cases a with
    | bl i =>
      unfold boolsOf at h
      rename_i vs ds
      cases e : boolsOf ds with
      | none => rw [e] at h; cases h
      | some ms =>
        rw [e] at h
        cases h
        rw [b.bools e]
        rfl
    | _ => cases h
end

/-! ### the store and the abstract heap -/
/-- what stays, stands -/
def FOk (H : L2.Hp) (a : Addr) : FO → Prop
  | .lst vs => Rd H a (.lst vs)
  | .tup vs => Rd H a (.tup vs)
  | .dct kvs => H a = some (.dK kvs)
def OOk (K : PySem.W.Frag) (W : Wd) (H : L2.Hp) (a : Addr) : O → Prop
  | .lst ds => ∃ vs, H a = some (.lst vs) ∧ RepAll K W vs ds
  | .dct ks ds => ∃ kvs, H a = some (.dK kvs) ∧ ks = kvs.map (·.1) ∧ RepAll K W (kvs.map (·.2)) ds
  | .lck ks ds => ∃ od kvs, H a = some (.frz od (.dK kvs)) ∧ W.hd a = some (.frz od (.dK kvs)) ∧ ks = kvs.map (·.1) ∧ RepAll K W (kvs.map (·.2)) ds
theorem OOk.monoF {K : PySem.W.Frag} {W W' : Wd} {H H' : L2.Hp} {a : Addr} {o : O} (h : OOk K W H a o) (ef : ∀ a o, W.fz a = some o → W'.fz a = some o) (ei : ∀ n a, W.io n = some a → W'.io n = some a) (hh : H' a = H a) (eh : W'.hd a = W.hd a := by rfl) : OOk K W' H' a o := by
  cases o with
  | lst ds => obtain ⟨vs, h1, h2⟩ := h; exact ⟨vs, hh.trans h1, RepAll.monoF ef ei h2⟩
  | dct ks ds => obtain ⟨kvs, h1, h2, h3⟩ := h; exact ⟨kvs, hh.trans h1, h2, RepAll.monoF ef ei h3⟩
  | lck ks ds => obtain ⟨od, kvs, h1, h2, h3, h4⟩ := h; exact ⟨od, kvs, hh.trans h1, eh.trans h2, h3, RepAll.monoF ef ei h4⟩
theorem OOk.mono' {K : PySem.W.Frag} {W W' : Wd} {H H' : L2.Hp} {a : Addr} {o : O} (h : OOk K W H a o) (hh : H' a = H a) (ef : ∀ a o, W.fz a = some o → W'.fz a = some o := by exact fun _ _ h => h) (ei : ∀ n a, W.io n = some a → W'.io n = some a := by exact fun _ _ h => h) (eh : W'.hd a = W.hd a := by rfl) : OOk K W' H' a o := h.monoF ef ei hh eh
theorem OOk.mono {K : PySem.W.Frag} {W W' : Wd} {H H' : L2.Hp} {a : Addr} {o : O} (e : Ext W W') (hh : H' a = H a) (h : OOk K W H a o) : OOk K W' H' a o := by
  exact h.monoF e.fz e.io hh (by rw [e.hd])
theorem OOk.fresh {K : PySem.W.Frag} {W W' : Wd} {H : L2.Hp} {a : Addr} {o : O} (h : OOk K W H a o) (hnf : ∀ od u, H a ≠ some (.frz od u)) (ef : ∀ a o, W.fz a = some o → W'.fz a = some o) (ei : ∀ n a, W.io n = some a → W'.io n = some a) : OOk K W' H a o := by
  cases o with
  | lst ds => obtain ⟨vs, h1, h2⟩ := h; exact ⟨vs, h1, RepAll.monoF ef ei h2⟩
  | dct ks ds => obtain ⟨kvs, h1, h2, h3⟩ := h; exact ⟨kvs, h1, h2, RepAll.monoF ef ei h3⟩
  | lck ks ds => obtain ⟨od, kvs, h1, h2, h3⟩ := h; exact (hnf od _ h1).elim
theorem OOk.there {K : PySem.W.Frag} {W : Wd} {H : L2.Hp} {a : Addr} {o : O} (h : OOk K W H a o) : H a ≠ none := by
  cases o with
  | lst ds => obtain ⟨vs, h1, h2⟩ := h; rw [h1]; exact fun z => nomatch z
  | dct ks ds => obtain ⟨kvs, h1, h2, h3⟩ := h; rw [h1]; exact fun z => nomatch z
  | lck ks ds => obtain ⟨od, kvs, h1, h2, h3⟩ := h; rw [h1]; exact fun z => nomatch z
/-- a thing that is walked -/
def IsFrz (o : HO) : Prop := ∃ od u, o = .frz od u
/-- the store S stands in H by W; bs: where the frames that run began -/
structure Sim (K : PySem.W.Frag) (bs : List Nat) (W : Wd) (S : Store) (H : L2.Hp) : Prop where
  fz : ∀ a o, W.fz a = some o → FOk H a o
  dom : ∀ n a, W.io n = some a → n < S.length
  inj : ∀ n m a, W.io n = some a → W.io m = some a → n = m
  bsz : ∀ c ∈ bs, c ≤ S.length
  held : ∀ a o, W.hd a = some o → H a = some o ∧ W.fz a = none ∧ (IsFrz o ∨ ∀ n, W.io n ≠ some a)
  live : ∀ n o, S[n]? = some o → ∃ a, W.io n = some a ∧ W.fz a = none ∧ OOk K W H a o ∧ ∀ c ∈ bs, n < c → OOk K (W.cut c) H a o
section
variable {K : PySem.W.Frag} {bs : List Nat} {W W' : Wd} {S : Store} {H H' : L2.Hp} {a : Addr}
theorem FOk.there {o : FO} (h : FOk H a o) : H a ≠ none := by
  cases o with
  | lst vs => rcases h with h | ⟨_, h⟩ <;> (rw [h]; exact fun z => nomatch z)
  | tup vs => rcases h with h | ⟨_, h⟩ <;> (rw [h]; exact fun z => nomatch z)
  | dct kvs => have h' : H a = some (.dK kvs) := h; rw [h']; exact fun z => nomatch z
theorem FOk.same {o : FO} (hh : H' a = H a) (h : FOk H a o) : FOk H' a o := by
  cases o with
  | lst vs => exact h.imp (fun z => hh.trans z) fun ⟨o, z⟩ => ⟨o, hh.trans z⟩
  | tup vs => exact h.imp (fun z => hh.trans z) fun ⟨o, z⟩ => ⟨o, hh.trans z⟩
  | dct kvs => exact hh.trans h
theorem Sim.fzNone (s : Sim K bs W S H) {p : Addr} (hp : H p = none) : W.fz p = none := by
  cases e : W.fz p with
  | none => rfl
  | some o => exact absurd hp (s.fz p o e).there
theorem Sim.ioNe (s : Sim K bs W S H) {p : Addr} (hp : H p = none) {n : Nat} (h : W.io n = some p) : False := by
  have := s.dom n p h
  obtain ⟨a, h1, _, h2, _⟩ := s.live n S[n] (by simp [this])
  rw [h] at h1
  cases h1
  exact h2.there hp
/-- a new object that stays -/
def Wd.addF (W : Wd) (p : Addr) (o : FO) : Wd := ⟨fun a => if a = p then some o else W.fz a, W.io, W.hd⟩
theorem addF_ext {p : Addr} {o : FO} (h : W.fz p = none) : Ext W (W.addF p o) := by
  refine ⟨fun a u e => ?_, fun _ _ e => e, rfl⟩
  unfold Wd.addF
  by_cases q : a = p
  · rw [q, h] at e; cases e
  · simp only [if_neg q]; exact e
theorem Sim.hdNone (s : Sim K bs W S H) {p : Addr} (hp : H p = none) : W.hd p = none := by
  cases e : W.hd p with
  | none => rfl
  | some o => rw [(s.held p o e).1] at hp; cases hp
def FO.ho : FO → HO
  | .lst vs => .lst vs
  | .tup vs => .tup vs
  | .dct kvs => .dK kvs
theorem FO.ok {p : Addr} (o : FO) : FOk (upd H p o.ho) p o := by
  cases o with
  | lst vs => exact .inl upd_same
  | tup vs => exact .inl upd_same
  | dct kvs => exact upd_same
theorem Sim.newF (s : Sim K bs W S H) {p : Addr} (hp : H p = none) (o : FO) : Sim K bs (W.addF p o) S (upd H p o.ho) := by
  have e := addF_ext (o := o) (s.fzNone hp)
  refine ⟨fun a u q => ?_, s.dom, s.inj, s.bsz, fun a u q => ?_, fun n u q => ?_⟩
  · unfold Wd.addF at q
    by_cases z : a = p
    · subst z
      simp only [if_pos rfl] at q
      cases q
      exact o.ok
    · simp only [if_neg z] at q
      exact (s.fz a u q).same (upd_ne z)
  · obtain ⟨h1, h2, h3⟩ := s.held a u q
    have z : a ≠ p := fun z => by rw [z, hp] at h1; cases h1
    refine ⟨(upd_ne z).trans h1, ?_, h3⟩
    show (if a = p then some o else W.fz a) = none
    rw [if_neg z]
    exact h2
  · obtain ⟨b, h1, h2, h3, h4⟩ := s.live n u q
    have nb : b ≠ p := fun z => h3.there (by rw [z]; exact hp)
    refine ⟨b, h1, ?_, h3.mono e (upd_ne nb), fun c hc hn => (h4 c hc hn).mono (e.cut c) (upd_ne nb)⟩
    show (if b = p then some o else W.fz b) = none
    rw [if_neg nb]
    exact h2
/-- a new object of the store -/
def Wd.addR (W : Wd) (n : Nat) (p : Addr) : Wd := ⟨W.fz, fun m => if m = n then some p else W.io m, W.hd⟩
theorem addR_ext {n : Nat} {p : Addr} (h : W.io n = none) : Ext W (W.addR n p) := by
  refine ⟨fun _ _ e => e, fun m u e => ?_, rfl⟩
  unfold Wd.addR
  by_cases q : m = n
  · rw [q, h] at e; cases e
  · simp only [if_neg q]; exact e
theorem Sim.ioNone (s : Sim K bs W S H) {n : Nat} (h : S.length ≤ n) : W.io n = none := by
  cases e : W.io n with
  | none => rfl
  | some a => have := s.dom n a e; omega
def O.ho (o : O) (vs : List V) : HO := match o with
  | .lst _ => .lst vs
  | .dct ks _ => .dK (ks.zip vs)
  | .lck ks _ => .dK (ks.zip vs)
theorem Sim.newR (s : Sim K bs W S H) {p : Addr} (hp : H p = none) {o : O} {h : HO} (hh : OOk K (W.addR S.length p) (upd H p h) p o) : Sim K bs (W.addR S.length p) (S ++ [o]) (upd H p h) := by
  have hn := s.ioNone (Nat.le_refl S.length)
  have e := addR_ext (p := p) hn
  refine ⟨fun a u q => ?_, fun n a q => ?_, fun n m a q1 q2 => ?_, fun c hc => by rw [List.length_append]; have := s.bsz c hc; omega, fun a u q => ?_, fun n u q => ?_⟩
  · have z : a ≠ p := fun z => (s.fz a u q).there (by rw [z]; exact hp)
    exact (s.fz a u q).same (upd_ne z)
  · rw [List.length_append]
    unfold Wd.addR at q
    by_cases z : n = S.length
    · rw [z]; simp
    · simp only [if_neg z] at q
      have := s.dom n a q
      omega
  · unfold Wd.addR at q1 q2
    by_cases z1 : n = S.length
    · by_cases z2 : m = S.length
      · rw [z1, z2]
      · simp only [if_neg z2] at q2
        simp only [if_pos z1] at q1
        cases q1
        exact (s.ioNe hp q2).elim
    · simp only [if_neg z1] at q1
      by_cases z2 : m = S.length
      · simp only [if_pos z2] at q2
        cases q2
        exact (s.ioNe hp q1).elim
      · simp only [if_neg z2] at q2
        exact s.inj n m a q1 q2
  · obtain ⟨h1, h2, h3⟩ := s.held a u q
    have z : a ≠ p := fun z => by rw [z, hp] at h1; cases h1
    refine ⟨(upd_ne z).trans h1, h2, h3.imp id fun h3 n y => ?_⟩
    unfold Wd.addR at y
    by_cases zn : n = S.length
    · simp only [if_pos zn] at y
      cases y
      exact z rfl
    · simp only [if_neg zn] at y
      exact h3 n y
  · by_cases z : n < S.length
    · rw [List.getElem?_append_left z] at q
      obtain ⟨b, h1, h2, h3, h4⟩ := s.live n u q
      have nb : b ≠ p := fun z => h3.there (by rw [z]; exact hp)
      exact ⟨b, e.io _ _ h1, h2, h3.mono e (upd_ne nb), fun c hc hn => (h4 c hc hn).mono (e.cut c) (upd_ne nb)⟩
    · have z' : n = S.length := by
        have := (List.getElem?_eq_some_iff.mp q).1
        rw [List.length_append] at this
        simp at this
        omega
      subst z'
      rw [List.getElem?_append_right (Nat.le_refl _)] at q
      simp at q
      subst q
      refine ⟨p, ?_, s.fzNone hp, hh, fun c hc hn => ?_⟩
      · show (if S.length = S.length then some p else _) = some p
        rw [if_pos rfl]
      · have := s.bsz c hc
        omega
/-- an object of the store is changed -/
theorem Sim.write (s : Sim K bs W S H) {n : Nat} {p : Addr} (hn : W.io n = some p) (hnf : ∀ od u, H p ≠ some (.frz od u)) {o : O} {h : HO} (hh : OOk K W (upd H p h) p o) (hc : ∀ c ∈ bs, n < c → OOk K (W.cut c) (upd H p h) p o) : Sim K bs W (S.set n o) (upd H p h) := by
  have hl := s.dom n p hn
  obtain ⟨p', h1, hf, _, _⟩ := s.live n S[n] (by simp [hl])
  rw [hn] at h1
  cases h1
  refine ⟨fun a u q => ?_, fun m a q => ?_, s.inj, fun c hc => by rw [List.length_set]; exact s.bsz c hc, fun a u q => ?_, fun m u q => ?_⟩
  · have z : a ≠ p := fun z => by rw [z, hf] at q; cases q
    exact (s.fz a u q).same (upd_ne z)
  · rw [List.length_set]
    exact s.dom m a q
  · obtain ⟨h1, h2, h3⟩ := s.held a u q
    have z : a ≠ p := fun z => h3.elim (fun ⟨od, u', e⟩ => hnf od u' (by rw [← z, h1, e])) fun h3 => h3 n (by rw [z]; exact hn)
    exact ⟨(upd_ne z).trans h1, h2, h3⟩
  · by_cases z : m = n
    · subst z
      rw [List.getElem?_set_self hl] at q
      cases q
      exact ⟨p, hn, hf, hh, hc⟩
    · rw [List.getElem?_set_ne (Ne.symm z)] at q
      obtain ⟨b, h1, h2, h3, h4⟩ := s.live m u q
      have nb : b ≠ p := fun y => z (s.inj m n p (by rw [← y]; exact h1) hn)
      exact ⟨b, h1, h2, h3.mono (Ext.refl _) (upd_ne nb), fun c hc hn => (h4 c hc hn).mono (Ext.refl _) (upd_ne nb)⟩
/-! ### an object that is being made -/
def Wd.hold (W : Wd) (p : Addr) (o : HO) : Wd := ⟨W.fz, W.io, fun a => if a = p then some o else W.hd a⟩
theorem hold_self {p : Addr} {o : HO} : (W.hold p o).hd p = some o := by
  show (if p = p then some o else W.hd p) = some o
  rw [if_pos rfl]
theorem Sim.hold (s : Sim K bs W S H) {p : Addr} (hp : H p = none) (o : HO) : Sim K bs (W.hold p o) S (upd H p o) := by
  refine ⟨fun a u q => ?_, s.dom, s.inj, s.bsz, fun a u q => ?_, fun n u q => ?_⟩
  · have z : a ≠ p := fun z => (s.fz a u q).there (by rw [z]; exact hp)
    exact (s.fz a u q).same (upd_ne z)
  · unfold Wd.hold at q
    by_cases z : a = p
    · simp only [if_pos z] at q
      cases q
      subst z
      exact ⟨upd_same, s.fzNone hp, .inr fun n y => s.ioNe hp y⟩
    · simp only [if_neg z] at q
      obtain ⟨h1, h2, h3⟩ := s.held a u q
      exact ⟨(upd_ne z).trans h1, h2, h3⟩
  · obtain ⟨b, h1, h2, h3, h4⟩ := s.live n u q
    have nb : b ≠ p := fun z => h3.there (by rw [z]; exact hp)
    exact ⟨b, h1, h2, h3.mono' (upd_ne nb) (eh := if_neg nb), fun c hc hn => (h4 c hc hn).mono' (upd_ne nb) (eh := if_neg nb)⟩
theorem Sim.rehold (s : Sim K bs W S H) {p : Addr} {o : HO} (hp : W.hd p = some o) (ho : ¬ IsFrz o) (o' : HO) : Sim K bs (W.hold p o') S (upd H p o') := by
  obtain ⟨g1, g2, g3⟩ := s.held p o hp
  have g3 := g3.resolve_left ho
  refine ⟨fun a u q => ?_, s.dom, s.inj, s.bsz, fun a u q => ?_, fun n u q => ?_⟩
  · have z : a ≠ p := fun z => by
      have q' : W.fz a = some u := q
      rw [z, g2] at q'; cases q'
    exact (s.fz a u q).same (upd_ne z)
  · unfold Wd.hold at q
    by_cases z : a = p
    · simp only [if_pos z] at q
      cases q
      subst z
      exact ⟨upd_same, g2, .inr g3⟩
    · simp only [if_neg z] at q
      obtain ⟨h1, h2, h3⟩ := s.held a u q
      exact ⟨(upd_ne z).trans h1, h2, h3⟩
  · obtain ⟨b, h1, h2, h3, h4⟩ := s.live n u q
    have nb : b ≠ p := fun z => g3 n (by rw [← z]; exact h1)
    exact ⟨b, h1, h2, h3.mono' (upd_ne nb) (eh := if_neg nb), fun c hc hn => (h4 c hc hn).mono' (upd_ne nb) (eh := if_neg nb)⟩
theorem ext_rehold {p : Addr} {o : HO} (o' : HO) (e : Ext (W.hold p o) W') : Ext (W.hold p o') (W'.hold p o') := by
  refine ⟨e.fz, e.io, ?_⟩
  funext a
  show (if a = p then some o' else W'.hd a) = (if a = p then some o' else W.hd a)
  rw [e.hd]
  by_cases z : a = p
  · rw [if_pos z, if_pos z]
  · rw [if_neg z, if_neg z]
    show (if a = p then some o else W.hd a) = W.hd a
    rw [if_neg z]
/-- it is made: it stays as it is -/
def Wd.doneF (W : Wd) (p : Addr) (o : FO) : Wd := ⟨fun a => if a = p then some o else W.fz a, W.io, fun a => if a = p then none else W.hd a⟩
theorem ext_doneF {p : Addr} {o : HO} {f : FO} (h1 : W.fz p = none) (h2 : W.hd p = none) (e : Ext (W.hold p o) W') (h3 : W'.fz p = none) : Ext W (W'.doneF p f) := by
  refine ⟨fun a u q => ?_, e.io, ?_⟩
  · show (if a = p then some f else W'.fz a) = some u
    have z : a ≠ p := fun z => by rw [z, h1] at q; cases q
    rw [if_neg z]
    exact e.fz a u q
  · funext a
    show (if a = p then none else W'.hd a) = W.hd a
    by_cases z : a = p
    · rw [if_pos z, z, h2]
    · rw [if_neg z, e.hd]
      show (if a = p then some o else W.hd a) = W.hd a
      rw [if_neg z]
theorem FO.nofrz (f : FO) : ¬ IsFrz f.ho := fun ⟨od, u, e⟩ => by cases f <;> cases e
theorem Sim.doneF (s : Sim K bs W S H) {p : Addr} {f : FO} (hp : W.hd p = some f.ho) : Sim K bs (W.doneF p f) S H := by
  obtain ⟨g1, g2, g3⟩ := s.held p _ hp
  have g3 := g3.resolve_left f.nofrz
  refine ⟨fun a u q => ?_, s.dom, s.inj, s.bsz, fun a u q => ?_, fun n u q => ?_⟩
  · unfold Wd.doneF at q
    by_cases z : a = p
    · simp only [if_pos z] at q
      cases q
      subst z
      cases f with
      | lst vs => exact .inl g1
      | tup vs => exact .inl g1
      | dct kvs => exact g1
    · simp only [if_neg z] at q
      exact s.fz a u q
  · unfold Wd.doneF at q
    by_cases z : a = p
    · simp only [if_pos z] at q
      cases q
    · simp only [if_neg z] at q
      obtain ⟨h1, h2, h3⟩ := s.held a u q
      refine ⟨h1, ?_, h3⟩
      show (if a = p then some f else W.fz a) = none
      rw [if_neg z]
      exact h2
  · obtain ⟨b, h1, h2, h3, h4⟩ := s.live n u q
    have nb : b ≠ p := fun z => g3 n (by rw [← z]; exact h1)
    have fe : ∀ a u, W.fz a = some u → (W.doneF p f).fz a = some u := fun a u q => by
      show (if a = p then some f else W.fz a) = some u
      have z : a ≠ p := fun z => by rw [z, g2] at q; cases q
      rw [if_neg z]
      exact q
    refine ⟨b, h1, ?_, h3.monoF fe (fun _ _ h => h) rfl (if_neg nb), fun c hc hn => (h4 c hc hn).monoF fe (fun _ _ h => h) rfl (if_neg nb)⟩
    show (if b = p then some f else W.fz b) = none
    rw [if_neg nb]
    exact h2
/-- it is made: an object of the store -/
def Wd.doneR (W : Wd) (n : Nat) (p : Addr) : Wd := ⟨W.fz, fun m => if m = n then some p else W.io m, fun a => if a = p then none else W.hd a⟩
theorem ext_doneR {n : Nat} {p : Addr} {o : HO} (h2 : W.hd p = none) (e : Ext (W.hold p o) W') (h3 : W'.io n = none) : Ext W (W'.doneR n p) := by
  refine ⟨e.fz, fun m u q => ?_, ?_⟩
  · show (if m = n then some p else W'.io m) = some u
    have q' := e.io m u q
    have z : m ≠ n := fun z => by rw [z, h3] at q'; cases q'
    rw [if_neg z]
    exact q'
  · funext a
    show (if a = p then none else W'.hd a) = W.hd a
    by_cases z : a = p
    · rw [if_pos z, z, h2]
    · rw [if_neg z, e.hd]
      show (if a = p then some o else W.hd a) = W.hd a
      rw [if_neg z]
theorem Sim.doneR (s : Sim K bs W S H) {p : Addr} {o : O} {h : HO} (hp : W.hd p = some h) (ho : ¬ IsFrz h) (hh : OOk K W H p o) : Sim K bs (W.doneR S.length p) (S ++ [o]) H := by
  obtain ⟨g1, g2, g3⟩ := s.held p _ hp
  have g3 := g3.resolve_left ho
  have hn := s.ioNone (Nat.le_refl S.length)
  have ie : ∀ m u, W.io m = some u → (W.doneR S.length p).io m = some u := fun m u q => by
    show (if m = S.length then some p else W.io m) = some u
    have z : m ≠ S.length := fun z => by rw [z, hn] at q; cases q
    rw [if_neg z]
    exact q
  have ic : ∀ c m u, (W.cut c).io m = some u → ((W.doneR S.length p).cut c).io m = some u := fun c m u q => by
    unfold Wd.cut at q ⊢
    simp only at q ⊢
    split at q
    · rename_i z; rw [if_pos z]; exact ie m u q
    · cases q
  refine ⟨s.fz, fun n a q => ?_, fun n m a q1 q2 => ?_, fun c hc => by rw [List.length_append]; have := s.bsz c hc; omega, fun a u q => ?_, fun n u q => ?_⟩
  · rw [List.length_append]
    unfold Wd.doneR at q
    by_cases z : n = S.length
    · rw [z]; simp
    · simp only [if_neg z] at q
      have := s.dom n a q
      omega
  · unfold Wd.doneR at q1 q2
    by_cases z1 : n = S.length
    · by_cases z2 : m = S.length
      · rw [z1, z2]
      · simp only [if_neg z2] at q2
        simp only [if_pos z1] at q1
        cases q1
        exact (g3 m q2).elim
    · simp only [if_neg z1] at q1
      by_cases z2 : m = S.length
      · simp only [if_pos z2] at q2
        cases q2
        exact (g3 n q1).elim
      · simp only [if_neg z2] at q2
        exact s.inj n m a q1 q2
  · unfold Wd.doneR at q
    by_cases z : a = p
    · simp only [if_pos z] at q
      cases q
    · simp only [if_neg z] at q
      obtain ⟨h1, h2, h3⟩ := s.held a u q
      refine ⟨h1, h2, h3.imp id fun h3 n y => ?_⟩
      unfold Wd.doneR at y
      by_cases zn : n = S.length
      · simp only [if_pos zn] at y
        cases y
        exact z rfl
      · simp only [if_neg zn] at y
        exact h3 n y
  · by_cases z : n < S.length
    · rw [List.getElem?_append_left z] at q
      obtain ⟨b, h1, h2, h3, h4⟩ := s.live n u q
      have nb : b ≠ p := fun e => g3 n (by rw [← e]; exact h1)
      exact ⟨b, ie _ _ h1, h2, h3.monoF (fun _ _ h => h) ie rfl (if_neg nb), fun c hc hn => (h4 c hc hn).monoF (fun _ _ h => h) (ic c) rfl (if_neg nb)⟩
    · have z' : n = S.length := by
        have := (List.getElem?_eq_some_iff.mp q).1
        rw [List.length_append] at this
        simp at this
        omega
      subst z'
      rw [List.getElem?_append_right (Nat.le_refl _)] at q
      simp at q
      subst q
      refine ⟨p, ?_, g2, hh.fresh (fun od u e => ho ⟨od, u, by rw [g1] at e; exact Option.some.inj e⟩) (fun _ _ h => h) ie, fun c hc hn => ?_⟩
      · show (if S.length = S.length then some p else _) = some p
        rw [if_pos rfl]
      · have := s.bsz c hc
        omega
/-! ### reading -/
theorem Sim.lat (s : Sim K bs W S H) {vs : List V} (h : LAt K W a vs) : ExL K H a vs := by
  rcases h with h | h
  · exact .inl (s.fz a _ h)
  · exact .inr h
theorem Sim.tat (s : Sim K bs W S H) {vs : List V} (h : TAt K W a vs) : SqT K H a vs := by
  rcases h with h | h
  · exact .inl (s.fz a _ h)
  · exact .inr h
theorem Sim.lstOf (s : Sim K bs W S H) {v : V} {d : D} {ds : List D} (r : Rep K W v d) (h : lstOf S d = some ds) : ∃ a vs, v = .ref a ∧ ExL K H a vs ∧ RepAll K W vs ds := by
  cases r with
  | lst h1 h2 =>
    cases h
    exact ⟨_, _, rfl, s.lat h1, h2⟩
  | @ref b n h1 =>
    unfold Pv.lstOf at h
    simp only at h
    split at h
    · rename_i xs q
      cases h
      obtain ⟨p, g1, g2, ⟨vs, g3, g4⟩, _⟩ := s.live n _ q
      rw [h1] at g1
      cases g1
      exact ⟨_, _, rfl, .inl (.inl g3), g4⟩
    · cases h
  | _ => cases h
theorem Sim.seqOf (s : Sim K bs W S H) {v : V} {d : D} {ds : List D} (r : Rep K W v d) (h : seqOf S d = some ds) : ∃ a vs, v = .ref a ∧ (ExL K H a vs ∨ SqT K H a vs) ∧ RepAll K W vs ds := by
  cases r with
  | tup h1 h2 =>
    cases h
    exact ⟨_, _, rfl, .inr (s.tat h1), h2⟩
  | lst h1 h2 =>
    cases h
    exact ⟨_, _, rfl, .inl (s.lat h1), h2⟩
  | @ref b n h1 =>
    have h' : Pv.lstOf S (.ref n) = some ds := h
    obtain ⟨a, vs, e, q, r⟩ := s.lstOf (.ref (K := K) h1) h'
    exact ⟨a, vs, e, .inl q, r⟩
  | _ => cases h
theorem Sim.dctOf (s : Sim K bs W S H) {v : V} {d : D} {ks : List Key} {ds : List D} (r : Rep K W v d) (h : dctOf S d = some (ks, ds)) : ∃ a kvs, v = .ref a ∧ Rd H a (.dK kvs) ∧ ks = kvs.map (·.1) ∧ RepAll K W (kvs.map (·.2)) ds := by
  cases r with
  | dct h1 h2 =>
    cases h
    exact ⟨_, _, rfl, .inl (s.fz _ _ h1), rfl, h2⟩
  | @ref b n h1 =>
    unfold Pv.dctOf at h
    simp only at h
    split at h
    · rename_i ks' vs' q
      cases h
      obtain ⟨p, g1, g2, ⟨kvs, g3, g4, g5⟩, _⟩ := s.live n _ q
      rw [h1] at g1
      cases g1
      exact ⟨_, _, rfl, .inl g3, g4, g5⟩
    · rename_i ks' vs' q
      cases h
      obtain ⟨p, g1, g2, ⟨od, kvs, g3, _, g4, g5⟩, _⟩ := s.live n _ q
      rw [h1] at g1
      cases g1
      exact ⟨_, _, rfl, .inr ⟨od, g3⟩, g4, g5⟩
    · cases h
  | _ => cases h
/-- the object of the store itself -/
theorem Sim.lstRef (s : Sim K bs W S H) {v : V} {n : Nat} {ds : List D} (r : Rep K W v (.ref n)) (h : S[n]? = some (.lst ds)) : ∃ a vs, v = .ref a ∧ W.io n = some a ∧ H a = some (.lst vs) ∧ RepAll K W vs ds ∧ ∀ c ∈ bs, n < c → RepAll K (W.cut c) vs ds := by
  cases r with
  | @ref b n h1 =>
    obtain ⟨p, g1, g2, ⟨vs, g3, g4⟩, g5⟩ := s.live n _ h
    rw [h1] at g1
    cases g1
    refine ⟨_, vs, rfl, h1, g3, g4, fun c hc hn => ?_⟩
    obtain ⟨vs', q1, q2⟩ := g5 c hc hn
    rw [g3] at q1
    cases q1
    exact q2
theorem Sim.dctRef (s : Sim K bs W S H) {v : V} {n : Nat} {ks : List Key} {ds : List D} (r : Rep K W v (.ref n)) (h : S[n]? = some (.dct ks ds)) : ∃ a kvs, v = .ref a ∧ W.io n = some a ∧ H a = some (.dK kvs) ∧ ks = kvs.map (·.1) ∧ RepAll K W (kvs.map (·.2)) ds ∧ ∀ c ∈ bs, n < c → RepAll K (W.cut c) (kvs.map (·.2)) ds := by
  cases r with
  | @ref b n h1 =>
    obtain ⟨p, g1, g2, ⟨vs, g3, g4, g6⟩, g5⟩ := s.live n _ h
    rw [h1] at g1
    cases g1
    refine ⟨_, vs, rfl, h1, g3, g4, g6, fun c hc hn => ?_⟩
    obtain ⟨vs', q1, q2, q3⟩ := g5 c hc hn
    rw [g3] at q1
    cases q1
    exact q3
/-! ### a dict that is walked -/
theorem Sim.lock (s : Sim K bs W S H) {n : Nat} {ks : List Key} {ds : List D} (h : S[n]? = some (.dct ks ds)) : ∃ a kvs, W.io n = some a ∧ W.hd a = none ∧ H a = some (.dK kvs) ∧ ks = kvs.map (·.1) ∧ RepAll K W (kvs.map (·.2)) ds ∧
    ∀ od, Sim K bs (W.hold a (.frz od (.dK kvs))) (S.set n (.lck ks ds)) (upd H a (.frz od (.dK kvs))) := by
  obtain ⟨a, h1, h2, ⟨kvs, h3, h4, h5⟩, h6⟩ := s.live n _ h
  have hl : n < S.length := s.dom n a h1
  have hda : W.hd a = none := by
    cases e : W.hd a with
    | none => rfl
    | some o =>
      obtain ⟨g1, _, g3⟩ := s.held a o e
      rw [h3] at g1
      cases g1
      rcases g3 with ⟨od, u, z⟩ | g3
      · cases z
      · exact (g3 n h1).elim
  refine ⟨a, kvs, h1, hda, h3, h4, h5, fun od => ?_⟩
  have hdn : ∀ {b}, b ≠ a → (W.hold a (.frz od (.dK kvs))).hd b = W.hd b := fun nb => if_neg nb
  refine ⟨fun b u q => ?_, fun m b q => by rw [List.length_set]; exact s.dom m b q, s.inj, fun c hc => by rw [List.length_set]; exact s.bsz c hc, fun b u q => ?_, fun m u q => ?_⟩
  · have nb : b ≠ a := fun z => by
      have q' : W.fz b = some u := q
      rw [z, h2] at q'; cases q'
    exact (s.fz b u q).same (upd_ne nb)
  · by_cases nb : b = a
    · have q' : (if b = a then some (HO.frz od (.dK kvs)) else W.hd b) = some u := q
      rw [if_pos nb] at q'
      cases q'
      rw [nb]
      exact ⟨upd_same, h2, .inl ⟨od, _, rfl⟩⟩
    · rw [hdn nb] at q
      obtain ⟨g1, g2, g3⟩ := s.held b u q
      exact ⟨(upd_ne nb).trans g1, g2, g3⟩
  · by_cases hm : m = n
    · subst hm
      rw [List.getElem?_set_self hl] at q
      cases q
      refine ⟨a, h1, h2, ⟨od, kvs, upd_same, hold_self, h4, RepAll.monoF (W := W) (W' := W.hold a (.frz od (.dK kvs))) (fun _ _ h => h) (fun _ _ h => h) h5⟩, fun c hc hn => ?_⟩
      obtain ⟨kvs', g1, g2, g3⟩ := h6 c hc hn
      rw [h3] at g1
      cases g1
      exact ⟨od, kvs, upd_same, hold_self, h4, RepAll.monoF (W := W.cut c) (W' := (W.hold a (.frz od (.dK kvs))).cut c) (fun _ _ h => h) (fun _ _ h => h) g3⟩
    · rw [List.getElem?_set_ne (Ne.symm hm)] at q
      obtain ⟨b, g1, g2, g3, g4⟩ := s.live m u q
      have nb : b ≠ a := fun z => hm (s.inj m n a (by rw [← z]; exact g1) h1)
      exact ⟨b, g1, g2, g3.mono' (upd_ne nb) (eh := hdn nb), fun c hc hn => (g4 c hc hn).mono' (upd_ne nb) (eh := hdn nb)⟩
def Wd.unhold (W : Wd) (p : Addr) : Wd := ⟨W.fz, W.io, fun a => if a = p then none else W.hd a⟩
theorem Sim.unlock (s : Sim K bs W S H) {n : Nat} {a : Addr} {kvs : List (Key × V)} {od : Obj} {ks : List Key} {ds : List D} (h1 : W.io n = some a) (hd : W.hd a = some (.frz od (.dK kvs))) (h : S[n]? = some (.lck ks ds)) : Sim K bs (W.unhold a) (S.set n (.dct ks ds)) (upd H a (.dK kvs)) := by
  obtain ⟨a', h1', h2, ⟨od', kvs', h3, h3', h4, h5⟩, h6⟩ := s.live n _ h
  rw [h1] at h1'
  cases h1'
  rw [hd] at h3'
  cases h3'
  have hl : n < S.length := s.dom n a h1
  have hdn : ∀ {b}, b ≠ a → (W.unhold a).hd b = W.hd b := fun nb => if_neg nb
  refine ⟨fun b u q => ?_, fun m b q => by rw [List.length_set]; exact s.dom m b q, s.inj, fun c hc => by rw [List.length_set]; exact s.bsz c hc, fun b u q => ?_, fun m u q => ?_⟩
  · have nb : b ≠ a := fun z => by
      have q' : W.fz b = some u := q
      rw [z, h2] at q'; cases q'
    exact (s.fz b u q).same (upd_ne nb)
  · by_cases nb : b = a
    · have q' : (if b = a then none else W.hd b) = some u := q
      rw [if_pos nb] at q'
      cases q'
    · rw [hdn nb] at q
      obtain ⟨g1, g2, g3⟩ := s.held b u q
      exact ⟨(upd_ne nb).trans g1, g2, g3⟩
  · by_cases hm : m = n
    · subst hm
      rw [List.getElem?_set_self hl] at q
      cases q
      refine ⟨a, h1, h2, ⟨kvs, upd_same, h4, RepAll.monoF (W := W) (W' := W.unhold a) (fun _ _ h => h) (fun _ _ h => h) h5⟩, fun c hc hn => ?_⟩
      obtain ⟨od2, kvs', g1, _, g2, g3⟩ := h6 c hc hn
      rw [h3] at g1
      cases g1
      exact ⟨kvs, upd_same, h4, RepAll.monoF (W := W.cut c) (W' := (W.unhold a).cut c) (fun _ _ h => h) (fun _ _ h => h) g3⟩
    · rw [List.getElem?_set_ne (Ne.symm hm)] at q
      obtain ⟨b, g1, g2, g3, g4⟩ := s.live m u q
      have nb : b ≠ a := fun z => hm (s.inj m n a (by rw [← z]; exact g1) h1)
      exact ⟨b, g1, g2, g3.mono' (upd_ne nb) (eh := hdn nb), fun c hc hn => (g4 c hc hn).mono' (upd_ne nb) (eh := hdn nb)⟩
end
mutual
/-- data without objects of the store stand in each cut -/
theorem Rep.closed {K : PySem.W.Frag} {W : Wd} (c : Nat) : ∀ {v : V} {d : D}, Rep K W v d → d.und c = true → Rep K (W.cut c) v d
  | _, _, .non, _ => .non
  | _, _, .bl b, _ => .bl b
  | _, _, .int i, _ => .int i
  | _, _, .str x, _ => .str x
  | _, _, .tup h r, u => .tup h (r.closed c u)
  | _, _, .lst h r, u => .lst h (r.closed c u)
  | _, _, .dct h r, u => .dct h (r.closed c u)
  | _, _, .ref h, u => .ref (by
      have u' : decide (_ < c) = true := u
      unfold Wd.cut
      simp only [if_pos (of_decide_eq_true u')]
      exact h)
theorem RepAll.closed {K : PySem.W.Frag} {W : Wd} (c : Nat) : ∀ {vs : List V} {ds : List D}, RepAll K W vs ds → D.undAll c ds = true → RepAll K (W.cut c) vs ds
  | _, _, .nil, _ => .nil
  | _, _, .cons a b, u => by
    have u' : (D.und c _ && D.undAll c _) = true := u
    obtain ⟨h1, h2⟩ := Bool.and_eq_true_iff.mp u'
    exact .cons (a.closed c h1) (b.closed c h2)
end
mutual
theorem D.und_mono {b c : Nat} (h : b ≤ c) : ∀ (d : D), d.und b = true → d.und c = true
  | .non, _ => rfl
  | .bl _, _ => rfl
  | .int _, _ => rfl
  | .str _, _ => rfl
  | .tup xs, u => D.undAll_mono h xs u
  | .lst xs, u => D.undAll_mono h xs u
  | .dct _ xs, u => D.undAll_mono h xs u
  | .ref n, u => by
    have u' : decide (n < b) = true := u
    exact decide_eq_true (Nat.lt_of_lt_of_le (of_decide_eq_true u') h)
theorem D.undAll_mono {b c : Nat} (h : b ≤ c) : ∀ (ds : List D), D.undAll b ds = true → D.undAll c ds = true
  | [], _ => rfl
  | x :: r, u => by
    obtain ⟨h1, h2⟩ := Bool.and_eq_true_iff.mp (show (D.und b x && D.undAll b r) = true from u)
    exact Bool.and_eq_true_iff.mpr ⟨D.und_mono h x h1, D.undAll_mono h r h2⟩
end
end Pv

/-! What the evaluator tells, as readings of the hand layer. -/
namespace Pv
open PySem L2

/-- an error on its way: its class, its own dict -/
def RepX (K : PySem.W.Frag) (mg : Str → Option Value) (W : Wd) (H : L2.Hp) (x : Exn) (c : Value) (dc : Option Addr) : Prop :=
  ∃ C, mg x.cls = some (.ref C) ∧ c = .ref C ∧ ((x.fs = [] ∧ dc = none) ∨ ∃ f d v e, x.fs = [(f, d)] ∧ dc = some e ∧ H e = some (.xd [(f, v)]) ∧ Rep K W v d)
def EXx (K : PySem.W.Frag) (mg : Str → Option Value) (Ex : XK) (x : Exn) (W : Wd) (H : L2.Hp) : Prop := ∀ c dc, RepX K mg W H x c dc → Ex c dc H
/-- what holds behind -/
def After {α : Type} (K : PySem.W.Frag) (bs : List Nat) (EX : Exn → Wd → L2.Hp → Prop) (W : Wd) (r : Res α) (Q : α → Store → Wd → L2.Hp → Prop) : Prop :=
  match r with
  | .ok a S => ∀ W' H', Ext W W' → Sim K bs W' S H' → Q a S W' H'
  | .exc x S => ∀ W' H', Ext W W' → Sim K bs W' S H' → EX x W' H'
  | .bad => False
section
variable {α β : Type} {K : PySem.W.Frag} {bs : List Nat} {EX : Exn → Wd → L2.Hp → Prop} {W W1 : Wd} {r : Res α} {Q Q' : α → Store → Wd → L2.Hp → Prop}
theorem After.ext (e : Ext W W1) (h : After K bs EX W r Q) : After K bs EX W1 r Q := by
  cases r with
  | ok a S => exact fun W' H' e' s => h W' H' (e.trans e') s
  | exc x S => exact fun W' H' e' s => h W' H' (e.trans e') s
  | bad => exact h
theorem After.imp (h : After K bs EX W r Q) (f : ∀ a S W' H', Ext W W' → Sim K bs W' S H' → Q a S W' H' → Q' a S W' H') : After K bs EX W r Q' := by
  cases r with
  | ok a S => exact fun W' H' e s => f a S W' H' e s (h W' H' e s)
  | exc x S => exact h
  | bad => exact h
theorem After.bind {f : α → Store → Res β} {Q : β → Store → Wd → L2.Hp → Prop} (h : After K bs EX W (r.bind f) Q) : After K bs EX W r (fun a S W' _ => After K bs EX W' (f a S) Q) := by
  cases r with
  | ok a S => exact fun W' H' e s => After.ext e h
  | exc x S => exact h
  | bad => exact h
theorem After.lift {o : Option α} {S : Store} (h : After K bs EX W (lift S o) Q) : ∃ a, o = some a ∧ After K bs EX W (.ok a S) Q := by
  cases o with
  | some a => exact ⟨a, rfl, h⟩
  | none => exact h.elim
theorem After.now {a : α} {S : Store} {H : L2.Hp} (h : After K bs EX W (.ok a S) Q) (s : Sim K bs W S H) : Q a S W H := h W H (Ext.refl W) s
end

/-- the slots of a frame -/
def EnvOk (K : PySem.W.Frag) (W : Wd) (ρ : Env) (σ : L2.St) : Prop := ρ.length = σ.length ∧ ∀ (i : Nat) (d : D), ρ[i]? = some (some d) → ∃ v, σ[i]? = some (some v) ∧ Rep K W v d
section
variable {K : PySem.W.Frag} {W W' : Wd} {ρ : Env} {σ : L2.St}
theorem EnvOk.mono (e : Ext W W') (h : EnvOk K W ρ σ) : EnvOk K W' ρ σ := ⟨h.1, fun i d q => let ⟨v, h1, h2⟩ := h.2 i d q; ⟨v, h1, h2.mono e⟩⟩
theorem EnvOk.set {i : Nat} {v : V} {d : D} (h : EnvOk K W ρ σ) (r : Rep K W v d) : EnvOk K W (ρ.set i (some d)) (σ.set i (some v)) := by
  refine ⟨by rw [List.length_set, List.length_set]; exact h.1, fun j e q => ?_⟩
  by_cases hj : j = i
  · subst hj
    by_cases hl : j < ρ.length
    · rw [List.getElem?_set_self hl] at q
      cases q
      exact ⟨v, by rw [List.getElem?_set_self (by rw [← h.1]; exact hl)], r⟩
    · rw [List.getElem?_eq_none (by rw [List.length_set]; omega)] at q
      cases q
  · rw [List.getElem?_set_ne (Ne.symm hj)] at q
    obtain ⟨w, h1, h2⟩ := h.2 j e q
    exact ⟨w, by rw [List.getElem?_set_ne (Ne.symm hj)]; exact h1, h2⟩
theorem EnvOk.unset {i : Nat} (h : EnvOk K W ρ σ) : EnvOk K W (ρ.set i none) (σ.set i none) := by
  refine ⟨by rw [List.length_set, List.length_set]; exact h.1, fun j e q => ?_⟩
  by_cases hj : j = i
  · subst hj
    by_cases hl : j < ρ.length
    · rw [List.getElem?_set_self hl] at q
      cases q
    · rw [List.getElem?_eq_none (by rw [List.length_set]; omega)] at q
      cases q
  · rw [List.getElem?_set_ne (Ne.symm hj)] at q
    obtain ⟨w, h1, h2⟩ := h.2 j e q
    exact ⟨w, by rw [List.getElem?_set_ne (Ne.symm hj)]; exact h1, h2⟩
theorem EnvOk.wipe (h : EnvOk K W ρ σ) : ∀ vs : List Nat, EnvOk K W (wipeE ρ vs) (wipe σ vs)
  | [] => h
  | _ :: vs => (h.wipe vs).unset
end

/-! ### readings by the evaluator -/
section
variable (K : PySem.W.Frag) (mg : Str → Option Value) (bs : List Nat) (Ex : XK)
def tE (r : Env → Store → Res D) : TE := fun σ H Q => ∃ W ρ S, EnvOk K W ρ σ ∧ Sim K bs W S H ∧ After K bs (EXx K mg Ex) W (r ρ S) fun d _ W' H' => ∀ v, Rep K W' v d → Q v H'
def tB (r : Env → Store → Res Bool) : TT := fun σ H Q => ∃ W ρ S, EnvOk K W ρ σ ∧ Sim K bs W S H ∧ After K bs (EXx K mg Ex) W (r ρ S) fun k _ _ H' => Q k H'
def tAs (r : Env → Store → Res (List D)) : TA := fun σ H Q => ∃ W ρ S, EnvOk K W ρ σ ∧ Sim K bs W S H ∧ After K bs (EXx K mg Ex) W (r ρ S) fun ds _ W' H' => ∀ vs, RepAll K W' vs ds → Q vs H'
def tOp' (r : Env → Store → Res (Option Int)) : TO := fun σ H Q => ∃ W ρ S, EnvOk K W ρ σ ∧ Sim K bs W S H ∧ After K bs (EXx K mg Ex) W (r ρ S) fun o _ _ H' => Q o H'
end
theorem PEimp {X : Cx} {e : Expr} {t t' : TE} (h : PE X e t) (f : ∀ σ H Q, t' σ H Q → t σ H Q) : PE X e t' := ⟨fun pins s σ H Q I q => h.run pins s σ H Q I (f σ H Q q)⟩
theorem PTimp {X : Cx} {e : Expr} {t t' : TT} (h : PT X e t) (f : ∀ σ H Q, t' σ H Q → t σ H Q) : PT X e t' := ⟨fun pins s σ H Q I q => h.run pins s σ H Q I (f σ H Q q)⟩
theorem PWimp {X : Cx} {e : Expr} {t t' : TT} (h : PW X e t) (f : ∀ σ H Q, t' σ H Q → t σ H Q) : PW X e t' := ⟨fun wh pins s σ H Q I q => h.run wh pins s σ H Q I (f σ H Q q)⟩
theorem PAimp {X : Cx} {es : List Expr} {t t' : TA} (h : PA X es t) (f : ∀ σ H Q, t' σ H Q → t σ H Q) : PA X es t' := ⟨fun pos pins s σ H Q I q => h.run pos pins s σ H Q I (f σ H Q q)⟩
section
variable {K : PySem.W.Frag} {mg : Str → Option Value} {bs : List Nat} {Ex : XK} {ra rb rc : Env → Store → Res D} {σ : L2.St} {H : L2.Hp} {Q : VK}
/-- two operands -/
theorem tE_bin {f : D → D → Store → Res D} {rr : R2}
    (hop : ∀ W S H x y d e Q, Sim K bs W S H → Rep K W x d → Rep K W y e → After K bs (EXx K mg Ex) W (f d e S) (fun d _ W' H' => ∀ v, Rep K W' v d → Q v H') → rr x y H Q)
    (h : tE K mg bs Ex (fun ρ S => (ra ρ S).bind fun d S1 => (rb ρ S1).bind fun e S2 => f d e S2) σ H Q) : tOp rr (tE K mg bs Ex ra) (tE K mg bs Ex rb) σ H Q := by
  obtain ⟨W, ρ, S, ev, sm, a⟩ := h
  refine ⟨W, ρ, S, ev, sm, a.bind.imp fun d S1 W1 H1 e1 s1 a1 x rx => ?_⟩
  refine ⟨W1, ρ, S1, ev.mono e1, s1, a1.bind.imp fun e S2 W2 H2 e2 s2 a2 y ry => ?_⟩
  exact hop W2 S2 H2 x y d e Q s2 (rx.mono e2) ry a2
/-- one operand -/
theorem tE_un {f : D → Store → Res D} {rr : V → L2.Hp → VK → Prop}
    (hop : ∀ W S H x d Q, Sim K bs W S H → Rep K W x d → After K bs (EXx K mg Ex) W (f d S) (fun d _ W' H' => ∀ v, Rep K W' v d → Q v H') → rr x H Q)
    (h : tE K mg bs Ex (fun ρ S => (ra ρ S).bind fun d S1 => f d S1) σ H Q) : tUn rr (tE K mg bs Ex ra) σ H Q := by
  obtain ⟨W, ρ, S, ev, sm, a⟩ := h
  refine ⟨W, ρ, S, ev, sm, a.bind.imp fun d S1 W1 H1 e1 s1 a1 x rx => ?_⟩
  exact hop W1 S1 H1 x d Q s1 rx a1
theorem tE_var {i : Nat} (h : tE K mg bs Ex (fun ρ S => match ρ[i]? with
    | some (some d) => .ok d S
    | _ => .bad) σ H Q) : tVar i σ H Q := by
  obtain ⟨W, ρ, S, ev, sm, a⟩ := h
  dsimp only at a
  cases e : ρ[i]? with
  | none => rw [e] at a; exact a.elim
  | some o =>
    rw [e] at a
    cases o with
    | none => exact a.elim
    | some d =>
      obtain ⟨v, h1, h2⟩ := ev.2 i d e
      exact ⟨v, h1, a.now sm v h2⟩
theorem tE_cst {v : V} {d : D} (r : ∀ W, Rep K W v d) (h : tE K mg bs Ex (fun _ S => .ok d S) σ H Q) : tC v σ H Q := by
  obtain ⟨W, ρ, S, ev, sm, a⟩ := h
  exact a.now sm v (r W)
/-! new objects -/
theorem new_fix {W : Wd} {S : Store} {o : FO} {d : D} {p : Addr} (sm : Sim K bs W S H) (hp : H p = none) (r : Rep K (W.addF p o) (.ref p) d)
    (a : After K bs (EXx K mg Ex) W (.ok d S) fun d _ W' H' => ∀ v, Rep K W' v d → Q v H') : Q (.ref p) (upd H p o.ho) :=
  a _ _ (addF_ext (sm.fzNone hp)) (sm.newF hp o) _ r
theorem addF_self {W : Wd} {p : Addr} {o : FO} : (W.addF p o).fz p = some o := by
  show (if p = p then some o else W.fz p) = some o
  rw [if_pos rfl]
theorem new_tup {W : Wd} {S : Store} {ds : List D} {vs : List V} {p : Addr} (sm : Sim K bs W S H) (hp : H p = none) (r : RepAll K W vs ds)
    (a : After K bs (EXx K mg Ex) W (.ok (.tup ds) S) fun d _ W' H' => ∀ v, Rep K W' v d → Q v H') : Q (.ref p) (upd H p (.tup vs)) :=
  new_fix (o := .tup vs) sm hp (.tup (.inl addF_self) (r.mono (addF_ext (sm.fzNone hp)))) a
/-- a list, by the mode -/
theorem new_lst {md : Bool} {W : Wd} {S : Store} {ds : List D} {vs : List V} {p : Addr} (sm : Sim K bs W S H) (hp : H p = none) (r : RepAll K W vs ds)
    (a : After K bs (EXx K mg Ex) W (newL md S ds) fun d _ W' H' => ∀ v, Rep K W' v d → Q v H') : Q (.ref p) (upd H p (.lst vs)) := by
  cases md with
  | false => exact new_fix (o := .lst vs) sm hp (.lst (.inl addF_self) (r.mono (addF_ext (sm.fzNone hp)))) a
  | true =>
    have e := addR_ext (p := p) (sm.ioNone (Nat.le_refl S.length))
    refine a _ _ e (sm.newR hp (h := .lst vs) ⟨vs, upd_same, r.mono e⟩) _ (.ref ?_)
    show (if S.length = S.length then some p else _) = some p
    rw [if_pos rfl]
theorem new_dct {md : Bool} {W : Wd} {S : Store} {ks : List Key} {ds : List D} {kvs : List (Key × V)} {p : Addr} (sm : Sim K bs W S H) (hp : H p = none) (hk : ks = kvs.map (·.1)) (r : RepAll K W (kvs.map (·.2)) ds)
    (a : After K bs (EXx K mg Ex) W (newD md S ks ds) fun d _ W' H' => ∀ v, Rep K W' v d → Q v H') : Q (.ref p) (upd H p (.dK kvs)) := by
  cases md with
  | false =>
    subst hk
    exact new_fix (o := .dct kvs) sm hp (.dct addF_self (r.mono (addF_ext (sm.fzNone hp)))) a
  | true =>
    have e := addR_ext (p := p) (sm.ioNone (Nat.le_refl S.length))
    refine a _ _ e (sm.newR hp (h := .dK kvs) ⟨kvs, upd_same, hk, r.mono e⟩) _ (.ref ?_)
    show (if S.length = S.length then some p else _) = some p
    rw [if_pos rfl]
end
end Pv

/-! Operators: the evaluator's answer is the model's. -/
namespace Pv
open PySem L2 PyProof.Rows

section
variable (K : PySem.W.Frag) (mg : Str → Option Value) (bs : List Nat) (Ex : XK)
/-- the end of an evaluation, as a wish of the value -/
abbrev AfV (W : Wd) (r : Res D) (Q : VK) : Prop := After K bs (EXx K mg Ex) W r (fun d _ W' H' => ∀ v, Rep K W' v d → Q v H')
def rS2 (f : D → D → Store → Res D) : R2 := fun x y H Q => ∃ W S d e, Sim K bs W S H ∧ Rep K W x d ∧ Rep K W y e ∧ AfV K mg bs Ex W (f d e S) Q
def rS1 (f : D → Store → Res D) : V → L2.Hp → VK → Prop := fun x H Q => ∃ W S d, Sim K bs W S H ∧ Rep K W x d ∧ AfV K mg bs Ex W (f d S) Q
def rSA (f : List D → Store → Res D) : List V → L2.Hp → VK → Prop := fun vs H Q => ∃ W S ds, Sim K bs W S H ∧ RepAll K W vs ds ∧ AfV K mg bs Ex W (f ds S) Q
end
theorem lim_line : LIM ≤ sizeLine := by rw [sizeLine_eq]; decide
theorem le_line {n : Nat} (h : n ≤ LIM) : n ≤ sizeLine := Nat.le_trans h lim_line

/-! ### sums and products -/
theorem add_cases {d e r : D} (h : binV .add d e = some r) : (∃ i j, d = .int i ∧ e = .int j ∧ r = .int (i + j)) ∨ (∃ x y, d = .str x ∧ e = .str y ∧ x.length + y.length ≤ LIM ∧ r = .str (x ++ y)) ∨
    ∃ xs ys, d = .tup xs ∧ e = .tup ys ∧ xs.length + ys.length ≤ LIM ∧ r = .tup (xs ++ ys) := by
  unfold binV at h
  split at h <;> first | (cases h; done) | skip
  all_goals first
    | (cases h; exact .inl ⟨_, _, rfl, rfl, rfl⟩)
    | (split at h
       · cases h
         first
         | exact .inr (.inl ⟨_, _, rfl, rfl, by assumption, rfl⟩)
         | exact .inr (.inr ⟨_, _, rfl, rfl, by assumption, rfl⟩)
       · cases h)
    | skip
  all_goals (rename_i q; cases q)
theorem mul_cases {d e r : D} (h : binV .mul d e = some r) : (∃ i j, d = .int i ∧ e = .int j ∧ bitsOk i j = true ∧ r = .int (i * j)) ∨
    ∃ xs k, d = .tup xs ∧ e = .int k ∧ (2 ≤ k ∧ k ≤ 1000 ∧ xs.length ≤ 1000 ∧ xs ≠ []) ∧ r = .tup (List.replicate k.toNat xs).flatten := by
  cases d <;> cases e <;> simp only [binV] at h <;> first | (cases h; done) | skip
  · split at h
    · cases h; exact .inl ⟨_, _, rfl, rfl, by assumption, rfl⟩
    · cases h
  · split at h
    · cases h; exact .inr ⟨_, _, rfl, rfl, by assumption, rfl⟩
    · cases h
section
variable {X : Cx} {mg : Str → Option Value} {bs : List Nat} {Ex : XK}
/-- two lists that are read, one behind the other -/
theorem op_catX : OpR X (binaryOp .Add) (fun x y H Q => ∃ l b xs zs, x = .ref l ∧ y = .ref b ∧ ExL X.K H l xs ∧ ExL X.K H b zs ∧ xs.length + zs.length ≤ sizeLine ∧ ∀ p, H p = none → Q (.ref p) (upd H p (.lst (xs ++ zs)))) := by
  intro pins s σ H x y v u Q I rx ry h
  obtain ⟨l, b, xs, zs, rfl, rfl, hH, hB, hz, q⟩ := h
  cases rx
  cases ry
  obtain ⟨z1, its, n, r, e1⟩ := hH.at I
  obtain ⟨z2, its2, n2, r2, e2⟩ := hB.at I
  have g1 := r.length
  have g2 := r2.length
  refine PySem.P.add_list e1 e2 ?_ (by rw [List.size_toArray, List.size_toArray]; omega)
  rw [show its.toArray ++ its2.toArray = (its ++ its2).toArray by simp]
  exact ⟨.ref _, _, I.lnew (t' := s.toks) (r.append r2) (by rw [List.length_append]; omega), rfl, q _ I.fresh⟩
theorem op_repX : OpR X (binaryOp .Mult) (fun x y H Q => ∃ l k xs, x = .ref l ∧ y = .int k ∧ ExL X.K H l xs ∧ -(2 ^ 63) ≤ k ∧ k < 2 ^ 63 ∧ xs.length * k.toNat ≤ sizeLine ∧
    ∀ p, H p = none → Q (.ref p) (upd H p (.lst (List.replicate k.toNat xs).flatten))) := by
  intro pins s σ H x y v u Q I rx ry h
  obtain ⟨l, k, xs, rfl, rfl, hH, b1, b2, hz, q⟩ := h
  cases rx
  obtain ⟨t, rfl⟩ := ry
  obtain ⟨z, its, n, r, e⟩ := hH.at I
  have hl := r.length
  have fits : its.toArray.size * k.toNat ≤ sizeLine := by rw [List.size_toArray, ← hl]; exact hz
  have c1 : ¬ its.toArray.size * k.toNat > (2 ^ 63 - 1) / 8 := fun c => by
    have : (sizeLine : Nat) ≤ (2 ^ 63 - 1) / 8 := by decide
    omega
  have c2 : ¬ (!Builtin.List.listFitsIndex k) = true := fun c => by
    rw [fitsIndex_both b1 b2] at c
    cases c
  have c3 : ¬ Builtin.List.listTooLong (its.toArray.size * k.toNat) = true := fun c => by
    rw [notLongL fits] at c
    cases c
  have same : List.foldl (fun a c => a ++ c) #[] (List.replicate (if its.toArray.isEmpty = true then 0 else k.toNat) its.toArray) = (List.replicate k.toNat its).flatten.toArray := by
    have all : ∀ m : Nat, List.foldl (fun a c => a ++ c) #[] (List.replicate m its.toArray) = (List.replicate m its).flatten.toArray := fun m => by
      have := foldl_rep its m []
      rwa [List.nil_append] at this
    rw [all]
    cases its with
    | nil => simp
    | cons a more => rw [if_neg (by simp)]
  refine wpAny_binaryOp_repeat_ref (T := "list") (U := "int") (by decide) ⟨_, e, rfl⟩ (fun s' => typeIs_int s' k t) noFill_list_mul F.fills_int_mul F.slot_int_rmul repeat_list F.slot_int_index.lookup ?_
  refine call_meets F.slot_int_rmul (typeIs_int s k t) F.entry_int_rmul (F.args_int_rmul_2 _ _) (int___rmul___int_list k t l its.toArray n) ⟨e, rfl, ⟨_, e, rfl⟩, ?_⟩
  refine call_meets F.slot_list_mul ⟨_, e, rfl⟩ F.entry_list_mul (F.args_list_mul_2 _ _) (AutoListH.list___mul___list_int_3 l its.toArray n k t c2 c1 c3) ⟨e, ?_⟩
  rw [same]
  exact ⟨.ref _, _, I.lnew (t' := s.toks) (r.rep k.toNat) (by rw [PyProof.Rows.lm_len_rep_flat, Nat.mul_comm]; exact hz), rfl, q _ I.fresh⟩
/-- t * k of a tuple, as far as it goes -/
theorem ne_nil_of {α β : Type} {l : List α} {m : List β} (h : l.length = m.length) (n : m ≠ []) : l ≠ [] := fun z => n (by
  rw [z] at h
  exact List.length_eq_zero_iff.mp h.symm)
theorem o_add {md : Bool} : OpR X (binaryOp .Add) (rS2 X.K mg bs Ex fun d e S => binOf md S .add d e) := by
  intro pins s σ H x y v u Q I rx ry ⟨W, S, d, e, sm, rd, re, a⟩
  dsimp only [AfV, binOf] at a
  cases q : binV .add d e with
  | some r =>
    rw [q] at a
    dsimp only at a
    rcases add_cases q with ⟨i, j, rfl, rfl, rfl⟩ | ⟨i, j, rfl, rfl, hl, rfl⟩ | ⟨ds, es, rfl, rfl, hl, rfl⟩
    · cases rd
      cases re
      exact op_add pins s σ H _ _ v u Q I rx ry ⟨i, j, rfl, rfl, a.now sm _ (.int _)⟩
    · cases rd
      cases re
      exact op_add_str pins s σ H _ _ v u Q I rx ry ⟨i, j, rfl, rfl, le_line hl, a.now sm _ (.str _)⟩
    · cases rd with
      | tup h1 r1 =>
        cases re with
        | tup h2 r2 =>
          refine op_catA pins s σ H _ _ v u Q I rx ry ⟨_, _, _, _, rfl, rfl, sm.tat h1, sm.tat h2, by rw [r1.length, r2.length]; exact le_line hl, fun z => ?_, fun z1 z2 => ?_, fun z1 z2 p hp => new_tup sm hp (r1.append r2) a⟩
          · subst z
            cases r1
            exact a.now sm _ (.tup h2 r2)
          · subst z2
            cases r2
            rw [List.append_nil] at a
            exact a.now sm _ (.tup h1 r1)
  | none =>
    rw [q] at a
    dsimp only [binL] at a
    cases h1 : lstOf S d with
    | none => rw [h1] at a; exact a.elim
    | some ds =>
      cases h2 : lstOf S e with
      | none => rw [h1, h2] at a; exact a.elim
      | some es =>
        rw [h1, h2] at a
        dsimp only at a
        by_cases hl : ds.length + es.length ≤ LIM
        · rw [if_pos hl] at a
          obtain ⟨l, vs, rfl, g1, r1⟩ := sm.lstOf rd h1
          obtain ⟨b, ws, rfl, g2, r2⟩ := sm.lstOf re h2
          exact op_catX pins s σ H _ _ v u Q I rx ry ⟨l, b, vs, ws, rfl, rfl, g1, g2, by rw [r1.length, r2.length]; exact le_line hl, fun p hp => new_lst sm hp (r1.append r2) a⟩
        · rw [if_neg hl] at a
          exact a.elim
theorem bits_ok {i j : Int} (h : bitsOk i j = true) : CMulW i j := by
  unfold bitsOk at h
  have z := of_decide_eq_true h
  exact z
theorem o_mul {md : Bool} : OpR X (binaryOp .Mult) (rS2 X.K mg bs Ex fun d e S => binOf md S .mul d e) := by
  intro pins s σ H x y v u Q I rx ry ⟨W, S, d, e, sm, rd, re, a⟩
  dsimp only [AfV, binOf] at a
  cases q : binV .mul d e with
  | some r =>
    rw [q] at a
    dsimp only at a
    rcases mul_cases q with ⟨i, j, rfl, rfl, hb, rfl⟩ | ⟨ds, k, rfl, rfl, ⟨k1, k2, k3, k4⟩, rfl⟩
    · cases rd
      cases re
      exact op_mulW pins s σ H _ _ v u Q I rx ry ⟨i, j, rfl, rfl, bits_ok hb, a.now sm _ (.int _)⟩
    · cases rd with
      | tup h1 r1 =>
        cases re
        exact op_repT pins s σ H _ _ v u Q I rx ry ⟨_, k, _, rfl, rfl, sm.tat h1, ne_nil_of r1.length k4, k1, k2, by rw [r1.length]; exact k3, fun p hp => new_tup sm hp (r1.rep _) a⟩
  | none =>
    rw [q] at a
    cases re with
    | int k =>
      dsimp only [binL] at a
      cases h1 : lstOf S d with
      | none => rw [h1] at a; exact a.elim
      | some ds =>
        rw [h1] at a
        dsimp only at a
        by_cases hl : k ≤ 1000 ∧ ds.length ≤ 1000 ∧ -1000 ≤ k
        · rw [if_pos hl] at a
          obtain ⟨l, vs, rfl, g1, r1⟩ := sm.lstOf rd h1
          refine op_repX pins s σ H _ _ v u Q I rx ry ⟨l, k, vs, rfl, rfl, g1, by omega, by omega, ?_, fun p hp => new_lst sm hp (r1.rep _) a⟩
          have b1 : vs.length ≤ 1000 := by rw [r1.length]; exact hl.2.1
          have b2 : k.toNat ≤ 1000 := by omega
          exact Nat.le_trans (Nat.mul_le_mul b1 b2) (by rw [sizeLine_eq]; decide)
        · rw [if_neg hl] at a
          exact a.elim
    | _ => exact a.elim
/-- two ints -/
theorem int_cases {o : Bin} (ho : o = .sub ∨ o = .fdiv ∨ o = .mod ∨ o = .pow) {md : Bool} {S : Store} {d e : D} {W : Wd} {Q : VK} (a : AfV X.K mg bs Ex W (binOf md S o d e) Q) : ∃ i j, d = .int i ∧ e = .int j := by
  rcases ho with rfl | rfl | rfl | rfl <;> cases d <;> first
    | (exact a.elim)
    | (cases e <;> first | exact a.elim | exact ⟨_, _, rfl, rfl⟩)
theorem o_sub {md : Bool} : OpR X (binaryOp .Sub) (rS2 X.K mg bs Ex fun d e S => binOf md S .sub d e) := by
  intro pins s σ H x y v u Q I rx ry ⟨W, S, d, e, sm, rd, re, a⟩
  obtain ⟨i, j, rfl, rfl⟩ := int_cases (.inl rfl) a
  cases rd
  cases re
  exact op_sub pins s σ H _ _ v u Q I rx ry ⟨i, j, rfl, rfl, After.now (S := S) a sm _ (.int _)⟩
theorem o_fdiv {md : Bool} : OpR X (binaryOp .FloorDiv) (rS2 X.K mg bs Ex fun d e S => binOf md S .fdiv d e) := by
  intro pins s σ H x y v u Q I rx ry ⟨W, S, d, e, sm, rd, re, a⟩
  obtain ⟨i, j, rfl, rfl⟩ := int_cases (.inr (.inl rfl)) a
  cases rd
  cases re
  obtain ⟨t, rfl⟩ := rx
  obtain ⟨t', rfl⟩ := ry
  dsimp only [AfV, binOf, binV, binL] at a
  by_cases hl : j ≠ 0 ∧ j.natAbs.log2 < 9000
  · rw [if_pos hl] at a
    exact floordiv_int hl.1 ⟨.int _, H, I.tok _, ⟨_, rfl⟩, After.now (S := S) a sm _ (.int _)⟩ (.inl (PyProof.noPylong_of_log2 hl.2))
  · rw [if_neg hl] at a
    exact a.elim
theorem o_mod {md : Bool} : OpR X (binaryOp .Mod) (rS2 X.K mg bs Ex fun d e S => binOf md S .mod d e) := by
  intro pins s σ H x y v u Q I rx ry ⟨W, S, d, e, sm, rd, re, a⟩
  obtain ⟨i, j, rfl, rfl⟩ := int_cases (.inr (.inr (.inl rfl))) a
  cases rd
  cases re
  dsimp only [AfV, binOf, binV, binL] at a
  by_cases hl : j ≠ 0
  · rw [if_pos hl] at a
    exact op_modN pins s σ H _ _ v u Q I rx ry ⟨i, j, rfl, rfl, hl, After.now (S := S) a sm _ (.int _)⟩
  · rw [if_neg hl] at a
    exact a.elim
theorem o_pow {md : Bool} : OpR X (binaryOp .Pow) (rS2 X.K mg bs Ex fun d e S => binOf md S .pow d e) := by
  intro pins s σ H x y v u Q I rx ry ⟨W, S, d, e, sm, rd, re, a⟩
  obtain ⟨i, j, rfl, rfl⟩ := int_cases (.inr (.inr (.inr rfl))) a
  cases rd
  cases re
  dsimp only [AfV, binOf, binV, binL] at a
  by_cases hl : 0 ≤ j ∧ j ≤ 1000000 ∧ i.natAbs < 2 ^ 64
  · rw [if_pos hl] at a
    exact op_pow pins s σ H _ _ v u Q I rx ry ⟨i, j, rfl, rfl, hl, After.now (S := S) a sm _ (.int _)⟩
  · rw [if_neg hl] at a
    exact a.elim
end
end Pv

/-! Comparisons, built-ins: the evaluator's answer is the model's. -/
namespace Pv
open PySem L2 PyProof.Rows
section
variable {K : PySem.W.Frag} {bs : List Nat} {W : Wd} {S : Store} {H : L2.Hp}
mutual
theorem Rep.dp (sm : Sim K bs W S H) : ∀ {v : V} {d : D} {p : PyData}, Rep K W v d → d.toP = some p → Dp K H v p
  | _, _, _, .non, h => by cases h; exact .non
  | _, _, _, .bl b, h => by cases h; exact .bl b
  | _, _, _, .int i, h => by cases h; exact .int i
  | _, _, _, .str x, h => by cases h; exact .str x
  | _, .tup ds, p, .tup t r, h => by
    have h' : (D.toPs ds).map PyData.tuple = some p := h
    cases e : D.toPs ds with
    | none => rw [e] at h'; cases h'
    | some ps =>
      rw [e] at h'
      cases h'
      exact .tup (sm.tat t) (r.dps sm e)
  | _, .lst ds, p, .lst t r, h => by
    have h' : (D.toPs ds).map PyData.list = some p := h
    cases e : D.toPs ds with
    | none => rw [e] at h'; cases h'
    | some ps =>
      rw [e] at h'
      cases h'
      exact .lst (sm.lat t).sq (r.dps sm e)
  | _, _, _, .dct _ _, h => by cases h
  | _, _, _, .ref _, h => by cases h
theorem RepAll.dps (sm : Sim K bs W S H) : ∀ {vs : List V} {ds : List D} {ps : List PyData}, RepAll K W vs ds → D.toPs ds = some ps → DpAll K H vs ps
  | _, _, _, .nil, h => by cases h; exact .nil
  | _, d :: ds, ps, .cons a b, h => by
    have h' : (match D.toP d, D.toPs ds with
      | some d, some ds => some (d :: ds)
      | _, _ => none) = some ps := h
    cases e1 : D.toP d with
    | none => rw [e1] at h'; cases h'
    | some p =>
      cases e2 : D.toPs ds with
      | none => rw [e1, e2] at h'; cases h'
      | some qs =>
        rw [e1, e2] at h'
        cases h'
        exact .cons (a.dp sm e1) (b.dps sm e2)
end
theorem dp_flat (sm : Sim K bs W S H) {v : V} {d : D} {p : PyData} (r : Rep K W v d) (h : (flatOf S d).toP = some p) : Dp K H v p := by
  cases r with
  | @ref a n e =>
    unfold flatOf at h
    dsimp only at h
    split at h
    · rename_i xs q
      obtain ⟨b, vs, ev, _, g, r, _⟩ := sm.lstRef (.ref (K := K) e) q
      cases ev
      have h' : (D.toPs xs).map PyData.list = some p := h
      cases e : D.toPs xs with
      | none => rw [e] at h'; cases h'
      | some ps =>
        rw [e] at h'
        cases h'
        exact .lst (SqL.of g) (r.dps sm e)
    · cases h
  | non => exact Rep.dp sm .non h
  | bl b => exact Rep.dp sm (.bl b) h
  | int b => exact Rep.dp sm (.int b) h
  | str b => exact Rep.dp sm (.str b) h
  | tup a b => exact Rep.dp sm (.tup a b) h
  | lst a b => exact Rep.dp sm (.lst a b) h
  | dct a b => exact Rep.dp sm (.dct a b) h
end
theorem eq_cases {S : Store} {d e : D} {c : Bool} (h : eqOf S d e = some c) : (∃ i j, d = .int i ∧ e = .int j ∧ c = (i == j)) ∨ (∃ x y, d = .str x ∧ e = .str y ∧ c = decide (x = y)) ∨ (∃ x y, d = .bl x ∧ e = .bl y ∧ c = (x == y)) ∨
    ∃ p q, (flatOf S d).toP = some p ∧ (flatOf S e).toP = some q ∧ SeqAt.shaped p = true ∧ SeqAt.shaped q = true ∧ c = PyData.eqv p q := by
  unfold eqOf at h
  split at h
  · cases h; exact .inl ⟨_, _, rfl, rfl, rfl⟩
  · cases h; exact .inr (.inl ⟨_, _, rfl, rfl, rfl⟩)
  · cases h; exact .inr (.inr (.inl ⟨_, _, rfl, rfl, rfl⟩))
  · split at h
    · rename_i p q e1 e2
      split at h
      · rename_i z
        cases h
        obtain ⟨z1, z2⟩ := Bool.and_eq_true_iff.mp z
        exact .inr (.inr (.inr ⟨p, q, e1, e2, z1, z2, rfl⟩))
      · cases h
    · cases h
/-- an answer of a comparison -/
def ansB (f : D → D → Store → Option Bool) (d e : D) (S : Store) : Res D := (lift S (f d e S)).bind fun c S3 => .ok (.bl c) S3
theorem ans_of {K : PySem.W.Frag} {mg : Str → Option Value} {bs : List Nat} {Ex : XK} {W : Wd} {S : Store} {H : L2.Hp} {Q : VK} {f : D → D → Store → Option Bool} {d e : D} (sm : Sim K bs W S H) (a : AfV K mg bs Ex W (ansB f d e S) Q) : ∃ c, f d e S = some c ∧ Q (.bl c) H := by
  unfold ansB at a
  cases q : f d e S with
  | none => rw [q] at a; exact a.elim
  | some c =>
    rw [q] at a
    exact ⟨c, rfl, After.now (S := S) a sm _ (.bl c)⟩
section
variable {X : Cx} {mg : Str → Option Value} {bs : List Nat} {Ex : XK}
theorem o_eq (hu : X.A.units + 64 < cLine) : OpR X (compareOp .Eq) (rS2 X.K mg bs Ex (ansB fun d e S => cmpOf S .eq d e)) := by
  intro pins s σ H x y v u Q I rx ry ⟨W, S, d, e, sm, rd, re, a⟩
  obtain ⟨c, h, q⟩ := ans_of sm a
  rcases eq_cases h with ⟨i, j, rfl, rfl, rfl⟩ | ⟨i, j, rfl, rfl, rfl⟩ | ⟨i, j, rfl, rfl, rfl⟩ | ⟨p, r, h1, h2, z1, z2, rfl⟩
  · cases rd
    cases re
    exact op_eq pins s σ H _ _ v u Q I rx ry ⟨rfl, by rw [dec_int]; exact q⟩
  · cases rd
    cases re
    exact op_eq pins s σ H _ _ v u Q I rx ry ⟨rfl, by rw [dec_str]; exact q⟩
  · cases rd
    cases re
    exact op_eq pins s σ H _ _ v u Q I rx ry ⟨rfl, by rw [dec_bl]; exact q⟩
  · exact op_eqD hu pins s σ H _ _ v u Q I rx ry ⟨p, r, dp_flat sm rd h1, dp_flat sm re h2, z1, z2, q⟩
theorem o_ne (hu : X.A.units + 64 < cLine) : OpR X (compareOp .NotEq) (rS2 X.K mg bs Ex (ansB fun d e S => cmpOf S .ne d e)) := by
  intro pins s σ H x y v u Q I rx ry ⟨W, S, d, e, sm, rd, re, a⟩
  obtain ⟨c, h, q⟩ := ans_of sm a
  have h' : (eqOf S d e).map (!·) = some c := h
  cases h0 : eqOf S d e with
  | none => rw [h0] at h'; cases h'
  | some b =>
    rw [h0] at h'
    cases h'
    rcases eq_cases h0 with ⟨i, j, rfl, rfl, rfl⟩ | ⟨i, j, rfl, rfl, rfl⟩ | ⟨i, j, rfl, rfl, rfl⟩ | ⟨p, r, h1, h2, z1, z2, rfl⟩
    · cases rd
      cases re
      exact op_ne pins s σ H _ _ v u Q I rx ry ⟨rfl, by rw [dec_int]; exact q⟩
    · cases rd
      cases re
      exact op_ne pins s σ H _ _ v u Q I rx ry ⟨rfl, by rw [dec_str]; exact q⟩
    · cases rd
      cases re
      exact op_ne pins s σ H _ _ v u Q I rx ry ⟨rfl, by rw [dec_bl]; exact q⟩
    · exact op_neD hu pins s σ H _ _ v u Q I rx ry ⟨p, r, dp_flat sm rd h1, dp_flat sm re h2, z1, z2, q⟩
theorem lt_cases {d e : D} {c : Bool} (h : ltOf d e = some c) : (∃ i j, d = .int i ∧ e = .int j ∧ c = decide (i < j)) ∨ ∃ xs ys ns ms, d = .tup xs ∧ e = .tup ys ∧ intsOf xs = some ns ∧ intsOf ys = some ms ∧ c = HT.lexLt ns ms := by
  unfold ltOf at h
  split at h
  · cases h; exact .inl ⟨_, _, rfl, rfl, rfl⟩
  · split at h
    · rename_i e1 e2
      cases h
      exact .inr ⟨_, _, _, _, rfl, rfl, e1, e2, rfl⟩
    · cases h
  · cases h
theorem le_cases {d e : D} {c : Bool} (h : leOf d e = some c) : ∃ i j, d = .int i ∧ e = .int j ∧ c = decide (i ≤ j) := by
  unfold leOf at h
  split at h
  · cases h; exact ⟨_, _, rfl, rfl, rfl⟩
  · cases h
theorem o_lt (hu : X.A.units < cLine) : OpR X (compareOp .Lt) (rS2 X.K mg bs Ex (ansB fun d e S => cmpOf S .lt d e)) := by
  intro pins s σ H x y v u Q I rx ry ⟨W, S, d, e, sm, rd, re, a⟩
  obtain ⟨c, h, q⟩ := ans_of sm a
  rcases lt_cases (show ltOf d e = some c from h) with ⟨i, j, rfl, rfl, rfl⟩ | ⟨xs, ys, ns, ms, rfl, rfl, e1, e2, rfl⟩
  · cases rd
    cases re
    exact op_lt pins s σ H _ _ v u Q I rx ry ⟨i, j, rfl, rfl, q⟩
  · cases rd with
    | tup t1 r1 =>
      cases re with
      | tup t2 r2 =>
        have g1 := r1.ints e1
        have g2 := r2.ints e2
        subst g1
        subst g2
        exact op_ltT hu pins s σ H _ _ v u Q I rx ry ⟨_, _, ns, ms, rfl, rfl, sm.tat t1, sm.tat t2, q⟩
theorem o_le : OpR X (compareOp .LtE) (rS2 X.K mg bs Ex (ansB fun d e S => cmpOf S .le d e)) := by
  intro pins s σ H x y v u Q I rx ry ⟨W, S, d, e, sm, rd, re, a⟩
  obtain ⟨c, h, q⟩ := ans_of sm a
  obtain ⟨i, j, rfl, rfl, rfl⟩ := le_cases (show leOf d e = some c from h)
  cases rd
  cases re
  exact op_le pins s σ H _ _ v u Q I rx ry ⟨i, j, rfl, rfl, q⟩
theorem o_gt : OpR X (compareOp .Gt) (rS2 X.K mg bs Ex (ansB fun d e S => cmpOf S .gt d e)) := by
  intro pins s σ H x y v u Q I rx ry ⟨W, S, d, e, sm, rd, re, a⟩
  obtain ⟨c, h, q⟩ := ans_of sm a
  have h' : gtOf d e = some c := h
  unfold gtOf at h'
  split at h'
  · cases rd
    cases re
    cases h'
    exact op_gt pins s σ H _ _ v u Q I rx ry ⟨_, _, rfl, rfl, q⟩
  · cases h'
theorem o_ge : OpR X (compareOp .GtE) (rS2 X.K mg bs Ex (ansB fun d e S => cmpOf S .ge d e)) := by
  intro pins s σ H x y v u Q I rx ry ⟨W, S, d, e, sm, rd, re, a⟩
  obtain ⟨c, h, q⟩ := ans_of sm a
  obtain ⟨i, j, rfl, rfl, rfl⟩ := le_cases (show leOf e d = some c from h)
  cases rd
  cases re
  exact op_ge pins s σ H _ _ v u Q I rx ry ⟨_, _, rfl, rfl, q⟩
theorem is_cases {d e : D} {c : Bool} (h : isOf d e = some c) : (∃ x y, d = .bl x ∧ e = .bl y ∧ c = decide (x = y)) ∨ (e = .non ∧ d = .non ∧ c = true) ∨ (e = .non ∧ d ≠ .non ∧ c = false) := by
  unfold isOf at h
  split at h <;> first
    | (cases h; exact .inl ⟨_, _, rfl, rfl, rfl⟩)
    | (cases h; exact .inr (.inl ⟨rfl, rfl, rfl⟩))
    | (cases h; exact .inr (.inr ⟨rfl, (fun z => nomatch z), rfl⟩))
    | cases h
theorem rep_non {K : PySem.W.Frag} {W : Wd} {v : V} {d : D} (r : Rep K W v d) (h : d ≠ .non) : decide (v = V.non) = false := by
  cases r <;> first | exact absurd rfl h | rfl
theorem o_is : OpR X (compareOp .Is) (rS2 X.K mg bs Ex (ansB fun d e S => cmpOf S .isC d e)) := by
  intro pins s σ H x y v u Q I rx ry ⟨W, S, d, e, sm, rd, re, a⟩
  obtain ⟨c, h, q⟩ := ans_of sm a
  rcases is_cases (show isOf d e = some c from h) with ⟨i, j, rfl, rfl, rfl⟩ | ⟨rfl, rfl, rfl⟩ | ⟨rfl, hd, rfl⟩
  · cases rd
    cases re
    exact op_is_bl pins s σ H _ _ v u Q I rx ry ⟨_, _, rfl, rfl, q⟩
  · cases rd
    cases re
    exact op_isN pins s σ H _ _ v u Q I rx ry ⟨rfl, q⟩
  · cases re
    exact op_isN pins s σ H _ _ v u Q I rx ry ⟨rfl, by rw [rep_non rd hd]; exact q⟩
theorem o_isnot : OpR X (compareOp .IsNot) (rS2 X.K mg bs Ex (ansB fun d e S => cmpOf S .isNotC d e)) := by
  intro pins s σ H x y v u Q I rx ry ⟨W, S, d, e, sm, rd, re, a⟩
  obtain ⟨c, h, q⟩ := ans_of sm a
  have h' : (isOf d e).map (!·) = some c := h
  cases h0 : isOf d e with
  | none => rw [h0] at h'; cases h'
  | some b =>
    rw [h0] at h'
    cases h'
    rcases is_cases h0 with ⟨i, j, rfl, rfl, rfl⟩ | ⟨rfl, rfl, rfl⟩ | ⟨rfl, hd, rfl⟩
    · cases rd
      cases re
      exact op_isnot_bl pins s σ H _ _ v u Q I rx ry ⟨_, _, rfl, rfl, q⟩
    · cases rd
      cases re
      exact op_notN pins s σ H _ _ v u Q I rx ry ⟨rfl, q⟩
    · cases re
      exact op_notN pins s σ H _ _ v u Q I rx ry ⟨rfl, by rw [rep_non rd hd]; exact q⟩
end
end Pv

/-! in, built-ins, isinstance, subscripts: the evaluator's answer is the model's. -/
namespace Pv
open PySem L2 PyProof.Rows
theorem key_of {K : PySem.W.Frag} {W : Wd} {v : V} {d : D} {k : Key} (r : Rep K W v d) (h : keyOf d = some k) : v = kV k := by
  cases r <;> first
    | (cases h; rfl)
    | cases h
/-- a dict's value by its key -/
theorem val_rel {K : PySem.W.Frag} {W : Wd} (k : Key) : ∀ {kvs : List (Key × V)} {ds : List D}, RepAll K W (kvs.map (·.2)) ds → (valV kvs k = none ∧ valOf k (kvs.map (·.1)) ds = none) ∨ ∃ v d, valV kvs k = some v ∧ valOf k (kvs.map (·.1)) ds = some d ∧ Rep K W v d
  | [], [], _ => .inl ⟨rfl, rfl⟩
  | (j, w) :: r, d :: ds, h => by
    cases h with
    | cons a b =>
      by_cases e : j = k
      · refine .inr ⟨w, d, valV_pos (p := (j, w)) e, ?_, a⟩
        show (if j = k then some d else _) = some d
        rw [if_pos e]
      · have e1 : valV ((j, w) :: r) k = valV r k := valV_neg (p := (j, w)) e
        have e2 : valOf k (((j, w) :: r).map (·.1)) (d :: ds) = valOf k (r.map (·.1)) ds := by
          show (if j = k then some d else _) = _
          rw [if_neg e]
        rw [e1, e2]
        exact val_rel k b
  | [], _ :: _, h => by cases h
  | _ :: _, [], h => by cases h
section
variable {X : Cx} {mg : Str → Option Value} {bs : List Nat} {Ex : XK}
theorem in_cases {S : Store} {x y : D} {c : Bool} (h : inOf S x y = some c) :
    (∃ ys p ps, seqOf S y = some ys ∧ (flatOf S x).toP = some p ∧ D.toPs ys = some ps ∧ SeqAt.shaped p = true ∧ SeqAt.shaped (.list ps) = true ∧ c = ps.any fun z => PyData.eqv z p) ∨
    ∃ k ks vs, keyOf x = some k ∧ dctOf S y = some (ks, vs) ∧ c = (valOf k ks vs).isSome := by
  unfold inOf at h
  cases e : seqOf S y with
  | some ys =>
    rw [e] at h
    dsimp only [inSeq] at h
    split at h
    · rename_i p ps h1 h2
      split at h
      · rename_i z
        cases h
        obtain ⟨z1, z2⟩ := Bool.and_eq_true_iff.mp z
        exact .inl ⟨ys, p, ps, rfl, h1, h2, z1, z2, rfl⟩
      · cases h
    · cases h
  | none =>
    rw [e] at h
    dsimp only at h
    split at h
    · rename_i k ks vs h1 h2
      cases h
      exact .inr ⟨k, ks, vs, h1, h2, rfl⟩
    · cases h
theorem canAll {ps : List PyData} (h : SeqAt.shaped (.list ps) = true) : PyData.canLayAll0 ps = true := SeqAt.canLay_of_shaped h
theorem o_in (hu : X.A.units + 65 < cLine) : OpR X (compareOp .In) (rS2 X.K mg bs Ex (ansB fun d e S => cmpOf S .inC d e)) := by
  intro pins s σ H x y v u Q I rx ry ⟨W, S, d, e, sm, rd, re, a⟩
  obtain ⟨c, h, q⟩ := ans_of sm a
  rcases in_cases h with ⟨ys, p, ps, h1, h2, h3, z1, z2, rfl⟩ | ⟨k, ks, vs, h1, h2, rfl⟩
  · obtain ⟨l, ws, rfl, g, r⟩ := sm.seqOf re h1
    obtain ⟨as, r1⟩ := Dp.reads I p x v (dp_flat sm rd h2) rx
    rcases g with g | g
    · obtain ⟨cs, r2⟩ := Dp.reads I (.list ps) _ u (.lst g.sq (r.dps sm h3)) ry
      exact SeqAt.in_list_reads r2 r1 (canAll z2) (SeqAt.canLay_of_shaped z1) (room_in_shaped z1 hu) ⟨.bl _, H, I, rfl, q⟩
    · obtain ⟨cs, r2⟩ := Dp.reads I (.tuple ps) _ u (.tup g (r.dps sm h3)) ry
      exact SeqAt.in_tuple_reads r2 r1 (canAll z2) (SeqAt.canLay_of_shaped z1) (room_in_shaped z1 hu) ⟨.bl _, H, I, rfl, q⟩
  · obtain ⟨l, kvs, rfl, g, rfl, r⟩ := sm.dctOf re h2
    obtain rfl := key_of rd h1
    cases ry
    have g' := (show DGet _ _ _ _ from .inl ⟨_, k, g, rfl, rfl⟩)
    refine d_in (by omega) I g' rx fun s3 I3 => ⟨.bl _, H, I3, rfl, ?_⟩
    rcases val_rel k r with ⟨e1, e2⟩ | ⟨w, d', e1, e2, _⟩
    · rw [e2] at q
      rw [e1]
      exact q
    · rw [e2] at q
      rw [e1]
      exact q
theorem o_notin (hu : X.A.units + 65 < cLine) : OpR X (compareOp .NotIn) (rS2 X.K mg bs Ex (ansB fun d e S => cmpOf S .notInC d e)) := by
  intro pins s σ H x y v u Q I rx ry ⟨W, S, d, e, sm, rd, re, a⟩
  obtain ⟨c, h, q⟩ := ans_of sm a
  have h' : (inOf S d e).map (!·) = some c := h
  obtain ⟨c0, h0, rfl⟩ := Option.map_eq_some_iff.mp h'
  rcases in_cases h0 with ⟨ys, p, ps, h1, h2, h3, z1, z2, rfl⟩ | ⟨k, ks, vs, h1, h2, rfl⟩
  · obtain ⟨l, ws, rfl, g, r⟩ := sm.seqOf re h1
    obtain ⟨as, r1⟩ := Dp.reads I p x v (dp_flat sm rd h2) rx
    rcases g with g | g
    · obtain ⟨cs, r2⟩ := Dp.reads I (.list ps) _ u (.lst g.sq (r.dps sm h3)) ry
      exact SeqAt.notIn_list_reads r2 r1 (canAll z2) (SeqAt.canLay_of_shaped z1) (room_in_shaped z1 hu) ⟨.bl _, H, I, rfl, q⟩
    · obtain ⟨cs, r2⟩ := Dp.reads I (.tuple ps) _ u (.tup g (r.dps sm h3)) ry
      exact SeqAt.notIn_tuple_reads r2 r1 (canAll z2) (SeqAt.canLay_of_shaped z1) (room_in_shaped z1 hu) ⟨.bl _, H, I, rfl, q⟩
  · obtain ⟨l, kvs, rfl, g, rfl, r⟩ := sm.dctOf re h2
    obtain rfl := key_of rd h1
    cases ry
    have g' := (show DGet _ _ _ _ from .inl ⟨_, k, g, rfl, rfl⟩)
    refine d_notIn (by omega) I g' rx fun s3 I3 => ⟨.bl _, H, I3, rfl, ?_⟩
    rcases val_rel k r with ⟨e1, e2⟩ | ⟨w, d', e1, e2, _⟩
    · rw [e2] at q
      rw [e1]
      exact q
    · rw [e2] at q
      rw [e1]
      exact q
end
/-! ### built-ins -/
section
variable {X : Cx} {mg : Str → Option Value} {bs : List Nat} {Ex : XK}
theorem rep1 {K : PySem.W.Frag} {W : Wd} {vs : List V} {d : D} (r : RepAll K W vs [d]) : ∃ v, vs = [v] ∧ Rep K W v d := by
  cases r with
  | cons a b => cases b; exact ⟨_, rfl, a⟩
theorem rep2 {K : PySem.W.Frag} {W : Wd} {vs : List V} {d e : D} (r : RepAll K W vs [d, e]) : ∃ v w, vs = [v, w] ∧ Rep K W v d ∧ Rep K W w e := by
  cases r with
  | cons a b =>
    obtain ⟨w, rfl, h⟩ := rep1 b
    exact ⟨_, _, rfl, a, h⟩
theorem lift_end {W : Wd} {S : Store} {H : L2.Hp} {Q : VK} {o : Option D} {v : V} {d : D} (sm : Sim X.K bs W S H) (e : o = some d) (r : Rep X.K W v d) (a : AfV X.K mg bs Ex W (lift S o) Q) : Q v H := by
  rw [e] at a
  exact After.now (S := S) a sm v r
theorem len_rel {K : PySem.W.Frag} {W : Wd} {S : Store} {H : L2.Hp} {v : V} {d : D} {n : Int} (sm : Sim K bs W S H) (r : Rep K W v d) (h : lenOf S d = some n) : ∃ m : Nat, n = (m : Int) ∧ (LenV K v H m ∨ ∃ a kvs, v = .ref a ∧ H a = some (.dK kvs) ∧ m = kvs.length) := by
  cases r with
  | str x =>
    have h' : (if x.length ≤ LIM then some (x.length : Int) else none) = some n := h
    split at h'
    · rename_i z
      cases h'
      exact ⟨_, rfl, .inl ⟨le_line z, rfl⟩⟩
    · cases h'
  | tup t r =>
    cases h
    exact ⟨_, rfl, .inl (.inr ⟨_, sm.tat t, r.length.symm⟩)⟩
  | lst t r =>
    cases h
    exact ⟨_, rfl, .inl (.inl ⟨_, (sm.lat t).sq, r.length.symm⟩)⟩
  | dct t r =>
    cases h
    exact ⟨_, rfl, .inr ⟨_, _, rfl, sm.fz _ _ t, by rw [List.length_map]⟩⟩
  | @ref b m e =>
    unfold lenOf at h
    dsimp only at h
    split at h
    · rename_i xs q
      cases h
      obtain ⟨p, vs, ev, _, g, r, _⟩ := sm.lstRef (.ref (K := K) e) q
      cases ev
      exact ⟨_, rfl, .inl (.inl ⟨_, SqL.of g, r.length.symm⟩)⟩
    · rename_i ks xs q
      cases h
      obtain ⟨p, kvs, ev, _, g, rfl, r, _⟩ := sm.dctRef (.ref (K := K) e) q
      cases ev
      exact ⟨_, rfl, .inr ⟨_, _, rfl, g, by rw [List.length_map]⟩⟩
    · cases h
  | _ => cases h
theorem c_len {md : Bool} : CallR X (.builtin "len") (rSA X.K mg bs Ex fun ds S => bifOf md S .len ds) := by
  intro pins s σ H vs us Q I r ⟨W, S, ds, sm, rd, a⟩
  match ds, rd, a with
  | [], rd, a => exact a.elim
  | [d], rd, a =>
    obtain ⟨v, rfl, r1⟩ := rep1 rd
    dsimp only [AfV, bifOf, bifV] at a
    cases e : lenOf S d with
    | none => rw [e] at a; exact a.elim
    | some n =>
      rw [e] at a
      obtain ⟨m, rfl, l⟩ := len_rel sm r1 e
      rcases l with l | ⟨b, kvs, rfl, g, rfl⟩
      · exact call_len pins s σ H _ us Q I r ⟨v, m, rfl, l, After.now (S := S) a sm _ (.int _)⟩
      · obtain ⟨u, rfl, ru⟩ := vals1 r
        cases ru
        exact d_len I (.inl g) fun t s3 I3 => ⟨.int kvs.length, H, I3, ⟨_, rfl⟩, After.now (S := S) a sm _ (.int _)⟩
  | _ :: _ :: _, rd, a => exact a.elim
theorem c_abs {md : Bool} : CallR X (.builtin "abs") (rSA X.K mg bs Ex fun ds S => bifOf md S .abs ds) := by
  intro pins s σ H vs us Q I r ⟨W, S, ds, sm, rd, a⟩
  match ds, rd, a with
  | [], rd, a => exact a.elim
  | [d], rd, a =>
    obtain ⟨v, rfl, r1⟩ := rep1 rd
    cases r1 with
    | int i => exact call_abs pins s σ H _ us Q I r ⟨i, rfl, After.now (S := S) a sm _ (.int _)⟩
    | _ => exact a.elim
  | d :: _ :: _, rd, a => cases d <;> exact a.elim
theorem c_int {md : Bool} : CallR X (.type "int") (rSA X.K mg bs Ex fun ds S => bifOf md S .int ds) := by
  intro pins s σ H vs us Q I r ⟨W, S, ds, sm, rd, a⟩
  match ds, rd, a with
  | [], rd, a => exact a.elim
  | [d], rd, a =>
    obtain ⟨v, rfl, r1⟩ := rep1 rd
    cases r1 with
    | int i => exact call_int1 pins s σ H _ us Q I r (.inl ⟨i, rfl, After.now (S := S) a sm _ (.int _)⟩)
    | bl k => exact call_int1 pins s σ H _ us Q I r (.inr ⟨k, rfl, After.now (S := S) a sm _ (.int _)⟩)
    | _ => exact a.elim
  | d :: _ :: _, rd, a => cases d <;> exact a.elim
theorem c_gcd {md : Bool} : CallR X (.builtin "math.gcd") (rSA X.K mg bs Ex fun ds S => bifOf md S .gcd ds) := by
  intro pins s σ H vs us Q I r ⟨W, S, ds, sm, rd, a⟩
  match ds, rd, a with
  | [], rd, a => exact a.elim
  | [d], rd, a => cases d <;> exact a.elim
  | [d, e], rd, a =>
    obtain ⟨v, w, rfl, r1, r2⟩ := rep2 rd
    cases r1 with
    | int i =>
      cases r2 with
      | int j => exact cr_gcd pins s σ H _ us Q I r ⟨i, j, rfl, After.now (S := S) a sm _ (.int _)⟩
      | _ => exact a.elim
    | _ => exact a.elim
  | d :: e :: _ :: _, rd, a => cases d <;> first | exact a.elim | (cases e <;> exact a.elim)
theorem c_max2 {md : Bool} (hc : X.calm = true) : CallR X (.builtin "max") (rSA X.K mg bs Ex fun ds S => bifOf md S .max2 ds) := by
  intro pins s σ H vs us Q I r ⟨W, S, ds, sm, rd, a⟩
  match ds, rd, a with
  | [], rd, a => exact a.elim
  | [d], rd, a => cases d <;> exact a.elim
  | [d, e], rd, a =>
    obtain ⟨v, w, rfl, r1, r2⟩ := rep2 rd
    cases r1 with
    | int i =>
      cases r2 with
      | int j => exact call_max2 hc pins s σ H _ us Q I r ⟨i, j, rfl, After.now (S := S) a sm _ (.int _)⟩
      | _ => exact a.elim
    | _ => exact a.elim
  | d :: e :: _ :: _, rd, a => cases d <;> first | exact a.elim | (cases e <;> exact a.elim)
theorem c_min2 {md : Bool} (hc : X.calm = true) : CallR X (.builtin "min") (rSA X.K mg bs Ex fun ds S => bifOf md S .min2 ds) := by
  intro pins s σ H vs us Q I r ⟨W, S, ds, sm, rd, a⟩
  match ds, rd, a with
  | [], rd, a => exact a.elim
  | [d], rd, a => cases d <;> exact a.elim
  | [d, e], rd, a =>
    obtain ⟨v, w, rfl, r1, r2⟩ := rep2 rd
    cases r1 with
    | int i =>
      cases r2 with
      | int j => exact call_min2 hc pins s σ H _ us Q I r ⟨i, j, rfl, After.now (S := S) a sm _ (.int _)⟩
      | _ => exact a.elim
    | _ => exact a.elim
  | d :: e :: _ :: _, rd, a => cases d <;> first | exact a.elim | (cases e <;> exact a.elim)
/-- a list of ints, of truth values -/
theorem ints_of {W : Wd} {S : Store} {H : L2.Hp} {v : V} {d : D} {ds : List D} {ns : List Int} (sm : Sim X.K bs W S H) (r : Rep X.K W v d) (h1 : lstOf S d = some ds) (h2 : intsOf ds = some ns) : ∃ a, v = .ref a ∧ SqL X.K H a (ns.map V.int) := by
  obtain ⟨l, vs, rfl, g, r⟩ := sm.lstOf r h1
  have e := r.ints h2
  subst e
  exact ⟨l, rfl, g.sq⟩
theorem bools_of {W : Wd} {S : Store} {H : L2.Hp} {v : V} {d : D} {ds : List D} {ns : List Bool} (sm : Sim X.K bs W S H) (r : Rep X.K W v d) (h1 : lstOf S d = some ds) (h2 : boolsOf ds = some ns) : ∃ a, v = .ref a ∧ SqL X.K H a (ns.map V.bl) := by
  obtain ⟨l, vs, rfl, g, r⟩ := sm.lstOf r h1
  have e := r.bools h2
  subst e
  exact ⟨l, rfl, g.sq⟩
theorem c_sum {md : Bool} (hc : X.calm = true) : CallR X (.builtin "sum") (rSA X.K mg bs Ex fun ds S => bifOf md S .sum ds) := by
  intro pins s σ H vs us Q I r ⟨W, S, ds, sm, rd, a⟩
  match ds, rd, a with
  | [], rd, a => exact a.elim
  | [d], rd, a =>
    obtain ⟨v, rfl, r1⟩ := rep1 rd
    dsimp only [AfV, bifOf, bifV] at a
    cases e1 : lstOf S d with
    | none => rw [e1] at a; exact a.elim
    | some xs =>
      cases e2 : intsOf xs with
      | none => rw [e1, Option.bind_some, e2] at a; exact a.elim
      | some ns =>
        rw [e1, Option.bind_some, e2] at a
        obtain ⟨l, rfl, g⟩ := ints_of sm r1 e1 e2
        exact cr_sum hc pins s σ H _ us Q I r ⟨l, ns, rfl, g, After.now (S := S) a sm _ (.int _)⟩
  | d :: _ :: _, rd, a => exact a.elim
theorem c_any {md : Bool} (hc : X.calm = true) : CallR X (.builtin "any") (rSA X.K mg bs Ex fun ds S => bifOf md S .any ds) := by
  intro pins s σ H vs us Q I r ⟨W, S, ds, sm, rd, a⟩
  match ds, rd, a with
  | [], rd, a => exact a.elim
  | [d], rd, a =>
    obtain ⟨v, rfl, r1⟩ := rep1 rd
    dsimp only [AfV, bifOf, bifV] at a
    cases e1 : lstOf S d with
    | none => rw [e1] at a; exact a.elim
    | some xs =>
      cases e2 : boolsOf xs with
      | none => rw [e1, Option.bind_some, e2] at a; exact a.elim
      | some ns =>
        rw [e1, Option.bind_some, e2] at a
        obtain ⟨l, rfl, g⟩ := bools_of sm r1 e1 e2
        exact cr_any hc pins s σ H _ us Q I r ⟨l, ns, rfl, g, After.now (S := S) a sm _ (.bl _)⟩
  | d :: _ :: _, rd, a => exact a.elim
theorem c_all {md : Bool} (hc : X.calm = true) : CallR X (.builtin "all") (rSA X.K mg bs Ex fun ds S => bifOf md S .all ds) := by
  intro pins s σ H vs us Q I r ⟨W, S, ds, sm, rd, a⟩
  match ds, rd, a with
  | [], rd, a => exact a.elim
  | [d], rd, a =>
    obtain ⟨v, rfl, r1⟩ := rep1 rd
    dsimp only [AfV, bifOf, bifV] at a
    cases e1 : lstOf S d with
    | none => rw [e1] at a; exact a.elim
    | some xs =>
      cases e2 : boolsOf xs with
      | none => rw [e1, Option.bind_some, e2] at a; exact a.elim
      | some ns =>
        rw [e1, Option.bind_some, e2] at a
        obtain ⟨l, rfl, g⟩ := bools_of sm r1 e1 e2
        exact cr_all hc pins s σ H _ us Q I r ⟨l, ns, rfl, g, After.now (S := S) a sm _ (.bl _)⟩
  | d :: _ :: _, rd, a => exact a.elim
theorem c_tuple {md : Bool} : CallR X (.type "tuple") (rSA X.K mg bs Ex fun ds S => bifOf md S .tuple ds) := by
  intro pins s σ H vs us Q I r ⟨W, S, ds, sm, rd, a⟩
  match ds, rd, a with
  | [], rd, a => exact a.elim
  | [d], rd, a =>
    obtain ⟨v, rfl, r1⟩ := rep1 rd
    dsimp only [AfV, bifOf, bifV] at a
    cases e1 : seqOf S d with
    | none => rw [e1] at a; exact a.elim
    | some xs =>
      rw [e1] at a
      obtain ⟨l, ws, rfl, g, r2⟩ := sm.seqOf r1 e1
      refine call_tuple_of pins s σ H _ us Q I r ⟨l, ws, rfl, ?_⟩
      rcases g with g | g
      · exact .inl ⟨g.sq, fun p hp => new_tup sm hp r2 a⟩
      · refine .inr ⟨g, ?_⟩
        cases r1 with
        | tup t r3 =>
          cases e1
          exact After.now (S := S) a sm _ (.tup t r3)
        | lst t r3 =>
          obtain ⟨its, rv, p, _⟩ := I.tuple g
          obtain ⟨_, its2, n, rv2, e⟩ := (sm.lat t).at I
          obtain ⟨o, ho, hcl, _⟩ := p
          rw [e] at ho
          cases ho
          exact absurd (Value.type.inj hcl) (by decide)
        | dct t r3 => cases e1
        | @ref b n e =>
          unfold seqOf lstOf at e1
          dsimp only at e1
          split at e1
          · rename_i q
            obtain ⟨p, vs, ev, _, g2, _⟩ := sm.lstRef (.ref (K := X.K) e) q
            cases ev
            obtain ⟨its, rv, p, _⟩ := I.tuple g
            obtain ⟨_, its2, n, rv2, e⟩ := (show ExL X.K H l vs from .inl (.inl g2)).at I
            obtain ⟨o, ho, hcl, _⟩ := p
            rw [e] at ho
            cases ho
            exact absurd (Value.type.inj hcl) (by decide)
          · cases e1
  | d :: _ :: _, rd, a => exact a.elim
theorem c_list {md : Bool} : CallR X (.type "list") (rSA X.K mg bs Ex fun ds S => bifOf md S .list ds) := by
  intro pins s σ H vs us Q I r ⟨W, S, ds, sm, rd, a⟩
  match ds, rd, a with
  | [], rd, a => exact a.elim
  | [d], rd, a =>
    obtain ⟨v, rfl, r1⟩ := rep1 rd
    dsimp only [AfV, bifOf] at a
    cases e1 : seqOf S d with
    | none => rw [e1] at a; exact a.elim
    | some xs =>
      rw [e1] at a
      obtain ⟨l, ws, rfl, g, r2⟩ := sm.seqOf r1 e1
      exact call_list_of pins s σ H _ us Q I r ⟨l, ws, rfl, g.imp (fun z => z.sq) id, fun p hp => new_lst sm hp r2 a⟩
  | d :: _ :: _, rd, a => exact a.elim
theorem c_dict {md : Bool} : CallR X (.type "dict") (rSA X.K mg bs Ex fun ds S => bifOf md S .dict ds) := by
  intro pins s σ H vs us Q I r ⟨W, S, ds, sm, rd, a⟩
  match ds, rd, a with
  | [], rd, a => exact a.elim
  | [d], rd, a =>
    obtain ⟨v, rfl, r1⟩ := rep1 rd
    dsimp only [AfV, bifOf] at a
    cases e1 : dctOf S d with
    | none => rw [e1] at a; exact a.elim
    | some xs =>
      obtain ⟨ks, es⟩ := xs
      rw [e1] at a
      obtain ⟨l, kvs, rfl, g, e2, r2⟩ := sm.dctOf r1 e1
      exact call_dictD pins s σ H _ us Q I r ⟨l, kvs, rfl, g, fun p hp => new_dct sm hp e2 r2 a⟩
  | d :: _ :: _, rd, a => exact a.elim
end
end Pv

/-! Expressions: the evaluator's answer is the model's. -/
namespace Pv
open PySem L2 PyProof.Rows
theorem tru_rel {K : PySem.W.Frag} {bs : List Nat} {W : Wd} {S : Store} {H : L2.Hp} {v : V} {d : D} {k : Bool} (sm : Sim K bs W S H) (r : Rep K W v d) (h : truthy S d = some k) : TruV K v H k := by
  cases r with
  | non => cases h; rfl
  | bl b => cases h; rfl
  | int i => cases h; rfl
  | str x =>
    have h' : (if x.length ≤ LIM then some (x.length != 0) else none) = some k := h
    split at h'
    · rename_i z
      cases h'
      refine ⟨le_line z, ?_⟩
      cases e : x.length with
      | zero => rfl
      | succ n =>
        show ((n + 1 : Nat) != 0) = (((n + 1 : Nat) : Int) != 0)
        have e1 : ((n + 1 : Nat) != 0) = true := by simp
        have e2 : (((n + 1 : Nat) : Int) != 0) = true := by
          simp only [bne_iff_ne]
          omega
        rw [e1, e2]
    · cases h'
  | tup t r =>
    cases h
    refine .inr (.inl ⟨_, sm.tat t, ?_⟩)
    cases r <;> rfl
  | lst t r =>
    cases h
    refine .inl ⟨_, (sm.lat t).sq, ?_⟩
    cases r <;> rfl
  | dct t r =>
    rename_i kvs ds
    cases h
    refine .inr (.inr ⟨_, sm.fz _ _ t, ?_⟩)
    cases kvs <;> rfl
  | @ref b m e =>
    unfold truthy at h
    dsimp only at h
    split at h
    · rename_i xs q
      cases h
      obtain ⟨p, vs, ev, _, g, r, _⟩ := sm.lstRef (.ref (K := K) e) q
      cases ev
      refine .inl ⟨_, SqL.of g, ?_⟩
      cases r <;> rfl
    · rename_i ks xs q
      cases h
      obtain ⟨p, kvs, ev, _, g, rfl, r, _⟩ := sm.dctRef (.ref (K := K) e) q
      cases ev
      refine .inr (.inr ⟨_, g, ?_⟩)
      cases kvs <;> rfl
    · cases h
section
variable {X : Cx} {mg : Str → Option Value} {bs : List Nat} {Ex : XK} {ra rb rc : Env → Store → Res D} {a b c : Expr} {pos : Pos}
abbrev E (X : Cx) (mg : Str → Option Value) (bs : List Nat) (Ex : XK) (e : Expr) (r : Env → Store → Res D) : Prop := PE X e (tE X.K mg bs Ex r)
theorem s_bin {op : Operator} {f : D → D → Store → Res D} (ho : OpR X (binaryOp op) (rS2 X.K mg bs Ex f)) (ha : E X mg bs Ex a ra) (hb : E X mg bs Ex b rb) :
    E X mg bs Ex (.BinOp a op b pos) fun ρ S => (ra ρ S).bind fun d S1 => (rb ρ S1).bind fun e S2 => f d e S2 :=
  PEimp (pe_op ho ha hb) fun σ H Q h => tE_bin (fun W S H x y d e Q sm rx ry a => ⟨W, S, d, e, sm, rx, ry, a⟩) h
theorem s_cmp {op : CmpOp} {f : D → D → Store → Res D} (ho : OpR X (compareOp op) (rS2 X.K mg bs Ex f)) (ha : E X mg bs Ex a ra) (hb : E X mg bs Ex b rb) (hm : behindInMarks op b = false) :
    E X mg bs Ex (.Compare a [op] [b] pos) fun ρ S => (ra ρ S).bind fun d S1 => (rb ρ S1).bind fun e S2 => f d e S2 :=
  PEimp (pe_cmpR ho ha hb hm) fun σ H Q h => tE_bin (fun W S H x y d e Q sm rx ry a => ⟨W, S, d, e, sm, rx, ry, a⟩) h
theorem s_neg (ha : E X mg bs Ex a ra) : E X mg bs Ex (.UnaryOp .USub a pos) fun ρ S => (ra ρ S).bind fun x S1 => match x with
    | .int i => .ok (.int (-i)) S1
    | _ => .bad :=
  PEimp (pe_un un_neg ha) fun σ H Q h => tE_un (f := fun x S1 => match x with
    | .int i => .ok (.int (-i)) S1
    | _ => .bad) (fun W S H x d Q sm rx a => by
      cases rx with
      | int i => exact ⟨i, rfl, After.now (S := S) a sm _ (.int _)⟩
      | _ => exact a.elim) h
/-- a value's truth, then what follows -/
theorem truth_then {α : Type} {W : Wd} {S : Store} {H : L2.Hp} {v : V} {d : D} {f : Bool → Store → Res α} {Q : α → Store → Wd → L2.Hp → Prop} {EX : Exn → Wd → L2.Hp → Prop} (sm : Sim X.K bs W S H) (r : Rep X.K W v d)
    (a : After X.K bs EX W ((lift S (truthy S d)).bind f) Q) : ∃ k, TruV X.K v H k ∧ After X.K bs EX W (f k S) Q := by
  cases e : truthy S d with
  | none => rw [e] at a; exact a.elim
  | some k =>
    rw [e] at a
    exact ⟨k, tru_rel sm r e, a⟩
theorem s_not (ha : E X mg bs Ex a ra) : E X mg bs Ex (.UnaryOp .Not a pos) fun ρ S => (ra ρ S).bind fun x S1 => (lift S1 (truthy S1 x)).bind fun b S2 => .ok (.bl (!b)) S2 :=
  PEimp (pe_notT ha) fun σ H Q ⟨W, ρ, S, ev, sm, a⟩ => ⟨W, ρ, S, ev, sm, a.bind.imp fun d S1 W1 H1 e1 s1 a1 v rv => by
    obtain ⟨k, t, a2⟩ := truth_then s1 rv a1
    exact ⟨k, t, After.now (S := S1) a2 s1 _ (.bl _)⟩⟩
theorem s_and {rest : List Expr} (ha : E X mg bs Ex a ra) (hb : E X mg bs Ex (.BoolOp .And (b :: rest) pos) rb) :
    E X mg bs Ex (.BoolOp .And (a :: b :: rest) pos) fun ρ S => (ra ρ S).bind fun x S1 => (lift S1 (truthy S1 x)).bind fun k S2 => if k then rb ρ S2 else .ok x S2 :=
  PEimp (pe_andT ha hb) fun σ H Q ⟨W, ρ, S, ev, sm, a⟩ => ⟨W, ρ, S, ev, sm, a.bind.imp fun d S1 W1 H1 e1 s1 a1 v rv => by
    obtain ⟨k, t, a2⟩ := truth_then s1 rv a1
    refine ⟨k, t, ?_⟩
    cases k with
    | true => exact ⟨W1, ρ, S1, ev.mono e1, s1, a2⟩
    | false => exact After.now (S := S1) a2 s1 _ rv⟩
theorem s_or {rest : List Expr} (ha : E X mg bs Ex a ra) (hb : E X mg bs Ex (.BoolOp .Or (b :: rest) pos) rb) :
    E X mg bs Ex (.BoolOp .Or (a :: b :: rest) pos) fun ρ S => (ra ρ S).bind fun x S1 => (lift S1 (truthy S1 x)).bind fun k S2 => if k then .ok x S2 else rb ρ S2 :=
  PEimp (pe_orT ha hb) fun σ H Q ⟨W, ρ, S, ev, sm, a⟩ => ⟨W, ρ, S, ev, sm, a.bind.imp fun d S1 W1 H1 e1 s1 a1 v rv => by
    obtain ⟨k, t, a2⟩ := truth_then s1 rv a1
    refine ⟨k, t, ?_⟩
    cases k with
    | true => exact After.now (S := S1) a2 s1 _ rv
    | false => exact ⟨W1, ρ, S1, ev.mono e1, s1, a2⟩⟩
/-! ### tests -/
abbrev T (X : Cx) (mg : Str → Option Value) (bs : List Nat) (Ex : XK) (e : Expr) (r : Env → Store → Res D) : Prop := PT X e (tB X.K mg bs Ex (evT r))
abbrev TW (X : Cx) (mg : Str → Option Value) (bs : List Nat) (Ex : XK) (e : Expr) (r : Env → Store → Res D) : Prop := PW X e (tB X.K mg bs Ex (evT r))
/-- an expression whose test is its value's truth -/
theorem t_val (ha : E X mg bs Ex a ra) (he : ∀ whole, isTrue a X.env whole = (do let v ← whole; standAt a.pos; holding [v] (PySem.truthy v))) : T X mg bs Ex a ra :=
  PTimp (pt_truth ha he) fun σ H Q ⟨W, ρ, S, ev, sm, h⟩ => ⟨W, ρ, S, ev, sm, (After.bind (f := fun x S1 => lift S1 (Pv.truthy S1 x)) h).imp fun d S1 W1 H1 e1 s1 a1 v rv => by
    cases e : Pv.truthy S1 d with
    | none => rw [e] at a1; exact a1.elim
    | some k =>
      rw [e] at a1
      exact ⟨k, tru_rel s1 rv e, After.now (S := S1) a1 s1⟩⟩
/-- an answer of a comparison -/
def IsB (f : D → D → Store → Res D) : Prop := ∀ d e S, (∃ k, f d e S = .ok (.bl k) S) ∨ f d e S = .bad
theorem ans_isB (f : D → D → Store → Option Bool) : IsB (ansB f) := fun d e S => by
  unfold ansB
  cases f d e S with
  | none => exact .inr rfl
  | some k => exact .inl ⟨k, rfl⟩
theorem t_cmp {op : CmpOp} {f : D → D → Store → Res D} (ho : OpR X (compareOp op) (rS2 X.K mg bs Ex f)) (hf : IsB f) (ha : E X mg bs Ex a ra) (hb : E X mg bs Ex b rb) (hm : behindInMarks op b = false) :
    T X mg bs Ex (.Compare a [op] [b] pos) fun ρ S => (ra ρ S).bind fun d S1 => (rb ρ S1).bind fun e S2 => f d e S2 :=
  PTimp (pt_cmpR ho ha hb hm) fun σ H Q ⟨W, ρ, S, ev, sm, h⟩ => by
    unfold evT at h
    rw [Res.bind_assoc] at h
    refine ⟨W, ρ, S, ev, sm, h.bind.imp fun d S1 W1 H1 e1 s1 a1 x rx => ?_⟩
    rw [Res.bind_assoc] at a1
    refine ⟨W1, ρ, S1, ev.mono e1, s1, a1.bind.imp fun e S2 W2 H2 e2 s2 a2 y ry => ⟨W2, S2, d, e, s2, rx.mono e2, ry, ?_⟩⟩
    rcases hf d e S2 with ⟨k, q⟩ | q
    · rw [q] at a2
      show After X.K bs _ W2 (f d e S2) _
      rw [q]
      exact fun W3 H3 e3 s3 v rv => by
        cases rv
        exact ⟨k, rfl, a2 W3 H3 e3 s3⟩
    · rw [q] at a2
      exact a2.elim
theorem tw_one (ha : T X mg bs Ex a ra) {op : BoolOp} : TW X mg bs Ex (.BoolOp op [a] pos) ra := by
  cases op with
  | And => exact pw_and1 ha
  | Or => exact pw_or1 ha
theorem ev_and {W : Wd} {ρ : Env} {S : Store} {Q : Bool → Store → Wd → L2.Hp → Prop} {EX : Exn → Wd → L2.Hp → Prop}
    (h : After X.K bs EX W (evT (fun ρ S => (ra ρ S).bind fun x S1 => (lift S1 (Pv.truthy S1 x)).bind fun k S2 => if k then rb ρ S2 else .ok x S2) ρ S) Q) :
    After X.K bs EX W ((evT ra ρ S).bind fun k S2 => if k then evT rb ρ S2 else .ok false S2) Q := by
  unfold evT at h ⊢
  dsimp only at h ⊢
  cases e : ra ρ S with
  | ok d S1 =>
    rw [e] at h
    dsimp only [Res.bind] at h ⊢
    cases q : Pv.truthy S1 d with
    | none => rw [q] at h; exact h
    | some k =>
      rw [q] at h
      dsimp only [lift] at h ⊢
      cases k with
      | true => exact h
      | false =>
        simp only [Bool.false_eq_true, if_false] at h ⊢
        rw [q] at h
        exact h
  | exc x S1 => rw [e] at h; exact h
  | bad => rw [e] at h; exact h
theorem ev_or {W : Wd} {ρ : Env} {S : Store} {Q : Bool → Store → Wd → L2.Hp → Prop} {EX : Exn → Wd → L2.Hp → Prop}
    (h : After X.K bs EX W (evT (fun ρ S => (ra ρ S).bind fun x S1 => (lift S1 (Pv.truthy S1 x)).bind fun k S2 => if k then .ok x S2 else rb ρ S2) ρ S) Q) :
    After X.K bs EX W ((evT ra ρ S).bind fun k S2 => if k then .ok true S2 else evT rb ρ S2) Q := by
  unfold evT at h ⊢
  dsimp only at h ⊢
  cases e : ra ρ S with
  | ok d S1 =>
    rw [e] at h
    dsimp only [Res.bind] at h ⊢
    cases q : Pv.truthy S1 d with
    | none => rw [q] at h; exact h
    | some k =>
      rw [q] at h
      dsimp only [lift] at h ⊢
      cases k with
      | false => exact h
      | true =>
        simp only [if_true] at h ⊢
        rw [q] at h
        exact h
  | exc x S1 => rw [e] at h; exact h
  | bad => rw [e] at h; exact h
theorem tw_and {rest : List Expr} (ha : T X mg bs Ex a ra) (hb : TW X mg bs Ex (.BoolOp .And (b :: rest) pos) rb) :
    TW X mg bs Ex (.BoolOp .And (a :: b :: rest) pos) fun ρ S => (ra ρ S).bind fun x S1 => (lift S1 (Pv.truthy S1 x)).bind fun k S2 => if k then rb ρ S2 else .ok x S2 :=
  PWimp (pw_and ha hb) fun σ H Q ⟨W, ρ, S, ev, sm, h⟩ => ⟨W, ρ, S, ev, sm, (ev_and h).bind.imp fun k S1 W1 H1 e1 s1 a1 => by
    cases k with
    | true => exact ⟨W1, ρ, S1, ev.mono e1, s1, a1⟩
    | false => exact After.now (S := S1) a1 s1⟩
theorem tw_or {rest : List Expr} (ha : T X mg bs Ex a ra) (hb : TW X mg bs Ex (.BoolOp .Or (b :: rest) pos) rb) :
    TW X mg bs Ex (.BoolOp .Or (a :: b :: rest) pos) fun ρ S => (ra ρ S).bind fun x S1 => (lift S1 (Pv.truthy S1 x)).bind fun k S2 => if k then .ok x S2 else rb ρ S2 :=
  PWimp (pw_or ha hb) fun σ H Q ⟨W, ρ, S, ev, sm, h⟩ => ⟨W, ρ, S, ev, sm, (ev_or h).bind.imp fun k S1 W1 H1 e1 s1 a1 => by
    cases k with
    | true => exact After.now (S := S1) a1 s1
    | false => exact ⟨W1, ρ, S1, ev.mono e1, s1, a1⟩⟩
theorem t_not (ha : T X mg bs Ex a ra) : T X mg bs Ex (.UnaryOp .Not a pos) fun ρ S => (ra ρ S).bind fun x S1 => (lift S1 (Pv.truthy S1 x)).bind fun b S2 => .ok (.bl (!b)) S2 :=
  PTimp (pt_not ha) fun σ H Q ⟨W, ρ, S, ev, sm, h⟩ => by
    refine ⟨W, ρ, S, ev, sm, ?_⟩
    have h' : After X.K bs (EXx X.K mg Ex) W ((evT ra ρ S).bind fun k S2 => .ok (!k) S2) fun k _ _ H' => Q k H' := by
      unfold evT at h ⊢
      dsimp only at h ⊢
      cases e : ra ρ S with
      | ok d S1 =>
        rw [e] at h
        dsimp only [Res.bind] at h ⊢
        cases q : Pv.truthy S1 d with
        | none => rw [q] at h; exact h
        | some k => rw [q] at h; exact h
      | exc x S1 => rw [e] at h; exact h
      | bad => rw [e] at h; exact h
    exact h'.bind.imp fun k S1 W1 H1 e1 s1 a1 => After.now (S := S1) a1 s1
theorem s_ite (hc : T X mg bs Ex c rc) (ha : E X mg bs Ex a ra) (hb : E X mg bs Ex b rb) :
    E X mg bs Ex (.IfExp c a b pos) fun ρ S => (rc ρ S).bind fun x S1 => (lift S1 (Pv.truthy S1 x)).bind fun k S2 => if k then ra ρ S2 else rb ρ S2 :=
  PEimp (pe_ifExp hc ha hb) fun σ H Q ⟨W, ρ, S, ev, sm, h⟩ => by
    refine ⟨W, ρ, S, ev, sm, ?_⟩
    have h' : After X.K bs (EXx X.K mg Ex) W ((evT rc ρ S).bind fun k S2 => if k then ra ρ S2 else rb ρ S2) fun d _ W' H' => ∀ v, Rep X.K W' v d → Q v H' := by
      unfold evT
      rw [Res.bind_assoc]
      exact h
    exact h'.bind.imp fun k S1 W1 H1 e1 s1 a1 => by
      cases k with
      | true => exact ⟨W1, ρ, S1, ev.mono e1, s1, a1⟩
      | false => exact ⟨W1, ρ, S1, ev.mono e1, s1, a1⟩
/-! ### displays -/
theorem s_args_nil : PA X [] (tAs X.K mg bs Ex fun _ S => .ok [] S) := PAimp pa_nil fun σ H Q ⟨W, ρ, S, ev, sm, h⟩ => After.now (S := S) h sm [] .nil
theorem s_args_cons {es : List Expr} {rs : Env → Store → Res (List D)} (ha : E X mg bs Ex a ra) (hr : PA X es (tAs X.K mg bs Ex rs)) (hs : starEach (a :: es) X.env = (false, eval a X.env) :: starEach es X.env) :
    PA X (a :: es) (tAs X.K mg bs Ex fun ρ S => (ra ρ S).bind fun x S1 => (rs ρ S1).bind fun xs S2 => .ok (x :: xs) S2) :=
  PAimp (pa_cons ha hr hs) fun σ H Q ⟨W, ρ, S, ev, sm, h⟩ => ⟨W, ρ, S, ev, sm, h.bind.imp fun d S1 W1 H1 e1 s1 a1 x rx =>
    ⟨W1, ρ, S1, ev.mono e1, s1, a1.bind.imp fun ds S2 W2 H2 e2 s2 a2 xs rxs => After.now (S := S2) a2 s2 _ (.cons (rx.mono e2) rxs)⟩⟩
theorem s_tup {es : List Expr} {k : Nat} {rs : Env → Store → Res (List D)} (h : PA X es (tAs X.K mg bs Ex rs)) :
    E X mg bs Ex (.Tuple es k pos) fun ρ S => (rs ρ S).bind fun xs S1 => if xs.length ≤ LIM then .ok (.tup xs) S1 else .bad :=
  PEimp (pe_tup h) fun σ H Q ⟨W, ρ, S, ev, sm, h⟩ => ⟨W, ρ, S, ev, sm, h.bind.imp fun ds S1 W1 H1 e1 s1 a1 xs rxs => by
    by_cases hl : ds.length ≤ LIM
    · rw [if_pos hl] at a1
      exact ⟨by rw [rxs.length]; exact le_line hl, fun p hp => new_tup s1 hp rxs a1⟩
    · rw [if_neg hl] at a1
      exact a1.elim⟩
theorem s_lst {es : List Expr} {md : Bool} {rs : Env → Store → Res (List D)} (h : PA X es (tAs X.K mg bs Ex rs)) :
    E X mg bs Ex (.List es pos) fun ρ S => (rs ρ S).bind fun xs S1 => if xs.length ≤ LIM then newL md S1 xs else .bad :=
  PEimp (pe_lst h) fun σ H Q ⟨W, ρ, S, ev, sm, h⟩ => ⟨W, ρ, S, ev, sm, h.bind.imp fun ds S1 W1 H1 e1 s1 a1 xs rxs => by
    by_cases hl : ds.length ≤ LIM
    · rw [if_pos hl] at a1
      exact ⟨by rw [rxs.length]; exact le_line hl, fun p hp => new_lst s1 hp rxs a1⟩
    · rw [if_neg hl] at a1
      exact a1.elim⟩
end
end Pv

/-! More expressions: chains, isinstance, subscripts, slices. -/
namespace Pv
open PySem L2 PyProof.Rows
section
variable {X : Cx} {mg : Str → Option Value} {bs : List Nat} {Ex : XK} {ra rb rc : Env → Store → Res D} {a b c : Expr} {pos : Pos}
/-- a op b op' c -/
def chainR (f g : D → D → Store → Option Bool) (ra rb rc : Env → Store → Res D) : Env → Store → Res D := fun ρ S =>
  (ra ρ S).bind fun x S1 => (rb ρ S1).bind fun y S2 => (lift S2 (f x y S2)).bind fun k S3 =>
    if k then (rc ρ S3).bind fun z S4 => (lift S4 (g y z S4)).bind fun m S5 => .ok (.bl m) S5 else .ok (.bl false) S3
theorem chain_rd {f g : D → D → Store → Option Bool} {σ : L2.St} {H : L2.Hp} {Q : VK} (h : tE X.K mg bs Ex (chainR f g ra rb rc) σ H Q) :
    tChain (rS2 X.K mg bs Ex (ansB f)) (rS2 X.K mg bs Ex (ansB g)) (tE X.K mg bs Ex ra) (tE X.K mg bs Ex rb) (tE X.K mg bs Ex rc) σ H Q := by
  obtain ⟨W, ρ, S, ev, sm, h⟩ := h
  unfold chainR at h
  refine ⟨W, ρ, S, ev, sm, h.bind.imp fun x S1 W1 H1 e1 s1 a1 v rv => ?_⟩
  refine ⟨W1, ρ, S1, ev.mono e1, s1, a1.bind.imp fun y S2 W2 H2 e2 s2 a2 w rw' => ?_⟩
  refine ⟨W2, S2, x, y, s2, rv.mono e2, rw', ?_⟩
  unfold ansB
  cases q : f x y S2 with
  | none => rw [q] at a2; exact a2.elim
  | some k =>
    rw [q] at a2
    simp only [lift_some, Res.bind_ok] at a2
    intro W3 H3 e3 s3 u ru
    cases ru
    refine ⟨k, rfl, ?_⟩
    cases k with
    | false =>
      rw [if_neg Bool.false_ne_true] at a2 ⊢
      exact a2 W3 H3 e3 s3 _ (.bl false)
    | true =>
      rw [if_pos rfl] at a2 ⊢
      refine ⟨W3, ρ, S2, (ev.mono e1).mono (e2.trans e3), s3, (After.ext e3 (After.bind (f := fun z S4 => (lift S4 (g y z S4)).bind fun m S5 => Res.ok (D.bl m) S5) a2)).imp fun z S4 W4 H4 e4 s4 a4 t rt => ?_⟩
      exact ⟨W4, S4, y, z, s4, (rw'.mono e3).mono e4, rt, a4⟩
theorem s_chain {o p : CmpOp} {f g : D → D → Store → Option Bool} (ho : OpR X (compareOp o) (rS2 X.K mg bs Ex (ansB f))) (hp : OpR X (compareOp p) (rS2 X.K mg bs Ex (ansB g))) (ha : E X mg bs Ex a ra) (hb : E X mg bs Ex b rb) (hc : E X mg bs Ex c rc)
    (hm : lastMarks [o, p] [b, c] = false) : E X mg bs Ex (.Compare a [o, p] [b, c] pos) (chainR f g ra rb rc) :=
  PEimp (pe_chain ho hp ha hb hc hm) fun σ H Q h => chain_rd h
/-- .. its answer is a truth value -/
theorem chain_bl {f g : D → D → Store → Option Bool} {ρ : Env} {S : Store} : ∀ d S', chainR f g ra rb rc ρ S = .ok d S' → ∃ k, d = .bl k := by
  intro d S' h
  unfold chainR at h
  cases e1 : ra ρ S with
  | ok x S1 =>
    rw [e1] at h
    dsimp only [Res.bind] at h
    cases e2 : rb ρ S1 with
    | ok y S2 =>
      rw [e2] at h
      dsimp only at h
      cases e3 : f x y S2 with
      | none => rw [e3] at h; cases h
      | some k =>
        rw [e3] at h
        dsimp only [lift] at h
        cases k with
        | false => cases h; exact ⟨false, rfl⟩
        | true =>
          rw [if_pos rfl] at h
          cases e4 : rc ρ S2 with
          | ok z S4 =>
            rw [e4] at h
            dsimp only at h
            cases e5 : g y z S4 with
            | none => rw [e5] at h; cases h
            | some m => rw [e5] at h; cases h; exact ⟨m, rfl⟩
          | exc x S4 => rw [e4] at h; cases h
          | bad => rw [e4] at h; cases h
    | exc x S2 => rw [e2] at h; cases h
    | bad => rw [e2] at h; cases h
  | exc x S1 => rw [e1] at h; cases h
  | bad => rw [e1] at h; cases h
theorem t_chain {o p : CmpOp} {f g : D → D → Store → Option Bool} (ho : OpR X (compareOp o) (rS2 X.K mg bs Ex (ansB f))) (hp : OpR X (compareOp p) (rS2 X.K mg bs Ex (ansB g))) (ha : E X mg bs Ex a ra) (hb : E X mg bs Ex b rb) (hc : E X mg bs Ex c rc)
    (hm : lastMarks [o, p] [b, c] = false) : T X mg bs Ex (.Compare a [o, p] [b, c] pos) (chainR f g ra rb rc) :=
  PTimp (pt_chain ho hp ha hb hc hm) fun σ H Q ⟨W, ρ, S, ev, sm, h⟩ => by
    refine chain_rd ⟨W, ρ, S, ev, sm, ?_⟩
    unfold evT at h
    cases e : chainR f g ra rb rc ρ S with
    | ok d S' =>
      obtain ⟨k, rfl⟩ := chain_bl d S' e
      rw [e] at h
      intro W' H' e' s' v rv
      cases rv
      exact ⟨k, rfl, h W' H' e' s'⟩
    | exc x S' => rw [e] at h; exact h
    | bad => rw [e] at h; exact h
/-! ### isinstance -/
def Ty.nm : Ty → String
  | .int => "int" | .bool => "bool" | .str => "str" | .tuple => "tuple" | .list => "list" | .dict => "dict"
theorem kit_all (t u : Ty) : kitB t.nm u.nm = some (decide (t = u) || (decide (t = .bool) && decide (u = .int))) := by
  cases t <;> cases u <;> decide +kernel
theorem kit_non (u : Ty) : kitB "NoneType" u.nm = some false := by
  cases u <;> decide +kernel
theorem ty_rel {K : PySem.W.Frag} {W : Wd} {S : Store} {H : L2.Hp} {v : V} {d : D} {t : Ty} (sm : Sim K bs W S H) (r : Rep K W v d) (h : tyOf S d = some t) : TyX K H v (.type t.nm) := by
  have rdl : ∀ {a : Addr} {vs : List V}, ExL K H a vs → TyX K H (.ref a) (.type "list") := fun {a vs} g => by
    rcases g with (g | ⟨o, g⟩) | ⟨its, n, g, _⟩
    · exact .base (.lst g)
    · exact .base (.frz g)
    · exact .kList g rfl
  cases r with
  | bl b => cases h; exact .base (.bl b)
  | int b => cases h; exact .base (.int b)
  | str b => cases h; exact .base (.str b)
  | tup g r =>
    cases h
    rcases sm.tat g with (g | ⟨o, g⟩) | ⟨o, its, n, g, c, _⟩
    · exact .base (.tup g)
    · exact .fTuple g
    · exact .kTuple g c
  | lst g r => cases h; exact rdl (sm.lat g)
  | dct g r => cases h; exact .base (.dK (sm.fz _ _ g))
  | @ref b m e =>
    unfold tyOf at h
    dsimp only at h
    split at h
    · rename_i xs q
      cases h
      obtain ⟨p, vs, ev, _, g, _⟩ := sm.lstRef (.ref (K := K) e) q
      cases ev
      exact .base (.lst g)
    · rename_i ks xs q
      cases h
      obtain ⟨p, kvs, ev, _, g, _⟩ := sm.dctRef (.ref (K := K) e) q
      cases ev
      exact .base (.dK g)
    · cases h
  | non => cases h
/-- the answer of isinstance, by the class -/
theorem inst_rel {K : PySem.W.Frag} {W : Wd} {S : Store} {H : L2.Hp} {v : V} {d : D} {ts : List Ty} {k : Bool} (sm : Sim K bs W S H) (r : Rep K W v d) (h : instOf S d ts = some k) :
    ∃ n : String, TyX K H v (.type n) ∧ ∃ f : Ty → Bool, (∀ u, kitB n u.nm = some (f u)) ∧ k = ts.any f := by
  by_cases hd : d = .non
  · subst hd
    cases r
    cases h
    refine ⟨"NoneType", .base .non, fun _ => false, kit_non, ?_⟩
    induction ts with
    | nil => rfl
    | cons t r ih => rw [List.any_cons, ← ih]; rfl
  · have h' : (tyOf S d).map (fun t => ts.any fun u => decide (t = u) || (decide (t = .bool) && decide (u = .int))) = some k := by
      unfold instOf at h
      split at h
      · exact absurd rfl hd
      · exact h
    obtain ⟨t, e, rfl⟩ := Option.map_eq_some_iff.mp h'
    exact ⟨t.nm, ty_rel sm r e, _, kit_all t, rfl⟩
theorem kit_any {K : PySem.W.Frag} {n : String} {f : Ty → Bool} (h : ∀ u, kitB n u.nm = some (f u)) : ∀ ts : List Ty, PySem.W.kitAny K (.type n) (ts.map fun t => Value.type t.nm) = some (ts.any f)
  | [] => kitAny_nil
  | t :: r => by
    rw [List.map_cons, List.any_cons]
    refine kitAny_cons (b := f t) (kit_ty (h t)) (fun e => ?_) (fun e => by rw [e]; rfl)
    rw [e, Bool.false_or]
    exact kit_any h r
def instR (ra : Env → Store → Res D) (ts : List Ty) : Env → Store → Res D := fun ρ S => (ra ρ S).bind fun x S1 => (lift S1 (instOf S1 x ts)).bind fun b S2 => .ok (.bl b) S2
theorem inst_end {W : Wd} {S : Store} {H : L2.Hp} {Q : VK} {d : D} {ts : List Ty} (sm : Sim X.K bs W S H) (h : AfV X.K mg bs Ex W ((lift S (instOf S d ts)).bind fun b S2 => .ok (.bl b) S2) Q) : ∃ k, instOf S d ts = some k ∧ Q (.bl k) H := by
  cases e : instOf S d ts with
  | none => rw [e] at h; exact h.elim
  | some k =>
    rw [e] at h
    exact ⟨k, rfl, After.now (S := S) h sm _ (.bl k)⟩
/-- isinstance(a, T) -/
theorem s_inst1 {t : Ty} {e : Expr} {p : Pos} (hg : Gl X "isinstance") (hm : X.mg "isinstance" = none) (ht : PE X e (tC (.ty t.nm))) (ha : E X mg bs Ex a ra)
    (h1 : starEach (a :: [e]) X.env = (false, eval a X.env) :: starEach [e] X.env) (h2 : starEach (e :: []) X.env = (false, eval e X.env) :: starEach [] X.env) :
    E X mg bs Ex (.Call (.Name "isinstance" p) [a, e] [] pos) (instR ra [t]) :=
  PEimp (pe_callB call_isi hg hm (by decide +kernel) (pa_cons ha (pa_cons ht pa_nil h2) h1) (by decide) (by decide) h1 (by rw [h2]; rfl)) fun σ H Q ⟨W, ρ, S, ev, sm, h⟩ =>
    ⟨W, ρ, S, ev, sm, (After.bind (f := fun x S1 => (lift S1 (instOf S1 x [t])).bind fun b S2 => Res.ok (D.bl b) S2) h).imp fun d S1 W1 H1 e1 s1 a1 v rv => by
      obtain ⟨k, q, hq⟩ := inst_end s1 a1
      obtain ⟨n, ty, f, hf, rfl⟩ := inst_rel s1 rv q
      refine ⟨v, .ty t.nm, .type n, .type t.nm, f t, rfl, .ty _, ty, kit_ty (hf t), ?_⟩
      have z : [t].any f = f t := by simp
      rw [z] at hq
      exact hq⟩
/-- isinstance(a, (T, T')) -/
theorem s_inst2 {t u : Ty} {e g : Expr} {p p2 : Pos} {n : Nat} (hg : Gl X "isinstance") (hm : X.mg "isinstance" = none) (ht : PE X e (tC (.ty t.nm))) (hu : PE X g (tC (.ty u.nm))) (ha : E X mg bs Ex a ra)
    (h1 : starEach (a :: [.Tuple [e, g] n p2]) X.env = (false, eval a X.env) :: starEach [.Tuple [e, g] n p2] X.env) (h3 : starEach (e :: [g]) X.env = (false, eval e X.env) :: starEach [g] X.env) (h4 : starEach (g :: []) X.env = (false, eval g X.env) :: starEach [] X.env) :
    E X mg bs Ex (.Call (.Name "isinstance" p) [a, .Tuple [e, g] n p2] [] pos) (instR ra [t, u]) :=
  PEimp (pe_callB call_isiT hg hm (by decide +kernel) (pa_cons ha (pa_cons (pe_tup (pa_cons ht (pa_cons hu pa_nil h4) h3)) pa_nil rfl) h1) (by decide) (by decide) h1 rfl) fun σ H Q ⟨W, ρ, S, ev, sm, h⟩ =>
    ⟨W, ρ, S, ev, sm, (After.bind (f := fun x S1 => (lift S1 (instOf S1 x [t, u])).bind fun b S2 => Res.ok (D.bl b) S2) h).imp fun d S1 W1 H1 e1 s1 a1 v rv => by
      refine ⟨by show 2 ≤ sizeLine; rw [sizeLine_eq]; decide, fun tp htp => ?_⟩
      have fr : Sim X.K bs (W1.addF tp (.tup [.ty t.nm, .ty u.nm])) S1 (upd H1 tp (.tup [.ty t.nm, .ty u.nm])) := s1.newF htp (.tup [.ty t.nm, .ty u.nm])
      have ex : Ext W1 (W1.addF tp (.tup [.ty t.nm, .ty u.nm])) := addF_ext (s1.fzNone htp)
      obtain ⟨k, q, hq⟩ := inst_end fr (After.ext ex a1)
      obtain ⟨n, ty, f, hf, rfl⟩ := inst_rel fr (rv.mono ex) q
      exact ⟨v, tp, [.ty t.nm, .ty u.nm], .type n, [.type t.nm, .type u.nm], _, rfl, upd_same, .cons (.ty _) (.cons (.ty _) .nil), ty, kit_any hf [t, u], hq⟩⟩
end
end Pv

/-! Subscripts, slices, names, calls of built-ins. -/
namespace Pv
open PySem L2 PyProof.Rows
theorem at_eq {α : Type} (xs : List α) (i : Int) : L2.atI xs i = atOf xs i := rfl
theorem at_rel {K : PySem.W.Frag} {W : Wd} {vs : List V} {ds : List D} {i : Int} {d : D} (r : RepAll K W vs ds) (h : atOf ds i = some d) : ∃ v, L2.atI vs i = some v ∧ Rep K W v d := by
  unfold atOf at h
  cases e : ixOf ds.length i with
  | none => rw [e] at h; cases h
  | some j =>
    rw [e] at h
    obtain ⟨v, h1, h2⟩ := r.get (i := j) h
    refine ⟨v, ?_, h2⟩
    show (ixOf vs.length i).bind (fun j => vs[j]?) = some v
    rw [r.length, e]
    exact h1
section
variable {X : Cx} {mg : Str → Option Value} {bs : List Nat} {Ex : XK} {ra rb rc : Env → Store → Res D} {a b c : Expr} {pos : Pos}
theorem i_dict (hu : X.A.units + 1 < cLine) : IxR X (fun x y H Q => ∃ l kvs k v, x = .ref l ∧ y = kV k ∧ Rd H l (.dK kvs) ∧ valV kvs k = some v ∧ Q v H) := by
  intro value slice pins s σ H x y v u Q I rx ry ⟨l, kvs, k, w, ex, ey, g, e, q⟩ hs
  subst ex
  obtain rfl : v = Value.ref l := rx
  have g' : DGet H l y (some w) := by
    rw [ey, ← e]
    exact .inl ⟨kvs, k, g, rfl, rfl⟩
  exact tail_any (ops := [.ref l, u]) (dict_typeIs I g') PySem.F.slot_dict_getitem.lookup (d_getItem hu I g' ry fun w' s3 I3 rw' => ⟨w, H, I3, rw', q⟩) hs
theorem o_ix (hu : X.A.units + 1 < cLine) : IxR X (rS2 X.K mg bs Ex ixF) := by
  intro value slice pins s σ H x y v u Q I rx ry ⟨W, S, d, k, sm, rd, rk, h⟩ hs
  have key : ∀ (ky : Key), y = kV ky → ∀ ks vs, dctOf S d = some (ks, vs) → AfV X.K mg bs Ex W (lift S (valOf ky ks vs)) Q → wpAny (model X.prog X.w) X.A (subscriptTail value slice v u) (EP X pins σ Q) X.xe s := by
    intro ky ey ks vs e h
    obtain ⟨l, kvs, rfl, g, rfl, r⟩ := sm.dctOf rd e
    rcases val_rel ky r with ⟨e1, e2⟩ | ⟨w, d', e1, e2, rw'⟩
    · rw [e2] at h
      exact h.elim
    · exact i_dict hu value slice pins s σ H _ y v u Q I rx ry ⟨l, kvs, ky, w, rfl, ey, g, e1, lift_end sm e2 rw' h⟩ hs
  dsimp only [AfV] at h
  cases rk with
  | int n =>
    dsimp only [ixF] at h
    cases e : seqOf S d with
    | some xs =>
      rw [e] at h
      dsimp only at h
      obtain ⟨l, ws, rfl, g, r⟩ := sm.seqOf rd e
      cases q : atOf xs n with
      | none => rw [q] at h; exact h.elim
      | some d' =>
        obtain ⟨w, e1, rw'⟩ := at_rel r q
        have hq := lift_end sm q rw' h
        rcases g with g | g
        · exact ix_list value slice pins s σ H _ _ v u Q I rx ry ⟨l, ws, n, w, rfl, rfl, g.sq, e1, hq⟩ hs
        · exact ix_tup value slice pins s σ H _ _ v u Q I rx ry ⟨l, ws, n, w, rfl, rfl, g, e1, hq⟩ hs
    | none =>
      rw [e] at h
      dsimp only at h
      cases e2 : dctOf S d with
      | none => rw [e2] at h; exact h.elim
      | some p =>
        obtain ⟨ks, vs⟩ := p
        rw [e2] at h
        exact key (.inl n) rfl ks vs e2 h
  | str z =>
    dsimp only [ixF] at h
    cases e2 : dctOf S d with
    | none => rw [e2] at h; exact h.elim
    | some p =>
      obtain ⟨ks, vs⟩ := p
      rw [e2] at h
      exact key (.inr z) rfl ks vs e2 h
  | _ => exact h.elim
theorem s_ix (hu : X.A.units + 1 < cLine) (ha : E X mg bs Ex a ra) (hb : E X mg bs Ex b rb) (hs : PlainIx b) :
    E X mg bs Ex (.Subscript a b pos) fun ρ S => (ra ρ S).bind fun d S1 => (rb ρ S1).bind fun e S2 => ixF d e S2 :=
  PEimp (pe_ix (o_ix hu) ha hb hs) fun σ H Q h => tE_bin (fun W S H x y d e Q sm rx ry a => ⟨W, S, d, e, sm, rx, ry, a⟩) h
/-! ### slices -/
abbrev OP (X : Cx) (mg : Str → Option Value) (bs : List Nat) (Ex : XK) (e : Option Expr) (r : Env → Store → Res (Option Int)) : Prop := PO X e (tOp' X.K mg bs Ex r)
theorem POimp {e : Option Expr} {t t' : TO} (h : PO X e t) (f : ∀ σ H Q, t' σ H Q → t σ H Q) : PO X e t' := ⟨fun pins s σ H Q I q => h.run pins s σ H Q I (f σ H Q q)⟩
theorem p_none : OP X mg bs Ex none fun _ S => .ok none S := POimp po_none fun σ H Q ⟨W, ρ, S, ev, sm, h⟩ => After.now (S := S) h sm
theorem p_some (ha : E X mg bs Ex a ra) : OP X mg bs Ex (some a) fun ρ S => (ra ρ S).bind fun x S1 => match x with
    | .int i => .ok (some i) S1
    | _ => .bad :=
  POimp (po_some ha) fun σ H Q ⟨W, ρ, S, ev, sm, h⟩ => ⟨W, ρ, S, ev, sm, h.bind.imp fun d S1 W1 H1 e1 s1 a1 v rv => by
    cases rv with
    | int i => exact ⟨i, rfl, After.now (S := S1) a1 s1⟩
    | _ => exact a1.elim⟩
theorem o_sl {md : Bool} : SlR X (fun x lo hi H Q => ∃ W S d, Sim X.K bs W S H ∧ Rep X.K W x d ∧ AfV X.K mg bs Ex W (slF md d lo hi S) Q) := by
  intro pins s σ H x v vl vu lo hi sl Q I rx hs pl pu ⟨W, S, d, sm, rd, h⟩
  have lst : ∀ ds, lstOf S d = some ds → AfV X.K mg bs Ex W (newL md S (cutOf ds lo hi)) Q → ∃ T id, typeLookup (.type T) "__getitem__" = pure (some (.builtin id)) ∧ s.TypeIs v T ∧ wpAny (model X.prog X.w) X.A (getItem v (.ref sl)) (EP X pins σ Q) X.xe s := fun ds e h => by
    obtain ⟨l, ws, rfl, g, r⟩ := sm.lstOf rd e
    exact sl_list pins s σ H _ v vl vu lo hi sl Q I rx hs pl pu ⟨l, ws, rfl, g.sq, fun p hp => new_lst sm hp (r.cut lo hi) h⟩
  cases rd with
  | tup t r =>
    rename_i l vs ds
    refine sl_tupA pins s σ H _ v vl vu lo hi sl Q I rx hs pl pu ⟨l, vs, rfl, sm.tat t, fun z => ?_, fun z p hp => new_tup sm hp (r.cut lo hi) h⟩
    have e : cutOf ds lo hi = ds := by
      unfold cutOf
      rw [← r.length, z.1, z.2]
      simp [r.length]
    dsimp only [AfV, slF] at h
    rw [e] at h
    exact After.now (S := S) h sm _ (.tup t r)
  | lst t r => exact lst _ rfl h
  | @ref b n e =>
    dsimp only [AfV, slF] at h
    cases q : lstOf S (.ref n) with
    | none => rw [q] at h; exact h.elim
    | some ds => rw [q] at h; exact lst ds q h
  | _ => exact h.elim
theorem s_sl {md : Bool} {lo hi : Option Expr} {rl rh : Env → Store → Res (Option Int)} {p2 : Pos} (ha : E X mg bs Ex a ra) (hl : OP X mg bs Ex lo rl) (hh : OP X mg bs Ex hi rh) :
    E X mg bs Ex (.Subscript a (.Slice lo hi none p2) pos) fun ρ S => (ra ρ S).bind fun x S1 => (rl ρ S1).bind fun l S2 => (rh ρ S2).bind fun h S3 => slF md x l h S3 :=
  PEimp (pe_slice o_sl ha hl hh) fun σ H Q ⟨W, ρ, S, ev, sm, h⟩ => ⟨W, ρ, S, ev, sm, h.bind.imp fun d S1 W1 H1 e1 s1 a1 v rv =>
    ⟨W1, ρ, S1, ev.mono e1, s1, a1.bind.imp fun l S2 W2 H2 e2 s2 a2 => ⟨W2, ρ, S2, (ev.mono e1).mono e2, s2, a2.bind.imp fun u S3 W3 H3 e3 s3 a3 => ⟨W3, S3, d, s3, rv.mono (e2.trans e3), a3⟩⟩⟩⟩
theorem s_rev {md : Bool} {k : Nat} {p1 p2 p3 : Pos} (ha : E X mg bs Ex a ra) : E X mg bs Ex (.Subscript a (.Slice none none (some (.UnaryOp .USub (.Constant (.int 1) k p1) p2)) p3) pos) fun ρ S => (ra ρ S).bind fun x S1 => revF md x S1 :=
  PEimp (pe_revL ha) fun σ H Q ⟨W, ρ, S, ev, sm, h⟩ => ⟨W, ρ, S, ev, sm, h.bind.imp fun d S1 W1 H1 e1 s1 a1 v rv => by
    unfold revF at a1
    cases q : lstOf S1 d with
    | none => rw [q] at a1; exact a1.elim
    | some ds =>
      rw [q] at a1
      obtain ⟨l, ws, rfl, g, r⟩ := s1.lstOf rv q
      exact ⟨l, ws, rfl, g.sq, fun p hp => new_lst s1 hp r.reverse a1⟩⟩
/-! ### names and constants -/
theorem s_var {i : Nat} {x : Str} (hN : X.N[i]? = some x) (hv : Vis X.env.scope x) (hd : (x == ("__debug__" : Str)) = false) (hcd : (x == ("__classdict__" : Str)) = false) :
    E X mg bs Ex (.Name x pos) fun ρ S => match ρ[i]? with
      | some (some d) => .ok d S
      | _ => .bad := PEimp (pe_var hN hv hd hcd) fun _ _ _ h => tE_var h
theorem s_glb {x : Str} {v : V} {u : Value} {o : Option D} (hg : Gl X x) (hm : X.mg x = some u) (r : RelV v u) (hr : ∀ d, o = some d → ∀ W, Rep X.K W v d) (hd : (x == ("__debug__" : Str)) = false) :
    E X mg bs Ex (.Name x pos) fun _ S => lift S o := PEimp (pe_glob hg hm r hd) fun σ H Q ⟨W, ρ, S, ev, sm, h⟩ => by
  cases o with
  | none => exact h.elim
  | some d => exact After.now (S := S) h sm v (hr d rfl W)
theorem s_int {i : Int} {k : Nat} : E X mg bs Ex (.Constant (.int i) k pos) fun _ S => .ok (.int i) S := PEimp pe_int fun _ _ _ h => tE_cst (fun W => .int i) h
theorem s_non {k : Nat} : E X mg bs Ex (.Constant .none k pos) fun _ S => .ok .non S := PEimp pe_non fun _ _ _ h => tE_cst (fun W => .non) h
theorem s_bl {x : Bool} {k : Nat} : E X mg bs Ex (.Constant (.bool x) k pos) fun _ S => .ok (.bl x) S := PEimp pe_bl fun _ _ _ h => tE_cst (fun W => .bl x) h
theorem s_str {x : Str} {k : Nat} : E X mg bs Ex (.Constant (.str x) k pos) fun _ S => .ok (.str x) S := PEimp pe_str fun _ _ _ h => tE_cst (fun W => .str x) h
/-! ### built-ins -/
theorem s_callB {id : String} {x : Str} {p : Pos} {es : List Expr} {f : List D → Store → Res D} {rs : Env → Store → Res (List D)} (hc : CallR X (.builtin id) (rSA X.K mg bs Ex f)) (hg : Gl X x) (hm : X.mg x = none) (hv : bootBuiltins x = some (.builtin id)) (hn : x ≠ "__name__") (hd : (x == ("__debug__" : Str)) = false)
    (ha : PA X (a :: es) (tAs X.K mg bs Ex rs)) (he : starEach (a :: es) X.env = (false, eval a X.env) :: starEach es X.env) (hpl : (backTo pos (starEach es X.env)).any (·.1) = false) :
    E X mg bs Ex (.Call (.Name x p) (a :: es) [] pos) fun ρ S => (rs ρ S).bind fun ds S1 => f ds S1 :=
  PEimp (pe_callB hc hg hm hv ha hn hd he hpl) fun σ H Q ⟨W, ρ, S, ev, sm, h⟩ => ⟨W, ρ, S, ev, sm, h.bind.imp fun ds S1 W1 H1 e1 s1 a1 vs rv => ⟨W1, S1, ds, s1, rv, a1⟩⟩
theorem s_callT {id : String} {x : Str} {p : Pos} {es : List Expr} {f : List D → Store → Res D} {rs : Env → Store → Res (List D)} (hc : CallR X (.type id) (rSA X.K mg bs Ex f)) (hg : Gl X x) (hm : X.mg x = none) (hv : bootBuiltins x = some (.type id)) (hn : x ≠ "__name__") (hd : (x == ("__debug__" : Str)) = false)
    (ha : PA X (a :: es) (tAs X.K mg bs Ex rs)) (he : starEach (a :: es) X.env = (false, eval a X.env) :: starEach es X.env) (hpl : (backTo pos (starEach es X.env)).any (·.1) = false) :
    E X mg bs Ex (.Call (.Name x p) (a :: es) [] pos) fun ρ S => (rs ρ S).bind fun ds S1 => f ds S1 :=
  PEimp (pe_callTy hc hg hm hv ha hn hd he hpl) fun σ H Q ⟨W, ρ, S, ev, sm, h⟩ => ⟨W, ρ, S, ev, sm, h.bind.imp fun ds S1 W1 H1 e1 s1 a1 vs rv => ⟨W1, S1, ds, s1, rv, a1⟩⟩
theorem s_callF {id : String} {x : Str} {p : Pos} {es : List Expr} {f : List D → Store → Res D} {rs : Env → Store → Res (List D)} (hc : CallR X (.builtin id) (rSA X.K mg bs Ex f)) (hg : Gl X x) (hm : X.mg x = some (.builtin id)) (hd : (x == ("__debug__" : Str)) = false)
    (ha : PA X (a :: es) (tAs X.K mg bs Ex rs)) (he : starEach (a :: es) X.env = (false, eval a X.env) :: starEach es X.env) (hpl : (backTo pos (starEach es X.env)).any (·.1) = false) :
    E X mg bs Ex (.Call (.Name x p) (a :: es) [] pos) fun ρ S => (rs ρ S).bind fun ds S1 => f ds S1 :=
  PEimp (pe_callBfun hc hg hm ha hd he hpl) fun σ H Q ⟨W, ρ, S, ev, sm, h⟩ => ⟨W, ρ, S, ev, sm, h.bind.imp fun ds S1 W1 H1 e1 s1 a1 vs rv => ⟨W1, S1, ds, s1, rv, a1⟩⟩
end
end Pv

/-! Calls of the text's own defs. -/
namespace Pv
open PySem L2 PyProof.Rows
/-- what a def promises: the evaluator's answer -/
def spOf (K : PySem.W.Frag) (mg : Str → Option Value) (n : Nat) (g : List D → Store → Res D) : Sp := fun vs H Q E =>
  vs.length = n ∧ ∃ bs W S ds, Sim K bs W S H ∧ RepAll K W vs ds ∧ After K bs (EXx K mg E) W (g ds S) (fun d _ W' H' => ∀ v, Rep K W' v d → Q v H')
/-- a def of the text, k calls deep -/
structure FnAt (P : Program) (w : World) (K : PySem.W.Frag) (mg : Str → Option Value) (base : Heap) (k : Nat) (x : Str) (ps : List Str) (g : List D → Store → Res D) where
  f : Addr
  fd : FuncData
  hm : mg x = some (.ref f)
  kp : PySem.W.keepIn K (.ref f) = true
  bd : ∀ (s : Shared) (us : List Value), us.length = ps.length → BindsTo s fd ⟨us, []⟩ (ps.zip us)
  len : ∀ ds S, ds.length ≠ ps.length → g ds S = .bad
  ok : FnOk P w K mg base (L2.CX P w) k f fd ps (spOf K mg ps.length g)
/-- .. called with keywords: so many values by place, then by these names -/
def KwAt (fd : FuncData) (ps : List Str) (n : Nat) (ks : List Str) : Prop := ∀ (s : Shared) (us ws : List Value), us.length = n → ws.length = ks.length → BindsTo s fd ⟨us, ks.zip ws⟩ (ps.zip (bindK ps us ks ws))
theorem FnAt.le {P : Program} {w : World} {K : PySem.W.Frag} {mg : Str → Option Value} {base : Heap} {k : Nat} {x : Str} {ps : List Str} {g : List D → Store → Res D} (F : FnAt P w K mg base k x ps g) {bs : List Nat} {EX : Exn → Wd → L2.Hp → Prop} {W : Wd} {ds : List D} {S : Store}
    {Q : D → Store → Wd → L2.Hp → Prop} (h : After K bs EX W (g ds S) Q) : ds.length = ps.length := by
  by_cases e : ds.length = ps.length
  · exact e
  · rw [F.len ds S e] at h
    exact h.elim
theorem lookup_rep {K : PySem.W.Frag} {W : Wd} (p : Str) : ∀ (ks : List Str) {vs : List V} {ds : List D}, RepAll K W vs ds → ((ks.zip vs).lookup p = none ∧ (ks.zip ds).lookup p = none) ∨ ∃ v d, (ks.zip vs).lookup p = some v ∧ (ks.zip ds).lookup p = some d ∧ Rep K W v d
  | [], _, _, _ => .inl ⟨rfl, rfl⟩
  | _ :: _, _, _, .nil => .inl ⟨rfl, rfl⟩
  | k :: ks, _, _, .cons (v := v) (d := d) a b => by
    rw [List.zip_cons_cons, List.zip_cons_cons, List.lookup_cons, List.lookup_cons]
    cases p == k with
    | true => exact .inr ⟨_, _, rfl, rfl, a⟩
    | false => exact lookup_rep p ks b
theorem bindK_rep {K : PySem.W.Frag} {W : Wd} {ps ks : List Str} {us ws : List V} {ds es : List D} (r : RepAll K W us ds) (q : RepAll K W ws es) : RepAll K W (bindK ps us ks ws) (bindK ps ds ks es) := by
  unfold bindK
  rw [r.length]
  refine r.append ?_
  generalize ps.drop ds.length = l
  induction l with
  | nil => exact .nil
  | cons p l ih =>
    rw [List.filterMap_cons, List.filterMap_cons]
    rcases lookup_rep p ks q with ⟨e1, e2⟩ | ⟨v, d, e1, e2, rv⟩
    · rw [e1, e2]
      exact ih
    · rw [e1, e2]
      exact .cons rv ih
theorem lookup_vals (p : Str) : ∀ (ks : List Str) {vs : List V} {us : List Value}, Vals vs us → ((ks.zip vs).lookup p = none ∧ (ks.zip us).lookup p = none) ∨ ∃ v u, (ks.zip vs).lookup p = some v ∧ (ks.zip us).lookup p = some u ∧ RelV v u
  | [], _, _, _ => .inl ⟨rfl, rfl⟩
  | _ :: _, _, _, .nil => .inl ⟨rfl, rfl⟩
  | k :: ks, _, _, .cons (b := u) a b => by
    rw [List.zip_cons_cons, List.zip_cons_cons, List.lookup_cons, List.lookup_cons]
    cases p == k with
    | true => exact .inr ⟨_, _, rfl, rfl, a⟩
    | false => exact lookup_vals p ks b
theorem bindK_vals {ps ks : List Str} {vs zs : List V} {us ws : List Value} (r : Vals vs us) (q : Vals zs ws) : Vals (bindK ps vs ks zs) (bindK ps us ks ws) := by
  unfold bindK
  rw [r.length]
  refine r.append ?_
  generalize ps.drop us.length = l
  induction l with
  | nil => exact .nil
  | cons p l ih =>
    rw [List.filterMap_cons, List.filterMap_cons]
    rcases lookup_vals p ks q with ⟨e1, e2⟩ | ⟨v, d, e1, e2, rv⟩
    · rw [e1, e2]
      exact ih
    · rw [e1, e2]
      exact .cons rv ih
section
variable {X : Cx} {bs : List Nat} {Ex : XK} {ra : Env → Store → Res D} {rs rk : Env → Store → Res (List D)} {a : Expr} {es : List Expr} {pos p : Pos} {k : Nat} {x : Str} {ps : List Str} {g : List D → Store → Res D}
theorem s_call (F : FnAt X.prog X.w X.K X.mg X.base k x ps g) (hr : Room k X.A) (tk : Takes X fun c d _ H => Ex c d H) (hg : Gl X x) (hd : (x == ("__debug__" : Str)) = false) (ha : PA X (a :: es) (tAs X.K X.mg bs Ex rs))
    (he : starEach (a :: es) X.env = (false, eval a X.env) :: starEach es X.env) (hpl : (backTo pos (starEach es X.env)).any (·.1) = false) :
    E X X.mg bs Ex (.Call (.Name x p) (a :: es) [] pos) fun ρ S => (rs ρ S).bind fun ds S1 => g ds S1 :=
  PEimp (pe_call (dvs := []) (ds := []) (E := Ex) F.ok hr hg F.hm F.kp (fun s us _ hl => by rw [List.append_nil] at hl ⊢; exact F.bd s us hl) .nil (passes_call tk fun _ _ _ _ h => h) ha hd he hpl)
    fun σ H Q ⟨W, ρ, S, ev, sm, h⟩ => ⟨W, ρ, S, ev, sm, by
      dsimp only at h
      cases e : rs ρ S with
      | ok ds S1 =>
        rw [e] at h
        intro W1 H1 e1 s1 vs rv
        rw [List.append_nil]
        exact ⟨by rw [rv.length]; exact F.le h, bs, W1, S1, ds, s1, rv, After.ext e1 h⟩
      | exc y S1 => rw [e] at h; exact h
      | bad => rw [e] at h; exact h⟩
theorem s_call0 (F : FnAt X.prog X.w X.K X.mg X.base k x ps g) (hr : Room k X.A) (tk : Takes X fun c d _ H => Ex c d H) (hg : Gl X x) (hd : (x == ("__debug__" : Str)) = false) (hn : ps = []) :
    E X X.mg bs Ex (.Call (.Name x p) [] [] pos) fun ρ S => g [] S :=
  PEimp (pe_call0 (dvs := []) (ds := []) (E := Ex) F.ok hr hg F.hm F.kp (fun s us _ hl => by rw [List.append_nil] at hl ⊢; exact F.bd s us hl) .nil (passes_call tk fun _ _ _ _ h => h) hd)
    fun σ H Q ⟨W, ρ, S, ev, sm, h⟩ => ⟨by rw [hn]; rfl, bs, W, S, [], sm, .nil, h⟩
/-! ### keywords -/
theorem PKimp {kws : List Keyword} {t t' : TA} (h : PK X kws t) (f : ∀ σ H Q, t' σ H Q → t σ H Q) : PK X kws t' := ⟨fun pos pins s σ H Q I q => h.run pos pins s σ H Q I (f σ H Q q)⟩
theorem s_kws_nil : PK X [] (tAs X.K X.mg bs Ex fun _ S => .ok [] S) := PKimp pk_nil fun σ H Q ⟨W, ρ, S, ev, sm, h⟩ => After.now (S := S) h sm [] .nil
theorem s_kws_cons {kws : List Keyword} {nm : Option Str} {kp : Pos} {rs : Env → Store → Res (List D)} (ha : E X X.mg bs Ex a ra) (hr : PK X kws (tAs X.K X.mg bs Ex rs)) :
    PK X (⟨nm, a, kp⟩ :: kws) (tAs X.K X.mg bs Ex fun ρ S => (ra ρ S).bind fun x S1 => (rs ρ S1).bind fun xs S2 => .ok (x :: xs) S2) :=
  PKimp (pk_cons ha hr) fun σ H Q ⟨W, ρ, S, ev, sm, h⟩ => ⟨W, ρ, S, ev, sm, h.bind.imp fun d S1 W1 H1 e1 s1 a1 x rx =>
    ⟨W1, ρ, S1, ev.mono e1, s1, a1.bind.imp fun ds S2 W2 H2 e2 s2 a2 xs rxs => After.now (S := S2) a2 s2 _ (.cons (rx.mono e2) rxs)⟩⟩
theorem run_kw {pins : List (Addr × Obj)} {σ : L2.St} {H : L2.Hp} {s : Shared} {Q : VK} {us ws : List Value} {vs zs : List V} {ks : List Str} {n : Nat} (F : FnAt X.prog X.w X.K X.mg X.base k x ps g) (hb : KwAt F.fd ps n ks) (hr : Room k X.A) (tk : Takes X fun c d _ H => Ex c d H)
    (I : Inv X pins σ H s) (r : Vals vs us) (rz : Vals zs ws) (h1 : us.length = n) (h2 : ws.length = ks.length) (h : spOf X.K X.mg ps.length g (bindK ps vs ks zs) H Q Ex) : wpAny (model X.prog X.w) X.A (call (.ref F.f) us (ks.zip ws)) (EP X pins σ Q) X.xe s := by
  refine wpAny_call (codeAny_mono (F.ok.run X.A X.stack s H ⟨us, ks.zip ws⟩ (bindK ps us ks ws) (bindK ps vs ks zs) Q Ex hr I.env0 (hb s us ws h1 h2) (bindK_vals r rz) h) fun o s' hq => ?_)
  cases o with
  | error e => exact passes_call (X := X) tk (fun _ _ _ _ h => h) pins σ H s e s' I hq
  | ok fl =>
    cases fl with
    | ret u => exact I.after hq
    | next => exact False.elim hq
    | brk => exact False.elim hq
    | cont => exact False.elim hq
/-- f(k = e, ..) -/
theorem s_callK0 {kws : List Keyword} {ks : List Str} (F : FnAt X.prog X.w X.K X.mg X.base k x ps g) (hb : KwAt F.fd ps 0 ks) (hr : Room k X.A) (tk : Takes X fun c d _ H => Ex c d H) (hg : Gl X x) (hd : (x == ("__debug__" : Str)) = false)
    (hkw : PK X kws (tAs X.K X.mg bs Ex rk)) (hall : (backToKw pos (keywordEach kws X.env)).all (·.1.isSome) = true) (hks : (backToKw pos (keywordEach kws X.env)).filterMap (·.1) = ks)
    (hpl : ((backTo pos (starEach [] X.env)).any (·.1) || (backToKw pos (keywordEach kws X.env)).any (·.1.isNone)) = false) (hl : ∀ ρ S ds S', rk ρ S = .ok ds S' → ds.length = ks.length) :
    E X X.mg bs Ex (.Call (.Name x p) [] kws pos) fun ρ S => (rk ρ S).bind fun ds S1 => g (bindK ps [] ks ds) S1 := by
  refine ⟨fun pins s σ H Q I h => ?_⟩
  obtain ⟨W, ρ, S, ev, sm, h⟩ := h
  refine wpAny_Call_Name_kw (ld_glob I hg F.hm ?_ hd)
  refine PySem.W.callWith_KW0 (h₀ := X.base) I.ok.mod.kin F.kp hall ?_ hpl
  refine thn (hkw.run pos pins s σ H (fun zs H1 => spOf X.K X.mg ps.length g (bindK ps [] ks zs) H1 Q Ex ∧ zs.length = ks.length) I ⟨W, ρ, S, ev, sm, ?_⟩) fun ws s2 ⟨zs, H2, I2, rz, q2, l2⟩ => ⟨I2.kIn, ?_⟩
  · dsimp only at h
    cases e : rk ρ S with
    | ok ds S1 =>
      rw [e] at h
      intro W1 H1 e1 s1 vs rv
      have l1 := hl ρ S ds S1 e
      have l2 := F.le h
      have rb := bindK_rep (K := X.K) (W := W1) (ps := ps) (ks := ks) (us := []) (ds := []) .nil rv
      exact ⟨⟨by rw [rb.length]; exact l2, bs, W1, S1, _, s1, rb, After.ext e1 h⟩, by rw [rv.length]; exact l1⟩
    | exc y S1 => rw [e] at h; exact h
    | bad => rw [e] at h; exact h
  · rw [hks]
    exact run_kw (us := []) (vs := []) F hb hr tk I2 .nil rz rfl (by rw [← rz.length]; exact l2) q2
/-- f(e, .., k = e', ..) -/
theorem s_callK {kws : List Keyword} {ks : List Str} {n : Nat} (F : FnAt X.prog X.w X.K X.mg X.base k x ps g) (hb : KwAt F.fd ps n ks) (hr : Room k X.A) (tk : Takes X fun c d _ H => Ex c d H) (hg : Gl X x) (hd : (x == ("__debug__" : Str)) = false)
    (ha : PA X (a :: es) (tAs X.K X.mg bs Ex rs)) (hkw : PK X kws (tAs X.K X.mg bs Ex rk)) (hall : (backToKw pos (keywordEach kws X.env)).all (·.1.isSome) = true) (hks : (backToKw pos (keywordEach kws X.env)).filterMap (·.1) = ks)
    (he : starEach (a :: es) X.env = (false, eval a X.env) :: starEach es X.env) (hpl : ((backTo pos (starEach (a :: es) X.env)).any (·.1) || (backToKw pos (keywordEach kws X.env)).any (·.1.isNone)) = false)
    (hl1 : ∀ ρ S ds S', rs ρ S = .ok ds S' → ds.length = n) (hl : ∀ ρ S ds S', rk ρ S = .ok ds S' → ds.length = ks.length) :
    E X X.mg bs Ex (.Call (.Name x p) (a :: es) kws pos) fun ρ S => (rs ρ S).bind fun us S1 => (rk ρ S1).bind fun ds S2 => g (bindK ps us ks ds) S2 := by
  refine ⟨fun pins s σ H Q I h => ?_⟩
  obtain ⟨W, ρ, S, ev, sm, h⟩ := h
  refine wpAny_Call_Name_kw (ld_glob I hg F.hm ?_ hd)
  refine PySem.W.callWith_KW (h₀ := X.base) I.ok.mod.kin F.kp hall ?_ hpl he
  refine thn (ha.run pos pins s σ H (fun vs H1 => vs.length = n ∧ tAs X.K X.mg bs Ex rk σ H1 fun zs H2 => spOf X.K X.mg ps.length g (bindK ps vs ks zs) H2 Q Ex ∧ zs.length = ks.length) I ⟨W, ρ, S, ev, sm, ?_⟩) fun us s1 ⟨vs, H1, I1, r, l1, q1⟩ => ?_
  · dsimp only at h
    cases e : rs ρ S with
    | ok us S1 =>
      rw [e] at h
      intro W1 H1 e1 s1 vs rv
      refine ⟨by rw [rv.length]; exact hl1 ρ S us S1 e, W1, ρ, S1, ev.mono e1, s1, ?_⟩
      have h' : After X.K bs (EXx X.K X.mg Ex) W1 ((rk ρ S1).bind fun ds S2 => g (bindK ps us ks ds) S2) (fun d _ W' H' => ∀ v, Rep X.K W' v d → Q v H') := After.ext e1 h
      cases e2 : rk ρ S1 with
      | ok ds S2 =>
        rw [e2] at h'
        intro W2 H2 e3 s2 zs rz
        have l2 := hl ρ S1 ds S2 e2
        have rb := bindK_rep (K := X.K) (W := W2) (ps := ps) (ks := ks) (rv.mono e3) rz
        exact ⟨⟨by rw [rb.length]; exact F.le h', bs, W2, S2, _, s2, rb, After.ext e3 h'⟩, by rw [rz.length]; exact l2⟩
      | exc y S2 => rw [e2] at h'; exact h'
      | bad => rw [e2] at h'; exact h'
    | exc y S1 => rw [e] at h; exact h
    | bad => rw [e] at h; exact h
  · refine thn (hkw.run pos pins s1 σ H1 _ I1 q1) fun ws s2 ⟨zs, H2, I2, rz, q2, l2⟩ => ⟨I2.kIn, ?_⟩
    rw [hks]
    exact run_kw (us := us) F hb hr tk I2 r rz (by rw [← r.length]; exact l1) (by rw [← rz.length]; exact l2) q2
end
end Pv

/-! What a loop walks, where a value goes. -/
namespace Pv
open PySem L2 PyProof.Rows RZ
/-- known addresses stay known -/
structure Mo (W W' : Wd) : Prop where
  fz : ∀ a o, W.fz a = some o → W'.fz a = some o
  io : ∀ n a, W.io n = some a → W'.io n = some a
  lk : ∀ a o, W.hd a = some o → IsFrz o → W'.hd a = some o
theorem Ext.mo {W W' : Wd} (e : Ext W W') : Mo W W' := ⟨e.fz, e.io, fun a o h _ => by rw [e.hd]; exact h⟩
theorem Mo.trans {W1 W2 W3 : Wd} (a : Mo W1 W2) (b : Mo W2 W3) : Mo W1 W3 := ⟨fun x o h => b.fz x o (a.fz x o h), fun n x h => b.io n x (a.io n x h), fun x o h z => b.lk x o (a.lk x o h z) z⟩
theorem Rep.mo {K : PySem.W.Frag} {W W' : Wd} (e : Mo W W') {v : V} {d : D} (h : Rep K W v d) : Rep K W' v d := Rep.monoF e.fz e.io h
theorem RepAll.mo {K : PySem.W.Frag} {W W' : Wd} (e : Mo W W') {v : List V} {d : List D} (h : RepAll K W v d) : RepAll K W' v d := RepAll.monoF e.fz e.io h
/-- the iterator J walks w -/
def WlkOk (K : PySem.W.Frag) (bs : List Nat) (W : Wd) (w : Wlk) (J : It) : Prop :=
  ∀ W' S' H' ys, Mo W W' → Sim K bs W' S' H' → w.at S' = some ys → (∀ i, i < ys.length → J.go i H') ∧ J.stop ys.length H' ∧
    ∀ i x H2, i < ys.length → J.yld i H' x H2 → ∃ W2 d, Ext W' W2 ∧ Sim K bs W2 S' H2 ∧ ys[i]? = some d ∧ Rep K W2 x d
def tSrc (K : PySem.W.Frag) (mg : Str → Option Value) (bs : List Nat) (Ex : XK) (r : Env → Store → Res Wlk) : TI := fun σ H R =>
  ∃ W ρ S, EnvOk K W ρ σ ∧ Sim K bs W S H ∧ After K bs (EXx K mg Ex) W (r ρ S) fun w _ W' H' => ∀ J, WlkOk K bs W' w J → R J H'
theorem PIimp {X : Cx} {tg e : Expr} {t t' : TI} (h : PI X tg e t) (f : ∀ σ H Q, t' σ H Q → t σ H Q) : PI X tg e t' := ⟨fun pins s σ H Q I q => h.run pins s σ H Q I (f σ H Q q)⟩
/-- from a walk whose items are known at this very heap -/
theorem wlk_of {K : PySem.W.Frag} {bs : List Nat} {W : Wd} {w : Wlk} {J : It}
    (h : ∀ W' S' H' ys, Mo W W' → Sim K bs W' S' H' → w.at S' = some ys → ∃ vs, vs.length = ys.length ∧ RepAll K W' vs ys ∧ ∃ G, G H' ∧ Walk J vs.length G (YAt vs)) : WlkOk K bs W w J := fun W' S' H' ys e s q => by
  obtain ⟨vs, hl, r, G, g, wk⟩ := h W' S' H' ys e s q
  rw [hl] at wk
  refine ⟨fun i hi => wk.goes i H' hi g, wk.stops H' g, fun i x H2 hi y => ?_⟩
  obtain ⟨e2, e3⟩ := wk.yields i H' x H2 hi g y
  subst e2
  obtain ⟨d, h1, h2⟩ := r.getV e3
  exact ⟨W', d, Ext.refl W', s, h1, h2⟩
/-- pairs that are made turn by turn -/
theorem wlk_pair {K : PySem.W.Frag} {bs : List Nat} {W : Wd} {items : List D} {J : It} {fx fy : Nat → Option V} {n : Nat} (hn : n = items.length)
    (h : ∀ W' S' H', Mo W W' → Sim K bs W' S' H' → ∃ G, G H' ∧ Walk J n G (YPair fx fy)) (hd : ∀ W', Mo W W' → ∀ i x y, fx i = some x → fy i = some y → ∃ d e, items[i]? = some (.tup [d, e]) ∧ Rep K W' x d ∧ Rep K W' y e) : WlkOk K bs W (.fix items) J := fun W' S' H' ys e s q => by
  cases q
  obtain ⟨G, g, wk⟩ := h W' S' H' e s
  subst hn
  refine ⟨fun i hi => wk.goes i H' hi g, wk.stops H' g, fun i v H2 hi yy => ?_⟩
  obtain ⟨T, x, y, rfl, hT, rfl, h1, h2⟩ := wk.yields i H' v H2 hi g yy
  obtain ⟨d, e', h3, rx, ry⟩ := hd W' e i x y h1 h2
  have ex := addF_ext (o := .tup [x, y]) (s.fzNone hT)
  exact ⟨W'.addF T (.tup [x, y]), _, ex, s.newF hT (.tup [x, y]), h3, .tup (.inl addF_self) (.cons (rx.mono ex) (.cons (ry.mono ex) .nil))⟩
section
variable {X : Cx} {mg : Str → Option Value} {bs : List Nat} {Ex : XK} {ra rb : Env → Store → Res D} {a b tg : Expr} {pos p : Pos}
theorem fz_lat {K : PySem.W.Frag} {W W' : Wd} {l : Addr} {vs : List V} (e : Mo W W') (h : LAt K W l vs) : LAt K W' l vs := h.imp (e.fz _ _) id
theorem fz_tat {K : PySem.W.Frag} {W W' : Wd} {l : Addr} {vs : List V} (e : Mo W W') (h : TAt K W l vs) : TAt K W' l vs := h.imp (e.fz _ _) id
theorem p_it (ha : E X mg bs Ex a ra) : PI X tg a (tSrc X.K mg bs Ex fun ρ S => (ra ρ S).bind fun x S1 => lift S1 (wlkOf S1 x)) := by
  refine ⟨fun pins s σ H R I ⟨W, ρ, S, ev, sm, h⟩ => ?_⟩
  dsimp only at h
  cases e : ra ρ S with
  | ok d S1 =>
    rw [e] at h
    dsimp only [Res.bind] at h
    have hE : ∀ Q : VK, (∀ W' H', Ext W W' → Sim X.K bs W' S1 H' → ∀ v, Rep X.K W' v d → Q v H') → tE X.K mg bs Ex ra σ H Q := fun Q q => ⟨W, ρ, S, ev, sm, by rw [e]; exact q⟩
    cases d with
    | tup ds =>
      refine (pi_tup (tg := tg) ha).run pins s σ H R I (hE _ fun W1 H1 e1 s1 v rv => ?_)
      cases rv with
      | tup t r =>
        rename_i l vs
        exact ⟨l, rfl, ⟨vs, s1.tat t⟩, h W1 H1 e1 s1 _ (wlk_of fun W' S' H' ys m s' q => by cases q; exact ⟨vs, r.length, r.mo m, _, s'.tat (fz_tat m t), walk_tup⟩)⟩
    | lst ds =>
      refine (pi_list (tg := tg) ha).run pins s σ H R I (hE _ fun W1 H1 e1 s1 v rv => ?_)
      cases rv with
      | lst t r =>
        rename_i l vs
        exact ⟨l, rfl, ⟨vs, (s1.lat t).sq⟩, h W1 H1 e1 s1 _ (wlk_of fun W' S' H' ys m s' q => by cases q; exact ⟨vs, r.length, r.mo m, _, (s'.lat (fz_lat m t)).sq, walk_list⟩)⟩
    | ref n =>
      refine (pi_list (tg := tg) ha).run pins s σ H R I (hE _ fun W1 H1 e1 s1 v rv => ?_)
      dsimp only [wlkOf] at h
      cases q : S1[n]? with
      | none => rw [q] at h; exact h.elim
      | some o =>
        cases o with
        | dct ks vs => rw [q] at h; exact h.elim
        | lck ks vs => rw [q] at h; exact h.elim
        | lst ds =>
          rw [q] at h
          obtain ⟨l, vs, rfl, hio, g, r, _⟩ := s1.lstRef rv q
          refine ⟨l, rfl, ⟨vs, SqL.of g⟩, h W1 H1 e1 s1 _ (wlk_of fun W' S' H' ys m s' q' => ?_)⟩
          unfold Wlk.at at q'
          dsimp only at q'
          split at q'
          · rename_i zs q2
            split at q'
            · cases q'
              obtain ⟨l', ws, el, _, g', r', _⟩ := s'.lstRef (.ref (K := X.K) (m.io _ _ hio)) q2
              cases el
              exact ⟨ws, r'.length, r', _, SqL.of g', walk_list⟩
            · cases q'
          · cases q'
    | _ => exact h.elim
  | exc x S1 =>
    rw [e] at h
    exact (pi_tup (tg := tg) ha).run pins s σ H R I ⟨W, ρ, S, ev, sm, by rw [e]; exact h⟩
  | bad => rw [e] at h; exact h.elim
theorem rng_ok {i j : Int} (h : rngOk i j = true) : -(2 ^ 62) ≤ i ∧ i < 2 ^ 62 ∧ -(2 ^ 62) ≤ j ∧ j < 2 ^ 62 := of_decide_eq_true h
theorem wlk_rng {K : PySem.W.Frag} {W : Wd} {i j : Int} : WlkOk K bs W (.fix (rngOf i j)) (Itr i (j - i).toNat) := fun W' S' H' ys m s q => by
  cases q
  have hl : (rngOf i j).length = (j - i).toNat := by unfold rngOf; simp
  refine ⟨fun k hk => ?_, ?_, fun k x H2 hk y => ?_⟩
  · rw [hl] at hk
    exact hk
  · rw [hl]
    exact Nat.le_refl _
  · obtain ⟨rfl, rfl⟩ := y
    refine ⟨W', .int (i + (k : Nat)), Ext.refl W', s, ?_, .int _⟩
    rw [hl] at hk
    unfold rngOf
    simp [hk]
theorem p_rng1 (hg : Gl X "range") (hm : X.mg "range" = none) (ha : E X mg bs Ex a ra) (h1 : starEach (a :: []) X.env = (false, eval a X.env) :: starEach [] X.env) :
    PI X tg (.Call (.Name "range" p) [a] [] pos) (tSrc X.K mg bs Ex fun ρ S => (ra ρ S).bind fun x S1 => match x with
      | .int j => if rngOk 0 j then .ok (.fix (rngOf 0 j)) S1 else .bad
      | _ => .bad) :=
  PIimp (pi_range1 hg hm (pa_cons ha pa_nil h1) h1) fun σ H R ⟨W, ρ, S, ev, sm, h⟩ => ⟨W, ρ, S, ev, sm, h.bind.imp fun d S1 W1 H1 e1 s1 a1 v rv => by
    cases rv with
    | int j =>
      dsimp only at a1
      by_cases hj : rngOk 0 j = true
      · rw [if_pos hj] at a1
        obtain ⟨_, _, b1, b2⟩ := rng_ok hj
        have z := After.now (S := S1) a1 s1 _ (wlk_rng (i := 0) (j := j))
        rw [Int.sub_zero] at z
        exact ⟨j, rfl, b1, b2, z⟩
      · rw [if_neg hj] at a1
        exact a1.elim
    | _ => exact a1.elim⟩
theorem p_rng2 (hg : Gl X "range") (hm : X.mg "range" = none) (ha : E X mg bs Ex a ra) (hb : E X mg bs Ex b rb) (h1 : starEach (a :: [b]) X.env = (false, eval a X.env) :: starEach [b] X.env) (h2 : starEach (b :: []) X.env = (false, eval b X.env) :: starEach [] X.env) :
    PI X tg (.Call (.Name "range" p) [a, b] [] pos) (tSrc X.K mg bs Ex fun ρ S => (ra ρ S).bind fun x S1 => (rb ρ S1).bind fun y S2 => match x, y with
      | .int i, .int j => if rngOk i j then .ok (.fix (rngOf i j)) S2 else .bad
      | _, _ => .bad) :=
  PIimp (pi_range2 hg hm (pa_cons ha (pa_cons hb pa_nil h2) h1) (by rw [h1, h2]; rfl) h2) fun σ H R ⟨W, ρ, S, ev, sm, h⟩ => ⟨W, ρ, S, ev, sm, h.bind.imp fun d S1 W1 H1 e1 s1 a1 v rv =>
    ⟨W1, ρ, S1, ev.mono e1, s1, a1.bind.imp fun e S2 W2 H2 e2 s2 a2 u ru => by
      cases rv with
      | int i =>
        cases ru with
        | int j =>
          dsimp only at a2
          by_cases hj : rngOk i j = true
          · rw [if_pos hj] at a2
            exact ⟨i, j, rfl, rng_ok hj, After.now (S := S2) a2 s2 _ wlk_rng⟩
          · rw [if_neg hj] at a2
            exact a2.elim
        | _ => exact a2.elim
      | _ => exact a2.elim⟩⟩
theorem zip_items {ds es : List D} {i : Nat} {d e : D} (h1 : ds[i]? = some d) (h2 : es[i]? = some e) : ((ds.zip es).map fun p => D.tup [p.1, p.2])[i]? = some (.tup [d, e]) := by
  have : (ds.zip es)[i]? = some (d, e) := by
    rw [List.getElem?_zip_eq_some]
    exact ⟨h1, h2⟩
  rw [List.getElem?_map, this]
  rfl
theorem p_zip {elts : List Expr} {kk : Nat} {tpos : Pos} (hg : Gl X "zip") (hm : X.mg "zip" = none) (ha : E X mg bs Ex a ra) (hb : E X mg bs Ex b rb) (h1 : starEach (a :: [b]) X.env = (false, eval a X.env) :: starEach [b] X.env) (h2 : starEach (b :: []) X.env = (false, eval b X.env) :: starEach [] X.env) :
    PI X (.Tuple elts kk tpos) (.Call (.Name "zip" p) [a, b] [] pos) (tSrc X.K mg bs Ex fun ρ S => (ra ρ S).bind fun x S1 => (rb ρ S1).bind fun y S2 => (lift S2 (zipOf S2 x y)).bind fun xs S3 => .ok (.fix xs) S3) :=
  PIimp (pi_zipA hg hm (pa_cons ha (pa_cons hb pa_nil h2) h1) h1 (by rw [h2]; rfl)) fun σ H R ⟨W, ρ, S, ev, sm, h⟩ => ⟨W, ρ, S, ev, sm, h.bind.imp fun d S1 W1 H1 e1 s1 a1 v rv =>
    ⟨W1, ρ, S1, ev.mono e1, s1, a1.bind.imp fun e S2 W2 H2 e2 s2 a2 u ru => by
      have rv := rv.mono e2
      cases rv with
      | tup t1 r1 =>
        cases ru with
        | tup t2 r2 =>
          rename_i vs1 _ _ vs2 _
          refine ⟨_, _, _, _, rfl, .inr ⟨s2.tat t1, s2.tat t2, After.now (S := S2) a2 s2 _ ?_⟩⟩
          refine wlk_pair (fx := fun i => vs1[i]?) (fy := fun i => vs2[i]?) (n := min vs1.length vs2.length) (by rw [List.length_map, List.length_zip, ← r1.length, ← r2.length]) (fun W' S' H' m s' => ⟨fun H => SqT X.K H _ _ ∧ SqT X.K H _ _, ⟨s'.tat (fz_tat m t1), s'.tat (fz_tat m t2)⟩, ⟨fun i _ hi q => ?_, fun _ q => ⟨_, _, q.1, q.2, by omega⟩, fun i H v H' _ q y => ?_⟩⟩) fun W' m i x y hx hy => ?_
          · have g1 : i < vs1.length := by omega
            have g2 : i < vs2.length := by omega
            exact ⟨_, _, vs1[i], vs2[i], q.1, q.2, by simp [g1], by simp [g2]⟩
          · obtain ⟨T, x, z, h1, h2, h3, h4, h5⟩ := y
            exact ⟨T, x, z, h1, h2, h3, h4 _ q.1, h5 _ q.2⟩
          · obtain ⟨d1, q1, q2⟩ := r1.getV hx
            obtain ⟨d2, q3, q4⟩ := r2.getV hy
            exact ⟨d1, d2, zip_items q1 q3, q2.mo m, q4.mo m⟩
        | _ => exact a2.elim
      | lst t1 r1 =>
        cases ru with
        | lst t2 r2 =>
          refine ⟨_, _, _, _, rfl, .inl ⟨(s2.lat t1).sq, (s2.lat t2).sq, After.now (S := S2) a2 s2 _ ?_⟩⟩
          refine wlk_pair (by rw [List.length_map, List.length_zip, ← r1.length, ← r2.length]) (fun W' S' H' m s' => ⟨_, ⟨(s'.lat (fz_lat m t1)).sq, (s'.lat (fz_lat m t2)).sq⟩, walk_zip rfl⟩) fun W' m i x y hx hy => ?_
          obtain ⟨d1, q1, q2⟩ := r1.getV hx
          obtain ⟨d2, q3, q4⟩ := r2.getV hy
          exact ⟨d1, d2, zip_items q1 q3, q2.mo m, q4.mo m⟩
        | _ => exact a2.elim
      | _ => exact a2.elim⟩⟩
theorem p_enum {elts : List Expr} {kk : Nat} {tpos : Pos} (hg : Gl X "enumerate") (hm : X.mg "enumerate" = none) (ha : E X mg bs Ex a ra) (h1 : starEach (a :: []) X.env = (false, eval a X.env) :: starEach [] X.env) :
    PI X (.Tuple elts kk tpos) (.Call (.Name "enumerate" p) [a] [] pos) (tSrc X.K mg bs Ex fun ρ S => (ra ρ S).bind fun x S1 => match x with
      | .lst xs => .ok (.fix (enumOf xs)) S1
      | _ => .bad) :=
  PIimp (pi_enum hg hm (pa_cons ha pa_nil h1) h1) fun σ H R ⟨W, ρ, S, ev, sm, h⟩ => ⟨W, ρ, S, ev, sm, h.bind.imp fun d S1 W1 H1 e1 s1 a1 v rv => by
    cases rv with
    | lst t r =>
      refine ⟨_, _, rfl, (s1.lat t).sq, After.now (S := S1) a1 s1 _ ?_⟩
      refine wlk_pair (by unfold enumOf; rw [List.length_map, List.length_zipIdx, ← r.length]) (fun W' S' H' m s' => ⟨_, (s'.lat (fz_lat m t)).sq, walk_enum⟩) fun W' m i x y hx hy => ?_
      cases hx
      obtain ⟨d1, q1, q2⟩ := r.getV hy
      refine ⟨.int (i : Nat), d1, ?_, .int _, q2.mo m⟩
      unfold enumOf
      rw [List.getElem?_map, List.getElem?_zipIdx, q1]
      simp
    | _ => exact a1.elim⟩
end

/-! ### targets -/
mutual
def Tg.slots : Tg → List Nat
  | .name i => [i]
  | .tup ts => ts.slotsAll
def Tgs.slotsAll : Tgs → List Nat
  | .nil => []
  | .cons t r => t.slots ++ r.slotsAll
end
/-- nothing but these slots is changed -/
def Touch (is : List Nat) (σ σ' : L2.St) : Prop := σ'.length = σ.length ∧ ∀ j, j ∉ is → σ'[j]? = σ[j]?
def tGt (K : PySem.W.Frag) (bs : List Nat) (is : List Nat) (a : D → Env → Store → Option Env) : TG := fun v σ H Q =>
  ∃ W ρ S d ρ', EnvOk K W ρ σ ∧ Sim K bs W S H ∧ Rep K W v d ∧ a d ρ S = some ρ' ∧ ∀ W' σ' H', Ext W W' → EnvOk K W' ρ' σ' → Sim K bs W' S H' → Touch is σ σ' → Q σ' H'
def tGs (K : PySem.W.Frag) (bs : List Nat) (is : List Nat) (a : List D → Env → Store → Option Env) : TGs := fun vs σ H Q =>
  ∃ W ρ S ds ρ', EnvOk K W ρ σ ∧ Sim K bs W S H ∧ RepAll K W vs ds ∧ a ds ρ S = some ρ' ∧ ∀ W' σ' H', Ext W W' → EnvOk K W' ρ' σ' → Sim K bs W' S H' → Touch is σ σ' → Q σ' H'
section
variable {X : Cx} {bs : List Nat} {pos : Pos}
theorem PGimp {e : Expr} {t t' : TG} (h : PG X e t) (f : ∀ v σ H Q, t' v σ H Q → t v σ H Q) : PG X e t' := ⟨fun pins s σ H v u Q I r q => h.run pins s σ H v u Q I r (f v σ H Q q)⟩
theorem PGsimp {e : List Expr} {t t' : TGs} (h : PGs X e t) (f : ∀ v σ H Q, t' v σ H Q → t v σ H Q) : PGs X e t' := ⟨fun pins s σ H v u Q I r q => h.run pins s σ H v u Q I r (f v σ H Q q)⟩
theorem touch_set (i : Nat) (v : Option V) (σ : L2.St) : Touch [i] σ (σ.set i v) := ⟨List.length_set .., fun j h => List.getElem?_set_ne (fun e => h (by simp [e]))⟩
theorem g_name {i : Nat} {x : Str} (hN : X.N.Nodup) (hi : X.N[i]? = some x) (hx : Loc X.env.scope x) (hf : X.fn x = true ∨ X.env.scope.names.lookup x = some .local) : PG X (.Name x pos) (tGt X.K bs [i] fun d ρ _ => some (ρ.set i (some d))) :=
  PGimp (pg_name hN hi hx hf) fun v σ H Q ⟨W, ρ, S, d, ρ', ev, sm, r, e, q⟩ => by
    cases e
    exact q W _ H (Ext.refl W) (ev.set r) sm (touch_set i _ σ)
theorem g_nil : PGs X [] (tGs X.K bs [] fun ds ρ _ => match ds with
    | [] => some ρ
    | _ => none) := PGsimp pgs_nil fun vs σ H Q ⟨W, ρ, S, ds, ρ', ev, sm, r, e, q⟩ => by
  cases r with
  | nil =>
    cases e
    exact ⟨rfl, q W σ H (Ext.refl W) ev sm ⟨rfl, fun _ _ => rfl⟩⟩
  | cons a b => cases e
theorem g_cons {e : Expr} {es : List Expr} {is js : List Nat} {a : D → Env → Store → Option Env} {as : List D → Env → Store → Option Env} (h1 : PG X e (tGt X.K bs is a)) (h2 : PGs X es (tGs X.K bs js as)) (hs : (assignEach (e :: es) X.env).map (·.2) = assign e X.env :: (assignEach es X.env).map (·.2)) :
    PGs X (e :: es) (tGs X.K bs (is ++ js) fun ds ρ S => match ds with
      | x :: xs => (match a x ρ S with
        | some ρ1 => as xs ρ1 S
        | none => none)
      | [] => none) := PGsimp (pgs_cons h1 h2 hs) fun vs σ H Q ⟨W, ρ, S, ds, ρ', ev, sm, r, e, q⟩ => by
  cases r with
  | nil => cases e
  | @cons v d vs ds r1 r2 =>
    dsimp only at e
    cases e1 : a d ρ S with
    | none => rw [e1] at e; cases e
    | some ρ1 =>
      rw [e1] at e
      refine ⟨v, vs, rfl, W, ρ, S, d, ρ1, ev, sm, r1, e1, fun W1 σ1 H1 x1 ev1 s1 t1 => ?_⟩
      refine ⟨W1, ρ1, S, ds, ρ', ev1, s1, r2.mono x1, e, fun W2 σ2 H2 x2 ev2 s2 t2 => q W2 σ2 H2 (x1.trans x2) ev2 s2 ⟨t2.1.trans t1.1, fun j hj => ?_⟩⟩
      rw [List.mem_append, not_or] at hj
      exact (t2.2 j hj.2).trans (t1.2 j hj.1)
/-- a tuple (a list) is taken apart -/
theorem g_tup {es : List Expr} {k n : Nat} {is : List Nat} {as : List D → Env → Store → Option Env} (hc : X.calm = true) (h : PGs X es (tGs X.K bs is as)) (hn : (assignEach es X.env).length = n) (hst : (assignEach es X.env).findIdx? (·.1) = none) (hl : ∀ ds ρ S ρ', as ds ρ S = some ρ' → ds.length = n) :
    PG X (.Tuple es k pos) (tGt X.K bs is fun d ρ S => match seqOf S d with
      | some xs => as xs ρ S
      | none => none) := by
  refine ⟨fun pins s σ H v u Q I r ⟨W, ρ, S, d, ρ', ev, sm, rd, e, q⟩ => ?_⟩
  dsimp only at e
  cases e1 : seqOf S d with
  | none => rw [e1] at e; cases e
  | some ds =>
    rw [e1] at e
    dsimp only at e
    obtain ⟨l, vs, rfl, g, rs⟩ := sm.seqOf rd e1
    have hlen : vs.length = n := by rw [rs.length]; exact hl ds ρ S ρ' e
    have inner : tGs X.K bs is as vs σ H Q := ⟨W, ρ, S, ds, ρ', ev, sm, rs, e, q⟩
    rcases g with g | g
    · exact (pg_unl hc h hn hst).run pins s σ H _ u Q I r ⟨l, vs, rfl, g.sq, hlen, inner⟩
    · exact (pg_tup hc h hn hst).run pins s σ H _ u Q I r ⟨l, vs, rfl, g, hlen, inner⟩
end
end Pv

/-! Comprehensions of lists. -/
namespace Pv
open PySem L2 PyProof.Rows
/-- no error leaves -/
def noX : XK := fun _ _ _ => False
theorem wipe_in {σ : L2.St} {j : Nat} : ∀ {vs : List Nat}, j ∈ vs → (wipe σ vs)[j]? = if j < σ.length then some none else none
  | [], h => by cases h
  | v :: vs, h => by
    unfold wipe
    by_cases e : v = j
    · subst e
      by_cases hl : v < σ.length
      · rw [if_pos hl, List.getElem?_set_self (by rw [wipe_length]; exact hl)]
      · rw [if_neg hl, List.getElem?_eq_none (by rw [List.length_set, wipe_length]; omega)]
    · rw [List.getElem?_set_ne e]
      refine wipe_in ?_
      rcases List.mem_cons.mp h with z | z
      · exact absurd z.symm e
      · exact z
theorem wipe_touch {σ σ2 : L2.St} {is vs : List Nat} (hs : ∀ i ∈ is, i ∈ vs) (t : Touch is (wipe σ vs) σ2) : wipe σ2 vs = wipe σ vs := by
  refine List.ext_getElem? fun j => ?_
  have hl : σ2.length = σ.length := t.1.trans (wipe_length σ vs)
  by_cases h : j ∈ vs
  · rw [wipe_in h, wipe_in h, hl]
  · rw [wipe_out h]
    exact t.2 j fun z => h (hs j z)
theorem mo_hold {W : Wd} {p : Addr} {o : HO} (h : ∀ o, W.hd p = some o → ¬ IsFrz o) : Mo W (W.hold p o) := ⟨fun _ _ h => h, fun _ _ h => h, fun a u e z => by
  have na : a ≠ p := fun q => h u (by rw [← q]; exact e) z
  exact (if_neg na).trans e⟩
theorem lst_nofrz {vs : List V} : ¬ IsFrz (.lst vs) := fun ⟨od, u, e⟩ => by cases e
theorem compR_fix {turn : D → Store → Res (Option D)} {xs : List D} : ∀ (k i : Nat) (acc : List D) (S : Store), i + k = xs.length → compR turn (.fix xs) k i acc S = compL turn (xs.drop i) acc S
  | 0, i, acc, S, h => by
    unfold compR
    rw [List.drop_eq_nil_of_le (by omega)]
    show (if i = xs.length then Res.ok acc S else .bad) = _
    rw [if_pos (by omega)]
    rfl
  | k + 1, i, acc, S, h => by
    have hi : i < xs.length := by omega
    unfold compR
    rw [List.drop_eq_getElem_cons hi]
    unfold compL
    show (match xs[i]? with
      | some x => (turn x S).bind fun o S1 => compR turn (.fix xs) k (i + 1) (match o with | some d => acc ++ [d] | none => acc) S1
      | none => .bad) = _
    rw [List.getElem?_eq_getElem hi]
    dsimp only
    congr 1
    funext o S1
    exact compR_fix k (i + 1) _ S1 (by omega)
theorem compW_eq {turn : D → Store → Res (Option D)} {w : Wlk} {S : Store} {xs : List D} {S' : Store} (h : compW turn w S = .ok xs S') : w.len ≤ LIM ∧ compR turn w w.len 0 [] S = .ok xs S' := by
  cases w with
  | fix ys =>
    unfold compW at h
    dsimp only at h
    split at h
    · rename_i z
      refine ⟨z, ?_⟩
      rw [← h]
      exact (compR_fix _ 0 [] S (by simp [Wlk.len])).trans (by rw [List.drop_zero])
    · cases h
  | live n len =>
    unfold compW at h
    dsimp only at h
    split at h
    · rename_i z
      exact ⟨z, h⟩
    · cases h
  | keys n len =>
    unfold compW at h
    dsimp only at h
    split at h
    · rename_i z
      exact ⟨z, h⟩
    · cases h
theorem lim_line2 {n : Nat} (h : n < LIM) : n < sizeLine := by unfold LIM at h; unfold sizeLine; omega
section
variable {K : PySem.W.Frag} {mg : Str → Option Value} {bs : List Nat}
/-- a turn by its parts -/
def turnOf (a : D → Env → Store → Option Env) (rt : Env → Store → Res Bool) (re : Env → Store → Res D) (ρ : Env) (x : D) (S : Store) : Res (Option D) :=
  match a x ρ S with
  | some ρ1 => (rt ρ1 S).bind fun b S1 => if b then (re ρ1 S1).bind fun d S2 => .ok (some d) S2 else .ok none S1
  | none => .bad
theorem lc_loop {J : It} {w : Wlk} {W1 Wb : Wd} {D0 : Addr} {vs0 : List V} {acc0 xs : List D} {S0 S5 : Store} {H0 : L2.Hp} {σ : L2.St} {ρ : Env} {vs is : List Nat} {a : D → Env → Store → Option Env} {rt : Env → Store → Res Bool} {re : Env → Store → Res D} {QE : L2.Hp → Prop}
    (e0 : Ext (W1.hold D0 (.lst vs0)) Wb) (s0 : Sim K bs Wb S0 H0) (r0 : RepAll K Wb vs0 acc0) (wk : WlkOk K bs Wb w J) (hs : ∀ i ∈ is, i ∈ vs) (ev : EnvOk K Wb ρ (wipe σ vs))
    (hr : compR (turnOf a rt re ρ) w w.len 0 acc0 S0 = .ok xs S5) (hl : acc0.length + w.len ≤ LIM)
    (hq : ∀ W' vs H, Ext (W1.hold D0 (.lst vs)) W' → Mo Wb W' → Sim K bs W' S5 H → RepAll K W' vs xs → xs.length ≤ acc0.length + w.len → QE H) :
    ∃ Wm : Nat → Nat → L2.Hp → Prop, (∃ m, Wm 0 m H0) ∧ ∀ i m H, Wm i m H → (J.stop i H ∧ QE H) ∨ (J.go i H ∧ ∃ Nx : L2.Hp → Prop, (∀ H', Nx H' → ∃ m', m' < m ∧ Wm (i + 1) m' H') ∧
      ∀ x H', J.yld i H x H' → tGt K bs is a x (wipe σ vs) H' fun σ2 H2 => wipe σ2 vs = wipe σ vs ∧ tB K mg bs noX rt σ2 H2 fun b H3 =>
        if b = true then tE K mg bs noX re σ2 H3 fun y H4 => ∃ acc, H4 D0 = some (.lst acc) ∧ acc.length < sizeLine ∧ Nx (upd H4 D0 (.lst (acc ++ [y]))) else Nx H3) := by
  refine ⟨fun i m H => m = w.len - i ∧ i ≤ w.len ∧ ∃ W' S' acc vs', Ext (W1.hold D0 (.lst vs')) W' ∧ Mo Wb W' ∧ Sim K bs W' S' H ∧ RepAll K W' vs' acc ∧ acc.length ≤ acc0.length + i ∧ compR (turnOf a rt re ρ) w (w.len - i) i acc S' = .ok xs S5,
    ⟨w.len, by simp, Nat.zero_le _, Wb, S0, acc0, vs0, e0, ⟨fun _ _ h => h, fun _ _ h => h, fun _ _ h _ => h⟩, s0, r0, by omega, hr⟩, ?_⟩
  rintro i m H ⟨rfl, hi, W', S', acc, vs', e1, m1, s1, r1, l1, c1⟩
  by_cases hlt : i < w.len
  · obtain ⟨k, hk⟩ : ∃ k, w.len - i = k + 1 := ⟨w.len - i - 1, by omega⟩
    rw [hk] at c1
    unfold compR at c1
    cases e2 : w.at S' with
    | none => rw [e2] at c1; cases c1
    | some ys =>
      rw [e2] at c1
      dsimp only at c1
      cases e3 : ys[i]? with
      | none => rw [e3] at c1; cases c1
      | some x =>
        rw [e3] at c1
        dsimp only at c1
        have hiy : i < ys.length := (List.getElem?_eq_some_iff.mp e3).1
        obtain ⟨w1, w2, w3⟩ := wk W' S' H ys m1 s1 e2
        refine .inr ⟨w1 i hiy, fun H' => ∃ W' S' acc vs', Ext (W1.hold D0 (.lst vs')) W' ∧ Mo Wb W' ∧ Sim K bs W' S' H' ∧ RepAll K W' vs' acc ∧ acc.length ≤ acc0.length + (i + 1) ∧ compR (turnOf a rt re ρ) w (w.len - (i + 1)) (i + 1) acc S' = .ok xs S5,
          fun H' p => ⟨w.len - (i + 1), by omega, rfl, by omega, p⟩, fun xv H' y => ?_⟩
        obtain ⟨W2, d, e4, s2, hd, rd⟩ := w3 i xv H' hiy y
        rw [e3] at hd
        cases hd
        have hk' : w.len - (i + 1) = k := by omega
        rw [hk']
        unfold turnOf at c1
        cases e5 : a x ρ S' with
        | none => rw [e5] at c1; cases c1
        | some ρ1 =>
          rw [e5] at c1
          dsimp only at c1
          refine ⟨W2, ρ, S', x, ρ1, ⟨ev.1, fun j dd q => ?_⟩, s2, rd, e5, fun W3 σ3 H3 e6 ev3 s3 t3 => ⟨wipe_touch hs t3, ?_⟩⟩
          · obtain ⟨v, g1, g2⟩ := ev.2 j dd q
            exact ⟨v, g1, (g2.mo m1).mono e4⟩
          · refine ⟨W3, ρ1, S', ev3, s3, ?_⟩
            cases e7 : rt ρ1 S' with
            | bad => rw [e7] at c1; cases c1
            | exc z S => rw [e7] at c1; cases c1
            | ok b S3 =>
              rw [e7] at c1
              dsimp only [Res.bind] at c1
              intro W4 H4 e8 s4
              have ex4 : Ext W' W4 := (e4.trans e6).trans e8
              cases b with
              | false =>
                dsimp only at c1 ⊢
                rw [if_neg (by decide)] at c1 ⊢
                dsimp only at c1
                exact ⟨W4, S3, acc, vs', e1.trans ex4, m1.trans ex4.mo, s4, r1.mono ex4, by omega, c1⟩
              | true =>
                dsimp only at c1 ⊢
                rw [if_pos rfl] at c1 ⊢
                refine ⟨W4, ρ1, S3, ev3.mono e8, s4, ?_⟩
                cases e9 : re ρ1 S3 with
                | bad => rw [e9] at c1; cases c1
                | exc z S => rw [e9] at c1; cases c1
                | ok dv S4 =>
                  rw [e9] at c1
                  dsimp only [Res.bind] at c1
                  intro W5 H5 e10 s5 yv ry
                  have ex5 : Ext W' W5 := ex4.trans e10
                  have eh : Ext (W1.hold D0 (.lst vs')) W5 := e1.trans ex5
                  have hh : W5.hd D0 = some (.lst vs') := by rw [eh.hd]; exact hold_self
                  refine ⟨vs', (s5.held _ _ hh).1, lim_line2 (by rw [r1.length]; omega), W5.hold D0 (.lst (vs' ++ [yv])), S4, acc ++ [dv], vs' ++ [yv], ext_rehold _ eh, (m1.trans ex5.mo).trans (mo_hold fun o e => by rw [hh] at e; cases e; exact lst_nofrz), s5.rehold hh lst_nofrz _, ?_, ?_, c1⟩
                  · exact RepAll.monoF (W := W5) (W' := W5.hold D0 (.lst (vs' ++ [yv]))) (fun _ _ h => h) (fun _ _ h => h) ((r1.mono ex5).append (.cons ry .nil))
                  · rw [List.length_append, List.length_singleton]
                    omega
  · have hz : w.len - i = 0 := by omega
    rw [hz] at c1
    unfold compR at c1
    cases e2 : w.at S' with
    | none => rw [e2] at c1; cases c1
    | some ys =>
      rw [e2] at c1
      dsimp only at c1
      split at c1
      · rename_i hiy
        cases c1
        obtain ⟨w1, w2, w3⟩ := wk W' _ H ys m1 s1 e2
        rw [← hiy] at w2
        exact .inl ⟨w2, hq W' vs' H e1 m1 s1 r1 (by omega)⟩
      · cases c1
/-- it is made -/
theorem lc_end {md : Bool} {W1 W' : Wd} {D0 : Addr} {vs : List V} {xs : List D} {S1 S5 : Store} {H1 H : L2.Hp} {EX : Exn → Wd → L2.Hp → Prop} {Q : VK} (s1 : Sim K bs W1 S1 H1) (hD : H1 D0 = none) (e : Ext (W1.hold D0 (.lst vs)) W') (s : Sim K bs W' S5 H) (r : RepAll K W' vs xs)
    (h : After K bs EX W1 (newL md S5 xs) fun d _ W' H' => ∀ v, Rep K W' v d → Q v H') : Q (.ref D0) H := by
  have hh : W'.hd D0 = some (.lst vs) := by rw [e.hd]; exact hold_self
  have g1 := s1.fzNone hD
  have g2 := s1.hdNone hD
  cases md with
  | false =>
    refine h (W'.doneF D0 (.lst vs)) H (ext_doneF g1 g2 e (s.held _ _ hh).2.1) (s.doneF (f := .lst vs) hh) _ (.lst (.inl ?_) (RepAll.monoF (W := W') (W' := W'.doneF D0 (.lst vs)) (fun b u q => ?_) (fun _ _ q => q) r))
    · show (if D0 = D0 then some (FO.lst vs) else _) = _
      rw [if_pos rfl]
    · show (if b = D0 then some (FO.lst vs) else W'.fz b) = some u
      have z : b ≠ D0 := fun z => by rw [z, (s.held _ _ hh).2.1] at q; cases q
      rw [if_neg z]
      exact q
  | true =>
    have rr : RepAll K (W'.doneR S5.length D0) vs xs := RepAll.monoF (W := W') (W' := W'.doneR S5.length D0) (fun b u q => q) (fun n u q => by
      show (if n = S5.length then some D0 else W'.io n) = some u
      have z : n ≠ S5.length := fun z => by rw [z, s.ioNone (Nat.le_refl _)] at q; cases q
      rw [if_neg z]
      exact q) r
    refine h (W'.doneR S5.length D0) H (ext_doneR g2 e (s.ioNone (Nat.le_refl _))) (s.doneR hh lst_nofrz (o := .lst xs) ⟨vs, (s.held _ _ hh).1, r⟩) _ (.ref ?_)
    show (if S5.length = S5.length then some D0 else _) = _
    rw [if_pos rfl]
theorem calm_ok {α : Type} {EX : Exn → Wd → L2.Hp → Prop} {W : Wd} {β : Type} {r : Res α} {f : α → Store → Res β} {Q : β → Store → Wd → L2.Hp → Prop} (h : After K bs EX W (r.calm.bind f) Q) : ∃ x S, r = .ok x S ∧ After K bs EX W (f x S) Q := by
  cases r with
  | ok x S => exact ⟨x, S, rfl, h⟩
  | exc x S => exact h.elim
  | bad => exact h.elim
variable {Ex : XK} {rs : Env → Store → Res Wlk} {rt : Env → Store → Res Bool} {re : Env → Store → Res D} {a : D → Env → Store → Option Env} {is vs : List Nat}
theorem rd_lc {md : Bool} (hs : ∀ i ∈ is, i ∈ vs) {σ : L2.St} {H : L2.Hp} {Q : VK}
    (h : tE K mg bs Ex (fun ρ S => (rs ρ S).bind fun w S1 => ((compW (turnOf a rt re (wipeE ρ vs)) w S1).calm).bind fun xs S5 => newL md S5 xs) σ H Q) :
    tLc (tSrc K mg bs Ex rs) (tGt K bs is a) (tB K mg bs noX rt) (tE K mg bs noX re) vs σ H Q := by
  obtain ⟨W, ρ, S, ev, sm, h⟩ := h
  refine ⟨W, ρ, S, ev, sm, h.bind.imp fun w S1 W1 H1 e1 s1 a1 J wk D0 hD => ?_⟩
  obtain ⟨xs, S5, e2, a2⟩ := calm_ok a1
  obtain ⟨l1, c1⟩ := compW_eq e2
  have ev1 : EnvOk K (W1.hold D0 (.lst [])) (wipeE ρ vs) (wipe σ vs) := by
    have z := (ev.mono e1).wipe vs
    exact ⟨z.1, fun j dd q => let ⟨v, g1, g2⟩ := z.2 j dd q; ⟨v, g1, Rep.monoF (W := W1) (W' := W1.hold D0 (.lst [])) (fun _ _ h => h) (fun _ _ h => h) g2⟩⟩
  have wk1 : WlkOk K bs (W1.hold D0 (.lst [])) w J := fun W' S' H' ys m => wk W' S' H' ys ((mo_hold fun o e => by rw [s1.hdNone hD] at e; cases e).trans m)
  exact lc_loop (W1 := W1) (Ext.refl _) (s1.hold hD _) .nil wk1 hs ev1 c1 (by simpa using l1) fun W' vs' H' e m s r l => lc_end s1 hD e s r a2
end
section
variable {X : Cx} {mg : Str → Option Value} {bs : List Nat} {Ex : XK} {rs : Env → Store → Res Wlk} {rt : Env → Store → Res Bool} {re : Env → Store → Res D} {a : D → Env → Store → Option Env} {is : List Nat} {md : Bool}
/-- a claim of each block's context -/
abbrev Blk (X : Cx) (scope : Scope) (p : Cx → Prop) : Prop := ∀ (s : Shared) (H : L2.Hp) (C : Addr) (cl : List (Str × Addr)) (fp : List Addr), p (X.blk s H scope (compEnvC scope cl C X.env) fp)
theorem s_lc {elt tg iter : Expr} {ifs : List Expr} {scope : Scope} {own : List (Str × Nat)} {pos : Pos} (hc : X.calm = true) (hN : X.N.Nodup) (hi : PI X tg iter (tSrc X.K mg bs Ex rs)) (ok : BlkOk X.N X.env.scope scope own)
    (hg : Blk X scope fun X' => PG X' tg (tGt X.K bs is a)) (ht : Blk X scope fun X' => PTs X' ifs (tB X.K mg bs noX rt)) (he : Blk X scope fun X' => PE X' elt (tE X.K mg bs noX re)) (hs : ∀ i ∈ is, i ∈ own.map (·.2)) (hf : ∀ x, foldedSetIterable iter X.env x = pure x := by intro _; rfl) :
    E X mg bs Ex (.ListComp elt [⟨tg, iter, ifs, 0⟩] scope pos) fun ρ S => (rs ρ S).bind fun w S1 => ((compW (turnOf a rt re (wipeE ρ (own.map (·.2)))) w S1).calm).bind fun xs S5 => newL md S5 xs :=
  PEimp (pe_lc hc hN hi ok hg ht he hf) fun σ H Q h => rd_lc hs h
/-- over the keys of the dict in a slot -/
theorem wlk_keys {K : PySem.W.Frag} {W : Wd} {n : Nat} {a : Addr} {od : Obj} {kvs : List (Key × V)} (h1 : W.io n = some a) (h2 : W.hd a = some (.frz od (.dK kvs))) : WlkOk K bs W (.keys n kvs.length) (Itk a od kvs) := fun W' S' H' ys m s q => by
  have g1 := m.io n a h1
  have g2 := m.lk a _ h2 ⟨od, _, rfl⟩
  obtain ⟨hH, _, _⟩ := s.held a _ g2
  unfold Wlk.at at q
  dsimp only at q
  split at q
  · rename_i ks vs e
    split at q
    · cases q
      obtain ⟨a', i1, _, ⟨od', kvs', i2, i3, i4, _⟩, _⟩ := s.live n _ e
      rw [g1] at i1
      cases i1
      rw [g2] at i3
      cases i3
      subst i4
      have hl : ((kvs.map (·.1)).map keyD).length = kvs.length := by rw [List.length_map, List.length_map]
      rw [hl]
      refine ⟨fun i hi => walk_keys.goes i H' hi hH, walk_keys.stops H' hH, fun i x H2 hi y => ?_⟩
      obtain ⟨e2, k, v, e3, rfl⟩ := walk_keys.yields i H' x H2 hi hH y
      subst e2
      refine ⟨W', keyD k, Ext.refl W', s, ?_, ?_⟩
      · rw [List.getElem?_map, List.getElem?_map, e3]
        rfl
      · cases k with
        | inl i => exact .int i
        | inr x => exact .str x
    · cases q
  · cases q
theorem s_lcD {elt tg : Expr} {x : Str} {p : Pos} {i : Nat} {ifs : List Expr} {scope : Scope} {own : List (Str × Nat)} {pos : Pos} (hc : X.calm = true) (hN : X.N.Nodup) (hv : PE X (.Name x p) (tVar i)) (ok : BlkOk X.N X.env.scope scope own)
    (hg : Blk X scope fun X' => PG X' tg (tGt X.K bs is a)) (ht : Blk X scope fun X' => PTs X' ifs (tB X.K mg bs noX rt)) (he : Blk X scope fun X' => PE X' elt (tE X.K mg bs noX re)) (hs : ∀ i ∈ is, i ∈ own.map (·.2)) :
    E X mg bs Ex (.ListComp elt [⟨tg, .Name x p, ifs, 0⟩] scope pos) fun ρ S => match ρ[i]? with
      | some (some (.ref n)) => (match S[n]? with
        | some (.dct ks vs) => ((compW (turnOf a rt re (wipeE ρ (own.map (·.2)))) (.keys n ks.length) (S.set n (.lck ks vs))).calm).bind fun xs S5 => (match S5[n]? with
            | some (.lck ks' vs') => newL md (S5.set n (.dct ks' vs')) xs
            | _ => .bad)
        | _ => .bad)
      | _ => .bad := by
  refine PEimp (pe_lock (pe_lc hc hN (pi_keys hv) ok hg ht he fun _ => rfl)) fun σ H Q ⟨W, ρ, S, ev, sm, h⟩ => ?_
  dsimp only at h
  split at h
  · rename_i n e1
    obtain ⟨v, hσ, rv⟩ := ev.2 i _ e1
    split at h
    · rename_i ks ds e2
      obtain ⟨d, kvs, q1, q2, q3, q4, q5, lk⟩ := sm.lock e2
      have evd : v = .ref d := by
        cases rv with
        | ref z => rw [q1] at z; cases z; rfl
      subst evd
      refine ⟨d, .dK kvs, q3, trivial, fun od => ⟨.ref d, hσ, d, od, rfl, .inl ⟨kvs, upd_same, fun D0 hD => ?_⟩⟩⟩
      have sl := lk od
      have nd : D0 ≠ d := fun z => by rw [z, upd_same] at hD; cases hD
      obtain ⟨xs, S5, e3, a2⟩ := calm_ok h
      obtain ⟨l1, c1⟩ := compW_eq e3
      have hl : ks.length = kvs.length := by rw [q4, List.length_map]
      rw [hl] at c1 l1
      have wk : WlkOk X.K bs (W.hold d (.frz od (.dK kvs))) (.keys n kvs.length) (Itk d od kvs) := wlk_keys (W := W.hold d (.frz od (.dK kvs))) q1 hold_self
      have hno : ∀ o, (W.hold d (.frz od (.dK kvs))).hd D0 = some o → ¬ IsFrz o := fun o e => by rw [sl.hdNone hD] at e; cases e
      have ev1 : EnvOk X.K ((W.hold d (.frz od (.dK kvs))).hold D0 (.lst [])) (wipeE ρ (own.map (·.2))) (wipe σ (own.map (·.2))) := by
        have z := ev.wipe (own.map (·.2))
        exact ⟨z.1, fun j dd q => let ⟨v, g1, g2⟩ := z.2 j dd q; ⟨v, g1, Rep.monoF (W := W) (W' := (W.hold d (.frz od (.dK kvs))).hold D0 (.lst [])) (fun _ _ h => h) (fun _ _ h => h) g2⟩⟩
      refine lc_loop (W1 := W.hold d (.frz od (.dK kvs))) (Ext.refl _) (sl.hold hD _) .nil (fun W' S' H' ys m => wk W' S' H' ys ((mo_hold hno).trans m)) hs ev1 c1 (by simpa using l1) fun W' vs' H' e m s r l => ?_
      have hd' : W'.hd d = some (.frz od (.dK kvs)) := by
        rw [e.hd]
        exact (if_neg (Ne.symm nd)).trans hold_self
      have hio : W'.io n = some d := e.io n d q1
      refine ⟨(s.held d _ hd').1, ?_⟩
      split at a2
      · rename_i ks' vs'' e5
        have su := s.unlock hio hd' e5
        refine lc_end (H1 := H) (W1 := W) (W' := W'.unhold d) sm (by rw [upd_ne nd] at hD; exact hD) ⟨e.fz, e.io, ?_⟩ su (RepAll.monoF (W := W') (W' := W'.unhold d) (fun _ _ h => h) (fun _ _ h => h) r) a2
        funext b
        show (if b = d then none else W'.hd b) = (if b = D0 then some (HO.lst vs') else W.hd b)
        rw [e.hd]
        show (if b = d then none else if b = D0 then some (HO.lst vs') else if b = d then some (HO.frz od (.dK kvs)) else W.hd b) = _
        by_cases z : b = d
        · rw [if_pos z, z, if_neg (Ne.symm nd), q2]
        · rw [if_neg z, if_neg z]
      · exact a2.elim
    · exact h.elim
  · exact h.elim
end
end Pv

/-! Statements. -/
namespace Pv
open PySem L2 PyProof.Rows
/-- what is wanted behind, by the evaluator's answer -/
def FlQ (K : PySem.W.Frag) (D : Ends) (f : Fl) (W : Wd) (H : L2.Hp) : Prop := match f with
  | .nx ρ => ∀ σ, EnvOk K W ρ σ → D.nx σ H
  | .rt d => ∀ v, Rep K W v d → D.rt v H
def tS (K : PySem.W.Frag) (mg : Str → Option Value) (bs : List Nat) (Ex : XK) (r : Env → Store → Res Fl) : TS := fun D σ H =>
  ∃ W ρ S, EnvOk K W ρ σ ∧ Sim K bs W S H ∧ After K bs (EXx K mg Ex) W (r ρ S) fun f _ W' H' => FlQ K D f W' H'
theorem PSimp {X : Cx} {st : Stmt} {t t' : TS} (h : PS X st t) (f : ∀ D σ H, t' D σ H → t D σ H) : PS X st t' := ⟨fun pins s σ H D I q => h.run pins s σ H D I (f D σ H q)⟩
theorem PSsimp {X : Cx} {st : List Stmt} {t t' : TS} (h : PSs X st t) (f : ∀ D σ H, t' D σ H → t D σ H) : PSs X st t' := ⟨fun pins s σ H D I q => h.run pins s σ H D I (f D σ H q)⟩
section
variable {X : Cx} {mg : Str → Option Value} {bs : List Nat} {Ex : XK} {ra rb rc : Env → Store → Res D} {a b c tg e : Expr} {pos p : Pos} {r r1 r2 : Env → Store → Res Fl}
abbrev SS (X : Cx) (mg : Str → Option Value) (bs : List Nat) (Ex : XK) (st : Stmt) (r : Env → Store → Res Fl) : Prop := PS X st (tS X.K mg bs Ex r)
abbrev SSs (X : Cx) (mg : Str → Option Value) (bs : List Nat) (Ex : XK) (st : List Stmt) (r : Env → Store → Res Fl) : Prop := PSs X st (tS X.K mg bs Ex r)
theorem ss_nil : SSs X mg bs Ex [] fun ρ S => .ok (.nx ρ) S := PSsimp pss_nil fun D σ H ⟨W, ρ, S, ev, sm, h⟩ => After.now (S := S) h sm σ ev
theorem ss_cons {st : Stmt} {rest : List Stmt} (h1 : SS X mg bs Ex st r1) (h2 : SSs X mg bs Ex rest r2) :
    SSs X mg bs Ex (st :: rest) fun ρ S => (r1 ρ S).bind fun f S1 => match f with
      | .nx ρ1 => r2 ρ1 S1
      | f => .ok f S1 := PSsimp (pss_cons h1 h2) fun D σ H ⟨W, ρ, S, ev, sm, h⟩ => ⟨W, ρ, S, ev, sm, h.bind.imp fun f S1 W1 H1 e1 s1 a1 => by
  cases f with
  | nx ρ1 => exact fun σ1 ev1 => ⟨W1, ρ1, S1, ev1, s1, a1⟩
  | rt d => exact After.now (S := S1) a1 s1⟩
theorem ss_pass : SS X mg bs Ex (.Pass pos) fun ρ S => .ok (.nx ρ) S := PSimp ps_pass fun D σ H ⟨W, ρ, S, ev, sm, h⟩ => After.now (S := S) h sm σ ev
theorem ss_expr (ha : E X mg bs Ex a ra) (hs : swapsWith a none pos.line X.env = pure false) : SS X mg bs Ex (.Expr a pos) fun ρ S => (ra ρ S).bind fun _ S1 => .ok (.nx ρ) S1 :=
  PSimp (ps_expr ha hs) fun D σ H ⟨W, ρ, S, ev, sm, h⟩ => ⟨W, ρ, S, ev, sm, h.bind.imp fun d S1 W1 H1 e1 s1 a1 v rv => After.now (S := S1) a1 s1 σ (ev.mono e1)⟩
theorem ss_ret (ha : E X mg bs Ex a ra) : SS X mg bs Ex (.Return (some a) pos) fun ρ S => (ra ρ S).bind fun d S1 => .ok (.rt d) S1 :=
  PSimp (ps_ret ha) fun D σ H ⟨W, ρ, S, ev, sm, h⟩ => ⟨W, ρ, S, ev, sm, h.bind.imp fun d S1 W1 H1 e1 s1 a1 v rv => After.now (S := S1) a1 s1 v rv⟩
theorem ss_retN : SS X mg bs Ex (.Return none pos) fun _ S => .ok (.rt .non) S := PSimp ps_retN fun D σ H ⟨W, ρ, S, ev, sm, h⟩ => After.now (S := S) h sm _ .non
theorem ss_set {i : Nat} {x : Str} {pos' : Pos} (hN : X.N.Nodup) (hi : X.N[i]? = some x) (hx : Loc X.env.scope x) (ha : E X mg bs Ex a ra) (hs : swapsWith a (some (.Name x pos')) pos.line X.env = pure false) (hf : X.fn x = true ∨ X.env.scope.names.lookup x = some .local) :
    SS X mg bs Ex (.Assign [.Name x pos'] a pos) fun ρ S => (ra ρ S).bind fun d S1 => .ok (.nx (ρ.set i (some d))) S1 :=
  PSimp (ps_set hN hi hx ha hs hf) fun D σ H ⟨W, ρ, S, ev, sm, h⟩ => ⟨W, ρ, S, ev, sm, h.bind.imp fun d S1 W1 H1 e1 s1 a1 v rv => After.now (S := S1) a1 s1 _ ((ev.mono e1).set rv)⟩
/-- name = [..] on one line -/
theorem ss_setLc {i : Nat} {y : Str} {py : Pos} {elt iter : Expr} {ifs : List Expr} {scope : Scope} {own : List (Str × Nat)} {spos : Pos} {rs : Env → Store → Res Wlk} {rt : Env → Store → Res Bool} {re : Env → Store → Res D} {ga : D → Env → Store → Option Env} {is : List Nat} {md : Bool} (hc : X.calm = true) (hN : X.N.Nodup)
    (hy : X.N[i]? = some y) (hyl : X.env.scope.names.lookup y = some .local) (hsw : swapsWith (.ListComp elt [⟨tg, iter, ifs, 0⟩] scope pos) (some (.Name y py)) spos.line X.env = pure true) (hi : PI X tg iter (tSrc X.K mg bs Ex rs)) (ok : BlkOk X.N X.env.scope scope own)
    (hg : Blk X scope fun X' => PG X' tg (tGt X.K bs is ga)) (ht : Blk X scope fun X' => PTs X' ifs (tB X.K mg bs noX rt)) (he : Blk X scope fun X' => PE X' elt (tE X.K mg bs noX re)) (hs : ∀ i ∈ is, i ∈ own.map (·.2)) (hf : ∀ x, foldedSetIterable iter X.env x = pure x) :
    SS X mg bs Ex (.Assign [.Name y py] (.ListComp elt [⟨tg, iter, ifs, 0⟩] scope pos) spos) fun ρ S => ((rs ρ S).bind fun w S1 => ((compW (turnOf ga rt re (wipeE ρ (own.map (·.2)))) w S1).calm).bind fun xs S5 => newL md S5 xs).bind fun d S1 => .ok (.nx (ρ.set i (some d))) S1 :=
  PSimp (ps_setLc hc hN hy hyl hsw hi ok hg ht he hf) fun D σ H ⟨W, ρ, S, ev, sm, h⟩ => rd_lc hs ⟨W, ρ, S, ev, sm, h.bind.imp fun d S1 W1 H1 e1 s1 a1 v rv => After.now (S := S1) a1 s1 _ ((ev.mono e1).set rv)⟩
theorem lift_then {α β : Type} {K : PySem.W.Frag} {W : Wd} {S : Store} {EX : Exn → Wd → L2.Hp → Prop} {o : Option α} {f : α → Store → Res β} {Q : β → Store → Wd → L2.Hp → Prop} (a : After K bs EX W ((lift S o).bind f) Q) : ∃ x, o = some x ∧ After K bs EX W (f x S) Q := by
  cases o with
  | none => exact a.elim
  | some x => exact ⟨x, rfl, a⟩
/-- a target of any form -/
theorem ss_asg {is : List Nat} {ga : D → Env → Store → Option Env} (ha : E X mg bs Ex a ra) (hg : PG X tg (tGt X.K bs is ga)) (hs : swapsWithSole [tg] a pos.line X.env = pure false) (hw : swappedStores [tg] a X.env = pure none) (h1 : (assignEach [tg] X.env).map (·.2) = [assign tg X.env]) :
    SS X mg bs Ex (.Assign [tg] a pos) fun ρ S => (ra ρ S).bind fun d S1 => (lift S1 (ga d ρ S1)).bind fun ρ1 S2 => .ok (.nx ρ1) S2 :=
  PSimp (ps_asg ha hg hs hw h1) fun D σ H ⟨W, ρ, S, ev, sm, h⟩ => ⟨W, ρ, S, ev, sm, h.bind.imp fun d S1 W1 H1 e1 s1 a1 v rv => by
    obtain ⟨ρ1, e2, a2⟩ := lift_then a1
    exact ⟨W1, ρ, S1, d, ρ1, ev.mono e1, s1, rv, e2, fun W2 σ2 H2 e3 ev2 s2 _ => (After.ext e3 a2).now (S := S1) s2 σ2 ev2⟩⟩
theorem ss_par {i j : Nat} {x y : Str} {px py pt : Pos} {kt k2 pt2} (hc : X.calm = true) (hN : X.N.Nodup) (hi : X.N[i]? = some x) (hj : X.N[j]? = some y) (hij : i ≠ j)
    (hx : X.env.scope.names.lookup x = some .local) (hy : X.env.scope.names.lookup y = some .local) (ha : E X mg bs Ex a ra) (hb : E X mg bs Ex b rb) (h1 : starEach (a :: [b]) X.env = (false, eval a X.env) :: starEach [b] X.env) (h2 : starEach (b :: []) X.env = (false, eval b X.env) :: starEach [] X.env)
    (hw : swappedStores [.Tuple [.Name x px, .Name y py] kt pt] (.Tuple [a, b] k2 pt2) X.env = pure (some [x, y])) (hs : swapsWithSole [.Tuple [.Name x px, .Name y py] kt pt] (.Tuple [a, b] k2 pt2) pos.line X.env = pure false) :
    SS X mg bs Ex (.Assign [.Tuple [.Name x px, .Name y py] kt pt] (.Tuple [a, b] k2 pt2) pos) fun ρ S => (ra ρ S).bind fun d S1 => (rb ρ S1).bind fun d2 S2 => .ok (.nx ((ρ.set i (some d)).set j (some d2))) S2 :=
  PSimp (ps_par hc hN hi hj hij hx hy (pa_cons ha (pa_cons hb pa_nil h2) h1) hw hs) fun D σ H ⟨W, ρ, S, ev, sm, h⟩ => ⟨W, ρ, S, ev, sm, h.bind.imp fun d S1 W1 H1 e1 s1 a1 v rv =>
    ⟨W1, ρ, S1, ev.mono e1, s1, a1.bind.imp fun d2 S2 W2 H2 e2 s2 a2 w rw' => ⟨v, w, rfl, After.now (S := S2) a2 s2 _ (((ev.mono (e1.trans e2)).set (rv.mono e2)).set rw')⟩⟩⟩
theorem ss_if {ta tb : List Stmt} (hc : T X mg bs Ex c rc) (ha : SSs X mg bs Ex ta r1) (hb : SSs X mg bs Ex tb r2) : SS X mg bs Ex (.If c ta tb pos) fun ρ S => (evT rc ρ S).bind fun k S1 => if k then r1 ρ S1 else r2 ρ S1 :=
  PSimp (ps_if hc ha hb) fun D σ H ⟨W, ρ, S, ev, sm, h⟩ => ⟨W, ρ, S, ev, sm, h.bind.imp fun k S1 W1 H1 e1 s1 a1 => by
    cases k with
    | true => exact ⟨W1, ρ, S1, ev.mono e1, s1, a1⟩
    | false => exact ⟨W1, ρ, S1, ev.mono e1, s1, a1⟩⟩
theorem ss_while {tb : List Stmt} {n : Nat} (hp : PassesOwn (model X.prog X.w) X.A X.env X.xe) (hc : T X mg bs Ex c rc) (hb : SSs X mg bs Ex tb r1) : SS X mg bs Ex (.While c tb [] pos) fun ρ S => whileN (evT rc) r1 n ρ S :=
  PSimp (ps_while hp hc hb) fun D σ H ⟨W, ρ, S, ev, sm, h⟩ => by
    refine ⟨fun m σ H => ∃ W ρ S, EnvOk X.K W ρ σ ∧ Sim X.K bs W S H ∧ After X.K bs (EXx X.K mg Ex) W (whileN (evT rc) r1 m ρ S) fun f _ W' H' => FlQ X.K D f W' H', ⟨n, W, ρ, S, ev, sm, h⟩, ?_⟩
    rintro m σ H ⟨W, ρ, S, ev, sm, h⟩
    cases m with
    | zero => exact h.elim
    | succ m =>
      refine ⟨W, ρ, S, ev, sm, (After.bind (f := fun b S1 => if b then (r1 ρ S1).bind fun f S2 => (match f with
        | .nx ρ1 => whileN (evT rc) r1 m ρ1 S2
        | f => .ok f S2)
      else .ok (.nx ρ) S1) h).imp fun k S1 W1 H1 e1 s1 a1 => ?_⟩
      cases k with
      | false => exact After.now (S := S1) a1 s1 σ (ev.mono e1)
      | true =>
        refine ⟨fun σ H => ∃ W ρ S, EnvOk X.K W ρ σ ∧ Sim X.K bs W S H ∧ After X.K bs (EXx X.K mg Ex) W (whileN (evT rc) r1 m ρ S) fun f _ W' H' => FlQ X.K D f W' H', fun σ' H' q => ⟨m, Nat.lt_succ_self m, q⟩, W1, ρ, S1, ev.mono e1, s1, ?_⟩
        refine (After.bind (f := fun f S2 => match f with
          | .nx ρ1 => whileN (evT rc) r1 m ρ1 S2
          | f => .ok f S2) a1).imp fun f S2 W2 H2 e2 s2 a2 => ?_
        cases f with
        | nx ρ1 => exact fun σ1 ev1 => ⟨W2, ρ1, S2, ev1, s2, a2⟩
        | rt d => exact After.now (S := S2) a2 s2
/-- the turns of a for -/
def turnF (ga : D → Env → Store → Option Env) (rb : Env → Store → Res Fl) (x : D) (ρ : Env) (S : Store) : Res Fl := match ga x ρ S with
  | some ρ1 => rb ρ1 S
  | none => .bad
theorem forR_fix {body : D → Env → Store → Res Fl} {xs : List D} : ∀ (k i : Nat) (ρ : Env) (S : Store), i + k = xs.length → forR body (.fix xs) k i ρ S = forL body (xs.drop i) ρ S
  | 0, i, ρ, S, h => by
    unfold forR
    rw [List.drop_eq_nil_of_le (by omega)]
    show (if i = xs.length then Res.ok (Fl.nx ρ) S else .bad) = _
    rw [if_pos (by omega)]
    rfl
  | k + 1, i, ρ, S, h => by
    have hi : i < xs.length := by omega
    unfold forR
    rw [List.drop_eq_getElem_cons hi]
    unfold forL
    show (match xs[i]? with
      | some x => (body x ρ S).bind fun f S1 => match f with
        | .nx ρ1 => forR body (.fix xs) k (i + 1) ρ1 S1
        | f => .ok f S1
      | none => .bad) = _
    rw [List.getElem?_eq_getElem hi]
    dsimp only
    congr 1
    funext f S1
    cases f with
    | nx ρ1 => exact forR_fix k (i + 1) ρ1 S1 (by omega)
    | rt d => rfl
theorem forW_eq {body : D → Env → Store → Res Fl} {w : Wlk} {ρ : Env} {S : Store} : forW body w ρ S = forR body w w.len 0 ρ S := by
  cases w with
  | fix ys =>
    unfold forW
    exact ((forR_fix ys.length 0 ρ S (by simp)).trans (by rw [List.drop_zero])).symm
  | live n len => rfl
  | keys n len => rfl
theorem ss_for {iter : Expr} {tb : List Stmt} {rs : Env → Store → Res Wlk} {is : List Nat} {ga : D → Env → Store → Option Env} (hp : PassesOwn (model X.prog X.w) X.A X.env X.xe) (hc : X.calm = true) (hi : PI X tg iter (tSrc X.K mg bs Ex rs)) (hg : PG X tg (tGt X.K bs is ga)) (hb : SSs X mg bs Ex tb r1)
    (hs : ∀ x, foldedSetIterable iter X.env x = pure x) : SS X mg bs Ex (.For tg iter tb [] pos) fun ρ S => (rs ρ S).bind fun w S1 => forW (turnF ga r1) w ρ S1 :=
  PSimp (ps_for hp hc hi hg hb hs) fun D σ H ⟨W, ρ, S, ev, sm, h⟩ => ⟨W, ρ, S, ev, sm, h.bind.imp fun w S1 W1 H1 e1 s1 a1 J wk => by
    rw [forW_eq] at a1
    refine ⟨fun i m σ H => m = w.len - i ∧ i ≤ w.len ∧ ∃ W' ρ S', Ext W1 W' ∧ EnvOk X.K W' ρ σ ∧ Sim X.K bs W' S' H ∧ After X.K bs (EXx X.K mg Ex) W' (forR (turnF ga r1) w (w.len - i) i ρ S') fun f _ W' H' => FlQ X.K D f W' H',
      ⟨w.len, by simp, Nat.zero_le _, W1, ρ, S1, Ext.refl _, ev.mono e1, s1, a1⟩, ?_⟩
    rintro i m σ H ⟨rfl, hi, W', ρ, S', e2, ev2, s2, a2⟩
    by_cases hlt : i < w.len
    · obtain ⟨k, hk⟩ : ∃ k, w.len - i = k + 1 := ⟨w.len - i - 1, by omega⟩
      rw [hk] at a2
      unfold forR at a2
      cases q1 : w.at S' with
      | none => rw [q1] at a2; exact a2.elim
      | some ys =>
        rw [q1] at a2
        dsimp only at a2
        cases q2 : ys[i]? with
        | none => rw [q2] at a2; exact a2.elim
        | some x =>
          rw [q2] at a2
          dsimp only at a2
          have hiy : i < ys.length := (List.getElem?_eq_some_iff.mp q2).1
          obtain ⟨w1, w2, w3⟩ := wk W' S' H ys e2.mo s2 q1
          have hk' : w.len - (i + 1) = k := by omega
          refine .inr ⟨w1 i hiy, fun σ H => ∃ W' ρ S', Ext W1 W' ∧ EnvOk X.K W' ρ σ ∧ Sim X.K bs W' S' H ∧ After X.K bs (EXx X.K mg Ex) W' (forR (turnF ga r1) w (w.len - (i + 1)) (i + 1) ρ S') fun f _ W' H' => FlQ X.K D f W' H',
            fun σ' H' p => ⟨w.len - (i + 1), by omega, rfl, by omega, p⟩, fun xv H' y => ?_⟩
          obtain ⟨W2, d, e4, s4, hd, rd⟩ := w3 i xv H' hiy y
          rw [q2] at hd
          cases hd
          rw [hk']
          unfold turnF at a2
          cases q3 : ga x ρ S' with
          | none => rw [q3] at a2; exact a2.elim
          | some ρ1 =>
            rw [q3] at a2
            dsimp only at a2
            refine ⟨W2, ρ, S', x, ρ1, ev2.mono e4, s4, rd, q3, fun W3 σ3 H3 e6 ev3 s3 _ => ⟨W3, ρ1, S', ev3, s3, ?_⟩⟩
            refine (After.bind (After.ext (e4.trans e6) a2)).imp fun f S4 W4 H4 e7 s5 a5 => ?_
            cases f with
            | nx ρ4 => exact fun σ4 ev4 => ⟨W4, ρ4, S4, ((e2.trans e4).trans e6).trans e7, ev4, s5, a5⟩
            | rt dv => exact After.now (S := S4) a5 s5
    · have hz : w.len - i = 0 := by omega
      rw [hz] at a2
      unfold forR at a2
      cases q1 : w.at S' with
      | none => rw [q1] at a2; exact a2.elim
      | some ys =>
        rw [q1] at a2
        dsimp only at a2
        by_cases hiy : i = ys.length
        · rw [if_pos hiy] at a2
          obtain ⟨w1, w2, w3⟩ := wk W' S' H ys e2.mo s2 q1
          rw [← hiy] at w2
          exact .inl ⟨w2, After.now (S := S') a2 s2 σ ev2⟩
        · rw [if_neg hiy] at a2
          exact a2.elim⟩
end
end Pv

/-! Writes: items stored, append; {}; tests of a clause. -/
namespace Pv
open PySem L2 PyProof.Rows
theorem put_rel {K : PySem.W.Frag} {W : Wd} {v : V} {d : D} (k : Key) (rv : Rep K W v d) {kvs : List (Key × V)} {ds : List D} (r : RepAll K W (kvs.map (·.2)) ds) :
    (putOf k d (kvs.map (·.1)) ds).1 = (putK kvs k v).map (·.1) ∧ RepAll K W ((putK kvs k v).map (·.2)) (putOf k d (kvs.map (·.1)) ds).2 := by
  have hany := valV_any k kvs
  have hmap : ∀ {kvs : List (Key × V)} {ds : List D}, RepAll K W (kvs.map (·.2)) ds → ((kvs.map fun kv => if kv.1 = k then (kv.1, v) else kv).map (·.1) = kvs.map (·.1)) ∧ RepAll K W ((kvs.map fun kv => if kv.1 = k then (kv.1, v) else kv).map (·.2)) (putV k d (kvs.map (·.1)) ds) := by
    intro kvs
    induction kvs with
    | nil => intro ds r; cases r; exact ⟨rfl, .nil⟩
    | cons p kvs ih =>
      intro ds r
      cases r with
      | cons a b =>
        obtain ⟨h1, h2⟩ := ih b
        by_cases e : p.1 = k
        · refine ⟨by simp only [List.map_cons, e, if_true]; exact congrArg _ h1, ?_⟩
          simp only [List.map_cons, if_pos e, putV]
          exact .cons rv h2
        · refine ⟨by simp only [List.map_cons, if_neg e]; exact congrArg _ h1, ?_⟩
          simp only [List.map_cons, if_neg e, putV]
          exact .cons a h2
  unfold putOf putK
  rcases val_rel k r with ⟨e1, e2⟩ | ⟨w, d', e1, e2, _⟩
  · rw [e2]
    rw [e1] at hany
    rw [if_neg (by decide), if_neg (by rw [hany]; decide)]
    exact ⟨by simp, by rw [List.map_append]; exact r.append (.cons rv .nil)⟩
  · rw [e2]
    rw [e1] at hany
    rw [if_pos (by rfl), if_pos (by rw [hany]; rfl)]
    obtain ⟨h1, h2⟩ := hmap r
    exact ⟨h1.symm, h2⟩
/-- o[i] = v for a list or a dict -/
def rSet2 : V → V → V → L2.Hp → (L2.Hp → Prop) → Prop := fun o i v H Q => rSetL o i v H Q ∨ ∃ a H', o = .ref a ∧ DPut H a i v H' ∧ Q H'
theorem set_both {X : Cx} (hu : X.A.units + 1 < cLine) : PSet X rSet2 := by
  intro pins s σ H o i v ov iv u Q I ro ri rv h
  rcases h with h | ⟨a, H', rfl, g, q⟩
  · exact set_list pins s σ H o i v ov iv u Q I ro ri rv h
  · obtain rfl : ov = Value.ref a := ro
    exact d_setItem hu I g ri rv fun s' I' => ⟨H', I', q⟩
section
variable {K : PySem.W.Frag} {bs : List Nat} {W : Wd} {S S' : Store} {H : L2.Hp} {b : Nat}
/-- what is written stands in the cuts, too -/
theorem cut_ok {n c : Nat} {v : V} {d : D} (hb : ∀ c ∈ bs, c ≤ b) (hc : c ∈ bs) (hn : n < c) (r : Rep K W v d) (h : b ≤ n ∨ d.und 0 = true) : Rep K (W.cut c) v d := by
  rcases h with h | h
  · have := hb c hc
    omega
  · exact r.closed c (D.und_mono (Nat.zero_le c) d h)
theorem cuts_ok {n c : Nat} {v : List V} {d : List D} (hb : ∀ c ∈ bs, c ≤ b) (hc : c ∈ bs) (hn : n < c) (r : RepAll K W v d) (h : b ≤ n ∨ D.undAll 0 d = true) : RepAll K (W.cut c) v d := by
  rcases h with h | h
  · have := hb c hc
    omega
  · exact r.closed c (D.undAll_mono (Nat.zero_le c) d h)
theorem set_rel {o i v : V} {x k d : D} {Q : L2.Hp → Prop} (hb : ∀ c ∈ bs, c ≤ b) (sm : Sim K bs W S H) (ro : Rep K W o x) (ri : Rep K W i k) (rv : Rep K W v d) (h : setAt b x k d S = some S') (hq : ∀ H', Sim K bs W S' H' → Q H') : rSet2 o i v H Q := by
  unfold setAt at h
  cases ro with
  | @ref p n hn =>
    dsimp only at h
    split at h
    · rename_i xs j q
      cases ri with
      | int t =>
        split at h
        · rename_i m q2
          split at h
          · rename_i hc
            cases h
            obtain ⟨p', vs, e, hio, g, r, rc⟩ := sm.lstRef (.ref (K := K) hn) q
            cases e
            refine .inl ⟨_, vs, j, m, rfl, rfl, g, ?_, hq _ (sm.write (o := .lst (xs.set m d)) hn (fun od u e => by rw [g] at e; cases e) ⟨_, upd_same, r.set m rv⟩ fun c hcb hnc => ⟨_, upd_same, (rc c hcb hnc).set m (cut_ok hb hcb hnc rv hc)⟩)⟩
            rw [r.length]
            exact q2
          · cases h
        · cases h
    · rename_i ks xs q
      split at h
      · rename_i kk q2
        split at h
        · rename_i hc
          cases h
          obtain ⟨p', kvs, e, hio, g, hk, r, rc⟩ := sm.dctRef (.ref (K := K) hn) q
          cases e
          subst hk
          have ey : i = kV kk := by
            cases ri with
            | int t => cases q2; rfl
            | str t => cases q2; rfl
            | _ => cases q2
          subst ey
          obtain ⟨h1, h2⟩ := put_rel (d := d) kk rv r
          refine .inr ⟨_, _, rfl, DPut.k g ?_, hq _ (sm.write (o := .dct _ _) hn (fun od u e => by rw [g] at e; cases e) ⟨_, upd_same, h1, h2⟩ fun c hcb hnc => ⟨_, upd_same, h1, (put_rel kk (cut_ok hb hcb hnc rv hc.2) (rc c hcb hnc)).2⟩)⟩
          have := hc.1
          rw [List.length_map] at this
          exact Nat.lt_of_lt_of_le this lim_line
        · cases h
      · cases h
    · cases h
  | _ => cases h
end
theorem isL_ty {K : PySem.W.Frag} {bs : List Nat} {W : Wd} {S : Store} {H : L2.Hp} {o : V} {l : D} (sm : Sim K bs W S H) (ro : Rep K W o l) (h : isL S l = true) : tyV K "list" o H := by
  cases ro with
  | @ref p n hn =>
    unfold isL at h
    dsimp only at h
    split at h
    · rename_i xs q
      obtain ⟨p', vs, e, _, g, _⟩ := sm.lstRef (.ref (K := K) hn) q
      cases e
      exact .inl ⟨rfl, vs, SqL.of g⟩
    · cases h
  | _ => cases h
section
variable {X : Cx} {mg : Str → Option Value} {bs : List Nat} {Ex : XK} {ra rb rc : Env → Store → Res D} {a b c : Expr} {pos pos' : Pos} {n : Nat}
theorem ss_setIx (hb : ∀ c ∈ bs, c ≤ n) (hu : X.A.units + 1 < cLine) (ha : E X mg bs Ex a ra) (ho : E X mg bs Ex b rb) (hi : E X mg bs Ex c rc)
    (hf : ∀ v, assign (.Subscript b c pos') X.env v = (do
      let ov ← holding [v] (eval b X.env)
      let iv ← holding [v, ov] (eval c X.env)
      standAt pos'
      holding [v, ov, iv] (setItem ov iv v)
      release [v, ov, iv] []))
    (hs : swapsWithSole [.Subscript b c pos'] a pos.line X.env = pure false) (hw : swappedStores [.Subscript b c pos'] a X.env = pure none) (h1 : (assignEach [.Subscript b c pos'] X.env).map (·.2) = [assign (.Subscript b c pos') X.env]) :
    SS X mg bs Ex (.Assign [.Subscript b c pos'] a pos) fun ρ S => (ra ρ S).bind fun d S1 => (rb ρ S1).bind fun x S2 => (rc ρ S2).bind fun k S3 => match setAt n x k d S3 with
      | some S4 => .ok (.nx ρ) S4
      | none => .bad :=
  PSimp (ps_asg ha (pg_sub ho hi (set_both hu) hf) hs hw h1) fun D σ H ⟨W, ρ, S, ev, sm, h⟩ => ⟨W, ρ, S, ev, sm, h.bind.imp fun d S1 W1 H1 e1 s1 a1 v rv =>
    ⟨W1, ρ, S1, ev.mono e1, s1, a1.bind.imp fun x S2 W2 H2 e2 s2 a2 o ro => ⟨W2, ρ, S2, ev.mono (e1.trans e2), s2, a2.bind.imp fun k S3 W3 H3 e3 s3 a3 i ri => by
      cases e : setAt n x k d S3 with
      | none => rw [e] at a3; exact a3.elim
      | some S4 =>
        rw [e] at a3
        exact set_rel hb s3 (ro.mono e3) ri (rv.mono (e2.trans e3)) e fun H' s4 => After.now (S := S4) a3 s4 σ (ev.mono ((e1.trans e2).trans e3))⟩⟩⟩
/-- o.append(x) -/
theorem s_app {p : Pos} (hb : ∀ c ∈ bs, c ≤ n) (ho : E X mg bs Ex a ra) (hx : E X mg bs Ex b rb) (h1 : starEach (b :: []) X.env = (false, eval b X.env) :: starEach [] X.env)
    (hbase : attributeBase a "append" X.env (eval a X.env) = eval a X.env)
    (hfew : ((backTo pos (starEach [b] X.env)).all (fun x => !x.1) && (backToKw pos (keywordEach [] X.env)).all (fun x => x.1.isSome) && decide (([b] : List Expr).length + ([] : List Keyword).length + (if ([] : List Keyword).isEmpty then 0 else 1) < 30)) = true)
    (hline : (p.endLine == pos.line) = true) (hpl : (backTo pos (starEach [] X.env)).any (·.1) = false) :
    E X mg bs Ex (.Call (.Attribute a "append" p) [b] [] pos) fun ρ S => (ra ρ S).bind fun l S1 => if isL S1 l then (rb ρ S1).bind fun d S2 => (match l with
      | .ref n' => (match S2[n']? with
        | some (.lst xs) => if xs.length < LIM ∧ (n ≤ n' ∨ d.und 0 = true) then .ok .non (S2.set n' (.lst (xs ++ [d]))) else .bad
        | _ => .bad)
      | _ => .bad) else .bad :=
  PEimp (pe_bm PySem.F.plainAttrs_list PySem.F.slot_list_append PySem.F.type_list_append mt_append ho (pa_cons hx pa_nil h1) hbase hfew hline h1 hpl) fun σ H Q ⟨W, ρ, S, ev, sm, h⟩ => ⟨W, ρ, S, ev, sm, h.bind.imp fun l S1 W1 H1 e1 s1 a1 o ro => by
    by_cases hl : isL S1 l = true
    · rw [if_pos hl] at a1
      refine ⟨isL_ty s1 ro hl, W1, ρ, S1, ev.mono e1, s1, a1.bind.imp fun d S2 W2 H2 e2 s2 a2 v rv => ?_⟩
      have ro2 := ro.mono e2
      cases ro2 with
      | @ref p' n' hn =>
        dsimp only at a2
        cases q : S2[n']? with
        | none => rw [q] at a2; exact a2.elim
        | some ob =>
          rw [q] at a2
          cases ob with
          | dct ks vs => exact a2.elim
          | lck ks vs => exact a2.elim
          | lst xs =>
            dsimp only at a2
            by_cases hc : xs.length < LIM ∧ (n ≤ n' ∨ d.und 0 = true)
            · rw [if_pos hc] at a2
              obtain ⟨p', vs, e, hio, g, r, rc⟩ := s2.lstRef (.ref (K := X.K) hn) q
              cases e
              refine ⟨_, vs, v, rfl, rfl, g, by rw [r.length]; exact lim_line2 hc.1, ?_⟩
              exact After.now (S := S2.set n' (.lst (xs ++ [d]))) a2 (s2.write hn (fun od u e => by rw [g] at e; cases e) ⟨_, upd_same, r.append (.cons rv .nil)⟩ fun c hcb hnc => ⟨_, upd_same, (rc c hcb hnc).append (.cons (cut_ok hb hcb hnc rv hc.2) .nil)⟩) _ .non
            · rw [if_neg hc] at a2
              exact a2.elim
      | _ => exact a2.elim
    · rw [if_neg hl] at a1
      exact a1.elim⟩
/-- {} -/
theorem s_new {md : Bool} : E X mg bs Ex (.Dict [] [] pos) fun _ S => newD md S [] [] :=
  PEimp pe_dnewK fun σ H Q ⟨W, ρ, S, ev, sm, h⟩ p hp => new_dct (kvs := []) sm hp rfl .nil h
/-! ### a clause's tests -/
theorem ts_nil : PTs X [] (tB X.K mg bs Ex fun _ S => .ok true S) := by
  refine ⟨fun pins s σ H Q I ⟨W, ρ, S, ev, sm, h⟩ => pts_nil.run pins s σ H Q I ?_⟩
  exact After.now (S := S) h sm
theorem ts_one (ha : T X mg bs Ex a ra) : PTs X [a] (tB X.K mg bs Ex fun ρ S => (ra ρ S).bind fun x S1 => (lift S1 (truthy S1 x)).bind fun k S2 => if k then .ok true S2 else .ok false S2) := by
  refine ⟨fun pins s σ H Q I h => (pts_one ha).run pins s σ H Q I ?_⟩
  have e : (fun (ρ : Env) (S : Store) => (ra ρ S).bind fun x S1 => (lift S1 (truthy S1 x)).bind fun k S2 => if k then Res.ok true S2 else .ok false S2) = evT ra := by
    funext ρ S
    unfold evT
    congr 1
    funext x S1
    cases truthy S1 x with
    | none => rfl
    | some k => cases k <;> rfl
  rw [e] at h
  exact h
end
end Pv

/-! try with several clauses, each with a name or passed by. -/
namespace Pv
open PySem L2 PySem.Spec PyProof.Rows
/-- behind a clause with a name -/
def gone (i : Nat) (D : Ends) : Ends := ⟨fun σ H => D.nx (σ.set i none) H, D.rt, fun σ H => D.bk (σ.set i none) H, fun σ H => D.ct (σ.set i none) H⟩
abbrev Cl := Value × Option (Nat × (Addr → Value → Option Addr → TS))
/-- what the clauses wish of an error -/
def wA (K : PySem.W.Frag) (Wo : WX) (D : Ends) : List Cl → WX
  | [] => Wo
  | (c, o) :: r => fun cls d σ H => (PySem.W.exmOne K cls c = some false ∧ wA K Wo D r cls d σ H) ∨
      ∃ i ts, o = some (i, ts) ∧ PySem.W.exmOne K cls c = some true ∧ ∀ a, H a = none → ts a cls d (gone i D) (σ.set i (some (.ref a))) H
/-- the suite of a clause keeps its reading -/
abbrev SuOk (X : Cx) (st : List Stmt) (ts : Addr → Value → Option Addr → TS) : Prop := ∀ (x : Addr) (ob : Obj) (cls : Value) (d : Option Addr) (pl : List (Addr × Obj)), Zc cls d ob → (∃ vs, ob.data = .fields vs) → PSs (X.suite x ((x, ob) :: pl)) st (ts x cls d)
inductive HdsA (X : Cx) : List ExceptHandler → List Cl → Prop
  | nil : HdsA X [] []
  | skip {x : Str} {c : Value} {nm : Option Str} {st : List Stmt} {p q : Pos} {hs : List ExceptHandler} {l : List Cl} (hc : Names X x c) (r : HdsA X hs l) : HdsA X (.ExceptHandler (some (.Name x p)) nm st q :: hs) ((c, none) :: l)
  | take {x n : Str} {c : Value} {i : Nat} {ts : Addr → Value → Option Addr → TS} {b : Stmt} {st : List Stmt} {p q : Pos} {hs : List ExceptHandler} {l : List Cl} (hc : Names X x c) (hi : X.N[i]? = some n) (hln : X.env.kindOf n = some .local)
      (su : SuOk X (b :: st) ts) (r : HdsA X hs l) : HdsA X (.ExceptHandler (some (.Name x p)) (some n) (b :: st) q :: hs) ((c, some (i, ts)) :: l)
section
variable {X : Cx} {pins : List (Addr × Obj)} {σ : L2.St} {H : L2.Hp}
/-- an error stands on the ground: it is looked at by the clauses -/
structure Landed (X : Cx) (B : Heap) (a : Addr) (cls : Value) (d : Option Addr) (pins : List (Addr × Obj)) (σ : L2.St) (H : L2.Hp) (sI s : Shared) (h : Heap) : Prop where
  J : Inv X pins σ H sI
  nb : ∀ b o, sI.heap.get? b = some o → b ∉ frs X.stack → B.get? b = some o
  up : sI.heap.UpToSlots h
  fl : HandSPX.FlyingZ B (X.env :: X.outer) a (Zc cls d) h
  na : H a = none
  os : s.os = sI.os
  ag : AllBare s.gens
theorem Landed.at {B : Heap} {a : Addr} {cls : Value} {d : Option Addr} {sI s : Shared} {h : Heap} (L : Landed X B a cls d pins σ H sI s h) (hf : X.env.frame = some X.env.locals) :
    ∃ ob, h.get? a = some ob ∧ Zc cls d ob ∧ (∃ vs, ob.data = .fields vs) ∧ a ∉ frs (X.env :: X.outer) ∧ a ≠ X.env.locals ∧ a ∉ X.fs := by
  obtain ⟨ob, vs, g, z, dd⟩ := L.fl.there
  have nf : a ∉ frs (X.env :: X.outer) := fun m => by
    obtain ⟨_, o2, g2, w⟩ := L.fl.2.2.1.mem m
    rw [g] at g2
    cases g2
    exact w _ dd
  refine ⟨ob, g, z, ⟨vs, dd⟩, nf, fun e => nf (List.mem_filterMap.mpr ⟨X.env, .head _, by rw [hf, e]⟩), fun m => ?_⟩
  obtain ⟨e, m1, m2⟩ := List.mem_filterMap.mp m
  exact nf (List.mem_filterMap.mpr ⟨e, .tail _ m1, m2⟩)
theorem Landed.inv {B : Heap} {a : Addr} {cls : Value} {d : Option Addr} {sI s : Shared} {h : Heap} (L : Landed X B a cls d pins σ H sI s h) : Inv X pins σ H { s with heap := h } := L.J.landed L.nb L.fl.1 L.up L.os L.ag
/-- the class of a clause is looked at -/
theorem Landed.look {B : Heap} {a : Addr} {cls c : Value} {d : Option Addr} {sI s : Shared} {h : Heap} {x : Str} {p : Pos} {k : Bool} {R : Bool → Shared → Prop} {E E2 : Value → Shared → Prop} (L : Landed X B a cls d pins σ H sI s h) (hf : X.env.frame = some X.env.locals) (hc : Names X x c) (m : PySem.W.exmOne X.K cls c = some k) (q : R k { s with heap := h }) :
    wpAny (model X.prog X.w) (X.A.mark (some (.ref a))) (eval (.Name x p) X.env) (fun c s1 => wpAny (model X.prog X.w) (X.A.mark (some (.ref a))) (excMatches (.ref a) c) R E2 s1) E { s with heap := h } := by
  obtain ⟨ob, g, z, ⟨vs, dd⟩, nf, nL, nF⟩ := L.at hf
  have S := L.inv.suite g dd L.na nL nF
  have ty : PySem.W.Looks (model X.prog X.w) h (typeOf (.ref a)) cls := fun A Q E s2 k q => wpAny_typeOf_ref (k _ _ g) (by rw [z.1]; exact q)
  have fin : wpAny (model X.prog X.w) (X.A.mark (some (.ref a))) (excMatches (.ref a) c) R E2 { s with heap := h } := (PySem.W.exm_one (M := model X.prog X.w) L.inv.kIn ty m).here q
  obtain ⟨hg, hd, hm | ⟨hm, hv, hn⟩⟩ := hc
  · exact ld_glob (X := X.suite a ((a, ob) :: (X.pn ++ pins))) S hg hm fin hd
  · exact ld_blt (X := X.suite a ((a, ob) :: (X.pn ++ pins))) S hg hm hv fin hn hd
/-- the clauses, one after another -/
theorem clauses_ok {B : Heap} {a : Addr} {cls : Value} {d : Option Addr} {sI s : Shared} {D : Ends} {Wo : WX} (hs : X.stack = X.env :: X.outer) (hf : X.env.frame = some X.env.locals) (hN : X.N.Nodup) (tk : Takes X Wo)
    {hds : List ExceptHandler} {l : List Cl} (hh : HdsA X hds l) : ∀ (h : Heap), Landed X B a cls d pins σ H sI s h → wA X.K Wo D l cls d σ H → wpAny (model X.prog X.w) X.A (handleBy (.ref a) X.env hds) (SP X pins D) X.xe { s with heap := h } := by
  induction hh with
  | nil =>
    intro h L w
    obtain ⟨_, _, _, ob, vs, T, oT, ts, g, z, dd, f1, _⟩ := id L.fl
    have thr : wpAny (model X.prog X.w) X.A (setFlight (.ref a) X.env.frame) (fun _ s4 => wpAny (model X.prog X.w) X.A (throw (.ref a) : Sem Flow) (SP X pins D) X.xe s4) X.xe { s with heap := h } := by
      rw [hf]
      exact HandSPX.setFlight_upZ L.fl fun h4 held up4 => wpAny_throw (tk _ _ ⟨a, B, sI, pins, σ, H, cls, d, rfl, L.J, L.nb, L.up.trans up4, .inr (.inr (hs ▸ held)), L.na, L.os, L.ag, w⟩)
    refine wpAny_handleBy_nil ?_
    unfold PySem.passOn
    refine wpAny_bind (wpAny_field g dd f1 ?_)
    rw [if_neg (show ¬ (Value.ref T == .none) = true by simp)]
    first
      | exact wpAny_bind (wpAny_pure (wpAny_bind thr))
      | exact wpAny_bind thr
  | @skip x c nm st p q hds l hc r ih =>
    intro h L w
    rcases w with ⟨no, w⟩ | ⟨_, _, e, _⟩
    · refine wpAny_handleBy_cons (codeAny_handlers_test (L.look hf hc no ?_)) (by intro q; cases q)
      exact ih h L w
    · cases e
  | @take x n c i ts b st p q hds l hc hi hln su r ih =>
    intro h L w
    rcases w with ⟨no, w⟩ | ⟨_, _, e, yes, w⟩
    · refine wpAny_handleBy_cons (codeAny_handlers_test (L.look hf hc no ?_)) (by intro q; cases q)
      exact ih h L w
    · cases e
      refine wpAny_handleBy_cons (codeAny_handlers_test (L.look hf hc yes ?_)) (by intro q; cases q)
      refine codeAny_handlers_suite_as (HandSPX.lands_againZ L.fl fun h2 fl2 up2 => ?_)
      have L2' : Landed X B a cls d pins σ H sI s h2 := ⟨L.J, L.nb, L.up.trans up2, fl2, L.na, L.os, L.ag⟩
      obtain ⟨ob, g, z, ⟨vs, dd⟩, nf, nL, nF⟩ := L2'.at hf
      have S := L2'.inv.suite g dd L.na nL nF
      refine store_ok (X := X.suite a ((a, ob) :: (X.pn ++ pins))) (v := .ref a) S hN hi (.inl hln) rfl (fun s5 S5 => ?_) (.inr hln)
      have fin : ∀ {σ6 : L2.St} {H6 : L2.Hp} {s6 : Shared} {G : Shared → Prop}, Inv (X.suite a ((a, ob) :: (X.pn ++ pins))) [] σ6 H6 s6 → (∀ s7, Inv X pins (σ6.set i none) H6 s7 → G s7) →
          wpAny (model X.prog X.w) X.A (do bindName X.env n .none; unbindBehindTheSuite X.env n q) (fun _ s7 => G s7) X.xe s6 := fun S6 k => gone_ok (S6.unsuite L.J.ok) hN hi hln k
      refine wpAny_mono ((su a ob cls d (X.pn ++ pins) z ⟨vs, dd⟩).run [] s5 _ H _ S5 (w a L.na)) (fun f s6 e => ?_) fun _ _ z => z.elim
      cases f with
      | ret u =>
        obtain ⟨v, σ6, H6, S6, rv, q6⟩ := e
        exact fin S6 fun s7 J7 => ⟨v, _, H6, J7, rv, q6⟩
      | next =>
        obtain ⟨σ6, H6, S6, q6⟩ := e
        exact fin S6 fun s7 J7 => ⟨_, H6, J7, q6⟩
      | brk =>
        obtain ⟨σ6, H6, S6, q6⟩ := e
        exact fin S6 fun s7 J7 => ⟨_, H6, J7, q6⟩
      | cont =>
        obtain ⟨σ6, H6, S6, q6⟩ := e
        exact fin S6 fun s7 J7 => ⟨_, H6, J7, q6⟩
/-- try: .. except C as e: .. except .. -/
theorem ps_tryA {body : List Stmt} {h0 : ExceptHandler} {hds : List ExceptHandler} {l : List Cl} {pos : Pos} {tb : WX → TS} {Wo : WX} (hs : X.stack = X.env :: X.outer) (hf : X.env.frame = some X.env.locals) (hN : X.N.Nodup) (tk : Takes X Wo)
    (hb : ∀ (W : WX) (pl : List (Addr × Obj)) (xe : Value → Shared → Prop), Takes (X.tr pl xe) W → PassesOwn (model X.prog X.w) X.A X.env xe → PSs (X.tr pl xe) body (tb W)) (hh : HdsA X (h0 :: hds) l) :
    PS X (.Try body (h0 :: hds) [] [] pos) fun D σ H => tb (wA X.K Wo D l) D σ H := by
  refine ⟨fun pins s σ H D I h => wpAny_Try_except ?_⟩
  have ok := I.ok
  have hfr : X.A.frames = some (X.env :: X.outer) := hs ▸ ok.frames
  refine wpAny_mono ((hb (wA X.K Wo D l) (X.pn ++ pins) (fun e s₁ => wpAny (model X.prog X.w) X.A (noteFrame e X.env) (fun _ s₂ => wpAny (model X.prog X.w) X.A (setFlight e none) (fun _ s₃ =>
    wpAny (model X.prog X.w) X.A (handleBy e X.env (h0 :: hds)) (SP X pins D) X.xe s₃) X.xe s₂) X.xe s₁) (fun u s' e => ?_) PassesOwn.looking).run [] s σ H D (I.toTry _) h) (fun f s1 e => ?_) fun e s1 z => z
  · obtain ⟨a, B, sI, pl, σ', H', cls, d, rfl, J, nb, up, sky, na, os, ag, w⟩ := e
    refine Sky.land Zc.steady hfr hf (hs ▸ sky : Sky B (X.env :: X.outer) a (Zc cls d) X.env.locals s'.heap) fun h3 fl3 up3 => ?_
    exact clauses_ok hs hf hN tk hh h3 ⟨J.ofTry ok, nb, up.trans up3, fl3, na, os, ag⟩ w
  · cases f with
    | next =>
      obtain ⟨σ', H', J, q⟩ := e
      exact wpAny_execs_nil ⟨σ', H', J.ofTry ok, q⟩
    | ret u =>
      obtain ⟨v, σ', H', J, rv, q⟩ := e
      exact ⟨v, σ', H', J.ofTry ok, rv, q⟩
    | brk =>
      obtain ⟨σ', H', J, q⟩ := e
      exact ⟨σ', H', J.ofTry ok, q⟩
    | cont =>
      obtain ⟨σ', H', J, q⟩ := e
      exact ⟨σ', H', J.ofTry ok, q⟩
end
end Pv

/-! Errors: made, raised, caught. -/
namespace Pv
open PySem L2 PySem.Spec PyProof.Rows
/-- what is known stays where more is laid -/
theorem Sim.more {K : PySem.W.Frag} {bs : List Nat} {W : Wd} {S : Store} {H H' : L2.Hp} (s : Sim K bs W S H) (e : ∀ b, H b ≠ none → H' b = H b) : Sim K bs W S H' := by
  refine ⟨fun a o q => (s.fz a o q).same (e a (s.fz a o q).there), s.dom, s.inj, s.bsz, fun a o q => ?_, fun n o q => ?_⟩
  · obtain ⟨h1, h2, h3⟩ := s.held a o q
    exact ⟨(e a (by rw [h1]; exact fun z => nomatch z)).trans h1, h2, h3⟩
  · obtain ⟨a, h1, h2, h3, h4⟩ := s.live n o q
    exact ⟨a, h1, h2, h3.mono' (e a h3.there), fun c hc hn => (h4 c hc hn).mono' (e a h3.there)⟩
/-- __init__(self, given): the field is stored -/
def initSp (C : Addr) (f : Str) : Sp := fun vs H Q _ => ∃ a v, vs = [.ref a, v] ∧ H a = some (exo a C none) ∧ ∀ d, H d = none → d ≠ a → Q .non (upd (upd H d (exd d [(f, v)])) a (exo a C (some d)))
section
variable {X : Cx} {mg : Str → Option Value} {bs : List Nat} {Ex : XK} {ra : Env → Store → Res D} {a e : Expr} {es : List Expr} {pos p p1 p2 : Pos} {x : Str} {k : Nat}
/-- Base.__init__(self, ..) of an own class that has it from ValueError -/
theorem pe_bInit {B : Addr} {mc : Value} {ta : TA} {pl : Sem Bool} (hg : Gl X x) (hm : X.mg x = some (.ref B)) (hd : (x == ("__debug__" : Str)) = false) (r : ClX.CRead X.K B mc) (fi : PySem.W.findCls X.K (.ref B) mc "__init__" = some (.val (.builtin "ValueError.__init__"))) (ha : PA X (e :: es) ta)
    (hc : eval (.Call (.Attribute (.Name x p1) "__init__" p2) (e :: es) [] pos) X.env = (do
      let ov ← eval (.Name x p1) X.env
      standAt p2.atName
      let (g, first) ← holding [ov] (getMethod ov "__init__" pl)
      callWith pos g first (backTo pos (starEach (e :: es) X.env)) (backToKw pos (keywordEach [] X.env))))
    (he : starEach (e :: es) X.env = (false, eval e X.env) :: starEach es X.env) (hpl : (backTo pos (starEach es X.env)).any (·.1) = false) :
    PE X (.Call (.Attribute (.Name x p1) "__init__" p2) (e :: es) [] pos) (tVeI X.K ta) := by
  refine ⟨fun pins s σ H Q I h => PySem.W.methodCall_KW (ld_glob I hg hm ?_ hd) hc⟩
  refine PySem.W.method_cls I.kIn r.ga (PySem.W.cls_value I.kIn r.rd fi (by decide +kernel) ?_)
  show wpAny _ _ (callWith pos (Value.builtin "ValueError.__init__") [] (backTo pos (starEach (e :: es) X.env)) []) _ _ _
  refine PyProof.Rows.callWith_method1 (thn (ha.run pos pins _ σ H _ (I.tok _) h) fun us s1 ⟨vs, H1, I1, r1, a, C, ws, ev, hl, T, ea, q⟩ => ?_) he hpl
  subst ev
  cases r1 with
  | @cons _ u0 _ ur ra rw' =>
    obtain rfl : u0 = Value.ref a := ra
    exact oinit_ok T I1 ea (by rw [← Paired.length rw', sizeLine_eq]; omega) fun s' J => ⟨.non, H1, J, rfl, q⟩
/-- an own error class: one attribute, stored by its __init__ -/
structure ClAt (P : Program) (w : World) (K : PySem.W.Frag) (mg : Str → Option Value) (base : Heap) (k : Nat) (x f : Str) where
  C : Addr
  fI : Addr
  fd : FuncData
  ps : List Str
  hm : mg x = some (.ref C)
  T : OexC K C
  iC : PySem.W.findIn K (.ref C) "__init__" = some (some (.ref fI))
  tI : PySem.W.typeIn K (.ref fI) = some (.type "function")
  hb : Binds K fd ps []
  ok : FnOk P w K mg base (L2.CX P w) k fI fd ps (initSp C f)
theorem ss_raise {f : Str} (F : ClAt X.prog X.w X.K X.mg X.base k x f) (hc : X.calm = true) (hr : Room (k + 1) X.A) (tk : Takes X fun c d _ H => Ex c d H) (hg : Gl X x) (hdb : (x == ("__debug__" : Str)) = false) (ha : E X X.mg bs Ex a ra)
    (he : starEach (a :: []) X.env = (false, eval a X.env) :: starEach [] X.env) (hpl : (backTo p (starEach [] X.env)).any (·.1) = false) :
    SS X X.mg bs Ex (.Raise (some (.Call (.Name x p1) [a] [] p)) none pos) fun ρ S => (ra ρ S).bind fun d S1 => .exc ⟨x, [(f, d)]⟩ S1 := by
  refine PSimp (ps_raise hc tk (pmk_oex (dvs := []) (ds := []) F.T F.iC F.tI F.ok hr F.hb .nil (passes_call (E := fun _ _ _ => False) tk fun _ _ _ _ h => h.elim) hg F.hm (pa_cons ha pa_nil he) hdb he hpl)) fun D σ H ⟨W, ρ, S, ev, sm, h⟩ => ⟨W, ρ, S, ev, sm, h.bind.imp fun d S1 W1 H1 e1 s1 a1 v rv => ?_⟩
  refine ⟨Nat.le_of_ble_eq_true rfl, fun q hq => ⟨q, v, rfl, upd_same, fun dx hdx hne => ⟨rfl, dx, [(f, v)], upd_same, ?_, ?_, ?_⟩⟩⟩
  · rw [upd_ne hne, upd_same]
  · rw [upd_ne hne] at hdx
    exact hdx
  · rw [upd_ne hne] at hdx
    have s2 : Sim X.K bs W1 S1 (upd (del (upd (upd (upd H1 q (exo q F.C none)) dx (exd dx [(f, v)])) q (exo q F.C (some dx))) q) dx (.xd [(f, v)])) := s1.more fun b hb => by
      have b1 : b ≠ dx := fun z => hb (by rw [z]; exact hdx)
      have b2 : b ≠ q := fun z => hb (by rw [z]; exact hq)
      rw [upd_ne b1, del_ne b2, upd_ne b2, upd_ne b1, upd_ne b2]
    exact a1 W1 _ (Ext.refl _) s2 _ _ ⟨F.C, F.hm, rfl, .inr ⟨f, d, v, dx, rfl, rfl, upd_same, rv⟩⟩
end
/-! ### clauses -/
section
variable {X : Cx} {mg : Str → Option Value} {bs : List Nat} {cx : Str} {i : Nat} {a C : Addr} {oe : Obj} {cls : Value} {d : Option Addr} {pl : List (Addr × Obj)} {es : List Expr} {pos p : Pos} {parts : List Hp}
/-- the parts of an answer, from the caught error -/
def tPa (K : PySem.W.Frag) (mg : Str → Option Value) (bs : List Nat) (cx : Str) (i : Nat) (parts : List Hp) (a : Addr) (cls : Value) (d : Option Addr) : TA := fun σ H Q =>
  ∃ W S x ds, Sim K bs W S H ∧ x.cls = cx ∧ RepX K mg W H x cls d ∧ σ[i]? = some (some (.ref a)) ∧ partsOf x parts = some ds ∧ ∀ vs, RepAll K W vs ds → Q vs H
def tCl (K : PySem.W.Frag) (mg : Str → Option Value) (bs : List Nat) (cx : Str) (i : Nat) (asl : Bool) (parts : List Hp) (a : Addr) (cls : Value) (d : Option Addr) : TS := fun D σ H =>
  ∃ W S x ds, Sim K bs W S H ∧ x.cls = cx ∧ RepX K mg W H x cls d ∧ σ[i]? = some (some (.ref a)) ∧ partsOf x parts = some ds ∧ ∀ W' H' v, Ext W W' → Sim K bs W' S H' → Rep K W' v (if asl then .lst ds else .tup ds) → D.rt v H'
theorem parts_cons {x : Exn} {q : Hp} {r : List Hp} {ds : List D} (h : partsOf x (q :: r) = some ds) : ∃ d es, q.val x = some d ∧ partsOf x r = some es ∧ ds = d :: es := by
  unfold partsOf at h
  split at h
  · rename_i d es h1 h2
    cases h
    exact ⟨d, es, h1, h2, rfl⟩
  · cases h
theorem cl_nil : PA X [] (tPa X.K mg bs cx i [] a cls d) := PAimp pa_nil fun σ H Q ⟨W, S, x, ds, sm, ec, rx, ei, ep, q⟩ => by
  cases ep
  exact q [] .nil
theorem cl_str {z : Str} {j} (h : PA X es (tPa X.K mg bs cx i parts a cls d)) (hs : starEach (.Constant (.str z) j pos :: es) X.env = (false, eval (.Constant (.str z) j pos) X.env) :: starEach es X.env) :
    PA X (.Constant (.str z) j pos :: es) (tPa X.K mg bs cx i (.str z :: parts) a cls d) := PAimp (pa_cons pe_str h hs) fun σ H Q ⟨W, S, x, ds, sm, ec, rx, ei, ep, q⟩ => by
  obtain ⟨d1, es1, h1, h2, rfl⟩ := parts_cons ep
  cases h1
  exact ⟨W, S, x, es1, sm, ec, rx, ei, h2, fun vs r => q _ (.cons (.str z) r)⟩
theorem cl_non {j} (h : PA X es (tPa X.K mg bs cx i parts a cls d)) (hs : starEach (.Constant .none j pos :: es) X.env = (false, eval (.Constant .none j pos) X.env) :: starEach es X.env) :
    PA X (.Constant .none j pos :: es) (tPa X.K mg bs cx i (.non :: parts) a cls d) := PAimp (pa_cons pe_non h hs) fun σ H Q ⟨W, S, x, ds, sm, ec, rx, ei, ep, q⟩ => by
  obtain ⟨d1, es1, h1, h2, rfl⟩ := parts_cons ep
  cases h1
  exact ⟨W, S, x, es1, sm, ec, rx, ei, h2, fun vs r => q _ (.cons .non r)⟩
theorem cl_fld {n f : Str} (T : XfC X.K C) (hno : PySem.W.findIn X.K (.ref C) f = some none) (hC : mg cx = some (.ref C)) (hz : Zc cls d oe) (hf : ∃ vs, oe.data = .fields vs) (he : PE (X.suite a ((a, oe) :: pl)) (.Name n p) (tVar i))
    (hb : attributeBase (.Name n p) f X.env (eval (.Name n p) X.env) = eval (.Name n p) X.env) (h : PA (X.suite a ((a, oe) :: pl)) es (tPa X.K mg bs cx i parts a cls d)) (hs : starEach (.Attribute (.Name n p) f pos :: es) X.env = (false, eval (.Attribute (.Name n p) f pos) X.env) :: starEach es X.env) :
    PA (X.suite a ((a, oe) :: pl)) (.Attribute (.Name n p) f pos :: es) (tPa X.K mg bs cx i (.fld f :: parts) a cls d) := PAimp (pa_cons (pe_xf T hno hz hf he hb) h hs) fun σ H Q ⟨W, S, x, ds, sm, ec, rx, ei, ep, q⟩ => by
  obtain ⟨d1, es1, h1, h2, rfl⟩ := parts_cons ep
  obtain ⟨C', m1, m2, m3⟩ := id rx
  rw [ec, hC] at m1
  cases m1
  refine ⟨_, ei, rfl, m2, ?_⟩
  rcases m3 with ⟨m3, _⟩ | ⟨f', d', v', e', g1, g2, g3, g4⟩
  · unfold Hp.val at h1
    dsimp only at h1
    rw [m3] at h1
    cases h1
  · unfold Hp.val at h1
    dsimp only at h1
    rw [g1, List.lookup_cons] at h1
    cases hff : f == f' with
    | false => rw [hff] at h1; cases h1
    | true =>
      rw [hff] at h1
      cases h1
      refine ⟨e', [(f', v')], v', g2, g3, by rw [List.lookup_cons, hff], W, S, x, es1, sm, ec, rx, ei, h2, fun vs r => q _ (.cons g4 r)⟩
theorem parts_len {x : Exn} : ∀ {parts : List Hp} {ds : List D}, partsOf x parts = some ds → ds.length = parts.length
  | [], ds, h => by cases h; rfl
  | q :: r, ds, h => by
    obtain ⟨d, es, h1, h2, rfl⟩ := parts_cons h
    rw [List.length_cons, List.length_cons, parts_len h2]
theorem cl_retL {p2} (hl : parts.length ≤ LIM) (h : PA X es (tPa X.K mg bs cx i parts a cls d)) : PSs X [.Return (some (.List es p)) p2] (tCl X.K mg bs cx i true parts a cls d) :=
  PSsimp (pss_one (ps_ret (pe_lst h))) fun D σ H ⟨W, S, x, ds, sm, ec, rx, ei, ep, q⟩ => ⟨W, S, x, ds, sm, ec, rx, ei, ep, fun vs r => ⟨by rw [r.length, parts_len ep]; exact le_line hl, fun p hp => q _ _ _ (addF_ext (sm.fzNone hp)) (sm.newF hp (.lst vs)) (.lst (.inl addF_self) (r.mono (addF_ext (sm.fzNone hp))))⟩⟩
/-! ### try -/
/-- the clauses and what the evaluator knows of them -/
inductive HdsE (X : Cx) (bs : List Nat) : List ExceptHandler → List Hd → List Cl → Prop
  | nil : HdsE X bs [] [] []
  | skip {x cx : Str} {oth : List Str} {c : Value} {nm : Option Str} {st : List Stmt} {p q : Pos} {hs : List ExceptHandler} {l : List Hd} {m : List Cl} (hc : Names X x c) (hx : ∀ y ∈ oth, ∀ C, X.mg y = some (.ref C) → PySem.W.exmOne X.K (.ref C) c = some false)
      (r : HdsE X bs hs l m) : HdsE X bs (.ExceptHandler (some (.Name x p)) nm st q :: hs) (⟨cx, oth, none⟩ :: l) ((c, none) :: m)
  | take {x cx n : Str} {oth : List Str} {C : Addr} {i : Nat} {asl : Bool} {parts : List Hp} {b : Stmt} {st : List Stmt} {p q : Pos} {hs : List ExceptHandler} {l : List Hd} {m : List Cl} (hc : Names X x (.ref C)) (hC : X.mg cx = some (.ref C)) (self : PySem.W.exmOne X.K (.ref C) (.ref C) = some true)
      (hx : ∀ y ∈ oth, ∀ C', X.mg y = some (.ref C') → PySem.W.exmOne X.K (.ref C') (.ref C) = some false) (hi : X.N[i]? = some n) (hln : X.env.kindOf n = some .local) (su : SuOk X (b :: st) (tCl X.K X.mg bs cx i asl parts))
      (r : HdsE X bs hs l m) : HdsE X bs (.ExceptHandler (some (.Name x p)) (some n) (b :: st) q :: hs) (⟨cx, oth, some (asl, parts)⟩ :: l) ((.ref C, some (i, tCl X.K X.mg bs cx i asl parts)) :: m)
theorem HdsE.toA {hs : List ExceptHandler} {l : List Hd} {m : List Cl} (h : HdsE X bs hs l m) : HdsA X hs m := by
  induction h with
  | nil => exact .nil
  | skip hc hx r ih => exact .skip hc ih
  | take hc hC self hx hi hln su r ih => exact .take hc hi hln su ih
theorem wish_of {Ex : XK} {D : Ends} {hs : List ExceptHandler} {l : List Hd} {m : List Cl} (hh : HdsE X bs hs l m) {W W' : Wd} {S : Store} {x : Exn} {H : L2.Hp} {c : Value} {dc : Option Addr} {σ : L2.St} (e : Ext W W') (sm : Sim X.K bs W' S H) (rx : RepX X.K X.mg W' H x c dc) (hl : σ.length = X.N.length) :
    After X.K bs (EXx X.K X.mg Ex) W (handle x S l) (fun f _ W' H' => FlQ X.K D f W' H') → wA X.K (fun c d _ H => Ex c d H) D m c dc σ H := by
  induction hh with
  | nil => exact fun h => h W' H e sm c dc rx
  | @skip y cx oth c' nm st p q hs l m hc hx r ih =>
    intro h
    unfold handle at h
    dsimp only at h
    split at h
    · exact h.elim
    · split at h
      · rename_i hin
        refine .inl ⟨?_, ih h⟩
        obtain ⟨C, m1, rfl, _⟩ := id rx
        exact hx _ hin C m1
      · exact h.elim
  | @take y cx n oth C i asl parts b st p q hs l m hc hC self hx hi hln su r ih =>
    intro h
    unfold handle at h
    dsimp only at h
    split at h
    · rename_i ec
      cases ep : partsOf x parts with
      | none => rw [ep] at h; exact h.elim
      | some ds =>
        rw [ep] at h
        refine .inr ⟨i, _, rfl, ?_, fun a ha => ⟨W', S, x, ds, sm, ec.symm, rx, ?_, ep, fun W2 H2 v e2 s2 r2 => h W2 H2 (e.trans e2) s2 v r2⟩⟩
        · obtain ⟨C', m1, rfl, _⟩ := id rx
          rw [← ec, hC] at m1
          cases m1
          exact self
        · rw [List.getElem?_set_self (by rw [hl]; exact (List.getElem?_eq_some_iff.mp hi).1)]
    · split at h
      · rename_i hin
        refine .inl ⟨?_, ih h⟩
        obtain ⟨C', m1, rfl, _⟩ := id rx
        exact hx _ hin C' m1
      · exact h.elim
theorem ss_try {Ex : XK} {body : List Stmt} {rb : Env → Store → Res Fl} {h0 : ExceptHandler} {hs : List ExceptHandler} {l : List Hd} {m : List Cl} (hst : X.stack = X.env :: X.outer) (hf : X.env.frame = some X.env.locals) (hN : X.N.Nodup) (tk : Takes X fun c d _ H => Ex c d H) (hh : HdsE X bs (h0 :: hs) l m)
    (hb : ∀ (Ex' : XK) (pl : List (Addr × Obj)) (xe : Value → Shared → Prop), Takes (X.tr pl xe) (fun c d _ H => Ex' c d H) → PassesOwn (model X.prog X.w) X.A X.env xe → SSs (X.tr pl xe) X.mg bs Ex' body rb) :
    SS X X.mg bs Ex (.Try body (h0 :: hs) [] [] pos) fun ρ S => match rb ρ S with
      | .exc x S1 => handle x S1 l
      | r => r :=
  PSimp (ps_tryA (tb := fun W => tS X.K X.mg bs (fun c d H => ∀ σ : L2.St, σ.length = X.N.length → W c d σ H) rb) hst hf hN tk (fun W pl xe tk' po => hb _ pl xe (fun u s' ⟨a, B, sI, pins, σ, H, cls, d, e, I, nb, up, sky, na, os, ag, w⟩ => tk' u s' ⟨a, B, sI, pins, σ, H, cls, d, e, I, nb, up, sky, na, os, ag, w σ I.len⟩) po) hh.toA)
    fun D σ H ⟨W, ρ, S, ev, sm, h⟩ => ⟨W, ρ, S, ev, sm, by
      dsimp only at h
      cases e : rb ρ S with
      | ok f S1 => rw [e] at h; exact h
      | bad => rw [e] at h; exact h
      | exc x S1 =>
        rw [e] at h
        exact fun W' H' ex s1 c dc rx σ' hl => wish_of hh ex s1 rx hl h⟩
end
end Pv

/-! Defs: the objects that a call leaves stay as values. -/
namespace Pv
open PySem L2 PySem.Spec PyProof.Rows
section
variable {K : PySem.W.Frag} {bs : List Nat} {W W' : Wd} {S : Store} {H : L2.Hp} {b : Nat}
def fzOf : HO → Option FO
  | .lst vs => some (.lst vs)
  | .dK kvs => some (.dct kvs)
  | _ => none
open Classical in
/-- the world behind a call that began at b -/
noncomputable def Wd.freeze (W : Wd) (H : L2.Hp) (b : Nat) : Wd :=
  ⟨fun a => match W.fz a with
    | some o => some o
    | none => if ∃ n, b ≤ n ∧ W.io n = some a then (H a).bind fzOf else none, fun n => if n < b then W.io n else none, W.hd⟩
theorem freeze_old {a : Addr} {o : FO} (h : W.fz a = some o) : (W.freeze H b).fz a = some o := by
  show (match W.fz a with
    | some o => some o
    | none => _) = some o
  rw [h]
theorem freeze_new {n : Nat} {a : Addr} (h : W.fz a = none) (hn : b ≤ n) (hi : W.io n = some a) : (W.freeze H b).fz a = (H a).bind fzOf := by
  show (match W.fz a with
    | some o => some o
    | none => _) = _
  rw [h]
  dsimp only
  rw [if_pos ⟨n, hn, hi⟩]
theorem freeze_not {a : Addr} (h : W.fz a = none) (hi : ∀ n, b ≤ n → W.io n ≠ some a) : (W.freeze H b).fz a = none := by
  show (match W.fz a with
    | some o => some o
    | none => _) = _
  rw [h]
  dsimp only
  rw [if_neg (fun ⟨n, h1, h2⟩ => hi n h1 h2)]
theorem freeze_io {n : Nat} (h : n < b) : (W.freeze H b).io n = W.io n := if_pos h
theorem freeze_cut : Mo (W.cut b) (W.freeze H b) := ⟨fun a o h => freeze_old h, fun n a h => h, fun a o h _ => h⟩
/-- the store without the objects from b on -/
theorem Sim.freeze (s : Sim K (b :: bs) W S H) (hb : ∀ c ∈ bs, c ≤ b) : Sim K bs (W.freeze H b) (S.take b) H := by
  have hbl : b ≤ S.length := s.bsz b (.head _)
  have lt : (S.take b).length = b := by rw [List.length_take]; omega
  refine ⟨fun a o q => ?_, fun n a q => ?_, fun n m a q1 q2 => ?_, fun c hc => by rw [lt]; exact hb c hc, fun a o q => ?_, fun n o q => ?_⟩
  · cases e : W.fz a with
    | some o' =>
      rw [freeze_old e] at q
      cases q
      exact s.fz a _ e
    | none =>
      by_cases hx : ∃ n, b ≤ n ∧ W.io n = some a
      · obtain ⟨n, h1, h2⟩ := hx
        rw [freeze_new e h1 h2] at q
        cases g : H a with
        | none => rw [g] at q; cases q
        | some u =>
          rw [g] at q
          cases u with
          | lst vs => cases q; exact .inl g
          | dK kvs => cases q; exact g
          | _ => cases q
      · rw [freeze_not e fun n h1 h2 => hx ⟨n, h1, h2⟩] at q
        cases q
  · rw [lt]
    by_cases h : n < b
    · exact h
    · have q' : (if n < b then W.io n else none) = some a := q
      rw [if_neg h] at q'
      cases q'
  · have z : ∀ {n a}, (W.freeze H b).io n = some a → n < b ∧ W.io n = some a := fun {n a} q => by
      have q' : (if n < b then W.io n else none) = some a := q
      by_cases h : n < b
      · rw [if_pos h] at q'
        exact ⟨h, q'⟩
      · rw [if_neg h] at q'
        cases q'
    exact s.inj n m a (z q1).2 (z q2).2
  · obtain ⟨h1, h2, h3⟩ := s.held a o q
    refine ⟨h1, ?_, h3.imp id fun h3 n q => ?_⟩
    · rcases h3 with ⟨od, u, rfl⟩ | h3
      · by_cases hx : ∃ n, b ≤ n ∧ W.io n = some a
        · obtain ⟨n, g1, g2⟩ := hx
          rw [freeze_new h2 g1 g2, h1]
          rfl
        · exact freeze_not h2 fun n g1 g2 => hx ⟨n, g1, g2⟩
      · exact freeze_not h2 fun n _ => h3 n
    have q' : (if n < b then W.io n else none) = some a := q
    by_cases h : n < b
    · rw [if_pos h] at q'
      exact h3 n q'
    · rw [if_neg h] at q'
      cases q'
  · have hn : n < b := by
      have := (List.getElem?_eq_some_iff.mp q).1
      omega
    rw [List.getElem?_take_of_lt hn] at q
    obtain ⟨a, h1, h2, h3, h4⟩ := s.live n o q
    refine ⟨a, by rw [freeze_io hn]; exact h1, freeze_not h2 fun m hm e => ?_, (h4 b (.head _) hn).monoF freeze_cut.fz freeze_cut.io rfl, fun c hc hnc => (h4 c (.tail _ hc) hnc).monoF (fun a o h => freeze_old h) (fun m a h => ?_) rfl⟩
    · have := s.inj n m a h1 e
      omega
    · have hcb := hb c hc
      have h' : (if m < c then W.io m else none) = some a := h
      show (if m < c then (if m < b then W.io m else none) else none) = some a
      by_cases hm : m < c
      · rw [if_pos hm] at h' ⊢
        rw [if_pos (by omega)]
        exact h'
      · rw [if_neg hm] at h'
        cases h'
theorem freeze_ext {W0 : Wd} (e : Ext W0 W) (hd : ∀ n a, W0.io n = some a → n < b) : Ext W0 (W.freeze H b) :=
  ⟨fun a o h => freeze_old (e.fz a o h), fun n a h => by rw [freeze_io (hd n a h)]; exact e.io n a h, e.hd⟩
end
section
variable {K : PySem.W.Frag} {W W' : Wd} {f : Nat → Option D} (m : ∀ a o, W.fz a = some o → W'.fz a = some o) (hf : ∀ n a d, W.io n = some a → f n = some d → Rep K W' (.ref a) d)
include m hf
mutual
theorem thaw_rep : ∀ {v : V} {d d' : D}, Rep K W v d → thaw f d = some d' → Rep K W' v d'
  | _, _, d', .non, h => by cases h; exact .non
  | _, _, d', .bl b, h => by cases h; exact .bl b
  | _, _, d', .int b, h => by cases h; exact .int b
  | _, _, d', .str b, h => by cases h; exact .str b
  | _, _, d', .tup (ds := ds) t r, h => by
    have h' : (thaw.thaws f ds).map D.tup = some d' := h
    cases e : thaw.thaws f ds with
    | none => rw [e] at h'; cases h'
    | some es =>
      rw [e] at h'
      cases h'
      exact .tup (t.imp (m _ _) id) (thaws_rep r e)
  | _, _, d', .lst (ds := ds) t r, h => by
    have h' : (thaw.thaws f ds).map D.lst = some d' := h
    cases e : thaw.thaws f ds with
    | none => rw [e] at h'; cases h'
    | some es =>
      rw [e] at h'
      cases h'
      exact .lst (t.imp (m _ _) id) (thaws_rep r e)
  | _, _, d', .dct (kvs := kvs) (ds := ds) t r, h => by
    have h' : (thaw.thaws f ds).map (D.dct (kvs.map (·.1))) = some d' := h
    cases e : thaw.thaws f ds with
    | none => rw [e] at h'; cases h'
    | some es =>
      rw [e] at h'
      cases h'
      exact .dct (m _ _ t) (thaws_rep r e)
  | _, _, d', .ref (n := n) hn, h => hf n _ d' hn h
theorem thaws_rep : ∀ {vs : List V} {ds es : List D}, RepAll K W vs ds → thaw.thaws f ds = some es → RepAll K W' vs es
  | _, _, es, .nil, h => by cases h; exact .nil
  | _, _, es, .cons (d := d) (ds := ds) a r, h => by
    unfold thaw.thaws at h
    cases e1 : thaw f d with
    | none => rw [e1] at h; cases h
    | some d1 =>
      cases e2 : thaw.thaws f ds with
      | none => rw [e1, e2] at h; cases h
      | some d2 =>
        rw [e1, e2] at h
        cases h
        exact .cons (thaw_rep a e1) (thaws_rep r e2)
end
end
section
variable {K : PySem.W.Frag} {bs : List Nat} {W W' : Wd} {S : Store} {H : L2.Hp} {b : Nat}
theorem frz_rep (s : Sim K (b :: bs) W S H) : ∀ (k : Nat) {v : V} {d d' : D}, Rep K W v d → frz S b k d = some d' → Rep K (W.freeze H b) v d'
  | 0, v, d, d', r, h => by
    unfold frz at h
    split at h
    · rename_i u
      cases h
      exact (r.closed b u).mo freeze_cut
    · cases h
  | k + 1, v, d, d', r, h => by
    unfold frz at h
    split at h
    · rename_i u
      cases h
      exact (r.closed b u).mo freeze_cut
    · refine thaw_rep (fun a o q => freeze_old q) (fun n a d1 hn h1 => ?_) r h
      split at h1
      · rename_i hlt
        cases h1
        exact .ref (by rw [freeze_io hlt]; exact hn)
      · rename_i hge
        split at h1
        · rename_i xs q
          cases e : thaw.thaws (fun m => frz S b k (.ref m)) xs with
          | none => rw [e] at h1; cases h1
          | some es =>
            rw [e] at h1
            cases h1
            obtain ⟨a', h2, h3, ⟨vs, g, rr⟩, _⟩ := s.live n _ q
            rw [hn] at h2
            cases h2
            refine .lst (.inl ((freeze_new h3 (Nat.not_lt.mp hge) hn).trans (by rw [g]; rfl))) (thaws_rep (fun a o q => freeze_old q) (fun n a d hn h => frz_rep s k (.ref hn) h) rr e)
        · rename_i ks xs q
          cases e : thaw.thaws (fun m => frz S b k (.ref m)) xs with
          | none => rw [e] at h1; cases h1
          | some es =>
            rw [e] at h1
            cases h1
            obtain ⟨a', h2, h3, ⟨kvs, g, hk, rr⟩, _⟩ := s.live n _ q
            rw [hn] at h2
            cases h2
            subst hk
            refine .dct ((freeze_new h3 (Nat.not_lt.mp hge) hn).trans (by rw [g]; rfl)) (thaws_rep (fun a o q => freeze_old q) (fun n a d hn h => frz_rep s k (.ref hn) h) rr e)
        · cases h1
theorem frzX_one {f : Str} {d : D} {fs : List (Str × D)} (h : frzX S b [(f, d)] = some fs) : ∃ d', frz S b 60 d = some d' ∧ fs = [(f, d')] := by
  unfold frzX at h
  cases e : frz S b 60 d with
  | none => rw [e] at h; cases h
  | some d' =>
    rw [e] at h
    cases h
    exact ⟨d', rfl, rfl⟩
theorem Sim.drop (s : Sim K (b :: bs) W S H) : Sim K bs W S H := ⟨s.fz, s.dom, s.inj, fun c hc => s.bsz c (.tail _ hc), s.held, fun n o q => let ⟨a, h1, h2, h3, h4⟩ := s.live n o q; ⟨a, h1, h2, h3, fun c hc => h4 c (.tail _ hc)⟩⟩
theorem Sim.enter (s : Sim K bs W S H) : Sim K (S.length :: bs) W S H := by
  refine ⟨s.fz, s.dom, s.inj, fun c hc => ?_, s.held, fun n o q => ?_⟩
  · rcases List.mem_cons.mp hc with e | hc
    · rw [e]
      exact Nat.le_refl _
    · exact s.bsz c hc
  · obtain ⟨a, h1, h2, h3, h4⟩ := s.live n o q
    refine ⟨a, h1, h2, h3, fun c hc hn => ?_⟩
    rcases List.mem_cons.mp hc with e | hc
    · subst e
      refine h3.monoF (fun a o h => h) (fun m a h => ?_) rfl
      show (if m < S.length then W.io m else none) = some a
      rw [if_pos (s.dom m a h)]
      exact h
    · exact h4 c hc hn
/-- behind the body: the answer, the error as the caller gets them -/
theorem fin_ok {mg : Str → Option Value} {E : XK} {f : Fn} {ds : List D} {Q : VK} {G : Sig} {Γ : Fns} {σ : L2.St} {ρ : Env} (s : Sim K bs W S H) (hl : ds.length = f.ps.length) (eρ : ρ = ds.map some ++ List.replicate (f.N.length - ds.length) none)
    (h : After K bs (EXx K mg E) W (f.run G Γ ds S) fun d _ W' H' => ∀ v, Rep K W' v d → Q v H') :
    After K (S.length :: bs) (EXx K mg E) W (f.body.execs G Γ S.length ρ S) fun fl _ W' H' => FlQ K { nx := fun _ H' => Q .non H', rt := Q } fl W' H' := by
  unfold Fn.run at h
  rw [if_pos hl, ← eρ] at h
  have hb : ∀ c ∈ bs, c ≤ S.length := s.bsz
  have fin : ∀ (d : D) (S1 : Store) (W' : Wd) (H' : L2.Hp) (v : V), Ext W W' → Sim K (S.length :: bs) W' S1 H' → Rep K W' v d → (After K bs (EXx K mg E) W (f.fin S.length d S1) fun d _ W' H' => ∀ v, Rep K W' v d → Q v H') → Q v H' := fun d S1 W' H' v e s1 r a => by
    unfold Fn.fin at a
    by_cases ho : f.own = true
    · rw [if_pos ho] at a
      exact a W' H' e s1.drop v r
    · rw [if_neg ho] at a
      cases q : frz S1 S.length 60 d with
      | none => rw [q] at a; exact a.elim
      | some d' =>
        rw [q] at a
        exact a _ H' (freeze_ext e s.dom) (s1.freeze hb) v (frz_rep s1 60 r q)
  cases q : f.body.execs G Γ S.length ρ S with
  | bad => rw [q] at h; exact h
  | ok fl S1 =>
    rw [q] at h
    intro W' H' e s1
    cases fl with
    | nx ρ1 => exact fun σ _ => fin .non S1 W' H' .non e s1 .non h
    | rt d => exact fun v r => fin d S1 W' H' v e s1 r h
  | exc x S1 =>
    rw [q] at h
    intro W' H' e s1 c dc rx
    dsimp only at h
    cases g : frzX S1 S.length x.fs with
    | none => rw [g] at h; exact h.elim
    | some fs =>
      rw [g] at h
      refine h _ H' (freeze_ext e s.dom) (s1.freeze hb) c dc ?_
      obtain ⟨C, m1, m2, m3⟩ := rx
      refine ⟨C, m1, m2, ?_⟩
      rcases m3 with ⟨m3, m4⟩ | ⟨f1, d1, v1, e1, g1, g2, g3, g4⟩
      · rw [m3] at g
        cases g
        exact .inl ⟨rfl, m4⟩
      · rw [g1] at g
        obtain ⟨d2, g5, rfl⟩ := frzX_one g
        exact .inr ⟨f1, d2, v1, e1, rfl, g2, g3, frz_rep s1 60 g4 g5⟩
theorem start_env {N : List Str} {vs : List V} {ds : List D} (r : RepAll K W vs ds) : EnvOk K W (ds.map some ++ List.replicate (N.length - ds.length) none) (L2.start N vs) := by
  unfold L2.start
  refine ⟨by simp [r.length], fun i d q => ?_⟩
  by_cases hi : i < ds.length
  · rw [List.getElem?_append_left (by simpa using hi), List.getElem?_map] at q
    cases e : ds[i]? with
    | none => rw [e] at q; cases q
    | some d' =>
      rw [e] at q
      cases q
      obtain ⟨v, h1, h2⟩ := r.get e
      refine ⟨v, ?_, h2⟩
      rw [List.getElem?_append_left (by rw [List.length_map, r.length]; exact hi), List.getElem?_map, h1]
      rfl
  · rw [List.getElem?_append_right (by simpa using hi), List.getElem?_replicate] at q
    split at q <;> cases q
end
end Pv

/-! What the text's form gives, whatever its parts. -/
namespace Pv
open PySem L2 PySem.Spec PyProof.Rows
def notStar : Expr → Bool
  | .Starred .. => false
  | _ => true
theorem star_ok {a : Expr} {es : List Expr} {env : PySem.Env} (h : notStar a = true) : starEach (a :: es) env = (false, eval a env) :: starEach es env := by
  cases a <;> first | rfl | cases h
theorem star_none {pos : Pos} {env : PySem.Env} : ∀ {es : List Expr}, es.all notStar = true → (backTo pos (starEach es env)).any (·.1) = false
  | [], _ => rfl
  | a :: es, h => by
    obtain ⟨h1, h2⟩ := Bool.and_eq_true_iff.mp (show (notStar a && es.all notStar) = true from h)
    rw [star_ok h1]
    have := star_none (pos := pos) (env := env) (es := es) h2
    unfold backTo at this ⊢
    simpa using this
theorem star_all {pos : Pos} {env : PySem.Env} : ∀ {es : List Expr}, es.all notStar = true → (backTo pos (starEach es env)).all (fun x => !x.1) = true
  | [], _ => rfl
  | a :: es, h => by
    obtain ⟨h1, h2⟩ := Bool.and_eq_true_iff.mp (show (notStar a && es.all notStar) = true from h)
    rw [star_ok h1]
    have := star_all (pos := pos) (env := env) (es := es) h2
    unfold backTo at this ⊢
    simpa using this
def kwAll (kws : List Keyword) : Bool := kws.all fun k => match k with | ⟨n, _, _⟩ => n.isSome
def kwNames (kws : List Keyword) : List Str := kws.filterMap fun k => match k with | ⟨n, _, _⟩ => n
theorem kw_all {pos : Pos} {env : PySem.Env} : ∀ {kws : List Keyword}, kwAll kws = true → (backToKw pos (keywordEach kws env)).all (·.1.isSome) = true
  | [], _ => rfl
  | ⟨n, v, p⟩ :: r, h => by
    obtain ⟨h1, h2⟩ := Bool.and_eq_true_iff.mp (show (n.isSome && kwAll r) = true from h)
    have := kw_all (pos := pos) (env := env) (kws := r) h2
    show (n.isSome && _) = true
    rw [h1]
    exact this
theorem kw_any {pos : Pos} {env : PySem.Env} : ∀ {kws : List Keyword}, kwAll kws = true → (backToKw pos (keywordEach kws env)).any (·.1.isNone) = false
  | [], _ => rfl
  | ⟨n, v, p⟩ :: r, h => by
    obtain ⟨h1, h2⟩ := Bool.and_eq_true_iff.mp (show (n.isSome && kwAll r) = true from h)
    have := kw_any (pos := pos) (env := env) (kws := r) h2
    show (n.isNone || _) = false
    rw [show n.isNone = false from by cases n <;> first | rfl | cases h1]
    exact this
theorem kw_names {pos : Pos} {env : PySem.Env} : ∀ {kws : List Keyword}, (backToKw pos (keywordEach kws env)).filterMap (·.1) = kwNames kws
  | [] => rfl
  | ⟨n, v, p⟩ :: r => by
    have := kw_names (pos := pos) (env := env) (kws := r)
    show List.filterMap (·.1) ((n, _) :: backToKw pos (keywordEach r env)) = List.filterMap _ (⟨n, v, p⟩ :: r)
    cases n with
    | none =>
      rw [List.filterMap_cons_none (by rfl), List.filterMap_cons_none (by rfl)]
      exact this
    | some x =>
      rw [List.filterMap_cons_some (b := x) (by rfl), List.filterMap_cons_some (b := x) (by rfl)]
      exact congrArg _ this
/-- whose test is its value's truth -/
def valTest : Expr → Bool
  | .UnaryOp .Not _ _ => false
  | .BoolOp .. => false
  | .IfExp .. => false
  | .Compare .. => false
  | _ => true
theorem val_test {a : Expr} {env : PySem.Env} (h : valTest a = true) : ∀ whole, isTrue a env whole = (do let v ← whole; standAt a.pos; holding [v] (PySem.truthy v)) := fun whole => by
  cases a with
  | UnaryOp op e p => cases op <;> first | rfl | cases h
  | BoolOp _ _ _ => cases h
  | IfExp _ _ _ _ => cases h
  | Compare _ _ _ _ => cases h
  | _ => rfl
def notCall : Expr → Bool
  | .Call .. => false
  | _ => true
theorem attr_base {a : Expr} {env : PySem.Env} {x : Str} {w : Sem Value} (h : notCall a = true) : attributeBase a x env w = w := by
  cases a <;> first | rfl | cases h
def notSet : Expr → Bool
  | .Set .. => false
  | _ => true
theorem not_folded {a : Expr} {env : PySem.Env} (h : notSet a = true) : ∀ x, foldedSetIterable a env x = pure x := fun x => by
  cases a <;> first | rfl | cases h
theorem not_marks {a : Expr} {op : CmpOp} (h : notSet a = true) : behindInMarks op a = false := by
  cases a <;> first | rfl | cases h
def notComp : Expr → Bool
  | .ListComp .. => false
  | .SetComp .. => false
  | .DictComp .. => false
  | _ => true
theorem no_swap {a : Expr} {t : Option Expr} {l : Nat} {env : PySem.Env} (h : notComp a = true) : swapsWith a t l env = pure false := by
  cases a <;> first | rfl | cases h
def notTup : Expr → Bool
  | .Tuple .. => false
  | .List .. => false
  | _ => true
theorem no_stores {t a : Expr} {env : PySem.Env} (h : notTup t = true) : swappedStores [t] a env = pure none := by
  cases t <;> first | rfl | cases h
theorem no_stores2 {t a : Expr} {env : PySem.Env} (h : notTup a = true) : swappedStores [t] a env = pure none := by
  cases a <;> first | (cases t <;> rfl) | cases h
theorem assign_each {t : Expr} {env : PySem.Env} (h : notStar t = true) : (assignEach [t] env).map (·.2) = [assign t env] := by
  cases t <;> first | rfl | cases h
theorem assign_cons {t : Expr} {ts : List Expr} {env : PySem.Env} (h : notStar t = true) : assignEach (t :: ts) env = (false, assign t env) :: assignEach ts env := by
  cases t <;> first | rfl | cases h
theorem assign_len {env : PySem.Env} : ∀ {ts : List Expr}, (assignEach ts env).length = ts.length
  | [] => rfl
  | t :: ts => by
    have := assign_len (env := env) (ts := ts)
    cases t <;> exact congrArg Nat.succ this
theorem assign_star {env : PySem.Env} : ∀ {ts : List Expr}, ts.all notStar = true → (assignEach ts env).findIdx? (·.1) = none
  | [], _ => rfl
  | t :: ts, h => by
    obtain ⟨h1, h2⟩ := Bool.and_eq_true_iff.mp (show (notStar t && ts.all notStar) = true from h)
    rw [assign_cons h1, List.findIdx?_cons]
    dsimp only
    rw [assign_star (env := env) (ts := ts) h2]
    rfl
/-- an index that is no slice -/
def notSlice : Expr → Bool
  | .Slice .. => false
  | _ => true
theorem plain_ix {b : Expr} (h : notSlice b = true) : PlainIx b := fun o i => by
  cases b <;> first | rfl | cases h
theorem sub_assign {o i : Expr} {pos : Pos} {env : PySem.Env} (h : notSlice i = true) : ∀ v, assign (.Subscript o i pos) env v = (do
      let ov ← holding [v] (eval o env)
      let iv ← holding [v, ov] (eval i env)
      standAt pos
      holding [v, ov, iv] (setItem ov iv v)
      release [v, ov, iv] []) := fun v => by
  cases i <;> first | rfl | cases h
/-! ### names -/
/-- a, b = c, d: the names that are stored from the right -/
def parNames (sc : Scope) : List Expr → Option (Str × Str)
  | [.Name x p, .Name y q] => if sc.names.lookup x = some .local ∧ sc.names.lookup y = some .local ∧ p.line = q.line ∧ x ≠ y then some (x, y) else none
  | _ => none
theorem par_stores {sc : Scope} {ts : List Expr} {a b : Expr} {x y : Str} {k1 k2 : Nat} {p1 p2 : Pos} {env : PySem.Env} (hs : env.scope = sc) (hk : sc.kind = .function) (h : parNames sc ts = some (x, y)) (ha : notStar a = true) (hb : notStar b = true) (hf : (foldedForSure 8 a && foldedForSure 8 b) = false)
    (hc : (constantsAlone 8 a && constantsAlone 8 b) = false) : ∃ px py, ts = [.Name x px, .Name y py] ∧ swappedStores [.Tuple ts k1 p1] (.Tuple [a, b] k2 p2) env = pure (some [x, y]) := by
  unfold parNames at h
  split at h
  · rename_i x' p y' q
    split at h
    · rename_i hc'
      cases h
      obtain ⟨h1, h2, h3, h4⟩ := hc'
      refine ⟨p, q, rfl, ?_⟩
      have kx : env.kindOf x = some .local := by unfold Env.kindOf; rw [hs]; exact h1
      have ky : env.kindOf y = some .local := by unfold Env.kindOf; rw [hs]; exact h2
      have hbk : env.blockKind = .function := by unfold Env.blockKind; rw [hs, hk]; rfl
      unfold swappedStores
      have e1 : (p.line == q.line) = true := by rw [h3]; exact beq_self_eq_true _
      simp only [kx, ky, hbk]
      refine (if_neg (show ¬ (false = true) by decide)).trans ((if_neg fun z => ?_).trans ?_)
      · obtain ⟨e, he, hm⟩ := List.any_eq_true.mp z
        have hn : notStar e = true := by
          rcases List.mem_cons.mp he with rfl | he
          · exact ha
          · rcases List.mem_cons.mp he with rfl | he
            · exact hb
            · cases he
        cases e <;> first | exact Bool.noConfusion (show false = true from hm) | exact Bool.noConfusion (show false = true from hn)
      · have e2 : (q.line == p.line) = true := by rw [h3]; exact beq_self_eq_true _
        have e4 : ([a, b].all (foldedForSure 8)) = false := by simpa using hf
        have e5 : ([a, b].all (constantsAlone 8)) = false := by simpa using hc
        have e6 : (x == y) = false := by simpa using h4
        have e7 : ([x, y].eraseDups) = [x, y] := by simp [List.eraseDups_cons, Ne.symm h4]
        simp only [List.filterMap_cons, List.filterMap_nil, List.head?, Option.map, Option.getD, Expr.pos, kx, ky, e2, e4, e5, e7, beq_self_eq_true, Bool.and_self, if_true, List.length_cons, List.length_nil, bne_self_eq_false, Bool.or_self, Bool.false_eq_true, if_false]
        try rfl
    · cases h
  · cases h
/-- a tuple's names that are not all locals: the pair is made first -/
def notPar (sc : Scope) (ts vs : List Expr) : Bool := vs.all notStar && (ts.filterMap fun t => match t with
  | .Name x p => if (sc.names.lookup x == some .local && p.line == ((ts.head?.map (·.pos.line)).getD 0)) = true then some x else none
  | _ => none).length != ts.length
theorem not_par {sc : Scope} {ts vs : List Expr} {k1 k2 : Nat} {p1 p2 : Pos} {env : PySem.Env} (hs : env.scope = sc) (h : notPar sc ts vs = true) : swappedStores [.Tuple ts k1 p1] (.Tuple vs k2 p2) env = pure none := by
  obtain ⟨h1, h2⟩ := Bool.and_eq_true_iff.mp h
  unfold swappedStores
  dsimp only
  split
  · rfl
  · refine (if_neg fun z => ?_).trans ?_
    · obtain ⟨e, he, hm⟩ := List.any_eq_true.mp z
      have hn : notStar e = true := List.all_eq_true.mp h1 e he
      cases e <;> first | exact Bool.noConfusion (show false = true from hm) | exact Bool.noConfusion (show false = true from hn)
    · refine (if_pos ?_).trans rfl
      rw [Bool.or_eq_true]
      refine .inl ?_
      subst hs
      exact h2
end Pv

/-! Does the small language say what the text says? Expressions. -/
namespace Pv
open PySem L2 PySem.Spec PyProof.Rows
structure Tab where
  /-- defs: parameters, ways of keywords -/
  funs : List (Str × List Str × List (Nat × List Str))
  ecs : List (Str × Str)
  blts : List Str
  gcd : Bool
  glbs : List (Str × D)
  hds : List (Str × Str × List Str)
  skp : List (Str × List Str)
structure Sc where
  N : List Str
  sc : Scope
  /-- of a block: its own names -/
  fn : Option Scope
  tab : Tab
structure TabOk (P : Program) (w : World) (K : PySem.W.Frag) (mg : Str → Option Value) (base : Heap) (G : Sig) (Γ : Fns) (k : Nat) (tb : Tab) : Prop where
  fok : ∀ q ∈ tb.funs, G.ps q.1 = q.2.1 ∧ ∃ F : FnAt P w K mg base k q.1 q.2.1 (Γ q.1), ∀ p ∈ q.2.2, KwAt F.fd q.2.1 p.1 p.2
  eok : ∀ q ∈ tb.ecs, Nonempty (ClAt P w K mg base 1 q.1 q.2) ∧ ∀ d S, Γ q.1 [d] S = .exc ⟨q.1, [(q.2, d)]⟩ S
  bok : ∀ x ∈ tb.blts, mg x = none
  gok : tb.gcd = true → mg "gcd" = some (.builtin "math.gcd")
  vok : ∀ q ∈ tb.glbs, G.glb q.1 = some q.2 ∧ ∃ v u, mg q.1 = some u ∧ RelV v u ∧ ∀ W, Rep K W v q.2
  hok : ∀ q ∈ tb.hds, ∃ C, mg q.1 = some (.ref C) ∧ PySem.W.exmOne K (.ref C) (.ref C) = some true ∧ XfC K C ∧ PySem.W.findIn K (.ref C) q.2.1 = some none ∧
    ∀ y ∈ q.2.2, ∀ C', mg y = some (.ref C') → PySem.W.exmOne K (.ref C') (.ref C) = some false
  sok : ∀ q ∈ tb.skp, ∃ C, mg q.1 = some (.ref C) ∧ ∀ y ∈ q.2, ∀ C', mg y = some (.ref C') → PySem.W.exmOne K (.ref C') (.ref C) = some false
def okFn (q : Sc) (x : Str) : Bool := match q.fn with
  | none => true
  | some s => s.names.lookup x == some .cell
structure Good (G : Sig) (Γ : Fns) (k : Nat) (q : Sc) (bs : List Nat) (b : Nat) (Ex : XK) (X : Cx) : Prop where
  N : X.N = q.N
  nd : q.N.Nodup
  sc : X.env.scope = q.sc
  kind : q.sc.kind = .function
  fn : ∀ x, okFn q x = true → X.fn x = true
  calm : X.calm = true
  k2 : 2 ≤ k
  room : Room k X.A
  takes : Takes X fun c d _ H => Ex c d H
  hb : ∀ c ∈ bs, c ≤ b
  tab : TabOk X.prog X.w X.K X.mg X.base G Γ k q.tab
def Sc.blk (q : Sc) (s : Scope) : Sc := ⟨q.N, relS s q.sc, some s, q.tab⟩
section
variable {G : Sig} {Γ : Fns} {k : Nat} {q : Sc} {bs : List Nat} {b : Nat} {Ex : XK} {X : Cx}
theorem Good.un (g : Good G Γ k q bs b Ex X) : X.A.units + 65 < cLine := by have := g.room.un; omega
theorem Good.blk (g : Good G Γ k q bs b Ex X) {scope : Scope} (hk : scope.kind = .function) : Blk X scope fun X' => Good G Γ k (q.blk scope) bs b noX X' := fun s H C cl fp =>
  ⟨g.N, g.nd, congrArg (relS scope) g.sc, hk, fun x h => h, g.calm, g.k2, g.room, fun u s' ⟨_, _, _, _, _, _, _, _, _, _, _, _, _, _, _, _, w⟩ => w.elim, g.hb, g.tab⟩
/-! ### names -/
def visB (s : Scope) (x : Str) : Bool := match s.names.lookup x with
  | some .local => true
  | some .cell => true
  | some .free => true
  | _ => false
def locB (s : Scope) (x : Str) : Bool := match s.names.lookup x with
  | some .local => true
  | some .cell => true
  | _ => false
def nmB (x : Str) : Bool := !(x == ("__debug__" : Str)) && !(x == ("__classdict__" : Str))
def glB (s : Scope) (x : Str) : Bool := decide (s.names.lookup x = some .globalImplicit) && nmB x
theorem vis_ok {s : Scope} {x : Str} (h : visB s x = true) : Vis s x := by
  unfold visB at h
  unfold Vis
  split at h <;> first | (rename_i e; rw [e]; simp) | cases h
theorem loc_ok {s : Scope} {x : Str} (h : locB s x = true) : L2.Loc s x := by
  unfold locB at h
  unfold L2.Loc
  split at h <;> first | (rename_i e; rw [e]; simp) | cases h
theorem nm_ok {x : Str} (h : nmB x = true) : (x == ("__debug__" : Str)) = false ∧ (x == ("__classdict__" : Str)) = false := by
  unfold nmB at h
  simpa using h
theorem Good.gl (g : Good G Γ k q bs b Ex X) {x : Str} (h : glB q.sc x = true) : Gl X x ∧ (x == ("__debug__" : Str)) = false := by
  obtain ⟨h1, h2⟩ := Bool.and_eq_true_iff.mp h
  refine ⟨?_, (nm_ok h2).1⟩
  show X.env.scope.names.lookup x = some .globalImplicit
  rw [g.sc]
  exact of_decide_eq_true h1
end
/-! ### targets -/
def mayStore (q : Sc) (i : Nat) (x : Str) : Bool := decide (q.N[i]? = some x) && locB q.sc x && (okFn q x || decide (q.sc.names.lookup x = some .local))
mutual
def chkTg (q : Sc) : Tg → Expr → Bool
  | .name i, e => (match e with
    | .Name x _ => mayStore q i x
    | _ => false)
  | .tup ts, e => (match e with
    | .Tuple es _ _ => es.all notStar && chkTgs q ts es
    | _ => false)
def chkTgs (q : Sc) : Tgs → List Expr → Bool
  | .nil, [] => true
  | .cons t r, e :: es => chkTg q t e && chkTgs q r es
  | _, _ => false
end
section
variable {G : Sig} {Γ : Fns} {k : Nat} {q : Sc} {bs : List Nat} {b : Nat} {Ex : XK} {X : Cx}
theorem Good.store (g : Good G Γ k q bs b Ex X) {i : Nat} {x : Str} (h : mayStore q i x = true) : X.N[i]? = some x ∧ L2.Loc X.env.scope x ∧ (X.fn x = true ∨ X.env.scope.names.lookup x = some .local) := by
  unfold mayStore at h
  rw [Bool.and_eq_true, Bool.and_eq_true, Bool.or_eq_true] at h
  obtain ⟨⟨h1, h2⟩, h3⟩ := h
  rw [g.N, g.sc]
  exact ⟨of_decide_eq_true h1, loc_ok h2, h3.imp (g.fn x) fun z => of_decide_eq_true z⟩
theorem PG.cong {e : Expr} {is : List Nat} {a a' : D → Env → Store → Option Env} (h : PG X e (tGt X.K bs is a)) (e2 : a' = a) : PG X e (tGt X.K bs is a') := e2 ▸ h
theorem PGs.cong {e : List Expr} {is : List Nat} {a a' : List D → Env → Store → Option Env} (h : PGs X e (tGs X.K bs is a)) (e2 : a' = a) : PGs X e (tGs X.K bs is a') := e2 ▸ h
theorem all_len : ∀ (ts : Tgs) (ds : List D) (ρ : Env) (S : Store) (ρ' : Env) (q : Sc) (es : List Expr), chkTgs q ts es = true → assignAll ts ds ρ S = some ρ' → ds.length = es.length
  | .nil, [], _, _, _, _, [], _, _ => rfl
  | .nil, _ :: _, _, _, _, _, _, _, h => by unfold assignAll at h; cases h
  | .cons t r, [], _, _, _, _, _, _, h => by unfold assignAll at h; cases h
  | .cons t r, x :: xs, ρ, S, ρ', q, e :: es, hc, h => by
    unfold chkTgs at hc
    unfold assignAll at h
    split at h
    · rename_i ρ1 _
      exact congrArg Nat.succ (all_len r xs ρ1 S ρ' q es (Bool.and_eq_true_iff.mp hc).2 h)
    · cases h
  | .nil, [], _, _, _, _, _ :: _, hc, _ => by unfold chkTgs at hc; cases hc
  | .cons t r, _ :: _, _, _, _, _, [], hc, _ => by unfold chkTgs at hc; cases hc
mutual
theorem tg_ok (g : Good G Γ k q bs b Ex X) : ∀ (t : Tg) (e : Expr), chkTg q t e = true → PG X e (tGt X.K bs t.slots (assignTo t))
  | .name i, e, h => by
    unfold chkTg at h
    split at h
    · obtain ⟨h1, h2, h3⟩ := g.store h
      refine PG.cong (g_name (by rw [g.N]; exact g.nd) h1 h2 h3) ?_
      funext d ρ S
      rw [assignTo]
    · cases h
  | .tup ts, e, h => by
    unfold chkTg at h
    split at h
    · rename_i es n p
      obtain ⟨h1, h2⟩ := Bool.and_eq_true_iff.mp h
      refine PG.cong (g_tup (n := es.length) g.calm (tgs_ok g ts es h1 h2) assign_len (assign_star h1) fun ds ρ S ρ' e => all_len ts ds ρ S ρ' q es h2 e) ?_
      funext d ρ S
      rw [assignTo]
      all_goals (cases seqOf S d <;> rfl)
    · cases h
theorem tgs_ok (g : Good G Γ k q bs b Ex X) : ∀ (ts : Tgs) (es : List Expr), es.all notStar = true → chkTgs q ts es = true → PGs X es (tGs X.K bs ts.slotsAll (assignAll ts))
  | .nil, [], _, h => by
    refine PGs.cong g_nil ?_
    funext ds ρ S
    cases ds <;> rw [assignAll] <;> simp
  | .cons t r, e :: es, hs, h => by
    unfold chkTgs at h
    obtain ⟨h1, h2⟩ := Bool.and_eq_true_iff.mp h
    obtain ⟨h3, h4⟩ := Bool.and_eq_true_iff.mp (show (notStar e && es.all notStar) = true from hs)
    refine PGs.cong (g_cons (tg_ok g t e h1) (tgs_ok g r es h4 h2) (by rw [assign_cons h3]; rfl)) ?_
    funext ds ρ S
    cases ds with
    | nil => simp [assignAll]
    | cons d ds =>
      rw [assignAll]
      all_goals (dsimp only)
      all_goals (cases assignTo t d ρ S <;> rfl)
  | .nil, _ :: _, _, h => by unfold chkTgs at h; cases h
  | .cons t r, [], _, h => by unfold chkTgs at h; cases h
end
end
end Pv

/-! Does the small language say what the text says? The check of expressions. -/
namespace Pv
open PySem L2 PySem.Spec PyProof.Rows
structure Fs where
  e : Sc → Bool → Expr → IR → Bool
  t : Sc → Expr → IR → Bool
  as : Sc → Bool → List Expr → IRs → Bool
  o : Sc → Option Expr → OIR → Bool
  src : Sc → Expr → Expr → Src → Bool
  kw : Sc → List Keyword → IRs → Bool
def cstB : Expr → D → Bool
  | .Constant .none _ _, .non => true
  | .Constant (.bool a) _ _, .bl b => decide (a = b)
  | .Constant (.int a) _ _, .int b => decide (a = b)
  | .Constant (.str a) _ _, .str b => decide (a = b)
  | _, _ => false
def binOpr : Bin → Operator
  | .add => .Add | .sub => .Sub | .mul => .Mult | .fdiv => .FloorDiv | .mod => .Mod | .pow => .Pow
def cmpOpr : Cmp → CmpOp
  | .eq => .Eq | .ne => .NotEq | .lt => .Lt | .le => .LtE | .gt => .Gt | .ge => .GtE | .isC => .Is | .isNotC => .IsNot | .inC => .In | .notInC => .NotIn
def opB : Operator → Operator → Bool
  | .Add, .Add => true | .Sub, .Sub => true | .Mult, .Mult => true | .FloorDiv, .FloorDiv => true | .Mod, .Mod => true | .Pow, .Pow => true
  | _, _ => false
def coB : CmpOp → CmpOp → Bool
  | .Eq, .Eq => true | .NotEq, .NotEq => true | .Lt, .Lt => true | .LtE, .LtE => true | .Gt, .Gt => true | .GtE, .GtE => true | .Is, .Is => true | .IsNot, .IsNot => true | .In, .In => true | .NotIn, .NotIn => true
  | _, _ => false
theorem opB_ok {a b : Operator} (h : opB a b = true) : a = b := by cases a <;> cases b <;> first | rfl | cases h
theorem coB_ok {a b : CmpOp} (h : coB a b = true) : a = b := by cases a <;> cases b <;> first | rfl | cases h
/-- the name of a built-in -/
def Bif.nm : Bif → Option Str
  | .len => some "len" | .abs => some "abs" | .int => some "int" | .max2 => some "max" | .min2 => some "min" | .sum => some "sum" | .any => some "any" | .all => some "all" | .tuple => some "tuple" | .list => some "list" | .dict => some "dict"
  | _ => none
def tyB (q : Sc) (e : Expr) (t : Ty) : Bool := match e with
  | .Name x _ => decide (x = (t.nm : Str)) && glB q.sc x && q.tab.blts.contains x
  | _ => false
/-- a test of a clause -/
def testsB (F : Fs) (q : Sc) : List Expr → IRs → Bool
  | [], .nil => true
  | [c], .cons a .nil => F.t q c a
  | _, _ => false
def ownOf (q : Sc) (own : List Nat) : List (Str × Nat) := own.filterMap fun i => (q.N[i]?).map fun x => (x, i)
def stepAs (F : Fs) (q : Sc) (md : Bool) : List Expr → IRs → Bool
  | [], .nil => true
  | e :: es, .cons a r => notStar e && F.e q md e a && stepAs F q md es r
  | _, _ => false
def stepKw (F : Fs) (q : Sc) : List Keyword → IRs → Bool
  | [], .nil => true
  | ⟨_, v, _⟩ :: r, .cons a s => F.e q false v a && stepKw F q r s
  | _, _ => false
def nilB : List Expr → IRs → Bool
  | [], .nil => true
  | [], _ => false
  | _, _ => true
def stepE (F : Fs) (q : Sc) (md : Bool) (e : Expr) : IR → Bool
  | .var i => (match e with
    | .Name x _ => decide (q.N[i]? = some x) && visB q.sc x && nmB x
    | _ => false)
  | .cst d => cstB e d
  | .glb x => (match e with
    | .Name y _ => decide (x = y) && glB q.sc y && (q.tab.glbs.any fun p => decide (p.1 = x))
    | _ => false)
  | .neg a => (match e with
    | .UnaryOp .USub x _ => F.e q false x a
    | _ => false)
  | .not a => (match e with
    | .UnaryOp .Not x _ => F.e q false x a
    | _ => false)
  | .bin o a b => (match e with
    | .BinOp x p y _ => opB p (binOpr o) && F.e q md x a && F.e q md y b
    | _ => false)
  | .cmp o a b => (match e with
    | .Compare x [p] [y] _ => coB p (cmpOpr o) && notSet y && F.e q false x a && F.e q false y b
    | _ => false)
  | .chain o o2 a b c => (match e with
    | .Compare x [p, p2] [y, z] _ => coB p (cmpOpr o) && coB p2 (cmpOpr o2) && notSet z && F.e q false x a && F.e q false y b && F.e q false z c
    | _ => false)
  | .and a b => (match e with
    | .BoolOp .And [x, y] _ => F.e q md x a && F.e q md y b
    | .BoolOp .And (x :: y :: z :: r) p => F.e q md x a && F.e q md (.BoolOp .And (y :: z :: r) p) b
    | _ => false)
  | .or a b => (match e with
    | .BoolOp .Or [x, y] _ => F.e q md x a && F.e q md y b
    | .BoolOp .Or (x :: y :: z :: r) p => F.e q md x a && F.e q md (.BoolOp .Or (y :: z :: r) p) b
    | _ => false)
  | .ite t a b => (match e with
    | .IfExp c x y _ => F.t q c t && F.e q md x a && F.e q md y b
    | _ => false)
  | .call f as => (match e with
    | .Call (.Name x _) es [] _ => decide (x = f) && glB q.sc x && es.all notStar && (q.tab.funs.any fun p => decide (p.1 = f) && decide (es ≠ [] ∨ p.2.1 = [])) && nilB es as && F.as q false es as
    | _ => false)
  | .callK f as ks ws => (match e with
    | .Call (.Name x _) es kws _ => decide (x = f) && glB q.sc x && es.all notStar && kwAll kws && decide (kwNames kws = ks) && decide (kws.length = ks.length) && (q.tab.funs.any fun p => decide (p.1 = f) && p.2.2.contains (es.length, ks)) && nilB es as && stepAs F q false es as && stepKw F q kws ws
    | _ => false)
  | .bif f as => (match e with
    | .Call (.Name x _) (y :: es) [] _ => glB q.sc x && notStar y && es.all notStar && F.as q false (y :: es) as && (match f with
      | .gcd => decide (x = "gcd") && q.tab.gcd
      | f => decide (f.nm = some x) && q.tab.blts.contains x)
    | _ => false)
  | .inst a ts => (match e with
    | .Call (.Name x _) [y, z] [] _ => decide (x = "isinstance") && glB q.sc x && q.tab.blts.contains x && notStar y && F.e q false y a && (match ts with
      | [t] => tyB q z t
      | [t, u] => (match z with
        | .Tuple [v, w] _ _ => tyB q v t && tyB q w u
        | _ => false)
      | _ => false)
    | _ => false)
  | .ix a i => (match e with
    | .Subscript x y _ => notSlice y && F.e q false x a && F.e q false y i
    | _ => false)
  | .sl a l h => (match e with
    | .Subscript x (.Slice lo hi none _) _ => F.e q false x a && F.o q lo l && F.o q hi h
    | _ => false)
  | .rev a => (match e with
    | .Subscript x (.Slice none none (some (.UnaryOp .USub (.Constant (.int i) _ _) _)) _) _ => decide (i = 1) && F.e q false x a
    | _ => false)
  | .tup as => (match e with
    | .Tuple es _ _ => F.as q md es as
    | _ => false)
  | .lst as => (match e with
    | .List es _ => F.as q md es as
    | _ => false)
  | .dct [] .nil => (match e with
    | .Dict [] [] _ => true
    | _ => false)
  | .comp own tg src ifs elt => (match e with
    | .ListComp x [⟨t, it, cs, 0⟩] scope _ => notSet it && decide ((ownOf q own).map (·.2) = own) && blkC q.N q.sc scope (ownOf q own) && tg.slots.all own.contains && F.src q t it src && chkTg (q.blk scope) tg t && testsB F (q.blk scope) cs ifs && F.e (q.blk scope) md x elt
    | _ => false)
  | .compD own tg i ifs elt => (match e with
    | .ListComp x [⟨t, .Name y _, cs, 0⟩] scope _ => decide (q.N[i]? = some y) && visB q.sc y && nmB y && decide ((ownOf q own).map (·.2) = own) && blkC q.N q.sc scope (ownOf q own) && tg.slots.all own.contains && chkTg (q.blk scope) tg t && testsB F (q.blk scope) cs ifs && F.e (q.blk scope) md x elt
    | _ => false)
  | .app o x => (match e with
    | .Call (.Attribute y n p) [z] [] p2 => decide (n = "append") && notCall y && notStar z && decide (p.endLine = p2.line) && F.e q false y o && F.e q false z x
    | _ => false)
  | _ => false
def stepT (F : Fs) (q : Sc) (c : Expr) (r : IR) : Bool := match c with
  | .UnaryOp .Not x _ => (match r with
    | .not a => F.t q x a
    | _ => false)
  | .BoolOp .And [x, y] _ => (match r with
    | .and a b => F.t q x a && F.t q y b
    | _ => false)
  | .BoolOp .And (x :: y :: z :: l) p => (match r with
    | .and a b => F.t q x a && F.t q (.BoolOp .And (y :: z :: l) p) b
    | _ => false)
  | .BoolOp .Or [x, y] _ => (match r with
    | .or a b => F.t q x a && F.t q y b
    | _ => false)
  | .BoolOp .Or (x :: y :: z :: l) p => (match r with
    | .or a b => F.t q x a && F.t q (.BoolOp .Or (y :: z :: l) p) b
    | _ => false)
  | .Compare x [p] [y] _ => (match r with
    | .cmp o a b => coB p (cmpOpr o) && notSet y && F.e q false x a && F.e q false y b
    | _ => false)
  | .Compare x [p, p2] [y, z] _ => (match r with
    | .chain o o2 a b c => coB p (cmpOpr o) && coB p2 (cmpOpr o2) && notSet z && F.e q false x a && F.e q false y b && F.e q false z c
    | _ => false)
  | c => valTest c && F.e q false c r
def stepO (F : Fs) (q : Sc) : Option Expr → OIR → Bool
  | none, .non => true
  | some e, .some a => F.e q false e a
  | _, _ => false
def stepSrc (F : Fs) (q : Sc) (tg e : Expr) : Src → Bool
  | .it a => F.e q false e a
  | .rng1 a => (match e with
    | .Call (.Name x _) [y] [] _ => decide (x = "range") && glB q.sc x && q.tab.blts.contains x && notStar y && F.e q false y a
    | _ => false)
  | .rng2 a b => (match e with
    | .Call (.Name x _) [y, z] [] _ => decide (x = "range") && glB q.sc x && q.tab.blts.contains x && notStar y && notStar z && F.e q false y a && F.e q false z b
    | _ => false)
  | .zip a b => (match e, tg with
    | .Call (.Name x _) [y, z] [] _, .Tuple _ _ _ => decide (x = "zip") && glB q.sc x && q.tab.blts.contains x && notStar y && notStar z && F.e q false y a && F.e q false z b
    | _, _ => false)
  | .enum a => (match e, tg with
    | .Call (.Name x _) [y] [] _, .Tuple _ _ _ => decide (x = "enumerate") && glB q.sc x && q.tab.blts.contains x && notStar y && F.e q false y a
    | _, _ => false)
def chk : Nat → Fs
  | 0 => ⟨fun _ _ _ _ => false, fun _ _ _ => false, fun _ _ _ _ => false, fun _ _ _ => false, fun _ _ _ _ => false, fun _ _ _ => false⟩
  | n + 1 => ⟨stepE (chk n), stepT (chk n), stepAs (chk n), stepO (chk n), stepSrc (chk n), stepKw (chk n)⟩
structure Snd (F : Fs) : Prop where
  e : ∀ {q md e r}, F.e q md e r = true → ∀ {G Γ k bs b Ex X}, Good G Γ k q bs b Ex X → E X X.mg bs Ex e fun ρ S => r.run G Γ b md ρ S
  t : ∀ {q e r}, F.t q e r = true → ∀ {G Γ k bs b Ex X}, Good G Γ k q bs b Ex X → T X X.mg bs Ex e fun ρ S => r.run G Γ b false ρ S
  as : ∀ {q md es r}, F.as q md es r = true → ∀ {G Γ k bs b Ex X}, Good G Γ k q bs b Ex X → PA X es (tAs X.K X.mg bs Ex fun ρ S => r.runs G Γ b md ρ S)
  o : ∀ {q e r}, F.o q e r = true → ∀ {G Γ k bs b Ex X}, Good G Γ k q bs b Ex X → OP X X.mg bs Ex e fun ρ S => r.runO G Γ b ρ S
  src : ∀ {q tg e r}, F.src q tg e r = true → ∀ {G Γ k bs b Ex X}, Good G Γ k q bs b Ex X → PI X tg e (tSrc X.K X.mg bs Ex fun ρ S => r.runS G Γ b ρ S)
  kw : ∀ {q kws r}, F.kw q kws r = true → ∀ {G Γ k bs b Ex X}, Good G Γ k q bs b Ex X → PK X kws (tAs X.K X.mg bs Ex fun ρ S => r.runs G Γ b false ρ S)
end Pv

/-! The check of expressions is right. -/
namespace Pv
open PySem L2 PySem.Spec PyProof.Rows
section
variable {X : Cx} {mg : Str → Option Value} {bs : List Nat} {Ex : XK} {ra rb : Env → Store → Res D} {a : Expr} {pos : Pos}
theorem E.cong {e : Expr} {r r' : Env → Store → Res D} (h : E X mg bs Ex e r) (h2 : ∀ ρ S, r' ρ S = r ρ S) : E X mg bs Ex e r' := (show r' = r from funext fun ρ => funext fun S => h2 ρ S) ▸ h
theorem T.cong {e : Expr} {r r' : Env → Store → Res D} (h : T X mg bs Ex e r) (h2 : ∀ ρ S, r' ρ S = r ρ S) : T X mg bs Ex e r' := (show r' = r from funext fun ρ => funext fun S => h2 ρ S) ▸ h
theorem PAc {es : List Expr} {r r' : Env → Store → Res (List D)} (h : PA X es (tAs X.K mg bs Ex r)) (h2 : ∀ ρ S, r' ρ S = r ρ S) : PA X es (tAs X.K mg bs Ex r') := (show r' = r from funext fun ρ => funext fun S => h2 ρ S) ▸ h
theorem PKc {es : List Keyword} {r r' : Env → Store → Res (List D)} (h : PK X es (tAs X.K mg bs Ex r)) (h2 : ∀ ρ S, r' ρ S = r ρ S) : PK X es (tAs X.K mg bs Ex r') := (show r' = r from funext fun ρ => funext fun S => h2 ρ S) ▸ h
theorem PIc {tg e : Expr} {r r' : Env → Store → Res Wlk} (h : PI X tg e (tSrc X.K mg bs Ex r)) (h2 : ∀ ρ S, r' ρ S = r ρ S) : PI X tg e (tSrc X.K mg bs Ex r') := (show r' = r from funext fun ρ => funext fun S => h2 ρ S) ▸ h
theorem OPc {e : Option Expr} {r r' : Env → Store → Res (Option Int)} (h : OP X mg bs Ex e r) (h2 : ∀ ρ S, r' ρ S = r ρ S) : OP X mg bs Ex e r' := (show r' = r from funext fun ρ => funext fun S => h2 ρ S) ▸ h
theorem PTsc {e : List Expr} {r r' : Env → Store → Res Bool} (h : PTs X e (tB X.K mg bs Ex r)) (h2 : ∀ ρ S, r' ρ S = r ρ S) : PTs X e (tB X.K mg bs Ex r') := (show r' = r from funext fun ρ => funext fun S => h2 ρ S) ▸ h
theorem s_one {op : BoolOp} (ha : E X mg bs Ex a ra) : E X mg bs Ex (.BoolOp op [a] pos) ra := ⟨fun pins s σ H Q I h => ha.run pins s σ H Q I h⟩
theorem tw_t {op : BoolOp} {es : List Expr} (h : T X mg bs Ex (.BoolOp op es pos) ra) : TW X mg bs Ex (.BoolOp op es pos) ra := ⟨fun wh pins s σ H Q I q => h.run pins s σ H Q I q⟩
theorem o_bin {md : Bool} (o : Bin) : OpR X (binaryOp (binOpr o)) (rS2 X.K mg bs Ex fun d e S => binOf md S o d e) := by
  cases o
  · exact o_add
  · exact o_sub
  · exact o_mul
  · exact o_fdiv
  · exact o_mod
  · exact o_pow
theorem o_cmpr (hu : X.A.units + 65 < cLine) (o : Cmp) : OpR X (compareOp (cmpOpr o)) (rS2 X.K mg bs Ex (ansB fun d e S => cmpOf S o d e)) := by
  cases o
  · exact o_eq (by omega)
  · exact o_ne (by omega)
  · exact o_lt (by omega)
  · exact o_le
  · exact o_gt
  · exact o_ge
  · exact o_is
  · exact o_isnot
  · exact o_in hu
  · exact o_notin hu
theorem ans_eq {f : D → D → Store → Option Bool} {d e : D} {S : Store} : ansB f d e S = (lift S (f d e S)).bind fun c S3 => .ok (.bl c) S3 := by
  unfold ansB
  cases f d e S <;> rfl
end
theorem b_len : bootBuiltins "len" = some (.builtin "len") := by decide +kernel
theorem b_abs : bootBuiltins "abs" = some (.builtin "abs") := by decide +kernel
theorem b_int : bootBuiltins "int" = some (.type "int") := by decide +kernel
theorem b_max : bootBuiltins "max" = some (.builtin "max") := by decide +kernel
theorem b_min : bootBuiltins "min" = some (.builtin "min") := by decide +kernel
theorem b_sum : bootBuiltins "sum" = some (.builtin "sum") := by decide +kernel
theorem b_any : bootBuiltins "any" = some (.builtin "any") := by decide +kernel
theorem b_all : bootBuiltins "all" = some (.builtin "all") := by decide +kernel
theorem b_tuple : bootBuiltins "tuple" = some (.type "tuple") := by decide +kernel
theorem b_list : bootBuiltins "list" = some (.type "list") := by decide +kernel
theorem b_dict : bootBuiltins "dict" = some (.type "dict") := by decide +kernel
theorem b_str : bootBuiltins "str" = some (.type "str") := by decide +kernel
theorem b_bool : bootBuiltins "bool" = some (.type "bool") := by decide +kernel
section
variable {G : Sig} {Γ : Fns} {k : Nat} {q : Sc} {bs : List Nat} {b : Nat} {Ex : XK} {X : Cx}
theorem Good.blt (g : Good G Γ k q bs b Ex X) {x : Str} (h : q.tab.blts.contains x = true) : X.mg x = none := g.tab.bok x (by simpa using h)
/-- a class named in isinstance -/
theorem Good.ty (g : Good G Γ k q bs b Ex X) {e : Expr} {t : Ty} (h : tyB q e t = true) : PE X e (tC (.ty t.nm)) ∧ notStar e = true := by
  unfold tyB at h
  split at h
  · rename_i x p
    rw [Bool.and_eq_true, Bool.and_eq_true] at h
    obtain ⟨⟨h1, h2⟩, h3⟩ := h
    have h1 := of_decide_eq_true h1
    obtain ⟨gl, gd⟩ := g.gl h2
    have hb : bootBuiltins x = some (.type t.nm) := by
      rw [h1]
      cases t
      · exact b_int
      · exact b_bool
      · exact b_str
      · exact b_tuple
      · exact b_list
      · exact b_dict
    have hn : x ≠ "__name__" := by
      rw [h1]
      cases t <;> decide +kernel
    exact ⟨pe_bltn gl (g.blt h3) hb rfl hn gd, rfl⟩
  · cases h
theorem run_len {md : Bool} : ∀ {es : List Expr} {rs : IRs} {F : Fs}, stepAs F q md es rs = true → ∀ ρ S ds S', rs.runs G Γ b md ρ S = .ok ds S' → ds.length = es.length
  | [], .nil, F, h, ρ, S, ds, S', e => by
    rw [IRs.runs] at e
    cases e
    rfl
  | e :: es, .cons a r, F, h, ρ, S, ds, S', e2 => by
    rw [stepAs, Bool.and_eq_true] at h
    rw [IRs.runs] at e2
    cases e3 : a.run G Γ b md ρ S with
    | bad => rw [e3] at e2; cases e2
    | exc x S1 => rw [e3] at e2; cases e2
    | ok d S1 =>
      rw [e3] at e2
      dsimp only [Res.bind] at e2
      cases e4 : r.runs G Γ b md ρ S1 with
      | bad => rw [e4] at e2; cases e2
      | exc x S1 => rw [e4] at e2; cases e2
      | ok xs S2 =>
        rw [e4] at e2
        cases e2
        exact congrArg Nat.succ (run_len h.2 ρ S1 xs _ e4)
  | [], .cons _ _, F, h, _, _, _, _, _ => by simp [stepAs] at h
  | _ :: _, .nil, F, h, _, _, _, _, _ => by simp [stepAs] at h
theorem kw_len : ∀ {es : List Keyword} {rs : IRs} {F : Fs}, stepKw F q es rs = true → ∀ ρ S ds S', rs.runs G Γ b false ρ S = .ok ds S' → ds.length = es.length
  | [], .nil, F, h, ρ, S, ds, S', e => by
    rw [IRs.runs] at e
    cases e
    rfl
  | ⟨n, v, p⟩ :: es, .cons a r, F, h, ρ, S, ds, S', e2 => by
    rw [stepKw, Bool.and_eq_true] at h
    rw [IRs.runs] at e2
    cases e3 : a.run G Γ b false ρ S with
    | bad => rw [e3] at e2; cases e2
    | exc x S1 => rw [e3] at e2; cases e2
    | ok d S1 =>
      rw [e3] at e2
      dsimp only [Res.bind] at e2
      cases e4 : r.runs G Γ b false ρ S1 with
      | bad => rw [e4] at e2; cases e2
      | exc x S1 => rw [e4] at e2; cases e2
      | ok xs S2 =>
        rw [e4] at e2
        cases e2
        exact congrArg Nat.succ (kw_len h.2 ρ S1 xs _ e4)
  | [], .cons _ _, F, h, _, _, _, _, _ => by simp [stepKw] at h
  | _ :: _, .nil, F, h, _, _, _, _, _ => by simp [stepKw] at h
variable {F : Fs}
theorem as_ok (s : Snd F) {md : Bool} (g : Good G Γ k q bs b Ex X) : ∀ {es : List Expr} {r : IRs}, stepAs F q md es r = true → PA X es (tAs X.K X.mg bs Ex fun ρ S => r.runs G Γ b md ρ S)
  | [], .nil, _ => PAc s_args_nil fun ρ S => by rw [IRs.runs] <;> rfl
  | e :: es, .cons a r, h => by
    rw [stepAs, Bool.and_eq_true, Bool.and_eq_true] at h
    exact PAc (s_args_cons (s.e h.1.2 g) (as_ok s g h.2) (star_ok h.1.1)) fun ρ S => by rw [IRs.runs] <;> rfl
  | [], .cons _ _, h => by simp [stepAs] at h
  | _ :: _, .nil, h => by simp [stepAs] at h
theorem kw_ok (s : Snd F) (g : Good G Γ k q bs b Ex X) : ∀ {es : List Keyword} {r : IRs}, stepKw F q es r = true → PK X es (tAs X.K X.mg bs Ex fun ρ S => r.runs G Γ b false ρ S)
  | [], .nil, _ => PKc s_kws_nil fun ρ S => by rw [IRs.runs] <;> rfl
  | ⟨n, v, p⟩ :: es, .cons a r, h => by
    rw [stepKw, Bool.and_eq_true] at h
    exact PKc (s_kws_cons (s.e h.1 g) (kw_ok s g h.2)) fun ρ S => by rw [IRs.runs] <;> rfl
  | [], .cons _ _, h => by simp [stepKw] at h
  | _ :: _, .nil, h => by simp [stepKw] at h
theorem o_ok (s : Snd F) (g : Good G Γ k q bs b Ex X) {e : Option Expr} {r : OIR} (h : stepO F q e r = true) : OP X X.mg bs Ex e fun ρ S => r.runO G Γ b ρ S := by
  unfold stepO at h
  split at h
  · exact OPc p_none fun ρ S => by rw [OIR.runO] <;> rfl
  · exact OPc (p_some (s.e h g)) fun ρ S => by rw [OIR.runO] <;> rfl
  · cases h
theorem src_ok (s : Snd F) (g : Good G Γ k q bs b Ex X) {tg e : Expr} {r : Src} (h : stepSrc F q tg e r = true) : PI X tg e (tSrc X.K X.mg bs Ex fun ρ S => r.runS G Γ b ρ S) := by
  unfold stepSrc at h
  split at h
  · exact PIc (p_it (s.e h g)) fun ρ S => by rw [Src.runS] <;> rfl
  · split at h
    · rename_i x p y p2
      simp only [Bool.and_eq_true] at h
      obtain ⟨⟨⟨⟨h1, h2⟩, h3⟩, h4⟩, h5⟩ := h
      obtain rfl := of_decide_eq_true h1
      exact PIc (p_rng1 (g.gl h2).1 (g.blt h3) (s.e h5 g) (star_ok h4)) fun ρ S => by rw [Src.runS] <;> rfl
    · cases h
  · split at h
    · rename_i x p y z p2
      simp only [Bool.and_eq_true] at h
      obtain ⟨⟨⟨⟨⟨⟨h1, h2⟩, h3⟩, h4⟩, h5⟩, h6⟩, h7⟩ := h
      obtain rfl := of_decide_eq_true h1
      exact PIc (p_rng2 (g.gl h2).1 (g.blt h3) (s.e h6 g) (s.e h7 g) (star_ok h4) (star_ok h5)) fun ρ S => by rw [Src.runS] <;> rfl
    · cases h
  · split at h
    · rename_i x p y z p2 es n p3
      simp only [Bool.and_eq_true] at h
      obtain ⟨⟨⟨⟨⟨⟨h1, h2⟩, h3⟩, h4⟩, h5⟩, h6⟩, h7⟩ := h
      obtain rfl := of_decide_eq_true h1
      exact PIc (p_zip (g.gl h2).1 (g.blt h3) (s.e h6 g) (s.e h7 g) (star_ok h4) (star_ok h5)) fun ρ S => by rw [Src.runS] <;> rfl
    · cases h
  · split at h
    · rename_i x p y p2 es n p3
      simp only [Bool.and_eq_true] at h
      obtain ⟨⟨⟨⟨h1, h2⟩, h3⟩, h4⟩, h5⟩ := h
      obtain rfl := of_decide_eq_true h1
      exact PIc (p_enum (g.gl h2).1 (g.blt h3) (s.e h5 g) (star_ok h4)) fun ρ S => by rw [Src.runS] <;> rfl
    · cases h
theorem tests_ok (s : Snd F) (g : Good G Γ k q bs b Ex X) {cs : List Expr} {r : IRs} (h : testsB F q cs r = true) : PTs X cs (tB X.K X.mg bs Ex fun ρ S => r.tests G Γ b ρ S) := by
  unfold testsB at h
  split at h
  · exact PTsc ts_nil fun ρ S => by rw [IRs.tests] <;> rfl
  · exact PTsc (ts_one (s.t h g)) fun ρ S => by
      rw [IRs.tests]
      congr 1
  · cases h
/-- tests -/
theorem t_ok (s : Snd F) (g : Good G Γ k q bs b Ex X) {c : Expr} {r : IR} (h : stepT F q c r = true) : T X X.mg bs Ex c fun ρ S => r.run G Γ b false ρ S := by
  unfold stepT at h
  split at h
  · split at h
    · exact T.cong (t_not (s.t h g)) fun ρ S => by rw [IR.run] <;> rfl
    · cases h
  · split at h
    · rw [Bool.and_eq_true] at h
      exact T.cong (tw_and (s.t h.1 g) (tw_one (s.t h.2 g))).pt fun ρ S => by rw [IR.run] <;> rfl
    · cases h
  · split at h
    · rw [Bool.and_eq_true] at h
      exact T.cong (tw_and (s.t h.1 g) (tw_t (s.t h.2 g))).pt fun ρ S => by rw [IR.run] <;> rfl
    · cases h
  · split at h
    · rw [Bool.and_eq_true] at h
      exact T.cong (tw_or (s.t h.1 g) (tw_one (s.t h.2 g))).pt fun ρ S => by rw [IR.run] <;> rfl
    · cases h
  · split at h
    · rw [Bool.and_eq_true] at h
      exact T.cong (tw_or (s.t h.1 g) (tw_t (s.t h.2 g))).pt fun ρ S => by rw [IR.run] <;> rfl
    · cases h
  · split at h
    · simp only [Bool.and_eq_true] at h
      obtain ⟨⟨⟨h1, h2⟩, h3⟩, h4⟩ := h
      obtain rfl := coB_ok h1
      refine T.cong (t_cmp (o_cmpr g.un _) (ans_isB _) (s.e h3 g) (s.e h4 g) (not_marks h2)) fun ρ S => ?_
      rw [IR.run]
      congr 1
    · cases h
  · split at h
    · simp only [Bool.and_eq_true] at h
      obtain ⟨⟨⟨⟨⟨h1, h2⟩, h3⟩, h4⟩, h5⟩, h6⟩ := h
      obtain rfl := coB_ok h1
      obtain rfl := coB_ok h2
      exact T.cong (t_chain (o_cmpr g.un _) (o_cmpr g.un _) (s.e h4 g) (s.e h5 g) (s.e h6 g) (not_marks h3)) fun ρ S => by rw [IR.run]; rfl
    · cases h
  · rw [Bool.and_eq_true] at h
    exact t_val (s.e h.2 g) (val_test h.1)
end
end Pv

/-! The check of expressions is right: the expressions themselves. -/
namespace Pv
open PySem L2 PySem.Spec PyProof.Rows
section
variable {G : Sig} {Γ : Fns} {k : Nat} {q : Sc} {bs : List Nat} {b : Nat} {Ex : XK} {X : Cx} {F : Fs}
theorem cst_ok {e : Expr} {d : D} {mg : Str → Option Value} (h : cstB e d = true) : E X mg bs Ex e fun _ S => .ok d S := by
  unfold cstB at h
  split at h
  · exact s_non
  · obtain rfl := of_decide_eq_true h
    exact s_bl
  · obtain rfl := of_decide_eq_true h
    exact s_int
  · obtain rfl := of_decide_eq_true h
    exact s_str
  · cases h
theorem bif_ok (s : Snd F) (g : Good G Γ k q bs b Ex X) {md : Bool} {f : Bif} {as : IRs} {x : Str} {y : Expr} {es : List Expr} {p p2 : Pos} (h1 : glB q.sc x = true) (h2 : notStar y = true) (h3 : es.all notStar = true) (h4 : F.as q false (y :: es) as = true)
    (h5 : (match f with
      | .gcd => decide (x = "gcd") && q.tab.gcd
      | f => decide (f.nm = some x) && q.tab.blts.contains x) = true) : E X X.mg bs Ex (.Call (.Name x p) (y :: es) [] p2) fun ρ S => (as.runs G Γ b false ρ S).bind fun xs S1 => bifOf md S1 f xs := by
  obtain ⟨gl, gd⟩ := g.gl h1
  have ha := s.as h4 g
  have nm : ∀ {z : Str} {f : Bif}, (decide (f.nm = some x) && q.tab.blts.contains x) = true → f.nm = some z → z = x ∧ X.mg z = none := fun {z f} h e => by
    obtain ⟨h6, h7⟩ := Bool.and_eq_true_iff.mp h
    have h6 := of_decide_eq_true h6
    rw [e] at h6
    cases h6
    exact ⟨rfl, g.blt h7⟩
  cases f with
  | gcd =>
    obtain ⟨h6, h7⟩ := Bool.and_eq_true_iff.mp h5
    obtain rfl := of_decide_eq_true h6
    exact s_callF c_gcd gl (g.tab.gok h7) gd ha (star_ok h2) (star_none h3)
  | len => obtain ⟨rfl, hm⟩ := nm h5 rfl; exact s_callB c_len gl hm b_len (by decide +kernel) gd ha (star_ok h2) (star_none h3)
  | abs => obtain ⟨rfl, hm⟩ := nm h5 rfl; exact s_callB c_abs gl hm b_abs (by decide +kernel) gd ha (star_ok h2) (star_none h3)
  | int => obtain ⟨rfl, hm⟩ := nm h5 rfl; exact s_callT c_int gl hm b_int (by decide +kernel) gd ha (star_ok h2) (star_none h3)
  | max2 => obtain ⟨rfl, hm⟩ := nm h5 rfl; exact s_callB (c_max2 g.calm) gl hm b_max (by decide +kernel) gd ha (star_ok h2) (star_none h3)
  | min2 => obtain ⟨rfl, hm⟩ := nm h5 rfl; exact s_callB (c_min2 g.calm) gl hm b_min (by decide +kernel) gd ha (star_ok h2) (star_none h3)
  | sum => obtain ⟨rfl, hm⟩ := nm h5 rfl; exact s_callB (c_sum g.calm) gl hm b_sum (by decide +kernel) gd ha (star_ok h2) (star_none h3)
  | any => obtain ⟨rfl, hm⟩ := nm h5 rfl; exact s_callB (c_any g.calm) gl hm b_any (by decide +kernel) gd ha (star_ok h2) (star_none h3)
  | all => obtain ⟨rfl, hm⟩ := nm h5 rfl; exact s_callB (c_all g.calm) gl hm b_all (by decide +kernel) gd ha (star_ok h2) (star_none h3)
  | tuple => obtain ⟨rfl, hm⟩ := nm h5 rfl; exact s_callT c_tuple gl hm b_tuple (by decide +kernel) gd ha (star_ok h2) (star_none h3)
  | list => obtain ⟨rfl, hm⟩ := nm h5 rfl; exact s_callT c_list gl hm b_list (by decide +kernel) gd ha (star_ok h2) (star_none h3)
  | dict => obtain ⟨rfl, hm⟩ := nm h5 rfl; exact s_callT c_dict gl hm b_dict (by decide +kernel) gd ha (star_ok h2) (star_none h3)
  | maxL => obtain ⟨h6, h7⟩ := Bool.and_eq_true_iff.mp h5; exact absurd (of_decide_eq_true h6) (by simp [Bif.nm])
  | minL => obtain ⟨h6, h7⟩ := Bool.and_eq_true_iff.mp h5; exact absurd (of_decide_eq_true h6) (by simp [Bif.nm])
theorem blk_ok (g : Good G Γ k q bs b Ex X) {scope : Scope} {own : List (Str × Nat)} (h : blkC q.N q.sc scope own = true) : BlkOk X.N X.env.scope scope own := by
  rw [g.N, g.sc]
  exact blkOk_by h
/-- a comprehension's parts -/
structure CompOk (G : Sig) (Γ : Fns) (bs : List Nat) (b : Nat) (Ex : XK) (X : Cx) (md : Bool) (own : List Nat) (tg : Tg) (src : Src) (ifs : IRs) (elt : IR) (x t it : Expr) (cs : List Expr) (scope : Scope) (ow : List (Str × Nat)) : Prop where
  hi : PI X t it (tSrc X.K X.mg bs Ex fun ρ S => src.runS G Γ b ρ S)
  ok : BlkOk X.N X.env.scope scope ow
  ho : ow.map (·.2) = own
  hg : Blk X scope fun X' => PG X' t (tGt X.K bs tg.slots (assignTo tg))
  ht : Blk X scope fun X' => PTs X' cs (tB X.K X.mg bs noX fun ρ S => ifs.tests G Γ b ρ S)
  he : Blk X scope fun X' => PE X' x (tE X.K X.mg bs noX fun ρ S => elt.run G Γ b md ρ S)
  hs : ∀ i ∈ tg.slots, i ∈ ow.map (·.2)
  hf : ∀ v, foldedSetIterable it X.env v = pure v
theorem comp_ok (s : Snd F) (g : Good G Γ k q bs b Ex X) {md : Bool} {own : List Nat} {tg : Tg} {src : Src} {ifs : IRs} {elt : IR} {x t it : Expr} {cs : List Expr} {scope : Scope}
    (h : (notSet it && decide ((ownOf q own).map (·.2) = own) && blkC q.N q.sc scope (ownOf q own) && tg.slots.all own.contains && F.src q t it src && chkTg (q.blk scope) tg t && testsB F (q.blk scope) cs ifs && F.e (q.blk scope) md x elt) = true) :
    CompOk G Γ bs b Ex X md own tg src ifs elt x t it cs scope (ownOf q own) := by
  simp only [Bool.and_eq_true] at h
  obtain ⟨⟨⟨⟨⟨⟨⟨h1, h2⟩, h3⟩, h4⟩, h5⟩, h6⟩, h7⟩, h8⟩ := h
  have ok := blk_ok g h3
  have gb := g.blk ok.kind
  have h2 := of_decide_eq_true h2
  refine ⟨s.src h5 g, ok, h2, fun s' H C cl fp => tg_ok (gb s' H C cl fp) tg t h6, fun s' H C cl fp => tests_ok s (gb s' H C cl fp) h7, fun s' H C cl fp => s.e h8 (gb s' H C cl fp), fun i hi => ?_, not_folded h1⟩
  rw [h2]
  have := List.all_eq_true.mp h4 i hi
  simpa using this
theorem comp_run {md : Bool} {own : List Nat} {tg : Tg} {src : Src} {ifs : IRs} {elt : IR} (ρ : Env) (S : Store) : IR.run G Γ b md (.comp own tg src ifs elt) ρ S =
    (src.runS G Γ b ρ S).bind fun w S1 => ((compW (turnOf (assignTo tg) (fun ρ S => ifs.tests G Γ b ρ S) (fun ρ S => elt.run G Γ b md ρ S) (wipeE ρ own)) w S1).calm).bind fun xs S5 => newL md S5 xs := by
  rw [IR.run]
  rfl
theorem e_ok (s : Snd F) (g : Good G Γ k q bs b Ex X) {md : Bool} {e : Expr} {r : IR} (h : stepE F q md e r = true) : E X X.mg bs Ex e fun ρ S => r.run G Γ b md ρ S := by
  have u1 : X.A.units + 1 < cLine := by have := g.un; omega
  unfold stepE at h
  split at h
  · -- var
    split at h
    · rw [Bool.and_eq_true, Bool.and_eq_true] at h
      obtain ⟨⟨h1, h2⟩, h3⟩ := h
      refine E.cong (s_var (by rw [g.N]; exact of_decide_eq_true h1) (by rw [g.sc]; exact vis_ok h2) (nm_ok h3).1 (nm_ok h3).2) fun ρ S => by rw [IR.run] <;> rfl
    · cases h
  · exact E.cong (cst_ok h) fun ρ S => by rw [IR.run] <;> rfl
  · -- glb
    split at h
    · rename_i x y p
      rw [Bool.and_eq_true, Bool.and_eq_true] at h
      obtain ⟨⟨h1, h2⟩, h3⟩ := h
      obtain rfl := of_decide_eq_true h1
      obtain ⟨pr, hp, hx⟩ := List.any_eq_true.mp h3
      have hx := of_decide_eq_true hx
      obtain ⟨e1, v, u, e2, e3, e4⟩ := g.tab.vok pr hp
      rw [hx] at e1 e2
      refine E.cong (s_glb (o := some pr.2) (g.gl h2).1 e2 e3 (fun d e W => by cases e; exact e4 W) (g.gl h2).2) fun ρ S => ?_
      rw [IR.run, e1]
    · cases h
  · split at h
    · exact E.cong (s_neg (s.e h g)) fun ρ S => by rw [IR.run] <;> rfl
    · cases h
  · split at h
    · exact E.cong (s_not (s.e h g)) fun ρ S => by rw [IR.run] <;> rfl
    · cases h
  · -- bin
    split at h
    · simp only [Bool.and_eq_true] at h
      obtain ⟨⟨h1, h2⟩, h3⟩ := h
      obtain rfl := opB_ok h1
      exact E.cong (s_bin (o_bin _) (s.e h2 g) (s.e h3 g)) fun ρ S => by rw [IR.run] <;> rfl
    · cases h
  · -- cmp
    split at h
    · simp only [Bool.and_eq_true] at h
      obtain ⟨⟨⟨h1, h2⟩, h3⟩, h4⟩ := h
      obtain rfl := coB_ok h1
      refine E.cong (s_cmp (o_cmpr g.un _) (s.e h3 g) (s.e h4 g) (not_marks h2)) fun ρ S => ?_
      rw [IR.run]
      congr 1
    · cases h
  · split at h
    · simp only [Bool.and_eq_true] at h
      obtain ⟨⟨⟨⟨⟨h1, h2⟩, h3⟩, h4⟩, h5⟩, h6⟩ := h
      obtain rfl := coB_ok h1
      obtain rfl := coB_ok h2
      exact E.cong (s_chain (o_cmpr g.un _) (o_cmpr g.un _) (s.e h4 g) (s.e h5 g) (s.e h6 g) (not_marks h3)) fun ρ S => by rw [IR.run] <;> rfl
    · cases h
  · -- and
    split at h
    · rw [Bool.and_eq_true] at h
      exact E.cong (s_and (s.e h.1 g) (s_one (s.e h.2 g))) fun ρ S => by rw [IR.run] <;> rfl
    · rw [Bool.and_eq_true] at h
      exact E.cong (s_and (s.e h.1 g) (s.e h.2 g)) fun ρ S => by rw [IR.run] <;> rfl
    · cases h
  · split at h
    · rw [Bool.and_eq_true] at h
      exact E.cong (s_or (s.e h.1 g) (s_one (s.e h.2 g))) fun ρ S => by rw [IR.run] <;> rfl
    · rw [Bool.and_eq_true] at h
      exact E.cong (s_or (s.e h.1 g) (s.e h.2 g)) fun ρ S => by rw [IR.run] <;> rfl
    · cases h
  · split at h
    · simp only [Bool.and_eq_true] at h
      exact E.cong (s_ite (s.t h.1.1 g) (s.e h.1.2 g) (s.e h.2 g)) fun ρ S => by rw [IR.run] <;> rfl
    · cases h
  · -- call
    split at h
    · rename_i f as eV x p es p2
      simp only [Bool.and_eq_true] at h
      obtain ⟨⟨⟨⟨⟨h1, h2⟩, h3⟩, h4⟩, h4'⟩, h5⟩ := h
      obtain rfl := of_decide_eq_true h1
      obtain ⟨gl, gd⟩ := g.gl h2
      obtain ⟨pr, hp, hx⟩ := List.any_eq_true.mp h4
      obtain ⟨hx1, hx2⟩ := Bool.and_eq_true_iff.mp hx
      have hx1 := of_decide_eq_true hx1
      have hx2 := of_decide_eq_true hx2
      obtain ⟨_, Fn, _⟩ := g.tab.fok pr hp
      have ha := s.as h5 g
      rw [hx1] at Fn
      cases es with
      | nil =>
        have hps := hx2.resolve_left (by simp)
        cases as with
        | nil =>
          exact E.cong (s_call0 Fn g.room g.takes gl gd hps) fun ρ S => by
            rw [IR.run, IRs.runs]
            rfl
        | cons _ _ => exact Bool.noConfusion (show false = true from h4')
      | cons y es =>
        obtain ⟨h6, h7⟩ := Bool.and_eq_true_iff.mp (show (notStar y && es.all notStar) = true from h3)
        exact E.cong (s_call Fn g.room g.takes gl gd ha (star_ok h6) (star_none h7)) fun ρ S => by rw [IR.run] <;> rfl
    · cases h
  · -- callK
    split at h
    · rename_i f as ks ws eV x p es kws p2
      simp only [Bool.and_eq_true] at h
      obtain ⟨⟨⟨⟨⟨⟨⟨⟨⟨h1, h2⟩, h3⟩, h4⟩, h5⟩, h5'⟩, h6⟩, h6'⟩, h7⟩, h8⟩ := h
      obtain rfl := of_decide_eq_true h1
      obtain rfl := of_decide_eq_true h5
      have h5' := of_decide_eq_true h5'
      obtain ⟨gl, gd⟩ := g.gl h2
      obtain ⟨pr, hp, hx⟩ := List.any_eq_true.mp h6
      obtain ⟨hx1, hx2⟩ := Bool.and_eq_true_iff.mp hx
      obtain rfl := of_decide_eq_true hx1
      obtain ⟨eps, Fn, kw⟩ := g.tab.fok pr hp
      have hkw := kw _ (by simpa using hx2)
      have lk : ∀ ρ S ds S', ws.runs G Γ b false ρ S = .ok ds S' → ds.length = (kwNames kws).length := fun ρ S ds S' e => (kw_len h8 ρ S ds S' e).trans h5'
      cases es with
      | nil =>
        cases as with
        | nil =>
          exact E.cong (s_callK0 Fn hkw g.room g.takes gl gd (kw_ok s g h8) (kw_all h4) kw_names (by rw [kw_any h4]; rfl) lk) fun ρ S => by
            rw [IR.run, IRs.runs, eps]
            rfl
        | cons _ _ => exact Bool.noConfusion (show false = true from h6')
      | cons y es =>
        obtain ⟨h9, h10⟩ := Bool.and_eq_true_iff.mp (show (notStar y && es.all notStar) = true from h3)
        exact E.cong (s_callK Fn hkw g.room g.takes gl gd (as_ok s g h7) (kw_ok s g h8) (kw_all h4) kw_names (star_ok h9) (by rw [star_none h3, kw_any h4]; rfl) (run_len h7) lk) fun ρ S => by
          rw [IR.run, eps]
    · cases h
  · -- bif
    split at h
    · simp only [Bool.and_eq_true] at h
      obtain ⟨⟨⟨⟨h1, h2⟩, h3⟩, h4⟩, h5⟩ := h
      exact E.cong (bif_ok s g h1 h2 h3 h4 h5) fun ρ S => by rw [IR.run] <;> rfl
    · cases h
  · -- inst
    split at h
    · simp only [Bool.and_eq_true] at h
      obtain ⟨⟨⟨⟨⟨h1, h2⟩, h3⟩, h4⟩, h5⟩, h6⟩ := h
      obtain rfl := of_decide_eq_true h1
      split at h6
      · obtain ⟨ht, hn⟩ := g.ty h6
        exact E.cong (s_inst1 (g.gl h2).1 (g.blt h3) ht (s.e h5 g) (star_ok h4) (star_ok hn)) fun ρ S => by rw [IR.run] <;> rfl
      · split at h6
        · obtain ⟨h7, h8⟩ := Bool.and_eq_true_iff.mp h6
          obtain ⟨ht, hn⟩ := g.ty h7
          obtain ⟨hu, hn2⟩ := g.ty h8
          exact E.cong (s_inst2 (g.gl h2).1 (g.blt h3) ht hu (s.e h5 g) (star_ok h4) (star_ok hn) (star_ok hn2)) fun ρ S => by rw [IR.run] <;> rfl
        · cases h6
      · cases h6
    · cases h
  · split at h
    · simp only [Bool.and_eq_true] at h
      exact E.cong (s_ix u1 (s.e h.1.2 g) (s.e h.2 g) (plain_ix h.1.1)) fun ρ S => by rw [IR.run] <;> rfl
    · cases h
  · split at h
    · simp only [Bool.and_eq_true] at h
      exact E.cong (s_sl (s.e h.1.1 g) (s.o h.1.2 g) (s.o h.2 g)) fun ρ S => by rw [IR.run] <;> rfl
    · cases h
  · split at h
    · rw [Bool.and_eq_true] at h
      obtain rfl := of_decide_eq_true h.1
      exact E.cong (s_rev (s.e h.2 g)) fun ρ S => by rw [IR.run] <;> rfl
    · cases h
  · split at h
    · exact E.cong (s_tup (s.as h g)) fun ρ S => by rw [IR.run] <;> rfl
    · cases h
  · split at h
    · exact E.cong (s_lst (s.as h g)) fun ρ S => by rw [IR.run] <;> rfl
    · cases h
  · split at h
    · exact E.cong (s_new (md := md)) fun ρ S => by
        rw [IR.run, IRs.runs]
        rfl
    · cases h
  · -- comp
    split at h
    · obtain c := comp_ok s g h
      refine E.cong (s_lc (md := md) g.calm (by rw [g.N]; exact g.nd) c.hi c.ok c.hg c.ht c.he c.hs c.hf) fun ρ S => ?_
      rw [comp_run, c.ho]
    · cases h
  · -- the keys of a dict
    split at h
    · simp only [Bool.and_eq_true] at h
      obtain ⟨⟨⟨⟨⟨⟨⟨⟨h1, h2⟩, h3⟩, h4⟩, h5⟩, h6⟩, h7⟩, h8⟩, h9⟩ := h
      have ok := blk_ok g h5
      have gb := g.blk ok.kind
      have h4 := of_decide_eq_true h4
      refine E.cong (s_lcD (md := md) g.calm (by rw [g.N]; exact g.nd) (pe_var (by rw [g.N]; exact of_decide_eq_true h1) (by rw [g.sc]; exact vis_ok h2) (nm_ok h3).1 (nm_ok h3).2) ok (fun s' H C cl fp => tg_ok (gb s' H C cl fp) _ _ h7) (fun s' H C cl fp => tests_ok s (gb s' H C cl fp) h8) (fun s' H C cl fp => s.e h9 (gb s' H C cl fp)) (fun i hi => ?_)) fun ρ S => ?_
      · rw [h4]
        have := List.all_eq_true.mp h6 i hi
        simpa using this
      · rw [IR.run, h4]
        rfl
    · cases h
  · -- append
    split at h
    · rename_i o x y n p z p2
      simp only [Bool.and_eq_true] at h
      obtain ⟨⟨⟨⟨⟨h1, h2⟩, h3⟩, h4⟩, h5⟩, h6⟩ := h
      obtain rfl := of_decide_eq_true h1
      have hz : ([z] : List Expr).all notStar = true := by simp [h3]
      refine E.cong (s_app (n := b) g.hb (s.e h5 g) (s.e h6 g) (star_ok h3) (attr_base h2) ?_ (by simpa using of_decide_eq_true h4) rfl) fun ρ S => by rw [IR.run] <;> rfl
      rw [star_all hz]
      rfl
    · cases h
  · cases h
end
end Pv

/-! The check of statements. -/
namespace Pv
open PySem L2 PySem.Spec PyProof.Rows
theorem chk_snd : ∀ n, Snd (chk n)
  | 0 => ⟨fun h => (Bool.noConfusion (show false = true from h)), fun h => (Bool.noConfusion (show false = true from h)), fun h => (Bool.noConfusion (show false = true from h)), fun h => (Bool.noConfusion (show false = true from h)), fun h => (Bool.noConfusion (show false = true from h)), fun h => (Bool.noConfusion (show false = true from h))⟩
  | n + 1 => ⟨fun h _ _ _ _ _ _ _ g => e_ok (chk_snd n) g h, fun h _ _ _ _ _ _ _ g => t_ok (chk_snd n) g h, fun h _ _ _ _ _ _ _ g => as_ok (chk_snd n) g h, fun h _ _ _ _ _ _ _ g => o_ok (chk_snd n) g h, fun h _ _ _ _ _ _ _ g => src_ok (chk_snd n) g h, fun h _ _ _ _ _ _ _ g => kw_ok (chk_snd n) g h⟩
/-! ### clauses -/
def partsB (en : Str) (f : Str) : List Expr → List Hp → Bool
  | [], [] => true
  | .Constant (.str z) _ _ :: es, .str y :: r => decide (z = y) && partsB en f es r
  | .Constant .none _ _ :: es, .non :: r => partsB en f es r
  | .Attribute (.Name n _) g _ :: es, .fld h :: r => decide (n = en) && decide (g = h) && decide (h = f) && partsB en f es r
  | _, _ => false
def hdB (q : Sc) (h : ExceptHandler) (d : Hd) : Bool := match h, d with
  | .ExceptHandler (some (.Name x _)) nm st _, ⟨cx, oth, ans⟩ => glB q.sc x && decide (cx = x) && (match ans with
    | none => q.tab.skp.contains (x, oth)
    | some (true, parts) => (match nm, st with
      | some n, [.Return (some (.List es _)) _] => decide (parts.length ≤ LIM) && decide (q.sc.names.lookup n = some .local) && nmB n && q.N.contains n && (q.tab.hds.any fun p => decide (p.1 = x) && decide (p.2.2 = oth) && partsB n p.2.1 es parts)
      | _, _ => false)
    | _ => false)
  | _, _ => false
def hdsB (q : Sc) : List ExceptHandler → List Hd → Bool
  | [], [] => true
  | h :: hs, d :: ds => hdB q h d && hdsB q hs ds
  | _, _ => false
section
variable {G : Sig} {Γ : Fns} {k : Nat} {q : Sc} {bs : List Nat} {b : Nat} {Ex : XK} {X : Cx}
theorem parts_ok {mg : Str → Option Value} {cx : Str} {i : Nat} {a C : Addr} {oe : Obj} {cls : Value} {d : Option Addr} {pl : List (Addr × Obj)} {en f : Str} (T : XfC X.K C) (hno : PySem.W.findIn X.K (.ref C) f = some none) (hC : mg cx = some (.ref C)) (hz : Zc cls d oe) (hf : ∃ vs, oe.data = .fields vs) (he : ∀ p, PE (X.suite a ((a, oe) :: pl)) (.Name en p) (tVar i)) :
    ∀ {es : List Expr} {parts : List Hp}, partsB en f es parts = true → PA (X.suite a ((a, oe) :: pl)) es (tPa X.K mg bs cx i parts a cls d)
  | [], [], _ => cl_nil
  | .Constant (.str z) _ _ :: es, .str y :: r, h => by
    rw [partsB, Bool.and_eq_true] at h
    obtain rfl := of_decide_eq_true h.1
    exact cl_str (parts_ok T hno hC hz hf he h.2) rfl
  | .Constant .none _ _ :: es, .non :: r, h => by
    rw [partsB] at h
    exact cl_non (parts_ok T hno hC hz hf he h) rfl
  | .Attribute (.Name n _) g _ :: es, .fld h' :: r, h => by
    rw [partsB, Bool.and_eq_true, Bool.and_eq_true, Bool.and_eq_true] at h
    obtain ⟨⟨⟨h1, h2⟩, h3⟩, h4⟩ := h
    obtain rfl := of_decide_eq_true h1
    obtain rfl := of_decide_eq_true h2
    obtain rfl := of_decide_eq_true h3
    exact cl_fld T hno hC hz hf (he _) rfl (parts_ok T hno hC hz hf he h4) rfl
theorem hds_ok (g : Good G Γ k q bs b Ex X) : ∀ {hs : List ExceptHandler} {ds : List Hd}, hdsB q hs ds = true → ∃ m, HdsE X bs hs ds m
  | [], [], _ => ⟨[], .nil⟩
  | [], _ :: _, h => by simp [hdsB] at h
  | _ :: _, [], h => by simp [hdsB] at h
  | hd :: hs, d :: ds, h => by
    rw [hdsB, Bool.and_eq_true] at h
    obtain ⟨m, r⟩ := hds_ok g h.2
    have h1 := h.1
    unfold hdB at h1
    split at h1
    · rename_i x p nm st p2 cx oth ans
      rw [Bool.and_eq_true, Bool.and_eq_true] at h1
      obtain ⟨⟨h2, h3⟩, h4⟩ := h1
      obtain rfl := of_decide_eq_true h3
      obtain ⟨gl, gd⟩ := g.gl h2
      split at h4
      · obtain ⟨C, c1, c2⟩ := g.tab.sok _ (List.contains_iff_mem.mp h4)
        exact ⟨_, .skip ⟨gl, gd, .inl c1⟩ c2 r⟩
      · rename_i parts
        split at h4
        · rename_i n es p3 p4
          simp only [Bool.and_eq_true] at h4
          obtain ⟨⟨⟨⟨h5, h6⟩, h7⟩, h8⟩, h9⟩ := h4
          obtain ⟨pr, hp, hx⟩ := List.any_eq_true.mp h9
          rw [Bool.and_eq_true, Bool.and_eq_true] at hx
          obtain ⟨⟨x1, x2⟩, x3⟩ := hx
          obtain rfl := of_decide_eq_true x1
          obtain rfl := of_decide_eq_true x2
          obtain ⟨C, c1, c2, c3, c4, c5⟩ := g.tab.hok pr hp
          obtain ⟨i, hi⟩ := List.getElem?_of_mem (List.contains_iff_mem.mp h8)
          have hl : X.env.kindOf n = some .local := by
            show X.env.scope.names.lookup n = _
            rw [g.sc]
            exact of_decide_eq_true h6
          have hN : X.N[i]? = some n := by rw [g.N]; exact hi
          refine ⟨_, .take ⟨gl, gd, .inl c1⟩ c1 c2 c5 hN hl (fun a ob cls dc pl hz hf => cl_retL (of_decide_eq_true h5) (parts_ok c3 c4 c1 hz hf (fun p => ?_) x3)) r⟩
          exact pe_var hN (.inl hl) (nm_ok h7).1 (nm_ok h7).2
        · cases h4
      · cases h4
    · cases h1
end
end Pv

/-! The check of statements. -/
namespace Pv
open PySem L2 PySem.Spec PyProof.Rows
/-- name = [..] on one line -/
def swB (s : Scope) (x : Str) (p : Pos) (scope : Scope) (pos : Pos) : Bool := decide (s.names.lookup x = some .local) && (p.line == pos.line && !(scope.names.any fun (n, k) => n == x && (k == .local || k == .cell)))
def isComp : Expr → Bool
  | .ListComp _ [⟨_, _, _, 0⟩] _ _ => true
  | _ => false
def chkL (f : Stmt → ST → Bool) : List Stmt → STs → Bool
  | [], .nil => true
  | s :: ss, .cons t ts => f s t && chkL f ss ts
  | _, _ => false
def parB (sc : Scope) (t e : Expr) : Bool := match t, e with
  | .Tuple ts _ _, .Tuple vs _ _ => notPar sc ts vs
  | t, e => notTup t || notTup e
def chkS (F : Fs) : Nat → Sc → Stmt → ST → Bool
  | 0, _, _, _ => false
  | n + 1, q, st, t => match t with
    | .set i md r => (match st with
      | .Assign [.Name x p] e _ => mayStore q i x && (notComp e && F.e q md e r || (match e, r with
        | .ListComp y [⟨tg, it, cs, 0⟩] scope pos, .comp own tg' src ifs elt => (notSet it && decide ((ownOf q own).map (·.2) = own) && blkC q.N q.sc scope (ownOf q own) && tg'.slots.all own.contains && F.src q tg it src && chkTg (q.blk scope) tg' tg && testsB F (q.blk scope) cs ifs && F.e (q.blk scope) md y elt) && swB q.sc x p scope pos || !(swB q.sc x p scope pos) && F.e q md e r
        | .ListComp y gs scope pos, r => !(swB q.sc x p scope pos) && F.e q md e r
        | _, _ => false))
      | _ => false)
    | .setT tg md r => (match st with
      | .Assign [t] e _ => notStar t && notComp e && parB q.sc t e && chkTg q tg t && F.e q md e r
      | _ => false)
    | .par i j md a b => (match st with
      | .Assign [.Tuple ts _ _] (.Tuple [x, y] _ _) _ => (match parNames q.sc ts with
        | some (u, v) => decide (q.N[i]? = some u) && decide (q.N[j]? = some v) && decide (i ≠ j) && notStar x && notStar y && !(foldedForSure 8 x && foldedForSure 8 y) && !(constantsAlone 8 x && constantsAlone 8 y) && F.e q md x a && F.e q md y b
        | none => false)
      | _ => false)
    | .setIx o i r => (match st with
      | .Assign [.Subscript x y _] e _ => notSlice y && notComp e && F.e q false e r && F.e q false x o && F.e q false y i
      | _ => false)
    | .iff c a b => (match st with
      | .If x xs ys _ => F.t q x c && chkL (chkS F n q) xs a && chkL (chkS F n q) ys b
      | _ => false)
    | .for tg src body => (match st with
      | .For t it xs [] _ => notSet it && F.src q t it src && chkTg q tg t && chkL (chkS F n q) xs body
      | _ => false)
    | .whl c body => (match st with
      | .While x xs [] _ => F.t q x c && chkL (chkS F n q) xs body
      | _ => false)
    | .ret md r => (match st with
      | .Return (some e) _ => F.e q md e r
      | _ => false)
    | .retN => (match st with
      | .Return none _ => true
      | _ => false)
    | .raise c as => (match st, as with
      | .Raise (some (.Call (.Name x _) [y] [] _)) none _, .cons a .nil => decide (x = c) && glB q.sc x && notStar y && (q.tab.ecs.any fun p => decide (p.1 = x)) && F.e q false y a
      | _, _ => false)
    | .tri body hs => (match st with
      | .Try xs (h :: hds) [] [] _ => chkL (chkS F n q) xs body && hdsB q (h :: hds) hs
      | _ => false)
    | .expr r => (match st with
      | .Expr e _ => notComp e && F.e q false e r
      | _ => false)
    | .pass => (match st with
      | .Pass _ => true
      | _ => false)
    | _ => false
structure GoodS (G : Sig) (Γ : Fns) (k : Nat) (q : Sc) (bs : List Nat) (b : Nat) (Ex : XK) (X : Cx) : Prop where
  g : Good G Γ k q bs b Ex X
  owns : PassesOwn (model X.prog X.w) X.A X.env X.xe
  hst : X.stack = X.env :: X.outer
  hf : X.env.frame = some X.env.locals
section
variable {G : Sig} {Γ : Fns} {k : Nat} {q : Sc} {bs : List Nat} {b : Nat} {Ex : XK} {X : Cx} {F : Fs}
theorem GoodS.tr (g : GoodS G Γ k q bs b Ex X) {Ex' : XK} {pl : List (Addr × Obj)} {xe : Value → Shared → Prop} (tk : Takes (X.tr pl xe) fun c d _ H => Ex' c d H) (po : PassesOwn (model X.prog X.w) X.A X.env xe) : GoodS G Γ k q bs b Ex' (X.tr pl xe) :=
  ⟨⟨g.g.N, g.g.nd, g.g.sc, g.g.kind, g.g.fn, g.g.calm, g.g.k2, g.g.room, tk, g.g.hb, g.g.tab⟩, po, g.hst, g.hf⟩
theorem SS.cong {st : Stmt} {r r' : Env → Store → Res Fl} {mg : Str → Option Value} (h : SS X mg bs Ex st r) (h2 : ∀ ρ S, r' ρ S = r ρ S) : SS X mg bs Ex st r' := (show r' = r from funext fun ρ => funext fun S => h2 ρ S) ▸ h
theorem SSs.cong {st : List Stmt} {r r' : Env → Store → Res Fl} {mg : Str → Option Value} (h : SSs X mg bs Ex st r) (h2 : ∀ ρ S, r' ρ S = r ρ S) : SSs X mg bs Ex st r' := (show r' = r from funext fun ρ => funext fun S => h2 ρ S) ▸ h
theorem l_ok {f : Stmt → ST → Bool} (hf : ∀ {st t}, f st t = true → SS X X.mg bs Ex st fun ρ S => t.exec G Γ b ρ S) : ∀ {sts : List Stmt} {ts : STs}, chkL f sts ts = true → SSs X X.mg bs Ex sts fun ρ S => ts.execs G Γ b ρ S
  | [], .nil, _ => SSs.cong ss_nil fun ρ S => by rw [STs.execs] <;> rfl
  | st :: sts, .cons t ts, h => by
    rw [chkL, Bool.and_eq_true] at h
    exact SSs.cong (ss_cons (hf h.1) (l_ok hf h.2)) fun ρ S => by rw [STs.execs] <;> rfl
  | [], .cons _ _, h => by simp [chkL] at h
  | _ :: _, .nil, h => by simp [chkL] at h
theorem sw_eq {y : Expr} {gs : List Comprehension} {scope : Scope} {pos p : Pos} {x : Str} {l : Nat} {env : PySem.Env} (hk : env.scope.kind = .function) : swapsWith (.ListComp y gs scope pos) (some (.Name x p)) l env = pure (swB env.scope x p scope pos) := by
  have kb : env.blockKind = .function := by unfold Env.blockKind; rw [hk]; rfl
  unfold swapsWith swB Env.kindOf
  simp only [kb, Expr.pos]
  congr 1
  cases env.scope.names.lookup x with
  | none => rfl
  | some kd => cases kd <;> simp <;> rfl
theorem s_ok (s : Snd F) : ∀ (n : Nat) {q : Sc} {bs : List Nat} {b : Nat} {Ex : XK} {X : Cx}, GoodS G Γ k q bs b Ex X → ∀ {st : Stmt} {t : ST}, chkS F n q st t = true → SS X X.mg bs Ex st fun ρ S => t.exec G Γ b ρ S
  | 0, _, _, _, _, _, _, _, _, h => Bool.noConfusion (show false = true from h)
  | n + 1, q, bs, b, Ex, X, g, st, t, h => by
    have nd : X.N.Nodup := by rw [g.g.N]; exact g.g.nd
    have hk : X.env.scope.kind = .function := by rw [g.g.sc]; exact g.g.kind
    unfold chkS at h
    split at h
    · -- set
      split at h
      · rename_i i md r stv x p e pos
        rw [Bool.and_eq_true] at h
        obtain ⟨h1, h2⟩ := h
        obtain ⟨i1, i2, i3⟩ := g.g.store h1
        rw [Bool.or_eq_true] at h2
        rcases h2 with h2 | h2
        · rw [Bool.and_eq_true] at h2
          exact SS.cong (ss_set nd i1 i2 (s.e h2.2 g.g) (no_swap h2.1) i3) fun ρ S => by rw [ST.exec] <;> rfl
        · have out : ∀ {y gs scope pos'}, e = .ListComp y gs scope pos' → (!(swB q.sc x p scope pos') && F.e q md e r) = true → SS X X.mg bs Ex (.Assign [.Name x p] e pos) fun ρ S => (ST.set i md r).exec G Γ b ρ S := fun {y gs scope pos'} ee h2 => by
            rw [Bool.and_eq_true] at h2
            have sw : swB q.sc x p scope pos' = false := by simpa using h2.1
            exact SS.cong (ss_set nd i1 i2 (s.e h2.2 g.g) (by rw [ee, sw_eq hk, g.g.sc, sw]) i3) fun ρ S => by rw [ST.exec] <;> rfl
          split at h2
          · rw [Bool.or_eq_true] at h2
            rcases h2 with h2 | h2
            case inr => exact out rfl h2
            rw [Bool.and_eq_true] at h2
            have c := comp_ok s g.g h2.1
            have sw := h2.2
            have hl : X.env.scope.names.lookup x = some .local := by
              rw [g.g.sc]
              exact of_decide_eq_true (Bool.and_eq_true_iff.mp sw).1
            refine SS.cong (ss_setLc (md := md) g.g.calm nd i1 hl (by rw [sw_eq hk, g.g.sc, sw]) c.hi c.ok c.hg c.ht c.he c.hs c.hf) fun ρ S => ?_
            rw [ST.exec, comp_run, c.ho]
          · exact out rfl h2
          · cases h2
      · cases h
    · -- setT
      split at h
      · rename_i tg md r stv t e pos
        simp only [Bool.and_eq_true] at h
        obtain ⟨⟨⟨⟨h1, h2⟩, h3⟩, h4⟩, h5⟩ := h
        refine SS.cong (ss_asg (s.e h5 g.g) (tg_ok g.g tg t h4) (no_swap h2) ?_ (assign_each h1)) fun ρ S => by rw [ST.exec] <;> rfl
        unfold parB at h3
        split at h3
        · exact not_par g.g.sc h3
        · rcases (Bool.or_eq_true _ _).mp h3 with z | z
          · exact no_stores z
          · exact no_stores2 z
      · cases h
    · -- par
      split at h
      · split at h
        · rename_i u v hp
          simp only [Bool.and_eq_true, Bool.not_eq_true'] at h
          obtain ⟨⟨⟨⟨⟨⟨⟨⟨h1, h2⟩, h3⟩, h4⟩, h5⟩, h6⟩, h7⟩, h8⟩, h9⟩ := h
          obtain ⟨px, py, rfl, hw⟩ := par_stores g.g.sc g.g.kind hp h4 h5 h6 h7
          have hp' := hp
          unfold parNames at hp'
          dsimp only at hp'
          split at hp'
          · rename_i hc
            refine SS.cong (ss_par g.g.calm nd (by rw [g.g.N]; exact of_decide_eq_true h1) (by rw [g.g.N]; exact of_decide_eq_true h2) (of_decide_eq_true h3) (by rw [g.g.sc]; exact hc.1) (by rw [g.g.sc]; exact hc.2.1) (s.e h8 g.g) (s.e h9 g.g) (star_ok h4) (star_ok h5) hw rfl) fun ρ S => by rw [ST.exec] <;> rfl
          · cases hp'
        · cases h
      · cases h
    · -- setIx
      split at h
      · rename_i x y p e pos
        simp only [Bool.and_eq_true] at h
        obtain ⟨⟨⟨⟨h1, h2⟩, h3⟩, h4⟩, h5⟩ := h
        exact SS.cong (ss_setIx g.g.hb (by have := g.g.un; omega) (s.e h3 g.g) (s.e h4 g.g) (s.e h5 g.g) (sub_assign h1) (show swapsWith e (some (.Subscript x y p)) pos.line X.env = pure false from no_swap h2) (no_stores rfl) (assign_each rfl)) fun ρ S => by rw [ST.exec] <;> rfl
      · cases h
    · split at h
      · simp only [Bool.and_eq_true] at h
        exact SS.cong (ss_if (s.t h.1.1 g.g) (l_ok (s_ok s n g) h.1.2) (l_ok (s_ok s n g) h.2)) fun ρ S => by rw [ST.exec] <;> rfl
      · cases h
    · split at h
      · simp only [Bool.and_eq_true] at h
        obtain ⟨⟨⟨h1, h2⟩, h3⟩, h4⟩ := h
        exact SS.cong (ss_for g.owns g.g.calm (s.src h2 g.g) (tg_ok g.g _ _ h3) (l_ok (s_ok s n g) h4) (not_folded h1)) fun ρ S => by rw [ST.exec] <;> rfl
      · cases h
    · split at h
      · rw [Bool.and_eq_true] at h
        exact SS.cong (ss_while (n := FUEL) g.owns (s.t h.1 g.g) (l_ok (s_ok s n g) h.2)) fun ρ S => by rw [ST.exec] <;> rfl
      · cases h
    · split at h
      · exact SS.cong (ss_ret (s.e h g.g)) fun ρ S => by rw [ST.exec] <;> rfl
      · cases h
    · split at h
      · exact SS.cong ss_retN fun ρ S => by rw [ST.exec] <;> rfl
      · cases h
    · -- raise
      split at h
      · rename_i c as x p y p1 p2 a
        simp only [Bool.and_eq_true] at h
        obtain ⟨⟨⟨⟨h1, h2⟩, h3⟩, h4⟩, h5⟩ := h
        obtain rfl := of_decide_eq_true h1
        obtain ⟨gl, gd⟩ := g.g.gl h2
        obtain ⟨pr, hp, hx⟩ := List.any_eq_true.mp h4
        obtain rfl := of_decide_eq_true hx
        obtain ⟨⟨cl⟩, hΓ⟩ := g.g.tab.eok pr hp
        refine SS.cong (ss_raise cl g.g.calm (g.g.room.mono g.g.k2) g.g.takes gl gd (s.e h5 g.g) (star_ok h3) rfl) fun ρ S => ?_
        rw [ST.exec, IRs.runs]
        cases IR.run G Γ b false a ρ S with
        | ok d S1 =>
          dsimp only [Res.bind]
          rw [IRs.runs]
          dsimp only [Res.bind]
          rw [hΓ]
        | exc x S1 => rfl
        | bad => rfl
      · cases h
    · -- try
      split at h
      · rw [Bool.and_eq_true] at h
        obtain ⟨m, hm⟩ := hds_ok g.g h.2
        refine SS.cong (ss_try g.hst g.hf nd g.g.takes hm fun Ex' pl xe tk po => l_ok (s_ok s n (g.tr tk po)) h.1) fun ρ S => by rw [ST.exec] <;> rfl
      · cases h
    · split at h
      · rw [Bool.and_eq_true] at h
        exact SS.cong (ss_expr (s.e h.2 g.g) (no_swap h.1)) fun ρ S => by rw [ST.exec] <;> rfl
      · cases h
    · split at h
      · exact SS.cong ss_pass fun ρ S => by rw [ST.exec] <;> rfl
      · cases h
    · cases h
end
end Pv

/-! All defs of a text, so many calls deep. -/
namespace Pv
open PySem L2 PySem.Spec PyProof.Rows
/-- bindArgs without keywords, with keywords -/
abbrev Bind0 (x qual : Str) (params : Arguments) (body : List Stmt) (scope : Scope) (ps : List Str) : Prop := ∀ (kV doc pm : Value) (an : Option Addr) (cdv ct : Value) (us : List Value), us.length = ps.length → bindArgs (PySem.W.fnOf x qual params body scope .none kV doc pm an cdv ct) ⟨us, []⟩ = pure (ps.zip us)
abbrev BindK (x qual : Str) (params : Arguments) (body : List Stmt) (scope : Scope) (ps : List Str) (n : Nat) (ks : List Str) : Prop := ∀ (kV doc pm : Value) (an : Option Addr) (cdv ct : Value) (us ws : List Value), us.length = n → ws.length = ks.length →
  bindArgs (PySem.W.fnOf x qual params body scope .none kV doc pm an cdv ct) ⟨us, ks.zip ws⟩ = pure (ps.zip (bindK ps us ks ws))
theorem kw_at {K : PySem.W.Frag} {x qual : Str} {params : Arguments} {body : List Stmt} {scope : Scope} {ps : List Str} {f : Addr} {fd : FuncData} {n : Nat} {ks : List Str} (F : FunD K x qual params body scope [] [] f fd) (h : BindK x qual params body scope ps n ks) : KwAt fd ps n ks := by
  intro s us ws h1 h2
  obtain ⟨oc, od, dV, kV, doc, pm, an, cdv, ct, osl, rfl, lk, hcd, hD, hK⟩ := F.ex
  rcases hD with ⟨_, rfl⟩ | ⟨e, _⟩
  · exact .of_eq (h kV doc pm an cdv ct us ws h1 h2)
  · exact absurd rfl e
structure DefAt (K : PySem.W.Frag) (mg : Str → Option Value) (G : Sig) (fs : List Fn) (tb : Tab) (q : Str × List Str × List (Nat × List Str)) : Prop where
  ps : G.ps q.1 = q.2.1
  ex : ∃ (fr : Fn) (qual : Str) (params : Arguments) (body : List Stmt) (scope : Scope) (f : Addr) (fd : FuncData), fs.find? (fun g => decide (g.name = q.1)) = some fr ∧ fr.ps = q.2.1 ∧ FunD K q.1 qual params body scope [] [] f fd ∧ FnScope fr.N fr.ps scope ∧
    (∃ n m, chkL (chkS (chk n) m ⟨fr.N, scope, none, tb⟩) body fr.body = true) ∧ mg q.1 = some (.ref f) ∧ Bind0 q.1 qual params body scope q.2.1 ∧ ∀ p ∈ q.2.2, BindK q.1 qual params body scope q.2.1 p.1 p.2
theorem body_good {P : Program} {w : World} {K : PySem.W.Frag} {mg : Str → Option Value} {base : Heap} {G : Sig} {Γ : Fns} {k : Nat} {tb : Tab} {N ps : List Str} {qual : Str} {scope : Scope} {f : Addr} {cdv : Value} {A : Around} {outer : List PySem.Env} {s : Shared} {H : L2.Hp} {E : XK} {bs : List Nat} {b : Nat}
    (S : FnScope N ps scope) (hk : 2 ≤ k) (hr : Room k (A.deeper (envOfC qual scope s.heap.objs.size f cdv))) (hb : ∀ c ∈ bs, c ≤ b) (tab : TabOk P w K mg base G Γ k tb) :
    GoodS G Γ k ⟨N, scope, none, tb⟩ bs b E (cxOf (L2.CX P w) P w K mg base N qual scope f cdv A outer s H E) :=
  ⟨⟨rfl, S.nd, rfl, S.kind, fun _ _ => rfl, rfl, hk, hr, takes_of rfl rfl rfl rfl, hb, tab⟩, passes_of rfl, rfl, rfl⟩
theorem fn_okF {P : Program} {w : World} {K : PySem.W.Frag} {mg : Str → Option Value} {base : Heap} {G : Sig} {fs : List Fn} {tb : Tab} {x : Str} {k : Nat} {g : List D → Store → Res D} {fr : Fn} {qual : Str} {params : Arguments} {body : List Stmt} {scope : Scope} {f : Addr} {fd : FuncData}
    (F : FunD K x qual params body scope [] [] f fd) (S : FnScope fr.N fr.ps scope) (hc : ∃ n m, chkL (chkS (chk n) m ⟨fr.N, scope, none, tb⟩) body fr.body = true)
    (hg : (∀ ds S, g ds S = .bad) ∨ ∃ Γ : Fns, 2 ≤ k ∧ TabOk P w K mg base G Γ k tb ∧ ∀ ds S, g ds S = fr.run G Γ ds S) : FnOk P w K mg base (L2.CX P w) (k + 1) f fd fr.ps (spOf K mg fr.ps.length g) := by
  obtain ⟨n, m, hc⟩ := hc
  refine F.ok S (fun vs H Q E h => h.1) fun cdv A outer s H vs Q E hr hsp => ?_
  obtain ⟨hl, bs, W, St, ds, sm, rv, a⟩ := hsp
  rcases hg with hg | ⟨Γ, hk, tab, e2⟩
  · rw [hg] at a
    exact a.elim
  · rw [e2] at a
    have hb : ∀ c ∈ St.length :: bs, c ≤ St.length := fun c hc => by
      rcases List.mem_cons.mp hc with rfl | hc
      · exact Nat.le_refl _
      · exact sm.bsz c hc
    have gd := body_good (P := P) (w := w) (K := K) (mg := mg) (base := base) (outer := outer) (H := H) (E := E) (f := f) S hk hr hb tab
    refine ⟨_, l_ok (s_ok (chk_snd n) m gd) hc, W, ds.map some ++ List.replicate (fr.N.length - ds.length) none, St, start_env rv, sm.enter, ?_⟩
    exact fin_ok (ρ := ds.map some ++ List.replicate (fr.N.length - ds.length) none) (σ := []) sm (by rw [← rv.length]; exact hl) rfl a
theorem fn_at {P : Program} {w : World} {K : PySem.W.Frag} {mg : Str → Option Value} {base : Heap} {G : Sig} {fs : List Fn} {tb : Tab} {q : Str × List Str × List (Nat × List Str)} {k : Nat} {g : List D → Store → Res D} (d : DefAt K mg G fs tb q)
    (hg : (∀ ds S, g ds S = .bad) ∨ ∃ (fr : Fn) (Γ : Fns), fs.find? (fun g => decide (g.name = q.1)) = some fr ∧ 2 ≤ k ∧ TabOk P w K mg base G Γ k tb ∧ ∀ ds S, g ds S = fr.run G Γ ds S) :
    ∃ F : FnAt P w K mg base (k + 1) q.1 q.2.1 g, ∀ p ∈ q.2.2, KwAt F.fd q.2.1 p.1 p.2 := by
  obtain ⟨fr, qual, params, body, scope, f, fd, h1, h2, F, S, hc, hm, b0, bk⟩ := d.ex
  have hg' : (∀ ds S, g ds S = .bad) ∨ ∃ Γ : Fns, 2 ≤ k ∧ TabOk P w K mg base G Γ k tb ∧ ∀ ds S, g ds S = fr.run G Γ ds S := hg.imp id fun ⟨fr', Γ, e1, e2, e3, e4⟩ => by
    rw [h1] at e1
    cases e1
    exact ⟨Γ, e2, e3, e4⟩
  have len : ∀ ds S, ds.length ≠ q.2.1.length → g ds S = .bad := fun ds S hl => by
    rcases hg' with hg | ⟨Γ, _, _, e2⟩
    · exact hg ds S
    · rw [e2]
      unfold Fn.run
      rw [if_neg (by rw [h2]; exact hl)]
  refine ⟨⟨f, fd, hm, F.kp, fun s us hl => F.bindsA b0 s us hl, len, ?_⟩, fun p hp => kw_at F (bk p hp)⟩
  rw [← h2]
  exact fn_okF (fs := fs) F S hc hg'
/-- what is known of the text, whatever the depth -/
structure TxtOk (P : Program) (w : World) (K : PySem.W.Frag) (mg : Str → Option Value) (base : Heap) (G : Sig) (fs : List Fn) (es : List Ec) (tb : Tab) : Prop where
  defs : ∀ q ∈ tb.funs, DefAt K mg G fs tb q
  ecs : ∀ q ∈ tb.ecs, Nonempty (ClAt P w K mg base 1 q.1 q.2) ∧ fs.find? (fun f => decide (f.name = q.1)) = none ∧ ∃ e, es.find? (fun e => decide (e.cls = q.1)) = some e ∧ e.att = some q.2
  noec : ∀ q ∈ tb.funs, es.find? (fun e => decide (e.cls = q.1)) = none
  bok : ∀ x ∈ tb.blts, mg x = none
  gok : tb.gcd = true → mg "gcd" = some (.builtin "math.gcd")
  vok : ∀ q ∈ tb.glbs, G.glb q.1 = some q.2 ∧ ∃ v u, mg q.1 = some u ∧ RelV v u ∧ ∀ W, Rep K W v q.2
  hok : ∀ q ∈ tb.hds, ∃ C, mg q.1 = some (.ref C) ∧ PySem.W.exmOne K (.ref C) (.ref C) = some true ∧ XfC K C ∧ PySem.W.findIn K (.ref C) q.2.1 = some none ∧
    ∀ y ∈ q.2.2, ∀ C', mg y = some (.ref C') → PySem.W.exmOne K (.ref C') (.ref C) = some false
  sok : ∀ q ∈ tb.skp, ∃ C, mg q.1 = some (.ref C) ∧ ∀ y ∈ q.2, ∀ C', mg y = some (.ref C') → PySem.W.exmOne K (.ref C') (.ref C) = some false
theorem tab_all {P : Program} {w : World} {K : PySem.W.Frag} {mg : Str → Option Value} {base : Heap} {G : Sig} {fs : List Fn} {es : List Ec} {tb : Tab} (t : TxtOk P w K mg base G fs es tb) : ∀ k, TabOk P w K mg base G (fns G fs es k) (k + 2) tb := by
  have ec : ∀ k, ∀ q ∈ tb.ecs, Nonempty (ClAt P w K mg base 1 q.1 q.2) ∧ ∀ d S, fns G fs es k q.1 [d] S = .exc ⟨q.1, [(q.2, d)]⟩ S := fun k q hq => by
    obtain ⟨h1, h2, e, h3, h4⟩ := t.ecs q hq
    refine ⟨h1, fun d S => ?_⟩
    have r : ecRun es q.1 [d] S = .exc ⟨q.1, [(q.2, d)]⟩ S := by
      unfold ecRun
      rw [h3]
      dsimp only
      rw [h4]
    cases k with
    | zero => exact r
    | succ k =>
      unfold fns
      rw [h2]
      exact r
  intro k
  induction k with
  | zero =>
    refine ⟨fun q hq => ⟨(t.defs q hq).ps, ?_⟩, ec 0, t.bok, t.gok, t.vok, t.hok, t.sok⟩
    refine fn_at (k := 1) (t.defs q hq) (.inl fun ds S => ?_)
    show ecRun es q.1 ds S = .bad
    unfold ecRun
    rw [t.noec q hq]
  | succ k ih =>
    refine ⟨fun q hq => ⟨(t.defs q hq).ps, ?_⟩, ec _, t.bok, t.gok, t.vok, t.hok, t.sok⟩
    obtain ⟨fr, _, _, _, _, _, _, h1, _⟩ := (t.defs q hq).ex
    refine fn_at (t.defs q hq) (.inr ⟨fr, fns G fs es k, h1, by omega, ih, fun ds S => ?_⟩)
    rw [fns]
    dsimp only
    rw [h1]
end Pv

/-! Own error classes, by what the written part says. -/
namespace Pv
open PySem L2 PySem.Spec PyProof.Rows
/-- a method's call as it stands -/
theorem meth_eval {o e : Expr} {es : List Expr} {m : Str} {a pos : Pos} {env : PySem.Env} (hb : notCall o = true) (hl : (a.endLine == pos.line) = true) (hf : methodCallForm (e :: es).length (backTo pos (starEach (e :: es) env)) (backToKw pos (keywordEach [] env)) = true) :
    eval (.Call (.Attribute o m a) (e :: es) [] pos) env = (do
      let ov ← eval o env
      standAt a.atName
      let (g, first) ← holding [ov] (getMethod ov m (do return (← importBound o env).getD true))
      callWith pos g first (backTo pos (starEach (e :: es) env)) (backToKw pos (keywordEach [] env))) := by
  have hp : methodCallPos true o env a pos = pure pos := by
    unfold methodCallPos
    rw [hl]
    rfl
  show (do
    let ov ← attributeBase o m env (eval o env)
    standAt a.atName
    methodCall o m a pos env ov ((e :: es).length + 0) (backTo pos (starEach (e :: es) env)) (backToKw pos (keywordEach [] env))) = _
  rw [attr_base hb]
  congr 1
  funext ov
  congr 1
  funext _
  unfold methodCall calleeOf
  rw [Nat.add_zero, hf, hp]
  congr 1
def initB (N : List Str) (sc : Scope) (bx f : Str) (body : List Stmt) : Bool := match body, N with
  | [.Expr (.Call (.Attribute (.Name x _) m p) [.Name s1 _, .Constant (.str _) _ _] [] q) _, .Assign [.Attribute (.Name s2 _) g _] (.Name v _) _], [a, b] =>
    decide (p.endLine = q.line) && decide (x = bx) && decide (m = "__init__") && glB sc x && decide (s1 = a) && decide (s2 = a) && decide (g = f) && decide (v = b) && visB sc a && visB sc b && nmB a && nmB b
  | _, _ => false
theorem init_ok {P : Program} {w : World} {K : PySem.W.Frag} {mg : Str → Option Value} {base : Heap} {x qual bx f : Str} {params : Arguments} {body : List Stmt} {scope : Scope} {N : List Str} {fI C B : Addr} {fd : FuncData} {mc : Value} (F : FunD K x qual params body scope [] [] fI fd) (S : FnScope N N scope) (hi : initB N scope bx f body = true)
    (T : OexC K C) (hno : PySem.W.findIn K (.ref C) f = some none) (hB : mg bx = some (.ref B)) (r : ClX.CRead K B mc) (fi : PySem.W.findCls K (.ref B) mc "__init__" = some (.val (.builtin "ValueError.__init__"))) : FnOk P w K mg base (L2.CX P w) 1 fI fd N (initSp C f) := by
  unfold initB at hi
  split at hi
  · rename_i bd Nv y p1 m p2 s1 p3 z k3 p4 p5 p6 s2 p7 g p8 v p9 p10 a b
    simp only [Bool.and_eq_true] at hi
    obtain ⟨⟨⟨⟨⟨⟨⟨⟨⟨⟨⟨h0, h1⟩, h2⟩, h3⟩, h4⟩, h5⟩, h6⟩, h7⟩, h8⟩, h9⟩, h10⟩, h11⟩ := hi
    obtain rfl := of_decide_eq_true h1
    obtain rfl := of_decide_eq_true h2
    obtain rfl := of_decide_eq_true h4
    obtain rfl := of_decide_eq_true h5
    obtain rfl := of_decide_eq_true h6
    obtain rfl := of_decide_eq_true h7
    refine F.ok S (fun vs H Q E h => ?_) fun cdv A outer s H vs Q E hr hsp => ?_
    · obtain ⟨a, v, rfl, _⟩ := h
      rfl
    · obtain ⟨ad, w1, rfl, ha, hq⟩ := hsp
      have gl := Bool.and_eq_true_iff.mp h3
      let X := cxOf (L2.CX P w) P w K mg base [s2, v] qual scope fI cdv A outer s H E
      have v0 : ∀ p, PE X (.Name s2 p) (tVar 0) := fun p => pe_var rfl (vis_ok h8) (nm_ok h10).1 (nm_ok h10).2
      have v1 : ∀ p, PE X (.Name v p) (tVar 1) := fun p => pe_var rfl (vis_ok h9) (nm_ok h11).1 (nm_ok h11).2
      refine ⟨_, pss_cons (ps_expr (pe_bInit (show scope.names.lookup y = some .globalImplicit from of_decide_eq_true gl.1) hB (nm_ok gl.2).1 r fi (pa_cons (v0 p3) (pa_cons pe_str pa_nil rfl) rfl) (meth_eval rfl (by simpa using of_decide_eq_true h0) rfl) rfl rfl) (no_swap rfl)) (pss_one (ps_ost (v0 p7) (v1 p9) (no_swap rfl))), ?_⟩
      refine ⟨.ref ad, rfl, ?_⟩
      refine ⟨ad, C, [.str z], rfl, by simp, T, ha, ?_⟩
      refine ⟨w1, rfl, .ref ad, rfl, ad, C, rfl, T, hno, .inl ⟨ha, fun dx h1 h2 => hq dx h1 h2⟩⟩
  · cases hi
/-! ### what is asked of the written part -/
def oexB (K : PySem.W.Frag) (C : Addr) : Bool := match K.lookup C with
  | some ⟨.type "type", _, .cls cd, sl⟩ => (match cd.mro, sl.toList with
    | .ref C' :: bm, [_, _, _, _, some (.builtin n), _] => decide (C' = C) && decide (n = "ValueError.__new__") && !cd.hasDel && cd.hasDict && PySem.HandSPX.refsVE bm
    | _, _ => false)
  | _ => false
/-- a class: x, its base, its field, what stands behind it in other clauses -/
def clsB (K : PySem.W.Frag) (x bx f : Str) : Bool :=
  let C := He.ga K x
  let B := He.ga K bx
  oexB K C && (decide (PySem.W.findIn K (.ref C) "__setattr__" = some (some (.builtin "object.__setattr__"))) && (decide (PySem.W.subIn K (.ref C) (.type "BaseException") = some true) && (decide (PySem.W.typeIn K (.ref C) = some (.type "type")) && (PySem.W.keepIn K (.ref C) &&
    (decide (PySem.W.findIn K (.ref C) "__init__" = some (some (.ref (He.ma K C "__init__")))) && (decide (PySem.W.typeIn K (.ref (He.ma K C "__init__")) = some (.type "function")) && (decide (PySem.W.findIn K (.ref C) f = some none) &&
      (PySem.W.readsIn K B (.type "type") && (decide (PySem.W.specialIn K (.ref B) "__getattribute__" = some (some (.builtin "type.__getattribute__"))) && (decide (PySem.W.exmOne K (.ref C) (.ref C) = some true) && xfB K C))))))))))
theorem oexB_ok {K : PySem.W.Frag} {C : Addr} (h : oexB K C = true) : ∃ nm q N bs bm sn sub ab col dd k0 k1 k2 k3 k5, K.lookup C = some (excClassObj nm q C N bs bm true sn sub ab col dd k0 k1 k2 k3 k5 "ValueError.__new__") ∧ PySem.HandSPX.refsVE bm = true := by
  unfold oexB at h
  split at h
  · rename_i dd cd sl ho
    split at h
    · rename_i C' bm k0 k1 k2 k3 n k5 hm hs
      simp only [Bool.and_eq_true, Bool.not_eq_true'] at h
      obtain ⟨⟨⟨⟨h1, h2⟩, h3⟩, h4⟩, h5⟩ := h
      obtain rfl := of_decide_eq_true h1
      obtain rfl := of_decide_eq_true h2
      obtain ⟨nm, bs, mro, ns, qn, hd, sn, sub, ab, col, del⟩ := cd
      dsimp only at hm h3 h4
      subst hm h3 h4
      have hsl : sl = #[k0, k1, k2, k3, some (.builtin "ValueError.__new__"), k5] := by
        obtain ⟨l⟩ := sl
        simp only at hs
        rw [hs]
      subst hsl
      exact ⟨nm, qn, ns, bs, bm, sn, sub, ab, col, dd, k0, k1, k2, k3, k5, ho, h5⟩
    · cases h
  · cases h
def fiB (K : PySem.W.Frag) (bx : Str) : Bool := match PySem.W.findCls K (.ref (He.ga K bx)) (.type "type") "__init__" with
  | some (.val v) => decide (v = .builtin "ValueError.__init__")
  | _ => false
theorem fiB_ok {K : PySem.W.Frag} {bx : Str} (h : fiB K bx = true) : PySem.W.findCls K (.ref (He.ga K bx)) (.type "type") "__init__" = some (.val (.builtin "ValueError.__init__")) := by
  unfold fiB at h
  split at h
  · rename_i v e
    rw [e, of_decide_eq_true h]
  · cases h
structure ClsOk (K : PySem.W.Frag) (x bx f : Str) : Prop where
  T : OexC K (He.ga K x)
  iC : PySem.W.findIn K (.ref (He.ga K x)) "__init__" = some (some (.ref (He.ma K (He.ga K x) "__init__")))
  tI : PySem.W.typeIn K (.ref (He.ma K (He.ga K x) "__init__")) = some (.type "function")
  hno : PySem.W.findIn K (.ref (He.ga K x)) f = some none
  r : ClX.CRead K (He.ga K bx) (.type "type")
  self : PySem.W.exmOne K (.ref (He.ga K x)) (.ref (He.ga K x)) = some true
  xf : XfC K (He.ga K x)
theorem clsB_ok {K : PySem.W.Frag} {x bx f : Str} (h : clsB K x bx f = true) : ClsOk K x bx f := by
  unfold clsB at h
  simp only [Bool.and_eq_true, decide_eq_true_eq] at h
  obtain ⟨h1, h2, h3, h4, h5, h6, h7, h8, h9, h10, h11, h12⟩ := h
  exact ⟨⟨oexB_ok h1, h2, h3, h4, h5⟩, h6, h7, h8, ⟨h9, h10⟩, h11, xfB_ok h12⟩
theorem cl_at {P : Program} {w : World} {K : PySem.W.Frag} {mg : Str → Option Value} {base : Heap} {x bx f qual : Str} {params : Arguments} {body : List Stmt} {scope : Scope} {N : List Str} {fd : FuncData} (c : ClsOk K x bx f) (hx : mg x = some (.ref (He.ga K x))) (hb : mg bx = some (.ref (He.ga K bx)))
    (fi : PySem.W.findCls K (.ref (He.ga K bx)) (.type "type") "__init__" = some (.val (.builtin "ValueError.__init__"))) (F : FunD K "__init__" qual params body scope [] [] (He.ma K (He.ga K x) "__init__") fd) (S : FnScope N N scope) (hi : initB N scope bx f body = true)
    (b0 : Bind0 "__init__" qual params body scope N) : Nonempty (ClAt P w K mg base 1 x f) :=
  ⟨⟨He.ga K x, He.ma K (He.ga K x) "__init__", fd, N, hx, c.T, c.iC, c.tI, F.bindsN b0, init_ok F S hi c.T c.hno hb c.r fi⟩⟩
end Pv

/-! The law's end. -/
namespace Pv
open PySem L2 PySem.Spec PyProof.Rows
/-! ### what the head is asked: a test of the written part, the defs -/
def obsC (cb : PySem.W.Frag → Bool) (fn : List He.DefD) (K : PySem.W.Frag) : He.AlD := (cb K && fn.all fun d => d.ok K, fn.map fun d => He.fnW K d.at_)
def SaysC (cb : PySem.W.Frag → Bool) (fn : List He.DefD) (K : PySem.W.Frag) : Prop := obsC cb fn K = He.valD fn
def hookC (n : Nat) (cb : PySem.W.Frag → Bool) (fn : List He.DefD) : PySem.W.Hook where
  α := He.AlD
  obs := fun s => obsC cb fn (He.frG s.heap.get? (cStatics :: He.asD s.heap.get? n))
  val := fun _ => He.valD fn
  says := fun _ h => ∃ K : PySem.W.Frag, K.In h ∧ SaysC cb fn K
  of := fun _ _ e => ⟨_, He.frG_in, e⟩
  keeps := fun _ _ _ ⟨K, hK, c⟩ k => ⟨K, PySem.W.Frag.In.keeps hK k, c⟩
def obC (n : Nat) (cb : PySem.W.Frag → Bool) (fn : List He.DefD) (s : PySem.W.SharedT) : He.AlD := obsC cb fn (He.frG (HandSHeadRun.getT s) (cStatics :: He.asD (HandSHeadRun.getT s) n))
theorem obC_eq {n : Nat} {cb : PySem.W.Frag → Bool} {fn : List He.DefD} (s : PySem.W.SharedT) : obC n cb fn s = (hookC n cb fn).obs s.abs := by
  have e : HandSHeadRun.getT s = s.abs.heap.get? := funext (HandSHeadRun.getT_eq s)
  show obsC cb fn (He.frG (HandSHeadRun.getT s) (cStatics :: He.asD (HandSHeadRun.getT s) n)) = obsC cb fn (He.frG s.abs.heap.get? (cStatics :: He.asD s.abs.heap.get? n))
  rw [e]
section
variable {cb : PySem.W.Frag → Bool} {fn : List He.DefD} {K : PySem.W.Frag}
theorem SaysC.fact (c : SaysC cb fn K) : cb K = true := (Bool.and_eq_true_iff.mp (show (cb K && fn.all fun d => d.ok K) = true from congrArg (fun z : He.AlD => z.1) c)).1
theorem SaysC.def_ (c : SaysC cb fn K) (i : Nat) {d : He.DefD} (h : fn[i]? = some d) : ∃ fd, FunD K d.name d.qual d.params d.body d.scope (d.dvs K) (d.kws K) (He.fAd K d.at_) fd := by
  have c2 := (Bool.and_eq_true_iff.mp (show (cb K && fn.all fun d => d.ok K) = true from congrArg (fun z : He.AlD => z.1) c)).2
  have e : fn.map (fun d => He.fnW K d.at_) = fn.map He.DefD.val := congrArg (fun z : He.AlD => z.2) c
  have e2 : (fn.map fun d => He.fnW K d.at_)[i]? = (fn.map He.DefD.val)[i]? := by rw [e]
  rw [List.getElem?_map, List.getElem?_map, h] at e2
  exact He.DefD.funD (Option.some.inj e2) (List.all_eq_true.mp c2 d (List.mem_of_getElem? h))
end
/-! ### the script -/
theorem rep_ints {K : PySem.W.Frag} {W : Wd} : ∀ ns : List Int, RepAll K W (ns.map V.int) (ns.map D.int)
  | [] => .nil
  | n :: ns => .cons (.int n) (rep_ints ns)
open Classical in
/-- the world at the start: the script -/
noncomputable def Wd.start (H : L2.Hp) (a : Addr) (vs : List V) : Wd := ⟨fun b => if b = a ∧ Rd H a (.lst vs) then some (.lst vs) else none, fun _ => none, fun _ => none⟩
open Classical in
theorem start_sim {K : PySem.W.Frag} {H : L2.Hp} {a : Addr} {vs : List V} : Sim K [] (Wd.start H a vs) [] H := by
  refine ⟨fun b o q => ?_, fun n b q => (nomatch q), fun n m b q => (nomatch q), fun c hc => (nomatch hc), fun b o q => (nomatch q), fun n o q => (nomatch q)⟩
  have q' : (if b = a ∧ Rd H a (.lst vs) then some (FO.lst vs) else none) = some o := q
  split at q'
  · rename_i z
    cases q'
    rw [z.1]
    exact z.2
  · cases q'
open Classical in
theorem start_lst {K : PySem.W.Frag} {H : L2.Hp} {h : Heap} {a : Addr} {ns : List Int} {us : List Value} (KX : K.In h) (ha : h.get? a = some { cls := .type "list", data := .seq us.toArray }) (hS : SqL K H a (ns.map V.int)) (hi : IntsAre us ns) (hl : ns.length ≤ sizeLine) :
    Rep K (Wd.start H a (ns.map V.int)) (.ref a) (.lst (ns.map D.int)) := by
  refine .lst ?_ (rep_ints ns)
  by_cases hr : Rd H a (.lst (ns.map V.int))
  · refine .inl ?_
    show (if a = a ∧ Rd H a (.lst (ns.map V.int)) then some (FO.lst (ns.map V.int)) else none) = _
    rw [if_pos ⟨rfl, hr⟩]
  · refine .inr ?_
    rcases hS with hS | ⟨o, its, n, h1, h2, h3, h4, h5, h6⟩
    · exact (hr hS).elim
    · have e := KX a o h1
      rw [ha] at e
      cases e
      exact ⟨us, _, h1, by rw [hi.length]; exact hl, vals_ints hi⟩
theorem walk_pv {l : PySem.W.OpenLaw} {n k : Nat} {q : Program} {loose : List Str} {XP : (Str → Option Value) → Heap → Prop} {YP : World → Heap → Prop} {d : DefRec} {x : Str} {g : List D → Store → Res D}
    (hn : l.most = some n) (hn2 : n ≤ sizeLine) (hdf : d.params.defaults = []) (hr : Room k callerA)
    (F : ∀ (w : World) (mg : Str → Option Value) (fa : Addr) (h : Heap), YP w h → h.Ns mainGlobals mg → mg d.name = some (.ref fa) →
      ∃ (K : PySem.W.Frag) (fd : FuncData), K.In h ∧ (∀ (s : Shared) (u : Value), BindsTo s fd ⟨[u], []⟩ [(x, u)]) ∧ ∀ base : Heap, K.In base → base.Ns mainGlobals mg → FnOk l.prog w K mg base (L2.CX l.prog w) k fa fd [x] (spOf K mg 1 g))
    (law : ∀ ns : List Int, ns.length ≤ n → (∀ z ∈ ns, Builtin.Int.intBits z ≤ 1048576) → ∃ S, g [.lst (ns.map D.int)] [] = .ok (.bl true) S) :
    PySem.W.WalkO q loose XP YP l.row.toRowW d [] (fun f vs => PySem.call f vs) := by
  refine Att.attach_callB hn hdf fun w s₀ s₁ mg mb fa o pm cd doc a vs ns G Y ho hd hcd hmg hobj hints hlen hbits hg => ?_
  obtain ⟨K, fd, KX, hb, hF⟩ := F w mg fa _ Y G.T.g hmg
  refine L2.law_call KX G.T.g G.T.b G.T.builtins G.T.nolimit hg hobj hints (Nat.le_trans hlen hn2) hr hF hb (fun H _ hS => ?_) fun H e s' hc => ?_
  · obtain ⟨S, e⟩ := law ns hlen hbits
    refine ⟨rfl, [], _, [], [.lst (ns.map D.int)], start_sim, .cons (start_lst KX hobj hS hints (Nat.le_trans hlen hn2)) .nil, ?_⟩
    rw [e]
    intro W' H' _ _ v rv
    cases rv
    rfl
  · obtain ⟨_, _, _, _, _, _, _, _, _, _, _, _, z⟩ := hc
    exact z
end Pv

/-! What a generated text names. -/
namespace Pv
open PySem L2 PySem.Spec PyProof.Rows
def irs : List IR → IRs
  | [] => .nil
  | a :: r => .cons a (irs r)
def sts : List ST → STs
  | [] => .nil
  | a :: r => .cons a (sts r)
def tgs : List Tg → Tgs
  | [] => .nil
  | a :: r => .cons a (tgs r)
def sigOf (tb : Tab) : Sig := ⟨fun x => tb.glbs.lookup x, fun x => match tb.funs.find? (fun q => decide (q.1 = x)) with
  | some q => q.2.1
  | none => []⟩
/-- the first def of a class's body -/
def clsInit : Stmt → Stmt
  | .ClassDef _ _ _ body _ _ _ _ _ _ _ => body.headD (.Pass ⟨0, 0, 0, 0⟩)
  | s => s
def gcdB (K : PySem.W.Frag) : Bool := He.eqO (PySem.W.nsIn K mainGlobals "gcd") (some (some (.builtin "math.gcd")))
def factsB (fa : List He.Fa) (gcd : Bool) (ecx : List (Str × Str × Str)) (exl : List (Str × Str)) (K : PySem.W.Frag) : Bool :=
  (fa.all fun f => f.ok K) && ((!gcd || gcdB K) && ((ecx.all fun q => clsB K q.1 q.2.1 q.2.2 && fiB K q.2.1) && exl.all fun p => decide (PySem.W.exmOne K (.ref (He.ga K p.1)) (.ref (He.ga K p.2)) = some false)))
section
variable {fa : List He.Fa} {gcd : Bool} {ecx : List (Str × Str × Str)} {exl : List (Str × Str)} {K : PySem.W.Frag} {h : Heap} {mg : Str → Option Value}
structure Facts (fa : List He.Fa) (gcd : Bool) (ecx : List (Str × Str × Str)) (exl : List (Str × Str)) (K : PySem.W.Frag) (mg : Str → Option Value) : Prop where
  glo : ∀ x, He.Fa.glo x ∈ fa → mg x = some (.ref (He.ga K x))
  free : ∀ x, He.Fa.free x ∈ fa → mg x = none
  gcd : gcd = true → mg "gcd" = some (.builtin "math.gcd")
  cls : ∀ q ∈ ecx, ClsOk K q.1 q.2.1 q.2.2 ∧ PySem.W.findCls K (.ref (He.ga K q.2.1)) (.type "type") "__init__" = some (.val (.builtin "ValueError.__init__"))
  exm : ∀ p ∈ exl, PySem.W.exmOne K (.ref (He.ga K p.1)) (.ref (He.ga K p.2)) = some false
theorem facts_ok (X : K.In h) (G : h.Ns mainGlobals mg) (c : factsB fa gcd ecx exl K = true) : Facts fa gcd ecx exl K mg := by
  obtain ⟨c1, c⟩ := Bool.and_eq_true_iff.mp c
  obtain ⟨c2, c⟩ := Bool.and_eq_true_iff.mp c
  obtain ⟨c3, c4⟩ := Bool.and_eq_true_iff.mp c
  refine ⟨fun x hx => He.glo_ok X G (List.all_eq_true.mp c1 _ hx), fun x hx => He.free_ok X G (List.all_eq_true.mp c1 _ hx), fun hg => ?_, fun q hq => ?_, fun p hp => of_decide_eq_true (List.all_eq_true.mp c4 p hp)⟩
  · rw [hg] at c2
    exact PySem.W.mg_of X G (He.eqO_ok c2)
  · obtain ⟨h1, h2⟩ := Bool.and_eq_true_iff.mp (List.all_eq_true.mp c3 q hq)
    exact ⟨clsB_ok h1, fiB_ok h2⟩
end
theorem all_nil {α : Type} {p : α → Prop} : ∀ q ∈ ([] : List α), p q := fun _ h => (nomatch h)
theorem all_cons {α : Type} {p : α → Prop} {a : α} {l : List α} (h : p a) (t : ∀ q ∈ l, p q) : ∀ q ∈ a :: l, p q := fun q hq => by
  rcases List.mem_cons.mp hq with rfl | hq
  · exact h
  · exact t q hq
theorem all_app {α : Type} {p : α → Prop} {l m : List α} (h : ∀ q ∈ l, p q) (t : ∀ q ∈ m, p q) : ∀ q ∈ l ++ m, p q := fun q hq => by
  rcases List.mem_append.mp hq with hq | hq
  · exact h q hq
  · exact t q hq
def hasGlo (fa : List He.Fa) (x : Str) : Bool := fa.any fun f => match f with
  | .glo y => decide (y = x)
  | _ => false
def hasFree (fa : List He.Fa) (x : Str) : Bool := fa.any fun f => match f with
  | .free y => decide (y = x)
  | _ => false
section
variable {fa : List He.Fa} {gcd : Bool} {ecx : List (Str × Str × Str)} {exl : List (Str × Str)} {K : PySem.W.Frag} {mg : Str → Option Value}
theorem Facts.glo' (F : Facts fa gcd ecx exl K mg) {x : Str} (h : hasGlo fa x = true) : mg x = some (.ref (He.ga K x)) := by
  obtain ⟨f, hf, e⟩ := List.any_eq_true.mp h
  cases f with
  | glo y =>
    have e' := of_decide_eq_true e
    subst e'
    exact F.glo y hf
  | _ => exact Bool.noConfusion (show false = true from e)
theorem Facts.free' (F : Facts fa gcd ecx exl K mg) {x : Str} (h : hasFree fa x = true) : mg x = none := by
  obtain ⟨f, hf, e⟩ := List.any_eq_true.mp h
  cases f with
  | free y =>
    have e' := of_decide_eq_true e
    subst e'
    exact F.free y hf
  | _ => exact Bool.noConfusion (show false = true from e)
/-- lists that agree -/
def tabB (fa : List He.Fa) (ecx : List (Str × Str × Str)) (exl : List (Str × Str)) (es : List Ec) (fs : List Fn) (tb : Tab) : Bool :=
  (tb.blts.all fun x => hasFree fa x) && ((tb.funs.all fun q => (es.find? fun e => decide (e.cls = q.1)).isNone) && ((tb.hds.all fun q => hasGlo fa q.1 && ((ecx.any fun e => decide (e.1 = q.1) && decide (e.2.2 = q.2.1)) && q.2.2.all fun y => hasGlo fa y && exl.contains (y, q.1))) &&
    (tb.skp.all fun q => hasGlo fa q.1 && q.2.isEmpty)))
structure TabF (K : PySem.W.Frag) (mg : Str → Option Value) (es : List Ec) (tb : Tab) : Prop where
  bok : ∀ x ∈ tb.blts, mg x = none
  noec : ∀ q ∈ tb.funs, es.find? (fun e => decide (e.cls = q.1)) = none
  hok : ∀ q ∈ tb.hds, ∃ C, mg q.1 = some (.ref C) ∧ PySem.W.exmOne K (.ref C) (.ref C) = some true ∧ XfC K C ∧ PySem.W.findIn K (.ref C) q.2.1 = some none ∧
    ∀ y ∈ q.2.2, ∀ C', mg y = some (.ref C') → PySem.W.exmOne K (.ref C') (.ref C) = some false
  sok : ∀ q ∈ tb.skp, ∃ C, mg q.1 = some (.ref C) ∧ ∀ y ∈ q.2, ∀ C', mg y = some (.ref C') → PySem.W.exmOne K (.ref C') (.ref C) = some false
theorem Facts.tab (F : Facts fa gcd ecx exl K mg) {es : List Ec} {fs : List Fn} {tb : Tab} (h : tabB fa ecx exl es fs tb = true) : TabF K mg es tb := by
  obtain ⟨h1, h⟩ := Bool.and_eq_true_iff.mp h
  obtain ⟨h2, h⟩ := Bool.and_eq_true_iff.mp h
  obtain ⟨h3, h4⟩ := Bool.and_eq_true_iff.mp h
  refine ⟨fun x hx => F.free' (List.all_eq_true.mp h1 x hx), fun q hq => Option.isNone_iff_eq_none.mp (List.all_eq_true.mp h2 q hq), fun q hq => ?_, fun q hq => ?_⟩
  · obtain ⟨a1, a⟩ := Bool.and_eq_true_iff.mp (List.all_eq_true.mp h3 q hq)
    obtain ⟨a2, a3⟩ := Bool.and_eq_true_iff.mp a
    obtain ⟨e, he, e1⟩ := List.any_eq_true.mp a2
    obtain ⟨e2, e3⟩ := Bool.and_eq_true_iff.mp e1
    obtain ⟨c, _⟩ := F.cls e he
    rw [of_decide_eq_true e2, of_decide_eq_true e3] at c
    refine ⟨_, F.glo' a1, c.self, c.xf, c.hno, fun y hy C' hC => ?_⟩
    obtain ⟨b1, b2⟩ := Bool.and_eq_true_iff.mp (List.all_eq_true.mp a3 y hy)
    rw [F.glo' b1] at hC
    cases hC
    exact F.exm (y, q.1) (List.contains_iff_mem.mp b2)
  · obtain ⟨a1, a2⟩ := Bool.and_eq_true_iff.mp (List.all_eq_true.mp h4 q hq)
    refine ⟨_, F.glo' a1, fun y hy => ?_⟩
    rw [List.isEmpty_iff.mp a2] at hy
    cases hy
end
/-- the law's def at the end -/
theorem law_fn {P : Program} {w : World} {K : PySem.W.Frag} {mg : Str → Option Value} {G : Sig} {fs : List Fn} {es : List Ec} {tb : Tab} {q : Str × List Str × List (Nat × List Str)} {x : Str} {fa : Addr} {n : Nat} (d : DefAt K mg G fs tb q) (hq : q.2.1 = [x]) (hm : mg q.1 = some (.ref fa)) (t : ∀ base, TxtOk P w K mg base G fs es tb) :
    ∃ fd : FuncData, (∀ (s : Shared) (u : Value), BindsTo s fd ⟨[u], []⟩ [(x, u)]) ∧ ∀ base : Heap, FnOk P w K mg base (L2.CX P w) (n + 3) fa fd [x] (spOf K mg 1 (fns G fs es (n + 1) q.1)) := by
  obtain ⟨fr, qual, params, body, scope, f, fd, h1, h2, F, S, hc, hm', b0, bk⟩ := d.ex
  rw [hm] at hm'
  cases hm'
  have h3 : fr.ps = [x] := h2.trans hq
  refine ⟨fd, fun s u => ?_, fun base => ?_⟩
  · have z := F.bindsA b0 s [u] (by rw [hq]; rfl)
    rw [hq] at z
    exact z
  · have z := fn_okF (P := P) (w := w) (mg := mg) (base := base) (G := G) (k := n + 2) (g := fns G fs es (n + 1) q.1) (fs := fs) F S hc (.inr ⟨fns G fs es n, by omega, tab_all (t base) n, fun ds S => by
      rw [fns]
      dsimp only
      rw [h1]⟩)
    rw [h3] at z
    exact z
end Pv

/-! Running the evaluator, rule by rule: what holds behind. -/
namespace Pv
open PySem
def WpD {α : Type} (r : Res α) (Q : α → Store → Prop) (E : Exn → Store → Prop) : Prop := match r with
  | .ok a S => Q a S
  | .exc x S => E x S
  | .bad => False
structure Wp {α : Type} (r : Res α) (Q : α → Store → Prop) (E : Exn → Store → Prop) : Prop where
  out : WpD r Q E
section
variable {α β : Type} {r : Res α} {Q Q' : α → Store → Prop} {E E' : Exn → Store → Prop}
theorem wp_ok {a : α} {S : Store} (h : Q a S) : Wp (.ok a S) Q E := ⟨h⟩
theorem wp_exc {x : Exn} {S : Store} (h : E x S) : Wp (Res.exc (α := α) x S) Q E := ⟨h⟩
theorem Wp.okI {a : α} {S : Store} (h : Wp (.ok a S) Q E) : Q a S := h.out
theorem Wp.excI {x : Exn} {S : Store} (h : Wp (Res.exc (α := α) x S) Q E) : E x S := h.out
theorem Wp.badI (h : Wp (Res.bad (α := α)) Q E) : False := h.out
theorem wp_bind {f : α → Store → Res β} {Q : β → Store → Prop} (h : Wp r (fun a S => Wp (f a S) Q E) E) : Wp (r.bind f) Q E := by
  cases r with
  | ok a S => exact h.okI
  | exc x S => exact wp_exc h.excI
  | bad => exact h.badI.elim
theorem wp_mono (h : Wp r Q E) (hq : ∀ a S, Q a S → Q' a S) (he : ∀ x S, E x S → E' x S) : Wp r Q' E' := by
  cases r with
  | ok a S => exact wp_ok (hq a S h.okI)
  | exc x S => exact wp_exc (he x S h.excI)
  | bad => exact h.badI.elim
theorem wp_imp (h : Wp r Q E) (hq : ∀ a S, Q a S → Q' a S) : Wp r Q' E := wp_mono h hq fun _ _ e => e
theorem wp_some {o : Option α} {a : α} {S : Store} (e : o = some a) (h : Q a S) : Wp (lift S o) Q E := by rw [e]; exact wp_ok h
theorem wp_eq {r' : Res α} (e : r = r') (h : Wp r' Q E) : Wp r Q E := e ▸ h
theorem wp_eqk {a : α} {S : Store} (e : r = .ok a S) (h : Q a S) : Wp r Q E := e ▸ wp_ok h
theorem wp_out (h : Wp r Q fun _ _ => False) : ∃ a S, r = .ok a S ∧ Q a S := by
  cases r with
  | ok a S => exact ⟨a, S, rfl, h.okI⟩
  | exc x S => exact h.excI.elim
  | bad => exact h.badI.elim
end
section
variable {G : Sig} {Γ : Fns} {b : Nat} {md : Bool} {ρ : Env} {S : Store} {Q : D → Store → Prop} {E : Exn → Store → Prop}
theorem wp_var {i : Nat} {d : D} (e : ρ[i]? = some (some d)) (h : Q d S) : Wp (IR.run G Γ b md (.var i) ρ S) Q E := by
  rw [IR.run, e]
  exact wp_ok h
theorem wp_vr {i : Nat} (h : ∃ d, ρ[i]? = some (some d) ∧ Q d S) : Wp (IR.run G Γ b md (.var i) ρ S) Q E := let ⟨_, e, q⟩ := h; wp_var e q
theorem wp_cst {d : D} (h : Q d S) : Wp (IR.run G Γ b md (.cst d) ρ S) Q E := by
  rw [IR.run]
  exact wp_ok h
theorem wp_neg {a : IR} (h : Wp (a.run G Γ b false ρ S) (fun x S1 => ∃ i, x = .int i ∧ Q (.int (-i)) S1) E) : Wp (IR.run G Γ b md (.neg a) ρ S) Q E := by
  rw [IR.run]
  refine wp_bind (wp_imp h fun x S1 ⟨i, e, q⟩ => ?_)
  subst e
  exact wp_ok q
theorem wp_not {a : IR} (h : Wp (a.run G Γ b false ρ S) (fun x S1 => ∃ k, truthy S1 x = some k ∧ Q (.bl (!k)) S1) E) : Wp (IR.run G Γ b md (.not a) ρ S) Q E := by
  rw [IR.run]
  exact wp_bind (wp_imp h fun x S1 ⟨k, e, q⟩ => wp_bind (wp_some e (wp_ok q)))
theorem wp_bin {o : Bin} {a c : IR} (h : Wp (a.run G Γ b md ρ S) (fun x S1 => Wp (c.run G Γ b md ρ S1) (fun y S2 => Wp (binOf md S2 o x y) Q E) E) E) : Wp (IR.run G Γ b md (.bin o a c) ρ S) Q E := by
  rw [IR.run]
  exact wp_bind (wp_imp h fun x S1 h => wp_bind h)
theorem wp_cmp {o : Cmp} {a c : IR} (h : Wp (a.run G Γ b false ρ S) (fun x S1 => Wp (c.run G Γ b false ρ S1) (fun y S2 => ∃ k, cmpOf S2 o x y = some k ∧ Q (.bl k) S2) E) E) : Wp (IR.run G Γ b md (.cmp o a c) ρ S) Q E := by
  rw [IR.run]
  exact wp_bind (wp_imp h fun x S1 h => wp_bind (wp_imp h fun y S2 ⟨k, e, q⟩ => wp_bind (wp_some e (wp_ok q))))
theorem wp_and {a c : IR} (h : Wp (a.run G Γ b md ρ S) (fun x S1 => ∃ k, truthy S1 x = some k ∧ (k = true → Wp (c.run G Γ b md ρ S1) Q E) ∧ (k = false → Q x S1)) E) : Wp (IR.run G Γ b md (.and a c) ρ S) Q E := by
  rw [IR.run]
  refine wp_bind (wp_imp h fun x S1 ⟨k, e, h1, h2⟩ => wp_bind (wp_some e ?_))
  cases k with
  | true => exact h1 rfl
  | false => exact wp_ok (h2 rfl)
theorem wp_or {a c : IR} (h : Wp (a.run G Γ b md ρ S) (fun x S1 => ∃ k, truthy S1 x = some k ∧ (k = false → Wp (c.run G Γ b md ρ S1) Q E) ∧ (k = true → Q x S1)) E) : Wp (IR.run G Γ b md (.or a c) ρ S) Q E := by
  rw [IR.run]
  refine wp_bind (wp_imp h fun x S1 ⟨k, e, h1, h2⟩ => wp_bind (wp_some e ?_))
  cases k with
  | true => exact wp_ok (h2 rfl)
  | false => exact h1 rfl
theorem wp_ite {t a c : IR} (h : Wp (t.run G Γ b false ρ S) (fun x S1 => ∃ k, truthy S1 x = some k ∧ (k = true → Wp (a.run G Γ b md ρ S1) Q E) ∧ (k = false → Wp (c.run G Γ b md ρ S1) Q E)) E) : Wp (IR.run G Γ b md (.ite t a c) ρ S) Q E := by
  rw [IR.run]
  refine wp_bind (wp_imp h fun x S1 ⟨k, e, h1, h2⟩ => wp_bind (wp_some e ?_))
  cases k with
  | true => exact h1 rfl
  | false => exact h2 rfl
theorem wp_call {f : Str} {as : IRs} (h : Wp (as.runs G Γ b false ρ S) (fun xs S1 => Wp (Γ f xs S1) Q E) E) : Wp (IR.run G Γ b md (.call f as) ρ S) Q E := by
  rw [IR.run]
  exact wp_bind h
theorem wp_callK {f : Str} {as ws : IRs} {ks : List Str} (h : Wp (as.runs G Γ b false ρ S) (fun xs S1 => Wp (ws.runs G Γ b false ρ S1) (fun ys S2 => Wp (Γ f (bindK (G.ps f) xs ks ys) S2) Q E) E) E) : Wp (IR.run G Γ b md (.callK f as ks ws) ρ S) Q E := by
  rw [IR.run]
  exact wp_bind (wp_imp h fun xs S1 h => wp_bind h)
theorem wp_bif {f : Bif} {as : IRs} (h : Wp (as.runs G Γ b false ρ S) (fun xs S1 => Wp (bifOf md S1 f xs) Q E) E) : Wp (IR.run G Γ b md (.bif f as) ρ S) Q E := by
  rw [IR.run]
  exact wp_bind h
theorem wp_inst {a : IR} {ts : List Ty} (h : Wp (a.run G Γ b false ρ S) (fun x S1 => ∃ k, instOf S1 x ts = some k ∧ Q (.bl k) S1) E) : Wp (IR.run G Γ b md (.inst a ts) ρ S) Q E := by
  rw [IR.run]
  exact wp_bind (wp_imp h fun x S1 ⟨k, e, q⟩ => wp_bind (wp_some e (wp_ok q)))
theorem wp_ix {a i : IR} (h : Wp (a.run G Γ b false ρ S) (fun x S1 => Wp (i.run G Γ b false ρ S1) (fun k S2 => Wp (ixF x k S2) Q E) E) E) : Wp (IR.run G Γ b md (.ix a i) ρ S) Q E := by
  rw [IR.run]
  exact wp_bind (wp_imp h fun x S1 h => wp_bind h)
theorem wp_sl {a : IR} {l g : OIR} (h : Wp (a.run G Γ b false ρ S) (fun x S1 => Wp (l.runO G Γ b ρ S1) (fun lo S2 => Wp (g.runO G Γ b ρ S2) (fun hi S3 => Wp (slF md x lo hi S3) Q E) E) E) E) : Wp (IR.run G Γ b md (.sl a l g) ρ S) Q E := by
  rw [IR.run]
  exact wp_bind (wp_imp h fun x S1 h => wp_bind (wp_imp h fun y S2 h => wp_bind h))
theorem wp_onon {Q : Option Int → Store → Prop} (h : Q none S) : Wp (OIR.runO G Γ b .non ρ S) Q E := by
  rw [OIR.runO]
  exact wp_ok h
theorem wp_osome {a : IR} {Q : Option Int → Store → Prop} (h : Wp (a.run G Γ b false ρ S) (fun x S1 => ∃ i, x = .int i ∧ Q (some i) S1) E) : Wp (OIR.runO G Γ b (.some a) ρ S) Q E := by
  rw [OIR.runO]
  refine wp_bind (wp_imp h fun x S1 ⟨i, e, q⟩ => ?_)
  subst e
  exact wp_ok q
theorem wp_tup {as : IRs} (h : Wp (as.runs G Γ b md ρ S) (fun xs S1 => xs.length ≤ LIM ∧ Q (.tup xs) S1) E) : Wp (IR.run G Γ b md (.tup as) ρ S) Q E := by
  rw [IR.run]
  refine wp_bind (wp_imp h fun xs S1 ⟨e, q⟩ => ?_)
  rw [if_pos e]
  exact wp_ok q
theorem wp_lst {as : IRs} (h : Wp (as.runs G Γ b md ρ S) (fun xs S1 => xs.length ≤ LIM ∧ Wp (newL md S1 xs) Q E) E) : Wp (IR.run G Γ b md (.lst as) ρ S) Q E := by
  rw [IR.run]
  refine wp_bind (wp_imp h fun xs S1 ⟨e, q⟩ => ?_)
  rw [if_pos e]
  exact q
theorem wp_nil {Q : List D → Store → Prop} (h : Q [] S) : Wp (IRs.runs G Γ b md .nil ρ S) Q E := by
  rw [IRs.runs]
  exact wp_ok h
theorem wp_cons {a : IR} {as : IRs} {Q : List D → Store → Prop} (h : Wp (a.run G Γ b md ρ S) (fun x S1 => Wp (as.runs G Γ b md ρ S1) (fun xs S2 => Q (x :: xs) S2) E) E) : Wp (IRs.runs G Γ b md (.cons a as) ρ S) Q E := by
  rw [IRs.runs]
  exact wp_bind (wp_imp h fun x S1 h => wp_bind (wp_imp h fun xs S2 h => wp_ok h))
theorem wp_irs0 {Q : List D → Store → Prop} (h : Q [] S) : Wp (IRs.runs G Γ b md (irs []) ρ S) Q E := wp_nil h
theorem wp_irs {a : IR} {as : List IR} {Q : List D → Store → Prop} (h : Wp (a.run G Γ b md ρ S) (fun x S1 => Wp (IRs.runs G Γ b md (irs as) ρ S1) (fun xs S2 => Q (x :: xs) S2) E) E) : Wp (IRs.runs G Γ b md (irs (a :: as)) ρ S) Q E := wp_cons h
/-! ### the ends of operations -/
theorem wp_fz {xs : List D} (h : Q (.lst xs) S) : Wp (newL false S xs) Q E := wp_ok h
theorem wp_new {xs : List D} (h : Q (.ref S.length) (S ++ [.lst xs])) : Wp (newL true S xs) Q E := wp_ok h
theorem wp_ixc {x : D} {k : Int} (h : ∃ xs d, seqOf S x = some xs ∧ atOf xs k = some d ∧ Q d S) : Wp (ixF x (.int k) S) Q E := by
  obtain ⟨xs, d, e1, e2, h⟩ := h
  unfold ixF
  dsimp only
  rw [e1]
  exact wp_some e2 h
theorem wp_add {i j : Int} (h : Q (.int (i + j)) S) : Wp (binOf md S .add (.int i) (.int j)) Q E := wp_ok h
theorem wp_sub {i j : Int} (h : Q (.int (i - j)) S) : Wp (binOf md S .sub (.int i) (.int j)) Q E := wp_ok h
theorem wp_mul {i j : Int} (e : bitsOk i j = true) (h : Q (.int (i * j)) S) : Wp (binOf md S .mul (.int i) (.int j)) Q E := by
  unfold binOf binV
  dsimp only
  rw [if_pos e]
  exact wp_ok h
theorem wp_fdiv {i j : Int} (e : j ≠ 0 ∧ j.natAbs.log2 < 9000) (h : Q (.int (i.fdiv j)) S) : Wp (binOf md S .fdiv (.int i) (.int j)) Q E := by
  unfold binOf binV
  dsimp only
  rw [if_pos e]
  exact wp_ok h
theorem wp_mod {i j : Int} (e : j ≠ 0) (h : Q (.int (i.fmod j)) S) : Wp (binOf md S .mod (.int i) (.int j)) Q E := by
  unfold binOf binV
  dsimp only
  rw [if_pos e]
  exact wp_ok h
theorem wp_pow {i j : Int} (e : 0 ≤ j ∧ j ≤ 1000000 ∧ i.natAbs < 2 ^ 64) (h : Q (.int (i ^ j.toNat)) S) : Wp (binOf md S .pow (.int i) (.int j)) Q E := by
  unfold binOf binV
  dsimp only
  rw [if_pos e]
  exact wp_ok h
theorem wp_int {i : Int} (h : Q (.int i) S) : Wp (bifOf md S .int [.int i]) Q E := wp_ok h
theorem wp_abs {i : Int} (h : Q (.int (if i < 0 then -i else i)) S) : Wp (bifOf md S .abs [.int i]) Q E := wp_ok h
theorem wp_ixs {x d : D} {k : Int} {xs : List D} (e1 : seqOf S x = some xs) (e2 : atOf xs k = some d) (h : Q d S) : Wp (ixF x (.int k) S) Q E := by
  unfold ixF
  dsimp only
  rw [e1]
  exact wp_some e2 h
end
section
variable {G : Sig} {Γ : Fns} {b : Nat} {ρ : Env} {S : Store} {Q : Fl → Store → Prop} {E : Exn → Store → Prop}
theorem wx_nil (h : Q (.nx ρ) S) : Wp (STs.execs G Γ b .nil ρ S) Q E := by
  rw [STs.execs]
  exact wp_ok h
theorem wx_cons {s : ST} {r : STs} (h : Wp (s.exec G Γ b ρ S) (fun f S1 => match f with
    | .nx ρ1 => Wp (r.execs G Γ b ρ1 S1) Q E
    | .rt d => Q (.rt d) S1) E) : Wp (STs.execs G Γ b (.cons s r) ρ S) Q E := by
  rw [STs.execs]
  refine wp_bind (wp_imp h fun f S1 q => ?_)
  cases f with
  | nx ρ1 => exact q
  | rt d => exact wp_ok q
theorem wx_sts0 (h : Q (.nx ρ) S) : Wp (STs.execs G Γ b (sts []) ρ S) Q E := wx_nil h
theorem wx_sts {s : ST} {r : List ST} (h : Wp (s.exec G Γ b ρ S) (fun f S1 => match f with
    | .nx ρ1 => Wp (STs.execs G Γ b (sts r) ρ1 S1) Q E
    | .rt d => Q (.rt d) S1) E) : Wp (STs.execs G Γ b (sts (s :: r)) ρ S) Q E := wx_cons h
theorem wx_set {i : Nat} {md : Bool} {e : IR} (h : Wp (e.run G Γ b md ρ S) (fun d S1 => Q (.nx (ρ.set i (some d))) S1) E) : Wp (ST.exec G Γ b (.set i md e) ρ S) Q E := by
  rw [ST.exec]
  exact wp_bind (wp_imp h fun _ _ q => wp_ok q)
theorem wx_setT {tg : Tg} {md : Bool} {e : IR} (h : Wp (e.run G Γ b md ρ S) (fun d S1 => ∃ ρ1, assignTo tg d ρ S1 = some ρ1 ∧ Q (.nx ρ1) S1) E) : Wp (ST.exec G Γ b (.setT tg md e) ρ S) Q E := by
  rw [ST.exec]
  exact wp_bind (wp_imp h fun d S1 ⟨ρ1, e, q⟩ => wp_bind (wp_some e (wp_ok q)))
theorem wx_par {i j : Nat} {md : Bool} {e f : IR} (h : Wp (e.run G Γ b md ρ S) (fun d S1 => Wp (f.run G Γ b md ρ S1) (fun d2 S2 => Q (.nx ((ρ.set i (some d)).set j (some d2))) S2) E) E) : Wp (ST.exec G Γ b (.par i j md e f) ρ S) Q E := by
  rw [ST.exec]
  exact wp_bind (wp_imp h fun d S1 h => wp_bind (wp_imp h fun _ _ q => wp_ok q))
theorem wx_setIx {o i e : IR} (h : Wp (e.run G Γ b false ρ S) (fun d S1 => Wp (o.run G Γ b false ρ S1) (fun x S2 => Wp (i.run G Γ b false ρ S2) (fun k S3 => ∃ S4, setAt b x k d S3 = some S4 ∧ Q (.nx ρ) S4) E) E) E) : Wp (ST.exec G Γ b (.setIx o i e) ρ S) Q E := by
  rw [ST.exec]
  refine wp_bind (wp_imp h fun d S1 h => wp_bind (wp_imp h fun x S2 h => wp_bind (wp_imp h fun k S3 ⟨S4, e, q⟩ => ?_)))
  rw [e]
  exact wp_ok q
theorem wx_if {t : IR} {a c : STs} (h : Wp (t.run G Γ b false ρ S) (fun x S1 => ∃ k, truthy S1 x = some k ∧ (k = true → Wp (a.execs G Γ b ρ S1) Q E) ∧ (k = false → Wp (c.execs G Γ b ρ S1) Q E)) E) : Wp (ST.exec G Γ b (.iff t a c) ρ S) Q E := by
  rw [ST.exec]
  refine wp_bind (wp_bind (wp_imp h fun x S1 ⟨k, e, h1, h2⟩ => wp_some e ?_))
  cases k with
  | true => exact h1 rfl
  | false => exact h2 rfl
theorem wx_ret {md : Bool} {e : IR} (h : Wp (e.run G Γ b md ρ S) (fun d S1 => Q (.rt d) S1) E) : Wp (ST.exec G Γ b (.ret md e) ρ S) Q E := by
  rw [ST.exec]
  exact wp_bind (wp_imp h fun _ _ q => wp_ok q)
theorem wx_expr {e : IR} (h : Wp (e.run G Γ b false ρ S) (fun _ S1 => Q (.nx ρ) S1) E) : Wp (ST.exec G Γ b (.expr e) ρ S) Q E := by
  rw [ST.exec]
  exact wp_bind (wp_imp h fun _ _ q => wp_ok q)
end
/-- a def, called -/
theorem wp_fn {G : Sig} {fs : List Fn} {es : List Ec} {k : Nat} {x : Str} {f : Fn} {args : List D} {S : Store} {Q : D → Store → Prop} {E : Exn → Store → Prop} (h1 : fs.find? (fun f => decide (f.name = x)) = some f) (h2 : args.length = f.ps.length)
    (h : Wp (f.body.execs G (fns G fs es k) S.length (args.map some ++ List.replicate (f.N.length - args.length) none) S) (fun fl S1 => match fl with
      | .rt d => Wp (f.fin S.length d S1) Q E
      | .nx _ => Wp (f.fin S.length .non S1) Q E) fun x S1 => ∃ fs, frzX S1 S.length x.fs = some fs ∧ E ⟨x.cls, fs⟩ (S1.take S.length)) : Wp (fns G fs es (k + 1) x args S) Q E := by
  rw [fns]
  dsimp only
  rw [h1]
  unfold Fn.run
  dsimp only
  rw [if_pos h2]
  generalize STs.execs G (fns G fs es k) S.length f.body (args.map some ++ List.replicate (f.N.length - args.length) none) S = r at h ⊢
  cases r with
  | ok fl S1 =>
    cases fl with
    | rt d => exact h.okI
    | nx ρ => exact h.okI
  | exc y S1 =>
    obtain ⟨fs, e, q⟩ := h.excI
    dsimp only
    rw [e]
    exact wp_exc q
  | bad => exact h.badI.elim
/-- an answer without objects -/
theorem fin_und {f : Fn} {b : Nat} {d : D} {S : Store} {Q : D → Store → Prop} {E : Exn → Store → Prop} (ho : f.own = false) (hd : d.und b = true) (h : Q d (S.take b)) : Wp (f.fin b d S) Q E := by
  unfold Fn.fin
  rw [if_neg (by rw [ho]; decide)]
  have e : frz S b 60 d = some d := by
    unfold frz
    rw [if_pos hd]
  rw [e]
  exact wp_ok h
theorem fin_own {f : Fn} {b : Nat} {d : D} {S : Store} {Q : D → Store → Prop} {E : Exn → Store → Prop} (ho : f.own = true) (h : Q d S) : Wp (f.fin b d S) Q E := by
  unfold Fn.fin
  rw [if_pos ho]
  exact wp_ok h
end Pv

/-! Loops and comprehensions, by what holds before each turn. -/
namespace Pv
open PySem
section
variable {E : Exn → Store → Prop}
/-- a loop over items that stay: I before the i-th turn; a return ends it -/
theorem wp_forL {body : D → Env → Store → Res Fl} {Q : Fl → Store → Prop} (xs : List D) (I : Nat → Env → Store → Prop) : ∀ (k : Nat) (ρ : Env) (S : Store), I k ρ S → (∀ i x ρ S, k ≤ i → xs[i - k]? = some x → I i ρ S → Wp (body x ρ S) (fun f S1 => match f with
      | .nx ρ1 => I (i + 1) ρ1 S1
      | .rt d => Q (.rt d) S1) E) → (∀ ρ S, I (k + xs.length) ρ S → Q (.nx ρ) S) → Wp (forL body xs ρ S) Q E := by
  induction xs with
  | nil =>
    intro k ρ S h _ hq
    exact wp_ok (hq ρ S h)
  | cons x xs ih =>
    intro k ρ S h hb hq
    unfold forL
    refine wp_bind (wp_imp (hb k x ρ S (Nat.le_refl k) (by simp) h) fun f S1 q => ?_)
    cases f with
    | rt d => exact wp_ok q
    | nx ρ1 =>
      refine ih (k + 1) ρ1 S1 q (fun i y ρ S hi hy hI => hb i y ρ S (by omega) ?_ hI) fun ρ S hI => hq ρ S (by rw [List.length_cons, show k + (xs.length + 1) = k + 1 + xs.length by omega]; exact hI)
      obtain ⟨j, rfl⟩ : ∃ j, i = k + 1 + j := ⟨i - (k + 1), by omega⟩
      rw [show k + 1 + j - (k + 1) = j by omega] at hy
      rw [show k + 1 + j - k = j + 1 by omega]
      simpa using hy
theorem wx_for {G : Sig} {Γ : Fns} {b : Nat} {ρ : Env} {S : Store} {Q : Fl → Store → Prop} {tg : Tg} {src : Src} {body : STs} (h : Wp (src.runS G Γ b ρ S) (fun w S1 => ∃ xs, w = .fix xs ∧ ∃ I : Nat → Env → Store → Prop, I 0 ρ S1 ∧
      (∀ i x ρ S, xs[i]? = some x → I i ρ S → ∃ ρ1, assignTo tg x ρ S = some ρ1 ∧ Wp (body.execs G Γ b ρ1 S) (fun f S1 => match f with
        | .nx ρ1 => I (i + 1) ρ1 S1
        | .rt d => Q (.rt d) S1) E) ∧ ∀ ρ S, I xs.length ρ S → Q (.nx ρ) S) E) : Wp (ST.exec G Γ b (.for tg src body) ρ S) Q E := by
  rw [ST.exec]
  refine wp_bind (wp_imp h fun w S1 ⟨xs, e, I, h0, hs, hd⟩ => ?_)
  subst e
  unfold forW
  dsimp only
  refine wp_forL xs I 0 ρ S1 h0 (fun i x ρ S _ hx hI => ?_) fun ρ S hI => hd ρ S (by simpa using hI)
  obtain ⟨ρ1, e, w⟩ := hs i x ρ S (by simpa using hx) hI
  rw [e]
  exact w
/-- a comprehension over items that stay: acc the items so far -/
theorem wp_compL {turn : D → Store → Res (Option D)} {Q : List D → Store → Prop} (xs : List D) (I : Nat → List D → Store → Prop) : ∀ (k : Nat) (acc : List D) (S : Store), I k acc S → (∀ i x acc S, k ≤ i → xs[i - k]? = some x → I i acc S → Wp (turn x S) (fun o S1 => I (i + 1) (match o with
      | some d => acc ++ [d]
      | none => acc) S1) E) → (∀ acc S, I (k + xs.length) acc S → Q acc S) → Wp (compL turn xs acc S) Q E := by
  induction xs with
  | nil =>
    intro k acc S h _ hq
    exact wp_ok (hq acc S h)
  | cons x xs ih =>
    intro k acc S h hb hq
    unfold compL
    refine wp_bind (wp_imp (hb k x acc S (Nat.le_refl k) (by simp) h) fun o S1 q => ?_)
    refine ih (k + 1) _ S1 q (fun i y acc S hi hy hI => hb i y acc S (by omega) ?_ hI) fun acc S hI => hq acc S (by rw [List.length_cons, show k + (xs.length + 1) = k + 1 + xs.length by omega]; exact hI)
    obtain ⟨j, rfl⟩ : ∃ j, i = k + 1 + j := ⟨i - (k + 1), by omega⟩
    rw [show k + 1 + j - (k + 1) = j by omega] at hy
    rw [show k + 1 + j - k = j + 1 by omega]
    simpa using hy
theorem wp_calm {α : Type} {r : Res α} {Q : α → Store → Prop} (h : Wp r Q fun _ _ => False) : Wp r.calm Q E := by
  cases r with
  | ok a S => exact wp_ok h.okI
  | exc x S => exact h.excI.elim
  | bad => exact h.badI.elim
/-- one turn: the target's slots set, the tests (none or one), the item -/
theorem wp_comp {G : Sig} {Γ : Fns} {b : Nat} {md : Bool} {ρ : Env} {S : Store} {Q : D → Store → Prop} {own : List Nat} {tg : Tg} {src : Src} {ifs : IRs} {elt : IR} (h : Wp (src.runS G Γ b ρ S) (fun w S1 => ∃ xs, w = .fix xs ∧ xs.length ≤ LIM ∧ ∃ I : Nat → List D → Store → Prop, I 0 [] S1 ∧
      (∀ i x acc S, xs[i]? = some x → I i acc S → ∃ ρ1, assignTo tg x (wipeE ρ own) S = some ρ1 ∧ Wp (ifs.tests G Γ b ρ1 S) (fun k S1 => (k = true → Wp (elt.run G Γ b md ρ1 S1) (fun d S2 => I (i + 1) (acc ++ [d]) S2) fun _ _ => False) ∧ (k = false → I (i + 1) acc S1)) fun _ _ => False) ∧
      ∀ acc S, I xs.length acc S → Wp (newL md S acc) Q E) E) : Wp (IR.run G Γ b md (.comp own tg src ifs elt) ρ S) Q E := by
  rw [comp_run]
  refine wp_bind (wp_imp h fun w S1 ⟨xs, e, hl, I, h0, hs, hd⟩ => ?_)
  subst e
  unfold compW
  dsimp only
  rw [if_pos hl]
  refine wp_bind (wp_calm (wp_compL xs I 0 [] S1 h0 (fun i x acc S _ hx hI => ?_) fun acc S hI => hd acc S (by simpa using hI)))
  obtain ⟨ρ1, e, w⟩ := hs i x acc S (by simpa using hx) hI
  unfold turnOf
  rw [e]
  refine wp_bind (wp_imp w fun k S1 ⟨h1, h2⟩ => ?_)
  cases k with
  | true => exact wp_bind (wp_imp (h1 rfl) fun d S2 q => wp_ok q)
  | false => exact wp_ok (h2 rfl)
section
variable {G : Sig} {Γ : Fns} {b : Nat} {ρ : Env} {S : Store} {Q : Bool → Store → Prop} {R : Wlk → Store → Prop}
theorem wt_nil (h : Q true S) : Wp (IRs.tests G Γ b .nil ρ S) Q E := by
  rw [IRs.tests]
  exact wp_ok h
theorem wt_one {a : IR} (h : Wp (a.run G Γ b false ρ S) (fun x S1 => ∃ k, truthy S1 x = some k ∧ Q k S1) E) : Wp (IRs.tests G Γ b (.cons a .nil) ρ S) Q E := by
  rw [IRs.tests]
  refine wp_bind (wp_imp h fun x S1 ⟨k, e, q⟩ => wp_bind (wp_some e ?_))
  cases k with
  | true => exact wt_nil (G := G) (Γ := Γ) (b := b) (ρ := ρ) q
  | false => exact wp_ok q
theorem ws_it {a : IR} (h : Wp (a.run G Γ b false ρ S) (fun x S1 => ∃ w, wlkOf S1 x = some w ∧ R w S1) E) : Wp (Src.runS G Γ b (.it a) ρ S) R E := by
  rw [Src.runS]
  exact wp_bind (wp_imp h fun x S1 ⟨w, e, q⟩ => wp_some e q)
theorem ws_rng1 {a : IR} (h : Wp (a.run G Γ b false ρ S) (fun x S1 => ∃ j, x = .int j ∧ rngOk 0 j = true ∧ R (.fix (rngOf 0 j)) S1) E) : Wp (Src.runS G Γ b (.rng1 a) ρ S) R E := by
  rw [Src.runS]
  refine wp_bind (wp_imp h fun x S1 ⟨j, e, ok, q⟩ => ?_)
  subst e
  dsimp only
  rw [if_pos ok]
  exact wp_ok q
end
end
/-- a while that ends: V falls -/
theorem wp_while {test : Env → Store → Res Bool} {body : Env → Store → Res Fl} {Q : Fl → Store → Prop} {E : Exn → Store → Prop} (I : Nat → Env → Store → Prop)
    (h : ∀ v ρ S, I v ρ S → Wp (test ρ S) (fun k S1 => if k = true then Wp (body ρ S1) (fun f S2 => match f with
      | .nx ρ1 => ∃ v', v' < v ∧ I v' ρ1 S2
      | .rt d => Q (.rt d) S2) E else Q (.nx ρ) S1) E) : ∀ (n v : Nat) (ρ : Env) (S : Store), v < n → I v ρ S → Wp (whileN test body n ρ S) Q E
  | 0, v, ρ, S, hv, _ => by omega
  | n + 1, v, ρ, S, hv, hI => by
    unfold whileN
    refine wp_bind (wp_imp (h v ρ S hI) fun k S1 q => ?_)
    cases k with
    | false => exact wp_ok q
    | true =>
      rw [if_pos rfl] at q ⊢
      refine wp_bind (wp_imp q fun f S2 q2 => ?_)
      cases f with
      | rt d => exact wp_ok q2
      | nx ρ1 =>
        obtain ⟨v', hv', hI'⟩ := q2
        exact wp_while I h n v' ρ1 S2 (by omega) hI'
theorem wp_forR {E : Exn → Store → Prop} {body : D → Env → Store → Res Fl} {Q : Fl → Store → Prop} {w : Wlk} (xs : List D) (I : Nat → Env → Store → Prop) (hw : ∀ i ρ S, I i ρ S → w.at S = some xs)
    (hb : ∀ i x ρ S, xs[i]? = some x → I i ρ S → Wp (body x ρ S) (fun f S1 => match f with
      | .nx ρ1 => I (i + 1) ρ1 S1
      | .rt d => Q (.rt d) S1) E) (hq : ∀ ρ S, I xs.length ρ S → Q (.nx ρ) S) : ∀ (k i : Nat) (ρ : Env) (S : Store), i + k = xs.length → I i ρ S → Wp (forR body w k i ρ S) Q E
  | 0, i, ρ, S, hk, hI => by
    unfold forR
    rw [hw i ρ S hI]
    dsimp only
    have e : i = xs.length := by omega
    rw [if_pos e]
    rw [e] at hI
    exact wp_ok (hq ρ S hI)
  | k + 1, i, ρ, S, hk, hI => by
    have hi : i < xs.length := by omega
    unfold forR
    rw [hw i ρ S hI]
    dsimp only
    rw [List.getElem?_eq_getElem hi]
    dsimp only
    refine wp_bind (wp_imp (hb i xs[i] ρ S (List.getElem?_eq_getElem hi) hI) fun f S1 q => ?_)
    cases f with
    | rt d => exact wp_ok q
    | nx ρ1 => exact wp_forR xs I hw hb hq k (i + 1) ρ1 S1 (by omega) q
/-- a loop over what a list holds all along -/
theorem wx_forW {G : Sig} {Γ : Fns} {b : Nat} {ρ : Env} {S : Store} {Q : Fl → Store → Prop} {E : Exn → Store → Prop} {tg : Tg} {src : Src} {body : STs} (h : Wp (src.runS G Γ b ρ S) (fun w S1 => ∃ xs, w.len = xs.length ∧ ∃ I : Nat → Env → Store → Prop, I 0 ρ S1 ∧ (∀ i ρ S, I i ρ S → w.at S = some xs) ∧
      (∀ i x ρ S, xs[i]? = some x → I i ρ S → ∃ ρ1, assignTo tg x ρ S = some ρ1 ∧ Wp (body.execs G Γ b ρ1 S) (fun f S1 => match f with
        | .nx ρ1 => I (i + 1) ρ1 S1
        | .rt d => Q (.rt d) S1) E) ∧ ∀ ρ S, I xs.length ρ S → Q (.nx ρ) S) E) : Wp (ST.exec G Γ b (.for tg src body) ρ S) Q E := by
  rw [ST.exec]
  refine wp_bind (wp_imp h fun w S1 ⟨xs, e, I, h0, hw, hs, hd⟩ => ?_)
  rw [forW_eq, e]
  refine wp_forR xs I hw (fun i x ρ S hx hI => ?_) hd xs.length 0 ρ S1 (by omega) h0
  obtain ⟨ρ1, e, w'⟩ := hs i x ρ S hx hI
  rw [e]
  exact w'
theorem wx_whl {G : Sig} {Γ : Fns} {b : Nat} {ρ : Env} {S : Store} {Q : Fl → Store → Prop} {E : Exn → Store → Prop} {t : IR} {body : STs} (I : Nat → Env → Store → Prop) (v : Nat) (hv : v < FUEL) (h0 : I v ρ S)
    (h : ∀ v ρ S, I v ρ S → Wp (t.run G Γ b false ρ S) (fun x S1 => ∃ k, truthy S1 x = some k ∧ (k = true → Wp (body.execs G Γ b ρ S1) (fun f S2 => match f with
      | .nx ρ1 => ∃ v', v' < v ∧ I v' ρ1 S2
      | .rt d => Q (.rt d) S2) E) ∧ (k = false → Q (.nx ρ) S1)) E) : Wp (ST.exec G Γ b (.whl t body) ρ S) Q E := by
  rw [ST.exec]
  refine wp_while I (fun v ρ S hI => ?_) FUEL v ρ S hv h0
  unfold evT
  refine wp_bind (wp_imp (h v ρ S hI) fun x S1 ⟨k, e, h1, h2⟩ => wp_some e ?_)
  cases k with
  | true =>
    rw [if_pos rfl]
    exact h1 rfl
  | false => exact h2 rfl
theorem wp_compR {E : Exn → Store → Prop} {turn : D → Store → Res (Option D)} {Q : List D → Store → Prop} {w : Wlk} (xs : List D) (I : Nat → List D → Store → Prop) (hw : ∀ i acc S, I i acc S → w.at S = some xs)
    (hb : ∀ i x acc S, xs[i]? = some x → I i acc S → Wp (turn x S) (fun o S1 => I (i + 1) (match o with
      | some d => acc ++ [d]
      | none => acc) S1) E) (hq : ∀ acc S, I xs.length acc S → Q acc S) : ∀ (k i : Nat) (acc : List D) (S : Store), i + k = xs.length → I i acc S → Wp (compR turn w k i acc S) Q E
  | 0, i, acc, S, hk, hI => by
    unfold compR
    rw [hw i acc S hI]
    dsimp only
    have e : i = xs.length := by omega
    rw [if_pos e]
    rw [e] at hI
    exact wp_ok (hq acc S hI)
  | k + 1, i, acc, S, hk, hI => by
    have hi : i < xs.length := by omega
    unfold compR
    rw [hw i acc S hI]
    dsimp only
    rw [List.getElem?_eq_getElem hi]
    dsimp only
    exact wp_bind (wp_imp (hb i xs[i] acc S (List.getElem?_eq_getElem hi) hI) fun o S1 q => wp_compR xs I hw hb hq k (i + 1) _ S1 (by omega) q)
theorem set_back {S : Store} {n : Nat} {o u : O} (h : S[n]? = some o) : (S.set n u).set n o = S := by
  have hl := (List.getElem?_eq_some_iff.mp h).1
  have e := (List.getElem?_eq_some_iff.mp h).2
  rw [List.set_set, ← e, List.set_getElem_self]
/-- over the keys of a dict, which stays -/
theorem wp_compD {G : Sig} {Γ : Fns} {b : Nat} {md : Bool} {ρ : Env} {S : Store} {Q : D → Store → Prop} {E : Exn → Store → Prop} {own : List Nat} {tg : Tg} {i n : Nat} {ifs : IRs} {elt : IR} {ks : List L2.Key} {vs : List D} (e1 : ρ[i]? = some (some (.ref n))) (e2 : S[n]? = some (.dct ks vs)) (hl : ks.length ≤ LIM)
    (I : Nat → List D → Prop) (h0 : I 0 []) (hs : ∀ j k acc, ks[j]? = some k → I j acc → ∃ ρ1, assignTo tg (keyD k) (wipeE ρ own) (S.set n (.lck ks vs)) = some ρ1 ∧ Wp (ifs.tests G Γ b ρ1 (S.set n (.lck ks vs))) (fun q S1 => S1 = S.set n (.lck ks vs) ∧ (q = true → Wp (elt.run G Γ b md ρ1 S1) (fun d S2 => S2 = S1 ∧ I (j + 1) (acc ++ [d])) fun _ _ => False) ∧ (q = false → I (j + 1) acc)) fun _ _ => False)
    (hd : ∀ acc, I ks.length acc → Wp (newL md S acc) Q E) : Wp (IR.run G Γ b md (.compD own tg i ifs elt) ρ S) Q E := by
  rw [IR.run, e1]
  dsimp only
  rw [e2]
  dsimp only
  have hn := (List.getElem?_eq_some_iff.mp e2).1
  have at1 : (Wlk.keys n ks.length).at (S.set n (.lck ks vs)) = some (ks.map keyD) := by
    unfold Wlk.at
    dsimp only
    rw [List.getElem?_set_self hn]
    dsimp only
    rw [if_pos rfl]
  unfold compW
  dsimp only
  rw [if_pos hl]
  refine wp_bind (wp_calm (wp_compR (ks.map keyD) (fun j acc S' => S' = S.set n (.lck ks vs) ∧ I j acc) (fun j acc S' ⟨e, _⟩ => by rw [e]; exact at1) ?_ ?_ ks.length 0 [] _ (by rw [List.length_map]; omega) ⟨rfl, h0⟩))
  · rintro j x acc S' hx ⟨rfl, hI⟩
    rw [List.getElem?_map] at hx
    cases hk : ks[j]? with
    | none => rw [hk] at hx; cases hx
    | some k =>
      rw [hk] at hx
      cases hx
      obtain ⟨ρ1, e, w⟩ := hs j k acc hk hI
      rw [e]
      refine wp_bind (wp_imp w ?_)
      rintro q S1 ⟨rfl, h1, h2⟩
      cases q with
      | true => exact wp_bind (wp_imp (h1 rfl) fun d S2 q => ⟨q.1, q.2⟩)
      | false => exact ⟨rfl, h2 rfl⟩
  · rintro acc S' ⟨rfl, hI⟩
    rw [List.getElem?_set_self hn]
    dsimp only
    rw [set_back e2]
    rw [List.length_map] at hI
    exact hd acc hI
theorem compW_len {turn : D → Store → Res (Option D)} {w : Wlk} {S : Store} (hl : w.len ≤ LIM) : compW turn w S = compR turn w w.len 0 [] S := by
  cases w with
  | fix xs =>
    unfold compW
    dsimp only
    rw [if_pos (show xs.length ≤ LIM from hl)]
    exact ((compR_fix xs.length 0 [] S (by simp)).trans (by rw [List.drop_zero])).symm
  | live n len =>
    unfold compW
    dsimp only
    rw [if_pos (show len ≤ LIM from hl)]
    rfl
  | keys n len =>
    unfold compW
    dsimp only
    rw [if_pos (show len ≤ LIM from hl)]
    rfl
/-- a comprehension over what a list holds all along -/
theorem wp_compW {G : Sig} {Γ : Fns} {b : Nat} {md : Bool} {ρ : Env} {S : Store} {Q : D → Store → Prop} {E : Exn → Store → Prop} {own : List Nat} {tg : Tg} {src : Src} {ifs : IRs} {elt : IR} (h : Wp (src.runS G Γ b ρ S) (fun w S1 => ∃ xs, w.len = xs.length ∧ xs.length ≤ LIM ∧ ∃ I : Nat → List D → Store → Prop, I 0 [] S1 ∧ (∀ i acc S, I i acc S → w.at S = some xs) ∧
      (∀ i x acc S, xs[i]? = some x → I i acc S → ∃ ρ1, assignTo tg x (wipeE ρ own) S = some ρ1 ∧ Wp (ifs.tests G Γ b ρ1 S) (fun k S1 => (k = true → Wp (elt.run G Γ b md ρ1 S1) (fun d S2 => I (i + 1) (acc ++ [d]) S2) fun _ _ => False) ∧ (k = false → I (i + 1) acc S1)) fun _ _ => False) ∧
      ∀ acc S, I xs.length acc S → Wp (newL md S acc) Q E) E) : Wp (IR.run G Γ b md (.comp own tg src ifs elt) ρ S) Q E := by
  rw [comp_run]
  refine wp_bind (wp_imp h fun w S1 ⟨xs, e, hl, I, h0, hw, hs, hd⟩ => ?_)
  rw [compW_len (by rw [e]; exact hl), e]
  refine wp_bind (wp_calm (wp_compR xs I hw (fun i x acc S hx hI => ?_) hd xs.length 0 [] S1 (by omega) h0))
  obtain ⟨ρ1, e, w'⟩ := hs i x acc S hx hI
  unfold turnOf
  rw [e]
  refine wp_bind (wp_imp w' fun k S1 ⟨h1, h2⟩ => ?_)
  cases k with
  | true => exact wp_bind (wp_imp (h1 rfl) fun d S2 q => wp_ok q)
  | false => exact wp_ok (h2 rfl)
end Pv

/-! The greatest common factor of a list. -/
namespace Pv
open PySem
def factorB : STs := sts [.set 1 false (.cst (.int 0)), .for (.name 2) (.it (.var 0)) (sts [.par 3 4 false (.var 1) (.bif .abs (irs [.var 2])), .whl (.cmp .gt (.var 4) (.cst (.int 0))) (sts [.par 3 4 false (.var 4) (.bin .mod (.bif .int (irs [.var 3])) (.var 4))]), .set 1 false (.var 3)]), .ret false (.var 1)]
def gcds (ns : List Int) : Nat := ns.foldl (fun g n => Nat.gcd g n.natAbs) 0
def eum (a b : Nat) : Nat := if b = 0 then 0 else a.log2 + b.log2 + 2 + (if a < b then 1 else 0)
theorem log2_half {a c : Nat} (hc : 0 < c) (h : 2 * c ≤ a) : c.log2 + 1 ≤ a.log2 := by
  have h1 : c ≠ 0 := by omega
  have h2 : 2 ^ (c.log2 + 1) ≤ a := by
    have := Nat.log2_self_le h1
    rw [Nat.pow_succ]
    omega
  exact (Nat.le_log2 (by omega)).mpr h2
theorem eum_lt {a b : Nat} (hb : 0 < b) : eum b (a % b) < eum a b := by
  unfold eum
  rw [if_neg (by omega : ¬ b = 0)]
  by_cases h0 : a % b = 0
  · rw [if_pos h0]
    omega
  · rw [if_neg h0]
    have hm : a % b < b := Nat.mod_lt _ hb
    rw [if_neg (by omega : ¬ b < a % b)]
    by_cases hab : a < b
    · rw [if_pos hab, Nat.mod_eq_of_lt hab]
      omega
    · rw [if_neg hab]
      have h2 : 2 * (a % b) ≤ a := by
        have h3 := Nat.div_add_mod a b
        have h4 : 0 < a / b := Nat.div_pos (by omega) hb
        have h5 : b * 1 ≤ b * (a / b) := Nat.mul_le_mul_left b h4
        omega
      have := log2_half (by omega) h2
      omega
theorem fmod_nat (a b : Nat) : Int.fmod (a : Int) (b : Int) = ((a % b : Nat) : Int) := by
  rw [Int.fmod_eq_emod_of_nonneg _ (Int.natCast_nonneg b)]
  exact (Int.natCast_emod a b).symm
theorem log2_le' {n k : Nat} (h : n < 2 ^ k) : n.log2 ≤ k := by
  by_cases hn : n = 0
  · subst hn
    simp
  · exact Nat.le_of_lt ((Nat.log2_lt hn).mpr h)
theorem fold_lt {B : Nat} (hB : 0 < B) : ∀ {ns : List Int} {g : Nat}, (∀ n ∈ ns, n.natAbs < B) → g < B → ns.foldl (fun g n => Nat.gcd g n.natAbs) g < B
  | [], g, _, hg => hg
  | n :: ns, g, hb, hg => by
    refine fold_lt hB (ns := ns) (fun m hm => hb m (.tail _ hm)) ?_
    have h1 := hb n (.head _)
    show Nat.gcd g n.natAbs < B
    by_cases hn : n.natAbs = 0
    · rw [hn, Nat.gcd_zero_right]
      exact hg
    · exact Nat.lt_of_le_of_lt (Nat.gcd_le_right g (by omega)) h1
section
variable {G : Sig} {Γ : Fns} {b : Nat} {Q : Fl → Store → Prop} {E : Exn → Store → Prop}
theorem factor_run {S : Store} {x : D} {w : Wlk} {ns : List Int} (h1 : wlkOf S x = some w) (h2 : w.at S = some (ns.map D.int)) (h3 : w.len = ns.length) (hb : ∀ n ∈ ns, n.natAbs < 2 ^ 40000) (h : Q (.rt (.int (gcds ns : Nat))) S) :
    Wp (factorB.execs G Γ b [some x, none, none, none, none] S) Q E := by
  unfold factorB
  refine wx_sts (wx_set (wp_cst ?_))
  refine wx_sts (wx_forW ?_)
  refine ws_it (wp_var rfl ⟨w, h1, ns.map D.int, by rw [h3, List.length_map], ?_⟩)
  refine ⟨fun i ρ S' => S' = S ∧ ∃ p q r : Option D, ρ = [some x, some (.int ((ns.take i).foldl (fun g n => Nat.gcd g n.natAbs) 0 : Nat)), p, q, r], ⟨rfl, none, none, none, rfl⟩, fun i ρ S' ⟨e, _⟩ => by rw [e]; exact h2, ?_, ?_⟩
  · rintro i y ρ S' hy ⟨rfl, p, q, r, rfl⟩
    rw [List.getElem?_map] at hy
    cases hn : ns[i]? with
    | none => rw [hn] at hy; cases hy
    | some n =>
      rw [hn] at hy
      cases hy
      have hi : i < ns.length := (List.getElem?_eq_some_iff.mp hn).1
      have hnb := hb n (List.mem_of_getElem? hn)
      have htk : (ns.take (i + 1)).foldl (fun g n => Nat.gcd g n.natAbs) 0 = Nat.gcd ((ns.take i).foldl (fun g n => Nat.gcd g n.natAbs) 0) n.natAbs := by
        rw [List.take_succ, hn, List.foldl_append]
        rfl
      have hgb : (ns.take i).foldl (fun g n => Nat.gcd g n.natAbs) 0 < 2 ^ 40000 := by
        exact fold_lt (Nat.two_pow_pos _) (fun n hn => hb n (List.mem_of_mem_take hn)) (Nat.two_pow_pos _)
      generalize (ns.take i).foldl (fun g n => Nat.gcd g n.natAbs) 0 = f at htk hgb ⊢
      refine ⟨_, rfl, ?_⟩
      refine wx_sts (wx_par (wp_var rfl (wp_bif (wp_irs (wp_var rfl (wp_irs0 (wp_abs ?_)))))))
      have ea : (if n < 0 then -n else n) = ((n.natAbs : Nat) : Int) := by
        split <;> omega
      rw [ea]
      refine wx_sts (wx_whl (fun v ρ S2 => S2 = S' ∧ ∃ a c : Nat, ρ = [some x, some (.int f), some (.int n), some (.int a), some (.int c)] ∧ v = eum a c ∧ Nat.gcd a c = Nat.gcd f n.natAbs) (eum f n.natAbs) ?_ ⟨rfl, f, n.natAbs, rfl, rfl, rfl⟩ ?_)
      · have l1 := log2_le' hgb
        have l2 := log2_le' hnb
        unfold eum FUEL
        split
        · omega
        · split <;> omega
      · rintro v ρ S2 ⟨rfl, a, c, rfl, rfl, hg⟩
        refine wp_cmp (wp_var rfl (wp_cst ⟨_, rfl, _, rfl, fun hk => ?_, fun hk => ?_⟩))
        · have hc : 0 < c := by
            have := of_decide_eq_true hk
            omega
          refine wx_sts (wx_par (wp_var rfl (wp_bin (wp_bif (wp_irs (wp_var rfl (wp_irs0 (wp_int (wp_var rfl (wp_mod (by omega) (wx_sts0 ?_)))))))))))
          rw [fmod_nat]
          exact ⟨eum c (a % c), eum_lt hc, rfl, c, a % c, rfl, rfl, by rw [← hg, Nat.gcd_comm c, ← Nat.gcd_rec, Nat.gcd_comm]⟩
        · have hc : c = 0 := by
            have := of_decide_eq_false hk
            omega
          subst hc
          rw [Nat.gcd_zero_right] at hg
          refine wx_sts (wx_set (wp_var rfl (wx_sts0 ?_)))
          refine ⟨rfl, some (.int n), some (.int a), some (.int (0 : Nat)), ?_⟩
          rw [htk, ← hg]
          rfl
  · rintro ρ S' ⟨rfl, p, q, r, rfl⟩
    refine wx_sts (wx_ret (wp_var rfl ?_))
    rw [List.length_map, List.take_length]
    exact h
end
end Pv

/-! The laws' own sameness, of equal data. -/
namespace Pv
open PySem
def sameB : STs := sts [.iff (.or (.cmp .isC (.var 1) (.cst .non)) (.inst (.var 1) [.bool])) (sts [.ret false (.ite (.cmp .isC (.var 1) (.cst .non)) (.cmp .isC (.var 0) (.cst .non)) (.and (.inst (.var 0) [.bool]) (.cmp .eq (.cmp .isC (.var 0) (.cst (.bl true))) (.cmp .isC (.var 1) (.cst (.bl true))))))]) (sts []),
  .iff (.inst (.var 1) [.int]) (sts [.ret false (.and (.inst (.var 0) [.int]) (.and (.not (.inst (.var 0) [.bool])) (.cmp .eq (.bin .sub (.bif .int (irs [.var 0])) (.var 1)) (.cst (.int 0)))))]) (sts []),
  .iff (.inst (.var 1) [.str]) (sts [.ret false (.and (.inst (.var 0) [.str]) (.cmp .eq (.var 0) (.var 1)))]) (sts []),
  .iff (.inst (.var 1) [.dict]) (sts [.iff (.or (.not (.inst (.var 0) [.dict])) (.cmp .ne (.bif .len (irs [.var 0])) (.bif .len (irs [.var 1])))) (sts [.ret false (.cst (.bl false))]) (sts []), .ret false (.cmp .eq (.compD [3] (.name 3) 1 (irs [.or (.cmp .notInC (.var 3) (.var 0)) (.not (.call "_law_same" (irs [.ix (.var 0) (.var 3), .ix (.var 1) (.var 3)])))]) (.var 3)) (.lst (irs [])))]) (sts []),
  .iff (.or (.not (.inst (.var 1) [.list, .tuple])) (.not (.inst (.var 0) [.list, .tuple]))) (sts [.ret false (.cst (.bl false))]) (sts []),
  .iff (.or (.cmp .ne (.inst (.var 0) [.list]) (.inst (.var 1) [.list])) (.cmp .ne (.bif .len (irs [.var 0])) (.bif .len (irs [.var 1])))) (sts [.ret false (.cst (.bl false))]) (sts []),
  .ret false (.cmp .eq (.comp [2] (.name 2) (.rng1 (.bif .len (irs [.var 1]))) (irs [.not (.call "_law_same" (irs [.ix (.var 0) (.var 2), .ix (.var 1) (.var 2)]))]) (.var 2)) (.lst (irs [])))]
section
variable {G : Sig} {Γ : Fns} {b : Nat} {Q : Fl → Store → Prop} {E : Exn → Store → Prop} {S : Store}
theorem same_non (h : Q (.rt (.bl true)) S) : Wp (sameB.execs G Γ b [some .non, some .non, none, none] S) Q E := by
  unfold sameB
  repeat (first | (with_reducible refine wp_var ?_ ?_; exact rfl) | with_reducible refine wp_cst ?_ | with_reducible refine wx_sts ?_ | with_reducible refine wx_sts0 ?_ | with_reducible refine wx_if ?_ | with_reducible refine wx_ret ?_ | with_reducible refine wp_or ?_ | with_reducible refine wp_and ?_ | with_reducible refine wp_cmp ?_ | with_reducible refine wp_inst ?_ | with_reducible refine wp_ite ?_ | with_reducible refine wp_not ?_ | with_reducible refine wp_bin ?_ | with_reducible refine wp_sub ?_ | with_reducible refine wp_bif ?_ | with_reducible refine wp_irs ?_ | with_reducible refine wp_irs0 ?_ | with_reducible refine wp_int ?_ | exact h | refine ⟨_, rfl, ?_⟩ | refine ⟨fun _ => ?_, fun h => Bool.noConfusion h⟩ | refine ⟨fun h => Bool.noConfusion h, fun _ => ?_⟩)
theorem same_bl {c : Bool} (h : Q (.rt (.bl true)) S) : Wp (sameB.execs G Γ b [some (.bl c), some (.bl c), none, none] S) Q E := by
  unfold sameB
  cases c <;>
  repeat (first | (with_reducible refine wp_var ?_ ?_; exact rfl) | with_reducible refine wp_cst ?_ | with_reducible refine wx_sts ?_ | with_reducible refine wx_sts0 ?_ | with_reducible refine wx_if ?_ | with_reducible refine wx_ret ?_ | with_reducible refine wp_or ?_ | with_reducible refine wp_and ?_ | with_reducible refine wp_cmp ?_ | with_reducible refine wp_inst ?_ | with_reducible refine wp_ite ?_ | with_reducible refine wp_not ?_ | with_reducible refine wp_bin ?_ | with_reducible refine wp_sub ?_ | with_reducible refine wp_bif ?_ | with_reducible refine wp_irs ?_ | with_reducible refine wp_irs0 ?_ | with_reducible refine wp_int ?_ | exact h | refine ⟨_, rfl, ?_⟩ | refine ⟨fun _ => ?_, fun h => Bool.noConfusion h⟩ | refine ⟨fun h => Bool.noConfusion h, fun _ => ?_⟩)
theorem same_int {i : Int} (h : Q (.rt (.bl true)) S) : Wp (sameB.execs G Γ b [some (.int i), some (.int i), none, none] S) Q E := by
  have e : (i - i == (0 : Int)) = true := by simp
  unfold sameB
  repeat (first | (with_reducible refine wp_var ?_ ?_; exact rfl) | with_reducible refine wp_cst ?_ | with_reducible refine wx_sts ?_ | with_reducible refine wx_sts0 ?_ | with_reducible refine wx_if ?_ | with_reducible refine wx_ret ?_ | with_reducible refine wp_or ?_ | with_reducible refine wp_and ?_ | with_reducible refine wp_cmp ?_ | with_reducible refine wp_inst ?_ | with_reducible refine wp_ite ?_ | with_reducible refine wp_not ?_ | with_reducible refine wp_bin ?_ | with_reducible refine wp_sub ?_ | with_reducible refine wp_bif ?_ | with_reducible refine wp_irs ?_ | with_reducible refine wp_irs0 ?_ | with_reducible refine wp_int ?_ | exact h | refine ⟨_, rfl, ?_⟩ | refine ⟨fun _ => ?_, fun h => Bool.noConfusion h⟩ | refine ⟨fun h => Bool.noConfusion h, fun _ => ?_⟩)
  rw [e]
  exact h
theorem same_str {x : Str} (h : Q (.rt (.bl true)) S) : Wp (sameB.execs G Γ b [some (.str x), some (.str x), none, none] S) Q E := by
  have e : decide (x = x) = true := by simp
  unfold sameB
  repeat (first | (with_reducible refine wp_var ?_ ?_; exact rfl) | with_reducible refine wp_cst ?_ | with_reducible refine wx_sts ?_ | with_reducible refine wx_sts0 ?_ | with_reducible refine wx_if ?_ | with_reducible refine wx_ret ?_ | with_reducible refine wp_or ?_ | with_reducible refine wp_and ?_ | with_reducible refine wp_cmp ?_ | with_reducible refine wp_inst ?_ | with_reducible refine wp_ite ?_ | with_reducible refine wp_not ?_ | with_reducible refine wp_bin ?_ | with_reducible refine wp_sub ?_ | with_reducible refine wp_bif ?_ | with_reducible refine wp_irs ?_ | with_reducible refine wp_irs0 ?_ | with_reducible refine wp_int ?_ | exact h | refine ⟨_, rfl, ?_⟩ | refine ⟨fun _ => ?_, fun h => Bool.noConfusion h⟩ | refine ⟨fun h => Bool.noConfusion h, fun _ => ?_⟩)
  rw [e]
  exact h

theorem inst_of {S : Store} {d : D} {t : Ty} {ts : List Ty} (h : tyOf S d = some t) : instOf S d ts = some (ts.any fun u => decide (t = u) || (decide (t = .bool) && decide (u = .int))) := by
  cases d with
  | non => cases h
  | _ => unfold instOf; dsimp only; rw [h]; rfl
theorem no_items {S : Store} : cmpOf S .eq (.lst []) (.lst []) = some true := by
  show eqOf S (.lst []) (.lst []) = some true
  unfold eqOf
  dsimp only [flatOf, D.toP, D.toPs, Option.map]
  rw [if_pos (by decide)]
  rfl
/-- lists, tuples -/
theorem same_seq {d : D} {xs : List D} {t : Ty} (h1 : seqOf S d = some xs) (h2 : tyOf S d = some t) (ht : t = .tuple ∨ t = .list) (h3 : lenOf S d = some (xs.length : Int)) (h4 : isOf d .non = some false) (hl : xs.length ≤ LIM)
    (hc : ∀ x ∈ xs, Wp (Γ "_law_same" [x, x] S) (fun r S' => r = .bl true ∧ S' = S) fun _ _ => False) (h : Q (.rt (.bl true)) S) : Wp (sameB.execs G Γ b [some d, some d, none, none] S) Q E := by
  have n1 : cmpOf S .isC d .non = some false := h4
  have i1 : ∀ ts, instOf S d ts = some (ts.any fun u => decide (t = u) || (decide (t = .bool) && decide (u = .int))) := fun ts => inst_of h2
  have b1 : instOf S d [.bool] = some false := by rw [i1]; rcases ht with rfl | rfl <;> rfl
  have b2 : instOf S d [.int] = some false := by rw [i1]; rcases ht with rfl | rfl <;> rfl
  have b3 : instOf S d [.str] = some false := by rw [i1]; rcases ht with rfl | rfl <;> rfl
  have b4 : instOf S d [.dict] = some false := by rw [i1]; rcases ht with rfl | rfl <;> rfl
  have b5 : instOf S d [.list, .tuple] = some true := by rw [i1]; rcases ht with rfl | rfl <;> rfl
  obtain ⟨c, b6⟩ : ∃ c, instOf S d [.list] = some c := ⟨_, i1 _⟩
  have bl : bifOf false S .len [d] = .ok (.int xs.length) S := by
    show lift S ((lenOf S d).map D.int) = _
    rw [h3]
    rfl
  unfold sameB
  refine wx_sts (wx_if (wp_or (wp_cmp (wp_var rfl (wp_cst ⟨_, n1, false, rfl, fun _ => ?_, fun z => Bool.noConfusion z⟩)))))
  refine wp_inst (wp_var rfl ⟨_, b1, false, rfl, fun z => Bool.noConfusion z, fun _ => wx_sts0 ?_⟩)
  refine wx_sts (wx_if (wp_inst (wp_var rfl ⟨_, b2, false, rfl, fun z => Bool.noConfusion z, fun _ => wx_sts0 ?_⟩)))
  refine wx_sts (wx_if (wp_inst (wp_var rfl ⟨_, b3, false, rfl, fun z => Bool.noConfusion z, fun _ => wx_sts0 ?_⟩)))
  refine wx_sts (wx_if (wp_inst (wp_var rfl ⟨_, b4, false, rfl, fun z => Bool.noConfusion z, fun _ => wx_sts0 ?_⟩)))
  refine wx_sts (wx_if (wp_or (wp_not (wp_inst (wp_var rfl ⟨_, b5, true, rfl, false, rfl, fun _ => ?_, fun z => Bool.noConfusion z⟩)))))
  refine wp_not (wp_inst (wp_var rfl ⟨_, b5, true, rfl, false, rfl, fun z => Bool.noConfusion z, fun _ => wx_sts0 ?_⟩))
  have e1 : cmpOf S .ne (.bl c) (.bl c) = some false := by
    show (some (c == c)).map (!·) = _
    cases c <;> rfl
  have e2 : cmpOf S .ne (.int xs.length) (.int xs.length) = some false := by
    show (some ((xs.length : Int) == xs.length)).map (!·) = _
    simp
  refine wx_sts (wx_if (wp_or (wp_cmp (wp_inst (wp_var rfl ⟨_, b6, wp_inst (wp_var rfl ⟨_, b6, _, e1, false, rfl, fun _ => ?_, fun z => Bool.noConfusion z⟩)⟩)))))
  refine wp_cmp (wp_bif (wp_irs (wp_var rfl (wp_irs0 (wp_eqk bl (wp_bif (wp_irs (wp_var rfl (wp_irs0 (wp_eqk bl ?_))))))))))
  refine ⟨_, e2, false, rfl, fun z => Bool.noConfusion z, fun _ => wx_sts0 ?_⟩
  refine wx_sts (wx_ret (wp_cmp (wp_comp ?_)))
  have rl : (rngOf 0 (xs.length : Int)).length = xs.length := by
    unfold rngOf
    simp
  refine ws_rng1 (wp_bif (wp_irs (wp_var rfl (wp_irs0 (wp_eqk bl ⟨_, rfl, ?_, rngOf 0 xs.length, rfl, by rw [rl]; exact hl, ?_⟩)))))
  · unfold LIM at hl
    unfold rngOk
    exact decide_eq_true (by omega)
  · refine ⟨fun i acc S' => acc = [] ∧ S' = S, ⟨rfl, rfl⟩, ?_, ?_⟩
    · rintro i y acc S' hy ⟨rfl, rfl⟩
      have hi : i < xs.length := by
        have := (List.getElem?_eq_some_iff.mp hy).1
        omega
      have ey : y = .int (i : Nat) := by
        unfold rngOf at hy
        rw [List.getElem?_map, List.getElem?_range (by simpa using hi)] at hy
        simp at hy
        exact hy.symm
      subst ey
      have ia : atOf xs (i : Nat) = some xs[i] := by
        unfold atOf ixOf
        rw [if_pos (Int.natCast_nonneg i), if_pos (by omega)]
        show xs[(i : Int).toNat]? = _
        rw [Int.toNat_natCast, List.getElem?_eq_getElem hi]
      refine ⟨_, rfl, ?_⟩
      refine wt_one (wp_not (wp_call (wp_irs (wp_ix (wp_var rfl (wp_var rfl (wp_ixs h1 ia (wp_irs (wp_ix (wp_var rfl (wp_var rfl (wp_ixs h1 ia (wp_irs0 ?_)))))))))))))
      refine wp_imp (hc xs[i] (List.getElem_mem hi)) ?_
      rintro r S2 ⟨rfl, rfl⟩
      exact ⟨true, rfl, false, rfl, fun z => Bool.noConfusion z, fun _ => ⟨rfl, rfl⟩⟩
    · rintro acc S' ⟨rfl, rfl⟩
      exact wp_fz (wp_lst (wp_irs0 ⟨by decide, wp_fz ⟨_, no_items, h⟩⟩))

/-- one and the same dict -/
theorem same_dct {n : Nat} {ks : List L2.Key} {vs : List D} (hS : S[n]? = some (.dct ks vs)) (hl : ks.length ≤ LIM)
    (hc : ∀ k ∈ ks, ∃ v, valOf k ks vs = some v ∧ Wp (Γ "_law_same" [v, v] (S.set n (.lck ks vs))) (fun r S' => r = .bl true ∧ S' = S.set n (.lck ks vs)) fun _ _ => False) (h : Q (.rt (.bl true)) S) : Wp (sameB.execs G Γ b [some (.ref n), some (.ref n), none, none] S) Q E := by
  have h2 : tyOf S (.ref n) = some .dict := by
    unfold tyOf
    dsimp only
    rw [hS]
  have i1 : ∀ ts, instOf S (.ref n) ts = some (ts.any fun u => decide (Ty.dict = u) || (decide (Ty.dict = .bool) && decide (u = .int))) := fun ts => inst_of h2
  have b1 : instOf S (.ref n) [.bool] = some false := i1 _
  have b2 : instOf S (.ref n) [.int] = some false := i1 _
  have b3 : instOf S (.ref n) [.str] = some false := i1 _
  have b4 : instOf S (.ref n) [.dict] = some true := i1 _
  have bl : bifOf false S .len [.ref n] = .ok (.int ks.length) S := by
    show lift S ((lenOf S (.ref n)).map D.int) = _
    unfold lenOf
    dsimp only
    rw [hS]
    rfl
  have e2 : cmpOf S .ne (.int ks.length) (.int ks.length) = some false := by
    show (some ((ks.length : Int) == ks.length)).map (!·) = _
    simp
  have hn := (List.getElem?_eq_some_iff.mp hS).1
  unfold sameB
  refine wx_sts (wx_if (wp_or (wp_cmp (wp_var rfl (wp_cst ⟨_, rfl, false, rfl, fun _ => ?_, fun z => Bool.noConfusion z⟩)))))
  refine wp_inst (wp_var rfl ⟨_, b1, false, rfl, fun z => Bool.noConfusion z, fun _ => wx_sts0 ?_⟩)
  refine wx_sts (wx_if (wp_inst (wp_var rfl ⟨_, b2, false, rfl, fun z => Bool.noConfusion z, fun _ => wx_sts0 ?_⟩)))
  refine wx_sts (wx_if (wp_inst (wp_var rfl ⟨_, b3, false, rfl, fun z => Bool.noConfusion z, fun _ => wx_sts0 ?_⟩)))
  refine wx_sts (wx_if (wp_inst (wp_var rfl ⟨_, b4, true, rfl, fun _ => ?_, fun z => Bool.noConfusion z⟩)))
  refine wx_sts (wx_if (wp_or (wp_not (wp_inst (wp_var rfl ⟨_, b4, true, rfl, false, rfl, fun _ => ?_, fun z => Bool.noConfusion z⟩)))))
  refine wp_cmp (wp_bif (wp_irs (wp_var rfl (wp_irs0 (wp_eqk bl (wp_bif (wp_irs (wp_var rfl (wp_irs0 (wp_eqk bl ?_))))))))))
  refine ⟨_, e2, false, rfl, fun z => Bool.noConfusion z, fun _ => wx_sts0 ?_⟩
  refine wx_sts (wx_ret (wp_cmp ?_))
  refine wp_compD (n := n) (ks := ks) (vs := vs) rfl hS hl (fun _ acc => acc = []) rfl ?_ ?_
  · rintro j k acc hk rfl
    obtain ⟨v, hv, hcall⟩ := hc k (List.mem_of_getElem? hk)
    refine ⟨_, rfl, ?_⟩
    have dd : dctOf (S.set n (.lck ks vs)) (.ref n) = some (ks, vs) := by
      unfold dctOf
      dsimp only
      rw [List.getElem?_set_self hn]
    have ky : keyOf (keyD k) = some k := by cases k <;> rfl
    have sq : seqOf (S.set n (.lck ks vs)) (.ref n) = none := by
      unfold seqOf
      dsimp only
      unfold lstOf
      dsimp only
      rw [List.getElem?_set_self hn]
    have inn : cmpOf (S.set n (.lck ks vs)) .notInC (keyD k) (.ref n) = some false := by
      show (inOf _ _ _).map (!·) = _
      unfold inOf
      rw [sq]
      dsimp only
      rw [ky, dd]
      dsimp only
      rw [hv]
      rfl
    have get : ixF (.ref n) (keyD k) (S.set n (.lck ks vs)) = .ok v (S.set n (.lck ks vs)) := by
      unfold ixF
      cases k with
      | inl i =>
        show (match seqOf (S.set n (.lck ks vs)) (.ref n) with
          | some xs => lift _ (atOf xs i)
          | none => _) = _
        rw [sq]
        dsimp only
        rw [dd]
        dsimp only
        rw [hv]
        rfl
      | inr x =>
        show (match dctOf (S.set n (.lck ks vs)) (.ref n) with
          | some (ks, vs) => _
          | none => _) = _
        rw [dd]
        dsimp only
        rw [hv]
        rfl
    refine wt_one (wp_or (wp_cmp (wp_var rfl (wp_var rfl ⟨_, inn, false, rfl, fun _ => ?_, fun z => Bool.noConfusion z⟩))))
    refine wp_not (wp_call (wp_irs (wp_ix (wp_var rfl (wp_var rfl (wp_eq get (wp_ok (wp_irs (wp_ix (wp_var rfl (wp_var rfl (wp_eq get (wp_ok (wp_irs0 ?_))))))))))))))
    refine wp_imp hcall ?_
    rintro r S2 ⟨rfl, rfl⟩
    exact ⟨true, rfl, false, rfl, rfl, fun z => Bool.noConfusion z, fun _ => rfl⟩
  · rintro acc rfl
    exact wp_fz (wp_lst (wp_irs0 ⟨by decide, wp_fz ⟨_, no_items, h⟩⟩))

end
/-- a def of the text -/
def Def (fs : List Fn) (x : Str) (np nN : Nat) (body : STs) : Prop := ∃ f, fs.find? (fun f => decide (f.name = x)) = some f ∧ f.ps.length = np ∧ f.N.length = nN ∧ f.body = body ∧ f.own = false
theorem wp_def {G : Sig} {fs : List Fn} {es : List Ec} {k : Nat} {x : Str} {np nN : Nat} {body : STs} {args : List D} {S : Store} {Q : D → Store → Prop} {E : Exn → Store → Prop} (d : Def fs x np nN body) (hl : args.length = np)
    (h : Wp (body.execs G (fns G fs es k) S.length (args.map some ++ List.replicate (nN - np) none) S) (fun fl S1 => ∃ d, fl = .rt d ∧ d.und S.length = true ∧ Q d (S1.take S.length)) fun _ _ => False) : Wp (fns G fs es (k + 1) x args S) Q E := by
  obtain ⟨f, h1, rfl, rfl, rfl, h5⟩ := d
  rw [← hl] at h
  refine wp_fn h1 hl (wp_mono h ?_ fun _ _ z => z.elim)
  rintro fl S1 ⟨d, rfl, hu, q⟩
  exact fin_und h5 hu q
def D.pl : Nat → D → Bool
  | 0, .tup _ => false
  | 0, .lst _ => false
  | _, .dct _ _ => false
  | _, .ref _ => false
  | n + 1, .tup xs => decide (xs.length ≤ LIM) && xs.all (D.pl n)
  | n + 1, .lst xs => decide (xs.length ≤ LIM) && xs.all (D.pl n)
  | _, _ => true
theorem same_refl {G : Sig} {fs : List Fn} {es : List Ec} (df : Def fs "_law_same" 2 4 sameB) : ∀ (n : Nat) (d : D) (k : Nat) (S : Store) (E : Exn → Store → Prop), d.pl n = true → n ≤ k → Wp (fns G fs es (k + 1) "_law_same" [d, d] S) (fun r S' => r = .bl true ∧ S' = S) E := by
  intro n
  induction n with
  | zero =>
    intro d k S E hp hk
    refine wp_def df rfl ?_
    have q : ∃ d, Fl.rt (.bl true) = .rt d ∧ d.und S.length = true ∧ (d = .bl true ∧ S.take S.length = S) := ⟨_, rfl, rfl, rfl, List.take_length⟩
    cases d with
    | non => exact same_non q
    | bl c => exact same_bl q
    | int i => exact same_int q
    | str x => exact same_str q
    | _ => exact Bool.noConfusion (show false = true from hp)
  | succ n ih =>
    intro d k S E hp hk
    refine wp_def df rfl ?_
    have q : ∃ d, Fl.rt (.bl true) = .rt d ∧ d.und S.length = true ∧ (d = .bl true ∧ S.take S.length = S) := ⟨_, rfl, rfl, rfl, List.take_length⟩
    obtain ⟨k, rfl⟩ : ∃ k', k = k' + 1 := ⟨k - 1, by omega⟩
    cases d with
    | non => exact same_non q
    | bl c => exact same_bl q
    | int i => exact same_int q
    | str x => exact same_str q
    | tup xs =>
      obtain ⟨h1, h2⟩ := Bool.and_eq_true_iff.mp (show (decide (xs.length ≤ LIM) && xs.all (D.pl n)) = true from hp)
      exact same_seq (t := .tuple) rfl rfl (.inl rfl) rfl rfl (of_decide_eq_true h1) (fun x hx => ih x k S _ (List.all_eq_true.mp h2 x hx) (by omega)) q
    | lst xs =>
      obtain ⟨h1, h2⟩ := Bool.and_eq_true_iff.mp (show (decide (xs.length ≤ LIM) && xs.all (D.pl n)) = true from hp)
      exact same_seq (t := .list) rfl rfl (.inr rfl) rfl rfl (of_decide_eq_true h1) (fun x hx => ih x k S _ (List.all_eq_true.mp h2 x hx) (by omega)) q
    | dct ks vs => exact Bool.noConfusion (show false = true from hp)
    | ref m => exact Bool.noConfusion (show false = true from hp)
/-- one and the same list of the store -/
theorem same_ref {G : Sig} {fs : List Fn} {es : List Ec} (df : Def fs "_law_same" 2 4 sameB) {n m : Nat} {xs : List D} {k : Nat} {S : Store} {E : Exn → Store → Prop} (hS : S[m]? = some (.lst xs)) (hl : xs.length ≤ LIM) (hp : xs.all (D.pl n) = true) (hk : n ≤ k) : Wp (fns G fs es (k + 2) "_law_same" [.ref m, .ref m] S) (fun r S' => r = .bl true ∧ S' = S) E := by
  refine wp_def df rfl ?_
  have q : ∃ d, Fl.rt (.bl true) = .rt d ∧ d.und S.length = true ∧ (d = .bl true ∧ S.take S.length = S) := ⟨_, rfl, rfl, rfl, List.take_length⟩
  have h1 : seqOf S (.ref m) = some xs := by
    unfold seqOf
    dsimp only
    unfold lstOf
    dsimp only
    rw [hS]
  have h2 : tyOf S (.ref m) = some .list := by
    unfold tyOf
    dsimp only
    rw [hS]
  have h3 : lenOf S (.ref m) = some (xs.length : Int) := by
    unfold lenOf
    dsimp only
    rw [hS]
  exact same_seq h1 h2 (.inr rfl) h3 rfl hl (fun x hx => same_refl df n x k S _ (List.all_eq_true.mp hp x hx) hk) q
theorem same_refD {G : Sig} {fs : List Fn} {es : List Ec} (df : Def fs "_law_same" 2 4 sameB) {n m : Nat} {ks : List L2.Key} {vs : List D} {k : Nat} {S : Store} {E : Exn → Store → Prop} (hS : S[m]? = some (.dct ks vs)) (hl : ks.length ≤ LIM) (hp : ∀ q ∈ ks, ∃ v, valOf q ks vs = some v ∧ v.pl n = true) (hk : n ≤ k) : Wp (fns G fs es (k + 2) "_law_same" [.ref m, .ref m] S) (fun r S' => r = .bl true ∧ S' = S) E := by
  refine wp_def df rfl ?_
  have q : ∃ d, Fl.rt (.bl true) = .rt d ∧ d.und S.length = true ∧ (d = .bl true ∧ S.take S.length = S) := ⟨_, rfl, rfl, rfl, List.take_length⟩
  exact same_dct hS hl (fun y hy => let ⟨v, h1, h2⟩ := hp y hy; ⟨v, h1, same_refl df n v k _ _ h2 hk⟩) q
end Pv

/-! The laws' own helpers, in the evaluator. -/
namespace Pv
open PySem
/-- an integer drawn: so many names before the body do not matter -/
def takeB (p q r : Int) : STs := sts [.iff (.and (.ix (.var 0) (.cst (.int 1))) (.cmp .gt (.ix (.var 0) (.cst (.int 0))) (.cst (.int 0)))) (sts [.set 3 false (.bin .mod (.bif .int (irs [.ix (.var 0) (.cst (.int 0))])) (.var 1)), .setIx (.var 0) (.cst (.int 0)) (.bin .fdiv (.ix (.var 0) (.cst (.int 0))) (.var 1)), .ret false (.var 3)]) (sts []),
  .setIx (.var 0) (.cst (.int 3)) (.bin .add (.ix (.var 0) (.cst (.int 3))) (.cst (.int 1))), .set 2 false (.bin .mod (.bif .int (irs [.bin .pow (.bin .add (.bin .add (.ix (.var 0) (.cst (.int 2))) (.bin .mul (.cst (.int p)) (.ix (.var 0) (.cst (.int 3))))) (.cst (.int q))) (.cst (.int 5))])) (.cst (.int 2147483647))),
  .ret false (.bin .mod (.bif .int (irs [.bin .fdiv (.bin .mod (.bif .int (irs [.bin .pow (.bin .add (.bin .mul (.var 2) (.cst (.int 48271))) (.bin .mul (.cst (.int r)) (.ix (.var 0) (.cst (.int 3))))) (.cst (.int 3))])) (.cst (.int 2147483587))) (.cst (.int 64))])) (.var 1))]
structure Box where
  a : Int
  g : Bool
  c : Int
  e : Int
def Box.o (x : Box) : O := .lst [.int x.a, .bl x.g, .int x.c, .int x.e]
/-- numbers small enough -/
structure Box.Ok (x : Box) (m : Nat) : Prop where
  a : 0 ≤ x.a
  c : 0 ≤ x.c ∧ x.c < 2 ^ 31
  e : 0 ≤ x.e ∧ x.e ≤ m
section
variable {G : Sig} {Γ : Fns} {b : Nat}
theorem q_ref {S : Store} {n : Nat} {xs : List D} (h : S[n]? = some (.lst xs)) : seqOf S (.ref n) = some xs := by
  show lstOf S (.ref n) = _
  unfold lstOf
  dsimp only
  rw [h]
theorem log2_le {n k : Nat} (h : n < 2 ^ k) : n.log2 ≤ k := by
  by_cases hn : n = 0
  · subst hn
    simp
  · exact Nat.le_of_lt ((Nat.log2_lt hn).mpr h)
theorem bits_of {i j : Int} {k l : Nat} (hi : i.natAbs < 2 ^ k) (hj : j.natAbs < 2 ^ l) (h : k + l < 1000000) : bitsOk i j = true := by
  have h1 := log2_le hi
  have h2 := log2_le hj
  exact decide_eq_true (by omega)
theorem setAt_box {b n : Nat} {i : Int} {v : Int} {S : Store} {a c e : Int} {g : Bool} {j : Nat} (h : S[n]? = some (.lst [.int a, .bl g, .int c, .int e])) (hj : ixOf 4 i = some j := by rfl) : setAt b (.ref n) (.int i) (.int v) S = some (S.set n (.lst ([D.int a, .bl g, .int c, .int e].set j (.int v)))) := by
  unfold setAt
  dsimp only
  rw [h]
  dsimp only
  rw [show [D.int a, .bl g, .int c, .int e].length = 4 from rfl, hj]
  exact if_pos (.inr rfl)
theorem take_run {p q r many : Int} {S : Store} {n : Nat} {x : Box} {m : Nat} {Q : Fl → Store → Prop} {E : Exn → Store → Prop} (hS : S[n]? = some x.o) (hx : x.Ok m) (hm : m < 2 ^ 20) (hp : 0 ≤ p ∧ p < 2 ^ 30) (hq : 0 ≤ q ∧ q < 2 ^ 30) (hr : 0 ≤ r ∧ r < 2 ^ 30) (hk : 0 < many ∧ many < 2 ^ 40)
    (h : ∀ (d : Int) (y : Box), 0 ≤ d → d < many → y.Ok (m + 1) → Q (.rt (.int d)) (S.set n y.o)) : Wp ((takeB p q r).execs G Γ b [some (.ref n), some (.int many), none, none] S) Q E := by
  obtain ⟨a, g, c, e⟩ := x
  have hl : n < S.length := (List.getElem?_eq_some_iff.mp hS).1
  have e1 : 0 ≤ e := hx.e.1
  have e2 : e ≤ m := hx.e.2
  have c1 : 0 ≤ c := hx.c.1
  have c2 : c < 2 ^ 31 := hx.c.2
  have e3 : e + 1 ≤ 2 ^ 20 := by omega
  have b1 : bitsOk p (e + 1) = true := bits_of (k := 30) (l := 21) (by omega) (by omega) (by decide)
  have pe : p * (e + 1) ≤ 2 ^ 30 * 2 ^ 20 := Int.mul_le_mul (by omega) e3 (by omega) (by omega)
  have pe0 : 0 ≤ p * (e + 1) := Int.mul_nonneg hp.1 (by omega)
  have p1 : (0 : Int) ≤ 5 ∧ (5 : Int) ≤ 1000000 ∧ (c + p * (e + 1) + q).natAbs < 2 ^ 64 := ⟨by decide, by decide, by omega⟩
  generalize hw : ((c + p * (e + 1) + q) ^ (5 : Int).toNat).fmod 2147483647 = w
  have w1 : 0 ≤ w := by rw [← hw]; exact Int.fmod_nonneg_of_pos _ (by decide)
  have w2 : w < 2147483647 := by rw [← hw]; exact Int.fmod_lt_of_pos _ (by decide)
  have b2 : bitsOk w 48271 = true := bits_of (k := 31) (l := 17) (by omega) (by decide) (by decide)
  have b3 : bitsOk r (e + 1) = true := bits_of (k := 30) (l := 21) (by omega) (by omega) (by decide)
  have re : r * (e + 1) ≤ 2 ^ 30 * 2 ^ 20 := Int.mul_le_mul (by omega) e3 (by omega) (by omega)
  have re0 : 0 ≤ r * (e + 1) := Int.mul_nonneg hr.1 (by omega)
  have p2 : (0 : Int) ≤ 3 ∧ (3 : Int) ≤ 1000000 ∧ (w * 48271 + r * (e + 1)).natAbs < 2 ^ 64 := ⟨by decide, by decide, by omega⟩
  have d1 : (2147483647 : Int) ≠ 0 := by decide
  have d2 : (2147483587 : Int) ≠ 0 := by decide
  have d3 : (64 : Int) ≠ 0 ∧ (64 : Int).natAbs.log2 < 9000 := by decide
  have d4 : many ≠ 0 := by omega
  have l1 : many.natAbs.log2 < 9000 := Nat.lt_of_le_of_lt (log2_le (k := 40) (by omega)) (by decide)
  have hS' : seqOf S (.ref n) = some [.int a, .bl g, .int c, .int e] := q_ref hS
  have rest : Wp (STs.execs G Γ b (sts [.setIx (.var 0) (.cst (.int 3)) (.bin .add (.ix (.var 0) (.cst (.int 3))) (.cst (.int 1))), .set 2 false (.bin .mod (.bif .int (irs [.bin .pow (.bin .add (.bin .add (.ix (.var 0) (.cst (.int 2))) (.bin .mul (.cst (.int p)) (.ix (.var 0) (.cst (.int 3))))) (.cst (.int q))) (.cst (.int 5))])) (.cst (.int 2147483647))),
      .ret false (.bin .mod (.bif .int (irs [.bin .fdiv (.bin .mod (.bif .int (irs [.bin .pow (.bin .add (.bin .mul (.var 2) (.cst (.int 48271))) (.bin .mul (.cst (.int r)) (.ix (.var 0) (.cst (.int 3))))) (.cst (.int 3))])) (.cst (.int 2147483587))) (.cst (.int 64))])) (.var 1))]) [some (.ref n), some (.int many), none, none] S) Q E := by
    repeat (first | ((with_reducible refine wp_vr ?_); refine ⟨_, rfl, ?_⟩) | with_reducible refine wp_cst ?_ | with_reducible refine wp_bin ?_ | with_reducible refine wp_ix ?_ | with_reducible refine wp_add ?_ | with_reducible refine wp_sub ?_ | with_reducible refine wp_int ?_ | with_reducible refine wp_bif ?_ | with_reducible refine wp_irs ?_ | with_reducible refine wp_irs0 ?_ | with_reducible refine wx_sts ?_ | with_reducible refine wx_set ?_ | with_reducible refine wx_ret ?_ | with_reducible refine wx_setIx ?_ | with_reducible refine wx_if ?_ | with_reducible refine wp_and ?_ | with_reducible refine wp_cmp ?_ | ((with_reducible refine wp_ixc ?_); refine ⟨_, _, hS', rfl, ?_⟩))
    refine ⟨_, setAt_box hS, ?_⟩
    have hS2 : seqOf (S.set n (.lst ([D.int a, .bl g, .int c, .int e].set 3 (.int (e + 1))))) (.ref n) = some [.int a, .bl g, .int c, .int (e + 1)] := q_ref (by rw [List.getElem?_set_self hl]; rfl)
    repeat (first | ((with_reducible refine wp_vr ?_); refine ⟨_, rfl, ?_⟩) | with_reducible refine wp_cst ?_ | with_reducible refine wp_bin ?_ | with_reducible refine wp_ix ?_ | with_reducible refine wp_add ?_ | with_reducible refine wp_sub ?_ | with_reducible refine wp_int ?_ | with_reducible refine wp_bif ?_ | with_reducible refine wp_irs ?_ | with_reducible refine wp_irs0 ?_ | with_reducible refine wx_sts ?_ | with_reducible refine wx_set ?_ | with_reducible refine wx_ret ?_ | with_reducible refine wx_setIx ?_ | with_reducible refine wx_if ?_ | with_reducible refine wp_and ?_ | with_reducible refine wp_cmp ?_ | ((with_reducible refine wp_ixc ?_); refine ⟨_, _, hS2, rfl, ?_⟩))
    refine wp_mul b1 ?_
    repeat (first | ((with_reducible refine wp_vr ?_); refine ⟨_, rfl, ?_⟩) | with_reducible refine wp_cst ?_ | with_reducible refine wp_bin ?_ | with_reducible refine wp_ix ?_ | with_reducible refine wp_add ?_ | with_reducible refine wp_sub ?_ | with_reducible refine wp_int ?_ | with_reducible refine wp_bif ?_ | with_reducible refine wp_irs ?_ | with_reducible refine wp_irs0 ?_ | with_reducible refine wx_sts ?_ | with_reducible refine wx_set ?_ | with_reducible refine wx_ret ?_ | with_reducible refine wx_setIx ?_ | with_reducible refine wx_if ?_ | with_reducible refine wp_and ?_ | with_reducible refine wp_cmp ?_ | ((with_reducible refine wp_ixc ?_); refine ⟨_, _, hS2, rfl, ?_⟩))
    refine wp_pow p1 ?_
    repeat (first | ((with_reducible refine wp_vr ?_); refine ⟨_, rfl, ?_⟩) | with_reducible refine wp_cst ?_ | with_reducible refine wp_bin ?_ | with_reducible refine wp_ix ?_ | with_reducible refine wp_add ?_ | with_reducible refine wp_sub ?_ | with_reducible refine wp_int ?_ | with_reducible refine wp_bif ?_ | with_reducible refine wp_irs ?_ | with_reducible refine wp_irs0 ?_ | with_reducible refine wx_sts ?_ | with_reducible refine wx_set ?_ | with_reducible refine wx_ret ?_ | with_reducible refine wx_setIx ?_ | with_reducible refine wx_if ?_ | with_reducible refine wp_and ?_ | with_reducible refine wp_cmp ?_ | ((with_reducible refine wp_ixc ?_); refine ⟨_, _, hS2, rfl, ?_⟩))
    refine wp_mod d1 ?_
    repeat (first | ((with_reducible refine wp_vr ?_); refine ⟨_, rfl, ?_⟩) | with_reducible refine wp_cst ?_ | with_reducible refine wp_bin ?_ | with_reducible refine wp_ix ?_ | with_reducible refine wp_add ?_ | with_reducible refine wp_sub ?_ | with_reducible refine wp_int ?_ | with_reducible refine wp_bif ?_ | with_reducible refine wp_irs ?_ | with_reducible refine wp_irs0 ?_ | with_reducible refine wx_sts ?_ | with_reducible refine wx_set ?_ | with_reducible refine wx_ret ?_ | with_reducible refine wx_setIx ?_ | with_reducible refine wx_if ?_ | with_reducible refine wp_and ?_ | with_reducible refine wp_cmp ?_ | ((with_reducible refine wp_ixc ?_); refine ⟨_, _, hS2, rfl, ?_⟩))
    rw [hw]
    refine wp_mul b2 ?_
    repeat (first | ((with_reducible refine wp_vr ?_); refine ⟨_, rfl, ?_⟩) | with_reducible refine wp_cst ?_ | with_reducible refine wp_bin ?_ | with_reducible refine wp_ix ?_ | with_reducible refine wp_add ?_ | with_reducible refine wp_sub ?_ | with_reducible refine wp_int ?_ | with_reducible refine wp_bif ?_ | with_reducible refine wp_irs ?_ | with_reducible refine wp_irs0 ?_ | with_reducible refine wx_sts ?_ | with_reducible refine wx_set ?_ | with_reducible refine wx_ret ?_ | with_reducible refine wx_setIx ?_ | with_reducible refine wx_if ?_ | with_reducible refine wp_and ?_ | with_reducible refine wp_cmp ?_ | ((with_reducible refine wp_ixc ?_); refine ⟨_, _, hS2, rfl, ?_⟩))
    refine wp_mul b3 ?_
    repeat (first | ((with_reducible refine wp_vr ?_); refine ⟨_, rfl, ?_⟩) | with_reducible refine wp_cst ?_ | with_reducible refine wp_bin ?_ | with_reducible refine wp_ix ?_ | with_reducible refine wp_add ?_ | with_reducible refine wp_sub ?_ | with_reducible refine wp_int ?_ | with_reducible refine wp_bif ?_ | with_reducible refine wp_irs ?_ | with_reducible refine wp_irs0 ?_ | with_reducible refine wx_sts ?_ | with_reducible refine wx_set ?_ | with_reducible refine wx_ret ?_ | with_reducible refine wx_setIx ?_ | with_reducible refine wx_if ?_ | with_reducible refine wp_and ?_ | with_reducible refine wp_cmp ?_ | ((with_reducible refine wp_ixc ?_); refine ⟨_, _, hS2, rfl, ?_⟩))
    refine wp_pow p2 ?_
    repeat (first | ((with_reducible refine wp_vr ?_); refine ⟨_, rfl, ?_⟩) | with_reducible refine wp_cst ?_ | with_reducible refine wp_bin ?_ | with_reducible refine wp_ix ?_ | with_reducible refine wp_add ?_ | with_reducible refine wp_sub ?_ | with_reducible refine wp_int ?_ | with_reducible refine wp_bif ?_ | with_reducible refine wp_irs ?_ | with_reducible refine wp_irs0 ?_ | with_reducible refine wx_sts ?_ | with_reducible refine wx_set ?_ | with_reducible refine wx_ret ?_ | with_reducible refine wx_setIx ?_ | with_reducible refine wx_if ?_ | with_reducible refine wp_and ?_ | with_reducible refine wp_cmp ?_ | ((with_reducible refine wp_ixc ?_); refine ⟨_, _, hS2, rfl, ?_⟩))
    refine wp_mod d2 ?_
    repeat (first | ((with_reducible refine wp_vr ?_); refine ⟨_, rfl, ?_⟩) | with_reducible refine wp_cst ?_ | with_reducible refine wp_bin ?_ | with_reducible refine wp_ix ?_ | with_reducible refine wp_add ?_ | with_reducible refine wp_sub ?_ | with_reducible refine wp_int ?_ | with_reducible refine wp_bif ?_ | with_reducible refine wp_irs ?_ | with_reducible refine wp_irs0 ?_ | with_reducible refine wx_sts ?_ | with_reducible refine wx_set ?_ | with_reducible refine wx_ret ?_ | with_reducible refine wx_setIx ?_ | with_reducible refine wx_if ?_ | with_reducible refine wp_and ?_ | with_reducible refine wp_cmp ?_ | ((with_reducible refine wp_ixc ?_); refine ⟨_, _, hS2, rfl, ?_⟩))
    refine wp_fdiv d3 ?_
    repeat (first | ((with_reducible refine wp_vr ?_); refine ⟨_, rfl, ?_⟩) | with_reducible refine wp_cst ?_ | with_reducible refine wp_bin ?_ | with_reducible refine wp_ix ?_ | with_reducible refine wp_add ?_ | with_reducible refine wp_sub ?_ | with_reducible refine wp_int ?_ | with_reducible refine wp_bif ?_ | with_reducible refine wp_irs ?_ | with_reducible refine wp_irs0 ?_ | with_reducible refine wx_sts ?_ | with_reducible refine wx_set ?_ | with_reducible refine wx_ret ?_ | with_reducible refine wx_setIx ?_ | with_reducible refine wx_if ?_ | with_reducible refine wp_and ?_ | with_reducible refine wp_cmp ?_ | ((with_reducible refine wp_ixc ?_); refine ⟨_, _, hS2, rfl, ?_⟩))
    refine wp_mod d4 ?_
    exact h _ ⟨a, g, c, e + 1⟩ (Int.fmod_nonneg_of_pos _ hk.1) (Int.fmod_lt_of_pos _ hk.1) ⟨hx.a, hx.c, by have := hx.e.1; dsimp only at this ⊢; omega, by have := hx.e.2; dsimp only at this ⊢; omega⟩
  unfold takeB
  repeat (first | ((with_reducible refine wp_vr ?_); refine ⟨_, rfl, ?_⟩) | with_reducible refine wp_cst ?_ | with_reducible refine wp_bin ?_ | with_reducible refine wp_ix ?_ | with_reducible refine wp_add ?_ | with_reducible refine wp_sub ?_ | with_reducible refine wp_int ?_ | with_reducible refine wp_bif ?_ | with_reducible refine wp_irs ?_ | with_reducible refine wp_irs0 ?_ | with_reducible refine wx_sts ?_ | with_reducible refine wx_set ?_ | with_reducible refine wx_ret ?_ | with_reducible refine wx_setIx ?_ | with_reducible refine wx_if ?_ | with_reducible refine wp_and ?_ | with_reducible refine wp_cmp ?_ | ((with_reducible refine wp_ixc ?_); refine ⟨_, _, hS', rfl, ?_⟩))
  refine ⟨g, rfl, ⟨fun hg => ?_, fun hg => ?_⟩⟩
  · repeat (first | ((with_reducible refine wp_vr ?_); refine ⟨_, rfl, ?_⟩) | with_reducible refine wp_cst ?_ | with_reducible refine wp_bin ?_ | with_reducible refine wp_ix ?_ | with_reducible refine wp_add ?_ | with_reducible refine wp_sub ?_ | with_reducible refine wp_int ?_ | with_reducible refine wp_bif ?_ | with_reducible refine wp_irs ?_ | with_reducible refine wp_irs0 ?_ | with_reducible refine wx_sts ?_ | with_reducible refine wx_set ?_ | with_reducible refine wx_ret ?_ | with_reducible refine wx_setIx ?_ | with_reducible refine wx_if ?_ | with_reducible refine wp_and ?_ | with_reducible refine wp_cmp ?_ | ((with_reducible refine wp_ixc ?_); refine ⟨_, _, hS', rfl, ?_⟩))
    refine ⟨_, rfl, ⟨_, rfl, ⟨fun _ => ?_, fun _ => wx_sts0 rest⟩⟩⟩
    repeat (first | ((with_reducible refine wp_vr ?_); refine ⟨_, rfl, ?_⟩) | with_reducible refine wp_cst ?_ | with_reducible refine wp_bin ?_ | with_reducible refine wp_ix ?_ | with_reducible refine wp_add ?_ | with_reducible refine wp_sub ?_ | with_reducible refine wp_int ?_ | with_reducible refine wp_bif ?_ | with_reducible refine wp_irs ?_ | with_reducible refine wp_irs0 ?_ | with_reducible refine wx_sts ?_ | with_reducible refine wx_set ?_ | with_reducible refine wx_ret ?_ | with_reducible refine wx_setIx ?_ | with_reducible refine wx_if ?_ | with_reducible refine wp_and ?_ | with_reducible refine wp_cmp ?_ | ((with_reducible refine wp_ixc ?_); refine ⟨_, _, hS', rfl, ?_⟩))
    refine wp_mod d4 ?_
    repeat (first | ((with_reducible refine wp_vr ?_); refine ⟨_, rfl, ?_⟩) | with_reducible refine wp_cst ?_ | with_reducible refine wp_bin ?_ | with_reducible refine wp_ix ?_ | with_reducible refine wp_add ?_ | with_reducible refine wp_sub ?_ | with_reducible refine wp_int ?_ | with_reducible refine wp_bif ?_ | with_reducible refine wp_irs ?_ | with_reducible refine wp_irs0 ?_ | with_reducible refine wx_sts ?_ | with_reducible refine wx_set ?_ | with_reducible refine wx_ret ?_ | with_reducible refine wx_setIx ?_ | with_reducible refine wx_if ?_ | with_reducible refine wp_and ?_ | with_reducible refine wp_cmp ?_ | ((with_reducible refine wp_ixc ?_); refine ⟨_, _, hS', rfl, ?_⟩))
    refine wp_fdiv ⟨d4, l1⟩ ?_
    repeat (first | ((with_reducible refine wp_vr ?_); refine ⟨_, rfl, ?_⟩) | with_reducible refine wp_cst ?_ | with_reducible refine wp_bin ?_ | with_reducible refine wp_ix ?_ | with_reducible refine wp_add ?_ | with_reducible refine wp_sub ?_ | with_reducible refine wp_int ?_ | with_reducible refine wp_bif ?_ | with_reducible refine wp_irs ?_ | with_reducible refine wp_irs0 ?_ | with_reducible refine wx_sts ?_ | with_reducible refine wx_set ?_ | with_reducible refine wx_ret ?_ | with_reducible refine wx_setIx ?_ | with_reducible refine wx_if ?_ | with_reducible refine wp_and ?_ | with_reducible refine wp_cmp ?_ | ((with_reducible refine wp_ixc ?_); refine ⟨_, _, hS', rfl, ?_⟩))
    refine ⟨_, setAt_box hS, ?_⟩
    repeat (first | ((with_reducible refine wp_vr ?_); refine ⟨_, rfl, ?_⟩) | with_reducible refine wp_cst ?_ | with_reducible refine wp_bin ?_ | with_reducible refine wp_ix ?_ | with_reducible refine wp_add ?_ | with_reducible refine wp_sub ?_ | with_reducible refine wp_int ?_ | with_reducible refine wp_bif ?_ | with_reducible refine wp_irs ?_ | with_reducible refine wp_irs0 ?_ | with_reducible refine wx_sts ?_ | with_reducible refine wx_set ?_ | with_reducible refine wx_ret ?_ | with_reducible refine wx_setIx ?_ | with_reducible refine wx_if ?_ | with_reducible refine wp_and ?_ | with_reducible refine wp_cmp ?_ | ((with_reducible refine wp_ixc ?_); refine ⟨_, _, hS', rfl, ?_⟩))
    exact h _ ⟨a.fdiv many, g, c, e⟩ (Int.fmod_nonneg_of_pos _ hk.1) (Int.fmod_lt_of_pos _ hk.1) ⟨Int.fdiv_nonneg hx.a (by omega), hx.c, hx.e.1, by have := hx.e.2; dsimp only at this ⊢; omega⟩
  · refine ⟨g, rfl, ⟨fun z => ?_, fun _ => wx_sts0 rest⟩⟩
    rw [hg] at z
    cases z
end
/-- the box stands at n -/
def BoxAt (S : Store) (n m : Nat) : Prop := ∃ x : Box, S[n]? = some x.o ∧ x.Ok m
/-- the box alone is changed -/
structure Dr (n m : Nat) (S S' : Store) : Prop where
  len : S'.length = S.length
  oth : ∀ j, j ≠ n → S'[j]? = S[j]?
  box : BoxAt S' n m
theorem Box.Ok.mono {x : Box} {m m' : Nat} (h : x.Ok m) (e : m ≤ m') : x.Ok m' := ⟨h.a, h.c, h.e.1, by have := h.e.2; omega⟩
theorem Dr.mono {n m m' : Nat} {S S' : Store} (h : Dr n m S S') (e : m ≤ m') : Dr n m' S S' := ⟨h.len, h.oth, let ⟨x, h1, h2⟩ := h.box; ⟨x, h1, h2.mono e⟩⟩
theorem Dr.trans {n m m' : Nat} {S S1 S2 : Store} (a : Dr n m S S1) (b : Dr n m' S1 S2) : Dr n m' S S2 := ⟨b.len.trans a.len, fun j hj => (b.oth j hj).trans (a.oth j hj), b.box⟩
theorem Dr.refl {n m : Nat} {S : Store} (h : BoxAt S n m) : Dr n m S S := ⟨rfl, fun _ _ => rfl, h⟩
theorem Dr.take {n m b : Nat} {S S' : Store} (h : Dr n m S S') (hb : b = S.length) : S'.take b = S' := by rw [hb, ← h.len, List.take_length]
/-- the numbers of a draw -/
structure Nums (p q r : Int) : Prop where
  p : 0 ≤ p ∧ p < 2 ^ 30
  q : 0 ≤ q ∧ q < 2 ^ 30
  r : 0 ≤ r ∧ r < 2 ^ 30
theorem take_ok {G : Sig} {fs : List Fn} {es : List Ec} {p q r many : Int} (df : Def fs "_law_take" 2 4 (takeB p q r)) (nu : Nums p q r) {S : Store} {n m k : Nat} {E : Exn → Store → Prop} (hx : BoxAt S n m) (hm : m < 2 ^ 20) (hk : 0 < many ∧ many < 2 ^ 40) :
    Wp (fns G fs es (k + 1) "_law_take" [.ref n, .int many] S) (fun d S' => ∃ i, d = .int i ∧ 0 ≤ i ∧ i < many ∧ Dr n (m + 1) S S') E := by
  obtain ⟨x, h1, h2⟩ := hx
  refine wp_def df rfl (take_run h1 h2 hm nu.p nu.q nu.r hk fun d y hd1 hd2 hy => ⟨.int d, rfl, rfl, d, rfl, hd1, hd2, ?_⟩)
  have hn := (List.getElem?_eq_some_iff.mp h1).1
  have dr : Dr n (m + 1) S (S.set n y.o) := ⟨List.length_set, fun j hj => List.getElem?_set_ne (Ne.symm hj), y, List.getElem?_set_self hn, hy⟩
  rw [dr.take rfl]
  exact dr
end Pv

/-! Points and sides as the laws make them. -/
namespace Pv
open PySem
section
variable {G : Sig} {fs : List Fn} {es : List Ec} {E : Exn → Store → Prop}
theorem factor_ok (df : Def fs "_law_factor" 1 5 factorB) {k : Nat} {S : Store} {x : D} {w : Wlk} {ns : List Int} (h1 : wlkOf S x = some w) (h2 : w.at S = some (ns.map D.int)) (h3 : w.len = ns.length) (hb : ∀ n ∈ ns, n.natAbs < 2 ^ 40000) :
    Wp (fns G fs es (k + 1) "_law_factor" [x] S) (fun d S' => d = .int (gcds ns : Nat) ∧ S' = S) E :=
  wp_def df rfl (factor_run h1 h2 h3 hb ⟨_, rfl, rfl, rfl, List.take_length⟩)
theorem factor_lst (df : Def fs "_law_factor" 1 5 factorB) {k : Nat} {S : Store} {ns : List Int} (hb : ∀ n ∈ ns, n.natAbs < 2 ^ 40000) : Wp (fns G fs es (k + 1) "_law_factor" [.lst (ns.map D.int)] S) (fun d S' => d = .int (gcds ns : Nat) ∧ S' = S) E :=
  factor_ok df (w := .fix (ns.map D.int)) rfl rfl (by show (ns.map D.int).length = _; rw [List.length_map]) hb
theorem factor_tup (df : Def fs "_law_factor" 1 5 factorB) {k : Nat} {S : Store} {ns : List Int} (hb : ∀ n ∈ ns, n.natAbs < 2 ^ 40000) : Wp (fns G fs es (k + 1) "_law_factor" [.tup (ns.map D.int)] S) (fun d S' => d = .int (gcds ns : Nat) ∧ S' = S) E :=
  factor_ok df (w := .fix (ns.map D.int)) rfl rfl (by show (ns.map D.int).length = _; rw [List.length_map]) hb
/-- the items, each done with, nothing else changed -/
theorem wp_mapW {Γ : Fns} {b : Nat} {ρ : Env} {S : Store} {Q : D → Store → Prop} {j : Nat} {xs : List D} {f : D → D} {a elt : IR} {d : D} {w : Wlk} (ha : IR.run G Γ b false a ρ S = .ok d S) (hw : wlkOf S d = some w) (h2 : w.at S = some xs) (h3 : w.len = xs.length) (hl : xs.length ≤ LIM)
    (hf : ∀ x ∈ xs, Wp (elt.run G Γ b false ((wipeE ρ [j]).set j (some x)) S) (fun d S' => d = f x ∧ S' = S) fun _ _ => False) (h : Q (.lst (xs.map f)) S) :
    Wp (IR.run G Γ b false (.comp [j] (.name j) (.it a) (irs []) elt) ρ S) Q E := by
  refine wp_compW (ws_it (wp_eq ha (wp_ok ⟨_, hw, xs, h3, hl, fun i acc S' => S' = S ∧ acc = (xs.take i).map f, ⟨rfl, rfl⟩, fun i acc S' ⟨e, _⟩ => by rw [e]; exact h2, ?_, ?_⟩)))
  · rintro i x acc S' hx ⟨rfl, rfl⟩
    refine ⟨(wipeE ρ [j]).set j (some x), by rw [assignTo], wt_nil ⟨fun _ => ?_, fun z => Bool.noConfusion z⟩⟩
    refine wp_imp (hf x (List.mem_of_getElem? hx)) ?_
    rintro d S2 ⟨rfl, rfl⟩
    refine ⟨rfl, ?_⟩
    rw [List.take_succ, hx, List.map_append]
    rfl
  · rintro acc S' ⟨rfl, rfl⟩
    rw [List.take_length]
    exact wp_fz h
theorem wp_map {Γ : Fns} {b : Nat} {ρ : Env} {S : Store} {Q : D → Store → Prop} {j : Nat} {xs : List D} {f : D → D} {a elt : IR} {d : D} (ha : IR.run G Γ b false a ρ S = .ok d S) (hw : wlkOf S d = some (.fix xs)) (hl : xs.length ≤ LIM)
    (hf : ∀ x ∈ xs, Wp (elt.run G Γ b false ((wipeE ρ [j]).set j (some x)) S) (fun d S' => d = f x ∧ S' = S) fun _ _ => False) (h : Q (.lst (xs.map f)) S) :
    Wp (IR.run G Γ b false (.comp [j] (.name j) (.it a) (irs []) elt) ρ S) Q E := wp_mapW ha hw rfl rfl hl hf h
/-- the items that pass a test -/
theorem wp_filter {Γ : Fns} {b : Nat} {ρ : Env} {S : Store} {Q : D → Store → Prop} {j : Nat} {xs : List D} {p : D → Bool} {a t : IR} {d : D} (ha : IR.run G Γ b false a ρ S = .ok d S) (hw : wlkOf S d = some (.fix xs)) (hl : xs.length ≤ LIM) (hj : j < ρ.length)
    (hf : ∀ x ∈ xs, Wp (t.run G Γ b false ((wipeE ρ [j]).set j (some x)) S) (fun y S' => truthy S' y = some (p x) ∧ S' = S) fun _ _ => False) (h : Q (.lst (xs.filter p)) S) :
    Wp (IR.run G Γ b false (.comp [j] (.name j) (.it a) (irs [t]) (.var j)) ρ S) Q E := by
  refine wp_comp (ws_it (wp_eq ha (wp_ok ⟨_, hw, xs, rfl, hl, fun i acc S' => S' = S ∧ acc = (xs.take i).filter p, ⟨rfl, rfl⟩, ?_, ?_⟩)))
  · rintro i x acc S' hx ⟨rfl, rfl⟩
    refine ⟨(wipeE ρ [j]).set j (some x), by rw [assignTo], wt_one (wp_imp (hf x (List.mem_of_getElem? hx)) ?_)⟩
    rintro y S2 ⟨e, rfl⟩
    have ht : (xs.take (i + 1)).filter p = (xs.take i).filter p ++ (if p x then [x] else []) := by
      rw [List.take_succ, hx, List.filter_append]
      congr 1
      show List.filter p [x] = _
      rw [List.filter_cons]
      rfl
    refine ⟨_, e, fun hp => wp_var (by rw [List.getElem?_set_self (by simpa [wipeE] using hj)]) ⟨rfl, ?_⟩, fun hp => ⟨rfl, ?_⟩⟩
    · rw [ht, hp]
      rfl
    · rw [ht, hp]
      simp
  · rintro acc S' ⟨rfl, rfl⟩
    rw [List.take_length]
    exact wp_fz h
def pointB : STs := sts [.set 1 false (.bin .mul (.call "_law_factor" (irs [.var 0])) (.ite (.cmp .gt (.ix (.var 0) (.neg (.cst (.int 1)))) (.cst (.int 0))) (.cst (.int 1)) (.neg (.cst (.int 1))))), .ret false (.bif .tuple (irs [.comp [2] (.name 2) (.it (.var 0)) (irs []) (.bin .fdiv (.var 2) (.var 1))]))]
def sideB : STs := sts [.set 1 false (.call "_law_factor" (irs [.var 0])), .ret false (.bif .tuple (irs [.comp [2] (.name 2) (.it (.var 0)) (irs []) (.bin .fdiv (.var 2) (.var 1))]))]
theorem gcds_ne {ns : List Int} {l : Int} (hl : l ∈ ns) (h0 : l ≠ 0) : gcds ns ≠ 0 := by
  have key : ∀ (ns : List Int) (g : Nat), (g ≠ 0 ∨ ∃ l ∈ ns, l ≠ 0) → ns.foldl (fun g n => Nat.gcd g n.natAbs) g ≠ 0 := by
    intro ns
    induction ns with
    | nil =>
      intro g h
      rcases h with h | ⟨_, h, _⟩
      · exact h
      · cases h
    | cons n ns ih =>
      intro g h
      refine ih _ ?_
      rcases h with h | ⟨l, hl, h0⟩
      · exact .inl fun z => h (Nat.gcd_eq_zero_iff.mp z).1
      · rcases List.mem_cons.mp hl with rfl | hl
        · exact .inl fun z => h0 (by have := (Nat.gcd_eq_zero_iff.mp z).2; omega)
        · exact .inr ⟨l, hl, h0⟩
  exact key ns 0 (.inr ⟨l, hl, h0⟩)
def divs (s : Int) (ns : List Int) : List D := ns.map fun n => .int (n.fdiv s)
theorem divs_map {s : Int} {ns : List Int} : (ns.map D.int).map (fun d => match d with
    | .int n => .int (n.fdiv s)
    | d => d) = divs s ns := by
  rw [List.map_map]
  rfl
theorem divs_und {s : Int} {ns : List Int} {b : Nat} : (D.tup (divs s ns)).und b = true := by
  show D.undAll b (divs s ns) = true
  unfold divs
  induction ns with
  | nil => rfl
  | cons n ns ih => exact ih
def sgn (l : Int) : Int := if 0 < l then 1 else -1
theorem point_ok (df : Def fs "_law_factor" 1 5 factorB) (dp : Def fs "_law_point" 1 3 pointB) {k : Nat} {S : Store} {ns : List Int} {l : Int} (hb : ∀ n ∈ ns, n.natAbs < 2 ^ 4000) (hl : ns.length ≤ LIM) (e : atOf (ns.map D.int) (-1) = some (.int l)) (hm : l ∈ ns) (h0 : l ≠ 0) :
    Wp (fns G fs es (k + 2) "_law_point" [.lst (ns.map D.int)] S) (fun d S' => d = .tup (divs (gcds ns * sgn l) ns) ∧ S' = S) E := by
  have hg := gcds_ne hm h0
  have hgb : gcds ns < 2 ^ 4000 := fold_lt (Nat.two_pow_pos _) hb (Nat.two_pow_pos _)
  have hb2 : ∀ n ∈ ns, n.natAbs < 2 ^ 40000 := fun n hn => Nat.lt_of_lt_of_le (hb n hn) (Nat.pow_le_pow_right (by decide) (by decide))
  have hs : (gcds ns : Int) * sgn l ≠ 0 := by
    unfold sgn
    split <;> omega
  have hs2 : ((gcds ns : Int) * sgn l).natAbs = gcds ns := by
    unfold sgn
    split <;> omega
  have tail : ∀ S1 : Store, S1 = S → Wp (STs.execs G (fns G fs es (k + 1)) S.length (sts [.ret false (.bif .tuple (irs [.comp [2] (.name 2) (.it (.var 0)) (irs []) (.bin .fdiv (.var 2) (.var 1))]))]) [some (.lst (ns.map D.int)), some (.int (gcds ns * sgn l)), none] S1)
      (fun fl S1 => ∃ d, fl = .rt d ∧ d.und S.length = true ∧ (d = .tup (divs (gcds ns * sgn l) ns) ∧ S1.take S.length = S)) fun _ _ => False := by
    rintro _ rfl
    refine wx_sts (wx_ret (wp_bif (wp_irs (wp_map (f := fun d => match d with
      | .int n => .int (n.fdiv (gcds ns * sgn l))
      | d => d) (d := .lst (ns.map D.int)) (by rw [IR.run]; rfl) rfl (by rw [List.length_map]; exact hl) ?_ (wp_irs0 ?_)))))
    · intro x hx
      obtain ⟨n, _, rfl⟩ := List.mem_map.mp hx
      exact wp_bin (wp_var rfl (wp_var rfl (wp_fdiv ⟨hs, by rw [hs2]; exact Nat.lt_of_le_of_lt (log2_le hgb) (by decide)⟩ ⟨rfl, rfl⟩)))
    · rw [divs_map]
      exact wp_some rfl ⟨_, rfl, divs_und, rfl, List.take_length⟩
  refine wp_def dp rfl ?_
  unfold pointB
  refine wx_sts (wx_set (wp_bin (wp_call (wp_irs (wp_var rfl (wp_irs0 ?_))))))
  refine wp_imp (factor_lst df hb2) ?_
  rintro d S1 ⟨rfl, rfl⟩
  refine wp_ite (wp_cmp (wp_ix (wp_var rfl (wp_neg (wp_cst ⟨1, rfl, wp_ixs rfl e (wp_cst ⟨_, rfl, _, rfl, fun hk => ?_, fun hk => ?_⟩)⟩)))))
  · have hl0 : sgn l = 1 := if_pos (of_decide_eq_true hk)
    rw [hl0] at tail ⊢
    exact wp_cst (wp_mul (bits_of (k := 4000) (l := 1) (by simpa using hgb) (by decide) (by decide)) (tail _ rfl))
  · have hl0 : sgn l = -1 := if_neg (of_decide_eq_false hk)
    rw [hl0] at tail ⊢
    exact wp_neg (wp_cst ⟨1, rfl, wp_mul (bits_of (k := 4000) (l := 1) (by simpa using hgb) (by decide) (by decide)) (tail _ rfl)⟩)
/-- what a list or tuple of integers is walked as -/
def Ints (S : Store) (x : D) (ns : List Int) : Prop := ∃ w, wlkOf S x = some w ∧ w.at S = some (ns.map D.int) ∧ w.len = ns.length
theorem ints_lst {S : Store} {ns : List Int} : Ints S (.lst (ns.map D.int)) ns := ⟨_, rfl, rfl, by show (ns.map D.int).length = _; rw [List.length_map]⟩
theorem ints_tup {S : Store} {ns : List Int} : Ints S (.tup (ns.map D.int)) ns := ⟨_, rfl, rfl, by show (ns.map D.int).length = _; rw [List.length_map]⟩
theorem ints_ref {S : Store} {n : Nat} {ns : List Int} (h : S[n]? = some (.lst (ns.map D.int))) : Ints S (.ref n) ns := by
  refine ⟨.live n ns.length, ?_, ?_, rfl⟩
  · unfold wlkOf
    dsimp only
    rw [h]
    dsimp only
    rw [List.length_map]
  · unfold Wlk.at
    dsimp only
    rw [h]
    dsimp only
    rw [if_pos (by rw [List.length_map])]
theorem tail_ok {Γ : Fns} {x : D} {S : Store} {ns : List Int} {s : Int} {b : Nat} (hs : s ≠ 0 ∧ s.natAbs.log2 < 9000) (hl : ns.length ≤ LIM) (hx : Ints S x ns) (hb : b = S.length) :
    Wp (STs.execs G Γ b (sts [.ret false (.bif .tuple (irs [.comp [2] (.name 2) (.it (.var 0)) (irs []) (.bin .fdiv (.var 2) (.var 1))]))]) [some x, some (.int s), none] S) (fun fl S1 => ∃ d, fl = .rt d ∧ d.und b = true ∧ (d = .tup (divs s ns) ∧ S1.take b = S)) E := by
  obtain ⟨w, h1, h2, h3⟩ := hx
  refine wx_sts (wx_ret (wp_bif (wp_irs (wp_mapW (f := fun d => match d with
    | .int n => .int (n.fdiv s)
    | d => d) (d := x) (w := w) (by rw [IR.run]; rfl) h1 h2 (by rw [h3, List.length_map]) (by rw [List.length_map]; exact hl) ?_ (wp_irs0 ?_)))))
  · intro x hx
    obtain ⟨n, _, rfl⟩ := List.mem_map.mp hx
    exact wp_bin (wp_var rfl (wp_var rfl (wp_fdiv hs ⟨rfl, rfl⟩)))
  · rw [divs_map]
    exact wp_some rfl ⟨_, rfl, divs_und, rfl, by rw [hb]; exact List.take_length⟩
theorem side_ok (df : Def fs "_law_factor" 1 5 factorB) (dp : Def fs "_law_side" 1 3 sideB) {k : Nat} {S : Store} {x : D} {ns : List Int} {l : Int} (hx : Ints S x ns) (hb : ∀ n ∈ ns, n.natAbs < 2 ^ 4000) (hl : ns.length ≤ LIM) (hm : l ∈ ns) (h0 : l ≠ 0) :
    Wp (fns G fs es (k + 2) "_law_side" [x] S) (fun d S' => d = .tup (divs (gcds ns) ns) ∧ S' = S) E := by
  have hg := gcds_ne hm h0
  have hgb : gcds ns < 2 ^ 4000 := fold_lt (Nat.two_pow_pos _) hb (Nat.two_pow_pos _)
  have hb2 : ∀ n ∈ ns, n.natAbs < 2 ^ 40000 := fun n hn => Nat.lt_of_lt_of_le (hb n hn) (Nat.pow_le_pow_right (by decide) (by decide))
  obtain ⟨w, h1, h2, h3⟩ := id hx
  refine wp_def dp rfl ?_
  unfold sideB
  refine wx_sts (wx_set (wp_call (wp_irs (wp_var rfl (wp_irs0 ?_)))))
  refine wp_imp (factor_ok df h1 h2 h3 hb2) ?_
  rintro d S1 ⟨rfl, rfl⟩
  exact tail_ok ⟨by omega, Nat.lt_of_le_of_lt (log2_le (k := 4000) (by simpa using hgb)) (by decide)⟩ hl hx rfl
end
end Pv

/-! Fractions as the laws make them; the box. -/
namespace Pv
open PySem
section
variable {G : Sig} {fs : List Fn} {es : List Ec} {E : Exn → Store → Prop}
theorem two_lim : 2 ≤ LIM := by decide
def fracB : STs := sts [.set 2 false (.bin .mul (.call "_law_factor" (irs [.lst (irs [.var 0, .var 1])])) (.ite (.cmp .gt (.var 1) (.cst (.int 0))) (.cst (.int 1)) (.neg (.cst (.int 1))))), .ret false (.tup (irs [.bin .fdiv (.var 0) (.var 2), .bin .fdiv (.var 1) (.var 2)]))]
def fracD (t c : Int) : D := .tup [.int (t.fdiv (gcds [t, c] * sgn c)), .int (c.fdiv (gcds [t, c] * sgn c))]
theorem frac_ok (df : Def fs "_law_factor" 1 5 factorB) (dp : Def fs "_law_fraction" 2 3 fracB) {k : Nat} {S : Store} {t c : Int} (ht : t.natAbs < 2 ^ 4000) (hc : c.natAbs < 2 ^ 4000) (h0 : c ≠ 0) :
    Wp (fns G fs es (k + 2) "_law_fraction" [.int t, .int c] S) (fun d S' => d = fracD t c ∧ S' = S) E := by
  have hb : ∀ n ∈ [t, c], n.natAbs < 2 ^ 4000 := fun n hn => by
    rcases List.mem_cons.mp hn with rfl | hn
    · exact ht
    · rcases List.mem_cons.mp hn with rfl | hn
      · exact hc
      · cases hn
  have hg := gcds_ne (ns := [t, c]) (.tail _ (.head _)) h0
  have hgb : gcds [t, c] < 2 ^ 4000 := fold_lt (Nat.two_pow_pos _) hb (Nat.two_pow_pos _)
  have hb2 : ∀ n ∈ [t, c], n.natAbs < 2 ^ 40000 := fun n hn => Nat.lt_of_lt_of_le (hb n hn) (Nat.pow_le_pow_right (by decide) (by decide))
  have hs : (gcds [t, c] : Int) * sgn c ≠ 0 := by
    unfold sgn
    split <;> omega
  have hs2 : ((gcds [t, c] : Int) * sgn c).natAbs = gcds [t, c] := by
    unfold sgn
    split <;> omega
  have hs3 : (gcds [t, c] : Int) * sgn c ≠ 0 ∧ ((gcds [t, c] : Int) * sgn c).natAbs.log2 < 9000 := ⟨hs, by rw [hs2]; exact Nat.lt_of_le_of_lt (log2_le hgb) (by decide)⟩
  have tail : ∀ S1 : Store, S1 = S → Wp (STs.execs G (fns G fs es (k + 1)) S.length (sts [.ret false (.tup (irs [.bin .fdiv (.var 0) (.var 2), .bin .fdiv (.var 1) (.var 2)]))]) [some (.int t), some (.int c), some (.int (gcds [t, c] * sgn c))] S1)
      (fun fl S1 => ∃ d, fl = .rt d ∧ d.und S.length = true ∧ (d = fracD t c ∧ S1.take S.length = S)) fun _ _ => False := by
    rintro _ rfl
    exact wx_sts (wx_ret (wp_tup (wp_irs (wp_bin (wp_var rfl (wp_var rfl (wp_fdiv hs3 (wp_irs (wp_bin (wp_var rfl (wp_var rfl (wp_fdiv hs3 (wp_irs0 ⟨two_lim, _, rfl, rfl, rfl, List.take_length⟩)))))))))))))
  refine wp_def dp rfl ?_
  unfold fracB
  refine wx_sts (wx_set (wp_bin (wp_call (wp_irs (wp_lst (wp_irs (wp_var rfl (wp_irs (wp_var rfl (wp_irs0 ⟨two_lim, wp_fz (wp_irs0 ?_)⟩))))))))))
  refine wp_imp (factor_lst (ns := [t, c]) df hb2) ?_
  rintro d S1 ⟨rfl, rfl⟩
  refine wp_ite (wp_cmp (wp_var rfl (wp_cst ⟨_, rfl, _, rfl, fun hk => ?_, fun hk => ?_⟩)))
  · have hl0 : sgn c = 1 := if_pos (of_decide_eq_true hk)
    rw [hl0] at tail
    exact wp_cst (wp_mul (bits_of (k := 4000) (l := 1) (by simpa using hgb) (by decide) (by decide)) (tail _ rfl))
  · have hl0 : sgn c = -1 := if_neg (of_decide_eq_false hk)
    rw [hl0] at tail
    exact wp_neg (wp_cst ⟨1, rfl, wp_mul (bits_of (k := 4000) (l := 1) (by simpa using hgb) (by decide) (by decide)) (tail _ rfl)⟩)
end
end Pv

/-! Integers, tuples of integers, their factor: the program's own. -/
namespace Pv
open PySem
section
variable {G : Sig} {fs : List Fn} {es : List Ec} {E : Exn → Store → Prop}
def intB : STs := sts [.ret false (.and (.inst (.var 0) [.int]) (.not (.inst (.var 0) [.bool])))]
def D.isInt : D → Bool
  | .int _ => true
  | _ => false
/-- its class is known -/
def Known (S : Store) (d : D) : Prop := d = .non ∨ ∃ t, tyOf S d = some t
theorem int_ok {x : Str} (df : Def fs x 1 1 intB) {k : Nat} {S : Store} {d : D} (hd : Known S d) : Wp (fns G fs es (k + 1) x [d] S) (fun r S' => r = .bl d.isInt ∧ S' = S) E := by
  refine wp_def df rfl ?_
  unfold intB
  have fin : ∀ c : Bool, c = d.isInt → ∃ r, Fl.rt (.bl c) = .rt r ∧ r.und S.length = true ∧ (r = .bl d.isInt ∧ S.take S.length = S) := fun c e => ⟨_, rfl, rfl, by rw [e], List.take_length⟩
  refine wx_sts (wx_ret (wp_and (wp_inst (wp_var rfl ?_))))
  rcases hd with rfl | ⟨t, ht⟩
  · exact ⟨_, rfl, _, rfl, fun z => Bool.noConfusion z, fun _ => fin _ rfl⟩
  · have i1 : ∀ ts, instOf S d ts = some (ts.any fun u => decide (t = u) || (decide (t = .bool) && decide (u = .int))) := fun ts => inst_of ht
    have e1 : (t = .int) = (d.isInt = true) := by
      cases d with
      | ref n =>
        unfold tyOf at ht
        dsimp only at ht
        split at ht <;> first | (cases ht; simp [D.isInt]) | cases ht
      | non => cases ht
      | _ => cases ht; simp [D.isInt]
    cases t with
    | int =>
      have hi : d.isInt = true := by rw [← e1]
      exact ⟨_, i1 _, _, rfl, fun _ => wp_not (wp_inst (wp_var rfl ⟨_, i1 _, _, rfl, fin _ (by rw [hi]; rfl)⟩)), fun z => Bool.noConfusion z⟩
    | bool =>
      have hi : d.isInt = false := by
        cases e : d.isInt with
        | false => rfl
        | true => rw [e] at e1; exact absurd (e1.mpr rfl) (by decide)
      exact ⟨_, i1 _, _, rfl, fun _ => wp_not (wp_inst (wp_var rfl ⟨_, i1 _, _, rfl, fin _ (by rw [hi]; rfl)⟩)), fun z => Bool.noConfusion z⟩
    | _ =>
      have hi : d.isInt = false := by
        cases e : d.isInt with
        | false => rfl
        | true => rw [e] at e1; exact absurd (e1.mpr rfl) (by decide)
      exact ⟨_, i1 _, _, rfl, fun z => Bool.noConfusion z, fun _ => fin _ (by rw [hi]; rfl)⟩
/-- math.gcd over all of them -/
def sharedB : STs := sts [.set 1 false (.cst (.int 0)), .for (.name 2) (.it (.var 0)) (sts [.set 1 false (.bif .gcd (irs [.var 1, .var 2]))]), .ret false (.var 1)]
theorem shared_ok {x : Str} (df : Def fs x 1 3 sharedB) {k : Nat} {S : Store} {d : D} {ns : List Int} (hx : Ints S d ns) : Wp (fns G fs es (k + 1) x [d] S) (fun r S' => r = .int (gcds ns : Nat) ∧ S' = S) E := by
  obtain ⟨w, h1, h2, h3⟩ := hx
  refine wp_def df rfl ?_
  unfold sharedB
  refine wx_sts (wx_set (wp_cst ?_))
  refine wx_sts (wx_forW ?_)
  refine ws_it (wp_var rfl ⟨w, h1, ns.map D.int, by rw [h3, List.length_map], ?_⟩)
  refine ⟨fun i ρ S' => S' = S ∧ ∃ p : Option D, ρ = [some d, some (.int ((ns.take i).foldl (fun g n => Nat.gcd g n.natAbs) 0 : Nat)), p], ⟨rfl, none, rfl⟩, fun i ρ S' ⟨e, _⟩ => by rw [e]; exact h2, ?_, ?_⟩
  · rintro i y ρ S' hy ⟨rfl, p, rfl⟩
    rw [List.getElem?_map] at hy
    cases hn : ns[i]? with
    | none => rw [hn] at hy; cases hy
    | some n =>
      rw [hn] at hy
      cases hy
      have htk : (ns.take (i + 1)).foldl (fun g n => Nat.gcd g n.natAbs) 0 = Nat.gcd ((ns.take i).foldl (fun g n => Nat.gcd g n.natAbs) 0) n.natAbs := by
        rw [List.take_succ, hn, List.foldl_append]
        rfl
      refine ⟨_, rfl, wx_sts (wx_set (wp_bif (wp_irs (wp_var rfl (wp_irs (wp_var rfl (wp_irs0 ?_)))))))⟩
      refine wp_some rfl (wx_sts0 ⟨rfl, some (.int n), ?_⟩)
      rw [htk]
      rfl
  · rintro ρ S' ⟨rfl, p, rfl⟩
    refine wx_sts (wx_ret (wp_var rfl ⟨_, rfl, rfl, ?_, List.take_length⟩))
    rw [List.length_map, List.take_length]
    rfl
def tupB2 : STs := sts [.ret false (.and (.inst (.var 0) [.tuple]) (.cmp .eq (.bif .len (irs [.var 0])) (.var 1)))]
def D.isTup (d : D) (m : Int) : Bool := match d with
  | .tup xs => (xs.length : Int) == m
  | _ => false
theorem tup_ok {x : Str} (df : Def fs x 2 2 tupB2) {k : Nat} {S : Store} {d : D} {m : Int} (hd : Known S d) : Wp (fns G fs es (k + 1) x [d, .int m] S) (fun r S' => r = .bl (d.isTup m) ∧ S' = S) E := by
  refine wp_def df rfl ?_
  unfold tupB2
  have fin : ∀ c : Bool, c = d.isTup m → ∃ r, Fl.rt (.bl c) = .rt r ∧ r.und S.length = true ∧ (r = .bl (d.isTup m) ∧ S.take S.length = S) := fun c e => ⟨_, rfl, rfl, by rw [e], List.take_length⟩
  refine wx_sts (wx_ret (wp_and (wp_inst (wp_var rfl ?_))))
  rcases hd with rfl | ⟨t, ht⟩
  · exact ⟨_, rfl, _, rfl, fun z => Bool.noConfusion z, fun _ => fin _ rfl⟩
  · have i1 : ∀ ts, instOf S d ts = some (ts.any fun u => decide (t = u) || (decide (t = .bool) && decide (u = .int))) := fun ts => inst_of ht
    cases d with
    | tup xs =>
      cases ht
      refine ⟨_, i1 _, _, rfl, fun _ => ?_, fun z => Bool.noConfusion z⟩
      refine wp_cmp (wp_bif (wp_irs (wp_var rfl (wp_irs0 (wp_some rfl (wp_var rfl ⟨_, rfl, fin _ rfl⟩))))))
    | ref n =>
      have hf : D.isTup (.ref n) m = false := rfl
      unfold tyOf at ht
      dsimp only at ht
      split at ht
      · cases ht
        exact ⟨_, i1 _, _, rfl, fun z => Bool.noConfusion z, fun _ => fin _ rfl⟩
      · cases ht
        exact ⟨_, i1 _, _, rfl, fun z => Bool.noConfusion z, fun _ => fin _ rfl⟩
      · cases ht
    | non => cases ht
    | _ =>
      cases ht
      exact ⟨_, i1 _, _, rfl, fun z => Bool.noConfusion z, fun _ => fin _ rfl⟩
def areB : STs := sts [.ret false (.and (.call "is_tuple" (irs [.var 0, .var 1])) (.bif .all (irs [.comp [2] (.name 2) (.it (.var 0)) (irs []) (.call "is_integer" (irs [.var 2]))])))]
/-- a tuple of so many integers -/
def D.ints (d : D) (m : Int) : Bool := match d with
  | .tup xs => ((xs.length : Int) == m) && xs.all D.isInt
  | _ => false
theorem bools_map {f : D → Bool} : ∀ xs : List D, boolsOf (xs.map fun x => .bl (f x)) = some (xs.map f)
  | [] => rfl
  | x :: xs => by
    show (boolsOf (xs.map fun x => .bl (f x))).map (f x :: ·) = _
    rw [bools_map xs]
    rfl
theorem are_ok {x : Str} (di : Def fs "is_integer" 1 1 intB) (dt : Def fs "is_tuple" 2 2 tupB2) (df : Def fs x 2 3 areB) {k : Nat} {S : Store} {d : D} {m : Int} (hd : Known S d) (hi : ∀ xs, d = .tup xs → xs.length ≤ LIM ∧ ∀ y ∈ xs, Known S y) : Wp (fns G fs es (k + 2) x [d, .int m] S) (fun r S' => r = .bl (d.ints m) ∧ S' = S) E := by
  refine wp_def df rfl ?_
  unfold areB
  have fin : ∀ c : Bool, c = d.ints m → ∃ r, Fl.rt (.bl c) = .rt r ∧ r.und S.length = true ∧ (r = .bl (d.ints m) ∧ S.take S.length = S) := fun c e => ⟨_, rfl, rfl, by rw [e], List.take_length⟩
  refine wx_sts (wx_ret (wp_and (wp_call (wp_irs (wp_var rfl (wp_irs (wp_var rfl (wp_irs0 ?_))))))))
  refine wp_imp (tup_ok dt hd) ?_
  rintro r S1 ⟨rfl, rfl⟩
  refine ⟨_, rfl, fun ht => ?_, fun ht => fin _ ?_⟩
  · cases d with
    | tup xs =>
      obtain ⟨hl, hk⟩ := hi xs rfl
      refine wp_bif (wp_irs (wp_map (f := fun y => .bl y.isInt) (d := .tup xs) (by rw [IR.run]; rfl) rfl hl (fun y hy => wp_call (wp_irs (wp_var rfl (wp_irs0 (int_ok di (hk y hy)))))) (wp_irs0 ?_)))
      refine wp_some (a := .bl ((xs.map D.isInt).all id)) ?_ (fin _ ?_)
      · have e : bifV S1 .all [.lst (xs.map fun y => .bl y.isInt)] = (boolsOf (xs.map fun y => .bl y.isInt)).map fun bs => .bl (bs.all id) := rfl
        rw [e, bools_map]
        rfl
      · have ht' : ((xs.length : Int) == m) = true := ht
        show _ = (((xs.length : Int) == m) && xs.all D.isInt)
        rw [ht', Bool.true_and, List.all_map]
        rfl
    | _ => exact Bool.noConfusion (show false = true from ht)
  · cases d with
    | tup xs =>
      have ht' : ((xs.length : Int) == m) = false := ht
      show _ = (((xs.length : Int) == m) && xs.all D.isInt)
      rw [ht', Bool.false_and]
      exact ht
    | _ => exact ht
end
end Pv

/-! is_point and the law's own judging. -/
namespace Pv
open PySem
section
variable {G : Sig} {fs : List Fn} {es : List Ec} {E : Exn → Store → Prop}
def sizeB : STs := sts [.ret false (.and (.call "are_integers" (irs [.var 0, .bin .add (.var 1) (.cst (.int 1))])) (.and (.cmp .gt (.ix (.var 0) (.neg (.cst (.int 1)))) (.cst (.int 0))) (.cmp .eq (.call "shared_factor" (irs [.var 0])) (.cst (.int 1)))))]
/-- the integers of a tuple of integers -/
def intsL : List D → List Int
  | .int i :: r => i :: intsL r
  | _ => []
theorem intsL_map : ∀ {xs : List D}, xs.all D.isInt = true → xs = (intsL xs).map D.int
  | [], _ => rfl
  | x :: xs, h => by
    obtain ⟨h1, h2⟩ := Bool.and_eq_true_iff.mp (show (x.isInt && xs.all D.isInt) = true from h)
    cases x with
    | int i =>
      show _ = D.int i :: (intsL xs).map D.int
      rw [← intsL_map h2]
    | _ => exact Bool.noConfusion (show false = true from h1)
/-- a point: integers, the last above 0, no common factor -/
def D.point (d : D) (m : Int) : Bool := match d with
  | .tup xs => d.ints (m + 1) && (match (intsL xs).getLast? with
    | some l => decide (0 < l) && ((gcds (intsL xs) : Int) == 1)
    | none => false)
  | _ => false
theorem last_at {ns : List Int} {l : Int} (h : ns.getLast? = some l) : atOf (ns.map D.int) (-1) = some (.int l) := by
  have hne : ns ≠ [] := fun z => by rw [z] at h; cases h
  have hl : 0 < ns.length := List.length_pos_iff.mpr hne
  unfold atOf ixOf
  rw [if_neg (by decide), if_pos (by rw [List.length_map]; omega)]
  show (ns.map D.int)[((-1 : Int) + ((ns.map D.int).length : Nat)).toNat]? = _
  rw [List.length_map, show ((-1 : Int) + (ns.length : Nat)).toNat = ns.length - 1 by omega, List.getElem?_map, ← List.getLast?_eq_getElem?, h]
  rfl
structure Points (fs : List Fn) : Prop where
  int : Def fs "is_integer" 1 1 intB
  tup : Def fs "is_tuple" 2 2 tupB2
  are : Def fs "are_integers" 2 3 areB
  shared : Def fs "shared_factor" 1 3 sharedB
  size : Def fs "is_of_size" 2 2 sizeB
theorem size_ok (p : Points fs) {k : Nat} {S : Store} {d : D} {m : Int} (hm : 0 ≤ m) (hd : Known S d) (hi : ∀ xs, d = .tup xs → xs.length ≤ LIM ∧ ∀ y ∈ xs, Known S y) : Wp (fns G fs es (k + 3) "is_of_size" [d, .int m] S) (fun r S' => r = .bl (d.point m) ∧ S' = S) E := by
  refine wp_def p.size rfl ?_
  unfold sizeB
  have fin : ∀ c : Bool, c = d.point m → ∃ r, Fl.rt (.bl c) = .rt r ∧ r.und S.length = true ∧ (r = .bl (d.point m) ∧ S.take S.length = S) := fun c e => ⟨_, rfl, rfl, by rw [e], List.take_length⟩
  refine wx_sts (wx_ret (wp_and (wp_call (wp_irs (wp_var rfl (wp_irs (wp_bin (wp_var rfl (wp_cst (wp_add (wp_irs0 ?_)))))))))))
  refine wp_imp (are_ok p.int p.tup p.are hd hi) ?_
  rintro r S1 ⟨rfl, rfl⟩
  refine ⟨_, rfl, fun ht => ?_, fun ht => fin _ ?_⟩
  · cases d with
    | tup xs =>
      have ht' : (((xs.length : Int) == m + 1) && xs.all D.isInt) = true := ht
      obtain ⟨h1, h2⟩ := Bool.and_eq_true_iff.mp ht'
      have h1 : (xs.length : Int) = m + 1 := by simpa using h1
      have hx := intsL_map h2
      have hln : (intsL xs).length = xs.length := by
        have := congrArg List.length hx
        rw [List.length_map] at this
        exact this.symm
      cases hl : (intsL xs).getLast? with
      | none =>
        have := List.getLast?_eq_none_iff.mp hl
        rw [this] at hln
        simp at hln
        omega
      | some l =>
        have hat := last_at hl
        rw [← hx] at hat
        have hp : D.point (.tup xs) m = (decide (0 < l) && ((gcds (intsL xs) : Int) == 1)) := by
          show (D.ints (.tup xs) (m + 1) && (match (intsL xs).getLast? with
            | some l => decide (0 < l) && ((gcds (intsL xs) : Int) == 1)
            | none => false)) = _
          rw [hl, ht, Bool.true_and]
        refine wp_and (wp_cmp (wp_ix (wp_var rfl (wp_neg (wp_cst ⟨1, rfl, wp_ixs rfl hat (wp_cst ⟨_, rfl, _, rfl, fun hk => ?_, fun hk => fin _ ?_⟩)⟩)))))
        · refine wp_cmp (wp_call (wp_irs (wp_var rfl (wp_irs0 ?_))))
          have hint : Ints S1 (.tup xs) (intsL xs) := by
            rw [hx]
            rw [← hx]
            exact ⟨.fix xs, rfl, by show some xs = _; rw [← hx], by show xs.length = _; rw [hln]⟩
          refine wp_imp (shared_ok p.shared hint) ?_
          rintro r S2 ⟨rfl, rfl⟩
          have hk' : decide (0 < l) = true := hk
          exact wp_cst ⟨_, rfl, fin _ (by rw [hp, hk', Bool.true_and])⟩
        · have hk' : decide (0 < l) = false := hk
          rw [hp, hk', Bool.false_and]
    | _ => exact Bool.noConfusion (show false = true from ht)
  · cases d with
    | tup xs =>
      show _ = (D.ints (.tup xs) (m + 1) && _)
      rw [ht, Bool.false_and]
    | _ => rfl
end
end Pv

/-! is_point. -/
namespace Pv
open PySem
section
variable {G : Sig} {fs : List Fn} {es : List Ec} {E : Exn → Store → Prop}
def ptB : STs := sts [.ret false (.or (.call "is_of_size" (irs [.var 0, .cst (.int 2)])) (.call "is_of_size" (irs [.var 0, .cst (.int 3)])))]
theorem pt_ok (p : Points fs) (hb : Def fs "is_point" 1 1 ptB) {k : Nat} {S : Store} {d : D} (hd : Known S d) (hi : ∀ xs, d = .tup xs → xs.length ≤ LIM ∧ ∀ y ∈ xs, Known S y) : Wp (fns G fs es (k + 4) "is_point" [d] S) (fun r S' => r = .bl (d.point 2 || d.point 3) ∧ S' = S) E := by
  refine wp_def hb rfl ?_
  unfold ptB
  have fin : ∀ c : Bool, c = (d.point 2 || d.point 3) → ∃ r, Fl.rt (.bl c) = .rt r ∧ r.und S.length = true ∧ (r = .bl (d.point 2 || d.point 3) ∧ S.take S.length = S) := fun c e => ⟨_, rfl, rfl, by rw [e], List.take_length⟩
  refine wx_sts (wx_ret (wp_or (wp_call (wp_irs (wp_var rfl (wp_irs (wp_cst (wp_irs0 ?_))))))))
  refine wp_imp (size_ok p (by decide) hd hi) ?_
  rintro r S1 ⟨rfl, rfl⟩
  refine ⟨_, rfl, fun ht => ?_, fun ht => ?_⟩
  · have ht' : d.point 2 = false := ht
    refine wp_call (wp_irs (wp_var rfl (wp_irs (wp_cst (wp_irs0 ?_)))))
    refine wp_imp (size_ok p (by decide) hd hi) ?_
    rintro r S2 ⟨rfl, rfl⟩
    exact fin (d.point 3) (by rw [ht', Bool.false_or])
  · have ht' : d.point 2 = true := ht
    exact fin (d.point 2) (by rw [ht', Bool.true_or])
end
end Pv

/-! is_side_of. -/
namespace Pv
open PySem
section
variable {G : Sig} {fs : List Fn} {es : List Ec} {E : Exn → Store → Prop}
theorem cut_last {α : Type} (xs : List α) : cutOf xs none (some (-1)) = xs.take (xs.length - 1) := by
  have h0 : HT.sIx xs.length 0 none = 0 := rfl
  have h1 : HT.sIx xs.length xs.length (some (-1)) = xs.length - 1 := by
    show (if (-1 : Int) < 0 then ((-1 : Int) + (xs.length : Int)).toNat else min (-1 : Int).toNat xs.length) = _
    rw [if_pos (by decide)]
    omega
  unfold cutOf
  rw [h0, h1]
  rfl
def sidOfB : STs := sts [.iff (.or (.not (.call "are_integers" (irs [.var 0, .bin .add (.var 1) (.cst (.int 1))]))) (.cmp .ne (.call "shared_factor" (irs [.var 0])) (.cst (.int 1)))) (sts [.ret false (.cst (.bl false))]) (sts []), .ret false (.bif .any (irs [.comp [2] (.name 2) (.it (.sl (.var 0) .non (.some (.neg (.cst (.int 1)))))) (irs []) (.cmp .ne (.var 2) (.cst (.int 0)))]))]
/-- a side: integers, no common factor, not all but the last 0 -/
def D.side (d : D) (m : Int) : Bool := match d with
  | .tup xs => d.ints (m + 1) && (((gcds (intsL xs) : Int) == 1) && ((intsL xs).take ((intsL xs).length - 1)).any fun i => i != 0)
  | _ => false
def D.nz : D → Bool
  | .int i => i != 0
  | _ => true
theorem sid_ok (p : Points fs) {x : Str} (hb : Def fs x 2 3 sidOfB) {k : Nat} {S : Store} {d : D} {m : Int} (hd : Known S d) (hi : ∀ xs, d = .tup xs → xs.length ≤ LIM ∧ ∀ y ∈ xs, Known S y) : Wp (fns G fs es (k + 3) x [d, .int m] S) (fun r S' => r = .bl (d.side m) ∧ S' = S) E := by
  refine wp_def hb rfl ?_
  unfold sidOfB
  have fin : ∀ c : Bool, c = d.side m → ∃ r, Fl.rt (.bl c) = .rt r ∧ r.und S.length = true ∧ (r = .bl (d.side m) ∧ S.take S.length = S) := fun c e => ⟨_, rfl, rfl, by rw [e], List.take_length⟩
  refine wx_sts (wx_if (wp_or (wp_not (wp_call (wp_irs (wp_var rfl (wp_irs (wp_bin (wp_var rfl (wp_cst (wp_add (wp_irs0 ?_))))))))))))
  refine wp_imp (are_ok p.int p.tup p.are hd hi) ?_
  rintro r S1 ⟨rfl, rfl⟩
  refine ⟨_, rfl, _, rfl, fun ht => ?_, fun ht => ?_⟩
  · have ht' : d.ints (m + 1) = true := by simpa using ht
    cases d with
    | tup xs =>
      have hall : (((xs.length : Int) == m + 1) && xs.all D.isInt) = true := ht'
      obtain ⟨h1, h2⟩ := Bool.and_eq_true_iff.mp hall
      have hx := intsL_map h2
      have hln : (intsL xs).length = xs.length := by
        have := congrArg List.length hx
        rw [List.length_map] at this
        exact this.symm
      have hint : Ints S1 (.tup xs) (intsL xs) := ⟨.fix xs, rfl, by show some xs = _; rw [← hx], by show xs.length = _; rw [hln]⟩
      have hp : D.side (.tup xs) m = (((gcds (intsL xs) : Int) == 1) && ((intsL xs).take ((intsL xs).length - 1)).any fun i => i != 0) := by
        show (D.ints (.tup xs) (m + 1) && _) = _
        rw [ht', Bool.true_and]
      refine wp_cmp (wp_call (wp_irs (wp_var rfl (wp_irs0 ?_))))
      refine wp_imp (shared_ok p.shared hint) ?_
      rintro r S2 ⟨rfl, rfl⟩
      refine wp_cst ⟨_, rfl, _, rfl, fun hk => ?_, fun hk => ?_⟩
      · refine wx_sts (wx_ret (wp_cst (fin false ?_)))
        have hk' : ((gcds (intsL xs) : Int) == 1) = false := by simpa using hk
        rw [hp, hk', Bool.false_and]
      · have hk' : ((gcds (intsL xs) : Int) == 1) = true := by simpa using hk
        refine wx_sts0 (wx_sts (wx_ret (wp_bif (wp_irs (wp_map (f := fun y => .bl y.nz) (d := .tup (cutOf xs none (some (-1)))) (by rw [IR.run]; rfl) rfl ?_ ?_ (wp_irs0 ?_))))))
        · rw [cut_last, List.length_take]
          exact Nat.le_trans (Nat.min_le_right _ _) (hi xs rfl).1
        · intro y hy
          rw [cut_last] at hy
          have hy' : y.isInt = true := List.all_eq_true.mp h2 y (List.mem_of_mem_take hy)
          cases y with
          | int i => exact wp_cmp (wp_var rfl (wp_cst ⟨_, rfl, rfl, rfl⟩))
          | _ => exact Bool.noConfusion (show false = true from hy')
        · refine wp_some (a := .bl (((cutOf xs none (some (-1))).map D.nz).any id)) ?_ (fin _ ?_)
          · have e : bifV S2 .any [.lst ((cutOf xs none (some (-1))).map fun y => .bl y.nz)] = (boolsOf ((cutOf xs none (some (-1))).map fun y => .bl y.nz)).map fun bs => .bl (bs.any id) := rfl
            rw [e, bools_map]
            rfl
          · rw [hp, hk', Bool.true_and, cut_last, ← hln]
            have hg : ∀ l : List Int, ((l.map D.int).map D.nz).any id = l.any fun i => i != 0 := fun l => by
              rw [List.map_map, List.any_map]
              rfl
            have ht2 : ∀ n, ((intsL xs).take n).map D.int = xs.take n := fun n => by rw [List.map_take, ← hx]
            rw [← hg, ht2]
    | _ => exact Bool.noConfusion (show false = true from ht')
  · have ht' : d.ints (m + 1) = false := by simpa using ht
    refine ⟨_, rfl, fun _ => wx_sts (wx_ret (wp_cst (fin false ?_))), fun z => Bool.noConfusion (ht.symm.trans z)⟩
    cases d with
    | tup xs =>
      show _ = (D.ints (.tup xs) (m + 1) && _)
      rw [ht', Bool.false_and]
    | _ => rfl
def sidB : STs := sts [.ret false (.or (.call "is_side_of" (irs [.var 0, .cst (.int 2)])) (.call "is_side_of" (irs [.var 0, .cst (.int 3)])))]
theorem is_side_ok (p : Points fs) (hs : Def fs "is_side_of" 2 3 sidOfB) (hb : Def fs "is_side" 1 1 sidB) {k : Nat} {S : Store} {d : D} (hd : Known S d) (hi : ∀ xs, d = .tup xs → xs.length ≤ LIM ∧ ∀ y ∈ xs, Known S y) : Wp (fns G fs es (k + 4) "is_side" [d] S) (fun r S' => r = .bl (d.side 2 || d.side 3) ∧ S' = S) E := by
  refine wp_def hb rfl ?_
  unfold sidB
  have fin : ∀ c : Bool, c = (d.side 2 || d.side 3) → ∃ r, Fl.rt (.bl c) = .rt r ∧ r.und S.length = true ∧ (r = .bl (d.side 2 || d.side 3) ∧ S.take S.length = S) := fun c e => ⟨_, rfl, rfl, by rw [e], List.take_length⟩
  refine wx_sts (wx_ret (wp_or (wp_call (wp_irs (wp_var rfl (wp_irs (wp_cst (wp_irs0 ?_))))))))
  refine wp_imp (sid_ok p hs hd hi) ?_
  rintro r S1 ⟨rfl, rfl⟩
  refine ⟨_, rfl, fun ht => ?_, fun ht => ?_⟩
  · have ht' : d.side 2 = false := ht
    refine wp_call (wp_irs (wp_var rfl (wp_irs (wp_cst (wp_irs0 ?_)))))
    refine wp_imp (sid_ok p hs hd hi) ?_
    rintro r S2 ⟨rfl, rfl⟩
    exact fin (d.side 3) (by rw [ht', Bool.false_or])
  · have ht' : d.side 2 = true := ht
    exact fin (d.side 2) (by rw [ht', Bool.true_or])
end
end Pv

namespace Pv
open PySem
theorem eq_nil {S : Store} {ys : List D} {ps : List PyData} (h : D.toPs ys = some ps) (hs : SeqAt.shaped (.list ps) = true) : eqOf S (.lst ys) (.lst []) = some ys.isEmpty := by
  have h1 : (flatOf S (.lst ys)).toP = some (.list ps) := by
    show (D.toPs ys).map PyData.list = _
    rw [h]
    rfl
  show (match (flatOf S (.lst ys)).toP, (flatOf S (.lst [])).toP with
    | some p, some q => if SeqAt.shaped p && SeqAt.shaped q then some (PyData.eqv p q) else none
    | _, _ => none) = _
  have h2 : (flatOf S (.lst [])).toP = some (.list []) := rfl
  rw [h1, h2]
  dsimp only
  have h3 : SeqAt.shaped (.list []) = true := rfl
  rw [hs, h3, Bool.and_true, if_pos rfl]
  cases ys with
  | nil => cases h; rfl
  | cons y ys =>
    cases ps with
    | nil =>
      exfalso
      rw [D.toPs] at h
      split at h <;> cases h
    | cons p ps =>
      have e : PyData.eqv (.list (p :: ps)) (.list []) = PyData.eqvAll (p :: ps) [] := by simp [PyData.eqv]
      rw [e]
      first | rfl | simp [PyData.eqvAll]
end Pv

/-! the law's own judging of points. -/
namespace Pv
open PySem
section
variable {G : Sig} {fs : List Fn} {es : List Ec} {E : Exn → Store → Prop}
def lawPtB : STs := sts [.iff (.or (.not (.inst (.var 0) [.tuple])) (.or (.cmp .ne (.bif .len (irs [.var 0])) (.bin .add (.var 1) (.cst (.int 1)))) (.cmp .ne (.comp [2] (.name 2) (.it (.var 0)) (irs [.not (.call "_law_whole" (irs [.var 2]))]) (.var 2)) (.lst (irs []))))) (sts [.ret false (.cst (.bl false))]) (sts []), .ret false (.and (.cmp .gt (.ix (.var 0) (.neg (.cst (.int 1)))) (.cst (.int 0))) (.cmp .eq (.call "_law_factor" (irs [.var 0])) (.cst (.int 1))))]
theorem law_pt_ok {x : Str} (dw : Def fs "_law_whole" 1 1 intB) (df : Def fs "_law_factor" 1 5 factorB) (hb : Def fs x 2 3 lawPtB) {k : Nat} {S : Store} {d : D} {m : Int} (hm : 0 ≤ m) (hd : Known S d) (hi : ∀ xs, d = .tup xs → xs.length ≤ LIM ∧ ∀ y ∈ xs, Known S y) (hq : ∀ xs, d = .tup xs → ∃ ps, D.toPs (xs.filter fun y => !y.isInt) = some ps ∧ SeqAt.shaped (.list ps) = true) (hz : ∀ xs, d = .tup xs → ∀ n ∈ intsL xs, n.natAbs < 2 ^ 40000) : Wp (fns G fs es (k + 2) x [d, .int m] S) (fun r S' => r = .bl (d.point m) ∧ S' = S) E := by
  refine wp_def hb rfl ?_
  unfold lawPtB
  have fin : ∀ c : Bool, c = d.point m → ∃ r, Fl.rt (.bl c) = .rt r ∧ r.und S.length = true ∧ (r = .bl (d.point m) ∧ S.take S.length = S) := fun c e => ⟨_, rfl, rfl, by rw [e], List.take_length⟩
  have i0 : instOf S d [.tuple] = some (match d with | .tup _ => true | _ => false) := by
    rcases hd with rfl | ⟨t, ht⟩
    · rfl
    · rw [inst_of ht]
      cases d with
      | ref n =>
        unfold tyOf at ht
        dsimp only at ht
        split at ht <;> first | (cases ht; rfl) | cases ht
      | non => cases ht
      | _ => cases ht; rfl
  refine wx_sts (wx_if (wp_or (wp_not (wp_inst (wp_var rfl ⟨_, i0, _, rfl, _, rfl, fun ht => ?_, fun ht => ?_⟩)))))
  · cases d with
    | tup xs =>
      obtain ⟨hl, hk⟩ := hi xs rfl
      refine wp_or (wp_cmp (wp_bif (wp_irs (wp_var rfl (wp_irs0 (wp_some rfl (wp_bin (wp_var rfl (wp_cst (wp_add ⟨_, rfl, _, rfl, fun h1 => ?_, fun h1 => ?_⟩))))))))))
      · have h2 : ((xs.length : Int) == m + 1) = true := by simpa using h1
        obtain ⟨ps, hps, hsh⟩ := hq xs rfl
        refine wp_cmp (wp_filter (d := .tup xs) (p := fun y => !y.isInt) (by rw [IR.run]; rfl) rfl hl (show 2 < 3 by decide) (fun y hy => wp_not (wp_call (wp_irs (wp_var rfl (wp_irs0 (wp_imp (int_ok dw (hk y hy)) ?_)))))) (wp_lst (wp_irs0 ?_)))
        · rintro r S2 ⟨rfl, rfl⟩
          exact ⟨_, rfl, rfl, rfl⟩
        · have en : cmpOf S .ne (.lst (xs.filter fun y => !y.isInt)) (.lst []) = some (!(xs.filter fun y => !y.isInt).isEmpty) := by
            show (eqOf S (.lst (xs.filter fun y => !y.isInt)) (.lst [])).map (!·) = _
            rw [eq_nil hps hsh]
            rfl
          refine ⟨by decide, ⟨_, en, _, rfl, fun h3 => ?_, fun h3 => ?_⟩⟩
          · have h4 : (xs.filter fun y => !y.isInt).isEmpty = false := by simpa using h3
            have h5 : xs.all D.isInt = false := by
              cases ha : xs.all D.isInt with
              | false => rfl
              | true =>
                have : (xs.filter fun y => !y.isInt) = [] := List.filter_eq_nil_iff.mpr fun y hy => by rw [List.all_eq_true.mp ha y hy]; decide
                rw [this] at h4
                exact h4
            refine wx_sts (wx_ret (wp_cst (fin false ?_)))
            show _ = ((((xs.length : Int) == m + 1) && xs.all D.isInt) && _)
            rw [h5, Bool.and_false, Bool.false_and]
          · have h4 : (xs.filter fun y => !y.isInt).isEmpty = true := by simpa using h3
            have h5 : xs.all D.isInt = true := by
              have e := List.filter_eq_nil_iff.mp (List.isEmpty_iff.mp h4)
              refine List.all_eq_true.mpr fun y hy => ?_
              have := e y hy
              simpa using this
            have h6 : D.ints (.tup xs) (m + 1) = true := by
              show (((xs.length : Int) == m + 1) && xs.all D.isInt) = true
              rw [h2, h5]
              rfl
            have hx := intsL_map h5
            refine wx_sts0 ?_
            have hln : (intsL xs).length = xs.length := by
              have := congrArg List.length hx
              rw [List.length_map] at this
              exact this.symm
            cases hl2 : (intsL xs).getLast? with
            | none =>
              have := List.getLast?_eq_none_iff.mp hl2
              rw [this] at hln
              have h7 : (xs.length : Int) = m + 1 := by simpa using h2
              rw [List.length_nil] at hln
              omega
            | some l =>
              have hat := last_at hl2
              rw [← hx] at hat
              have hp : D.point (.tup xs) m = (decide (0 < l) && ((gcds (intsL xs) : Int) == 1)) := by
                show (D.ints (.tup xs) (m + 1) && (match (intsL xs).getLast? with
                  | some l => decide (0 < l) && ((gcds (intsL xs) : Int) == 1)
                  | none => false)) = _
                rw [hl2, h6, Bool.true_and]
              refine wx_sts (wx_ret (wp_and (wp_cmp (wp_ix (wp_var rfl (wp_neg (wp_cst ⟨1, rfl, wp_ixs rfl hat (wp_cst ⟨_, rfl, _, rfl, fun hk9 => ?_, fun hk9 => fin _ ?_⟩)⟩)))))))
              · refine wp_cmp (wp_call (wp_irs (wp_var rfl (wp_irs0 ?_))))
                have hf0 : Wp (fns G fs es (k + 1) "_law_factor" [.tup xs] S) (fun d S' => d = .int (gcds (intsL xs) : Nat) ∧ S' = S) (fun _ _ => False) := by
                  have := factor_tup (G := G) (es := es) (E := fun _ _ => False) (k := k) (S := S) df (hz xs rfl)
                  rw [← hx] at this
                  exact this
                refine wp_imp hf0 ?_
                have hk1 := hk
                rintro r S2 ⟨rfl, rfl⟩
                have hk' : decide (0 < l) = true := hk9
                exact wp_cst ⟨_, rfl, fin _ (by rw [hp, hk', Bool.true_and])⟩
              · have hk' : decide (0 < l) = false := hk9
                rw [hp, hk', Bool.false_and]
      · refine ⟨_, rfl, fun _ => wx_sts (wx_ret (wp_cst (fin false ?_))), fun z => Bool.noConfusion (h1.symm.trans z)⟩
        have h2 : ((xs.length : Int) == m + 1) = false := by simpa using h1
        show _ = ((((xs.length : Int) == m + 1) && xs.all D.isInt) && _)
        rw [h2, Bool.false_and, Bool.false_and]
    | _ => exact Bool.noConfusion (show true = false from ht)
  · refine ⟨_, rfl, fun _ => wx_sts (wx_ret (wp_cst (fin false ?_))), fun z => Bool.noConfusion (ht.symm.trans z)⟩
    cases d with
    | tup xs => exact Bool.noConfusion (show false = true from ht)
    | _ => rfl
end
end Pv

namespace Pv
open PySem
theorem toPs_ints : ∀ l : List Int, D.toPs (l.map D.int) = some (l.map PyData.int)
  | [] => rfl
  | i :: l => by
    show D.toPs (D.int i :: l.map D.int) = _
    rw [D.toPs, toPs_ints l]
    rfl
theorem can_ints : ∀ l : List Int, PyData.canLayAll0 (l.map PyData.int) = true
  | [] => rfl
  | i :: l => by
    show PyData.canLayAll0 (PyData.int i :: l.map PyData.int) = true
    simp [PyData.canLayAll0, PyData.canLay0, can_ints l]
theorem dep_ints : ∀ l : List Int, PyData.depthAll (l.map PyData.int) ≤ 1
  | [] => by simp [PyData.depthAll]
  | i :: l => by
    have := dep_ints l
    show PyData.depthAll (PyData.int i :: l.map PyData.int) ≤ 1
    simp [PyData.depthAll, PyData.depth]
    try omega
theorem shaped_ints (l : List Int) : SeqAt.shaped (.list (l.map PyData.int)) = true := by
  refine Bool.and_eq_true_iff.mpr ⟨can_ints l, decide_eq_true ?_⟩
  have := dep_ints l
  simp only [PyData.depth]
  omega
end Pv

/-! the law's own judging of sides. -/
namespace Pv
open PySem
section
variable {G : Sig} {fs : List Fn} {es : List Ec} {E : Exn → Store → Prop}
def lawSidB : STs := sts [.iff (.or (.not (.inst (.var 0) [.tuple])) (.or (.cmp .ne (.bif .len (irs [.var 0])) (.bin .add (.var 1) (.cst (.int 1)))) (.cmp .ne (.comp [2] (.name 2) (.it (.var 0)) (irs [.not (.call "_law_whole" (irs [.var 2]))]) (.var 2)) (.lst (irs []))))) (sts [.ret false (.cst (.bl false))]) (sts []), .ret false (.and (.cmp .ne (.comp [2] (.name 2) (.it (.sl (.var 0) .non (.some (.neg (.cst (.int 1)))))) (irs [.cmp .ne (.var 2) (.cst (.int 0))]) (.var 2)) (.lst (irs []))) (.cmp .eq (.call "_law_factor" (irs [.var 0])) (.cst (.int 1))))]
theorem filter_any {α : Type} {p : α → Bool} : ∀ l : List α, (l.filter p).isEmpty = !(l.any p)
  | [] => rfl
  | x :: l => by
    have := filter_any (p := p) l
    cases h : p x with
    | true => simp [h]
    | false => simp [h] at this ⊢; exact this
theorem law_sid_ok {x : Str} (dw : Def fs "_law_whole" 1 1 intB) (df : Def fs "_law_factor" 1 5 factorB) (hb : Def fs x 2 3 lawSidB) {k : Nat} {S : Store} {d : D} {m : Int} (hm : 0 ≤ m) (hd : Known S d) (hi : ∀ xs, d = .tup xs → xs.length ≤ LIM ∧ ∀ y ∈ xs, Known S y) (hq : ∀ xs, d = .tup xs → ∃ ps, D.toPs (xs.filter fun y => !y.isInt) = some ps ∧ SeqAt.shaped (.list ps) = true) (hz : ∀ xs, d = .tup xs → ∀ n ∈ intsL xs, n.natAbs < 2 ^ 40000) : Wp (fns G fs es (k + 2) x [d, .int m] S) (fun r S' => r = .bl (d.side m) ∧ S' = S) E := by
  refine wp_def hb rfl ?_
  unfold lawSidB
  have fin : ∀ c : Bool, c = d.side m → ∃ r, Fl.rt (.bl c) = .rt r ∧ r.und S.length = true ∧ (r = .bl (d.side m) ∧ S.take S.length = S) := fun c e => ⟨_, rfl, rfl, by rw [e], List.take_length⟩
  have i0 : instOf S d [.tuple] = some (match d with | .tup _ => true | _ => false) := by
    rcases hd with rfl | ⟨t, ht⟩
    · rfl
    · rw [inst_of ht]
      cases d with
      | ref n =>
        unfold tyOf at ht
        dsimp only at ht
        split at ht <;> first | (cases ht; rfl) | cases ht
      | non => cases ht
      | _ => cases ht; rfl
  refine wx_sts (wx_if (wp_or (wp_not (wp_inst (wp_var rfl ⟨_, i0, _, rfl, _, rfl, fun ht => ?_, fun ht => ?_⟩)))))
  · cases d with
    | tup xs =>
      obtain ⟨hl, hk⟩ := hi xs rfl
      refine wp_or (wp_cmp (wp_bif (wp_irs (wp_var rfl (wp_irs0 (wp_some rfl (wp_bin (wp_var rfl (wp_cst (wp_add ⟨_, rfl, _, rfl, fun h1 => ?_, fun h1 => ?_⟩))))))))))
      · have h2 : ((xs.length : Int) == m + 1) = true := by simpa using h1
        obtain ⟨ps, hps, hsh⟩ := hq xs rfl
        refine wp_cmp (wp_filter (d := .tup xs) (p := fun y => !y.isInt) (by rw [IR.run]; rfl) rfl hl (show 2 < 3 by decide) (fun y hy => wp_not (wp_call (wp_irs (wp_var rfl (wp_irs0 (wp_imp (int_ok dw (hk y hy)) ?_)))))) (wp_lst (wp_irs0 ?_)))
        · rintro r S2 ⟨rfl, rfl⟩
          exact ⟨_, rfl, rfl, rfl⟩
        · have en : cmpOf S .ne (.lst (xs.filter fun y => !y.isInt)) (.lst []) = some (!(xs.filter fun y => !y.isInt).isEmpty) := by
            show (eqOf S (.lst (xs.filter fun y => !y.isInt)) (.lst [])).map (!·) = _
            rw [eq_nil hps hsh]
            rfl
          refine ⟨by decide, ⟨_, en, _, rfl, fun h3 => ?_, fun h3 => ?_⟩⟩
          · have h4 : (xs.filter fun y => !y.isInt).isEmpty = false := by simpa using h3
            have h5 : xs.all D.isInt = false := by
              cases ha : xs.all D.isInt with
              | false => rfl
              | true =>
                have : (xs.filter fun y => !y.isInt) = [] := List.filter_eq_nil_iff.mpr fun y hy => by rw [List.all_eq_true.mp ha y hy]; decide
                rw [this] at h4
                exact h4
            refine wx_sts (wx_ret (wp_cst (fin false ?_)))
            show _ = ((((xs.length : Int) == m + 1) && xs.all D.isInt) && _)
            rw [h5, Bool.and_false, Bool.false_and]
          · have h4 : (xs.filter fun y => !y.isInt).isEmpty = true := by simpa using h3
            have h5 : xs.all D.isInt = true := by
              have e := List.filter_eq_nil_iff.mp (List.isEmpty_iff.mp h4)
              refine List.all_eq_true.mpr fun y hy => ?_
              have := e y hy
              simpa using this
            have h6 : D.ints (.tup xs) (m + 1) = true := by
              show (((xs.length : Int) == m + 1) && xs.all D.isInt) = true
              rw [h2, h5]
              rfl
            have hx := intsL_map h5
            refine wx_sts0 ?_
            have hln : (intsL xs).length = xs.length := by
              have := congrArg List.length hx
              rw [List.length_map] at this
              exact this.symm
            have hp : D.side (.tup xs) m = (((gcds (intsL xs) : Int) == 1) && ((intsL xs).take ((intsL xs).length - 1)).any fun i => i != 0) := by
              show (D.ints (.tup xs) (m + 1) && _) = _
              rw [h6, Bool.true_and]
            have hf : (cutOf xs none (some (-1))).filter D.nz = (((intsL xs).take (xs.length - 1)).filter fun i => i != 0).map D.int := by
              rw [cut_last]
              have ht2 : ∀ n, ((intsL xs).take n).map D.int = xs.take n := fun n => by rw [List.map_take, ← hx]
              rw [← ht2, List.filter_map]
              rfl
            have en : cmpOf S .ne (.lst ((cutOf xs none (some (-1))).filter D.nz)) (.lst []) = some (!((cutOf xs none (some (-1))).filter D.nz).isEmpty) := by
              show (eqOf S (.lst _) (.lst [])).map (!·) = _
              rw [hf, eq_nil (toPs_ints _) (shaped_ints _)]
              rfl
            have hE : ((cutOf xs none (some (-1))).filter D.nz).isEmpty = !(((intsL xs).take (xs.length - 1)).any fun i => i != 0) := by
              rw [hf, ← filter_any, List.isEmpty_map]
            refine wx_sts (wx_ret (wp_and (wp_cmp (wp_filter (d := .tup (cutOf xs none (some (-1)))) (p := D.nz) (by rw [IR.run]; rfl) rfl ?_ (show 2 < 3 by decide) (fun y hy => ?_) (wp_lst (wp_irs0 ?_))))))
            · rw [cut_last, List.length_take]
              exact Nat.le_trans (Nat.min_le_right _ _) hl
            · rw [cut_last] at hy
              have hy' : y.isInt = true := List.all_eq_true.mp h5 y (List.mem_of_mem_take hy)
              cases y with
              | int i => exact wp_cmp (wp_var rfl (wp_cst ⟨_, rfl, rfl, rfl⟩))
              | _ => exact Bool.noConfusion (show false = true from hy')
            · refine ⟨by decide, ⟨_, en, _, rfl, fun h7 => ?_, fun h7 => fin _ ?_⟩⟩
              · have h8 : ((intsL xs).take ((intsL xs).length - 1)).any (fun i => i != 0) = true := by
                  rw [hln]
                  rw [hE] at h7
                  simpa using h7
                have hf0 : Wp (fns G fs es (k + 1) "_law_factor" [.tup xs] S) (fun d S' => d = .int (gcds (intsL xs) : Nat) ∧ S' = S) (fun _ _ => False) := by
                  have := factor_tup (G := G) (es := es) (E := fun _ _ => False) (k := k) (S := S) df (hz xs rfl)
                  rw [← hx] at this
                  exact this
                refine wp_cmp (wp_call (wp_irs (wp_var rfl (wp_irs0 ?_))))
                refine wp_imp hf0 ?_
                rintro r S2 ⟨rfl, rfl⟩
                exact wp_cst ⟨_, rfl, fin _ (by rw [hp, h8, Bool.and_true])⟩
              · have h8 : ((intsL xs).take ((intsL xs).length - 1)).any (fun i => i != 0) = false := by
                  rw [hln]
                  rw [hE] at h7
                  simpa using h7
                rw [hp, h8, Bool.and_false, hE, ← hln, h8]
                rfl
      · refine ⟨_, rfl, fun _ => wx_sts (wx_ret (wp_cst (fin false ?_))), fun z => Bool.noConfusion (h1.symm.trans z)⟩
        have h2 : ((xs.length : Int) == m + 1) = false := by simpa using h1
        show _ = ((((xs.length : Int) == m + 1) && xs.all D.isInt) && _)
        rw [h2, Bool.false_and, Bool.false_and]
    | _ => exact Bool.noConfusion (show true = false from ht)
  · refine ⟨_, rfl, fun _ => wx_sts (wx_ret (wp_cst (fin false ?_))), fun z => Bool.noConfusion (ht.symm.trans z)⟩
    cases d with
    | tup xs => exact Bool.noConfusion (show false = true from ht)
    | _ => rfl
end
end Pv

/-! Further rules; calls that raise. -/
namespace Pv
open PySem
section
variable {G : Sig} {Γ : Fns} {b : Nat} {md : Bool} {ρ : Env} {S : Store} {E : Exn → Store → Prop}
theorem wp_dct {ks : List L2.Key} {vs : IRs} {Q : D → Store → Prop} (h : Wp (vs.runs G Γ b md ρ S) (fun xs S1 => (ks.length ≤ 15 ∧ ks.Nodup ∧ ks.length = xs.length) ∧ Wp (newD md S1 ks xs) Q E) E) : Wp (IR.run G Γ b md (.dct ks vs) ρ S) Q E := by
  rw [IR.run]
  refine wp_bind (wp_imp h fun xs S1 ⟨e, q⟩ => ?_)
  rw [if_pos e]
  exact q
theorem wp_fzd {ks : List L2.Key} {xs : List D} {Q : D → Store → Prop} (h : Q (.dct ks xs) S) : Wp (newD false S ks xs) Q E := wp_ok h
theorem wx_pass {Q : Fl → Store → Prop} (h : Q (.nx ρ) S) : Wp (ST.exec G Γ b .pass ρ S) Q E := by
  rw [ST.exec]
  exact wp_ok h
theorem wx_raise {c : Str} {as : IRs} {Q : Fl → Store → Prop} (h : Wp (as.runs G Γ b false ρ S) (fun xs S1 => Wp (Γ c xs S1) (fun _ _ => False) E) E) : Wp (ST.exec G Γ b (.raise c as) ρ S) Q E := by
  rw [ST.exec]
  exact wp_bind (wp_imp h fun xs S1 h => wp_bind (wp_mono h (fun _ _ z => z.elim) fun _ _ e => e))
theorem wx_tri {body : STs} {hs : List Hd} {Q : Fl → Store → Prop} (h : Wp (body.execs G Γ b ρ S) Q fun x S1 => Wp (handle x S1 hs) Q E) : Wp (ST.exec G Γ b (.tri body hs) ρ S) Q E := by
  rw [ST.exec]
  generalize STs.execs G Γ b body ρ S = r at h ⊢
  cases r with
  | ok fl S1 => exact wp_ok h.okI
  | exc x S1 => exact h.excI
  | bad => exact h.badI.elim
theorem wp_app {o x : IR} {Q : D → Store → Prop} (h : Wp (o.run G Γ b false ρ S) (fun l S1 => ∃ n xs, l = .ref n ∧ S1[n]? = some (.lst xs) ∧ Wp (x.run G Γ b false ρ S1) (fun d S2 => ∃ ys, S2[n]? = some (.lst ys) ∧ (ys.length < LIM ∧ (b ≤ n ∨ d.und 0 = true)) ∧ Q .non (S2.set n (.lst (ys ++ [d])))) E) E) : Wp (IR.run G Γ b md (.app o x) ρ S) Q E := by
  rw [IR.run]
  refine wp_bind (wp_imp h ?_)
  rintro l S1 ⟨n, xs, rfl, e, h2⟩
  have hl : isL S1 (.ref n) = true := by
    unfold isL
    dsimp only
    rw [e]
  rw [if_pos hl]
  refine wp_bind (wp_imp h2 ?_)
  rintro d S2 ⟨ys, e2, c, q⟩
  dsimp only
  rw [e2]
  dsimp only
  rw [if_pos c]
  exact wp_ok q
end
theorem ex_int {i : Int} {R : Int → Prop} (h : R i) : ∃ j, D.int i = D.int j ∧ R j := ⟨i, rfl, h⟩
section
variable {md : Bool} {S : Store} {E : Exn → Store → Prop} {Q : D → Store → Prop}
theorem wp_slt {xs : List D} {l h : Option Int} (q : Q (.tup (cutOf xs l h)) S) : Wp (slF md (.tup xs) l h S) Q E := wp_ok q
theorem wp_addt {xs ys : List D} (hl : xs.length + ys.length ≤ LIM) (h : Q (.tup (xs ++ ys)) S) : Wp (binOf md S .add (.tup xs) (.tup ys)) Q E := by
  unfold binOf binV
  dsimp only
  rw [if_pos hl]
  exact wp_ok h
theorem wp_mult {xs : List D} {k : Int} (hl : 2 ≤ k ∧ k ≤ 1000 ∧ xs.length ≤ 1000 ∧ xs ≠ []) (h : Q (.tup (List.replicate k.toNat xs).flatten) S) : Wp (binOf md S .mul (.tup xs) (.int k)) Q E := by
  unfold binOf binV
  dsimp only
  rw [if_pos hl]
  exact wp_ok h
end
/-- a def that may raise: what it answers, what it raises -/
theorem wp_defX {G : Sig} {fs : List Fn} {es : List Ec} {k : Nat} {x : Str} {np nN : Nat} {body : STs} {args : List D} {S : Store} {Q : D → Store → Prop} {E : Exn → Store → Prop} (d : Def fs x np nN body) (hl : args.length = np)
    (h : Wp (body.execs G (fns G fs es k) S.length (args.map some ++ List.replicate (nN - np) none) S) (fun fl S1 => (match fl with
      | .rt d => d.und S.length = true ∧ Q d (S1.take S.length)
      | .nx _ => Q .non (S1.take S.length))) fun y S1 => ∃ fs, frzX S1 S.length y.fs = some fs ∧ E ⟨y.cls, fs⟩ (S1.take S.length)) : Wp (fns G fs es (k + 1) x args S) Q E := by
  obtain ⟨f, h1, rfl, rfl, rfl, h5⟩ := d
  rw [← hl] at h
  refine wp_fn h1 hl (wp_mono h ?_ fun _ _ e => e)
  rintro fl S1 q
  cases fl with
  | rt d => exact fin_und h5 q.1 q.2
  | nx ρ => exact fin_und h5 rfl q
/-- .. that hands out its own objects -/
def DefO (fs : List Fn) (x : Str) (np nN : Nat) (body : STs) : Prop := ∃ f, fs.find? (fun f => decide (f.name = x)) = some f ∧ f.ps.length = np ∧ f.N.length = nN ∧ f.body = body ∧ f.own = true
theorem wp_defO {G : Sig} {fs : List Fn} {es : List Ec} {k : Nat} {x : Str} {np nN : Nat} {body : STs} {args : List D} {S : Store} {Q : D → Store → Prop} {E : Exn → Store → Prop} (d : DefO fs x np nN body) (hl : args.length = np)
    (h : Wp (body.execs G (fns G fs es k) S.length (args.map some ++ List.replicate (nN - np) none) S) (fun fl S1 => ∃ d, fl = .rt d ∧ Q d S1) fun _ _ => False) : Wp (fns G fs es (k + 1) x args S) Q E := by
  obtain ⟨f, h1, rfl, rfl, rfl, h5⟩ := d
  rw [← hl] at h
  refine wp_fn h1 hl (wp_mono h ?_ fun _ _ z => z.elim)
  rintro fl S1 ⟨d, rfl, q⟩
  exact fin_own h5 q
/-- an error class of one attribute -/
def Err (fs : List Fn) (es : List Ec) (x f : Str) : Prop := fs.find? (fun g => decide (g.name = x)) = none ∧ ∃ e, es.find? (fun e => decide (e.cls = x)) = some e ∧ e.att = some f
theorem wp_err {G : Sig} {fs : List Fn} {es : List Ec} {k : Nat} {x f : Str} {d : D} {S : Store} {Q : D → Store → Prop} {E : Exn → Store → Prop} (h : Err fs es x f) (q : E ⟨x, [(f, d)]⟩ S) : Wp (fns G fs es k x [d] S) Q E := by
  obtain ⟨h1, e, h2, h3⟩ := h
  have key : Wp (ecRun es x [d] S) Q E := by
    unfold ecRun
    rw [h2]
    dsimp only
    rw [h3]
    exact wp_exc q
  cases k with
  | zero => exact key
  | succ k =>
    rw [fns]
    dsimp only
    rw [h1]
    exact key
theorem frzX_und {S : Store} {b : Nat} {f : Str} {d : D} (h : d.und b = true) : frzX S b [(f, d)] = some [(f, d)] := by
  have e : frz S b 60 d = some d := by
    unfold frz
    rw [if_pos h]
  unfold frzX
  rw [e, frzX]
end Pv

/-! lowest, is_fraction, point_from, side_from. -/
namespace Pv
open PySem
section
variable {G : Sig} {fs : List Fn} {es : List Ec} {E : Exn → Store → Prop}
def lowB : STs := sts [.set 2 false (.bif .gcd (irs [.var 0, .var 1])), .iff (.cmp .lt (.var 1) (.cst (.int 0))) (sts [.set 2 false (.bin .sub (.cst (.int 0)) (.var 2))]) (sts []), .ret false (.tup (irs [.bin .fdiv (.var 0) (.var 2), .bin .fdiv (.var 1) (.var 2)]))]
theorem gcds_two {t c : Int} : gcds [t, c] = Nat.gcd t.natAbs c.natAbs := by
  show Nat.gcd (Nat.gcd 0 t.natAbs) c.natAbs = _
  rw [Nat.gcd_zero_left]
theorem lowest_ok (dl : Def fs "lowest" 2 3 lowB) {k : Nat} {S : Store} {t c : Int} (hc : c.natAbs < 2 ^ 8000) (h0 : c ≠ 0) : Wp (fns G fs es (k + 1) "lowest" [.int t, .int c] S) (fun d S' => d = fracD t c ∧ S' = S) E := by
  have hg := gcds_ne (ns := [t, c]) (.tail _ (.head _)) h0
  have hgb : gcds [t, c] < 2 ^ 8000 := by
    rw [gcds_two]
    exact Nat.lt_of_le_of_lt (Nat.le_of_dvd (by omega) (Nat.gcd_dvd_right _ _)) hc
  have hs2 : ((gcds [t, c] : Int) * sgn c).natAbs = gcds [t, c] := by
    unfold sgn
    split <;> omega
  have hs : (gcds [t, c] : Int) * sgn c ≠ 0 := by omega
  have hs3 : (gcds [t, c] : Int) * sgn c ≠ 0 ∧ ((gcds [t, c] : Int) * sgn c).natAbs.log2 < 9000 := ⟨hs, by rw [hs2]; exact Nat.lt_of_le_of_lt (log2_le hgb) (by decide)⟩
  refine wp_def dl rfl ?_
  unfold lowB
  repeat (first | ((with_reducible refine wp_vr ?_); refine ⟨_, rfl, ?_⟩) | with_reducible first | refine wp_cst ?_ | refine wp_bin ?_ | refine wp_ix ?_ | refine wp_add ?_ | refine wp_sub ?_ | refine wp_int ?_ | refine wp_bif ?_ | refine wp_irs ?_ | refine wp_irs0 ?_ | refine wx_sts ?_ | refine wx_sts0 ?_ | refine wx_set ?_ | refine wx_ret ?_ | refine wx_setIx ?_ | refine wx_if ?_ | refine wp_and ?_ | refine wp_or ?_ | refine wp_not ?_ | refine wp_neg ?_ | refine wp_cmp ?_ | refine wp_call ?_ | refine wp_callK ?_ | refine wp_ite ?_ | refine wp_tup ?_ | refine wp_lst ?_ | refine wp_inst ?_ | refine wx_setT ?_ | refine wx_expr ?_ | refine wp_sl ?_ | refine wp_onon ?_ | refine wp_osome ?_ | refine wp_fz ?_ | refine wp_nil ?_ | refine wx_raise ?_ | refine wx_pass ?_ | refine ex_int ?_ | refine wp_slt ?_)
  refine wp_some (a := D.int (gcds [t, c] : Nat)) (by rw [gcds_two]) ?_
  repeat (first | ((with_reducible refine wp_vr ?_); refine ⟨_, rfl, ?_⟩) | with_reducible first | refine wp_cst ?_ | refine wp_bin ?_ | refine wp_ix ?_ | refine wp_add ?_ | refine wp_sub ?_ | refine wp_int ?_ | refine wp_bif ?_ | refine wp_irs ?_ | refine wp_irs0 ?_ | refine wx_sts ?_ | refine wx_sts0 ?_ | refine wx_set ?_ | refine wx_ret ?_ | refine wx_setIx ?_ | refine wx_if ?_ | refine wp_and ?_ | refine wp_or ?_ | refine wp_not ?_ | refine wp_neg ?_ | refine wp_cmp ?_ | refine wp_call ?_ | refine wp_callK ?_ | refine wp_ite ?_ | refine wp_tup ?_ | refine wp_lst ?_ | refine wp_inst ?_ | refine wx_setT ?_ | refine wx_expr ?_ | refine wp_sl ?_ | refine wp_onon ?_ | refine wp_osome ?_ | refine wp_fz ?_ | refine wp_nil ?_ | refine wx_raise ?_ | refine wx_pass ?_ | refine ex_int ?_ | refine wp_slt ?_)
  refine ⟨_, rfl, _, rfl, fun hk => ?_, fun hk => ?_⟩
  · have hl0 : sgn c = -1 := if_neg (by have : c < 0 := of_decide_eq_true hk; omega)
    repeat (first | ((with_reducible refine wp_vr ?_); refine ⟨_, rfl, ?_⟩) | with_reducible first | refine wp_cst ?_ | refine wp_bin ?_ | refine wp_ix ?_ | refine wp_add ?_ | refine wp_sub ?_ | refine wp_int ?_ | refine wp_bif ?_ | refine wp_irs ?_ | refine wp_irs0 ?_ | refine wx_sts ?_ | refine wx_sts0 ?_ | refine wx_set ?_ | refine wx_ret ?_ | refine wx_setIx ?_ | refine wx_if ?_ | refine wp_and ?_ | refine wp_or ?_ | refine wp_not ?_ | refine wp_neg ?_ | refine wp_cmp ?_ | refine wp_call ?_ | refine wp_callK ?_ | refine wp_ite ?_ | refine wp_tup ?_ | refine wp_lst ?_ | refine wp_inst ?_ | refine wx_setT ?_ | refine wx_expr ?_ | refine wp_sl ?_ | refine wp_onon ?_ | refine wp_osome ?_ | refine wp_fz ?_ | refine wp_nil ?_ | refine wx_raise ?_ | refine wx_pass ?_ | refine ex_int ?_ | refine wp_slt ?_)
    rw [show ((0 : Int) - (gcds [t, c] : Nat)) = (gcds [t, c] : Int) * sgn c by rw [hl0]; omega]
    refine wp_fdiv hs3 ?_
    repeat (first | ((with_reducible refine wp_vr ?_); refine ⟨_, rfl, ?_⟩) | with_reducible first | refine wp_cst ?_ | refine wp_bin ?_ | refine wp_ix ?_ | refine wp_add ?_ | refine wp_sub ?_ | refine wp_int ?_ | refine wp_bif ?_ | refine wp_irs ?_ | refine wp_irs0 ?_ | refine wx_sts ?_ | refine wx_sts0 ?_ | refine wx_set ?_ | refine wx_ret ?_ | refine wx_setIx ?_ | refine wx_if ?_ | refine wp_and ?_ | refine wp_or ?_ | refine wp_not ?_ | refine wp_neg ?_ | refine wp_cmp ?_ | refine wp_call ?_ | refine wp_callK ?_ | refine wp_ite ?_ | refine wp_tup ?_ | refine wp_lst ?_ | refine wp_inst ?_ | refine wx_setT ?_ | refine wx_expr ?_ | refine wp_sl ?_ | refine wp_onon ?_ | refine wp_osome ?_ | refine wp_fz ?_ | refine wp_nil ?_ | refine wx_raise ?_ | refine wx_pass ?_ | refine ex_int ?_ | refine wp_slt ?_)
    refine wp_fdiv hs3 ?_
    repeat (first | ((with_reducible refine wp_vr ?_); refine ⟨_, rfl, ?_⟩) | with_reducible first | refine wp_cst ?_ | refine wp_bin ?_ | refine wp_ix ?_ | refine wp_add ?_ | refine wp_sub ?_ | refine wp_int ?_ | refine wp_bif ?_ | refine wp_irs ?_ | refine wp_irs0 ?_ | refine wx_sts ?_ | refine wx_sts0 ?_ | refine wx_set ?_ | refine wx_ret ?_ | refine wx_setIx ?_ | refine wx_if ?_ | refine wp_and ?_ | refine wp_or ?_ | refine wp_not ?_ | refine wp_neg ?_ | refine wp_cmp ?_ | refine wp_call ?_ | refine wp_callK ?_ | refine wp_ite ?_ | refine wp_tup ?_ | refine wp_lst ?_ | refine wp_inst ?_ | refine wx_setT ?_ | refine wx_expr ?_ | refine wp_sl ?_ | refine wp_onon ?_ | refine wp_osome ?_ | refine wp_fz ?_ | refine wp_nil ?_ | refine wx_raise ?_ | refine wx_pass ?_ | refine ex_int ?_ | refine wp_slt ?_)
    exact ⟨two_lim, _, rfl, rfl, rfl, List.take_length⟩
  · have hl0 : sgn c = 1 := if_pos (by have : ¬ c < 0 := of_decide_eq_false hk; omega)
    repeat (first | ((with_reducible refine wp_vr ?_); refine ⟨_, rfl, ?_⟩) | with_reducible first | refine wp_cst ?_ | refine wp_bin ?_ | refine wp_ix ?_ | refine wp_add ?_ | refine wp_sub ?_ | refine wp_int ?_ | refine wp_bif ?_ | refine wp_irs ?_ | refine wp_irs0 ?_ | refine wx_sts ?_ | refine wx_sts0 ?_ | refine wx_set ?_ | refine wx_ret ?_ | refine wx_setIx ?_ | refine wx_if ?_ | refine wp_and ?_ | refine wp_or ?_ | refine wp_not ?_ | refine wp_neg ?_ | refine wp_cmp ?_ | refine wp_call ?_ | refine wp_callK ?_ | refine wp_ite ?_ | refine wp_tup ?_ | refine wp_lst ?_ | refine wp_inst ?_ | refine wx_setT ?_ | refine wx_expr ?_ | refine wp_sl ?_ | refine wp_onon ?_ | refine wp_osome ?_ | refine wp_fz ?_ | refine wp_nil ?_ | refine wx_raise ?_ | refine wx_pass ?_ | refine ex_int ?_ | refine wp_slt ?_)
    have e1 : (gcds [t, c] : Int) = (gcds [t, c] : Int) * sgn c := by rw [hl0, Int.mul_one]
    rw [e1]
    refine wp_fdiv hs3 ?_
    repeat (first | ((with_reducible refine wp_vr ?_); refine ⟨_, rfl, ?_⟩) | with_reducible first | refine wp_cst ?_ | refine wp_bin ?_ | refine wp_ix ?_ | refine wp_add ?_ | refine wp_sub ?_ | refine wp_int ?_ | refine wp_bif ?_ | refine wp_irs ?_ | refine wp_irs0 ?_ | refine wx_sts ?_ | refine wx_sts0 ?_ | refine wx_set ?_ | refine wx_ret ?_ | refine wx_setIx ?_ | refine wx_if ?_ | refine wp_and ?_ | refine wp_or ?_ | refine wp_not ?_ | refine wp_neg ?_ | refine wp_cmp ?_ | refine wp_call ?_ | refine wp_callK ?_ | refine wp_ite ?_ | refine wp_tup ?_ | refine wp_lst ?_ | refine wp_inst ?_ | refine wx_setT ?_ | refine wx_expr ?_ | refine wp_sl ?_ | refine wp_onon ?_ | refine wp_osome ?_ | refine wp_fz ?_ | refine wp_nil ?_ | refine wx_raise ?_ | refine wx_pass ?_ | refine ex_int ?_ | refine wp_slt ?_)
    refine wp_fdiv hs3 ?_
    repeat (first | ((with_reducible refine wp_vr ?_); refine ⟨_, rfl, ?_⟩) | with_reducible first | refine wp_cst ?_ | refine wp_bin ?_ | refine wp_ix ?_ | refine wp_add ?_ | refine wp_sub ?_ | refine wp_int ?_ | refine wp_bif ?_ | refine wp_irs ?_ | refine wp_irs0 ?_ | refine wx_sts ?_ | refine wx_sts0 ?_ | refine wx_set ?_ | refine wx_ret ?_ | refine wx_setIx ?_ | refine wx_if ?_ | refine wp_and ?_ | refine wp_or ?_ | refine wp_not ?_ | refine wp_neg ?_ | refine wp_cmp ?_ | refine wp_call ?_ | refine wp_callK ?_ | refine wp_ite ?_ | refine wp_tup ?_ | refine wp_lst ?_ | refine wp_inst ?_ | refine wx_setT ?_ | refine wx_expr ?_ | refine wp_sl ?_ | refine wp_onon ?_ | refine wp_osome ?_ | refine wp_fz ?_ | refine wp_nil ?_ | refine wx_raise ?_ | refine wx_pass ?_ | refine ex_int ?_ | refine wp_slt ?_)
    exact ⟨two_lim, _, rfl, rfl, rfl, List.take_length⟩
def fraB : STs := sts [.ret false (.and (.call "are_integers" (irs [.var 0, .cst (.int 2)])) (.and (.cmp .gt (.ix (.var 0) (.cst (.int 1))) (.cst (.int 0))) (.cmp .eq (.bif .gcd (irs [.ix (.var 0) (.cst (.int 0)), .ix (.var 0) (.cst (.int 1))])) (.cst (.int 1)))))]
/-- a fraction -/
def D.frac : D → Bool
  | .tup [.int a, .int c] => decide (0 < c) && ((Nat.gcd a.natAbs c.natAbs : Int) == 1)
  | _ => false
theorem ints_two {d : D} (h : d.ints 2 = true) : ∃ a c, d = .tup [.int a, .int c] := by
  cases d with
  | tup xs =>
    obtain ⟨h1, h2⟩ := Bool.and_eq_true_iff.mp (show (((xs.length : Int) == 2) && xs.all D.isInt) = true from h)
    have h1 : (xs.length : Int) = 2 := by simpa using h1
    match xs, h1, h2 with
    | [x, y], _, h2 =>
      have h3 : (x.isInt && (y.isInt && true)) = true := h2
      cases x with
      | int a =>
        cases y with
        | int c => exact ⟨a, c, rfl⟩
        | _ => exact Bool.noConfusion (show false = true from h3)
      | _ => exact Bool.noConfusion (show false = true from h3)
    | [], h1, _ => simp at h1
    | [_], h1, _ => simp at h1
    | _ :: _ :: _ :: r, h1, _ => simp at h1; omega
  | _ => exact Bool.noConfusion (show false = true from h)
theorem fraction_ok (p : Points fs) (df : Def fs "is_fraction" 1 1 fraB) {k : Nat} {S : Store} {d : D} (hd : Known S d) (hi : ∀ xs, d = .tup xs → xs.length ≤ LIM ∧ ∀ y ∈ xs, Known S y) : Wp (fns G fs es (k + 3) "is_fraction" [d] S) (fun r S' => r = .bl d.frac ∧ S' = S) E := by
  refine wp_def df rfl ?_
  unfold fraB
  have fin : ∀ c : Bool, c = d.frac → ∃ r, Fl.rt (.bl c) = .rt r ∧ r.und S.length = true ∧ (r = .bl d.frac ∧ S.take S.length = S) := fun c e => ⟨_, rfl, rfl, by rw [e], List.take_length⟩
  repeat (first | ((with_reducible refine wp_vr ?_); refine ⟨_, rfl, ?_⟩) | with_reducible first | refine wp_cst ?_ | refine wp_bin ?_ | refine wp_ix ?_ | refine wp_add ?_ | refine wp_sub ?_ | refine wp_int ?_ | refine wp_bif ?_ | refine wp_irs ?_ | refine wp_irs0 ?_ | refine wx_sts ?_ | refine wx_sts0 ?_ | refine wx_set ?_ | refine wx_ret ?_ | refine wx_setIx ?_ | refine wx_if ?_ | refine wp_and ?_ | refine wp_or ?_ | refine wp_not ?_ | refine wp_neg ?_ | refine wp_cmp ?_ | refine wp_call ?_ | refine wp_callK ?_ | refine wp_ite ?_ | refine wp_tup ?_ | refine wp_lst ?_ | refine wp_inst ?_ | refine wx_setT ?_ | refine wx_expr ?_ | refine wp_sl ?_ | refine wp_onon ?_ | refine wp_osome ?_ | refine wp_fz ?_ | refine wp_nil ?_ | refine wx_raise ?_ | refine wx_pass ?_ | refine ex_int ?_ | refine wp_slt ?_)
  refine wp_imp (are_ok p.int p.tup p.are hd hi) ?_
  rintro r S1 ⟨rfl, rfl⟩
  refine ⟨_, rfl, fun ht => ?_, fun ht => fin _ ?_⟩
  · obtain ⟨a, c, rfl⟩ := ints_two ht
    have hp : D.frac (.tup [.int a, .int c]) = (decide (0 < c) && ((Nat.gcd a.natAbs c.natAbs : Int) == 1)) := rfl
    repeat (first | ((with_reducible refine wp_vr ?_); refine ⟨_, rfl, ?_⟩) | with_reducible first | refine wp_cst ?_ | refine wp_bin ?_ | refine wp_ix ?_ | refine wp_add ?_ | refine wp_sub ?_ | refine wp_int ?_ | refine wp_bif ?_ | refine wp_irs ?_ | refine wp_irs0 ?_ | refine wx_sts ?_ | refine wx_sts0 ?_ | refine wx_set ?_ | refine wx_ret ?_ | refine wx_setIx ?_ | refine wx_if ?_ | refine wp_and ?_ | refine wp_or ?_ | refine wp_not ?_ | refine wp_neg ?_ | refine wp_cmp ?_ | refine wp_call ?_ | refine wp_callK ?_ | refine wp_ite ?_ | refine wp_tup ?_ | refine wp_lst ?_ | refine wp_inst ?_ | refine wx_setT ?_ | refine wx_expr ?_ | refine wp_sl ?_ | refine wp_onon ?_ | refine wp_osome ?_ | refine wp_fz ?_ | refine wp_nil ?_ | refine wx_raise ?_ | refine wx_pass ?_ | refine ex_int ?_ | refine wp_slt ?_)
    refine wp_ixs rfl (d := .int c) rfl ?_
    repeat (first | ((with_reducible refine wp_vr ?_); refine ⟨_, rfl, ?_⟩) | with_reducible first | refine wp_cst ?_ | refine wp_bin ?_ | refine wp_ix ?_ | refine wp_add ?_ | refine wp_sub ?_ | refine wp_int ?_ | refine wp_bif ?_ | refine wp_irs ?_ | refine wp_irs0 ?_ | refine wx_sts ?_ | refine wx_sts0 ?_ | refine wx_set ?_ | refine wx_ret ?_ | refine wx_setIx ?_ | refine wx_if ?_ | refine wp_and ?_ | refine wp_or ?_ | refine wp_not ?_ | refine wp_neg ?_ | refine wp_cmp ?_ | refine wp_call ?_ | refine wp_callK ?_ | refine wp_ite ?_ | refine wp_tup ?_ | refine wp_lst ?_ | refine wp_inst ?_ | refine wx_setT ?_ | refine wx_expr ?_ | refine wp_sl ?_ | refine wp_onon ?_ | refine wp_osome ?_ | refine wp_fz ?_ | refine wp_nil ?_ | refine wx_raise ?_ | refine wx_pass ?_ | refine ex_int ?_ | refine wp_slt ?_)
    refine ⟨_, rfl, _, rfl, fun hk => ?_, fun hk => fin _ ?_⟩
    · have hk' : decide (0 < c) = true := hk
      repeat (first | ((with_reducible refine wp_vr ?_); refine ⟨_, rfl, ?_⟩) | with_reducible first | refine wp_cst ?_ | refine wp_bin ?_ | refine wp_ix ?_ | refine wp_add ?_ | refine wp_sub ?_ | refine wp_int ?_ | refine wp_bif ?_ | refine wp_irs ?_ | refine wp_irs0 ?_ | refine wx_sts ?_ | refine wx_sts0 ?_ | refine wx_set ?_ | refine wx_ret ?_ | refine wx_setIx ?_ | refine wx_if ?_ | refine wp_and ?_ | refine wp_or ?_ | refine wp_not ?_ | refine wp_neg ?_ | refine wp_cmp ?_ | refine wp_call ?_ | refine wp_callK ?_ | refine wp_ite ?_ | refine wp_tup ?_ | refine wp_lst ?_ | refine wp_inst ?_ | refine wx_setT ?_ | refine wx_expr ?_ | refine wp_sl ?_ | refine wp_onon ?_ | refine wp_osome ?_ | refine wp_fz ?_ | refine wp_nil ?_ | refine wx_raise ?_ | refine wx_pass ?_ | refine ex_int ?_ | refine wp_slt ?_)
      refine wp_ixs rfl (d := .int a) rfl ?_
      repeat (first | ((with_reducible refine wp_vr ?_); refine ⟨_, rfl, ?_⟩) | with_reducible first | refine wp_cst ?_ | refine wp_bin ?_ | refine wp_ix ?_ | refine wp_add ?_ | refine wp_sub ?_ | refine wp_int ?_ | refine wp_bif ?_ | refine wp_irs ?_ | refine wp_irs0 ?_ | refine wx_sts ?_ | refine wx_sts0 ?_ | refine wx_set ?_ | refine wx_ret ?_ | refine wx_setIx ?_ | refine wx_if ?_ | refine wp_and ?_ | refine wp_or ?_ | refine wp_not ?_ | refine wp_neg ?_ | refine wp_cmp ?_ | refine wp_call ?_ | refine wp_callK ?_ | refine wp_ite ?_ | refine wp_tup ?_ | refine wp_lst ?_ | refine wp_inst ?_ | refine wx_setT ?_ | refine wx_expr ?_ | refine wp_sl ?_ | refine wp_onon ?_ | refine wp_osome ?_ | refine wp_fz ?_ | refine wp_nil ?_ | refine wx_raise ?_ | refine wx_pass ?_ | refine ex_int ?_ | refine wp_slt ?_)
      refine wp_ixs rfl (d := .int c) rfl ?_
      repeat (first | ((with_reducible refine wp_vr ?_); refine ⟨_, rfl, ?_⟩) | with_reducible first | refine wp_cst ?_ | refine wp_bin ?_ | refine wp_ix ?_ | refine wp_add ?_ | refine wp_sub ?_ | refine wp_int ?_ | refine wp_bif ?_ | refine wp_irs ?_ | refine wp_irs0 ?_ | refine wx_sts ?_ | refine wx_sts0 ?_ | refine wx_set ?_ | refine wx_ret ?_ | refine wx_setIx ?_ | refine wx_if ?_ | refine wp_and ?_ | refine wp_or ?_ | refine wp_not ?_ | refine wp_neg ?_ | refine wp_cmp ?_ | refine wp_call ?_ | refine wp_callK ?_ | refine wp_ite ?_ | refine wp_tup ?_ | refine wp_lst ?_ | refine wp_inst ?_ | refine wx_setT ?_ | refine wx_expr ?_ | refine wp_sl ?_ | refine wp_onon ?_ | refine wp_osome ?_ | refine wp_fz ?_ | refine wp_nil ?_ | refine wx_raise ?_ | refine wx_pass ?_ | refine ex_int ?_ | refine wp_slt ?_)
      refine wp_some rfl ?_
      repeat (first | ((with_reducible refine wp_vr ?_); refine ⟨_, rfl, ?_⟩) | with_reducible first | refine wp_cst ?_ | refine wp_bin ?_ | refine wp_ix ?_ | refine wp_add ?_ | refine wp_sub ?_ | refine wp_int ?_ | refine wp_bif ?_ | refine wp_irs ?_ | refine wp_irs0 ?_ | refine wx_sts ?_ | refine wx_sts0 ?_ | refine wx_set ?_ | refine wx_ret ?_ | refine wx_setIx ?_ | refine wx_if ?_ | refine wp_and ?_ | refine wp_or ?_ | refine wp_not ?_ | refine wp_neg ?_ | refine wp_cmp ?_ | refine wp_call ?_ | refine wp_callK ?_ | refine wp_ite ?_ | refine wp_tup ?_ | refine wp_lst ?_ | refine wp_inst ?_ | refine wx_setT ?_ | refine wx_expr ?_ | refine wp_sl ?_ | refine wp_onon ?_ | refine wp_osome ?_ | refine wp_fz ?_ | refine wp_nil ?_ | refine wx_raise ?_ | refine wx_pass ?_ | refine ex_int ?_ | refine wp_slt ?_)
      exact ⟨_, rfl, fin _ (by rw [hp, hk', Bool.true_and])⟩
    · have hk' : decide (0 < c) = false := hk
      rw [hp, hk', Bool.false_and]
  · rw [ht]
    cases e : d.frac with
    | false => rfl
    | true =>
      exfalso
      unfold D.frac at e
      split at e
      · exact Bool.noConfusion (ht.symm.trans (by rfl : D.ints (.tup [.int _, .int _]) 2 = true))
      · cases e
def pfB : STs := sts [.set 1 false (.call "shared_factor" (irs [.var 0])), .iff (.cmp .lt (.ix (.var 0) (.neg (.cst (.int 1)))) (.cst (.int 0))) (sts [.set 1 false (.bin .sub (.cst (.int 0)) (.var 1))]) (sts []), .ret false (.bif .tuple (irs [.comp [2] (.name 2) (.it (.var 0)) (irs []) (.bin .fdiv (.var 2) (.var 1))]))]
theorem point_from_ok (p : Points fs) (df : Def fs "point_from" 1 3 pfB) {k : Nat} {S : Store} {ns : List Int} {l : Int} (hb : l.natAbs < 2 ^ 8000) (hl : ns.length ≤ LIM) (e : ns.getLast? = some l) (h0 : l ≠ 0) :
    Wp (fns G fs es (k + 2) "point_from" [.lst (ns.map D.int)] S) (fun d S' => d = .tup (divs (gcds ns * sgn l) ns) ∧ S' = S) E := by
  have hm : l ∈ ns := List.mem_of_getLast? e
  have hg := gcds_ne hm h0
  have hdv : gcds ns ∣ l.natAbs := by
    have key : ∀ (ns : List Int) (g : Nat), (∀ l ∈ ns, ns.foldl (fun g n => Nat.gcd g n.natAbs) g ∣ l.natAbs) ∧ ns.foldl (fun g n => Nat.gcd g n.natAbs) g ∣ g := by
      intro ns
      induction ns with
      | nil => intro g; exact ⟨fun _ h => (by cases h), Nat.dvd_refl _⟩
      | cons n ns ih =>
        intro g
        obtain ⟨i1, i2⟩ := ih (Nat.gcd g n.natAbs)
        refine ⟨fun l hl => ?_, Nat.dvd_trans i2 (Nat.gcd_dvd_left _ _)⟩
        rcases List.mem_cons.mp hl with rfl | hl
        · exact Nat.dvd_trans i2 (Nat.gcd_dvd_right _ _)
        · exact i1 l hl
    exact (key ns 0).1 l hm
  have hgb : gcds ns < 2 ^ 8000 := Nat.lt_of_le_of_lt (Nat.le_of_dvd (by omega) hdv) hb
  have hs2 : ((gcds ns : Int) * sgn l).natAbs = gcds ns := by
    unfold sgn
    split <;> omega
  have hs : (gcds ns : Int) * sgn l ≠ 0 ∧ ((gcds ns : Int) * sgn l).natAbs.log2 < 9000 := ⟨by omega, by rw [hs2]; exact Nat.lt_of_le_of_lt (log2_le hgb) (by decide)⟩
  refine wp_def df rfl ?_
  unfold pfB
  repeat (first | ((with_reducible refine wp_vr ?_); refine ⟨_, rfl, ?_⟩) | with_reducible first | refine wp_cst ?_ | refine wp_bin ?_ | refine wp_ix ?_ | refine wp_add ?_ | refine wp_sub ?_ | refine wp_int ?_ | refine wp_bif ?_ | refine wp_irs ?_ | refine wp_irs0 ?_ | refine wx_sts ?_ | refine wx_sts0 ?_ | refine wx_set ?_ | refine wx_ret ?_ | refine wx_setIx ?_ | refine wx_if ?_ | refine wp_and ?_ | refine wp_or ?_ | refine wp_not ?_ | refine wp_neg ?_ | refine wp_cmp ?_ | refine wp_call ?_ | refine wp_callK ?_ | refine wp_ite ?_ | refine wp_tup ?_ | refine wp_lst ?_ | refine wp_inst ?_ | refine wx_setT ?_ | refine wx_expr ?_ | refine wp_sl ?_ | refine wp_onon ?_ | refine wp_osome ?_ | refine wp_fz ?_ | refine wp_nil ?_ | refine wx_raise ?_ | refine wx_pass ?_ | refine ex_int ?_ | refine wp_slt ?_)
  refine wp_imp (shared_ok p.shared ints_lst) ?_
  rintro r S1 ⟨rfl, rfl⟩
  repeat (first | ((with_reducible refine wp_vr ?_); refine ⟨_, rfl, ?_⟩) | with_reducible first | refine wp_cst ?_ | refine wp_bin ?_ | refine wp_ix ?_ | refine wp_add ?_ | refine wp_sub ?_ | refine wp_int ?_ | refine wp_bif ?_ | refine wp_irs ?_ | refine wp_irs0 ?_ | refine wx_sts ?_ | refine wx_sts0 ?_ | refine wx_set ?_ | refine wx_ret ?_ | refine wx_setIx ?_ | refine wx_if ?_ | refine wp_and ?_ | refine wp_or ?_ | refine wp_not ?_ | refine wp_neg ?_ | refine wp_cmp ?_ | refine wp_call ?_ | refine wp_callK ?_ | refine wp_ite ?_ | refine wp_tup ?_ | refine wp_lst ?_ | refine wp_inst ?_ | refine wx_setT ?_ | refine wx_expr ?_ | refine wp_sl ?_ | refine wp_onon ?_ | refine wp_osome ?_ | refine wp_fz ?_ | refine wp_nil ?_ | refine wx_raise ?_ | refine wx_pass ?_ | refine ex_int ?_ | refine wp_slt ?_)
  refine wp_ixs rfl (last_at e) ?_
  repeat (first | ((with_reducible refine wp_vr ?_); refine ⟨_, rfl, ?_⟩) | with_reducible first | refine wp_cst ?_ | refine wp_bin ?_ | refine wp_ix ?_ | refine wp_add ?_ | refine wp_sub ?_ | refine wp_int ?_ | refine wp_bif ?_ | refine wp_irs ?_ | refine wp_irs0 ?_ | refine wx_sts ?_ | refine wx_sts0 ?_ | refine wx_set ?_ | refine wx_ret ?_ | refine wx_setIx ?_ | refine wx_if ?_ | refine wp_and ?_ | refine wp_or ?_ | refine wp_not ?_ | refine wp_neg ?_ | refine wp_cmp ?_ | refine wp_call ?_ | refine wp_callK ?_ | refine wp_ite ?_ | refine wp_tup ?_ | refine wp_lst ?_ | refine wp_inst ?_ | refine wx_setT ?_ | refine wx_expr ?_ | refine wp_sl ?_ | refine wp_onon ?_ | refine wp_osome ?_ | refine wp_fz ?_ | refine wp_nil ?_ | refine wx_raise ?_ | refine wx_pass ?_ | refine ex_int ?_ | refine wp_slt ?_)
  have tl := tail_ok (G := G) (Γ := fns G fs es (k + 1)) (E := fun _ _ => False) hs hl (ints_lst (S := S1)) rfl
  refine ⟨_, rfl, _, rfl, fun hk => ?_, fun hk => ?_⟩
  · have hl0 : sgn l = -1 := if_neg (by have : l < 0 := of_decide_eq_true hk; omega)
    rw [hl0] at tl ⊢
    refine wx_sts (wx_set (wp_bin (wp_cst (wp_var rfl (wp_sub (wx_sts0 ?_))))))
    rw [show ((0 : Int) - (gcds ns : Nat)) = (gcds ns : Int) * -1 by omega]
    exact tl
  · have hl0 : sgn l = 1 := if_pos (by have : ¬ l < 0 := of_decide_eq_false hk; omega)
    rw [hl0, Int.mul_one] at tl ⊢
    exact wx_sts0 tl
def sfB : STs := sts [.set 1 false (.call "shared_factor" (irs [.var 0])), .ret false (.bif .tuple (irs [.comp [2] (.name 2) (.it (.var 0)) (irs []) (.bin .fdiv (.var 2) (.var 1))]))]
theorem gcds_dvd {ns : List Int} : ∀ l ∈ ns, gcds ns ∣ l.natAbs := by
  have key : ∀ (ns : List Int) (g : Nat), (∀ l ∈ ns, ns.foldl (fun g n => Nat.gcd g n.natAbs) g ∣ l.natAbs) ∧ ns.foldl (fun g n => Nat.gcd g n.natAbs) g ∣ g := by
    intro ns
    induction ns with
    | nil => intro g; exact ⟨fun _ h => (by cases h), Nat.dvd_refl _⟩
    | cons n ns ih =>
      intro g
      obtain ⟨i1, i2⟩ := ih (Nat.gcd g n.natAbs)
      refine ⟨fun l hl => ?_, Nat.dvd_trans i2 (Nat.gcd_dvd_left _ _)⟩
      rcases List.mem_cons.mp hl with rfl | hl
      · exact Nat.dvd_trans i2 (Nat.gcd_dvd_right _ _)
      · exact i1 l hl
  exact (key ns 0).1
theorem side_from_ok (p : Points fs) (df : Def fs "side_from" 1 3 sfB) {k : Nat} {S : Store} {x : D} {ns : List Int} {l : Int} (hx : Ints S x ns) (hb : l.natAbs < 2 ^ 8000) (hl : ns.length ≤ LIM) (hm : l ∈ ns) (h0 : l ≠ 0) :
    Wp (fns G fs es (k + 2) "side_from" [x] S) (fun d S' => d = .tup (divs (gcds ns) ns) ∧ S' = S) E := by
  have hg := gcds_ne hm h0
  have hgb : gcds ns < 2 ^ 8000 := Nat.lt_of_le_of_lt (Nat.le_of_dvd (by omega) (gcds_dvd l hm)) hb
  refine wp_def df rfl ?_
  unfold sfB
  repeat (first | ((with_reducible refine wp_vr ?_); refine ⟨_, rfl, ?_⟩) | with_reducible first | refine wp_cst ?_ | refine wp_bin ?_ | refine wp_ix ?_ | refine wp_add ?_ | refine wp_sub ?_ | refine wp_int ?_ | refine wp_bif ?_ | refine wp_irs ?_ | refine wp_irs0 ?_ | refine wx_sts ?_ | refine wx_sts0 ?_ | refine wx_set ?_ | refine wx_ret ?_ | refine wx_setIx ?_ | refine wx_if ?_ | refine wp_and ?_ | refine wp_or ?_ | refine wp_not ?_ | refine wp_neg ?_ | refine wp_cmp ?_ | refine wp_call ?_ | refine wp_callK ?_ | refine wp_ite ?_ | refine wp_tup ?_ | refine wp_lst ?_ | refine wp_inst ?_ | refine wx_setT ?_ | refine wx_expr ?_ | refine wp_sl ?_ | refine wp_onon ?_ | refine wp_osome ?_ | refine wp_fz ?_ | refine wp_nil ?_ | refine wx_raise ?_ | refine wx_pass ?_ | refine ex_int ?_ | refine wp_slt ?_)
  refine wp_imp (shared_ok p.shared hx) ?_
  rintro r S1 ⟨rfl, rfl⟩
  exact tail_ok ⟨by omega, Nat.lt_of_le_of_lt (log2_le (k := 8000) (by simpa using hgb)) (by decide)⟩ hl hx rfl
end
end Pv

/-! Plain data of small numbers. -/
namespace Pv
open PySem
def small (i : Int) : Prop := i.natAbs < 2 ^ 250
def D.f0 : D → Prop
  | .non => True
  | .bl _ => True
  | .int i => small i
  | .str x => PyData.strOk x = true
  | _ => False
def D.fs (P : D → Prop) : D → Prop
  | .tup xs => xs.length ≤ 40 ∧ ∀ x ∈ xs, P x
  | .lst xs => xs.length ≤ 40 ∧ ∀ x ∈ xs, P x
  | d => d.f0
def D.f1 : D → Prop := D.fs D.f0
def D.f2 : D → Prop := D.fs D.f1
def D.f3 : D → Prop := D.fs D.f2
theorem D.f0.pl {d : D} (h : d.f0) (n : Nat) : d.pl n = true := by
  cases d <;> first | (cases n <;> rfl) | exact h.elim
theorem pl_fs {P : D → Prop} {n : Nat} (hp : ∀ x, P x → x.pl n = true) {d : D} (h : d.fs P) : d.pl (n + 1) = true := by
  cases d with
  | tup xs =>
    obtain ⟨h1, h2⟩ : xs.length ≤ 40 ∧ ∀ x ∈ xs, P x := h
    exact Bool.and_eq_true_iff.mpr ⟨decide_eq_true (Nat.le_trans h1 (by decide)), List.all_eq_true.mpr fun x hx => hp x (h2 x hx)⟩
  | lst xs =>
    obtain ⟨h1, h2⟩ : xs.length ≤ 40 ∧ ∀ x ∈ xs, P x := h
    exact Bool.and_eq_true_iff.mpr ⟨decide_eq_true (Nat.le_trans h1 (by decide)), List.all_eq_true.mpr fun x hx => hp x (h2 x hx)⟩
  | dct ks vs => exact (show False from h).elim
  | ref n => exact (show False from h).elim
  | _ => rfl
theorem D.f1.pl {d : D} (h : d.f1) : d.pl 1 = true := pl_fs (fun x hx => hx.pl 0) h
theorem D.f2.pl {d : D} (h : d.f2) : d.pl 2 = true := pl_fs (fun x hx => D.f1.pl hx) h
theorem D.f3.pl {d : D} (h : d.f3) : d.pl 3 = true := pl_fs (fun x hx => D.f2.pl hx) h
/-- it has data that may be compared -/
def D.laid (d : D) (n : Nat) : Prop := ∃ p, d.toP = some p ∧ p.canLay0 = true ∧ p.depth ≤ n
theorem D.f0.laid {d : D} (h : d.f0) : d.laid 0 := by
  cases d with
  | non => exact ⟨.none, by rw [D.toP], by rw [PyData.canLay0], by simp [PyData.depth]⟩
  | bl b => exact ⟨.bool b, by rw [D.toP], by rw [PyData.canLay0], by simp [PyData.depth]⟩
  | int i => exact ⟨.int i, by rw [D.toP], by rw [PyData.canLay0], by simp [PyData.depth]⟩
  | str x => exact ⟨.str x, by rw [D.toP], by rw [PyData.canLay0]; exact h, by simp [PyData.depth]⟩
  | _ => exact (show False from h).elim
theorem laid_all {n : Nat} : ∀ {xs : List D}, (∀ x ∈ xs, x.laid n) → ∃ ps, D.toPs xs = some ps ∧ PyData.canLayAll0 ps = true ∧ PyData.depthAll ps ≤ n
  | [], _ => ⟨[], by rw [D.toPs], by rw [PyData.canLayAll0], by simp [PyData.depthAll]⟩
  | x :: xs, h => by
    obtain ⟨p, h1, h2, h3⟩ := h x (.head _)
    obtain ⟨ps, h4, h5, h6⟩ := laid_all fun y hy => h y (.tail _ hy)
    refine ⟨p :: ps, by rw [D.toPs, h1, h4], by rw [PyData.canLayAll0, h2, h5]; rfl, ?_⟩
    rw [PyData.depthAll]
    omega
theorem laid_fs {P : D → Prop} {n : Nat} (hp : ∀ x, P x → x.laid n) {d : D} (h : d.fs P) : d.laid (n + 1) := by
  cases d with
  | tup xs =>
    obtain ⟨h1, h2⟩ : xs.length ≤ 40 ∧ ∀ x ∈ xs, P x := h
    obtain ⟨ps, h4, h5, h6⟩ := laid_all fun x hx => hp x (h2 x hx)
    exact ⟨.tuple ps, by rw [D.toP, h4]; rfl, by rw [PyData.canLay0]; exact h5, by rw [PyData.depth]; omega⟩
  | lst xs =>
    obtain ⟨h1, h2⟩ : xs.length ≤ 40 ∧ ∀ x ∈ xs, P x := h
    obtain ⟨ps, h4, h5, h6⟩ := laid_all fun x hx => hp x (h2 x hx)
    exact ⟨.list ps, by rw [D.toP, h4]; rfl, by rw [PyData.canLay0]; exact h5, by rw [PyData.depth]; omega⟩
  | dct ks vs => exact (show False from h).elim
  | ref n => exact (show False from h).elim
  | non => obtain ⟨p, a, b, c⟩ := D.f0.laid (d := .non) h; exact ⟨p, a, b, by omega⟩
  | bl x => obtain ⟨p, a, b, c⟩ := D.f0.laid (d := .bl x) h; exact ⟨p, a, b, by omega⟩
  | int x => obtain ⟨p, a, b, c⟩ := D.f0.laid (d := .int x) h; exact ⟨p, a, b, by omega⟩
  | str x => obtain ⟨p, a, b, c⟩ := D.f0.laid (d := .str x) h; exact ⟨p, a, b, by omega⟩
theorem D.f1.laid {d : D} (h : d.f1) : d.laid 1 := laid_fs (fun x hx => D.f0.laid hx) h
theorem D.f2.laid {d : D} (h : d.f2) : d.laid 2 := laid_fs (fun x hx => D.f1.laid hx) h
theorem known_fs {P : D → Prop} {S : Store} {d : D} (h : d.fs P) : Known S d := by
  cases d with
  | non => exact .inl rfl
  | dct ks vs => exact (show False from h).elim
  | ref n => exact (show False from h).elim
  | _ => exact .inr ⟨_, rfl⟩
theorem D.f0.to1 {d : D} (h : d.f0) : d.f1 := by
  cases d <;> first | exact h | exact (show False from h).elim
theorem f0_known {S : Store} {d : D} (h : d.f0) : Known S d := known_fs (P := D.f0) h.to1
/-- what the judges take -/
structure Fit (S : Store) (d : D) : Prop where
  known : Known S d
  items : ∀ xs, d = .tup xs → xs.length ≤ LIM ∧ ∀ y ∈ xs, Known S y ∧ ∀ zs, y = .tup zs → zs.length ≤ LIM ∧ ∀ z ∈ zs, Known S z
  flt : ∀ xs, d = .tup xs → ∀ p : D → Bool, ∃ ps, D.toPs (xs.filter p) = some ps ∧ SeqAt.shaped (.list ps) = true
  nums : ∀ xs, d = .tup xs → ∀ n ∈ intsL xs, n.natAbs < 2 ^ 4000
theorem Fit.hi {S : Store} {d : D} (f : Fit S d) : ∀ xs, d = .tup xs → xs.length ≤ LIM ∧ ∀ y ∈ xs, Known S y := fun xs e => ⟨(f.items xs e).1, fun y hy => ((f.items xs e).2 y hy).1⟩
theorem Fit.hz {S : Store} {d : D} (f : Fit S d) : ∀ xs, d = .tup xs → ∀ n ∈ intsL xs, n.natAbs < 2 ^ 40000 := fun xs e n hn => Nat.lt_of_lt_of_le (f.nums xs e n hn) (Nat.pow_le_pow_right (by decide) (by decide))
theorem Fit.ref {S : Store} {n : Nat} (h : Known S (.ref n)) : Fit S (.ref n) := ⟨h, fun _ e => (by cases e), fun _ e => (by cases e), fun _ e => (by cases e)⟩
theorem ints_small {P : D → Prop} : ∀ {xs : List D}, (∀ x ∈ xs, D.fs P x) → ∀ n ∈ intsL xs, small n
  | [], _, n, hn => (by cases hn)
  | x :: xs, h, n, hn => by
    cases x with
    | int i =>
      rcases List.mem_cons.mp (show n ∈ i :: intsL xs from hn) with rfl | hn
      · exact h _ (.head _)
      · exact ints_small (fun y hy => h y (.tail _ hy)) n hn
    | _ => exact absurd hn (by show n ∉ []; exact List.not_mem_nil)
theorem D.f2.fit {S : Store} {d : D} (h : d.f2) : Fit S d := by
  have key : ∀ xs, d = .tup xs → xs.length ≤ 40 ∧ ∀ x ∈ xs, D.f1 x := fun xs e => by subst e; exact h
  refine ⟨known_fs h, fun xs e => ⟨Nat.le_trans (key xs e).1 (by decide), fun y hy => ⟨known_fs ((key xs e).2 y hy), fun zs e2 => ?_⟩⟩, fun xs e p => ?_, fun xs e n hn => ?_⟩
  · have : zs.length ≤ 40 ∧ ∀ z ∈ zs, D.f0 z := by
      have := (key xs e).2 y hy
      rw [e2] at this
      exact this
    exact ⟨Nat.le_trans this.1 (by decide), fun z hz => f0_known (this.2 z hz)⟩
  · obtain ⟨ps, h1, h2, h3⟩ := laid_all (n := 1) (xs := xs.filter p) fun x hx => ((key xs e).2 x ((List.mem_filter.mp hx).1)).laid
    refine ⟨ps, h1, Bool.and_eq_true_iff.mpr ⟨by rw [PyData.canLay0]; exact h2, decide_eq_true ?_⟩⟩
    rw [PyData.depth]
    omega
  · exact Nat.lt_of_lt_of_le (ints_small (P := D.f0) (fun x hx => (key xs e).2 x hx) n hn) (Nat.pow_le_pow_right (by decide) (by decide))
theorem fit_dct {S : Store} {ks : List L2.Key} {vs : List D} : Fit S (.dct ks vs) := ⟨.inr ⟨_, rfl⟩, fun _ e => (by cases e), fun _ e => (by cases e), fun _ e => (by cases e)⟩
/-- values that are tried -/
def Val (d : D) : Prop := d.f2 ∨ d = .dct [] []
theorem Val.fit {S : Store} {d : D} (h : Val d) : Fit S d := by
  rcases h with h | rfl
  · exact h.fit
  · exact fit_dct
theorem fs_und {P : D → Prop} (hp : ∀ x, P x → ∀ b, x.und b = true) {d : D} (h : d.fs P) (b : Nat) : d.und b = true := by
  have all : ∀ xs : List D, (∀ x ∈ xs, P x) → D.undAll b xs = true := by
    intro xs
    induction xs with
    | nil => intro _; rw [D.undAll]
    | cons x xs ih =>
      intro h
      rw [D.undAll, hp x (h x (.head _)) b, ih fun y hy => h y (.tail _ hy)]
      rfl
  cases d with
  | tup xs => rw [D.und]; exact all xs (show xs.length ≤ 40 ∧ ∀ x ∈ xs, P x from h).2
  | lst xs => rw [D.und]; exact all xs (show xs.length ≤ 40 ∧ ∀ x ∈ xs, P x from h).2
  | dct ks vs => exact (show False from h).elim
  | ref n => exact (show False from h).elim
  | _ => rw [D.und]
theorem D.f0.und {d : D} (h : d.f0) (b : Nat) : d.und b = true := by
  cases d <;> first | exact (show False from h).elim | rw [D.und]
theorem D.f1.und {d : D} (h : d.f1) (b : Nat) : d.und b = true := fs_und (fun x hx => D.f0.und hx) h b
theorem D.f2.und {d : D} (h : d.f2) (b : Nat) : d.und b = true := fs_und (fun x hx => D.f1.und hx) h b
theorem D.f3.und {d : D} (h : d.f3) (b : Nat) : d.und b = true := fs_und (fun x hx => D.f2.und hx) h b
end Pv

/-! Points and their coordinates: there and back. -/
namespace Pv
open PySem
theorem dvd_gcds {ns : List Int} {q : Nat} (h : ∀ n ∈ ns, q ∣ n.natAbs) : q ∣ gcds ns := by
  have key : ∀ (ns : List Int) (g : Nat), q ∣ g → (∀ n ∈ ns, q ∣ n.natAbs) → q ∣ ns.foldl (fun g n => Nat.gcd g n.natAbs) g := by
    intro ns
    induction ns with
    | nil => intro g hg _; exact hg
    | cons n ns ih => intro g hg h; exact ih _ (Nat.dvd_gcd hg (h n (.head _))) fun m hm => h m (.tail _ hm)
  exact key ns 0 (Nat.dvd_zero q) h
/-- an exact quotient -/
theorem fdiv_mul {g : Nat} {n : Int} (h0 : g ≠ 0) (h : g ∣ n.natAbs) : n.fdiv g * g = n := by
  have hd : (g : Int) ∣ n := Int.ofNat_dvd_left.mpr h
  obtain ⟨c, rfl⟩ := hd
  rw [Int.mul_fdiv_cancel_left _ (by omega), Int.mul_comm]
theorem fdiv_of_mul {g c n : Int} (h0 : g ≠ 0) (h : n = c * g) : n.fdiv g = c := by
  rw [h, Int.mul_fdiv_cancel _ h0]
theorem gcds_div {ns : List Int} {l : Int} (hl : l ∈ ns) (h0 : l ≠ 0) : gcds (ns.map fun n => n.fdiv (gcds ns : Nat)) = 1 := by
  have hg := gcds_ne hl h0
  have h1 : gcds (ns.map fun n => n.fdiv (gcds ns : Nat)) * gcds ns ∣ gcds ns := by
    refine dvd_gcds fun n hn => ?_
    have h2 := gcds_dvd (ns := ns.map fun n => n.fdiv (gcds ns : Nat)) (n.fdiv (gcds ns : Nat)) (List.mem_map.mpr ⟨n, hn, rfl⟩)
    have h3 : n.natAbs = (n.fdiv (gcds ns : Nat)).natAbs * gcds ns := by
      have := congrArg Int.natAbs (fdiv_mul hg (gcds_dvd n hn))
      rw [Int.natAbs_mul] at this
      exact this.symm
    rw [h3]
    exact Nat.mul_dvd_mul_right h2 _
  generalize gcds (ns.map fun n => n.fdiv (gcds ns : Nat)) = q at h1
  obtain ⟨c, hc⟩ := h1
  have h5 : gcds ns * 1 = gcds ns * (q * c) := by
    rw [Nat.mul_one, ← Nat.mul_assoc, Nat.mul_comm (gcds ns) q]
    exact hc
  have h6 := Nat.eq_of_mul_eq_mul_left (by omega) h5
  exact Nat.eq_one_of_mul_eq_one_right h6.symm
theorem gcds_mul {ns : List Int} {q : Nat} (h0 : q ≠ 0) : gcds (ns.map fun n => (q : Int) * n) = q * gcds ns := by
  refine Nat.dvd_antisymm ?_ (dvd_gcds fun n hn => ?_)
  · have h1 : q ∣ gcds (ns.map fun n => (q : Int) * n) := dvd_gcds fun n hn => by
      obtain ⟨m, hm, rfl⟩ := List.mem_map.mp hn
      rw [Int.natAbs_mul]
      exact Nat.dvd_mul_right _ _
    obtain ⟨c, hc⟩ := h1
    rw [hc]
    refine Nat.mul_dvd_mul_left q (dvd_gcds fun m hm => ?_)
    have h2 := gcds_dvd (ns := ns.map fun n => (q : Int) * n) ((q : Int) * m) (List.mem_map.mpr ⟨m, hm, rfl⟩)
    rw [hc, Int.natAbs_mul, Int.natAbs_natCast] at h2
    exact Nat.dvd_of_mul_dvd_mul_left (by omega) h2
  · obtain ⟨m, hm, rfl⟩ := List.mem_map.mp hn
    rw [Int.natAbs_mul, Int.natAbs_natCast]
    exact Nat.mul_dvd_mul_left q (gcds_dvd m hm)
theorem fdiv_one (n : Int) : n.fdiv 1 = n := fdiv_of_mul (by decide) (by omega)
theorem divs_one {ns : List Int} : divs 1 ns = ns.map D.int := List.map_congr_left fun n _ => by rw [fdiv_one]
theorem divs_eq {s : Int} {ns : List Int} : divs s ns = (ns.map fun n => n.fdiv s).map D.int := by
  unfold divs
  rw [List.map_map]
  rfl
/-- multiples of a side lead back -/
theorem divs_back {ns : List Int} {q : Nat} (h0 : q ≠ 0) (h : gcds ns = 1) : divs (gcds (ns.map fun n => (q : Int) * n)) (ns.map fun n => (q : Int) * n) = ns.map D.int := by
  rw [gcds_mul h0, h, Nat.mul_one]
  unfold divs
  rw [List.map_map]
  exact List.map_congr_left fun n _ => by
    show D.int ((q * n).fdiv q) = _
    rw [fdiv_of_mul (by omega) (Int.mul_comm _ _)]
/-- a fraction in its lowest terms -/
structure Frac (t c : Int) : Prop where
  pos : 0 < c
  cop : Nat.gcd t.natAbs c.natAbs = 1
theorem frac_low {t c : Int} (h : 0 < c) : ∃ t' c' : Int, ∃ g : Nat, fracD t c = .tup [.int t', .int c'] ∧ Frac t' c' ∧ g ≠ 0 ∧ t = t' * g ∧ c = c' * g ∧ g = Nat.gcd t.natAbs c.natAbs := by
  have hg := gcds_ne (ns := [t, c]) (.tail _ (.head _)) (show c ≠ 0 by omega)
  have hs : sgn c = 1 := if_pos h
  have h1 := fdiv_mul hg (gcds_dvd (ns := [t, c]) t (.head _))
  have h2 := fdiv_mul hg (gcds_dvd (ns := [t, c]) c (.tail _ (.head _)))
  refine ⟨t.fdiv (gcds [t, c] : Nat), c.fdiv (gcds [t, c] : Nat), gcds [t, c], ?_, ⟨?_, ?_⟩, hg, h1.symm, h2.symm, gcds_two⟩
  · unfold fracD
    rw [hs, Int.mul_one]
  · by_cases hc : 0 < c.fdiv (gcds [t, c] : Nat)
    · exact hc
    · exfalso
      have : c.fdiv (gcds [t, c] : Nat) * (gcds [t, c] : Nat) ≤ 0 := Int.mul_nonpos_of_nonpos_of_nonneg (by omega) (by omega)
      omega
  · have := gcds_div (ns := [t, c]) (.tail _ (.head _)) (show c ≠ 0 by omega)
    show Nat.gcd _ _ = 1
    rw [← gcds_two]
    exact this
theorem frac_scale {t c : Int} {q : Int} (f : Frac t c) (hq : 0 < q) : fracD (t * q) (c * q) = .tup [.int t, .int c] := by
  have hc : 0 < c * q := Int.mul_pos f.pos hq
  have hs : sgn (c * q) = 1 := if_pos hc
  have hg : gcds [t * q, c * q] = q.natAbs := by
    rw [gcds_two, Int.natAbs_mul, Int.natAbs_mul, Nat.gcd_mul_right, f.cop, Nat.one_mul]
  have hq2 : (q.natAbs : Int) = q := by omega
  unfold fracD
  rw [hs, Int.mul_one, hg, hq2, fdiv_of_mul (by omega) rfl, fdiv_of_mul (by omega) rfl]
/-- the least common multiple as the program finds it -/
def lcmStep (w b : Int) : Int := (w * b).fdiv (Nat.gcd w.natAbs b.natAbs : Nat)
theorem lcmStep_nat {w b : Int} (hw : 0 < w) (hb : 0 < b) : lcmStep w b = (Nat.lcm w.natAbs b.natAbs : Nat) := by
  have hg : Nat.gcd w.natAbs b.natAbs ≠ 0 := by
    have := Nat.gcd_pos_of_pos_left b.natAbs (show 0 < w.natAbs by omega)
    omega
  unfold lcmStep
  refine fdiv_of_mul (by omega) ?_
  have h1 := Nat.gcd_mul_lcm w.natAbs b.natAbs
  have h2 : (w.natAbs : Int) = w := by omega
  have h3 : (b.natAbs : Int) = b := by omega
  have h4 : ((Nat.gcd w.natAbs b.natAbs * Nat.lcm w.natAbs b.natAbs : Nat) : Int) = ((w.natAbs * b.natAbs : Nat) : Int) := by rw [h1]
  rw [Int.natCast_mul, Int.natCast_mul, h2, h3] at h4
  rw [← h4, Int.mul_comm]
def lcms (bs : List Int) (w : Int) : Int := bs.foldl lcmStep w
theorem lcms_pos {bs : List Int} : ∀ {w : Int}, 0 < w → (∀ b ∈ bs, 0 < b) → 0 < lcms bs w := by
  induction bs with
  | nil => intro w hw _; exact hw
  | cons b bs ih =>
    intro w hw h
    refine ih ?_ fun c hc => h c (.tail _ hc)
    have hb := h b (.head _)
    rw [lcmStep_nat hw hb]
    have := Nat.lcm_pos (show 0 < w.natAbs by omega) (show 0 < b.natAbs by omega)
    omega
theorem lcms_dvd {bs : List Int} : ∀ {w : Int}, 0 < w → (∀ b ∈ bs, 0 < b) → w.natAbs ∣ (lcms bs w).natAbs ∧ ∀ b ∈ bs, b.natAbs ∣ (lcms bs w).natAbs := by
  induction bs with
  | nil => intro w hw _; exact ⟨Nat.dvd_refl _, fun _ h => (by cases h)⟩
  | cons b bs ih =>
    intro w hw h
    have hb := h b (.head _)
    have e := lcmStep_nat hw hb
    have hp : 0 < lcmStep w b := by
      rw [e]
      have := Nat.lcm_pos (show 0 < w.natAbs by omega) (show 0 < b.natAbs by omega)
      omega
    obtain ⟨h1, h2⟩ := ih (w := lcmStep w b) hp fun c hc => h c (.tail _ hc)
    have h3 : (lcmStep w b).natAbs = Nat.lcm w.natAbs b.natAbs := by rw [e, Int.natAbs_natCast]
    refine ⟨Nat.dvd_trans (h3 ▸ Nat.dvd_lcm_left _ _) h1, fun c hc => ?_⟩
    rcases List.mem_cons.mp hc with rfl | hc
    · exact Nat.dvd_trans (h3 ▸ Nat.dvd_lcm_right _ _) h1
    · exact h2 c hc
theorem dvd_lcms {bs : List Int} {q : Nat} : ∀ {w : Int}, 0 < w → (∀ b ∈ bs, 0 < b) → w.natAbs ∣ q → (∀ b ∈ bs, b.natAbs ∣ q) → (lcms bs w).natAbs ∣ q := by
  induction bs with
  | nil => intro w hw _ h _; exact h
  | cons b bs ih =>
    intro w hw h hq hb
    have hb0 := h b (.head _)
    have e := lcmStep_nat hw hb0
    have hp : 0 < lcmStep w b := by
      rw [e]
      have := Nat.lcm_pos (show 0 < w.natAbs by omega) (show 0 < b.natAbs by omega)
      omega
    refine ih (w := lcmStep w b) hp (fun c hc => h c (.tail _ hc)) ?_ fun c hc => hb c (.tail _ hc)
    rw [e, Int.natAbs_natCast]
    exact Nat.lcm_dvd hq (hb b (.head _))
end Pv

/-! The program's points by coordinates, coordinates by points, sides by numbers. -/
namespace Pv
open PySem
section
variable {G : Sig} {fs : List Fn} {es : List Ec} {E : Exn → Store → Prop}
theorem canAll_ints : ∀ l : List Int, PyData.canLayAll0 (l.map PyData.int) = true
  | [] => by rw [List.map_nil, PyData.canLayAll0]
  | i :: l => by rw [List.map_cons, PyData.canLayAll0, PyData.canLay0, canAll_ints l]; rfl
/-- an integer in a tuple of integers -/
theorem in_ints {S : Store} {n : Int} {ks : List Int} : cmpOf S .notInC (.int n) (.tup (ks.map D.int)) = some (!(ks.any fun k => k == n)) := by
  show (inOf S (.int n) (.tup (ks.map D.int))).map (!·) = _
  have e : inOf S (.int n) (.tup (ks.map D.int)) = inSeq S (.int n) (ks.map D.int) := rfl
  rw [e]
  unfold inSeq
  have h1 : (flatOf S (.int n)).toP = some (.int n) := by
    show (D.int n).toP = _
    rw [D.toP]
  rw [h1, toPs_ints]
  dsimp only
  have h2 : SeqAt.shaped (.int n) = true := by
    refine Bool.and_eq_true_iff.mpr ⟨by rw [PyData.canLay0], decide_eq_true ?_⟩
    simp [PyData.depth]
  rw [h2, shaped_ints, Bool.and_true, if_pos rfl, List.any_map]
  congr 2
/-- the items, each done with, whatever the target -/
theorem wp_mapG {Γ : Fns} {b : Nat} {ρ : Env} {S : Store} {Q : D → Store → Prop} {own : List Nat} {tg : Tg} {xs : List D} {f : D → D} {a elt : IR} {d : D} {w : Wlk} (ha : IR.run G Γ b false a ρ S = .ok d S) (hw : wlkOf S d = some w) (h2 : w.at S = some xs) (h3 : w.len = xs.length) (hl : xs.length ≤ LIM)
    (hf : ∀ x ∈ xs, ∃ ρ1, assignTo tg x (wipeE ρ own) S = some ρ1 ∧ Wp (elt.run G Γ b false ρ1 S) (fun d S' => d = f x ∧ S' = S) fun _ _ => False) (h : Q (.lst (xs.map f)) S) :
    Wp (IR.run G Γ b false (.comp own tg (.it a) (irs []) elt) ρ S) Q E := by
  refine wp_compW (ws_it (wp_eq ha (wp_ok ⟨_, hw, xs, h3, hl, fun i acc S' => S' = S ∧ acc = (xs.take i).map f, ⟨rfl, rfl⟩, fun i acc S' ⟨e, _⟩ => by rw [e]; exact h2, ?_, ?_⟩)))
  · rintro i x acc S' hx ⟨rfl, rfl⟩
    obtain ⟨ρ1, e, hw⟩ := hf x (List.mem_of_getElem? hx)
    refine ⟨ρ1, e, wt_nil ⟨fun _ => ?_, fun z => Bool.noConfusion z⟩⟩
    refine wp_imp hw ?_
    rintro d S2 ⟨rfl, rfl⟩
    refine ⟨rfl, ?_⟩
    rw [List.take_succ, hx, List.map_append]
    rfl
  · rintro acc S' ⟨rfl, rfl⟩
    rw [List.take_length]
    exact wp_fz h
def pairD (p : Int × Int) : D := .tup [.int p.1, .int p.2]
/-- the numbers of the point with these coordinates -/
def numsOf (ps : List (Int × Int)) : List Int := ps.map (fun p => p.1 * (lcms (ps.map (·.2)) 1).fdiv p.2) ++ [lcms (ps.map (·.2)) 1]
theorem lcms_lt {e : Nat} : ∀ {bs : List Int} {w : Int} {k : Nat}, 0 < w → (∀ b ∈ bs, 0 < b ∧ b < 2 ^ e) → w < 2 ^ k → lcms bs w < 2 ^ (k + e * bs.length)
  | [], w, k, _, _, hk => by show w < _; simpa using hk
  | b :: bs, w, k, hw, h, hk => by
    have hb := h b (.head _)
    have el := lcmStep_nat hw hb.1
    have h1 : Nat.lcm w.natAbs b.natAbs ≤ w.natAbs * b.natAbs := Nat.le_of_dvd (Nat.mul_pos (by omega) (by omega)) (Nat.lcm_dvd_mul _ _)
    have h2 : w.natAbs < 2 ^ k := by
      have : ((w.natAbs : Nat) : Int) < ((2 ^ k : Nat) : Int) := by
        rw [Int.natCast_pow]
        have : (w.natAbs : Int) = w := by omega
        rw [this]
        exact hk
      exact Int.ofNat_lt.mp this
    have h3 : b.natAbs < 2 ^ e := by
      have : ((b.natAbs : Nat) : Int) < ((2 ^ e : Nat) : Int) := by
        rw [Int.natCast_pow]
        have h0 : (b.natAbs : Int) = b := by have := hb.1; omega
        rw [h0]
        exact hb.2
      exact Int.ofNat_lt.mp this
    have h4 : w.natAbs * b.natAbs < 2 ^ (k + e) := by
      rw [Nat.pow_add]
      exact Nat.mul_lt_mul_of_lt_of_le h2 (Nat.le_of_lt h3) (Nat.two_pow_pos _)
    have h5 : lcmStep w b < 2 ^ (k + e) := by
      rw [el]
      have : ((Nat.lcm w.natAbs b.natAbs : Nat) : Int) < ((2 ^ (k + e) : Nat) : Int) := Int.ofNat_lt.mpr (by omega)
      rw [Int.natCast_pow] at this
      exact this
    have h6 : 0 < lcmStep w b := by
      rw [el]
      have := Nat.lcm_pos (show 0 < w.natAbs by omega) (show 0 < b.natAbs by omega)
      omega
    have := lcms_lt (bs := bs) h6 (fun c hc => h c (.tail _ hc)) h5
    rw [List.length_cons, show k + e * (bs.length + 1) = k + e + e * bs.length by rw [Nat.mul_succ]; omega]
    exact this
theorem natAbs_lt {w : Int} {k : Nat} (h0 : 0 < w) (h : w < 2 ^ k) : w.natAbs < 2 ^ k := by
  have : ((w.natAbs : Nat) : Int) < ((2 ^ k : Nat) : Int) := by
    rw [Int.natCast_pow]
    have : (w.natAbs : Int) = w := by omega
    rw [this]
    exact h
  exact Int.ofNat_lt.mp this
def frpB : STs := sts [.set 1 false (.cst (.int 1)), .for (.tup (tgs [.name 2, .name 3])) (.it (.var 0)) (sts [.set 1 false (.bin .fdiv (.bin .mul (.var 1) (.var 3)) (.bif .gcd (irs [.var 1, .var 3])))]), .ret false (.call "point_from" (irs [.bin .add (.comp [2, 3] (.tup (tgs [.name 2, .name 3])) (.it (.var 0)) (irs []) (.bin .mul (.var 2) (.bin .fdiv (.var 1) (.var 3)))) (.lst (irs [.var 1]))]))]
/-- coordinates that may be asked for -/
structure Places (ps : List (Int × Int)) : Prop where
  len : ps.length = 2 ∨ ps.length = 3
  low : ∀ p ∈ ps, Frac p.1 p.2
  lim : ∀ p ∈ ps, p.1.natAbs < 2 ^ 200 ∧ p.2 < 2 ^ 200
theorem Places.bs {ps : List (Int × Int)} (h : Places ps) : ∀ b ∈ ps.map (·.2), 0 < b ∧ b < 2 ^ 200 := by
  intro b hb
  obtain ⟨p, hp, rfl⟩ := List.mem_map.mp hb
  exact ⟨(h.low p hp).pos, (h.lim p hp).2⟩
theorem Places.bsT {ps : List (Int × Int)} (h : Places ps) (i : Nat) : ∀ b ∈ (ps.take i).map (·.2), 0 < b ∧ b < 2 ^ 200 := by
  intro b hb
  obtain ⟨p, hp, rfl⟩ := List.mem_map.mp hb
  exact h.bs _ (List.mem_map.mpr ⟨p, List.mem_of_mem_take hp, rfl⟩)
theorem Places.upTo {ps : List (Int × Int)} (h : Places ps) (i : Nat) : 0 < lcms ((ps.take i).map (·.2)) 1 ∧ lcms ((ps.take i).map (·.2)) 1 < 2 ^ 700 := by
  refine ⟨lcms_pos (by decide) fun b hb => (h.bsT i b hb).1, ?_⟩
  have h1 := lcms_lt (bs := (ps.take i).map (·.2)) (w := 1) (k := 1) (by decide) (h.bsT i) (by decide)
  have h2 : ((ps.take i).map (·.2)).length ≤ 3 := by
    rw [List.length_map, List.length_take]
    have := h.len
    omega
  refine Int.lt_of_lt_of_le h1 ?_
  have : ((2 ^ (1 + 200 * ((ps.take i).map (·.2)).length) : Nat) : Int) ≤ ((2 ^ 700 : Nat) : Int) := Int.ofNat_le.mpr (Nat.pow_le_pow_right (by decide) (by omega))
  rw [Int.natCast_pow, Int.natCast_pow] at this
  exact this
theorem Places.all {ps : List (Int × Int)} (h : Places ps) : 0 < lcms (ps.map (·.2)) 1 ∧ lcms (ps.map (·.2)) 1 < 2 ^ 700 := by
  have := h.upTo ps.length
  rw [List.take_length] at this
  exact this
def topOf (w : Int) : D → D
  | .tup [.int t, .int c] => .int (t * w.fdiv c)
  | d => d
theorem last_snoc {α : Type} {xs : List α} {l : α} : (xs ++ [l]).getLast? = some l := by simp
theorem from_places_ok (p : Points fs) (df : Def fs "point_from" 1 3 pfB) (dp : Def fs "from_places" 1 4 frpB) {k : Nat} {S : Store} {ps : List (Int × Int)} (h : Places ps) :
    Wp (fns G fs es (k + 3) "from_places" [.tup (ps.map pairD)] S) (fun d S' => d = .tup (divs (gcds (numsOf ps)) (numsOf ps)) ∧ S' = S) E := by
  have hlm : ps.length ≤ LIM := by have := h.len; unfold LIM; omega
  refine wp_def dp rfl ?_
  unfold frpB
  repeat (first | ((with_reducible refine wp_vr ?_); refine ⟨_, rfl, ?_⟩) | with_reducible first | refine wp_cst ?_ | refine wp_bin ?_ | refine wp_ix ?_ | refine wp_add ?_ | refine wp_sub ?_ | refine wp_int ?_ | refine wp_bif ?_ | refine wp_irs ?_ | refine wp_irs0 ?_ | refine wx_sts ?_ | refine wx_sts0 ?_ | refine wx_set ?_ | refine wx_ret ?_ | refine wx_setIx ?_ | refine wx_if ?_ | refine wp_and ?_ | refine wp_or ?_ | refine wp_not ?_ | refine wp_neg ?_ | refine wp_cmp ?_ | refine wp_call ?_ | refine wp_callK ?_ | refine wp_ite ?_ | refine wp_tup ?_ | refine wp_lst ?_ | refine wp_inst ?_ | refine wx_setT ?_ | refine wx_expr ?_ | refine wp_sl ?_ | refine wp_onon ?_ | refine wp_osome ?_ | refine wp_fz ?_ | refine wp_nil ?_ | refine wx_raise ?_ | refine wx_pass ?_ | refine ex_int ?_ | refine wp_slt ?_)
  refine wx_for (ws_it ?_)
  repeat (first | ((with_reducible refine wp_vr ?_); refine ⟨_, rfl, ?_⟩) | with_reducible first | refine wp_cst ?_ | refine wp_bin ?_ | refine wp_ix ?_ | refine wp_add ?_ | refine wp_sub ?_ | refine wp_int ?_ | refine wp_bif ?_ | refine wp_irs ?_ | refine wp_irs0 ?_ | refine wx_sts ?_ | refine wx_sts0 ?_ | refine wx_set ?_ | refine wx_ret ?_ | refine wx_setIx ?_ | refine wx_if ?_ | refine wp_and ?_ | refine wp_or ?_ | refine wp_not ?_ | refine wp_neg ?_ | refine wp_cmp ?_ | refine wp_call ?_ | refine wp_callK ?_ | refine wp_ite ?_ | refine wp_tup ?_ | refine wp_lst ?_ | refine wp_inst ?_ | refine wx_setT ?_ | refine wx_expr ?_ | refine wp_sl ?_ | refine wp_onon ?_ | refine wp_osome ?_ | refine wp_fz ?_ | refine wp_nil ?_ | refine wx_raise ?_ | refine wx_pass ?_ | refine ex_int ?_ | refine wp_slt ?_)
  refine ⟨.fix (ps.map pairD), rfl, ps.map pairD, rfl, fun i ρ S' => S' = S ∧ ∃ u v : Option D, ρ = [some (.tup (ps.map pairD)), some (.int (lcms ((ps.take i).map (·.2)) 1)), u, v], ⟨rfl, none, none, rfl⟩, ?_, ?_⟩
  · rintro i y ρ S' hy ⟨rfl, u, v, rfl⟩
    rw [List.getElem?_map] at hy
    cases hn : ps[i]? with
    | none => rw [hn] at hy; cases hy
    | some q =>
      rw [hn] at hy
      cases hy
      obtain ⟨w1, w2⟩ := h.upTo i
      have hq : q ∈ ps := List.mem_of_getElem? hn
      have q1 := (h.low q hq).pos
      have q2 := (h.lim q hq).2
      have htk : lcms ((ps.take (i + 1)).map (·.2)) 1 = lcmStep (lcms ((ps.take i).map (·.2)) 1) q.2 := by
        rw [List.take_succ, hn, List.map_append]
        unfold lcms
        rw [List.foldl_append]
        rfl
      generalize lcms ((ps.take i).map (·.2)) 1 = w at w1 w2 htk ⊢
      refine ⟨[some (.tup (ps.map pairD)), some (.int w), some (.int q.1), some (.int q.2)], rfl, ?_⟩
      repeat (first | ((with_reducible refine wp_vr ?_); refine ⟨_, rfl, ?_⟩) | with_reducible first | refine wp_cst ?_ | refine wp_bin ?_ | refine wp_ix ?_ | refine wp_add ?_ | refine wp_sub ?_ | refine wp_int ?_ | refine wp_bif ?_ | refine wp_irs ?_ | refine wp_irs0 ?_ | refine wx_sts ?_ | refine wx_sts0 ?_ | refine wx_set ?_ | refine wx_ret ?_ | refine wx_setIx ?_ | refine wx_if ?_ | refine wp_and ?_ | refine wp_or ?_ | refine wp_not ?_ | refine wp_neg ?_ | refine wp_cmp ?_ | refine wp_call ?_ | refine wp_callK ?_ | refine wp_ite ?_ | refine wp_tup ?_ | refine wp_lst ?_ | refine wp_inst ?_ | refine wx_setT ?_ | refine wx_expr ?_ | refine wp_sl ?_ | refine wp_onon ?_ | refine wp_osome ?_ | refine wp_fz ?_ | refine wp_nil ?_ | refine wx_raise ?_ | refine wx_pass ?_ | refine ex_int ?_ | refine wp_slt ?_)
      refine wp_mul (bits_of (k := 700) (l := 200) (natAbs_lt w1 w2) (natAbs_lt q1 q2) (by decide)) ?_
      repeat (first | ((with_reducible refine wp_vr ?_); refine ⟨_, rfl, ?_⟩) | with_reducible first | refine wp_cst ?_ | refine wp_bin ?_ | refine wp_ix ?_ | refine wp_add ?_ | refine wp_sub ?_ | refine wp_int ?_ | refine wp_bif ?_ | refine wp_irs ?_ | refine wp_irs0 ?_ | refine wx_sts ?_ | refine wx_sts0 ?_ | refine wx_set ?_ | refine wx_ret ?_ | refine wx_setIx ?_ | refine wx_if ?_ | refine wp_and ?_ | refine wp_or ?_ | refine wp_not ?_ | refine wp_neg ?_ | refine wp_cmp ?_ | refine wp_call ?_ | refine wp_callK ?_ | refine wp_ite ?_ | refine wp_tup ?_ | refine wp_lst ?_ | refine wp_inst ?_ | refine wx_setT ?_ | refine wx_expr ?_ | refine wp_sl ?_ | refine wp_onon ?_ | refine wp_osome ?_ | refine wp_fz ?_ | refine wp_nil ?_ | refine wx_raise ?_ | refine wx_pass ?_ | refine ex_int ?_ | refine wp_slt ?_)
      refine wp_some rfl ?_
      have hg : Nat.gcd w.natAbs q.2.natAbs ≠ 0 := by
        have := Nat.gcd_pos_of_pos_left q.2.natAbs (show 0 < w.natAbs by omega)
        omega
      have hg2 : Nat.gcd w.natAbs q.2.natAbs < 2 ^ 200 := Nat.lt_of_le_of_lt (Nat.le_of_dvd (by omega) (Nat.gcd_dvd_right _ _)) (natAbs_lt q1 q2)
      refine wp_fdiv ⟨by omega, Nat.lt_of_le_of_lt (log2_le (k := 200) (by simpa using hg2)) (by decide)⟩ ?_
      repeat (first | ((with_reducible refine wp_vr ?_); refine ⟨_, rfl, ?_⟩) | with_reducible first | refine wp_cst ?_ | refine wp_bin ?_ | refine wp_ix ?_ | refine wp_add ?_ | refine wp_sub ?_ | refine wp_int ?_ | refine wp_bif ?_ | refine wp_irs ?_ | refine wp_irs0 ?_ | refine wx_sts ?_ | refine wx_sts0 ?_ | refine wx_set ?_ | refine wx_ret ?_ | refine wx_setIx ?_ | refine wx_if ?_ | refine wp_and ?_ | refine wp_or ?_ | refine wp_not ?_ | refine wp_neg ?_ | refine wp_cmp ?_ | refine wp_call ?_ | refine wp_callK ?_ | refine wp_ite ?_ | refine wp_tup ?_ | refine wp_lst ?_ | refine wp_inst ?_ | refine wx_setT ?_ | refine wx_expr ?_ | refine wp_sl ?_ | refine wp_onon ?_ | refine wp_osome ?_ | refine wp_fz ?_ | refine wp_nil ?_ | refine wx_raise ?_ | refine wx_pass ?_ | refine ex_int ?_ | refine wp_slt ?_)
      exact ⟨rfl, some (.int q.1), some (.int q.2), by rw [htk]; rfl⟩
  · rintro ρ S' ⟨rfl, u, v, rfl⟩
    rw [List.length_map, List.take_length]
    obtain ⟨w1, w2⟩ := h.all
    have hdv := (lcms_dvd (bs := ps.map (·.2)) (w := 1) (by decide) fun b hb => (h.bs b hb).1).2
    generalize hw : lcms (ps.map (·.2)) 1 = w at w1 w2 hdv ⊢
    repeat (first | ((with_reducible refine wp_vr ?_); refine ⟨_, rfl, ?_⟩) | with_reducible first | refine wp_cst ?_ | refine wp_bin ?_ | refine wp_ix ?_ | refine wp_add ?_ | refine wp_sub ?_ | refine wp_int ?_ | refine wp_bif ?_ | refine wp_irs ?_ | refine wp_irs0 ?_ | refine wx_sts ?_ | refine wx_sts0 ?_ | refine wx_set ?_ | refine wx_ret ?_ | refine wx_setIx ?_ | refine wx_if ?_ | refine wp_and ?_ | refine wp_or ?_ | refine wp_not ?_ | refine wp_neg ?_ | refine wp_cmp ?_ | refine wp_call ?_ | refine wp_callK ?_ | refine wp_ite ?_ | refine wp_tup ?_ | refine wp_lst ?_ | refine wp_inst ?_ | refine wx_setT ?_ | refine wx_expr ?_ | refine wp_sl ?_ | refine wp_onon ?_ | refine wp_osome ?_ | refine wp_fz ?_ | refine wp_nil ?_ | refine wx_raise ?_ | refine wx_pass ?_ | refine ex_int ?_ | refine wp_slt ?_)
    refine wp_mapG (f := topOf w) (d := .tup (ps.map pairD)) (w := .fix (ps.map pairD)) (by rw [IR.run]; rfl) rfl rfl rfl (by rw [List.length_map]; exact hlm) ?_ ?_
    · intro x hx
      obtain ⟨q, hq, rfl⟩ := List.mem_map.mp hx
      have q1 := (h.low q hq).pos
      have q2 := (h.lim q hq).2
      have q3 := (h.lim q hq).1
      refine ⟨[some (.tup (ps.map pairD)), some (.int w), some (.int q.1), some (.int q.2)], rfl, ?_⟩
      repeat (first | ((with_reducible refine wp_vr ?_); refine ⟨_, rfl, ?_⟩) | with_reducible first | refine wp_cst ?_ | refine wp_bin ?_ | refine wp_ix ?_ | refine wp_add ?_ | refine wp_sub ?_ | refine wp_int ?_ | refine wp_bif ?_ | refine wp_irs ?_ | refine wp_irs0 ?_ | refine wx_sts ?_ | refine wx_sts0 ?_ | refine wx_set ?_ | refine wx_ret ?_ | refine wx_setIx ?_ | refine wx_if ?_ | refine wp_and ?_ | refine wp_or ?_ | refine wp_not ?_ | refine wp_neg ?_ | refine wp_cmp ?_ | refine wp_call ?_ | refine wp_callK ?_ | refine wp_ite ?_ | refine wp_tup ?_ | refine wp_lst ?_ | refine wp_inst ?_ | refine wx_setT ?_ | refine wx_expr ?_ | refine wp_sl ?_ | refine wp_onon ?_ | refine wp_osome ?_ | refine wp_fz ?_ | refine wp_nil ?_ | refine wx_raise ?_ | refine wx_pass ?_ | refine ex_int ?_ | refine wp_slt ?_)
      refine wp_fdiv ⟨by omega, Nat.lt_of_le_of_lt (log2_le (k := 200) (natAbs_lt q1 q2)) (by decide)⟩ ?_
      have h3 := fdiv_mul (g := q.2.natAbs) (n := w) (by omega) (hdv q.2 (List.mem_map.mpr ⟨q, hq, rfl⟩))
      rw [show ((q.2.natAbs : Nat) : Int) = q.2 by omega] at h3
      have h4 : (w.fdiv q.2).natAbs < 2 ^ 700 := by
        have h5 : (w.fdiv q.2).natAbs ≤ w.natAbs := by
          have h6 := congrArg Int.natAbs h3
          rw [Int.natAbs_mul] at h6
          rw [← h6]
          exact Nat.le_mul_of_pos_right _ (by omega)
        exact Nat.lt_of_le_of_lt h5 (natAbs_lt w1 w2)
      refine wp_mul (bits_of (k := 200) (l := 700) q3 h4 (by decide)) ?_
      exact ⟨rfl, rfl⟩
    · have e : (ps.map pairD).map (topOf w) ++ [D.int w] = (numsOf ps).map D.int := by
        unfold numsOf
        rw [hw, List.map_append, List.map_map, List.map_map]
        rfl
      repeat (first | ((with_reducible refine wp_vr ?_); refine ⟨_, rfl, ?_⟩) | with_reducible first | refine wp_cst ?_ | refine wp_bin ?_ | refine wp_ix ?_ | refine wp_add ?_ | refine wp_sub ?_ | refine wp_int ?_ | refine wp_bif ?_ | refine wp_irs ?_ | refine wp_irs0 ?_ | refine wx_sts ?_ | refine wx_sts0 ?_ | refine wx_set ?_ | refine wx_ret ?_ | refine wx_setIx ?_ | refine wx_if ?_ | refine wp_and ?_ | refine wp_or ?_ | refine wp_not ?_ | refine wp_neg ?_ | refine wp_cmp ?_ | refine wp_call ?_ | refine wp_callK ?_ | refine wp_ite ?_ | refine wp_tup ?_ | refine wp_lst ?_ | refine wp_inst ?_ | refine wx_setT ?_ | refine wx_expr ?_ | refine wp_sl ?_ | refine wp_onon ?_ | refine wp_osome ?_ | refine wp_fz ?_ | refine wp_nil ?_ | refine wx_raise ?_ | refine wx_pass ?_ | refine ex_int ?_ | refine wp_slt ?_)
      refine ⟨show 1 ≤ LIM by decide, ?_⟩
      repeat (first | ((with_reducible refine wp_vr ?_); refine ⟨_, rfl, ?_⟩) | with_reducible first | refine wp_cst ?_ | refine wp_bin ?_ | refine wp_ix ?_ | refine wp_add ?_ | refine wp_sub ?_ | refine wp_int ?_ | refine wp_bif ?_ | refine wp_irs ?_ | refine wp_irs0 ?_ | refine wx_sts ?_ | refine wx_sts0 ?_ | refine wx_set ?_ | refine wx_ret ?_ | refine wx_setIx ?_ | refine wx_if ?_ | refine wp_and ?_ | refine wp_or ?_ | refine wp_not ?_ | refine wp_neg ?_ | refine wp_cmp ?_ | refine wp_call ?_ | refine wp_callK ?_ | refine wp_ite ?_ | refine wp_tup ?_ | refine wp_lst ?_ | refine wp_inst ?_ | refine wx_setT ?_ | refine wx_expr ?_ | refine wp_sl ?_ | refine wp_onon ?_ | refine wp_osome ?_ | refine wp_fz ?_ | refine wp_nil ?_ | refine wx_raise ?_ | refine wx_pass ?_ | refine ex_int ?_ | refine wp_slt ?_)
      have hl2 : (numsOf ps).length = ps.length + 1 := by
        unfold numsOf
        rw [List.length_append, List.length_map]
        rfl
      have hlen : (((ps.map pairD).map (topOf w)).length + [D.int w].length ≤ LIM) := by
        rw [List.length_map, List.length_map]
        show ps.length + 1 ≤ LIM
        have := h.len
        unfold LIM
        omega
      have add : Wp (binOf false S' .add (.lst ((ps.map pairD).map (topOf w))) (.lst [.int w])) (fun d S1 => d = .lst ((numsOf ps).map D.int) ∧ S1 = S') (fun _ _ => False) := by
        have e1 : binOf false S' .add (.lst ((ps.map pairD).map (topOf w))) (.lst [.int w]) = newL false S' ((ps.map pairD).map (topOf w) ++ [.int w]) := by
          show (match binL S' .add _ _ with
            | some xs => newL false S' xs
            | none => .bad) = _
          have e2 : ∀ a c : List D, a.length + c.length ≤ LIM → binL S' .add (.lst a) (.lst c) = some (a ++ c) := fun a c hac => by
            show (if a.length + c.length ≤ LIM then some (a ++ c) else none) = _
            rw [if_pos hac]
          rw [e2 _ _ hlen]
        rw [e1, e]
        exact wp_fz ⟨rfl, rfl⟩
      refine wp_imp (wp_mono add (fun _ _ q => q) fun _ _ z => z.elim) ?_
      rintro d S2 ⟨rfl, rfl⟩
      repeat (first | ((with_reducible refine wp_vr ?_); refine ⟨_, rfl, ?_⟩) | with_reducible first | refine wp_cst ?_ | refine wp_bin ?_ | refine wp_ix ?_ | refine wp_add ?_ | refine wp_sub ?_ | refine wp_int ?_ | refine wp_bif ?_ | refine wp_irs ?_ | refine wp_irs0 ?_ | refine wx_sts ?_ | refine wx_sts0 ?_ | refine wx_set ?_ | refine wx_ret ?_ | refine wx_setIx ?_ | refine wx_if ?_ | refine wp_and ?_ | refine wp_or ?_ | refine wp_not ?_ | refine wp_neg ?_ | refine wp_cmp ?_ | refine wp_call ?_ | refine wp_callK ?_ | refine wp_ite ?_ | refine wp_tup ?_ | refine wp_lst ?_ | refine wp_inst ?_ | refine wx_setT ?_ | refine wx_expr ?_ | refine wp_sl ?_ | refine wp_onon ?_ | refine wp_osome ?_ | refine wp_fz ?_ | refine wp_nil ?_ | refine wx_raise ?_ | refine wx_pass ?_ | refine ex_int ?_ | refine wp_slt ?_)
      have hlast : (numsOf ps).getLast? = some w := by
        unfold numsOf
        rw [hw]
        exact last_snoc
      have hsg : sgn w = 1 := if_pos w1
      refine wp_imp (point_from_ok p df (l := w) (Nat.lt_of_lt_of_le (natAbs_lt w1 w2) (Nat.pow_le_pow_right (by decide) (by decide))) (by rw [hl2]; have := h.len; unfold LIM; omega) hlast (by omega)) ?_
      rintro d S3 ⟨rfl, rfl⟩
      rw [hsg, Int.mul_one]
      exact ⟨_, rfl, divs_und, rfl, List.take_length⟩
end
end Pv

/-! The program's answers and refusals: point_at, places_of, side_of. -/
namespace Pv
open PySem
theorem intsL_of : ∀ ns : List Int, intsL (ns.map D.int) = ns
  | [] => rfl
  | n :: ns => by
    show n :: intsL (ns.map D.int) = _
    rw [intsL_of ns]
theorem allInt_of : ∀ ns : List Int, (ns.map D.int).all D.isInt = true
  | [] => rfl
  | n :: ns => by
    show (true && (ns.map D.int).all D.isInt) = true
    rw [allInt_of ns]
    rfl
theorem ints_eq {ns : List Int} {m : Int} : D.ints (.tup (ns.map D.int)) m = ((ns.length : Int) == m) := by
  show (((ns.map D.int).length : Int) == m && (ns.map D.int).all D.isInt) = _
  rw [allInt_of, Bool.and_true, List.length_map]
/-- the numbers of a point -/
structure Pt (ns : List Int) (m : Nat) : Prop where
  len : ns.length = m + 1
  last : ∃ l, ns.getLast? = some l ∧ 0 < l
  cop : gcds ns = 1
  lim : ∀ n ∈ ns, n.natAbs < 2 ^ 200
theorem Pt.point {ns : List Int} {m : Nat} (h : Pt ns m) : D.point (.tup (ns.map D.int)) m = true := by
  obtain ⟨l, h1, h2⟩ := h.last
  show (D.ints (.tup (ns.map D.int)) (m + 1) && (match (intsL (ns.map D.int)).getLast? with
    | some l => decide (0 < l) && ((gcds (intsL (ns.map D.int)) : Int) == 1)
    | none => false)) = true
  rw [intsL_of, h1, ints_eq, h.len, h.cop]
  simp [h2]
/-- the numbers of a side -/
structure Sd (ns : List Int) (m : Nat) : Prop where
  len : ns.length = m + 1
  nz : ∃ n ∈ ns.take m, n ≠ 0
  cop : gcds ns = 1
  lim : ∀ n ∈ ns, n.natAbs < 2 ^ 200
/-- numbers that make a side -/
def D.sided (d : D) : Bool := (d.ints 3 || d.ints 4) && (match d with
  | .tup xs => (xs.take (xs.length - 1)).any D.nz
  | _ => false)
/-- coordinates -/
def D.places : D → Bool
  | .tup xs => (((xs.length : Int) == 2) || ((xs.length : Int) == 3)) && xs.all D.frac
  | _ => false
def chkB : STs := sts [.iff (.not (.call "is_point" (irs [.var 0]))) (sts [.raise "InvalidPoint" (irs [.var 0])]) (sts [])]
def patB : STs := sts [.iff (.or (.not (.inst (.var 0) [.tuple])) (.or (.cmp .notInC (.bif .len (irs [.var 0])) (.tup (irs [.cst (.int 2), .cst (.int 3)]))) (.not (.bif .all (irs [.comp [1] (.name 1) (.it (.var 0)) (irs []) (.call "is_fraction" (irs [.var 1]))]))))) (sts [.raise "InvalidPlaces" (irs [.var 0])]) (sts []), .ret false (.call "from_places" (irs [.var 0]))]
def pinB : STs := sts [.ret false (.bif .tuple (irs [.comp [1] (.name 1) (.it (.sl (.var 0) .non (.some (.neg (.cst (.int 1)))))) (irs []) (.call "lowest" (irs [.var 1, .ix (.var 0) (.neg (.cst (.int 1)))]))]))]
def pofB : STs := sts [.expr (.call "check_point" (irs [.var 0])), .ret false (.call "places_in" (irs [.var 0]))]
def sdoB : STs := sts [.iff (.and (.not (.call "are_integers" (irs [.var 0, .cst (.int 3)]))) (.not (.call "are_integers" (irs [.var 0, .cst (.int 4)])))) (sts [.raise "InvalidNumbers" (irs [.var 0])]) (sts []), .iff (.not (.bif .any (irs [.comp [1] (.name 1) (.it (.sl (.var 0) .non (.some (.neg (.cst (.int 1)))))) (irs []) (.cmp .ne (.var 1) (.cst (.int 0)))]))) (sts [.raise "InvalidNumbers" (irs [.var 0])]) (sts []), .ret false (.call "side_from" (irs [.var 0]))]
/-- the program's module of points -/
structure Mod (fs : List Fn) (es : List Ec) : Prop where
  p : Points fs
  pt : Def fs "is_point" 1 1 ptB
  sof : Def fs "is_side_of" 2 3 sidOfB
  sd : Def fs "is_side" 1 1 sidB
  low : Def fs "lowest" 2 3 lowB
  fra : Def fs "is_fraction" 1 1 fraB
  pf : Def fs "point_from" 1 3 pfB
  sf : Def fs "side_from" 1 3 sfB
  frp : Def fs "from_places" 1 4 frpB
  chk : Def fs "check_point" 1 1 chkB
  pat : Def fs "point_at" 1 2 patB
  pin : Def fs "places_in" 1 2 pinB
  pof : Def fs "places_of" 1 1 pofB
  sdo : Def fs "side_of" 1 2 sdoB
  e1 : Err fs es "InvalidPoint" "given"
  e2 : Err fs es "InvalidPlaces" "given"
  e3 : Err fs es "InvalidNumbers" "given"
section
variable {G : Sig} {fs : List Fn} {es : List Ec} {E : Exn → Store → Prop}
theorem chk_ok (m : Mod fs es) {k : Nat} {S : Store} {d : D} (f : Fit S d) (h : (d.point 2 || d.point 3) = true) : Wp (fns G fs es (k + 5) "check_point" [d] S) (fun r S' => S' = S) E := by
  refine wp_defX m.chk rfl ?_
  unfold chkB
  repeat (first | ((with_reducible refine wp_vr ?_); refine ⟨_, rfl, ?_⟩) | with_reducible first | refine wp_cst ?_ | refine wp_bin ?_ | refine wp_ix ?_ | refine wp_add ?_ | refine wp_sub ?_ | refine wp_int ?_ | refine wp_bif ?_ | refine wp_irs ?_ | refine wp_irs0 ?_ | refine wx_sts ?_ | refine wx_sts0 ?_ | refine wx_set ?_ | refine wx_ret ?_ | refine wx_setIx ?_ | refine wx_if ?_ | refine wp_and ?_ | refine wp_or ?_ | refine wp_not ?_ | refine wp_neg ?_ | refine wp_cmp ?_ | refine wp_call ?_ | refine wp_callK ?_ | refine wp_ite ?_ | refine wp_tup ?_ | refine wp_lst ?_ | refine wp_inst ?_ | refine wx_setT ?_ | refine wx_expr ?_ | refine wp_sl ?_ | refine wp_onon ?_ | refine wp_osome ?_ | refine wp_fz ?_ | refine wp_nil ?_ | refine wx_raise ?_ | refine wx_pass ?_ | refine ex_int ?_ | refine wp_slt ?_)
  refine wp_imp (pt_ok m.p m.pt f.known f.hi) ?_
  rintro r S1 ⟨rfl, rfl⟩
  rw [h]
  refine ⟨_, rfl, _, rfl, fun z => Bool.noConfusion z, fun _ => ?_⟩
  repeat (first | ((with_reducible refine wp_vr ?_); refine ⟨_, rfl, ?_⟩) | with_reducible first | refine wp_cst ?_ | refine wp_bin ?_ | refine wp_ix ?_ | refine wp_add ?_ | refine wp_sub ?_ | refine wp_int ?_ | refine wp_bif ?_ | refine wp_irs ?_ | refine wp_irs0 ?_ | refine wx_sts ?_ | refine wx_sts0 ?_ | refine wx_set ?_ | refine wx_ret ?_ | refine wx_setIx ?_ | refine wx_if ?_ | refine wp_and ?_ | refine wp_or ?_ | refine wp_not ?_ | refine wp_neg ?_ | refine wp_cmp ?_ | refine wp_call ?_ | refine wp_callK ?_ | refine wp_ite ?_ | refine wp_tup ?_ | refine wp_lst ?_ | refine wp_inst ?_ | refine wx_setT ?_ | refine wx_expr ?_ | refine wp_sl ?_ | refine wp_onon ?_ | refine wp_osome ?_ | refine wp_fz ?_ | refine wp_nil ?_ | refine wx_raise ?_ | refine wx_pass ?_ | refine ex_int ?_ | refine wp_slt ?_)
  exact List.take_length
theorem chk_bad (m : Mod fs es) {k : Nat} {S : Store} {d : D} (f : Fit S d) (hu : d.und S.length = true) (h : (d.point 2 || d.point 3) = false) : Wp (fns G fs es (k + 5) "check_point" [d] S) (fun _ _ => False) (fun x S' => x = ⟨"InvalidPoint", [("given", d)]⟩ ∧ S' = S) := by
  refine wp_defX m.chk rfl ?_
  unfold chkB
  repeat (first | ((with_reducible refine wp_vr ?_); refine ⟨_, rfl, ?_⟩) | with_reducible first | refine wp_cst ?_ | refine wp_bin ?_ | refine wp_ix ?_ | refine wp_add ?_ | refine wp_sub ?_ | refine wp_int ?_ | refine wp_bif ?_ | refine wp_irs ?_ | refine wp_irs0 ?_ | refine wx_sts ?_ | refine wx_sts0 ?_ | refine wx_set ?_ | refine wx_ret ?_ | refine wx_setIx ?_ | refine wx_if ?_ | refine wp_and ?_ | refine wp_or ?_ | refine wp_not ?_ | refine wp_neg ?_ | refine wp_cmp ?_ | refine wp_call ?_ | refine wp_callK ?_ | refine wp_ite ?_ | refine wp_tup ?_ | refine wp_lst ?_ | refine wp_inst ?_ | refine wx_setT ?_ | refine wx_expr ?_ | refine wp_sl ?_ | refine wp_onon ?_ | refine wp_osome ?_ | refine wp_fz ?_ | refine wp_nil ?_ | refine wx_raise ?_ | refine wx_pass ?_ | refine ex_int ?_ | refine wp_slt ?_)
  refine wp_imp (pt_ok m.p m.pt f.known f.hi) ?_
  rintro r S1 ⟨rfl, rfl⟩
  rw [h]
  refine ⟨_, rfl, _, rfl, fun _ => ?_, fun z => Bool.noConfusion z⟩
  repeat (first | ((with_reducible refine wp_vr ?_); refine ⟨_, rfl, ?_⟩) | with_reducible first | refine wp_cst ?_ | refine wp_bin ?_ | refine wp_ix ?_ | refine wp_add ?_ | refine wp_sub ?_ | refine wp_int ?_ | refine wp_bif ?_ | refine wp_irs ?_ | refine wp_irs0 ?_ | refine wx_sts ?_ | refine wx_sts0 ?_ | refine wx_set ?_ | refine wx_ret ?_ | refine wx_setIx ?_ | refine wx_if ?_ | refine wp_and ?_ | refine wp_or ?_ | refine wp_not ?_ | refine wp_neg ?_ | refine wp_cmp ?_ | refine wp_call ?_ | refine wp_callK ?_ | refine wp_ite ?_ | refine wp_tup ?_ | refine wp_lst ?_ | refine wp_inst ?_ | refine wx_setT ?_ | refine wx_expr ?_ | refine wp_sl ?_ | refine wp_onon ?_ | refine wp_osome ?_ | refine wp_fz ?_ | refine wp_nil ?_ | refine wx_raise ?_ | refine wx_pass ?_ | refine ex_int ?_ | refine wp_slt ?_)
  exact wp_err m.e1 ⟨_, frzX_und hu, rfl, List.take_length⟩
theorem inst_tup {S : Store} {d : D} (h : Known S d) : instOf S d [.tuple] = some (match d with | .tup _ => true | _ => false) := by
  rcases h with rfl | ⟨t, ht⟩
  · rfl
  · rw [inst_of ht]
    cases d with
    | ref n =>
      unfold tyOf at ht
      dsimp only at ht
      split at ht <;> first | (cases ht; rfl) | cases ht
    | non => cases ht
    | _ => cases ht; rfl
/-- the test of point_at -/
theorem pat_test (m : Mod fs es) {k b : Nat} {S : Store} {d : D} (f : Fit S d) {Q : D → Store → Prop} {E : Exn → Store → Prop} (h : Q (.bl (!d.places)) S) : Wp (IR.run G (fns G fs es (k + 3)) b false (.or (.not (.inst (.var 0) [.tuple])) (.or (.cmp .notInC (.bif .len (irs [.var 0])) (.tup (irs [.cst (.int 2), .cst (.int 3)]))) (.not (.bif .all (irs [.comp [1] (.name 1) (.it (.var 0)) (irs []) (.call "is_fraction" (irs [.var 1]))]))))) [some d, none] S) Q E := by
  repeat (first | ((with_reducible refine wp_vr ?_); refine ⟨_, rfl, ?_⟩) | with_reducible first | refine wp_cst ?_ | refine wp_bin ?_ | refine wp_ix ?_ | refine wp_add ?_ | refine wp_sub ?_ | refine wp_int ?_ | refine wp_bif ?_ | refine wp_irs ?_ | refine wp_irs0 ?_ | refine wx_sts ?_ | refine wx_sts0 ?_ | refine wx_set ?_ | refine wx_ret ?_ | refine wx_setIx ?_ | refine wx_if ?_ | refine wp_and ?_ | refine wp_or ?_ | refine wp_not ?_ | refine wp_neg ?_ | refine wp_cmp ?_ | refine wp_call ?_ | refine wp_callK ?_ | refine wp_ite ?_ | refine wp_tup ?_ | refine wp_lst ?_ | refine wp_inst ?_ | refine wx_setT ?_ | refine wx_expr ?_ | refine wp_sl ?_ | refine wp_onon ?_ | refine wp_osome ?_ | refine wp_fz ?_ | refine wp_nil ?_ | refine wx_raise ?_ | refine wx_pass ?_ | refine ex_int ?_ | refine wp_slt ?_)
  refine ⟨_, inst_tup f.known, _, rfl, _, rfl, fun ht => ?_, fun ht => ?_⟩
  · cases d with
    | tup xs =>
      obtain ⟨hl, hk⟩ := f.items xs rfl
      repeat (first | ((with_reducible refine wp_vr ?_); refine ⟨_, rfl, ?_⟩) | with_reducible first | refine wp_cst ?_ | refine wp_bin ?_ | refine wp_ix ?_ | refine wp_add ?_ | refine wp_sub ?_ | refine wp_int ?_ | refine wp_bif ?_ | refine wp_irs ?_ | refine wp_irs0 ?_ | refine wx_sts ?_ | refine wx_sts0 ?_ | refine wx_set ?_ | refine wx_ret ?_ | refine wx_setIx ?_ | refine wx_if ?_ | refine wp_and ?_ | refine wp_or ?_ | refine wp_not ?_ | refine wp_neg ?_ | refine wp_cmp ?_ | refine wp_call ?_ | refine wp_callK ?_ | refine wp_ite ?_ | refine wp_tup ?_ | refine wp_lst ?_ | refine wp_inst ?_ | refine wx_setT ?_ | refine wx_expr ?_ | refine wp_sl ?_ | refine wp_onon ?_ | refine wp_osome ?_ | refine wp_fz ?_ | refine wp_nil ?_ | refine wx_raise ?_ | refine wx_pass ?_ | refine ex_int ?_ | refine wp_slt ?_)
      refine wp_some rfl ?_
      repeat (first | ((with_reducible refine wp_vr ?_); refine ⟨_, rfl, ?_⟩) | with_reducible first | refine wp_cst ?_ | refine wp_bin ?_ | refine wp_ix ?_ | refine wp_add ?_ | refine wp_sub ?_ | refine wp_int ?_ | refine wp_bif ?_ | refine wp_irs ?_ | refine wp_irs0 ?_ | refine wx_sts ?_ | refine wx_sts0 ?_ | refine wx_set ?_ | refine wx_ret ?_ | refine wx_setIx ?_ | refine wx_if ?_ | refine wp_and ?_ | refine wp_or ?_ | refine wp_not ?_ | refine wp_neg ?_ | refine wp_cmp ?_ | refine wp_call ?_ | refine wp_callK ?_ | refine wp_ite ?_ | refine wp_tup ?_ | refine wp_lst ?_ | refine wp_inst ?_ | refine wx_setT ?_ | refine wx_expr ?_ | refine wp_sl ?_ | refine wp_onon ?_ | refine wp_osome ?_ | refine wp_fz ?_ | refine wp_nil ?_ | refine wx_raise ?_ | refine wx_pass ?_ | refine ex_int ?_ | refine wp_slt ?_)
      refine ⟨two_lim, _, in_ints (ks := [2, 3]), _, rfl, fun h1 => ?_, fun h1 => ?_⟩
      · repeat (first | ((with_reducible refine wp_vr ?_); refine ⟨_, rfl, ?_⟩) | with_reducible first | refine wp_cst ?_ | refine wp_bin ?_ | refine wp_ix ?_ | refine wp_add ?_ | refine wp_sub ?_ | refine wp_int ?_ | refine wp_bif ?_ | refine wp_irs ?_ | refine wp_irs0 ?_ | refine wx_sts ?_ | refine wx_sts0 ?_ | refine wx_set ?_ | refine wx_ret ?_ | refine wx_setIx ?_ | refine wx_if ?_ | refine wp_and ?_ | refine wp_or ?_ | refine wp_not ?_ | refine wp_neg ?_ | refine wp_cmp ?_ | refine wp_call ?_ | refine wp_callK ?_ | refine wp_ite ?_ | refine wp_tup ?_ | refine wp_lst ?_ | refine wp_inst ?_ | refine wx_setT ?_ | refine wx_expr ?_ | refine wp_sl ?_ | refine wp_onon ?_ | refine wp_osome ?_ | refine wp_fz ?_ | refine wp_nil ?_ | refine wx_raise ?_ | refine wx_pass ?_ | refine ex_int ?_ | refine wp_slt ?_)
        refine wp_map (f := fun y => .bl y.frac) (d := .tup xs) (by rw [IR.run]; rfl) rfl hl (fun y hy => ?_) ?_
        · repeat (first | ((with_reducible refine wp_vr ?_); refine ⟨_, rfl, ?_⟩) | with_reducible first | refine wp_cst ?_ | refine wp_bin ?_ | refine wp_ix ?_ | refine wp_add ?_ | refine wp_sub ?_ | refine wp_int ?_ | refine wp_bif ?_ | refine wp_irs ?_ | refine wp_irs0 ?_ | refine wx_sts ?_ | refine wx_sts0 ?_ | refine wx_set ?_ | refine wx_ret ?_ | refine wx_setIx ?_ | refine wx_if ?_ | refine wp_and ?_ | refine wp_or ?_ | refine wp_not ?_ | refine wp_neg ?_ | refine wp_cmp ?_ | refine wp_call ?_ | refine wp_callK ?_ | refine wp_ite ?_ | refine wp_tup ?_ | refine wp_lst ?_ | refine wp_inst ?_ | refine wx_setT ?_ | refine wx_expr ?_ | refine wp_sl ?_ | refine wp_onon ?_ | refine wp_osome ?_ | refine wp_fz ?_ | refine wp_nil ?_ | refine wx_raise ?_ | refine wx_pass ?_ | refine ex_int ?_ | refine wp_slt ?_)
          exact fraction_ok m.p m.fra (hk y hy).1 (fun zs e => (hk y hy).2 zs e)
        · repeat (first | ((with_reducible refine wp_vr ?_); refine ⟨_, rfl, ?_⟩) | with_reducible first | refine wp_cst ?_ | refine wp_bin ?_ | refine wp_ix ?_ | refine wp_add ?_ | refine wp_sub ?_ | refine wp_int ?_ | refine wp_bif ?_ | refine wp_irs ?_ | refine wp_irs0 ?_ | refine wx_sts ?_ | refine wx_sts0 ?_ | refine wx_set ?_ | refine wx_ret ?_ | refine wx_setIx ?_ | refine wx_if ?_ | refine wp_and ?_ | refine wp_or ?_ | refine wp_not ?_ | refine wp_neg ?_ | refine wp_cmp ?_ | refine wp_call ?_ | refine wp_callK ?_ | refine wp_ite ?_ | refine wp_tup ?_ | refine wp_lst ?_ | refine wp_inst ?_ | refine wx_setT ?_ | refine wx_expr ?_ | refine wp_sl ?_ | refine wp_onon ?_ | refine wp_osome ?_ | refine wp_fz ?_ | refine wp_nil ?_ | refine wx_raise ?_ | refine wx_pass ?_ | refine ex_int ?_ | refine wp_slt ?_)
          refine wp_some (a := D.bl ((xs.map D.frac).all id)) ?_ ?_
          · have e : bifV S .all [.lst (xs.map fun y => .bl y.frac)] = (boolsOf (xs.map fun y => .bl y.frac)).map fun bs => .bl (bs.all id) := rfl
            rw [e, bools_map]
            rfl
          · refine ⟨_, rfl, ?_⟩
            have e2 : D.places (.tup xs) = (xs.map D.frac).all id := by
              have h2 : (((xs.length : Int) == 2) || ((xs.length : Int) == 3)) = true := by
                simp at h1
                simp
                omega
              show (_ && xs.all D.frac) = _
              rw [h2, Bool.true_and, List.all_map]
              rfl
            rw [← e2]
            exact h
      · have e2 : D.places (.tup xs) = false := by
          have h2 : (((xs.length : Int) == 2) || ((xs.length : Int) == 3)) = false := by
            simp at h1
            simp
            omega
          show (_ && xs.all D.frac) = false
          rw [h2, Bool.false_and]
        rw [e2] at h
        rw [h1]
        exact h
    | _ => exact Bool.noConfusion (show true = false from ht)
  · have e2 : d.places = false := by
      cases d with
      | tup xs => exact Bool.noConfusion (show false = true from ht)
      | _ => rfl
    rw [e2] at h
    rw [ht]
    exact h
theorem pat_bad (m : Mod fs es) {k : Nat} {S : Store} {d : D} (f : Fit S d) (hu : d.und S.length = true) (h : d.places = false) : Wp (fns G fs es (k + 4) "point_at" [d] S) (fun _ _ => False) (fun x S' => x = ⟨"InvalidPlaces", [("given", d)]⟩ ∧ S' = S) := by
  refine wp_defX m.pat rfl ?_
  unfold patB
  refine wx_sts (wx_if (pat_test m f ?_))
  rw [h]
  refine ⟨_, rfl, fun _ => ?_, fun z => Bool.noConfusion z⟩
  repeat (first | ((with_reducible refine wp_vr ?_); refine ⟨_, rfl, ?_⟩) | with_reducible first | refine wp_cst ?_ | refine wp_bin ?_ | refine wp_ix ?_ | refine wp_add ?_ | refine wp_sub ?_ | refine wp_int ?_ | refine wp_bif ?_ | refine wp_irs ?_ | refine wp_irs0 ?_ | refine wx_sts ?_ | refine wx_sts0 ?_ | refine wx_set ?_ | refine wx_ret ?_ | refine wx_setIx ?_ | refine wx_if ?_ | refine wp_and ?_ | refine wp_or ?_ | refine wp_not ?_ | refine wp_neg ?_ | refine wp_cmp ?_ | refine wp_call ?_ | refine wp_callK ?_ | refine wp_ite ?_ | refine wp_tup ?_ | refine wp_lst ?_ | refine wp_inst ?_ | refine wx_setT ?_ | refine wx_expr ?_ | refine wp_sl ?_ | refine wp_onon ?_ | refine wp_osome ?_ | refine wp_fz ?_ | refine wp_nil ?_ | refine wx_raise ?_ | refine wx_pass ?_ | refine ex_int ?_ | refine wp_slt ?_)
  exact wp_err m.e2 ⟨_, frzX_und hu, rfl, List.take_length⟩
theorem frac_all {ps : List (Int × Int)} (h : Places ps) : D.places (.tup (ps.map pairD)) = true := by
  show (((((ps.map pairD).length : Int) == 2) || (((ps.map pairD).length : Int) == 3)) && (ps.map pairD).all D.frac) = true
  rw [List.length_map]
  have h2 : (((ps.length : Int) == 2) || ((ps.length : Int) == 3)) = true := by
    rcases h.len with e | e <;> rw [e] <;> rfl
  rw [h2, Bool.true_and]
  refine List.all_eq_true.mpr fun x hx => ?_
  obtain ⟨q, hq, rfl⟩ := List.mem_map.mp hx
  have f := h.low q hq
  show (decide (0 < q.2) && ((Nat.gcd q.1.natAbs q.2.natAbs : Int) == 1)) = true
  rw [f.cop, decide_eq_true f.pos]
  rfl
theorem Places.fine {ps : List (Int × Int)} (h : Places ps) : D.f2 (.tup (ps.map pairD)) := by
  refine ⟨by rw [List.length_map]; have := h.len; omega, fun x hx => ?_⟩
  obtain ⟨q, hq, rfl⟩ := List.mem_map.mp hx
  refine ⟨show 2 ≤ 40 by decide, fun y hy => ?_⟩
  rcases List.mem_cons.mp hy with rfl | hy
  · exact Nat.lt_trans (h.lim q hq).1 (by decide)
  · rcases List.mem_cons.mp hy with rfl | hy
    · exact Nat.lt_trans (natAbs_lt (h.low q hq).pos (h.lim q hq).2) (by decide)
    · cases hy
theorem pat_ok (m : Mod fs es) {k : Nat} {S : Store} {ps : List (Int × Int)} (h : Places ps) : Wp (fns G fs es (k + 4) "point_at" [.tup (ps.map pairD)] S) (fun d S' => d = .tup (divs (gcds (numsOf ps)) (numsOf ps)) ∧ S' = S) E := by
  refine wp_defX m.pat rfl ?_
  unfold patB
  refine wx_sts (wx_if (pat_test m h.fine.fit ?_))
  rw [frac_all h]
  refine ⟨_, rfl, fun z => Bool.noConfusion z, fun _ => ?_⟩
  repeat (first | ((with_reducible refine wp_vr ?_); refine ⟨_, rfl, ?_⟩) | with_reducible first | refine wp_cst ?_ | refine wp_bin ?_ | refine wp_ix ?_ | refine wp_add ?_ | refine wp_sub ?_ | refine wp_int ?_ | refine wp_bif ?_ | refine wp_irs ?_ | refine wp_irs0 ?_ | refine wx_sts ?_ | refine wx_sts0 ?_ | refine wx_set ?_ | refine wx_ret ?_ | refine wx_setIx ?_ | refine wx_if ?_ | refine wp_and ?_ | refine wp_or ?_ | refine wp_not ?_ | refine wp_neg ?_ | refine wp_cmp ?_ | refine wp_call ?_ | refine wp_callK ?_ | refine wp_ite ?_ | refine wp_tup ?_ | refine wp_lst ?_ | refine wp_inst ?_ | refine wx_setT ?_ | refine wx_expr ?_ | refine wp_sl ?_ | refine wp_onon ?_ | refine wp_osome ?_ | refine wp_fz ?_ | refine wp_nil ?_ | refine wx_raise ?_ | refine wx_pass ?_ | refine ex_int ?_ | refine wp_slt ?_)
  refine wp_imp (from_places_ok m.p m.pf m.frp h) ?_
  rintro r S1 ⟨rfl, rfl⟩
  exact ⟨divs_und, rfl, List.take_length⟩
theorem cut_snoc {xs : List Int} {l : Int} : cutOf ((xs ++ [l]).map D.int) none (some (-1)) = xs.map D.int := by
  rw [cut_last, List.length_map, List.length_append]
  show List.take (xs.length + 1 - 1) _ = _
  rw [List.map_append, Nat.add_sub_cancel]
  have := List.take_left (l₁ := xs.map D.int) (l₂ := [l].map D.int)
  rw [List.length_map] at this
  exact this
theorem und_fr {b : Nat} {l : Int} : ∀ {xs : List Int}, (D.tup (xs.map fun x => fracD x l)).und b = true
  | [] => rfl
  | _ :: xs => by
    show D.undAll b _ = true
    rw [List.map_cons, D.undAll]
    have e : D.undAll b (xs.map fun x => fracD x l) = true := und_fr (xs := xs)
    rw [e]
    rfl
theorem pin_ok (m : Mod fs es) {k : Nat} {S : Store} {xs : List Int} {l : Int} (h0 : 0 < l) (hb : l.natAbs < 2 ^ 8000) (hl : xs.length < LIM) : Wp (fns G fs es (k + 2) "places_in" [.tup ((xs ++ [l]).map D.int)] S) (fun d S' => d = .tup (xs.map fun x => fracD x l) ∧ S' = S) E := by
  refine wp_def m.pin rfl ?_
  unfold pinB
  repeat (first | ((with_reducible refine wp_vr ?_); refine ⟨_, rfl, ?_⟩) | with_reducible first | refine wp_cst ?_ | refine wp_bin ?_ | refine wp_ix ?_ | refine wp_add ?_ | refine wp_sub ?_ | refine wp_int ?_ | refine wp_bif ?_ | refine wp_irs ?_ | refine wp_irs0 ?_ | refine wx_sts ?_ | refine wx_sts0 ?_ | refine wx_set ?_ | refine wx_ret ?_ | refine wx_setIx ?_ | refine wx_if ?_ | refine wp_and ?_ | refine wp_or ?_ | refine wp_not ?_ | refine wp_neg ?_ | refine wp_cmp ?_ | refine wp_call ?_ | refine wp_callK ?_ | refine wp_ite ?_ | refine wp_tup ?_ | refine wp_lst ?_ | refine wp_inst ?_ | refine wx_setT ?_ | refine wx_expr ?_ | refine wp_sl ?_ | refine wp_onon ?_ | refine wp_osome ?_ | refine wp_fz ?_ | refine wp_nil ?_ | refine wx_raise ?_ | refine wx_pass ?_ | refine ex_int ?_ | refine wp_slt ?_)
  have hat := last_at (ns := xs ++ [l]) last_snoc
  refine wp_map (f := fun d => match d with
    | .int x => fracD x l
    | d => d) (d := .tup (cutOf ((xs ++ [l]).map D.int) none (some (-1)))) (by rw [IR.run]; rfl) rfl (by rw [cut_snoc, List.length_map]; omega) ?_ ?_
  · intro x hx
    rw [cut_snoc] at hx
    obtain ⟨n, _, rfl⟩ := List.mem_map.mp hx
    repeat (first | ((with_reducible refine wp_vr ?_); refine ⟨_, rfl, ?_⟩) | with_reducible first | refine wp_cst ?_ | refine wp_bin ?_ | refine wp_ix ?_ | refine wp_add ?_ | refine wp_sub ?_ | refine wp_int ?_ | refine wp_bif ?_ | refine wp_irs ?_ | refine wp_irs0 ?_ | refine wx_sts ?_ | refine wx_sts0 ?_ | refine wx_set ?_ | refine wx_ret ?_ | refine wx_setIx ?_ | refine wx_if ?_ | refine wp_and ?_ | refine wp_or ?_ | refine wp_not ?_ | refine wp_neg ?_ | refine wp_cmp ?_ | refine wp_call ?_ | refine wp_callK ?_ | refine wp_ite ?_ | refine wp_tup ?_ | refine wp_lst ?_ | refine wp_inst ?_ | refine wx_setT ?_ | refine wx_expr ?_ | refine wp_sl ?_ | refine wp_onon ?_ | refine wp_osome ?_ | refine wp_fz ?_ | refine wp_nil ?_ | refine wx_raise ?_ | refine wx_pass ?_ | refine ex_int ?_ | refine wp_slt ?_)
    refine wp_ixs rfl hat ?_
    repeat (first | ((with_reducible refine wp_vr ?_); refine ⟨_, rfl, ?_⟩) | with_reducible first | refine wp_cst ?_ | refine wp_bin ?_ | refine wp_ix ?_ | refine wp_add ?_ | refine wp_sub ?_ | refine wp_int ?_ | refine wp_bif ?_ | refine wp_irs ?_ | refine wp_irs0 ?_ | refine wx_sts ?_ | refine wx_sts0 ?_ | refine wx_set ?_ | refine wx_ret ?_ | refine wx_setIx ?_ | refine wx_if ?_ | refine wp_and ?_ | refine wp_or ?_ | refine wp_not ?_ | refine wp_neg ?_ | refine wp_cmp ?_ | refine wp_call ?_ | refine wp_callK ?_ | refine wp_ite ?_ | refine wp_tup ?_ | refine wp_lst ?_ | refine wp_inst ?_ | refine wx_setT ?_ | refine wx_expr ?_ | refine wp_sl ?_ | refine wp_onon ?_ | refine wp_osome ?_ | refine wp_fz ?_ | refine wp_nil ?_ | refine wx_raise ?_ | refine wx_pass ?_ | refine ex_int ?_ | refine wp_slt ?_)
    exact lowest_ok m.low hb (by omega)
  · repeat (first | ((with_reducible refine wp_vr ?_); refine ⟨_, rfl, ?_⟩) | with_reducible first | refine wp_cst ?_ | refine wp_bin ?_ | refine wp_ix ?_ | refine wp_add ?_ | refine wp_sub ?_ | refine wp_int ?_ | refine wp_bif ?_ | refine wp_irs ?_ | refine wp_irs0 ?_ | refine wx_sts ?_ | refine wx_sts0 ?_ | refine wx_set ?_ | refine wx_ret ?_ | refine wx_setIx ?_ | refine wx_if ?_ | refine wp_and ?_ | refine wp_or ?_ | refine wp_not ?_ | refine wp_neg ?_ | refine wp_cmp ?_ | refine wp_call ?_ | refine wp_callK ?_ | refine wp_ite ?_ | refine wp_tup ?_ | refine wp_lst ?_ | refine wp_inst ?_ | refine wx_setT ?_ | refine wx_expr ?_ | refine wp_sl ?_ | refine wp_onon ?_ | refine wp_osome ?_ | refine wp_fz ?_ | refine wp_nil ?_ | refine wx_raise ?_ | refine wx_pass ?_ | refine ex_int ?_ | refine wp_slt ?_)
    rw [cut_snoc, List.map_map]
    refine wp_some rfl ⟨_, rfl, ?_, rfl, List.take_length⟩
    exact und_fr
end
end Pv

/-! places_of, side_of; the law's asking. -/
namespace Pv
open PySem
section
variable {G : Sig} {fs : List Fn} {es : List Ec} {E : Exn → Store → Prop}
theorem pof_bad (m : Mod fs es) {k : Nat} {S : Store} {d : D} (f : Fit S d) (hu : d.und S.length = true) (h : (d.point 2 || d.point 3) = false) : Wp (fns G fs es (k + 6) "places_of" [d] S) (fun _ _ => False) (fun x S' => x = ⟨"InvalidPoint", [("given", d)]⟩ ∧ S' = S) := by
  refine wp_defX m.pof rfl ?_
  unfold pofB
  repeat (first | ((with_reducible refine wp_vr ?_); refine ⟨_, rfl, ?_⟩) | with_reducible first | refine wp_cst ?_ | refine wp_bin ?_ | refine wp_ix ?_ | refine wp_add ?_ | refine wp_sub ?_ | refine wp_int ?_ | refine wp_bif ?_ | refine wp_irs ?_ | refine wp_irs0 ?_ | refine wx_sts ?_ | refine wx_sts0 ?_ | refine wx_set ?_ | refine wx_ret ?_ | refine wx_setIx ?_ | refine wx_if ?_ | refine wp_and ?_ | refine wp_or ?_ | refine wp_not ?_ | refine wp_neg ?_ | refine wp_cmp ?_ | refine wp_call ?_ | refine wp_callK ?_ | refine wp_ite ?_ | refine wp_tup ?_ | refine wp_lst ?_ | refine wp_inst ?_ | refine wx_setT ?_ | refine wx_expr ?_ | refine wp_sl ?_ | refine wp_onon ?_ | refine wp_osome ?_ | refine wp_fz ?_ | refine wp_nil ?_ | refine wx_raise ?_ | refine wx_pass ?_ | refine ex_int ?_ | refine wp_slt ?_)
  refine wp_mono (chk_bad m f hu h) (fun _ _ z => z.elim) ?_
  rintro x S1 ⟨rfl, rfl⟩
  exact ⟨_, frzX_und hu, rfl, List.take_length⟩
theorem Pt.fine {ns : List Int} {m : Nat} (h : Pt ns m) (hm : m ≤ 3) : D.f2 (.tup (ns.map D.int)) := by
  refine ⟨by rw [List.length_map, h.len]; omega, fun x hx => ?_⟩
  obtain ⟨n, hn, rfl⟩ := List.mem_map.mp hx
  exact Nat.lt_trans (h.lim n hn) (by decide)
theorem Sd.fine {ns : List Int} {m : Nat} (h : Sd ns m) (hm : m ≤ 3) : D.f2 (.tup (ns.map D.int)) := by
  refine ⟨by rw [List.length_map, h.len]; omega, fun x hx => ?_⟩
  obtain ⟨n, hn, rfl⟩ := List.mem_map.mp hx
  exact Nat.lt_trans (h.lim n hn) (by decide)
theorem Pt.two {ns : List Int} {m : Nat} (h : Pt ns m) (hm : m = 2 ∨ m = 3) : (D.point (.tup (ns.map D.int)) 2 || D.point (.tup (ns.map D.int)) 3) = true := by
  have := h.point
  rcases hm with rfl | rfl
  · rw [show ((2 : Nat) : Int) = 2 from rfl] at this
    rw [this]
    rfl
  · rw [show ((3 : Nat) : Int) = 3 from rfl] at this
    rw [this, Bool.or_true]
theorem pof_ok (m : Mod fs es) {k : Nat} {S : Store} {xs : List Int} {l : Int} {n : Nat} (hn : n = 2 ∨ n = 3) (h : Pt (xs ++ [l]) n) : Wp (fns G fs es (k + 6) "places_of" [.tup ((xs ++ [l]).map D.int)] S) (fun d S' => d = .tup (xs.map fun x => fracD x l) ∧ S' = S) E := by
  refine wp_defX m.pof rfl ?_
  unfold pofB
  repeat (first | ((with_reducible refine wp_vr ?_); refine ⟨_, rfl, ?_⟩) | with_reducible first | refine wp_cst ?_ | refine wp_bin ?_ | refine wp_ix ?_ | refine wp_add ?_ | refine wp_sub ?_ | refine wp_int ?_ | refine wp_bif ?_ | refine wp_irs ?_ | refine wp_irs0 ?_ | refine wx_sts ?_ | refine wx_sts0 ?_ | refine wx_set ?_ | refine wx_ret ?_ | refine wx_setIx ?_ | refine wx_if ?_ | refine wp_and ?_ | refine wp_or ?_ | refine wp_not ?_ | refine wp_neg ?_ | refine wp_cmp ?_ | refine wp_call ?_ | refine wp_callK ?_ | refine wp_ite ?_ | refine wp_tup ?_ | refine wp_lst ?_ | refine wp_inst ?_ | refine wx_setT ?_ | refine wx_expr ?_ | refine wp_sl ?_ | refine wp_onon ?_ | refine wp_osome ?_ | refine wp_fz ?_ | refine wp_nil ?_ | refine wx_raise ?_ | refine wx_pass ?_ | refine ex_int ?_ | refine wp_slt ?_)
  refine wp_imp (chk_ok m (h.fine (by omega)).fit (h.two hn)) ?_
  rintro x S1 rfl
  repeat (first | ((with_reducible refine wp_vr ?_); refine ⟨_, rfl, ?_⟩) | with_reducible first | refine wp_cst ?_ | refine wp_bin ?_ | refine wp_ix ?_ | refine wp_add ?_ | refine wp_sub ?_ | refine wp_int ?_ | refine wp_bif ?_ | refine wp_irs ?_ | refine wp_irs0 ?_ | refine wx_sts ?_ | refine wx_sts0 ?_ | refine wx_set ?_ | refine wx_ret ?_ | refine wx_setIx ?_ | refine wx_if ?_ | refine wp_and ?_ | refine wp_or ?_ | refine wp_not ?_ | refine wp_neg ?_ | refine wp_cmp ?_ | refine wp_call ?_ | refine wp_callK ?_ | refine wp_ite ?_ | refine wp_tup ?_ | refine wp_lst ?_ | refine wp_inst ?_ | refine wx_setT ?_ | refine wx_expr ?_ | refine wp_sl ?_ | refine wp_onon ?_ | refine wp_osome ?_ | refine wp_fz ?_ | refine wp_nil ?_ | refine wx_raise ?_ | refine wx_pass ?_ | refine ex_int ?_ | refine wp_slt ?_)
  have h0 : 0 < l := by
    obtain ⟨l', h1, h2⟩ := h.last
    rw [last_snoc] at h1
    cases h1
    exact h2
  have hl : xs.length = n := by
    have := h.len
    rw [List.length_append] at this
    exact Nat.add_right_cancel this
  refine wp_imp (pin_ok m h0 (Nat.lt_of_lt_of_le (h.lim l (by simp)) (Nat.pow_le_pow_right (by decide) (by decide))) (by rw [hl]; unfold LIM; omega)) ?_
  rintro r S2 ⟨rfl, rfl⟩
  exact ⟨und_fr, rfl, List.take_length⟩
theorem sdo_bad (m : Mod fs es) {k : Nat} {S : Store} {d : D} (f : Fit S d) (hu : d.und S.length = true) (h : d.sided = false) : Wp (fns G fs es (k + 4) "side_of" [d] S) (fun _ _ => False) (fun x S' => x = ⟨"InvalidNumbers", [("given", d)]⟩ ∧ S' = S) := by
  refine wp_defX m.sdo rfl ?_
  unfold sdoB
  repeat (first | ((with_reducible refine wp_vr ?_); refine ⟨_, rfl, ?_⟩) | with_reducible first | refine wp_cst ?_ | refine wp_bin ?_ | refine wp_ix ?_ | refine wp_add ?_ | refine wp_sub ?_ | refine wp_int ?_ | refine wp_bif ?_ | refine wp_irs ?_ | refine wp_irs0 ?_ | refine wx_sts ?_ | refine wx_sts0 ?_ | refine wx_set ?_ | refine wx_ret ?_ | refine wx_setIx ?_ | refine wx_if ?_ | refine wp_and ?_ | refine wp_or ?_ | refine wp_not ?_ | refine wp_neg ?_ | refine wp_cmp ?_ | refine wp_call ?_ | refine wp_callK ?_ | refine wp_ite ?_ | refine wp_tup ?_ | refine wp_lst ?_ | refine wp_inst ?_ | refine wx_setT ?_ | refine wx_expr ?_ | refine wp_sl ?_ | refine wp_onon ?_ | refine wp_osome ?_ | refine wp_fz ?_ | refine wp_nil ?_ | refine wx_raise ?_ | refine wx_pass ?_ | refine ex_int ?_ | refine wp_slt ?_)
  refine wp_imp (are_ok m.p.int m.p.tup m.p.are f.known f.hi) ?_
  rintro r S1 ⟨rfl, rfl⟩
  have rest : (d.ints 3 || d.ints 4) = true → Wp (IR.run G (fns G fs es (k + 3)) S1.length false (.not (.bif .any (irs [.comp [1] (.name 1) (.it (.sl (.var 0) .non (.some (.neg (.cst (.int 1)))))) (irs []) (.cmp .ne (.var 1) (.cst (.int 0)))]))) [some d, none] S1) (fun r S' => r = .bl true ∧ S' = S1) fun y S2 => ∃ fs, frzX S2 S1.length y.fs = some fs ∧ (⟨y.cls, fs⟩ : Exn) = ⟨"InvalidNumbers", [("given", d)]⟩ ∧ S2.take S1.length = S1 := by
    intro hi
    cases d with
    | tup xs =>
      have hall : xs.all D.isInt = true := by
        rcases Bool.or_eq_true_iff.mp hi with hi | hi
        · exact (Bool.and_eq_true_iff.mp (show (((xs.length : Int) == 3) && xs.all D.isInt) = true from hi)).2
        · exact (Bool.and_eq_true_iff.mp (show (((xs.length : Int) == 4) && xs.all D.isInt) = true from hi)).2
      have hz : (xs.take (xs.length - 1)).any D.nz = false := by
        have e : (D.sided (.tup xs)) = ((D.ints (.tup xs) 3 || D.ints (.tup xs) 4) && (xs.take (xs.length - 1)).any D.nz) := rfl
        rw [e, hi, Bool.true_and] at h
        exact h
      repeat (first | ((with_reducible refine wp_vr ?_); refine ⟨_, rfl, ?_⟩) | with_reducible first | refine wp_cst ?_ | refine wp_bin ?_ | refine wp_ix ?_ | refine wp_add ?_ | refine wp_sub ?_ | refine wp_int ?_ | refine wp_bif ?_ | refine wp_irs ?_ | refine wp_irs0 ?_ | refine wx_sts ?_ | refine wx_sts0 ?_ | refine wx_set ?_ | refine wx_ret ?_ | refine wx_setIx ?_ | refine wx_if ?_ | refine wp_and ?_ | refine wp_or ?_ | refine wp_not ?_ | refine wp_neg ?_ | refine wp_cmp ?_ | refine wp_call ?_ | refine wp_callK ?_ | refine wp_ite ?_ | refine wp_tup ?_ | refine wp_lst ?_ | refine wp_inst ?_ | refine wx_setT ?_ | refine wx_expr ?_ | refine wp_sl ?_ | refine wp_onon ?_ | refine wp_osome ?_ | refine wp_fz ?_ | refine wp_nil ?_ | refine wx_raise ?_ | refine wx_pass ?_ | refine ex_int ?_ | refine wp_slt ?_)
      refine wp_map (f := fun y => .bl y.nz) (d := .tup (cutOf xs none (some (-1)))) (by rw [IR.run]; rfl) rfl ?_ ?_ ?_
      · rw [cut_last, List.length_take]
        exact Nat.le_trans (Nat.min_le_right _ _) (f.items xs rfl).1
      · intro y hy
        rw [cut_last] at hy
        have hy' : y.isInt = true := List.all_eq_true.mp hall y (List.mem_of_mem_take hy)
        cases y with
        | int i =>
          repeat (first | ((with_reducible refine wp_vr ?_); refine ⟨_, rfl, ?_⟩) | with_reducible first | refine wp_cst ?_ | refine wp_bin ?_ | refine wp_ix ?_ | refine wp_add ?_ | refine wp_sub ?_ | refine wp_int ?_ | refine wp_bif ?_ | refine wp_irs ?_ | refine wp_irs0 ?_ | refine wx_sts ?_ | refine wx_sts0 ?_ | refine wx_set ?_ | refine wx_ret ?_ | refine wx_setIx ?_ | refine wx_if ?_ | refine wp_and ?_ | refine wp_or ?_ | refine wp_not ?_ | refine wp_neg ?_ | refine wp_cmp ?_ | refine wp_call ?_ | refine wp_callK ?_ | refine wp_ite ?_ | refine wp_tup ?_ | refine wp_lst ?_ | refine wp_inst ?_ | refine wx_setT ?_ | refine wx_expr ?_ | refine wp_sl ?_ | refine wp_onon ?_ | refine wp_osome ?_ | refine wp_fz ?_ | refine wp_nil ?_ | refine wx_raise ?_ | refine wx_pass ?_ | refine ex_int ?_ | refine wp_slt ?_)
          exact ⟨_, rfl, rfl, rfl⟩
        | _ => exact Bool.noConfusion (show false = true from hy')
      · repeat (first | ((with_reducible refine wp_vr ?_); refine ⟨_, rfl, ?_⟩) | with_reducible first | refine wp_cst ?_ | refine wp_bin ?_ | refine wp_ix ?_ | refine wp_add ?_ | refine wp_sub ?_ | refine wp_int ?_ | refine wp_bif ?_ | refine wp_irs ?_ | refine wp_irs0 ?_ | refine wx_sts ?_ | refine wx_sts0 ?_ | refine wx_set ?_ | refine wx_ret ?_ | refine wx_setIx ?_ | refine wx_if ?_ | refine wp_and ?_ | refine wp_or ?_ | refine wp_not ?_ | refine wp_neg ?_ | refine wp_cmp ?_ | refine wp_call ?_ | refine wp_callK ?_ | refine wp_ite ?_ | refine wp_tup ?_ | refine wp_lst ?_ | refine wp_inst ?_ | refine wx_setT ?_ | refine wx_expr ?_ | refine wp_sl ?_ | refine wp_onon ?_ | refine wp_osome ?_ | refine wp_fz ?_ | refine wp_nil ?_ | refine wx_raise ?_ | refine wx_pass ?_ | refine ex_int ?_ | refine wp_slt ?_)
        refine wp_some (a := D.bl false) ?_ ⟨_, rfl, rfl, rfl⟩
        have e : bifV S1 .any [.lst ((cutOf xs none (some (-1))).map fun y => .bl y.nz)] = (boolsOf ((cutOf xs none (some (-1))).map fun y => .bl y.nz)).map fun bs => .bl (bs.any id) := rfl
        rw [e, bools_map, cut_last]
        show some (D.bl (((xs.take (xs.length - 1)).map D.nz).any id)) = _
        rw [List.any_map]
        show some (D.bl ((xs.take (xs.length - 1)).any D.nz)) = _
        rw [hz]
    | _ => exact Bool.noConfusion (show false = true from hi)
  have go : (d.ints 3 || d.ints 4) = true → Wp (STs.execs G (fns G fs es (k + 3)) S1.length (sts [.iff (.not (.bif .any (irs [.comp [1] (.name 1) (.it (.sl (.var 0) .non (.some (.neg (.cst (.int 1)))))) (irs []) (.cmp .ne (.var 1) (.cst (.int 0)))]))) (sts [.raise "InvalidNumbers" (irs [.var 0])]) (sts []), .ret false (.call "side_from" (irs [.var 0]))]) [some d, none] S1) (fun fl S2 => (match fl with
      | .rt d => d.und S1.length = true ∧ False
      | .nx _ => False)) fun y S2 => ∃ fs, frzX S2 S1.length y.fs = some fs ∧ (⟨y.cls, fs⟩ : Exn) = ⟨"InvalidNumbers", [("given", d)]⟩ ∧ S2.take S1.length = S1 := by
    intro hi
    refine wx_sts (wx_if (wp_imp (rest hi) ?_))
    rintro r S2 ⟨rfl, rfl⟩
    refine ⟨_, rfl, fun _ => ?_, fun z => Bool.noConfusion z⟩
    repeat (first | ((with_reducible refine wp_vr ?_); refine ⟨_, rfl, ?_⟩) | with_reducible first | refine wp_cst ?_ | refine wp_bin ?_ | refine wp_ix ?_ | refine wp_add ?_ | refine wp_sub ?_ | refine wp_int ?_ | refine wp_bif ?_ | refine wp_irs ?_ | refine wp_irs0 ?_ | refine wx_sts ?_ | refine wx_sts0 ?_ | refine wx_set ?_ | refine wx_ret ?_ | refine wx_setIx ?_ | refine wx_if ?_ | refine wp_and ?_ | refine wp_or ?_ | refine wp_not ?_ | refine wp_neg ?_ | refine wp_cmp ?_ | refine wp_call ?_ | refine wp_callK ?_ | refine wp_ite ?_ | refine wp_tup ?_ | refine wp_lst ?_ | refine wp_inst ?_ | refine wx_setT ?_ | refine wx_expr ?_ | refine wp_sl ?_ | refine wp_onon ?_ | refine wp_osome ?_ | refine wp_fz ?_ | refine wp_nil ?_ | refine wx_raise ?_ | refine wx_pass ?_ | refine ex_int ?_ | refine wp_slt ?_)
    exact wp_err m.e3 ⟨_, frzX_und hu, rfl, List.take_length⟩
  refine ⟨_, rfl, _, rfl, fun h1 => ?_, fun h1 => ?_⟩
  · have h1' : d.ints 3 = false := by simpa using h1
    repeat (first | ((with_reducible refine wp_vr ?_); refine ⟨_, rfl, ?_⟩) | with_reducible first | refine wp_cst ?_ | refine wp_bin ?_ | refine wp_ix ?_ | refine wp_add ?_ | refine wp_sub ?_ | refine wp_int ?_ | refine wp_bif ?_ | refine wp_irs ?_ | refine wp_irs0 ?_ | refine wx_sts ?_ | refine wx_sts0 ?_ | refine wx_set ?_ | refine wx_ret ?_ | refine wx_setIx ?_ | refine wx_if ?_ | refine wp_and ?_ | refine wp_or ?_ | refine wp_not ?_ | refine wp_neg ?_ | refine wp_cmp ?_ | refine wp_call ?_ | refine wp_callK ?_ | refine wp_ite ?_ | refine wp_tup ?_ | refine wp_lst ?_ | refine wp_inst ?_ | refine wx_setT ?_ | refine wx_expr ?_ | refine wp_sl ?_ | refine wp_onon ?_ | refine wp_osome ?_ | refine wp_fz ?_ | refine wp_nil ?_ | refine wx_raise ?_ | refine wx_pass ?_ | refine ex_int ?_ | refine wp_slt ?_)
    refine wp_imp (are_ok m.p.int m.p.tup m.p.are f.known f.hi) ?_
    rintro r S2 ⟨rfl, rfl⟩
    refine ⟨_, rfl, _, rfl, fun h2 => ?_, fun h2 => ?_⟩
    · repeat (first | ((with_reducible refine wp_vr ?_); refine ⟨_, rfl, ?_⟩) | with_reducible first | refine wp_cst ?_ | refine wp_bin ?_ | refine wp_ix ?_ | refine wp_add ?_ | refine wp_sub ?_ | refine wp_int ?_ | refine wp_bif ?_ | refine wp_irs ?_ | refine wp_irs0 ?_ | refine wx_sts ?_ | refine wx_sts0 ?_ | refine wx_set ?_ | refine wx_ret ?_ | refine wx_setIx ?_ | refine wx_if ?_ | refine wp_and ?_ | refine wp_or ?_ | refine wp_not ?_ | refine wp_neg ?_ | refine wp_cmp ?_ | refine wp_call ?_ | refine wp_callK ?_ | refine wp_ite ?_ | refine wp_tup ?_ | refine wp_lst ?_ | refine wp_inst ?_ | refine wx_setT ?_ | refine wx_expr ?_ | refine wp_sl ?_ | refine wp_onon ?_ | refine wp_osome ?_ | refine wp_fz ?_ | refine wp_nil ?_ | refine wx_raise ?_ | refine wx_pass ?_ | refine ex_int ?_ | refine wp_slt ?_)
      exact wp_err m.e3 ⟨_, frzX_und hu, rfl, List.take_length⟩
    · have h2' : d.ints 4 = true := by simpa using h2
      exact wx_sts0 (go (by rw [h2', Bool.or_true]))
  · have h1' : d.ints 3 = true := by simpa using h1
    refine ⟨_, rfl, fun z => Bool.noConfusion (h1.symm.trans z), fun _ => ?_⟩
    exact wx_sts0 (go (by rw [h1', Bool.true_or]))
theorem nz_map {ns : List Int} : (ns.map D.int).any D.nz = ns.any fun i => i != 0 := by
  rw [List.any_map]
  rfl
theorem sdo_ok (m : Mod fs es) {k : Nat} {S : Store} {ns : List Int} {l : Int} (hl : ns.length = 3 ∨ ns.length = 4) (hb : ∀ n ∈ ns, n.natAbs < 2 ^ 250) (hm : l ∈ ns.take (ns.length - 1)) (h0 : l ≠ 0) : Wp (fns G fs es (k + 4) "side_of" [.tup (ns.map D.int)] S) (fun d S' => d = .tup (divs (gcds ns) ns) ∧ S' = S) E := by
  have hk : Known S (.tup (ns.map D.int)) := .inr ⟨_, rfl⟩
  have hi : ∀ xs, D.tup (ns.map D.int) = .tup xs → xs.length ≤ LIM ∧ ∀ y ∈ xs, Known S y := by
    rintro _ ⟨⟩
    refine ⟨by rw [List.length_map]; unfold LIM; omega, fun y hy => ?_⟩
    obtain ⟨n, _, rfl⟩ := List.mem_map.mp hy
    exact .inr ⟨_, rfl⟩
  refine wp_defX m.sdo rfl ?_
  unfold sdoB
  have go : ∀ S1 : Store, S1 = S → Wp (STs.execs G (fns G fs es (k + 3)) S.length (sts [.iff (.not (.bif .any (irs [.comp [1] (.name 1) (.it (.sl (.var 0) .non (.some (.neg (.cst (.int 1)))))) (irs []) (.cmp .ne (.var 1) (.cst (.int 0)))]))) (sts [.raise "InvalidNumbers" (irs [.var 0])]) (sts []), .ret false (.call "side_from" (irs [.var 0]))]) [some (.tup (ns.map D.int)), none] S1) (fun fl S2 => (match fl with
      | .rt d => d.und S.length = true ∧ d = .tup (divs (gcds ns) ns) ∧ S2.take S.length = S
      | .nx _ => D.non = .tup (divs (gcds ns) ns) ∧ S2.take S.length = S)) fun y S1 => ∃ fs, frzX S1 S.length y.fs = some fs ∧ E ⟨y.cls, fs⟩ (S1.take S.length) := by
    rintro S1 rfl
    repeat (first | ((with_reducible refine wp_vr ?_); refine ⟨_, rfl, ?_⟩) | with_reducible first | refine wp_cst ?_ | refine wp_bin ?_ | refine wp_ix ?_ | refine wp_add ?_ | refine wp_sub ?_ | refine wp_int ?_ | refine wp_bif ?_ | refine wp_irs ?_ | refine wp_irs0 ?_ | refine wx_sts ?_ | refine wx_sts0 ?_ | refine wx_set ?_ | refine wx_ret ?_ | refine wx_setIx ?_ | refine wx_if ?_ | refine wp_and ?_ | refine wp_or ?_ | refine wp_not ?_ | refine wp_neg ?_ | refine wp_cmp ?_ | refine wp_call ?_ | refine wp_callK ?_ | refine wp_ite ?_ | refine wp_tup ?_ | refine wp_lst ?_ | refine wp_inst ?_ | refine wx_setT ?_ | refine wx_expr ?_ | refine wp_sl ?_ | refine wp_onon ?_ | refine wp_osome ?_ | refine wp_fz ?_ | refine wp_nil ?_ | refine wx_raise ?_ | refine wx_pass ?_ | refine ex_int ?_ | refine wp_slt ?_)
    refine wp_map (f := fun y => .bl y.nz) (d := .tup (cutOf (ns.map D.int) none (some (-1)))) (by rw [IR.run]; rfl) rfl ?_ ?_ ?_
    · rw [cut_last, List.length_take, List.length_map]
      exact Nat.le_trans (Nat.min_le_right _ _) (by unfold LIM; omega)
    · intro y hy
      rw [cut_last] at hy
      obtain ⟨n, _, rfl⟩ := List.mem_map.mp (List.mem_of_mem_take hy)
      repeat (first | ((with_reducible refine wp_vr ?_); refine ⟨_, rfl, ?_⟩) | with_reducible first | refine wp_cst ?_ | refine wp_bin ?_ | refine wp_ix ?_ | refine wp_add ?_ | refine wp_sub ?_ | refine wp_int ?_ | refine wp_bif ?_ | refine wp_irs ?_ | refine wp_irs0 ?_ | refine wx_sts ?_ | refine wx_sts0 ?_ | refine wx_set ?_ | refine wx_ret ?_ | refine wx_setIx ?_ | refine wx_if ?_ | refine wp_and ?_ | refine wp_or ?_ | refine wp_not ?_ | refine wp_neg ?_ | refine wp_cmp ?_ | refine wp_call ?_ | refine wp_callK ?_ | refine wp_ite ?_ | refine wp_tup ?_ | refine wp_lst ?_ | refine wp_inst ?_ | refine wx_setT ?_ | refine wx_expr ?_ | refine wp_sl ?_ | refine wp_onon ?_ | refine wp_osome ?_ | refine wp_fz ?_ | refine wp_nil ?_ | refine wx_raise ?_ | refine wx_pass ?_ | refine ex_int ?_ | refine wp_slt ?_)
      exact ⟨_, rfl, rfl, rfl⟩
    · repeat (first | ((with_reducible refine wp_vr ?_); refine ⟨_, rfl, ?_⟩) | with_reducible first | refine wp_cst ?_ | refine wp_bin ?_ | refine wp_ix ?_ | refine wp_add ?_ | refine wp_sub ?_ | refine wp_int ?_ | refine wp_bif ?_ | refine wp_irs ?_ | refine wp_irs0 ?_ | refine wx_sts ?_ | refine wx_sts0 ?_ | refine wx_set ?_ | refine wx_ret ?_ | refine wx_setIx ?_ | refine wx_if ?_ | refine wp_and ?_ | refine wp_or ?_ | refine wp_not ?_ | refine wp_neg ?_ | refine wp_cmp ?_ | refine wp_call ?_ | refine wp_callK ?_ | refine wp_ite ?_ | refine wp_tup ?_ | refine wp_lst ?_ | refine wp_inst ?_ | refine wx_setT ?_ | refine wx_expr ?_ | refine wp_sl ?_ | refine wp_onon ?_ | refine wp_osome ?_ | refine wp_fz ?_ | refine wp_nil ?_ | refine wx_raise ?_ | refine wx_pass ?_ | refine ex_int ?_ | refine wp_slt ?_)
      refine wp_some (a := D.bl true) ?_ ⟨_, rfl, _, rfl, fun z => Bool.noConfusion z, fun _ => ?_⟩
      · have e : bifV S1 .any [.lst ((cutOf (ns.map D.int) none (some (-1))).map fun y => .bl y.nz)] = (boolsOf ((cutOf (ns.map D.int) none (some (-1))).map fun y => .bl y.nz)).map fun bs => .bl (bs.any id) := rfl
        rw [e, bools_map, cut_last]
        show some (D.bl (((((ns.map D.int).take ((ns.map D.int).length - 1))).map D.nz).any id)) = _
        rw [List.any_map]
        show some (D.bl (((ns.map D.int).take ((ns.map D.int).length - 1)).any D.nz)) = _
        rw [← List.map_take, nz_map, List.length_map]
        have : (ns.take (ns.length - 1)).any (fun i => i != 0) = true := List.any_eq_true.mpr ⟨l, hm, by simpa using h0⟩
        rw [this]
      · repeat (first | ((with_reducible refine wp_vr ?_); refine ⟨_, rfl, ?_⟩) | with_reducible first | refine wp_cst ?_ | refine wp_bin ?_ | refine wp_ix ?_ | refine wp_add ?_ | refine wp_sub ?_ | refine wp_int ?_ | refine wp_bif ?_ | refine wp_irs ?_ | refine wp_irs0 ?_ | refine wx_sts ?_ | refine wx_sts0 ?_ | refine wx_set ?_ | refine wx_ret ?_ | refine wx_setIx ?_ | refine wx_if ?_ | refine wp_and ?_ | refine wp_or ?_ | refine wp_not ?_ | refine wp_neg ?_ | refine wp_cmp ?_ | refine wp_call ?_ | refine wp_callK ?_ | refine wp_ite ?_ | refine wp_tup ?_ | refine wp_lst ?_ | refine wp_inst ?_ | refine wx_setT ?_ | refine wx_expr ?_ | refine wp_sl ?_ | refine wp_onon ?_ | refine wp_osome ?_ | refine wp_fz ?_ | refine wp_nil ?_ | refine wx_raise ?_ | refine wx_pass ?_ | refine ex_int ?_ | refine wp_slt ?_)
        refine wp_imp (side_from_ok m.p m.sf ints_tup (l := l) (Nat.lt_of_lt_of_le (hb l (List.mem_of_mem_take hm)) (Nat.pow_le_pow_right (by decide) (by decide))) (by unfold LIM; omega) (List.mem_of_mem_take hm) h0) ?_
        rintro r S2 ⟨rfl, rfl⟩
        exact ⟨divs_und, rfl, List.take_length⟩
  refine wx_sts (wx_if ?_)
  repeat (first | ((with_reducible refine wp_vr ?_); refine ⟨_, rfl, ?_⟩) | with_reducible first | refine wp_cst ?_ | refine wp_bin ?_ | refine wp_ix ?_ | refine wp_add ?_ | refine wp_sub ?_ | refine wp_int ?_ | refine wp_bif ?_ | refine wp_irs ?_ | refine wp_irs0 ?_ | refine wx_sts ?_ | refine wx_sts0 ?_ | refine wx_set ?_ | refine wx_ret ?_ | refine wx_setIx ?_ | refine wx_if ?_ | refine wp_and ?_ | refine wp_or ?_ | refine wp_not ?_ | refine wp_neg ?_ | refine wp_cmp ?_ | refine wp_call ?_ | refine wp_callK ?_ | refine wp_ite ?_ | refine wp_tup ?_ | refine wp_lst ?_ | refine wp_inst ?_ | refine wx_setT ?_ | refine wx_expr ?_ | refine wp_sl ?_ | refine wp_onon ?_ | refine wp_osome ?_ | refine wp_fz ?_ | refine wp_nil ?_ | refine wx_raise ?_ | refine wx_pass ?_ | refine ex_int ?_ | refine wp_slt ?_)
  refine wp_imp (are_ok m.p.int m.p.tup m.p.are hk hi) ?_
  rintro r S1 ⟨rfl, rfl⟩
  refine ⟨_, rfl, _, rfl, fun h1 => ?_, fun h1 => ?_⟩
  · repeat (first | ((with_reducible refine wp_vr ?_); refine ⟨_, rfl, ?_⟩) | with_reducible first | refine wp_cst ?_ | refine wp_bin ?_ | refine wp_ix ?_ | refine wp_add ?_ | refine wp_sub ?_ | refine wp_int ?_ | refine wp_bif ?_ | refine wp_irs ?_ | refine wp_irs0 ?_ | refine wx_sts ?_ | refine wx_sts0 ?_ | refine wx_set ?_ | refine wx_ret ?_ | refine wx_setIx ?_ | refine wx_if ?_ | refine wp_and ?_ | refine wp_or ?_ | refine wp_not ?_ | refine wp_neg ?_ | refine wp_cmp ?_ | refine wp_call ?_ | refine wp_callK ?_ | refine wp_ite ?_ | refine wp_tup ?_ | refine wp_lst ?_ | refine wp_inst ?_ | refine wx_setT ?_ | refine wx_expr ?_ | refine wp_sl ?_ | refine wp_onon ?_ | refine wp_osome ?_ | refine wp_fz ?_ | refine wp_nil ?_ | refine wx_raise ?_ | refine wx_pass ?_ | refine ex_int ?_ | refine wp_slt ?_)
    refine wp_imp (are_ok m.p.int m.p.tup m.p.are hk hi) ?_
    rintro r S2 ⟨rfl, rfl⟩
    rw [ints_eq] at h1 ⊢
    refine ⟨_, rfl, _, rfl, fun h2 => ?_, fun h2 => ?_⟩
    · exfalso
      simp at h1 h2
      omega
    · exact wx_sts0 (go _ rfl)
  · refine ⟨_, rfl, fun z => Bool.noConfusion (h1.symm.trans z), fun _ => ?_⟩
    exact wx_sts0 (go _ rfl)
end
end Pv

/-! the law's asking, copies, blame. -/
namespace Pv
open PySem
def copyB : STs := sts [.ret true (.ite (.inst (.var 0) [.list]) (.bif .list (irs [.var 0])) (.ite (.inst (.var 0) [.dict]) (.bif .dict (irs [.var 0])) (.var 0)))]
def blamB : STs := sts [.iff (.not (.call "_law_same" (irs [.var 0, .var 1]))) (sts [.ret false (.cst (.bl false))]) (sts []), .iff (.inst (.var 1) [.list]) (sts [.expr (.app (.var 1) (.cst (.int 7)))]) (sts []), .iff (.inst (.var 1) [.dict]) (sts [.setIx (.var 1) (.cst (.str "more")) (.cst (.int 7))]) (sts []), .ret false (.call "_law_same" (irs [.var 0, .var 1]))]
/-- a value to hand over, that stands for a value -/
inductive Given (S : Store) (v : D) : D → Store → Prop
  | same (h : v.f2) (hl : ∀ xs, v ≠ .lst xs) : Given S v v S
  | list (xs : List D) (e : v = .lst xs) (h : v.f2) : Given S v (.ref S.length) (S ++ [.lst xs])
  | dict (e : v = .dct [] []) : Given S v (.ref S.length) (S ++ [.dct [] []])
section
variable {G : Sig} {fs : List Fn} {es : List Ec} {E : Exn → Store → Prop}
theorem copy_ok (dc : DefO fs "_law_copy" 1 1 copyB) {k : Nat} {S : Store} {v : D} (h : Val v) : Wp (fns G fs es (k + 1) "_law_copy" [v] S) (fun d S' => Given S v d S') E := by
  refine wp_defO dc rfl ?_
  unfold copyB
  rcases h with h | rfl
  · cases v with
    | lst xs =>
      repeat (first | ((with_reducible refine wp_vr ?_); refine ⟨_, rfl, ?_⟩) | with_reducible first | refine wp_cst ?_ | refine wp_bin ?_ | refine wp_ix ?_ | refine wp_add ?_ | refine wp_sub ?_ | refine wp_int ?_ | refine wp_bif ?_ | refine wp_irs ?_ | refine wp_irs0 ?_ | refine wx_sts ?_ | refine wx_sts0 ?_ | refine wx_set ?_ | refine wx_ret ?_ | refine wx_setIx ?_ | refine wx_if ?_ | refine wp_and ?_ | refine wp_or ?_ | refine wp_not ?_ | refine wp_neg ?_ | refine wp_cmp ?_ | refine wp_call ?_ | refine wp_callK ?_ | refine wp_ite ?_ | refine wp_tup ?_ | refine wp_lst ?_ | refine wp_inst ?_ | refine wx_setT ?_ | refine wx_expr ?_ | refine wp_sl ?_ | refine wp_onon ?_ | refine wp_osome ?_ | refine wp_fz ?_ | refine wp_nil ?_ | refine wx_raise ?_ | refine wx_pass ?_ | refine ex_int ?_ | refine wp_slt ?_)
      refine ⟨true, rfl, _, rfl, fun _ => ?_, fun z => Bool.noConfusion z⟩
      repeat (first | ((with_reducible refine wp_vr ?_); refine ⟨_, rfl, ?_⟩) | with_reducible first | refine wp_cst ?_ | refine wp_bin ?_ | refine wp_ix ?_ | refine wp_add ?_ | refine wp_sub ?_ | refine wp_int ?_ | refine wp_bif ?_ | refine wp_irs ?_ | refine wp_irs0 ?_ | refine wx_sts ?_ | refine wx_sts0 ?_ | refine wx_set ?_ | refine wx_ret ?_ | refine wx_setIx ?_ | refine wx_if ?_ | refine wp_and ?_ | refine wp_or ?_ | refine wp_not ?_ | refine wp_neg ?_ | refine wp_cmp ?_ | refine wp_call ?_ | refine wp_callK ?_ | refine wp_ite ?_ | refine wp_tup ?_ | refine wp_lst ?_ | refine wp_inst ?_ | refine wx_setT ?_ | refine wx_expr ?_ | refine wp_sl ?_ | refine wp_onon ?_ | refine wp_osome ?_ | refine wp_fz ?_ | refine wp_nil ?_ | refine wx_raise ?_ | refine wx_pass ?_ | refine ex_int ?_ | refine wp_slt ?_)
      exact ⟨_, rfl, .list xs rfl h⟩
    | dct ks vs => exact (show False from h).elim
    | ref n => exact (show False from h).elim
    | _ =>
      repeat (first | ((with_reducible refine wp_vr ?_); refine ⟨_, rfl, ?_⟩) | with_reducible first | refine wp_cst ?_ | refine wp_bin ?_ | refine wp_ix ?_ | refine wp_add ?_ | refine wp_sub ?_ | refine wp_int ?_ | refine wp_bif ?_ | refine wp_irs ?_ | refine wp_irs0 ?_ | refine wx_sts ?_ | refine wx_sts0 ?_ | refine wx_set ?_ | refine wx_ret ?_ | refine wx_setIx ?_ | refine wx_if ?_ | refine wp_and ?_ | refine wp_or ?_ | refine wp_not ?_ | refine wp_neg ?_ | refine wp_cmp ?_ | refine wp_call ?_ | refine wp_callK ?_ | refine wp_ite ?_ | refine wp_tup ?_ | refine wp_lst ?_ | refine wp_inst ?_ | refine wx_setT ?_ | refine wx_expr ?_ | refine wp_sl ?_ | refine wp_onon ?_ | refine wp_osome ?_ | refine wp_fz ?_ | refine wp_nil ?_ | refine wx_raise ?_ | refine wx_pass ?_ | refine ex_int ?_ | refine wp_slt ?_)
      refine ⟨false, rfl, _, rfl, fun z => Bool.noConfusion z, fun _ => ?_⟩
      repeat (first | ((with_reducible refine wp_vr ?_); refine ⟨_, rfl, ?_⟩) | with_reducible first | refine wp_cst ?_ | refine wp_bin ?_ | refine wp_ix ?_ | refine wp_add ?_ | refine wp_sub ?_ | refine wp_int ?_ | refine wp_bif ?_ | refine wp_irs ?_ | refine wp_irs0 ?_ | refine wx_sts ?_ | refine wx_sts0 ?_ | refine wx_set ?_ | refine wx_ret ?_ | refine wx_setIx ?_ | refine wx_if ?_ | refine wp_and ?_ | refine wp_or ?_ | refine wp_not ?_ | refine wp_neg ?_ | refine wp_cmp ?_ | refine wp_call ?_ | refine wp_callK ?_ | refine wp_ite ?_ | refine wp_tup ?_ | refine wp_lst ?_ | refine wp_inst ?_ | refine wx_setT ?_ | refine wx_expr ?_ | refine wp_sl ?_ | refine wp_onon ?_ | refine wp_osome ?_ | refine wp_fz ?_ | refine wp_nil ?_ | refine wx_raise ?_ | refine wx_pass ?_ | refine ex_int ?_ | refine wp_slt ?_)
      refine ⟨false, rfl, _, rfl, fun z => Bool.noConfusion z, fun _ => ?_⟩
      repeat (first | ((with_reducible refine wp_vr ?_); refine ⟨_, rfl, ?_⟩) | with_reducible first | refine wp_cst ?_ | refine wp_bin ?_ | refine wp_ix ?_ | refine wp_add ?_ | refine wp_sub ?_ | refine wp_int ?_ | refine wp_bif ?_ | refine wp_irs ?_ | refine wp_irs0 ?_ | refine wx_sts ?_ | refine wx_sts0 ?_ | refine wx_set ?_ | refine wx_ret ?_ | refine wx_setIx ?_ | refine wx_if ?_ | refine wp_and ?_ | refine wp_or ?_ | refine wp_not ?_ | refine wp_neg ?_ | refine wp_cmp ?_ | refine wp_call ?_ | refine wp_callK ?_ | refine wp_ite ?_ | refine wp_tup ?_ | refine wp_lst ?_ | refine wp_inst ?_ | refine wx_setT ?_ | refine wx_expr ?_ | refine wp_sl ?_ | refine wp_onon ?_ | refine wp_osome ?_ | refine wp_fz ?_ | refine wp_nil ?_ | refine wx_raise ?_ | refine wx_pass ?_ | refine ex_int ?_ | refine wp_slt ?_)
      exact ⟨_, rfl, .same h fun _ e => (by cases e)⟩
  · repeat (first | ((with_reducible refine wp_vr ?_); refine ⟨_, rfl, ?_⟩) | with_reducible first | refine wp_cst ?_ | refine wp_bin ?_ | refine wp_ix ?_ | refine wp_add ?_ | refine wp_sub ?_ | refine wp_int ?_ | refine wp_bif ?_ | refine wp_irs ?_ | refine wp_irs0 ?_ | refine wx_sts ?_ | refine wx_sts0 ?_ | refine wx_set ?_ | refine wx_ret ?_ | refine wx_setIx ?_ | refine wx_if ?_ | refine wp_and ?_ | refine wp_or ?_ | refine wp_not ?_ | refine wp_neg ?_ | refine wp_cmp ?_ | refine wp_call ?_ | refine wp_callK ?_ | refine wp_ite ?_ | refine wp_tup ?_ | refine wp_lst ?_ | refine wp_inst ?_ | refine wx_setT ?_ | refine wx_expr ?_ | refine wp_sl ?_ | refine wp_onon ?_ | refine wp_osome ?_ | refine wp_fz ?_ | refine wp_nil ?_ | refine wx_raise ?_ | refine wx_pass ?_ | refine ex_int ?_ | refine wp_slt ?_)
    refine ⟨false, rfl, _, rfl, fun z => Bool.noConfusion z, fun _ => ?_⟩
    repeat (first | ((with_reducible refine wp_vr ?_); refine ⟨_, rfl, ?_⟩) | with_reducible first | refine wp_cst ?_ | refine wp_bin ?_ | refine wp_ix ?_ | refine wp_add ?_ | refine wp_sub ?_ | refine wp_int ?_ | refine wp_bif ?_ | refine wp_irs ?_ | refine wp_irs0 ?_ | refine wx_sts ?_ | refine wx_sts0 ?_ | refine wx_set ?_ | refine wx_ret ?_ | refine wx_setIx ?_ | refine wx_if ?_ | refine wp_and ?_ | refine wp_or ?_ | refine wp_not ?_ | refine wp_neg ?_ | refine wp_cmp ?_ | refine wp_call ?_ | refine wp_callK ?_ | refine wp_ite ?_ | refine wp_tup ?_ | refine wp_lst ?_ | refine wp_inst ?_ | refine wx_setT ?_ | refine wx_expr ?_ | refine wp_sl ?_ | refine wp_onon ?_ | refine wp_osome ?_ | refine wp_fz ?_ | refine wp_nil ?_ | refine wx_raise ?_ | refine wx_pass ?_ | refine ex_int ?_ | refine wp_slt ?_)
    refine ⟨true, rfl, _, rfl, fun _ => ?_, fun z => Bool.noConfusion z⟩
    repeat (first | ((with_reducible refine wp_vr ?_); refine ⟨_, rfl, ?_⟩) | with_reducible first | refine wp_cst ?_ | refine wp_bin ?_ | refine wp_ix ?_ | refine wp_add ?_ | refine wp_sub ?_ | refine wp_int ?_ | refine wp_bif ?_ | refine wp_irs ?_ | refine wp_irs0 ?_ | refine wx_sts ?_ | refine wx_sts0 ?_ | refine wx_set ?_ | refine wx_ret ?_ | refine wx_setIx ?_ | refine wx_if ?_ | refine wp_and ?_ | refine wp_or ?_ | refine wp_not ?_ | refine wp_neg ?_ | refine wp_cmp ?_ | refine wp_call ?_ | refine wp_callK ?_ | refine wp_ite ?_ | refine wp_tup ?_ | refine wp_lst ?_ | refine wp_inst ?_ | refine wx_setT ?_ | refine wx_expr ?_ | refine wp_sl ?_ | refine wp_onon ?_ | refine wp_osome ?_ | refine wp_fz ?_ | refine wp_nil ?_ | refine wx_raise ?_ | refine wx_pass ?_ | refine ex_int ?_ | refine wp_slt ?_)
    exact ⟨_, rfl, .dict rfl⟩
/-- what changed: the given object at most -/
def Only (d : D) (S S' : Store) : Prop := S'.length = S.length ∧ ∀ j, d ≠ .ref j → S'[j]? = S[j]?
theorem Only.refl {d : D} {S : Store} : Only d S S := ⟨rfl, fun _ _ => rfl⟩
theorem get_new {S : Store} {o : O} : (S ++ [o])[S.length]? = some o := by simp
theorem blam_ok (ds : Def fs "_law_same" 2 4 sameB) (db : Def fs "_law_blamed" 2 2 blamB) {k : Nat} {S0 S : Store} {v d : D} (h : Given S0 v d S) : Wp (fns G fs es (k + 5) "_law_blamed" [d, d] S) (fun r S' => r = .bl true ∧ Only d S S') E := by
  refine wp_def db rfl ?_
  unfold blamB
  cases h with
  | same h hl =>
    have sm : ∀ E : Exn → Store → Prop, Wp (fns G fs es (k + 4) "_law_same" [v, v] S0) (fun r S' => r = .bl true ∧ S' = S0) E := fun E => same_refl ds 2 v (k + 3) S0 E h.pl (by omega)
    have i1 : instOf S0 v [.list] = some false := by
      cases v with
      | lst xs => exact absurd rfl (hl xs)
      | dct ks vs => exact (show False from h).elim
      | ref n => exact (show False from h).elim
      | _ => rfl
    have i2 : instOf S0 v [.dict] = some false := by
      cases v with
      | dct ks vs => exact (show False from h).elim
      | ref n => exact (show False from h).elim
      | _ => rfl
    repeat (first | ((with_reducible refine wp_vr ?_); refine ⟨_, rfl, ?_⟩) | with_reducible first | refine wp_cst ?_ | refine wp_bin ?_ | refine wp_ix ?_ | refine wp_add ?_ | refine wp_sub ?_ | refine wp_int ?_ | refine wp_bif ?_ | refine wp_irs ?_ | refine wp_irs0 ?_ | refine wx_sts ?_ | refine wx_sts0 ?_ | refine wx_set ?_ | refine wx_ret ?_ | refine wx_setIx ?_ | refine wx_if ?_ | refine wp_and ?_ | refine wp_or ?_ | refine wp_not ?_ | refine wp_neg ?_ | refine wp_cmp ?_ | refine wp_call ?_ | refine wp_callK ?_ | refine wp_ite ?_ | refine wp_tup ?_ | refine wp_lst ?_ | refine wp_inst ?_ | refine wx_setT ?_ | refine wx_expr ?_ | refine wp_sl ?_ | refine wp_onon ?_ | refine wp_osome ?_ | refine wp_fz ?_ | refine wp_nil ?_ | refine wx_raise ?_ | refine wx_pass ?_ | refine ex_int ?_ | refine wp_slt ?_)
    refine wp_imp (sm _) ?_
    rintro r S1 ⟨rfl, rfl⟩
    refine ⟨_, rfl, _, rfl, fun z => Bool.noConfusion z, fun _ => ?_⟩
    repeat (first | ((with_reducible refine wp_vr ?_); refine ⟨_, rfl, ?_⟩) | with_reducible first | refine wp_cst ?_ | refine wp_bin ?_ | refine wp_ix ?_ | refine wp_add ?_ | refine wp_sub ?_ | refine wp_int ?_ | refine wp_bif ?_ | refine wp_irs ?_ | refine wp_irs0 ?_ | refine wx_sts ?_ | refine wx_sts0 ?_ | refine wx_set ?_ | refine wx_ret ?_ | refine wx_setIx ?_ | refine wx_if ?_ | refine wp_and ?_ | refine wp_or ?_ | refine wp_not ?_ | refine wp_neg ?_ | refine wp_cmp ?_ | refine wp_call ?_ | refine wp_callK ?_ | refine wp_ite ?_ | refine wp_tup ?_ | refine wp_lst ?_ | refine wp_inst ?_ | refine wx_setT ?_ | refine wx_expr ?_ | refine wp_sl ?_ | refine wp_onon ?_ | refine wp_osome ?_ | refine wp_fz ?_ | refine wp_nil ?_ | refine wx_raise ?_ | refine wx_pass ?_ | refine ex_int ?_ | refine wp_slt ?_)
    refine ⟨_, i1, _, rfl, fun z => Bool.noConfusion z, fun _ => ?_⟩
    repeat (first | ((with_reducible refine wp_vr ?_); refine ⟨_, rfl, ?_⟩) | with_reducible first | refine wp_cst ?_ | refine wp_bin ?_ | refine wp_ix ?_ | refine wp_add ?_ | refine wp_sub ?_ | refine wp_int ?_ | refine wp_bif ?_ | refine wp_irs ?_ | refine wp_irs0 ?_ | refine wx_sts ?_ | refine wx_sts0 ?_ | refine wx_set ?_ | refine wx_ret ?_ | refine wx_setIx ?_ | refine wx_if ?_ | refine wp_and ?_ | refine wp_or ?_ | refine wp_not ?_ | refine wp_neg ?_ | refine wp_cmp ?_ | refine wp_call ?_ | refine wp_callK ?_ | refine wp_ite ?_ | refine wp_tup ?_ | refine wp_lst ?_ | refine wp_inst ?_ | refine wx_setT ?_ | refine wx_expr ?_ | refine wp_sl ?_ | refine wp_onon ?_ | refine wp_osome ?_ | refine wp_fz ?_ | refine wp_nil ?_ | refine wx_raise ?_ | refine wx_pass ?_ | refine ex_int ?_ | refine wp_slt ?_)
    refine ⟨_, i2, _, rfl, fun z => Bool.noConfusion z, fun _ => ?_⟩
    repeat (first | ((with_reducible refine wp_vr ?_); refine ⟨_, rfl, ?_⟩) | with_reducible first | refine wp_cst ?_ | refine wp_bin ?_ | refine wp_ix ?_ | refine wp_add ?_ | refine wp_sub ?_ | refine wp_int ?_ | refine wp_bif ?_ | refine wp_irs ?_ | refine wp_irs0 ?_ | refine wx_sts ?_ | refine wx_sts0 ?_ | refine wx_set ?_ | refine wx_ret ?_ | refine wx_setIx ?_ | refine wx_if ?_ | refine wp_and ?_ | refine wp_or ?_ | refine wp_not ?_ | refine wp_neg ?_ | refine wp_cmp ?_ | refine wp_call ?_ | refine wp_callK ?_ | refine wp_ite ?_ | refine wp_tup ?_ | refine wp_lst ?_ | refine wp_inst ?_ | refine wx_setT ?_ | refine wx_expr ?_ | refine wp_sl ?_ | refine wp_onon ?_ | refine wp_osome ?_ | refine wp_fz ?_ | refine wp_nil ?_ | refine wx_raise ?_ | refine wx_pass ?_ | refine ex_int ?_ | refine wp_slt ?_)
    refine wp_imp (sm _) ?_
    rintro r S2 ⟨rfl, rfl⟩
    exact ⟨_, rfl, rfl, rfl, by rw [List.take_length]; exact .refl⟩
  | list xs e h =>
    subst e
    obtain ⟨hl, hx⟩ : xs.length ≤ 40 ∧ ∀ x ∈ xs, D.f1 x := h
    have hn : (S0 ++ [O.lst xs])[S0.length]? = some (.lst xs) := get_new
    have hlt : S0.length < (S0 ++ [O.lst xs]).length := by simp
    generalize S0 ++ [O.lst xs] = S at hn hlt
    generalize S0.length = n at hn hlt
    have i1 : ∀ (S : Store) ys, S[n]? = some (.lst ys) → instOf S (.ref n) [.list] = some true ∧ instOf S (.ref n) [.dict] = some false := by
      intro S ys hS
      have h2 : tyOf S (.ref n) = some .list := by
        unfold tyOf
        dsimp only
        rw [hS]
      exact ⟨inst_of h2, inst_of h2⟩
    repeat (first | ((with_reducible refine wp_vr ?_); refine ⟨_, rfl, ?_⟩) | with_reducible first | refine wp_cst ?_ | refine wp_bin ?_ | refine wp_ix ?_ | refine wp_add ?_ | refine wp_sub ?_ | refine wp_int ?_ | refine wp_bif ?_ | refine wp_irs ?_ | refine wp_irs0 ?_ | refine wx_sts ?_ | refine wx_sts0 ?_ | refine wx_set ?_ | refine wx_ret ?_ | refine wx_setIx ?_ | refine wx_if ?_ | refine wp_and ?_ | refine wp_or ?_ | refine wp_not ?_ | refine wp_neg ?_ | refine wp_cmp ?_ | refine wp_call ?_ | refine wp_callK ?_ | refine wp_ite ?_ | refine wp_tup ?_ | refine wp_lst ?_ | refine wp_inst ?_ | refine wx_setT ?_ | refine wx_expr ?_ | refine wp_sl ?_ | refine wp_onon ?_ | refine wp_osome ?_ | refine wp_fz ?_ | refine wp_nil ?_ | refine wx_raise ?_ | refine wx_pass ?_ | refine ex_int ?_ | refine wp_slt ?_)
    refine wp_imp (same_ref ds (n := 1) hn (Nat.le_trans hl (by decide)) (List.all_eq_true.mpr fun x hx' => (hx x hx').pl) (by omega)) ?_
    rintro r S1 ⟨rfl, rfl⟩
    refine ⟨_, rfl, _, rfl, fun z => Bool.noConfusion z, fun _ => ?_⟩
    repeat (first | ((with_reducible refine wp_vr ?_); refine ⟨_, rfl, ?_⟩) | with_reducible first | refine wp_cst ?_ | refine wp_bin ?_ | refine wp_ix ?_ | refine wp_add ?_ | refine wp_sub ?_ | refine wp_int ?_ | refine wp_bif ?_ | refine wp_irs ?_ | refine wp_irs0 ?_ | refine wx_sts ?_ | refine wx_sts0 ?_ | refine wx_set ?_ | refine wx_ret ?_ | refine wx_setIx ?_ | refine wx_if ?_ | refine wp_and ?_ | refine wp_or ?_ | refine wp_not ?_ | refine wp_neg ?_ | refine wp_cmp ?_ | refine wp_call ?_ | refine wp_callK ?_ | refine wp_ite ?_ | refine wp_tup ?_ | refine wp_lst ?_ | refine wp_inst ?_ | refine wx_setT ?_ | refine wx_expr ?_ | refine wp_sl ?_ | refine wp_onon ?_ | refine wp_osome ?_ | refine wp_fz ?_ | refine wp_nil ?_ | refine wx_raise ?_ | refine wx_pass ?_ | refine ex_int ?_ | refine wp_slt ?_)
    refine ⟨_, (i1 _ _ hn).1, _, rfl, fun _ => ?_, fun z => Bool.noConfusion z⟩
    repeat (first | ((with_reducible refine wp_vr ?_); refine ⟨_, rfl, ?_⟩) | with_reducible first | refine wp_cst ?_ | refine wp_bin ?_ | refine wp_ix ?_ | refine wp_add ?_ | refine wp_sub ?_ | refine wp_int ?_ | refine wp_bif ?_ | refine wp_irs ?_ | refine wp_irs0 ?_ | refine wx_sts ?_ | refine wx_sts0 ?_ | refine wx_set ?_ | refine wx_ret ?_ | refine wx_setIx ?_ | refine wx_if ?_ | refine wp_and ?_ | refine wp_or ?_ | refine wp_not ?_ | refine wp_neg ?_ | refine wp_cmp ?_ | refine wp_call ?_ | refine wp_callK ?_ | refine wp_ite ?_ | refine wp_tup ?_ | refine wp_lst ?_ | refine wp_inst ?_ | refine wx_setT ?_ | refine wx_expr ?_ | refine wp_sl ?_ | refine wp_onon ?_ | refine wp_osome ?_ | refine wp_fz ?_ | refine wp_nil ?_ | refine wx_raise ?_ | refine wx_pass ?_ | refine ex_int ?_ | refine wp_slt ?_)
    refine wp_app ?_
    repeat (first | ((with_reducible refine wp_vr ?_); refine ⟨_, rfl, ?_⟩) | with_reducible first | refine wp_cst ?_ | refine wp_bin ?_ | refine wp_ix ?_ | refine wp_add ?_ | refine wp_sub ?_ | refine wp_int ?_ | refine wp_bif ?_ | refine wp_irs ?_ | refine wp_irs0 ?_ | refine wx_sts ?_ | refine wx_sts0 ?_ | refine wx_set ?_ | refine wx_ret ?_ | refine wx_setIx ?_ | refine wx_if ?_ | refine wp_and ?_ | refine wp_or ?_ | refine wp_not ?_ | refine wp_neg ?_ | refine wp_cmp ?_ | refine wp_call ?_ | refine wp_callK ?_ | refine wp_ite ?_ | refine wp_tup ?_ | refine wp_lst ?_ | refine wp_inst ?_ | refine wx_setT ?_ | refine wx_expr ?_ | refine wp_sl ?_ | refine wp_onon ?_ | refine wp_osome ?_ | refine wp_fz ?_ | refine wp_nil ?_ | refine wx_raise ?_ | refine wx_pass ?_ | refine ex_int ?_ | refine wp_slt ?_)
    refine ⟨n, xs, rfl, hn, ?_⟩
    repeat (first | ((with_reducible refine wp_vr ?_); refine ⟨_, rfl, ?_⟩) | with_reducible first | refine wp_cst ?_ | refine wp_bin ?_ | refine wp_ix ?_ | refine wp_add ?_ | refine wp_sub ?_ | refine wp_int ?_ | refine wp_bif ?_ | refine wp_irs ?_ | refine wp_irs0 ?_ | refine wx_sts ?_ | refine wx_sts0 ?_ | refine wx_set ?_ | refine wx_ret ?_ | refine wx_setIx ?_ | refine wx_if ?_ | refine wp_and ?_ | refine wp_or ?_ | refine wp_not ?_ | refine wp_neg ?_ | refine wp_cmp ?_ | refine wp_call ?_ | refine wp_callK ?_ | refine wp_ite ?_ | refine wp_tup ?_ | refine wp_lst ?_ | refine wp_inst ?_ | refine wx_setT ?_ | refine wx_expr ?_ | refine wp_sl ?_ | refine wp_onon ?_ | refine wp_osome ?_ | refine wp_fz ?_ | refine wp_nil ?_ | refine wx_raise ?_ | refine wx_pass ?_ | refine ex_int ?_ | refine wp_slt ?_)
    refine ⟨xs, hn, ⟨Nat.lt_of_le_of_lt hl (by decide), .inr rfl⟩, ?_⟩
    repeat (first | ((with_reducible refine wp_vr ?_); refine ⟨_, rfl, ?_⟩) | with_reducible first | refine wp_cst ?_ | refine wp_bin ?_ | refine wp_ix ?_ | refine wp_add ?_ | refine wp_sub ?_ | refine wp_int ?_ | refine wp_bif ?_ | refine wp_irs ?_ | refine wp_irs0 ?_ | refine wx_sts ?_ | refine wx_sts0 ?_ | refine wx_set ?_ | refine wx_ret ?_ | refine wx_setIx ?_ | refine wx_if ?_ | refine wp_and ?_ | refine wp_or ?_ | refine wp_not ?_ | refine wp_neg ?_ | refine wp_cmp ?_ | refine wp_call ?_ | refine wp_callK ?_ | refine wp_ite ?_ | refine wp_tup ?_ | refine wp_lst ?_ | refine wp_inst ?_ | refine wx_setT ?_ | refine wx_expr ?_ | refine wp_sl ?_ | refine wp_onon ?_ | refine wp_osome ?_ | refine wp_fz ?_ | refine wp_nil ?_ | refine wx_raise ?_ | refine wx_pass ?_ | refine ex_int ?_ | refine wp_slt ?_)
    have hn2 : (S1.set n (.lst (xs ++ [.int 7])))[n]? = some (.lst (xs ++ [.int 7])) := List.getElem?_set_self hlt
    refine ⟨_, (i1 _ _ hn2).2, _, rfl, fun z => Bool.noConfusion z, fun _ => ?_⟩
    repeat (first | ((with_reducible refine wp_vr ?_); refine ⟨_, rfl, ?_⟩) | with_reducible first | refine wp_cst ?_ | refine wp_bin ?_ | refine wp_ix ?_ | refine wp_add ?_ | refine wp_sub ?_ | refine wp_int ?_ | refine wp_bif ?_ | refine wp_irs ?_ | refine wp_irs0 ?_ | refine wx_sts ?_ | refine wx_sts0 ?_ | refine wx_set ?_ | refine wx_ret ?_ | refine wx_setIx ?_ | refine wx_if ?_ | refine wp_and ?_ | refine wp_or ?_ | refine wp_not ?_ | refine wp_neg ?_ | refine wp_cmp ?_ | refine wp_call ?_ | refine wp_callK ?_ | refine wp_ite ?_ | refine wp_tup ?_ | refine wp_lst ?_ | refine wp_inst ?_ | refine wx_setT ?_ | refine wx_expr ?_ | refine wp_sl ?_ | refine wp_onon ?_ | refine wp_osome ?_ | refine wp_fz ?_ | refine wp_nil ?_ | refine wx_raise ?_ | refine wx_pass ?_ | refine ex_int ?_ | refine wp_slt ?_)
    refine wp_imp (same_ref ds (n := 1) hn2 (by rw [List.length_append]; show xs.length + 1 ≤ LIM; unfold LIM; omega) (List.all_eq_true.mpr fun x hx' => ?_) (by omega)) ?_
    · rcases List.mem_append.mp hx' with hx' | hx'
      · exact (hx x hx').pl
      · rcases List.mem_cons.mp hx' with rfl | hx'
        · rfl
        · cases hx'
    rintro r S2 ⟨rfl, rfl⟩
    refine ⟨_, rfl, rfl, rfl, ?_⟩
    have e : (S1.set n (.lst (xs ++ [.int 7]))).take S1.length = S1.set n (.lst (xs ++ [.int 7])) := by
      have := List.take_length (l := S1.set n (.lst (xs ++ [.int 7])))
      rw [List.length_set] at this
      exact this
    rw [e]
    exact ⟨List.length_set, fun j hj => List.getElem?_set_ne fun z => hj (by rw [z])⟩
  | dict e =>
    subst e
    have hn : (S0 ++ [O.dct [] []])[S0.length]? = some (.dct [] []) := get_new
    have hlt : S0.length < (S0 ++ [O.dct [] []]).length := by simp
    generalize S0 ++ [O.dct [] []] = S at hn hlt
    generalize S0.length = n at hn hlt
    have i1 : ∀ (S : Store) ks vs, S[n]? = some (.dct ks vs) → instOf S (.ref n) [.list] = some false ∧ instOf S (.ref n) [.dict] = some true := by
      intro S ks vs hS
      have h2 : tyOf S (.ref n) = some .dict := by
        unfold tyOf
        dsimp only
        rw [hS]
      exact ⟨inst_of h2, inst_of h2⟩
    repeat (first | ((with_reducible refine wp_vr ?_); refine ⟨_, rfl, ?_⟩) | with_reducible first | refine wp_cst ?_ | refine wp_bin ?_ | refine wp_ix ?_ | refine wp_add ?_ | refine wp_sub ?_ | refine wp_int ?_ | refine wp_bif ?_ | refine wp_irs ?_ | refine wp_irs0 ?_ | refine wx_sts ?_ | refine wx_sts0 ?_ | refine wx_set ?_ | refine wx_ret ?_ | refine wx_setIx ?_ | refine wx_if ?_ | refine wp_and ?_ | refine wp_or ?_ | refine wp_not ?_ | refine wp_neg ?_ | refine wp_cmp ?_ | refine wp_call ?_ | refine wp_callK ?_ | refine wp_ite ?_ | refine wp_tup ?_ | refine wp_lst ?_ | refine wp_inst ?_ | refine wx_setT ?_ | refine wx_expr ?_ | refine wp_sl ?_ | refine wp_onon ?_ | refine wp_osome ?_ | refine wp_fz ?_ | refine wp_nil ?_ | refine wx_raise ?_ | refine wx_pass ?_ | refine ex_int ?_ | refine wp_slt ?_)
    refine wp_imp (same_refD ds (n := 1) hn (by decide) (fun q hq => by cases hq) (by omega)) ?_
    rintro r S1 ⟨rfl, rfl⟩
    refine ⟨_, rfl, _, rfl, fun z => Bool.noConfusion z, fun _ => ?_⟩
    repeat (first | ((with_reducible refine wp_vr ?_); refine ⟨_, rfl, ?_⟩) | with_reducible first | refine wp_cst ?_ | refine wp_bin ?_ | refine wp_ix ?_ | refine wp_add ?_ | refine wp_sub ?_ | refine wp_int ?_ | refine wp_bif ?_ | refine wp_irs ?_ | refine wp_irs0 ?_ | refine wx_sts ?_ | refine wx_sts0 ?_ | refine wx_set ?_ | refine wx_ret ?_ | refine wx_setIx ?_ | refine wx_if ?_ | refine wp_and ?_ | refine wp_or ?_ | refine wp_not ?_ | refine wp_neg ?_ | refine wp_cmp ?_ | refine wp_call ?_ | refine wp_callK ?_ | refine wp_ite ?_ | refine wp_tup ?_ | refine wp_lst ?_ | refine wp_inst ?_ | refine wx_setT ?_ | refine wx_expr ?_ | refine wp_sl ?_ | refine wp_onon ?_ | refine wp_osome ?_ | refine wp_fz ?_ | refine wp_nil ?_ | refine wx_raise ?_ | refine wx_pass ?_ | refine ex_int ?_ | refine wp_slt ?_)
    refine ⟨_, (i1 _ _ _ hn).1, _, rfl, fun z => Bool.noConfusion z, fun _ => ?_⟩
    repeat (first | ((with_reducible refine wp_vr ?_); refine ⟨_, rfl, ?_⟩) | with_reducible first | refine wp_cst ?_ | refine wp_bin ?_ | refine wp_ix ?_ | refine wp_add ?_ | refine wp_sub ?_ | refine wp_int ?_ | refine wp_bif ?_ | refine wp_irs ?_ | refine wp_irs0 ?_ | refine wx_sts ?_ | refine wx_sts0 ?_ | refine wx_set ?_ | refine wx_ret ?_ | refine wx_setIx ?_ | refine wx_if ?_ | refine wp_and ?_ | refine wp_or ?_ | refine wp_not ?_ | refine wp_neg ?_ | refine wp_cmp ?_ | refine wp_call ?_ | refine wp_callK ?_ | refine wp_ite ?_ | refine wp_tup ?_ | refine wp_lst ?_ | refine wp_inst ?_ | refine wx_setT ?_ | refine wx_expr ?_ | refine wp_sl ?_ | refine wp_onon ?_ | refine wp_osome ?_ | refine wp_fz ?_ | refine wp_nil ?_ | refine wx_raise ?_ | refine wx_pass ?_ | refine ex_int ?_ | refine wp_slt ?_)
    refine ⟨_, (i1 _ _ _ hn).2, _, rfl, fun _ => ?_, fun z => Bool.noConfusion z⟩
    repeat (first | ((with_reducible refine wp_vr ?_); refine ⟨_, rfl, ?_⟩) | with_reducible first | refine wp_cst ?_ | refine wp_bin ?_ | refine wp_ix ?_ | refine wp_add ?_ | refine wp_sub ?_ | refine wp_int ?_ | refine wp_bif ?_ | refine wp_irs ?_ | refine wp_irs0 ?_ | refine wx_sts ?_ | refine wx_sts0 ?_ | refine wx_set ?_ | refine wx_ret ?_ | refine wx_setIx ?_ | refine wx_if ?_ | refine wp_and ?_ | refine wp_or ?_ | refine wp_not ?_ | refine wp_neg ?_ | refine wp_cmp ?_ | refine wp_call ?_ | refine wp_callK ?_ | refine wp_ite ?_ | refine wp_tup ?_ | refine wp_lst ?_ | refine wp_inst ?_ | refine wx_setT ?_ | refine wx_expr ?_ | refine wp_sl ?_ | refine wp_onon ?_ | refine wp_osome ?_ | refine wp_fz ?_ | refine wp_nil ?_ | refine wx_raise ?_ | refine wx_pass ?_ | refine ex_int ?_ | refine wp_slt ?_)
    have put : setAt S1.length (.ref n) (.str "more") (.int 7) S1 = some (S1.set n (.dct [.inr "more"] [.int 7])) := by
      unfold setAt
      dsimp only
      rw [hn]
      exact if_pos ⟨by decide, .inr rfl⟩
    refine ⟨_, put, ?_⟩
    repeat (first | ((with_reducible refine wp_vr ?_); refine ⟨_, rfl, ?_⟩) | with_reducible first | refine wp_cst ?_ | refine wp_bin ?_ | refine wp_ix ?_ | refine wp_add ?_ | refine wp_sub ?_ | refine wp_int ?_ | refine wp_bif ?_ | refine wp_irs ?_ | refine wp_irs0 ?_ | refine wx_sts ?_ | refine wx_sts0 ?_ | refine wx_set ?_ | refine wx_ret ?_ | refine wx_setIx ?_ | refine wx_if ?_ | refine wp_and ?_ | refine wp_or ?_ | refine wp_not ?_ | refine wp_neg ?_ | refine wp_cmp ?_ | refine wp_call ?_ | refine wp_callK ?_ | refine wp_ite ?_ | refine wp_tup ?_ | refine wp_lst ?_ | refine wp_inst ?_ | refine wx_setT ?_ | refine wx_expr ?_ | refine wp_sl ?_ | refine wp_onon ?_ | refine wp_osome ?_ | refine wp_fz ?_ | refine wp_nil ?_ | refine wx_raise ?_ | refine wx_pass ?_ | refine ex_int ?_ | refine wp_slt ?_)
    have hn2 : (S1.set n (.dct [.inr "more"] [.int 7]))[n]? = some (.dct [.inr "more"] [.int 7]) := List.getElem?_set_self hlt
    refine wp_imp (same_refD ds (n := 1) hn2 (by decide) (fun q hq => ?_) (by omega)) ?_
    · rcases List.mem_cons.mp hq with rfl | hq
      · exact ⟨.int 7, if_pos rfl, rfl⟩
      · cases hq
    rintro r S2 ⟨rfl, rfl⟩
    refine ⟨_, rfl, rfl, rfl, ?_⟩
    have e : (S1.set n (.dct [.inr "more"] [.int 7])).take S1.length = S1.set n (.dct [.inr "more"] [.int 7]) := by
      have := List.take_length (l := S1.set n (.dct [.inr "more"] [.int 7]))
      rw [List.length_set] at this
      exact this
    rw [e]
    exact ⟨List.length_set, fun j hj => List.getElem?_set_ne fun z => hj (by rw [z])⟩
theorem Given.fit {S0 S : Store} {v d : D} (h : Given S0 v d S) : Fit S d := by
  cases h with
  | same h hl => exact h.fit
  | list xs e h =>
    refine Fit.ref (.inr ⟨.list, ?_⟩)
    unfold tyOf
    dsimp only
    rw [get_new]
  | dict e =>
    refine Fit.ref (.inr ⟨.dict, ?_⟩)
    unfold tyOf
    dsimp only
    rw [get_new]
theorem Given.und {S0 S : Store} {v d : D} (h : Given S0 v d S) {n : Nat} (hn : S.length = n) : d.und n = true := by
  subst hn
  cases h with
  | same h hl => exact h.und _
  | list xs e h => exact decide_eq_true (by simp)
  | dict e => exact decide_eq_true (by simp)
/-- a test that asks for tuples -/
theorem Given.pass {S0 S : Store} {v d : D} (h : Given S0 v d S) {f : D → Bool} (hf : f v = false) (h0 : ∀ n, f (.ref n) = false) : f d = false := by
  cases h with
  | same h hl => exact hf
  | list xs e h => exact h0 _
  | dict e => exact h0 _
end
end Pv

/-! the law's asking. -/
namespace Pv
open PySem
def askB : STs := sts [.tri (sts [.iff (.cmp .eq (.var 0) (.cst (.int 0))) (sts [.ret false (.lst (irs [.cst (.str "told"), .ite (.var 2) (.callK "point_at" (irs []) ["places"] (irs [.var 1])) (.call "point_at" (irs [.var 1]))]))]) (sts []), .iff (.cmp .eq (.var 0) (.cst (.int 1))) (sts [.ret false (.lst (irs [.cst (.str "told"), .ite (.var 2) (.callK "places_of" (irs []) ["point"] (irs [.var 1])) (.call "places_of" (irs [.var 1]))]))]) (sts []), .ret false (.lst (irs [.cst (.str "told"), .ite (.var 2) (.callK "side_of" (irs []) ["numbers"] (irs [.var 1])) (.call "side_of" (irs [.var 1]))]))]) [⟨"InvalidPlaces", ["InvalidPoint", "InvalidNumbers"], some (true, [.str "places", .fld "given"])⟩, ⟨"InvalidPoint", ["InvalidPlaces", "InvalidNumbers"], some (true, [.str "point", .fld "given"])⟩, ⟨"InvalidNumbers", ["InvalidPlaces", "InvalidPoint"], some (true, [.str "numbers", .fld "given"])⟩, ⟨"PolytopeError", [], none⟩]]
section
variable {G : Sig} {fs : List Fn} {es : List Ec} {E : Exn → Store → Prop}
/-- by place and by name -/
theorem both {Γ : Fns} {b : Nat} {md by_ : Bool} {ρ : Env} {S : Store} {f kw : Str} {d : D} {Q : D → Store → Prop} (h : G.ps f = [kw]) (e1 : ρ[1]? = some (some d)) (e2 : ρ[2]? = some (some (.bl by_))) (hc : Wp (Γ f [d] S) Q E) : Wp (IR.run G Γ b md (.ite (.var 2) (.callK f (irs []) [kw] (irs [.var 1])) (.call f (irs [.var 1]))) ρ S) Q E := by
  refine wp_ite (wp_var e2 ⟨by_, rfl, fun _ => ?_, fun _ => ?_⟩)
  · refine wp_callK (wp_irs0 (wp_irs (wp_var e1 (wp_irs0 ?_))))
    rw [h]
    have : bindK [kw] ([] : List D) [kw] [d] = [d] := by
      unfold bindK
      simp [List.lookup]
    rw [this]
    exact hc
  · exact wp_call (wp_irs (wp_var e1 (wp_irs0 hc)))
/-- which is which -/
def Which (w : Int) (f word cls : Str) : Prop := (w = 0 ∧ f = "point_at" ∧ word = "places" ∧ cls = "InvalidPlaces") ∨ (w = 1 ∧ f = "places_of" ∧ word = "point" ∧ cls = "InvalidPoint") ∨ (w = 2 ∧ f = "side_of" ∧ word = "numbers" ∧ cls = "InvalidNumbers")
structure Named (G : Sig) : Prop where
  a : G.ps "point_at" = ([("places" : Str)] : List Str)
  b : G.ps "places_of" = ([("point" : Str)] : List Str)
  c : G.ps "side_of" = ([("numbers" : Str)] : List Str)
theorem asked_ok (da : Def fs "_law_asked" 3 4 askB) (g : Named G) {k : Nat} {S : Store} {d v : D} {w : Int} {f word cls : Str} {by_ : Bool} (hw : Which w f word cls) (hv : v.und S.length = true) (h : Wp (fns G fs es k f [d] S) (fun r S' => r = v ∧ S' = S) (fun _ _ => False)) : Wp (fns G fs es (k + 1) "_law_asked" [.int w, d, .bl by_] S) (fun r S' => r = .lst [.str "told", v] ∧ S' = S) E := by
  have hu : ∀ b, v.und b = true → (D.lst [.str "told", v]).und b = true := fun b h => by
    show (true && (v.und b && true)) = true
    rw [h]
    rfl
  refine wp_defX da rfl ?_
  unfold askB
  refine wx_sts (wx_tri (wp_mono (E := fun _ _ => False) (Q := fun fl S1 => fl = .rt (.lst [.str "told", v]) ∧ S1 = S) ?_ ?_ fun _ _ z => z.elim))
  · rcases hw with ⟨rfl, rfl, rfl, rfl⟩ | ⟨rfl, rfl, rfl, rfl⟩ | ⟨rfl, rfl, rfl, rfl⟩
    · refine wx_sts (wx_if (wp_cmp (wp_var rfl (wp_cst ⟨true, rfl, _, rfl, fun _ => ?_, fun z => Bool.noConfusion z⟩))))
      refine wx_sts (wx_ret (wp_lst (wp_irs (wp_cst (wp_irs (both g.a rfl rfl (wp_imp h ?_)))))))
      rintro r S1 ⟨rfl, rfl⟩
      repeat (first | ((with_reducible refine wp_vr ?_); refine ⟨_, rfl, ?_⟩) | with_reducible first | refine wp_cst ?_ | refine wp_bin ?_ | refine wp_ix ?_ | refine wp_add ?_ | refine wp_sub ?_ | refine wp_int ?_ | refine wp_bif ?_ | refine wp_irs ?_ | refine wp_irs0 ?_ | refine wx_sts ?_ | refine wx_sts0 ?_ | refine wx_set ?_ | refine wx_ret ?_ | refine wx_setIx ?_ | refine wx_if ?_ | refine wp_and ?_ | refine wp_or ?_ | refine wp_not ?_ | refine wp_neg ?_ | refine wp_cmp ?_ | refine wp_call ?_ | refine wp_callK ?_ | refine wp_ite ?_ | refine wp_tup ?_ | refine wp_lst ?_ | refine wp_inst ?_ | refine wx_setT ?_ | refine wx_expr ?_ | refine wp_sl ?_ | refine wp_onon ?_ | refine wp_osome ?_ | refine wp_fz ?_ | refine wp_nil ?_ | refine wx_raise ?_ | refine wx_pass ?_ | refine ex_int ?_ | refine wp_slt ?_)
      refine ⟨two_lim, ?_⟩
      repeat (first | ((with_reducible refine wp_vr ?_); refine ⟨_, rfl, ?_⟩) | with_reducible first | refine wp_cst ?_ | refine wp_bin ?_ | refine wp_ix ?_ | refine wp_add ?_ | refine wp_sub ?_ | refine wp_int ?_ | refine wp_bif ?_ | refine wp_irs ?_ | refine wp_irs0 ?_ | refine wx_sts ?_ | refine wx_sts0 ?_ | refine wx_set ?_ | refine wx_ret ?_ | refine wx_setIx ?_ | refine wx_if ?_ | refine wp_and ?_ | refine wp_or ?_ | refine wp_not ?_ | refine wp_neg ?_ | refine wp_cmp ?_ | refine wp_call ?_ | refine wp_callK ?_ | refine wp_ite ?_ | refine wp_tup ?_ | refine wp_lst ?_ | refine wp_inst ?_ | refine wx_setT ?_ | refine wx_expr ?_ | refine wp_sl ?_ | refine wp_onon ?_ | refine wp_osome ?_ | refine wp_fz ?_ | refine wp_nil ?_ | refine wx_raise ?_ | refine wx_pass ?_ | refine ex_int ?_ | refine wp_slt ?_)
      exact ⟨rfl, rfl⟩
    · refine wx_sts (wx_if (wp_cmp (wp_var rfl (wp_cst ⟨false, rfl, _, rfl, fun z => Bool.noConfusion z, fun _ => wx_sts0 ?_⟩))))
      refine wx_sts (wx_if (wp_cmp (wp_var rfl (wp_cst ⟨true, rfl, _, rfl, fun _ => ?_, fun z => Bool.noConfusion z⟩))))
      refine wx_sts (wx_ret (wp_lst (wp_irs (wp_cst (wp_irs (both g.b rfl rfl (wp_imp h ?_)))))))
      rintro r S1 ⟨rfl, rfl⟩
      repeat (first | ((with_reducible refine wp_vr ?_); refine ⟨_, rfl, ?_⟩) | with_reducible first | refine wp_cst ?_ | refine wp_bin ?_ | refine wp_ix ?_ | refine wp_add ?_ | refine wp_sub ?_ | refine wp_int ?_ | refine wp_bif ?_ | refine wp_irs ?_ | refine wp_irs0 ?_ | refine wx_sts ?_ | refine wx_sts0 ?_ | refine wx_set ?_ | refine wx_ret ?_ | refine wx_setIx ?_ | refine wx_if ?_ | refine wp_and ?_ | refine wp_or ?_ | refine wp_not ?_ | refine wp_neg ?_ | refine wp_cmp ?_ | refine wp_call ?_ | refine wp_callK ?_ | refine wp_ite ?_ | refine wp_tup ?_ | refine wp_lst ?_ | refine wp_inst ?_ | refine wx_setT ?_ | refine wx_expr ?_ | refine wp_sl ?_ | refine wp_onon ?_ | refine wp_osome ?_ | refine wp_fz ?_ | refine wp_nil ?_ | refine wx_raise ?_ | refine wx_pass ?_ | refine ex_int ?_ | refine wp_slt ?_)
      refine ⟨two_lim, ?_⟩
      repeat (first | ((with_reducible refine wp_vr ?_); refine ⟨_, rfl, ?_⟩) | with_reducible first | refine wp_cst ?_ | refine wp_bin ?_ | refine wp_ix ?_ | refine wp_add ?_ | refine wp_sub ?_ | refine wp_int ?_ | refine wp_bif ?_ | refine wp_irs ?_ | refine wp_irs0 ?_ | refine wx_sts ?_ | refine wx_sts0 ?_ | refine wx_set ?_ | refine wx_ret ?_ | refine wx_setIx ?_ | refine wx_if ?_ | refine wp_and ?_ | refine wp_or ?_ | refine wp_not ?_ | refine wp_neg ?_ | refine wp_cmp ?_ | refine wp_call ?_ | refine wp_callK ?_ | refine wp_ite ?_ | refine wp_tup ?_ | refine wp_lst ?_ | refine wp_inst ?_ | refine wx_setT ?_ | refine wx_expr ?_ | refine wp_sl ?_ | refine wp_onon ?_ | refine wp_osome ?_ | refine wp_fz ?_ | refine wp_nil ?_ | refine wx_raise ?_ | refine wx_pass ?_ | refine ex_int ?_ | refine wp_slt ?_)
      exact ⟨rfl, rfl⟩
    · refine wx_sts (wx_if (wp_cmp (wp_var rfl (wp_cst ⟨false, rfl, _, rfl, fun z => Bool.noConfusion z, fun _ => wx_sts0 ?_⟩))))
      refine wx_sts (wx_if (wp_cmp (wp_var rfl (wp_cst ⟨false, rfl, _, rfl, fun z => Bool.noConfusion z, fun _ => wx_sts0 ?_⟩))))
      refine wx_sts (wx_ret (wp_lst (wp_irs (wp_cst (wp_irs (both g.c rfl rfl (wp_imp h ?_)))))))
      rintro r S1 ⟨rfl, rfl⟩
      repeat (first | ((with_reducible refine wp_vr ?_); refine ⟨_, rfl, ?_⟩) | with_reducible first | refine wp_cst ?_ | refine wp_bin ?_ | refine wp_ix ?_ | refine wp_add ?_ | refine wp_sub ?_ | refine wp_int ?_ | refine wp_bif ?_ | refine wp_irs ?_ | refine wp_irs0 ?_ | refine wx_sts ?_ | refine wx_sts0 ?_ | refine wx_set ?_ | refine wx_ret ?_ | refine wx_setIx ?_ | refine wx_if ?_ | refine wp_and ?_ | refine wp_or ?_ | refine wp_not ?_ | refine wp_neg ?_ | refine wp_cmp ?_ | refine wp_call ?_ | refine wp_callK ?_ | refine wp_ite ?_ | refine wp_tup ?_ | refine wp_lst ?_ | refine wp_inst ?_ | refine wx_setT ?_ | refine wx_expr ?_ | refine wp_sl ?_ | refine wp_onon ?_ | refine wp_osome ?_ | refine wp_fz ?_ | refine wp_nil ?_ | refine wx_raise ?_ | refine wx_pass ?_ | refine ex_int ?_ | refine wp_slt ?_)
      refine ⟨two_lim, ?_⟩
      repeat (first | ((with_reducible refine wp_vr ?_); refine ⟨_, rfl, ?_⟩) | with_reducible first | refine wp_cst ?_ | refine wp_bin ?_ | refine wp_ix ?_ | refine wp_add ?_ | refine wp_sub ?_ | refine wp_int ?_ | refine wp_bif ?_ | refine wp_irs ?_ | refine wp_irs0 ?_ | refine wx_sts ?_ | refine wx_sts0 ?_ | refine wx_set ?_ | refine wx_ret ?_ | refine wx_setIx ?_ | refine wx_if ?_ | refine wp_and ?_ | refine wp_or ?_ | refine wp_not ?_ | refine wp_neg ?_ | refine wp_cmp ?_ | refine wp_call ?_ | refine wp_callK ?_ | refine wp_ite ?_ | refine wp_tup ?_ | refine wp_lst ?_ | refine wp_inst ?_ | refine wx_setT ?_ | refine wx_expr ?_ | refine wp_sl ?_ | refine wp_onon ?_ | refine wp_osome ?_ | refine wp_fz ?_ | refine wp_nil ?_ | refine wx_raise ?_ | refine wx_pass ?_ | refine ex_int ?_ | refine wp_slt ?_)
      exact ⟨rfl, rfl⟩
  · rintro fl S1 ⟨rfl, rfl⟩
    exact ⟨hu _ hv, rfl, List.take_length⟩
theorem asked_bad (da : Def fs "_law_asked" 3 4 askB) (g : Named G) {k : Nat} {S : Store} {d : D} {w : Int} {f word cls : Str} {by_ : Bool} (hw : Which w f word cls) (hv : d.und S.length = true) (h : Wp (fns G fs es k f [d] S) (fun _ _ => False) (fun x S' => x = ⟨cls, [("given", d)]⟩ ∧ S' = S)) : Wp (fns G fs es (k + 1) "_law_asked" [.int w, d, .bl by_] S) (fun r S' => r = .lst [.str word, d] ∧ S' = S) E := by
  have hu : ∀ b, d.und b = true → (D.lst [.str word, d]).und b = true := fun b h => by
    show (true && (d.und b && true)) = true
    rw [h]
    rfl
  refine wp_defX da rfl ?_
  unfold askB
  refine wx_sts (wx_tri (wp_mono (E := fun x S1 => x = ⟨cls, [("given", d)]⟩ ∧ S1 = S) (Q := fun fl S1 => False) ?_ (fun _ _ z => z.elim) ?_))
  · rcases hw with ⟨rfl, rfl, rfl, rfl⟩ | ⟨rfl, rfl, rfl, rfl⟩ | ⟨rfl, rfl, rfl, rfl⟩
    · refine wx_sts (wx_if (wp_cmp (wp_var rfl (wp_cst ⟨true, rfl, _, rfl, fun _ => ?_, fun z => Bool.noConfusion z⟩))))
      exact wx_sts (wx_ret (wp_lst (wp_irs (wp_cst (wp_irs (both g.a rfl rfl (wp_mono h (fun _ _ z => z.elim) fun _ _ e => e)))))))
    · refine wx_sts (wx_if (wp_cmp (wp_var rfl (wp_cst ⟨false, rfl, _, rfl, fun z => Bool.noConfusion z, fun _ => wx_sts0 ?_⟩))))
      refine wx_sts (wx_if (wp_cmp (wp_var rfl (wp_cst ⟨true, rfl, _, rfl, fun _ => ?_, fun z => Bool.noConfusion z⟩))))
      exact wx_sts (wx_ret (wp_lst (wp_irs (wp_cst (wp_irs (both g.b rfl rfl (wp_mono h (fun _ _ z => z.elim) fun _ _ e => e)))))))
    · refine wx_sts (wx_if (wp_cmp (wp_var rfl (wp_cst ⟨false, rfl, _, rfl, fun z => Bool.noConfusion z, fun _ => wx_sts0 ?_⟩))))
      refine wx_sts (wx_if (wp_cmp (wp_var rfl (wp_cst ⟨false, rfl, _, rfl, fun z => Bool.noConfusion z, fun _ => wx_sts0 ?_⟩))))
      exact wx_sts (wx_ret (wp_lst (wp_irs (wp_cst (wp_irs (both g.c rfl rfl (wp_mono h (fun _ _ z => z.elim) fun _ _ e => e)))))))
  · rintro x S1 ⟨rfl, rfl⟩
    have hh : ∀ (S : Store), handle ⟨cls, [("given", d)]⟩ S [⟨"InvalidPlaces", ["InvalidPoint", "InvalidNumbers"], some (true, [.str "places", .fld "given"])⟩, ⟨"InvalidPoint", ["InvalidPlaces", "InvalidNumbers"], some (true, [.str "point", .fld "given"])⟩, ⟨"InvalidNumbers", ["InvalidPlaces", "InvalidPoint"], some (true, [.str "numbers", .fld "given"])⟩, ⟨"PolytopeError", [], none⟩] = .ok (.rt (.lst [.str word, d])) S := by
      intro S
      rcases hw with ⟨rfl, rfl, rfl, rfl⟩ | ⟨rfl, rfl, rfl, rfl⟩ | ⟨rfl, rfl, rfl, rfl⟩ <;> rfl
    rw [hh]
    exact ⟨hu _ hv, rfl, List.take_length⟩
end
end Pv

/-! Draws: cells, boxes, points, sides. -/
namespace Pv
open PySem
/-- the box is changed, and what is new -/
structure Gr (n m : Nat) (S S' : Store) : Prop where
  len : S.length ≤ S'.length
  oth : ∀ j, j < S.length → j ≠ n → S'[j]? = S[j]?
  lt : n < S.length
  box : BoxAt S' n m
theorem BoxAt.lt {S : Store} {n m : Nat} (h : BoxAt S n m) : n < S.length := let ⟨_, e, _⟩ := h; (List.getElem?_eq_some_iff.mp e).1
theorem BoxAt.mono {S : Store} {n m m' : Nat} (h : BoxAt S n m) (e : m ≤ m') : BoxAt S n m' := let ⟨x, h1, h2⟩ := h; ⟨x, h1, h2.mono e⟩
theorem Gr.refl {n m : Nat} {S : Store} (h : BoxAt S n m) : Gr n m S S := ⟨Nat.le_refl _, fun _ _ _ => rfl, h.lt, h⟩
theorem Gr.dr {n m m' : Nat} {S S1 S2 : Store} (a : Gr n m S S1) (b : Dr n m' S1 S2) : Gr n m' S S2 := ⟨by rw [b.len]; exact a.len, fun j hj hn => (b.oth j hn).trans (a.oth j hj hn), a.lt, b.box⟩
theorem Gr.push {n m : Nat} {S S1 : Store} (a : Gr n m S S1) (o : O) : Gr n m S (S1 ++ [o]) := by
  have hl := a.len
  refine ⟨by rw [List.length_append]; show _ ≤ S1.length + 1; omega, fun j hj hn => ?_, a.lt, ?_⟩
  · rw [List.getElem?_append_left (by omega)]
    exact a.oth j hj hn
  · obtain ⟨x, h1, h2⟩ := a.box
    exact ⟨x, by rw [List.getElem?_append_left (by have := a.lt; omega)]; exact h1, h2⟩
/-- what changed lies beyond -/
theorem Gr.upd {n m : Nat} {S S1 S2 : Store} (a : Gr n m S S1) (hl : S2.length = S1.length) (h : ∀ j, j < S.length → S2[j]? = S1[j]?) : Gr n m S S2 := by
  refine ⟨by rw [hl]; exact a.len, fun j hj hn => (h j hj).trans (a.oth j hj hn), a.lt, ?_⟩
  obtain ⟨x, h1, h2⟩ := a.box
  exact ⟨x, (h n a.lt).trans h1, h2⟩
theorem Gr.mono {n m m' : Nat} {S S' : Store} (h : Gr n m S S') (e : m ≤ m') : Gr n m' S S' := ⟨h.len, h.oth, h.lt, h.box.mono e⟩
theorem Gr.cut {n m : Nat} {S S' : Store} (h : Gr n m S S') : Dr n m S (S'.take S.length) := by
  refine ⟨by rw [List.length_take]; exact Nat.min_eq_left h.len, fun j hj => ?_, ?_⟩
  · by_cases hl : j < S.length
    · rw [List.getElem?_take_of_lt hl]
      exact h.oth j hl hj
    · rw [List.getElem?_eq_none (by rw [List.length_take]; omega), List.getElem?_eq_none (by omega)]
  · obtain ⟨x, h1, h2⟩ := h.box
    exact ⟨x, by rw [List.getElem?_take_of_lt h.lt]; exact h1, h2⟩
theorem Gr.trans {n m m' : Nat} {S S1 S2 : Store} (a : Gr n m S S1) (b : Gr n m' S1 S2) : Gr n m' S S2 := ⟨Nat.le_trans a.len b.len, fun j hj hn => (b.oth j (by have := a.len; omega) hn).trans (a.oth j hj hn), a.lt, b.box⟩
theorem Dr.gr {n m : Nat} {S S' : Store} (h : Dr n m S S') (hn : n < S.length) : Gr n m S S' := ⟨by rw [h.len]; exact Nat.le_refl _, fun j _ hj => h.oth j hj, hn, h.box⟩
section
variable {G : Sig} {fs : List Fn} {es : List Ec} {E : Exn → Store → Prop}
def cellB (a q : Int) : STs := sts [.ret false (.ite (.cmp .lt (.var 1) (.bif .len (irs [.var 0]))) (.ix (.var 0) (.var 1)) (.bin .add (.bin .mul (.cst (.int a)) (.var 1)) (.bin .mod (.bif .int (irs [.bif .sum (irs [.sl (.var 0) .non (.some (.cst (.int 1)))])])) (.cst (.int q)))))]
theorem ints_cut {ns : List Int} {l h : Option Int} : cutOf (ns.map D.int) l h = (cutOf ns l h).map D.int := by
  unfold cutOf
  rw [List.length_map, List.map_take, List.map_drop]
theorem intsOf_map : ∀ ns : List Int, intsOf (ns.map D.int) = some ns
  | [] => rfl
  | n :: ns => by
    show (intsOf (ns.map D.int)).map (n :: ·) = _
    rw [intsOf_map ns]
    rfl
theorem cell_ok {a q : Int} (dc : Def fs "_law_cell" 2 2 (cellB a q)) (ha : a.natAbs < 2 ^ 100) (hq : q ≠ 0) {k : Nat} {S : Store} {ns : List Int} {i : Int} (hi : 0 ≤ i ∧ i < 100) : Wp (fns G fs es (k + 1) "_law_cell" [.lst (ns.map D.int), .int i] S) (fun d S' => (∃ z, d = .int z) ∧ S' = S) E := by
  refine wp_def dc rfl ?_
  unfold cellB
  repeat (first | ((with_reducible refine wp_vr ?_); refine ⟨_, rfl, ?_⟩) | with_reducible first | refine wp_cst ?_ | refine wp_bin ?_ | refine wp_ix ?_ | refine wp_add ?_ | refine wp_sub ?_ | refine wp_int ?_ | refine wp_bif ?_ | refine wp_irs ?_ | refine wp_irs0 ?_ | refine wx_sts ?_ | refine wx_sts0 ?_ | refine wx_set ?_ | refine wx_ret ?_ | refine wx_setIx ?_ | refine wx_if ?_ | refine wp_and ?_ | refine wp_or ?_ | refine wp_not ?_ | refine wp_neg ?_ | refine wp_cmp ?_ | refine wp_call ?_ | refine wp_callK ?_ | refine wp_ite ?_ | refine wp_tup ?_ | refine wp_lst ?_ | refine wp_inst ?_ | refine wx_setT ?_ | refine wx_expr ?_ | refine wp_sl ?_ | refine wp_onon ?_ | refine wp_osome ?_ | refine wp_fz ?_ | refine wp_nil ?_ | refine wx_raise ?_ | refine wx_pass ?_ | refine ex_int ?_ | refine wp_slt ?_)
  refine wp_some rfl ?_
  refine ⟨_, rfl, _, rfl, fun hk => ?_, fun hk => ?_⟩
  · have hk' : i < (ns.map D.int).length := of_decide_eq_true hk
    repeat (first | ((with_reducible refine wp_vr ?_); refine ⟨_, rfl, ?_⟩) | with_reducible first | refine wp_cst ?_ | refine wp_bin ?_ | refine wp_ix ?_ | refine wp_add ?_ | refine wp_sub ?_ | refine wp_int ?_ | refine wp_bif ?_ | refine wp_irs ?_ | refine wp_irs0 ?_ | refine wx_sts ?_ | refine wx_sts0 ?_ | refine wx_set ?_ | refine wx_ret ?_ | refine wx_setIx ?_ | refine wx_if ?_ | refine wp_and ?_ | refine wp_or ?_ | refine wp_not ?_ | refine wp_neg ?_ | refine wp_cmp ?_ | refine wp_call ?_ | refine wp_callK ?_ | refine wp_ite ?_ | refine wp_tup ?_ | refine wp_lst ?_ | refine wp_inst ?_ | refine wx_setT ?_ | refine wx_expr ?_ | refine wp_sl ?_ | refine wp_onon ?_ | refine wp_osome ?_ | refine wp_fz ?_ | refine wp_nil ?_ | refine wx_raise ?_ | refine wx_pass ?_ | refine ex_int ?_ | refine wp_slt ?_)
    have e : ∃ z, atOf (ns.map D.int) i = some (.int z) := by
      have hlt : i.toNat < (ns.map D.int).length := by omega
      refine ⟨ns[i.toNat]'(by simpa using hlt), ?_⟩
      unfold atOf ixOf
      rw [if_pos hi.1, if_pos hk']
      show (ns.map D.int)[i.toNat]? = _
      rw [List.getElem?_eq_getElem hlt, List.getElem_map]
    obtain ⟨z, e⟩ := e
    exact wp_ixs rfl e ⟨_, rfl, rfl, ⟨z, rfl⟩, List.take_length⟩
  · repeat (first | ((with_reducible refine wp_vr ?_); refine ⟨_, rfl, ?_⟩) | with_reducible first | refine wp_cst ?_ | refine wp_bin ?_ | refine wp_ix ?_ | refine wp_add ?_ | refine wp_sub ?_ | refine wp_int ?_ | refine wp_bif ?_ | refine wp_irs ?_ | refine wp_irs0 ?_ | refine wx_sts ?_ | refine wx_sts0 ?_ | refine wx_set ?_ | refine wx_ret ?_ | refine wx_setIx ?_ | refine wx_if ?_ | refine wp_and ?_ | refine wp_or ?_ | refine wp_not ?_ | refine wp_neg ?_ | refine wp_cmp ?_ | refine wp_call ?_ | refine wp_callK ?_ | refine wp_ite ?_ | refine wp_tup ?_ | refine wp_lst ?_ | refine wp_inst ?_ | refine wx_setT ?_ | refine wx_expr ?_ | refine wp_sl ?_ | refine wp_onon ?_ | refine wp_osome ?_ | refine wp_fz ?_ | refine wp_nil ?_ | refine wx_raise ?_ | refine wx_pass ?_ | refine ex_int ?_ | refine wp_slt ?_)
    refine wp_mul (bits_of (k := 100) (l := 7) ha (by omega) (by decide)) ?_
    repeat (first | ((with_reducible refine wp_vr ?_); refine ⟨_, rfl, ?_⟩) | with_reducible first | refine wp_cst ?_ | refine wp_bin ?_ | refine wp_ix ?_ | refine wp_add ?_ | refine wp_sub ?_ | refine wp_int ?_ | refine wp_bif ?_ | refine wp_irs ?_ | refine wp_irs0 ?_ | refine wx_sts ?_ | refine wx_sts0 ?_ | refine wx_set ?_ | refine wx_ret ?_ | refine wx_setIx ?_ | refine wx_if ?_ | refine wp_and ?_ | refine wp_or ?_ | refine wp_not ?_ | refine wp_neg ?_ | refine wp_cmp ?_ | refine wp_call ?_ | refine wp_callK ?_ | refine wp_ite ?_ | refine wp_tup ?_ | refine wp_lst ?_ | refine wp_inst ?_ | refine wx_setT ?_ | refine wx_expr ?_ | refine wp_sl ?_ | refine wp_onon ?_ | refine wp_osome ?_ | refine wp_fz ?_ | refine wp_nil ?_ | refine wx_raise ?_ | refine wx_pass ?_ | refine ex_int ?_ | refine wp_slt ?_)
    have e1 : slF false (.lst (ns.map D.int)) none (some 1) S = .ok (.lst ((cutOf ns none (some 1)).map D.int)) S := by
      rw [← ints_cut]
      rfl
    refine wp_eq e1 (wp_ok ?_)
    repeat (first | ((with_reducible refine wp_vr ?_); refine ⟨_, rfl, ?_⟩) | with_reducible first | refine wp_cst ?_ | refine wp_bin ?_ | refine wp_ix ?_ | refine wp_add ?_ | refine wp_sub ?_ | refine wp_int ?_ | refine wp_bif ?_ | refine wp_irs ?_ | refine wp_irs0 ?_ | refine wx_sts ?_ | refine wx_sts0 ?_ | refine wx_set ?_ | refine wx_ret ?_ | refine wx_setIx ?_ | refine wx_if ?_ | refine wp_and ?_ | refine wp_or ?_ | refine wp_not ?_ | refine wp_neg ?_ | refine wp_cmp ?_ | refine wp_call ?_ | refine wp_callK ?_ | refine wp_ite ?_ | refine wp_tup ?_ | refine wp_lst ?_ | refine wp_inst ?_ | refine wx_setT ?_ | refine wx_expr ?_ | refine wp_sl ?_ | refine wp_onon ?_ | refine wp_osome ?_ | refine wp_fz ?_ | refine wp_nil ?_ | refine wx_raise ?_ | refine wx_pass ?_ | refine ex_int ?_ | refine wp_slt ?_)
    refine wp_some (a := D.int (cutOf ns none (some 1)).sum) ?_ ?_
    · show (intsOf ((cutOf ns none (some 1)).map D.int)).map (fun ns => D.int ns.sum) = _
      rw [intsOf_map]
      rfl
    repeat (first | ((with_reducible refine wp_vr ?_); refine ⟨_, rfl, ?_⟩) | with_reducible first | refine wp_cst ?_ | refine wp_bin ?_ | refine wp_ix ?_ | refine wp_add ?_ | refine wp_sub ?_ | refine wp_int ?_ | refine wp_bif ?_ | refine wp_irs ?_ | refine wp_irs0 ?_ | refine wx_sts ?_ | refine wx_sts0 ?_ | refine wx_set ?_ | refine wx_ret ?_ | refine wx_setIx ?_ | refine wx_if ?_ | refine wp_and ?_ | refine wp_or ?_ | refine wp_not ?_ | refine wp_neg ?_ | refine wp_cmp ?_ | refine wp_call ?_ | refine wp_callK ?_ | refine wp_ite ?_ | refine wp_tup ?_ | refine wp_lst ?_ | refine wp_inst ?_ | refine wx_setT ?_ | refine wx_expr ?_ | refine wp_sl ?_ | refine wp_onon ?_ | refine wp_osome ?_ | refine wp_fz ?_ | refine wp_nil ?_ | refine wx_raise ?_ | refine wx_pass ?_ | refine ex_int ?_ | refine wp_slt ?_)
    refine wp_mod hq ?_
    repeat (first | ((with_reducible refine wp_vr ?_); refine ⟨_, rfl, ?_⟩) | with_reducible first | refine wp_cst ?_ | refine wp_bin ?_ | refine wp_ix ?_ | refine wp_add ?_ | refine wp_sub ?_ | refine wp_int ?_ | refine wp_bif ?_ | refine wp_irs ?_ | refine wp_irs0 ?_ | refine wx_sts ?_ | refine wx_sts0 ?_ | refine wx_set ?_ | refine wx_ret ?_ | refine wx_setIx ?_ | refine wx_if ?_ | refine wp_and ?_ | refine wp_or ?_ | refine wp_not ?_ | refine wp_neg ?_ | refine wp_cmp ?_ | refine wp_call ?_ | refine wp_callK ?_ | refine wp_ite ?_ | refine wp_tup ?_ | refine wp_lst ?_ | refine wp_inst ?_ | refine wx_setT ?_ | refine wx_expr ?_ | refine wp_sl ?_ | refine wp_onon ?_ | refine wp_osome ?_ | refine wp_fz ?_ | refine wp_nil ?_ | refine wx_raise ?_ | refine wx_pass ?_ | refine ex_int ?_ | refine wp_slt ?_)
    exact ⟨_, rfl, rfl, ⟨_, rfl⟩, List.take_length⟩
def boxB : STs := sts [.ret true (.lst (irs [.bif .abs (irs [.var 0]), .cmp .ge (.bif .abs (irs [.var 0])) (.bin .pow (.cst (.int 10)) (.cst (.int 18))), .bin .mod (.bif .int (irs [.bif .abs (irs [.var 0])])) (.cst (.int 2147483629)), .cst (.int 0)]))]
theorem box_ok (db : DefO fs "_law_box" 1 1 boxB) {k : Nat} {S : Store} {z : Int} : Wp (fns G fs es (k + 1) "_law_box" [.int z] S) (fun d S' => d = .ref S.length ∧ ∃ x : Box, S' = S ++ [x.o] ∧ x.Ok 0) E := by
  refine wp_defO db rfl ?_
  unfold boxB
  repeat (first | ((with_reducible refine wp_vr ?_); refine ⟨_, rfl, ?_⟩) | with_reducible first | refine wp_cst ?_ | refine wp_bin ?_ | refine wp_ix ?_ | refine wp_add ?_ | refine wp_sub ?_ | refine wp_int ?_ | refine wp_bif ?_ | refine wp_irs ?_ | refine wp_irs0 ?_ | refine wx_sts ?_ | refine wx_sts0 ?_ | refine wx_set ?_ | refine wx_ret ?_ | refine wx_setIx ?_ | refine wx_if ?_ | refine wp_and ?_ | refine wp_or ?_ | refine wp_not ?_ | refine wp_neg ?_ | refine wp_cmp ?_ | refine wp_call ?_ | refine wp_callK ?_ | refine wp_ite ?_ | refine wp_tup ?_ | refine wp_lst ?_ | refine wp_inst ?_ | refine wx_setT ?_ | refine wx_expr ?_ | refine wp_sl ?_ | refine wp_onon ?_ | refine wp_osome ?_ | refine wp_fz ?_ | refine wp_nil ?_ | refine wx_raise ?_ | refine wx_pass ?_ | refine ex_int ?_ | refine wp_slt ?_)
  refine wp_abs ?_
  repeat (first | ((with_reducible refine wp_vr ?_); refine ⟨_, rfl, ?_⟩) | with_reducible first | refine wp_cst ?_ | refine wp_bin ?_ | refine wp_ix ?_ | refine wp_add ?_ | refine wp_sub ?_ | refine wp_int ?_ | refine wp_bif ?_ | refine wp_irs ?_ | refine wp_irs0 ?_ | refine wx_sts ?_ | refine wx_sts0 ?_ | refine wx_set ?_ | refine wx_ret ?_ | refine wx_setIx ?_ | refine wx_if ?_ | refine wp_and ?_ | refine wp_or ?_ | refine wp_not ?_ | refine wp_neg ?_ | refine wp_cmp ?_ | refine wp_call ?_ | refine wp_callK ?_ | refine wp_ite ?_ | refine wp_tup ?_ | refine wp_lst ?_ | refine wp_inst ?_ | refine wx_setT ?_ | refine wx_expr ?_ | refine wp_sl ?_ | refine wp_onon ?_ | refine wp_osome ?_ | refine wp_fz ?_ | refine wp_nil ?_ | refine wx_raise ?_ | refine wx_pass ?_ | refine ex_int ?_ | refine wp_slt ?_)
  refine wp_abs ?_
  repeat (first | ((with_reducible refine wp_vr ?_); refine ⟨_, rfl, ?_⟩) | with_reducible first | refine wp_cst ?_ | refine wp_bin ?_ | refine wp_ix ?_ | refine wp_add ?_ | refine wp_sub ?_ | refine wp_int ?_ | refine wp_bif ?_ | refine wp_irs ?_ | refine wp_irs0 ?_ | refine wx_sts ?_ | refine wx_sts0 ?_ | refine wx_set ?_ | refine wx_ret ?_ | refine wx_setIx ?_ | refine wx_if ?_ | refine wp_and ?_ | refine wp_or ?_ | refine wp_not ?_ | refine wp_neg ?_ | refine wp_cmp ?_ | refine wp_call ?_ | refine wp_callK ?_ | refine wp_ite ?_ | refine wp_tup ?_ | refine wp_lst ?_ | refine wp_inst ?_ | refine wx_setT ?_ | refine wx_expr ?_ | refine wp_sl ?_ | refine wp_onon ?_ | refine wp_osome ?_ | refine wp_fz ?_ | refine wp_nil ?_ | refine wx_raise ?_ | refine wx_pass ?_ | refine ex_int ?_ | refine wp_slt ?_)
  refine wp_pow ⟨by decide, by decide, by decide⟩ ?_
  refine ⟨_, rfl, ?_⟩
  repeat (first | ((with_reducible refine wp_vr ?_); refine ⟨_, rfl, ?_⟩) | with_reducible first | refine wp_cst ?_ | refine wp_bin ?_ | refine wp_ix ?_ | refine wp_add ?_ | refine wp_sub ?_ | refine wp_int ?_ | refine wp_bif ?_ | refine wp_irs ?_ | refine wp_irs0 ?_ | refine wx_sts ?_ | refine wx_sts0 ?_ | refine wx_set ?_ | refine wx_ret ?_ | refine wx_setIx ?_ | refine wx_if ?_ | refine wp_and ?_ | refine wp_or ?_ | refine wp_not ?_ | refine wp_neg ?_ | refine wp_cmp ?_ | refine wp_call ?_ | refine wp_callK ?_ | refine wp_ite ?_ | refine wp_tup ?_ | refine wp_lst ?_ | refine wp_inst ?_ | refine wx_setT ?_ | refine wx_expr ?_ | refine wp_sl ?_ | refine wp_onon ?_ | refine wp_osome ?_ | refine wp_fz ?_ | refine wp_nil ?_ | refine wx_raise ?_ | refine wx_pass ?_ | refine ex_int ?_ | refine wp_slt ?_)
  refine wp_abs ?_
  repeat (first | ((with_reducible refine wp_vr ?_); refine ⟨_, rfl, ?_⟩) | with_reducible first | refine wp_cst ?_ | refine wp_bin ?_ | refine wp_ix ?_ | refine wp_add ?_ | refine wp_sub ?_ | refine wp_int ?_ | refine wp_bif ?_ | refine wp_irs ?_ | refine wp_irs0 ?_ | refine wx_sts ?_ | refine wx_sts0 ?_ | refine wx_set ?_ | refine wx_ret ?_ | refine wx_setIx ?_ | refine wx_if ?_ | refine wp_and ?_ | refine wp_or ?_ | refine wp_not ?_ | refine wp_neg ?_ | refine wp_cmp ?_ | refine wp_call ?_ | refine wp_callK ?_ | refine wp_ite ?_ | refine wp_tup ?_ | refine wp_lst ?_ | refine wp_inst ?_ | refine wx_setT ?_ | refine wx_expr ?_ | refine wp_sl ?_ | refine wp_onon ?_ | refine wp_osome ?_ | refine wp_fz ?_ | refine wp_nil ?_ | refine wx_raise ?_ | refine wx_pass ?_ | refine ex_int ?_ | refine wp_slt ?_)
  refine wp_mod (by decide) ?_
  repeat (first | ((with_reducible refine wp_vr ?_); refine ⟨_, rfl, ?_⟩) | with_reducible first | refine wp_cst ?_ | refine wp_bin ?_ | refine wp_ix ?_ | refine wp_add ?_ | refine wp_sub ?_ | refine wp_int ?_ | refine wp_bif ?_ | refine wp_irs ?_ | refine wp_irs0 ?_ | refine wx_sts ?_ | refine wx_sts0 ?_ | refine wx_set ?_ | refine wx_ret ?_ | refine wx_setIx ?_ | refine wx_if ?_ | refine wp_and ?_ | refine wp_or ?_ | refine wp_not ?_ | refine wp_neg ?_ | refine wp_cmp ?_ | refine wp_call ?_ | refine wp_callK ?_ | refine wp_ite ?_ | refine wp_tup ?_ | refine wp_lst ?_ | refine wp_inst ?_ | refine wx_setT ?_ | refine wx_expr ?_ | refine wp_sl ?_ | refine wp_onon ?_ | refine wp_osome ?_ | refine wp_fz ?_ | refine wp_nil ?_ | refine wx_raise ?_ | refine wx_pass ?_ | refine ex_int ?_ | refine wp_slt ?_)
  refine ⟨show 4 ≤ LIM by decide, wp_new ?_⟩
  refine ⟨_, rfl, rfl, ⟨(if z < 0 then -z else z), decide ((10 : Int) ^ (18 : Int).toNat ≤ (if z < 0 then -z else z)), (if z < 0 then -z else z).fmod 2147483629, 0⟩, rfl, ?_⟩
  refine ⟨?_, ⟨Int.fmod_nonneg_of_pos _ (by decide), ?_⟩, by show (0 : Int) ≤ 0; decide, by show (0 : Int) ≤ 0; decide⟩
  · show 0 ≤ (if z < 0 then -z else z)
    split <;> omega
  · have := Int.fmod_lt_of_pos (if z < 0 then -z else z) (show (0 : Int) < 2147483629 by decide)
    show (if z < 0 then -z else z).fmod 2147483629 < 2 ^ 31
    omega
/-- a list of numbers drawn -/
theorem wp_draws {Γ : Fns} {b : Nat} {md : Bool} {ρ : Env} {S : Store} {Q : D → Store → Prop} {j n m t c : Nat} {a elt : IR} (P : Int → Prop) (ha : IR.run G Γ b false a ρ S = .ok (.int c) S) (hc : c ≤ 1000) (hS : BoxAt S n m)
    (hf : ∀ S' m' x, BoxAt S' n m' → m' + t ≤ m + c * t → Wp (elt.run G Γ b md ((wipeE ρ [j]).set j (some x)) S') (fun d S'' => ∃ i, d = .int i ∧ P i ∧ Dr n (m' + t) S' S'') fun _ _ => False)
    (h : ∀ (ns : List Int) (S' : Store), ns.length = c → (∀ i ∈ ns, P i) → Dr n (m + c * t) S S' → Wp (newL md S' (ns.map D.int)) Q E) : Wp (IR.run G Γ b md (.comp [j] (.name j) (.rng1 a) (irs []) elt) ρ S) Q E := by
  have hlen : (rngOf 0 (c : Int)).length = c := by
    unfold rngOf
    rw [List.length_map, List.length_range]
    omega
  refine wp_comp (ws_rng1 (wp_eq ha (wp_ok ⟨c, rfl, ?_, rngOf 0 c, rfl, by rw [hlen]; unfold LIM; omega, fun i acc S' => ∃ ns : List Int, acc = ns.map D.int ∧ ns.length = i ∧ (∀ x ∈ ns, P x) ∧ Dr n (m + i * t) S S', ⟨[], rfl, rfl, fun _ z => (by cases z), by rw [Nat.zero_mul]; exact Dr.refl hS⟩, ?_, ?_⟩)))
  · unfold rngOk
    exact decide_eq_true (by omega)
  · rintro i x acc S' hx ⟨ns, rfl, hl, hp, hd⟩
    have hi : i < c := by
      have := (List.getElem?_eq_some_iff.mp hx).1
      omega
    refine ⟨(wipeE ρ [j]).set j (some x), by rw [assignTo], wt_nil ⟨fun _ => ?_, fun z => Bool.noConfusion z⟩⟩
    have hit : (i + 1) * t ≤ c * t := Nat.mul_le_mul_right t hi
    rw [Nat.succ_mul] at hit
    refine wp_imp (hf S' (m + i * t) x hd.box (by omega)) ?_
    rintro d S2 ⟨v, rfl, hv, hd2⟩
    refine ⟨ns ++ [v], by rw [List.map_append]; rfl, by rw [List.length_append, hl]; rfl, fun y hy => ?_, ?_⟩
    · rcases List.mem_append.mp hy with hy | hy
      · exact hp y hy
      · rcases List.mem_cons.mp hy with rfl | hy
        · exact hv
        · cases hy
    · rw [Nat.succ_mul, ← Nat.add_assoc]
      exact hd.trans hd2
  · rintro acc S' ⟨ns, rfl, hl, hp, hd⟩
    rw [hlen] at hl hd
    exact h ns S' hl hp hd
theorem fdiv_le {n : Int} {g : Nat} (h0 : g ≠ 0) (h : g ∣ n.natAbs) : (n.fdiv g).natAbs ≤ n.natAbs := by
  have h1 := congrArg Int.natAbs (fdiv_mul h0 h)
  rw [Int.natAbs_mul] at h1
  rw [← h1]
  exact Nat.le_mul_of_pos_right _ (by omega)
/-- numbers made a point -/
theorem pt_made {ns : List Int} {l : Int} {m : Nat} (hl : ns.length = m + 1) (e : ns.getLast? = some l) (h0 : 0 < l) (hb : ∀ n ∈ ns, n.natAbs < 2 ^ 200) : Pt (ns.map fun n => n.fdiv (gcds ns : Nat)) m := by
  have hm : l ∈ ns := List.mem_of_getLast? e
  have hg := gcds_ne hm (show l ≠ 0 by omega)
  refine ⟨by rw [List.length_map]; exact hl, ⟨l.fdiv (gcds ns : Nat), by rw [List.getLast?_map, e]; rfl, ?_⟩, gcds_div hm (by omega), fun n hn => ?_⟩
  · by_cases hc : 0 < l.fdiv (gcds ns : Nat)
    · exact hc
    · exfalso
      have h1 := fdiv_mul hg (gcds_dvd l hm)
      have : l.fdiv (gcds ns : Nat) * (gcds ns : Nat) ≤ 0 := Int.mul_nonpos_of_nonpos_of_nonneg (by omega) (by omega)
      omega
  · obtain ⟨q, hq, rfl⟩ := List.mem_map.mp hn
    exact Nat.lt_of_le_of_lt (fdiv_le hg (gcds_dvd q hq)) (hb q hq)
theorem sd_made {ns : List Int} {m : Nat} (hl : ns.length = m + 1) (hz : ∃ n ∈ ns.take m, n ≠ 0) (hb : ∀ n ∈ ns, n.natAbs < 2 ^ 200) : Sd (ns.map fun n => n.fdiv (gcds ns : Nat)) m := by
  obtain ⟨l, hm, h0⟩ := hz
  have hm' : l ∈ ns := List.mem_of_mem_take hm
  have hg := gcds_ne hm' h0
  refine ⟨by rw [List.length_map]; exact hl, ⟨l.fdiv (gcds ns : Nat), ?_, fun z => ?_⟩, gcds_div hm' h0, fun n hn => ?_⟩
  · rw [← List.map_take]
    exact List.mem_map.mpr ⟨l, hm, rfl⟩
  · have h1 := fdiv_mul hg (gcds_dvd l hm')
    rw [z, Int.zero_mul] at h1
    exact h0 h1.symm
  · obtain ⟨q, hq, rfl⟩ := List.mem_map.mp hn
    exact Nat.lt_of_le_of_lt (fdiv_le hg (gcds_dvd q hq)) (hb q hq)
theorem divs_nat {ns : List Int} {g : Nat} : divs (g : Int) ns = (ns.map fun n => n.fdiv g).map D.int := divs_eq
/-- the draws' own defs -/
structure Draws (fs : List Fn) (p q r : Int) : Prop where
  take : Def fs "_law_take" 2 4 (takeB p q r)
  nums : Nums p q r
  fac : Def fs "_law_factor" 1 5 factorB
  point : Def fs "_law_point" 1 3 pointB
  side : Def fs "_law_side" 1 3 sideB
def anyPtB : STs := sts [.set 4 false (.ite (.var 3) (.cst (.int 1)) (.ix (.lst (irs [.cst (.int 1), .cst (.int 1), .cst (.int 2), .cst (.int 3)])) (.call "_law_take" (irs [.var 0, .cst (.int 4)])))), .ret false (.call "_law_point" (irs [.bin .add (.comp [5] (.name 5) (.rng1 (.var 1)) (irs []) (.bin .sub (.call "_law_take" (irs [.var 0, .bin .add (.bin .mul (.bin .mul (.cst (.int 2)) (.var 2)) (.var 4)) (.cst (.int 1))])) (.bin .mul (.var 2) (.var 4)))) (.lst (irs [.var 4]))]))]
theorem add_lst {md : Bool} {S : Store} {xs ys : List D} {Q : D → Store → Prop} (hl : xs.length + ys.length ≤ LIM) (h : Wp (newL md S (xs ++ ys)) Q E) : Wp (binOf md S .add (.lst xs) (.lst ys)) Q E := by
  have e1 : binOf md S .add (.lst xs) (.lst ys) = newL md S (xs ++ ys) := by
    show (match binL S .add _ _ with
      | some xs => newL md S xs
      | none => .bad) = _
    have e2 : binL S .add (.lst xs) (.lst ys) = some (xs ++ ys) := by
      show (if xs.length + ys.length ≤ LIM then some (xs ++ ys) else none) = _
      rw [if_pos hl]
    rw [e2]
  rw [e1]
  exact h
theorem any_pt_ok {p q r : Int} (dd : Draws fs p q r) (da : Def fs "_law_any_point" 4 6 anyPtB) {k : Nat} {S : Store} {n m : Nat} {sz wide : Int} {z : Nat} {whole : Bool} (hs : sz = z) (hz : z = 2 ∨ z = 3) (hw : 0 < wide ∧ wide < 2 ^ 30) (hx : BoxAt S n m) (hm : m + 10 < 2 ^ 20) :
    Wp (fns G fs es (k + 3) "_law_any_point" [.ref n, .int sz, .int wide, .bl whole] S) (fun d S' => (∃ ns, d = .tup (ns.map D.int) ∧ Pt ns z) ∧ Dr n (m + 10) S S') E := by
  subst hs
  refine wp_def da rfl ?_
  unfold anyPtB
  have rest : ∀ (base : Int) (S1 : Store), (base = 1 ∨ base = 2 ∨ base = 3) → Dr n (m + 1) S S1 → Wp (STs.execs G (fns G fs es (k + 2)) S.length (sts [.ret false (.call "_law_point" (irs [.bin .add (.comp [5] (.name 5) (.rng1 (.var 1)) (irs []) (.bin .sub (.call "_law_take" (irs [.var 0, .bin .add (.bin .mul (.bin .mul (.cst (.int 2)) (.var 2)) (.var 4)) (.cst (.int 1))])) (.bin .mul (.var 2) (.var 4)))) (.lst (irs [.var 4]))]))]) [some (.ref n), some (.int z), some (.int wide), some (.bl whole), some (.int base), none] S1)
      (fun fl S1 => ∃ d, fl = .rt d ∧ d.und S.length = true ∧ ((∃ ns, d = .tup (ns.map D.int) ∧ Pt ns z) ∧ Dr n (m + 10) S (S1.take S.length))) (fun _ _ => False) := by
    intro base S1 hb hd
    have hb1 : 0 < base ∧ base ≤ 3 := by omega
    have e1 : bitsOk 2 wide = true := bits_of (k := 2) (l := 30) (by decide) (by omega) (by decide)
    have e2 : bitsOk (2 * wide) base = true := bits_of (k := 31) (l := 2) (by omega) (by omega) (by decide)
    have e3 : bitsOk wide base = true := bits_of (k := 30) (l := 2) (by omega) (by omega) (by decide)
    have w1 : 0 < wide * base := Int.mul_pos hw.1 hb1.1
    have w2 : wide * base ≤ 2 ^ 30 * 3 := Int.mul_le_mul (by omega) hb1.2 (by omega) (by omega)
    repeat (first | ((with_reducible refine wp_vr ?_); refine ⟨_, rfl, ?_⟩) | with_reducible first | refine wp_cst ?_ | refine wp_bin ?_ | refine wp_ix ?_ | refine wp_add ?_ | refine wp_sub ?_ | refine wp_int ?_ | refine wp_bif ?_ | refine wp_irs ?_ | refine wp_irs0 ?_ | refine wx_sts ?_ | refine wx_sts0 ?_ | refine wx_set ?_ | refine wx_ret ?_ | refine wx_setIx ?_ | refine wx_if ?_ | refine wp_and ?_ | refine wp_or ?_ | refine wp_not ?_ | refine wp_neg ?_ | refine wp_cmp ?_ | refine wp_call ?_ | refine wp_callK ?_ | refine wp_ite ?_ | refine wp_tup ?_ | refine wp_lst ?_ | refine wp_inst ?_ | refine wx_setT ?_ | refine wx_expr ?_ | refine wp_sl ?_ | refine wp_onon ?_ | refine wp_osome ?_ | refine wp_fz ?_ | refine wp_nil ?_ | refine wx_raise ?_ | refine wx_pass ?_ | refine ex_int ?_ | refine wp_slt ?_)
    refine wp_draws (n := n) (m := m + 1) (t := 1) (c := z) (fun i => i.natAbs < 2 ^ 40) (by rw [IR.run]; rfl) (by omega) hd.box ?_ ?_
    · intro S' m' x hB hm'
      repeat (first | ((with_reducible refine wp_vr ?_); refine ⟨_, rfl, ?_⟩) | with_reducible first | refine wp_cst ?_ | refine wp_bin ?_ | refine wp_ix ?_ | refine wp_add ?_ | refine wp_sub ?_ | refine wp_int ?_ | refine wp_bif ?_ | refine wp_irs ?_ | refine wp_irs0 ?_ | refine wx_sts ?_ | refine wx_sts0 ?_ | refine wx_set ?_ | refine wx_ret ?_ | refine wx_setIx ?_ | refine wx_if ?_ | refine wp_and ?_ | refine wp_or ?_ | refine wp_not ?_ | refine wp_neg ?_ | refine wp_cmp ?_ | refine wp_call ?_ | refine wp_callK ?_ | refine wp_ite ?_ | refine wp_tup ?_ | refine wp_lst ?_ | refine wp_inst ?_ | refine wx_setT ?_ | refine wx_expr ?_ | refine wp_sl ?_ | refine wp_onon ?_ | refine wp_osome ?_ | refine wp_fz ?_ | refine wp_nil ?_ | refine wx_raise ?_ | refine wx_pass ?_ | refine ex_int ?_ | refine wp_slt ?_)
      refine wp_mul e1 ?_
      repeat (first | ((with_reducible refine wp_vr ?_); refine ⟨_, rfl, ?_⟩) | with_reducible first | refine wp_cst ?_ | refine wp_bin ?_ | refine wp_ix ?_ | refine wp_add ?_ | refine wp_sub ?_ | refine wp_int ?_ | refine wp_bif ?_ | refine wp_irs ?_ | refine wp_irs0 ?_ | refine wx_sts ?_ | refine wx_sts0 ?_ | refine wx_set ?_ | refine wx_ret ?_ | refine wx_setIx ?_ | refine wx_if ?_ | refine wp_and ?_ | refine wp_or ?_ | refine wp_not ?_ | refine wp_neg ?_ | refine wp_cmp ?_ | refine wp_call ?_ | refine wp_callK ?_ | refine wp_ite ?_ | refine wp_tup ?_ | refine wp_lst ?_ | refine wp_inst ?_ | refine wx_setT ?_ | refine wx_expr ?_ | refine wp_sl ?_ | refine wp_onon ?_ | refine wp_osome ?_ | refine wp_fz ?_ | refine wp_nil ?_ | refine wx_raise ?_ | refine wx_pass ?_ | refine ex_int ?_ | refine wp_slt ?_)
      refine wp_mul e2 ?_
      repeat (first | ((with_reducible refine wp_vr ?_); refine ⟨_, rfl, ?_⟩) | with_reducible first | refine wp_cst ?_ | refine wp_bin ?_ | refine wp_ix ?_ | refine wp_add ?_ | refine wp_sub ?_ | refine wp_int ?_ | refine wp_bif ?_ | refine wp_irs ?_ | refine wp_irs0 ?_ | refine wx_sts ?_ | refine wx_sts0 ?_ | refine wx_set ?_ | refine wx_ret ?_ | refine wx_setIx ?_ | refine wx_if ?_ | refine wp_and ?_ | refine wp_or ?_ | refine wp_not ?_ | refine wp_neg ?_ | refine wp_cmp ?_ | refine wp_call ?_ | refine wp_callK ?_ | refine wp_ite ?_ | refine wp_tup ?_ | refine wp_lst ?_ | refine wp_inst ?_ | refine wx_setT ?_ | refine wx_expr ?_ | refine wp_sl ?_ | refine wp_onon ?_ | refine wp_osome ?_ | refine wp_fz ?_ | refine wp_nil ?_ | refine wx_raise ?_ | refine wx_pass ?_ | refine ex_int ?_ | refine wp_slt ?_)
      refine wp_imp (take_ok dd.take dd.nums hB (by omega) ⟨?_, ?_⟩) ?_
      · rw [Int.mul_assoc]
        omega
      · rw [Int.mul_assoc]
        omega
      rintro d S2 ⟨i, rfl, i1, i2, hd2⟩
      repeat (first | ((with_reducible refine wp_vr ?_); refine ⟨_, rfl, ?_⟩) | with_reducible first | refine wp_cst ?_ | refine wp_bin ?_ | refine wp_ix ?_ | refine wp_add ?_ | refine wp_sub ?_ | refine wp_int ?_ | refine wp_bif ?_ | refine wp_irs ?_ | refine wp_irs0 ?_ | refine wx_sts ?_ | refine wx_sts0 ?_ | refine wx_set ?_ | refine wx_ret ?_ | refine wx_setIx ?_ | refine wx_if ?_ | refine wp_and ?_ | refine wp_or ?_ | refine wp_not ?_ | refine wp_neg ?_ | refine wp_cmp ?_ | refine wp_call ?_ | refine wp_callK ?_ | refine wp_ite ?_ | refine wp_tup ?_ | refine wp_lst ?_ | refine wp_inst ?_ | refine wx_setT ?_ | refine wx_expr ?_ | refine wp_sl ?_ | refine wp_onon ?_ | refine wp_osome ?_ | refine wp_fz ?_ | refine wp_nil ?_ | refine wx_raise ?_ | refine wx_pass ?_ | refine ex_int ?_ | refine wp_slt ?_)
      refine wp_mul e3 ?_
      repeat (first | ((with_reducible refine wp_vr ?_); refine ⟨_, rfl, ?_⟩) | with_reducible first | refine wp_cst ?_ | refine wp_bin ?_ | refine wp_ix ?_ | refine wp_add ?_ | refine wp_sub ?_ | refine wp_int ?_ | refine wp_bif ?_ | refine wp_irs ?_ | refine wp_irs0 ?_ | refine wx_sts ?_ | refine wx_sts0 ?_ | refine wx_set ?_ | refine wx_ret ?_ | refine wx_setIx ?_ | refine wx_if ?_ | refine wp_and ?_ | refine wp_or ?_ | refine wp_not ?_ | refine wp_neg ?_ | refine wp_cmp ?_ | refine wp_call ?_ | refine wp_callK ?_ | refine wp_ite ?_ | refine wp_tup ?_ | refine wp_lst ?_ | refine wp_inst ?_ | refine wx_setT ?_ | refine wx_expr ?_ | refine wp_sl ?_ | refine wp_onon ?_ | refine wp_osome ?_ | refine wp_fz ?_ | refine wp_nil ?_ | refine wx_raise ?_ | refine wx_pass ?_ | refine ex_int ?_ | refine wp_slt ?_)
      refine ⟨?_, hd2⟩
      rw [Int.mul_assoc] at i2
      omega
    · intro ns S' hl hP hd2
      refine wp_fz ?_
      repeat (first | ((with_reducible refine wp_vr ?_); refine ⟨_, rfl, ?_⟩) | with_reducible first | refine wp_cst ?_ | refine wp_bin ?_ | refine wp_ix ?_ | refine wp_add ?_ | refine wp_sub ?_ | refine wp_int ?_ | refine wp_bif ?_ | refine wp_irs ?_ | refine wp_irs0 ?_ | refine wx_sts ?_ | refine wx_sts0 ?_ | refine wx_set ?_ | refine wx_ret ?_ | refine wx_setIx ?_ | refine wx_if ?_ | refine wp_and ?_ | refine wp_or ?_ | refine wp_not ?_ | refine wp_neg ?_ | refine wp_cmp ?_ | refine wp_call ?_ | refine wp_callK ?_ | refine wp_ite ?_ | refine wp_tup ?_ | refine wp_lst ?_ | refine wp_inst ?_ | refine wx_setT ?_ | refine wx_expr ?_ | refine wp_sl ?_ | refine wp_onon ?_ | refine wp_osome ?_ | refine wp_fz ?_ | refine wp_nil ?_ | refine wx_raise ?_ | refine wx_pass ?_ | refine ex_int ?_ | refine wp_slt ?_)
      refine ⟨show 1 ≤ LIM by decide, ?_⟩
      repeat (first | ((with_reducible refine wp_vr ?_); refine ⟨_, rfl, ?_⟩) | with_reducible first | refine wp_cst ?_ | refine wp_bin ?_ | refine wp_ix ?_ | refine wp_add ?_ | refine wp_sub ?_ | refine wp_int ?_ | refine wp_bif ?_ | refine wp_irs ?_ | refine wp_irs0 ?_ | refine wx_sts ?_ | refine wx_sts0 ?_ | refine wx_set ?_ | refine wx_ret ?_ | refine wx_setIx ?_ | refine wx_if ?_ | refine wp_and ?_ | refine wp_or ?_ | refine wp_not ?_ | refine wp_neg ?_ | refine wp_cmp ?_ | refine wp_call ?_ | refine wp_callK ?_ | refine wp_ite ?_ | refine wp_tup ?_ | refine wp_lst ?_ | refine wp_inst ?_ | refine wx_setT ?_ | refine wx_expr ?_ | refine wp_sl ?_ | refine wp_onon ?_ | refine wp_osome ?_ | refine wp_fz ?_ | refine wp_nil ?_ | refine wx_raise ?_ | refine wx_pass ?_ | refine ex_int ?_ | refine wp_slt ?_)
      refine add_lst (by rw [List.length_map, hl]; show z + 1 ≤ LIM; unfold LIM; omega) ?_
      repeat (first | ((with_reducible refine wp_vr ?_); refine ⟨_, rfl, ?_⟩) | with_reducible first | refine wp_cst ?_ | refine wp_bin ?_ | refine wp_ix ?_ | refine wp_add ?_ | refine wp_sub ?_ | refine wp_int ?_ | refine wp_bif ?_ | refine wp_irs ?_ | refine wp_irs0 ?_ | refine wx_sts ?_ | refine wx_sts0 ?_ | refine wx_set ?_ | refine wx_ret ?_ | refine wx_setIx ?_ | refine wx_if ?_ | refine wp_and ?_ | refine wp_or ?_ | refine wp_not ?_ | refine wp_neg ?_ | refine wp_cmp ?_ | refine wp_call ?_ | refine wp_callK ?_ | refine wp_ite ?_ | refine wp_tup ?_ | refine wp_lst ?_ | refine wp_inst ?_ | refine wx_setT ?_ | refine wx_expr ?_ | refine wp_sl ?_ | refine wp_onon ?_ | refine wp_osome ?_ | refine wp_fz ?_ | refine wp_nil ?_ | refine wx_raise ?_ | refine wx_pass ?_ | refine ex_int ?_ | refine wp_slt ?_)
      have e4 : ns.map D.int ++ [D.int base] = (ns ++ [base]).map D.int := by rw [List.map_append]; rfl
      have hlim : ∀ i ∈ ns ++ [base], i.natAbs < 2 ^ 40 := by
        intro i hi
        rcases List.mem_append.mp hi with hi | hi
        · exact hP i hi
        · rcases List.mem_cons.mp hi with rfl | hi
          · omega
          · cases hi
      have hb4 : ∀ i ∈ ns ++ [base], i.natAbs < 2 ^ 4000 := fun i hi => Nat.lt_of_lt_of_le (hlim i hi) (Nat.pow_le_pow_right (by decide) (by decide))
      have hb2 : ∀ i ∈ ns ++ [base], i.natAbs < 2 ^ 200 := fun i hi => Nat.lt_of_lt_of_le (hlim i hi) (Nat.pow_le_pow_right (by decide) (by decide))
      have hln : (ns ++ [base]).length = z + 1 := by rw [List.length_append, hl]; rfl
      rw [e4]
      refine wp_imp (point_ok dd.fac dd.point (l := base) hb4 (by rw [hln]; unfold LIM; omega) (last_at last_snoc) (by simp) (by omega)) ?_
      rintro d S3 ⟨rfl, rfl⟩
      have hsg : sgn base = 1 := if_pos hb1.1
      rw [hsg, Int.mul_one]
      refine ⟨_, rfl, divs_und, ⟨_, by rw [divs_nat], pt_made hln last_snoc hb1.1 hb2⟩, ?_⟩
      have hd3 := hd.trans hd2
      rw [hd3.take rfl]
      exact hd3.mono (by omega)
  refine wx_sts (wx_set (wp_ite (wp_var rfl ⟨whole, rfl, fun _ => ?_, fun _ => ?_⟩)))
  · exact wp_cst (rest 1 S (.inl rfl) ((Dr.refl hx).mono (by omega)))
  · refine wp_ix (wp_lst (wp_irs (wp_cst (wp_irs (wp_cst (wp_irs (wp_cst (wp_irs (wp_cst (wp_irs0 ⟨by decide, wp_fz ?_⟩))))))))))
    refine wp_call (wp_irs (wp_var rfl (wp_irs (wp_cst (wp_irs0 ?_)))))
    refine wp_imp (take_ok dd.take dd.nums hx (by omega) ⟨by decide, by decide⟩) ?_
    rintro d S2 ⟨i, rfl, i1, i2, hd2⟩
    have hi : i = 0 ∨ i = 1 ∨ i = 2 ∨ i = 3 := by omega
    rcases hi with rfl | rfl | rfl | rfl
    · exact wp_ixs rfl (d := .int 1) rfl (rest 1 S2 (by omega) hd2)
    · exact wp_ixs rfl (d := .int 1) rfl (rest 1 S2 (by omega) hd2)
    · exact wp_ixs rfl (d := .int 2) rfl (rest 2 S2 (by omega) hd2)
    · exact wp_ixs rfl (d := .int 3) rfl (rest 3 S2 (by omega) hd2)
end
end Pv

/-! Sides drawn; values near. -/
namespace Pv
open PySem
section
variable {G : Sig} {fs : List Fn} {es : List Ec} {E : Exn → Store → Prop}
def anySdB : STs := sts [.set 2 true (.comp [3] (.name 3) (.rng1 (.bin .add (.var 1) (.cst (.int 1)))) (irs []) (.bin .sub (.call "_law_take" (irs [.var 0, .cst (.int 13)])) (.cst (.int 6)))), .iff (.cmp .eq (.comp [4] (.name 4) (.it (.sl (.var 2) .non (.some (.neg (.cst (.int 1)))))) (irs [.cmp .ne (.var 4) (.cst (.int 0))]) (.var 4)) (.lst (irs []))) (sts [.setIx (.var 2) (.call "_law_take" (irs [.var 0, .var 1])) (.bin .add (.cst (.int 1)) (.call "_law_take" (irs [.var 0, .cst (.int 3)])))]) (sts []), .ret false (.call "_law_side" (irs [.var 2]))]
theorem any_sd_ok {p q r : Int} (dd : Draws fs p q r) (da : Def fs "_law_any_side" 2 5 anySdB) {k : Nat} {S : Store} {n m : Nat} {sz : Int} {z : Nat} (hs : sz = z) (hz : z = 2 ∨ z = 3) (hx : BoxAt S n m) (hm : m + 10 < 2 ^ 20) :
    Wp (fns G fs es (k + 3) "_law_any_side" [.ref n, .int sz] S) (fun d S' => (∃ ns, d = .tup (ns.map D.int) ∧ Sd ns z) ∧ Dr n (m + 10) S S') E := by
  subst hs
  refine wp_def da rfl ?_
  unfold anySdB
  have fin : ∀ (ns : List Int) (S1 : Store) (u v : Option D), ns.length = z + 1 → (∃ l ∈ ns.take z, l ≠ 0) → (∀ l ∈ ns, l.natAbs < 2 ^ 200) → Gr n (m + 10) S S1 → S1[S.length]? = some (.lst (ns.map D.int)) → Wp (STs.execs G (fns G fs es (k + 2)) S.length (sts [.ret false (.call "_law_side" (irs [.var 2]))]) [some (.ref n), some (.int z), some (.ref S.length), u, v] S1)
      (fun fl S1 => ∃ d, fl = .rt d ∧ d.und S.length = true ∧ ((∃ ns, d = .tup (ns.map D.int) ∧ Sd ns z) ∧ Dr n (m + 10) S (S1.take S.length))) (fun _ _ => False) := by
    intro ns S1 u v hl hnz hb hg hS
    obtain ⟨l, hml, h0⟩ := id hnz
    repeat (first | ((with_reducible refine wp_vr ?_); refine ⟨_, rfl, ?_⟩) | with_reducible first | refine wp_cst ?_ | refine wp_bin ?_ | refine wp_ix ?_ | refine wp_add ?_ | refine wp_sub ?_ | refine wp_int ?_ | refine wp_bif ?_ | refine wp_irs ?_ | refine wp_irs0 ?_ | refine wx_sts ?_ | refine wx_sts0 ?_ | refine wx_set ?_ | refine wx_ret ?_ | refine wx_setIx ?_ | refine wx_if ?_ | refine wp_and ?_ | refine wp_or ?_ | refine wp_not ?_ | refine wp_neg ?_ | refine wp_cmp ?_ | refine wp_call ?_ | refine wp_callK ?_ | refine wp_ite ?_ | refine wp_tup ?_ | refine wp_lst ?_ | refine wp_inst ?_ | refine wx_setT ?_ | refine wx_expr ?_ | refine wp_sl ?_ | refine wp_onon ?_ | refine wp_osome ?_ | refine wp_fz ?_ | refine wp_nil ?_ | refine wx_raise ?_ | refine wx_pass ?_ | refine ex_int ?_ | refine wp_slt ?_)
    refine wp_imp (side_ok dd.fac dd.side (ints_ref hS) (fun i hi => Nat.lt_of_lt_of_le (hb i hi) (Nat.pow_le_pow_right (by decide) (by decide))) (by rw [hl]; unfold LIM; omega) (List.mem_of_mem_take hml) h0) ?_
    rintro d S2 ⟨rfl, rfl⟩
    exact ⟨_, rfl, divs_und, ⟨_, by rw [divs_nat], sd_made hl hnz hb⟩, hg.cut⟩
  refine wx_sts (wx_set ?_)
  refine wp_draws (n := n) (m := m) (t := 1) (c := z + 1) (fun i => i.natAbs < 2 ^ 10) (by rw [IR.run]; rfl) (by omega) hx ?_ ?_
  · intro S' m' x hB hm'
    repeat (first | ((with_reducible refine wp_vr ?_); refine ⟨_, rfl, ?_⟩) | with_reducible first | refine wp_cst ?_ | refine wp_bin ?_ | refine wp_ix ?_ | refine wp_add ?_ | refine wp_sub ?_ | refine wp_int ?_ | refine wp_bif ?_ | refine wp_irs ?_ | refine wp_irs0 ?_ | refine wx_sts ?_ | refine wx_sts0 ?_ | refine wx_set ?_ | refine wx_ret ?_ | refine wx_setIx ?_ | refine wx_if ?_ | refine wp_and ?_ | refine wp_or ?_ | refine wp_not ?_ | refine wp_neg ?_ | refine wp_cmp ?_ | refine wp_call ?_ | refine wp_callK ?_ | refine wp_ite ?_ | refine wp_tup ?_ | refine wp_lst ?_ | refine wp_inst ?_ | refine wx_setT ?_ | refine wx_expr ?_ | refine wp_sl ?_ | refine wp_onon ?_ | refine wp_osome ?_ | refine wp_fz ?_ | refine wp_nil ?_ | refine wx_raise ?_ | refine wx_pass ?_ | refine ex_int ?_ | refine wp_slt ?_)
    refine wp_imp (take_ok dd.take dd.nums hB (by omega) ⟨by decide, by decide⟩) ?_
    rintro d S2 ⟨i, rfl, i1, i2, hd2⟩
    repeat (first | ((with_reducible refine wp_vr ?_); refine ⟨_, rfl, ?_⟩) | with_reducible first | refine wp_cst ?_ | refine wp_bin ?_ | refine wp_ix ?_ | refine wp_add ?_ | refine wp_sub ?_ | refine wp_int ?_ | refine wp_bif ?_ | refine wp_irs ?_ | refine wp_irs0 ?_ | refine wx_sts ?_ | refine wx_sts0 ?_ | refine wx_set ?_ | refine wx_ret ?_ | refine wx_setIx ?_ | refine wx_if ?_ | refine wp_and ?_ | refine wp_or ?_ | refine wp_not ?_ | refine wp_neg ?_ | refine wp_cmp ?_ | refine wp_call ?_ | refine wp_callK ?_ | refine wp_ite ?_ | refine wp_tup ?_ | refine wp_lst ?_ | refine wp_inst ?_ | refine wx_setT ?_ | refine wx_expr ?_ | refine wp_sl ?_ | refine wp_onon ?_ | refine wp_osome ?_ | refine wp_fz ?_ | refine wp_nil ?_ | refine wx_raise ?_ | refine wx_pass ?_ | refine ex_int ?_ | refine wp_slt ?_)
    exact ⟨by omega, hd2⟩
  · intro ns S1 hl hP hd
    have hb : ∀ l ∈ ns, l.natAbs < 2 ^ 200 := fun l h => Nat.lt_of_lt_of_le (hP l h) (Nat.pow_le_pow_right (by decide) (by decide))
    have hg : Gr n (m + z + 1) S (S1 ++ [.lst (ns.map D.int)]) := ((hd.gr hx.lt).push _).mono (by omega)
    have hS : (S1 ++ [O.lst (ns.map D.int)])[S.length]? = some (.lst (ns.map D.int)) := by
      rw [← hd.len]
      exact get_new
    refine wp_new ?_
    rw [hd.len]
    generalize S1 ++ [O.lst (ns.map D.int)] = S2 at hg hS ⊢
    have hq : seqOf S2 (.ref S.length) = some (ns.map D.int) := q_ref hS
    have cutE : cutOf (ns.map D.int) none (some (-1)) = (ns.take z).map D.int := by
      rw [cut_last, List.length_map, hl, Nat.add_sub_cancel, List.map_take]
    have slE : IR.run G (fns G fs es (k + 2)) S.length false (.sl (.var 2) .non (.some (.neg (.cst (.int 1))))) [some (.ref n), some (.int z), some (.ref S.length), none, none] S2 = .ok (.lst ((ns.take z).map D.int)) S2 := by
      rw [IR.run]
      show slF false (.ref S.length) none (some (-1)) S2 = _
      have : slF false (.ref S.length) none (some (-1)) S2 = (match seqOf S2 (.ref S.length) with
        | some xs => newL false S2 (cutOf xs none (some (-1)))
        | none => .bad) := rfl
      rw [this, hq]
      show newL false S2 (cutOf (ns.map D.int) none (some (-1))) = _
      rw [cutE]
      rfl
    have hf : ((ns.take z).map D.int).filter D.nz = ((ns.take z).filter fun i => i != 0).map D.int := by
      rw [List.filter_map]
      rfl
    refine wx_sts (wx_if (wp_cmp (wp_filter (p := D.nz) slE rfl ?_ (show 4 < 5 by decide) ?_ ?_)))
    · rw [List.length_map, List.length_take]
      unfold LIM
      omega
    · intro y hy
      obtain ⟨i, _, rfl⟩ := List.mem_map.mp hy
      repeat (first | ((with_reducible refine wp_vr ?_); refine ⟨_, rfl, ?_⟩) | with_reducible first | refine wp_cst ?_ | refine wp_bin ?_ | refine wp_ix ?_ | refine wp_add ?_ | refine wp_sub ?_ | refine wp_int ?_ | refine wp_bif ?_ | refine wp_irs ?_ | refine wp_irs0 ?_ | refine wx_sts ?_ | refine wx_sts0 ?_ | refine wx_set ?_ | refine wx_ret ?_ | refine wx_setIx ?_ | refine wx_if ?_ | refine wp_and ?_ | refine wp_or ?_ | refine wp_not ?_ | refine wp_neg ?_ | refine wp_cmp ?_ | refine wp_call ?_ | refine wp_callK ?_ | refine wp_ite ?_ | refine wp_tup ?_ | refine wp_lst ?_ | refine wp_inst ?_ | refine wx_setT ?_ | refine wx_expr ?_ | refine wp_sl ?_ | refine wp_onon ?_ | refine wp_osome ?_ | refine wp_fz ?_ | refine wp_nil ?_ | refine wx_raise ?_ | refine wx_pass ?_ | refine ex_int ?_ | refine wp_slt ?_)
      exact ⟨_, rfl, rfl, rfl⟩
    · rw [hf]
      have en : cmpOf S2 .eq (.lst (((ns.take z).filter fun i => i != 0).map D.int)) (.lst []) = some ((((ns.take z).filter fun i => i != 0).map D.int).isEmpty) := eq_nil (toPs_ints _) (shaped_ints _)
      have hE : (((ns.take z).filter fun i => i != 0).map D.int).isEmpty = !((ns.take z).any fun i => i != 0) := by
        rw [List.isEmpty_map, filter_any]
      repeat (first | ((with_reducible refine wp_vr ?_); refine ⟨_, rfl, ?_⟩) | with_reducible first | refine wp_cst ?_ | refine wp_bin ?_ | refine wp_ix ?_ | refine wp_add ?_ | refine wp_sub ?_ | refine wp_int ?_ | refine wp_bif ?_ | refine wp_irs ?_ | refine wp_irs0 ?_ | refine wx_sts ?_ | refine wx_sts0 ?_ | refine wx_set ?_ | refine wx_ret ?_ | refine wx_setIx ?_ | refine wx_if ?_ | refine wp_and ?_ | refine wp_or ?_ | refine wp_not ?_ | refine wp_neg ?_ | refine wp_cmp ?_ | refine wp_call ?_ | refine wp_callK ?_ | refine wp_ite ?_ | refine wp_tup ?_ | refine wp_lst ?_ | refine wp_inst ?_ | refine wx_setT ?_ | refine wx_expr ?_ | refine wp_sl ?_ | refine wp_onon ?_ | refine wp_osome ?_ | refine wp_fz ?_ | refine wp_nil ?_ | refine wx_raise ?_ | refine wx_pass ?_ | refine ex_int ?_ | refine wp_slt ?_)
      refine ⟨by decide, ?_⟩
      repeat (first | ((with_reducible refine wp_vr ?_); refine ⟨_, rfl, ?_⟩) | with_reducible first | refine wp_cst ?_ | refine wp_bin ?_ | refine wp_ix ?_ | refine wp_add ?_ | refine wp_sub ?_ | refine wp_int ?_ | refine wp_bif ?_ | refine wp_irs ?_ | refine wp_irs0 ?_ | refine wx_sts ?_ | refine wx_sts0 ?_ | refine wx_set ?_ | refine wx_ret ?_ | refine wx_setIx ?_ | refine wx_if ?_ | refine wp_and ?_ | refine wp_or ?_ | refine wp_not ?_ | refine wp_neg ?_ | refine wp_cmp ?_ | refine wp_call ?_ | refine wp_callK ?_ | refine wp_ite ?_ | refine wp_tup ?_ | refine wp_lst ?_ | refine wp_inst ?_ | refine wx_setT ?_ | refine wx_expr ?_ | refine wp_sl ?_ | refine wp_onon ?_ | refine wp_osome ?_ | refine wp_fz ?_ | refine wp_nil ?_ | refine wx_raise ?_ | refine wx_pass ?_ | refine ex_int ?_ | refine wp_slt ?_)
      refine ⟨_, en, _, rfl, fun h1 => ?_, fun h1 => ?_⟩
      · have hgm : BoxAt S2 n (m + z + 1) := hg.box
        repeat (first | ((with_reducible refine wp_vr ?_); refine ⟨_, rfl, ?_⟩) | with_reducible first | refine wp_cst ?_ | refine wp_bin ?_ | refine wp_ix ?_ | refine wp_add ?_ | refine wp_sub ?_ | refine wp_int ?_ | refine wp_bif ?_ | refine wp_irs ?_ | refine wp_irs0 ?_ | refine wx_sts ?_ | refine wx_sts0 ?_ | refine wx_set ?_ | refine wx_ret ?_ | refine wx_setIx ?_ | refine wx_if ?_ | refine wp_and ?_ | refine wp_or ?_ | refine wp_not ?_ | refine wp_neg ?_ | refine wp_cmp ?_ | refine wp_call ?_ | refine wp_callK ?_ | refine wp_ite ?_ | refine wp_tup ?_ | refine wp_lst ?_ | refine wp_inst ?_ | refine wx_setT ?_ | refine wx_expr ?_ | refine wp_sl ?_ | refine wp_onon ?_ | refine wp_osome ?_ | refine wp_fz ?_ | refine wp_nil ?_ | refine wx_raise ?_ | refine wx_pass ?_ | refine ex_int ?_ | refine wp_slt ?_)
        refine wp_imp (take_ok dd.take dd.nums hgm (by omega) ⟨by decide, by decide⟩) ?_
        rintro d S3 ⟨i, rfl, i1, i2, hd3⟩
        repeat (first | ((with_reducible refine wp_vr ?_); refine ⟨_, rfl, ?_⟩) | with_reducible first | refine wp_cst ?_ | refine wp_bin ?_ | refine wp_ix ?_ | refine wp_add ?_ | refine wp_sub ?_ | refine wp_int ?_ | refine wp_bif ?_ | refine wp_irs ?_ | refine wp_irs0 ?_ | refine wx_sts ?_ | refine wx_sts0 ?_ | refine wx_set ?_ | refine wx_ret ?_ | refine wx_setIx ?_ | refine wx_if ?_ | refine wp_and ?_ | refine wp_or ?_ | refine wp_not ?_ | refine wp_neg ?_ | refine wp_cmp ?_ | refine wp_call ?_ | refine wp_callK ?_ | refine wp_ite ?_ | refine wp_tup ?_ | refine wp_lst ?_ | refine wp_inst ?_ | refine wx_setT ?_ | refine wx_expr ?_ | refine wp_sl ?_ | refine wp_onon ?_ | refine wp_osome ?_ | refine wp_fz ?_ | refine wp_nil ?_ | refine wx_raise ?_ | refine wx_pass ?_ | refine ex_int ?_ | refine wp_slt ?_)
        have hg3 := hg.dr hd3
        have hne : S.length ≠ n := by have := hx.lt; omega
        have hS3 : S3[S.length]? = some (.lst (ns.map D.int)) := (hd3.oth _ hne).trans hS
        refine wp_imp (take_ok dd.take dd.nums hg3.box (by omega) ⟨by omega, by omega⟩) ?_
        rintro d S4 ⟨j, rfl, j1, j2, hd4⟩
        have hg4 := hg3.dr hd4
        have hS4 : S4[S.length]? = some (.lst (ns.map D.int)) := (hd4.oth _ hne).trans hS3
        have hjl : j.toNat < ns.length := by omega
        have put : setAt S.length (.ref S.length) (.int j) (.int (1 + i)) S4 = some (S4.set S.length (.lst ((ns.set j.toNat (1 + i)).map D.int))) := by
          unfold setAt
          dsimp only
          rw [hS4]
          dsimp only
          have e : ixOf (ns.map D.int).length j = some j.toNat := by
            unfold ixOf
            rw [if_pos j1, if_pos (by rw [List.length_map]; omega)]
          rw [e]
          dsimp only
          rw [if_pos (.inl (Nat.le_refl _)), List.map_set]
        refine ⟨_, put, ?_⟩
        repeat (first | ((with_reducible refine wp_vr ?_); refine ⟨_, rfl, ?_⟩) | with_reducible first | refine wp_cst ?_ | refine wp_bin ?_ | refine wp_ix ?_ | refine wp_add ?_ | refine wp_sub ?_ | refine wp_int ?_ | refine wp_bif ?_ | refine wp_irs ?_ | refine wp_irs0 ?_ | refine wx_sts ?_ | refine wx_sts0 ?_ | refine wx_set ?_ | refine wx_ret ?_ | refine wx_setIx ?_ | refine wx_if ?_ | refine wp_and ?_ | refine wp_or ?_ | refine wp_not ?_ | refine wp_neg ?_ | refine wp_cmp ?_ | refine wp_call ?_ | refine wp_callK ?_ | refine wp_ite ?_ | refine wp_tup ?_ | refine wp_lst ?_ | refine wp_inst ?_ | refine wx_setT ?_ | refine wx_expr ?_ | refine wp_sl ?_ | refine wp_onon ?_ | refine wp_osome ?_ | refine wp_fz ?_ | refine wp_nil ?_ | refine wx_raise ?_ | refine wx_pass ?_ | refine ex_int ?_ | refine wp_slt ?_)
        have hlt : S.length < S4.length := (List.getElem?_eq_some_iff.mp hS4).1
        have hg5 : Gr n (m + 10) S (S4.set S.length (.lst ((ns.set j.toNat (1 + i)).map D.int))) := (hg4.upd List.length_set fun a ha => List.getElem?_set_ne (by omega)).mono (by omega)
        refine wp_imp (wp_mono (side_ok dd.fac dd.side (l := 1 + i) (ints_ref (S := S4.set S.length (.lst ((ns.set j.toNat (1 + i)).map D.int))) (n := S.length) (ns := ns.set j.toNat (1 + i)) (List.getElem?_set_self hlt)) ?_ ?_ ?_ ?_) (fun _ _ q => q) (fun _ _ z => z)) ?_
        · intro l hl2
          rcases List.mem_or_eq_of_mem_set hl2 with h | h
          · exact Nat.lt_of_lt_of_le (hb l h) (Nat.pow_le_pow_right (by decide) (by decide))
          · subst h
            exact Nat.lt_of_lt_of_le (show (1 + i).natAbs < 2 ^ 10 by omega) (Nat.pow_le_pow_right (by decide) (by decide))
        · rw [List.length_set, hl]
          unfold LIM
          omega
        · exact List.mem_iff_getElem.mpr ⟨j.toNat, by rw [List.length_set]; exact hjl, List.getElem_set_self _⟩
        · omega
        rintro d S5 ⟨rfl, rfl⟩
        refine ⟨_, rfl, divs_und, ⟨_, by rw [divs_nat], sd_made (by rw [List.length_set]; exact hl) ⟨1 + i, ?_, by omega⟩ ?_⟩, hg5.cut⟩
        · refine List.mem_iff_getElem.mpr ⟨j.toNat, by rw [List.length_take, List.length_set]; omega, ?_⟩
          rw [List.getElem_take, List.getElem_set_self]
        · intro l hl2
          rcases List.mem_or_eq_of_mem_set hl2 with h | h
          · exact hb l h
          · subst h
            exact Nat.lt_of_lt_of_le (show (1 + i).natAbs < 2 ^ 10 by omega) (Nat.pow_le_pow_right (by decide) (by decide))
      · have h2 : ((ns.take z).any fun i => i != 0) = true := by
          rw [hE] at h1
          simpa using h1
        obtain ⟨l, h3, h4⟩ := List.any_eq_true.mp h2
        exact wx_sts0 (fin ns S2 none none hl ⟨l, h3, by simpa using h4⟩ hb (hg.mono (by omega)) hS)
end
end Pv

/-! values near. -/
namespace Pv
open PySem
instance : DecidablePred small := fun i => inferInstanceAs (Decidable (i.natAbs < 2 ^ 250))
/-- items of a tuple, at most so many -/
structure Tq (q : Nat) (xs : List D) : Prop where
  len : xs.length ≤ q
  all : ∀ x ∈ xs, D.f1 x
theorem Tq.val {q : Nat} {xs : List D} (h : Tq q xs) (hq : q ≤ 40) : Val (.tup xs) := .inl ⟨Nat.le_trans h.len hq, h.all⟩
theorem Tq.lval {q : Nat} {xs : List D} (h : Tq q xs) (hq : q ≤ 40) : Val (.lst xs) := .inl ⟨Nat.le_trans h.len hq, h.all⟩
theorem Tq.app {p q : Nat} {xs ys : List D} (a : Tq p xs) (b : Tq q ys) : Tq (p + q) (xs ++ ys) := by
  refine ⟨by rw [List.length_append]; have := a.len; have := b.len; omega, fun x hx => ?_⟩
  rcases List.mem_append.mp hx with h | h
  · exact a.all x h
  · exact b.all x h
theorem Tq.cut {q : Nat} {xs : List D} (a : Tq q xs) {l h : Option Int} : Tq q (cutOf xs l h) := by
  refine ⟨?_, fun x hx => a.all x (List.mem_of_mem_drop (List.mem_of_mem_take hx))⟩
  unfold cutOf
  rw [List.length_take, List.length_drop]
  have := a.len
  omega
theorem Tq.one {x : D} (h : D.f1 x) : Tq 1 [x] := ⟨Nat.le_refl _, fun y hy => by
  rcases List.mem_cons.mp hy with rfl | hy
  · exact h
  · cases hy⟩
theorem Tq.int {i : Int} (h : small i) : Tq 1 [.int i] := Tq.one (x := .int i) h
theorem Tq.ints {ns : List Int} {q : Nat} (hl : ns.length ≤ q) (h : ∀ n ∈ ns, small n) : Tq q (ns.map D.int) := by
  refine ⟨by rw [List.length_map]; exact hl, fun x hx => ?_⟩
  obtain ⟨n, hn, rfl⟩ := List.mem_map.mp hx
  exact h n hn
theorem Tq.zeros {k : Nat} : Tq k (List.replicate k [D.int 0]).flatten := by
  have : (List.replicate k [D.int 0]).flatten = List.replicate k (D.int 0) := by
    induction k with
    | zero => rfl
    | succ k ih =>
      rw [List.replicate_succ, List.flatten_cons, ih]
      rfl
  rw [this]
  refine ⟨by rw [List.length_replicate]; exact Nat.le_refl _, fun x hx => ?_⟩
  rw [(List.mem_replicate.mp hx).2]
  show (0 : Int).natAbs < 2 ^ 250
  decide
section
variable {G : Sig} {Γ : Fns} {b : Nat} {md : Bool} {ρ : Env} {S : Store} {P : D → Prop} {E : Exn → Store → Prop}
/-- items, each so -/
theorem wa_nil : Wp (IRs.runs G Γ b md (irs []) ρ S) (fun xs S' => (∀ x ∈ xs, P x) ∧ xs.length = 0 ∧ S' = S) E := wp_irs0 ⟨fun _ h => (by cases h), rfl, rfl⟩
theorem wa_cons {a : IR} {as : List IR} {l : Nat} (h1 : Wp (a.run G Γ b md ρ S) (fun d S' => P d ∧ S' = S) E) (h2 : Wp (IRs.runs G Γ b md (irs as) ρ S) (fun xs S' => (∀ x ∈ xs, P x) ∧ xs.length = l ∧ S' = S) E) : Wp (IRs.runs G Γ b md (irs (a :: as)) ρ S) (fun xs S' => (∀ x ∈ xs, P x) ∧ xs.length = l + 1 ∧ S' = S) E := by
  refine wp_irs (wp_imp h1 ?_)
  rintro d S1 ⟨hd, rfl⟩
  refine wp_imp h2 ?_
  rintro xs S2 ⟨h, hl, rfl⟩
  refine ⟨fun x hx => ?_, by rw [List.length_cons, hl], rfl⟩
  rcases List.mem_cons.mp hx with rfl | hx
  · exact hd
  · exact h x hx
end
def nearB (big : IR) (rest : List IR) : STs := sts [.setT (.tup (tgs [.name 3, .name 4])) false (.tup (irs [.call "_law_take" (irs [.var 0, .bif .len (irs [.var 1])]), .bin .add (.cst (.int 2)) (.call "_law_take" (irs [.var 0, .cst (.int 3)]))])), .set 2 false (.lst (irs [.var 1, .bif .tuple (irs [.comp [5] (.name 5) (.it (.var 1)) (irs []) (.bin .mul (.var 4) (.var 5))]), .bif .list (irs [.var 1]), .sl (.var 1) .non (.some (.neg (.cst (.int 1)))), .bin .add (.var 1) (.tup (irs [.cst (.int 1)])), .bin .add (.sl (.var 1) .non (.some (.neg (.cst (.int 1))))) (.tup (irs [.cst (.int 0)])), .bin .add (.sl (.var 1) .non (.some (.neg (.cst (.int 1))))) (.tup (irs [.bin .sub (.cst (.int 0)) (.ix (.var 1) (.neg (.cst (.int 1))))]))])), .set 2 false (.bin .add (.var 2) (.comp [5] (.name 5) (.it (.lst (irs [.cst (.bl true), .cst .non, .cst (.str "1"), .tup (irs [.cst (.int 1)]), .lst (irs [.cst (.int 1)]), big]))) (irs []) (.bin .add (.bin .add (.sl (.var 1) .non (.some (.var 3))) (.tup (irs [.var 5]))) (.sl (.var 1) (.some (.bin .add (.var 3) (.cst (.int 1)))) .non)))), .ret false (.bin .add (.var 2) (.lst (irs rest)))]
def nearL : List IR := [.bin .mul (.tup (irs [.cst (.int 0)])) (.bif .len (irs [.var 1])), .bin .add (.bin .mul (.tup (irs [.cst (.int 0)])) (.bin .sub (.bif .len (irs [.var 1])) (.cst (.int 1)))) (.tup (irs [.cst (.int 1)])), .cst .non, .cst (.int 5), .cst (.str "point"), .dct [] .nil, .tup (irs []), .lst (irs []), .cst (.bl true), .tup (irs [.cst (.int 1)]), .tup (irs [.cst (.int 1), .cst (.int 2)]), .tup (irs [.cst (.int 1), .cst (.int 2), .cst (.int 3), .cst (.int 4), .cst (.int 5)])]
section
variable {G : Sig} {fs : List Fn} {es : List Ec} {E : Exn → Store → Prop}
theorem val_tup {xs : List D} (h : xs.length ≤ 40 ∧ ∀ x ∈ xs, D.f1 x) : Val (.tup xs) := .inl h
theorem near_rest {Γ : Fns} {b : Nat} {S : Store} {ns : List Int} {at_ by_ rows r : Option D} {x : Option D} (hl : ns.length = 3 ∨ ns.length = 4) : Wp (IRs.runs G Γ b false (irs nearL) [x, some (.tup (ns.map D.int)), rows, at_, by_, r] S) (fun xs S' => (∀ x ∈ xs, Val x) ∧ xs.length = 12 ∧ S' = S) E := by
  have hn : (((ns.map D.int).length : Nat) : Int) = (ns.length : Nat) := by rw [List.length_map]
  unfold nearL
  refine wa_cons ?_ (wa_cons ?_ (wa_cons ?_ (wa_cons ?_ (wa_cons ?_ (wa_cons ?_ (wa_cons ?_ (wa_cons ?_ (wa_cons ?_ (wa_cons ?_ (wa_cons ?_ (wa_cons ?_ wa_nil)))))))))))
  · repeat (first | ((with_reducible refine wp_vr ?_); refine ⟨_, rfl, ?_⟩) | with_reducible first | refine wp_cst ?_ | refine wp_bin ?_ | refine wp_ix ?_ | refine wp_add ?_ | refine wp_sub ?_ | refine wp_int ?_ | refine wp_bif ?_ | refine wp_irs ?_ | refine wp_irs0 ?_ | refine wx_sts ?_ | refine wx_sts0 ?_ | refine wx_set ?_ | refine wx_ret ?_ | refine wx_setIx ?_ | refine wx_if ?_ | refine wp_and ?_ | refine wp_or ?_ | refine wp_not ?_ | refine wp_neg ?_ | refine wp_cmp ?_ | refine wp_call ?_ | refine wp_callK ?_ | refine wp_ite ?_ | refine wp_tup ?_ | refine wp_lst ?_ | refine wp_inst ?_ | refine wx_setT ?_ | refine wx_expr ?_ | refine wp_sl ?_ | refine wp_onon ?_ | refine wp_osome ?_ | refine wp_fz ?_ | refine wp_nil ?_ | refine wx_raise ?_ | refine wx_pass ?_ | refine ex_int ?_ | refine wp_slt ?_)
    refine ⟨show 1 ≤ LIM by decide, ?_⟩
    repeat (first | ((with_reducible refine wp_vr ?_); refine ⟨_, rfl, ?_⟩) | with_reducible first | refine wp_cst ?_ | refine wp_bin ?_ | refine wp_ix ?_ | refine wp_add ?_ | refine wp_sub ?_ | refine wp_int ?_ | refine wp_bif ?_ | refine wp_irs ?_ | refine wp_irs0 ?_ | refine wx_sts ?_ | refine wx_sts0 ?_ | refine wx_set ?_ | refine wx_ret ?_ | refine wx_setIx ?_ | refine wx_if ?_ | refine wp_and ?_ | refine wp_or ?_ | refine wp_not ?_ | refine wp_neg ?_ | refine wp_cmp ?_ | refine wp_call ?_ | refine wp_callK ?_ | refine wp_ite ?_ | refine wp_tup ?_ | refine wp_lst ?_ | refine wp_inst ?_ | refine wx_setT ?_ | refine wx_expr ?_ | refine wp_sl ?_ | refine wp_onon ?_ | refine wp_osome ?_ | refine wp_fz ?_ | refine wp_nil ?_ | refine wx_raise ?_ | refine wx_pass ?_ | refine ex_int ?_ | refine wp_slt ?_)
    refine wp_some rfl ?_
    refine wp_mult ⟨by omega, by omega, by decide, by decide⟩ ⟨?_, rfl⟩
    exact Tq.zeros.val (by omega)
  · repeat (first | ((with_reducible refine wp_vr ?_); refine ⟨_, rfl, ?_⟩) | with_reducible first | refine wp_cst ?_ | refine wp_bin ?_ | refine wp_ix ?_ | refine wp_add ?_ | refine wp_sub ?_ | refine wp_int ?_ | refine wp_bif ?_ | refine wp_irs ?_ | refine wp_irs0 ?_ | refine wx_sts ?_ | refine wx_sts0 ?_ | refine wx_set ?_ | refine wx_ret ?_ | refine wx_setIx ?_ | refine wx_if ?_ | refine wp_and ?_ | refine wp_or ?_ | refine wp_not ?_ | refine wp_neg ?_ | refine wp_cmp ?_ | refine wp_call ?_ | refine wp_callK ?_ | refine wp_ite ?_ | refine wp_tup ?_ | refine wp_lst ?_ | refine wp_inst ?_ | refine wx_setT ?_ | refine wx_expr ?_ | refine wp_sl ?_ | refine wp_onon ?_ | refine wp_osome ?_ | refine wp_fz ?_ | refine wp_nil ?_ | refine wx_raise ?_ | refine wx_pass ?_ | refine ex_int ?_ | refine wp_slt ?_)
    refine ⟨show 1 ≤ LIM by decide, ?_⟩
    repeat (first | ((with_reducible refine wp_vr ?_); refine ⟨_, rfl, ?_⟩) | with_reducible first | refine wp_cst ?_ | refine wp_bin ?_ | refine wp_ix ?_ | refine wp_add ?_ | refine wp_sub ?_ | refine wp_int ?_ | refine wp_bif ?_ | refine wp_irs ?_ | refine wp_irs0 ?_ | refine wx_sts ?_ | refine wx_sts0 ?_ | refine wx_set ?_ | refine wx_ret ?_ | refine wx_setIx ?_ | refine wx_if ?_ | refine wp_and ?_ | refine wp_or ?_ | refine wp_not ?_ | refine wp_neg ?_ | refine wp_cmp ?_ | refine wp_call ?_ | refine wp_callK ?_ | refine wp_ite ?_ | refine wp_tup ?_ | refine wp_lst ?_ | refine wp_inst ?_ | refine wx_setT ?_ | refine wx_expr ?_ | refine wp_sl ?_ | refine wp_onon ?_ | refine wp_osome ?_ | refine wp_fz ?_ | refine wp_nil ?_ | refine wx_raise ?_ | refine wx_pass ?_ | refine ex_int ?_ | refine wp_slt ?_)
    refine wp_some rfl ?_
    repeat (first | ((with_reducible refine wp_vr ?_); refine ⟨_, rfl, ?_⟩) | with_reducible first | refine wp_cst ?_ | refine wp_bin ?_ | refine wp_ix ?_ | refine wp_add ?_ | refine wp_sub ?_ | refine wp_int ?_ | refine wp_bif ?_ | refine wp_irs ?_ | refine wp_irs0 ?_ | refine wx_sts ?_ | refine wx_sts0 ?_ | refine wx_set ?_ | refine wx_ret ?_ | refine wx_setIx ?_ | refine wx_if ?_ | refine wp_and ?_ | refine wp_or ?_ | refine wp_not ?_ | refine wp_neg ?_ | refine wp_cmp ?_ | refine wp_call ?_ | refine wp_callK ?_ | refine wp_ite ?_ | refine wp_tup ?_ | refine wp_lst ?_ | refine wp_inst ?_ | refine wx_setT ?_ | refine wx_expr ?_ | refine wp_sl ?_ | refine wp_onon ?_ | refine wp_osome ?_ | refine wp_fz ?_ | refine wp_nil ?_ | refine wx_raise ?_ | refine wx_pass ?_ | refine ex_int ?_ | refine wp_slt ?_)
    refine wp_mult ⟨by omega, by omega, by decide, by decide⟩ ?_
    repeat (first | ((with_reducible refine wp_vr ?_); refine ⟨_, rfl, ?_⟩) | with_reducible first | refine wp_cst ?_ | refine wp_bin ?_ | refine wp_ix ?_ | refine wp_add ?_ | refine wp_sub ?_ | refine wp_int ?_ | refine wp_bif ?_ | refine wp_irs ?_ | refine wp_irs0 ?_ | refine wx_sts ?_ | refine wx_sts0 ?_ | refine wx_set ?_ | refine wx_ret ?_ | refine wx_setIx ?_ | refine wx_if ?_ | refine wp_and ?_ | refine wp_or ?_ | refine wp_not ?_ | refine wp_neg ?_ | refine wp_cmp ?_ | refine wp_call ?_ | refine wp_callK ?_ | refine wp_ite ?_ | refine wp_tup ?_ | refine wp_lst ?_ | refine wp_inst ?_ | refine wx_setT ?_ | refine wx_expr ?_ | refine wp_sl ?_ | refine wp_onon ?_ | refine wp_osome ?_ | refine wp_fz ?_ | refine wp_nil ?_ | refine wx_raise ?_ | refine wx_pass ?_ | refine ex_int ?_ | refine wp_slt ?_)
    refine ⟨show 1 ≤ LIM by decide, ?_⟩
    refine wp_addt ?_ ⟨?_, rfl⟩
    · have := (Tq.zeros (k := (((ns.map D.int).length : Nat) - 1 : Int).toNat)).len
      show _ + 1 ≤ LIM
      unfold LIM
      omega
    · exact (Tq.zeros.app (Tq.int (show small 1 by decide))).val (by omega)
  · repeat (first | ((with_reducible refine wp_vr ?_); refine ⟨_, rfl, ?_⟩) | with_reducible first | refine wp_cst ?_ | refine wp_bin ?_ | refine wp_ix ?_ | refine wp_add ?_ | refine wp_sub ?_ | refine wp_int ?_ | refine wp_bif ?_ | refine wp_irs ?_ | refine wp_irs0 ?_ | refine wx_sts ?_ | refine wx_sts0 ?_ | refine wx_set ?_ | refine wx_ret ?_ | refine wx_setIx ?_ | refine wx_if ?_ | refine wp_and ?_ | refine wp_or ?_ | refine wp_not ?_ | refine wp_neg ?_ | refine wp_cmp ?_ | refine wp_call ?_ | refine wp_callK ?_ | refine wp_ite ?_ | refine wp_tup ?_ | refine wp_lst ?_ | refine wp_inst ?_ | refine wx_setT ?_ | refine wx_expr ?_ | refine wp_sl ?_ | refine wp_onon ?_ | refine wp_osome ?_ | refine wp_fz ?_ | refine wp_nil ?_ | refine wx_raise ?_ | refine wx_pass ?_ | refine ex_int ?_ | refine wp_slt ?_)
    exact ⟨.inl trivial, rfl⟩
  · repeat (first | ((with_reducible refine wp_vr ?_); refine ⟨_, rfl, ?_⟩) | with_reducible first | refine wp_cst ?_ | refine wp_bin ?_ | refine wp_ix ?_ | refine wp_add ?_ | refine wp_sub ?_ | refine wp_int ?_ | refine wp_bif ?_ | refine wp_irs ?_ | refine wp_irs0 ?_ | refine wx_sts ?_ | refine wx_sts0 ?_ | refine wx_set ?_ | refine wx_ret ?_ | refine wx_setIx ?_ | refine wx_if ?_ | refine wp_and ?_ | refine wp_or ?_ | refine wp_not ?_ | refine wp_neg ?_ | refine wp_cmp ?_ | refine wp_call ?_ | refine wp_callK ?_ | refine wp_ite ?_ | refine wp_tup ?_ | refine wp_lst ?_ | refine wp_inst ?_ | refine wx_setT ?_ | refine wx_expr ?_ | refine wp_sl ?_ | refine wp_onon ?_ | refine wp_osome ?_ | refine wp_fz ?_ | refine wp_nil ?_ | refine wx_raise ?_ | refine wx_pass ?_ | refine ex_int ?_ | refine wp_slt ?_)
    exact ⟨.inl (show (5 : Int).natAbs < 2 ^ 250 by decide), rfl⟩
  · repeat (first | ((with_reducible refine wp_vr ?_); refine ⟨_, rfl, ?_⟩) | with_reducible first | refine wp_cst ?_ | refine wp_bin ?_ | refine wp_ix ?_ | refine wp_add ?_ | refine wp_sub ?_ | refine wp_int ?_ | refine wp_bif ?_ | refine wp_irs ?_ | refine wp_irs0 ?_ | refine wx_sts ?_ | refine wx_sts0 ?_ | refine wx_set ?_ | refine wx_ret ?_ | refine wx_setIx ?_ | refine wx_if ?_ | refine wp_and ?_ | refine wp_or ?_ | refine wp_not ?_ | refine wp_neg ?_ | refine wp_cmp ?_ | refine wp_call ?_ | refine wp_callK ?_ | refine wp_ite ?_ | refine wp_tup ?_ | refine wp_lst ?_ | refine wp_inst ?_ | refine wx_setT ?_ | refine wx_expr ?_ | refine wp_sl ?_ | refine wp_onon ?_ | refine wp_osome ?_ | refine wp_fz ?_ | refine wp_nil ?_ | refine wx_raise ?_ | refine wx_pass ?_ | refine ex_int ?_ | refine wp_slt ?_)
    exact ⟨.inl (show PyData.strOk "point" = true by decide +kernel), rfl⟩
  · refine wp_dct ?_
    repeat (first | ((with_reducible refine wp_vr ?_); refine ⟨_, rfl, ?_⟩) | with_reducible first | refine wp_cst ?_ | refine wp_bin ?_ | refine wp_ix ?_ | refine wp_add ?_ | refine wp_sub ?_ | refine wp_int ?_ | refine wp_bif ?_ | refine wp_irs ?_ | refine wp_irs0 ?_ | refine wx_sts ?_ | refine wx_sts0 ?_ | refine wx_set ?_ | refine wx_ret ?_ | refine wx_setIx ?_ | refine wx_if ?_ | refine wp_and ?_ | refine wp_or ?_ | refine wp_not ?_ | refine wp_neg ?_ | refine wp_cmp ?_ | refine wp_call ?_ | refine wp_callK ?_ | refine wp_ite ?_ | refine wp_tup ?_ | refine wp_lst ?_ | refine wp_inst ?_ | refine wx_setT ?_ | refine wx_expr ?_ | refine wp_sl ?_ | refine wp_onon ?_ | refine wp_osome ?_ | refine wp_fz ?_ | refine wp_nil ?_ | refine wx_raise ?_ | refine wx_pass ?_ | refine ex_int ?_ | refine wp_slt ?_)
    refine ⟨⟨by decide, List.nodup_nil, rfl⟩, wp_fzd ⟨.inr rfl, rfl⟩⟩
  · repeat (first | ((with_reducible refine wp_vr ?_); refine ⟨_, rfl, ?_⟩) | with_reducible first | refine wp_cst ?_ | refine wp_bin ?_ | refine wp_ix ?_ | refine wp_add ?_ | refine wp_sub ?_ | refine wp_int ?_ | refine wp_bif ?_ | refine wp_irs ?_ | refine wp_irs0 ?_ | refine wx_sts ?_ | refine wx_sts0 ?_ | refine wx_set ?_ | refine wx_ret ?_ | refine wx_setIx ?_ | refine wx_if ?_ | refine wp_and ?_ | refine wp_or ?_ | refine wp_not ?_ | refine wp_neg ?_ | refine wp_cmp ?_ | refine wp_call ?_ | refine wp_callK ?_ | refine wp_ite ?_ | refine wp_tup ?_ | refine wp_lst ?_ | refine wp_inst ?_ | refine wx_setT ?_ | refine wx_expr ?_ | refine wp_sl ?_ | refine wp_onon ?_ | refine wp_osome ?_ | refine wp_fz ?_ | refine wp_nil ?_ | refine wx_raise ?_ | refine wx_pass ?_ | refine ex_int ?_ | refine wp_slt ?_)
    exact ⟨by decide, val_tup ⟨by decide, fun _ h => by cases h⟩, rfl⟩
  · repeat (first | ((with_reducible refine wp_vr ?_); refine ⟨_, rfl, ?_⟩) | with_reducible first | refine wp_cst ?_ | refine wp_bin ?_ | refine wp_ix ?_ | refine wp_add ?_ | refine wp_sub ?_ | refine wp_int ?_ | refine wp_bif ?_ | refine wp_irs ?_ | refine wp_irs0 ?_ | refine wx_sts ?_ | refine wx_sts0 ?_ | refine wx_set ?_ | refine wx_ret ?_ | refine wx_setIx ?_ | refine wx_if ?_ | refine wp_and ?_ | refine wp_or ?_ | refine wp_not ?_ | refine wp_neg ?_ | refine wp_cmp ?_ | refine wp_call ?_ | refine wp_callK ?_ | refine wp_ite ?_ | refine wp_tup ?_ | refine wp_lst ?_ | refine wp_inst ?_ | refine wx_setT ?_ | refine wx_expr ?_ | refine wp_sl ?_ | refine wp_onon ?_ | refine wp_osome ?_ | refine wp_fz ?_ | refine wp_nil ?_ | refine wx_raise ?_ | refine wx_pass ?_ | refine ex_int ?_ | refine wp_slt ?_)
    refine ⟨by decide, ?_⟩
    repeat (first | ((with_reducible refine wp_vr ?_); refine ⟨_, rfl, ?_⟩) | with_reducible first | refine wp_cst ?_ | refine wp_bin ?_ | refine wp_ix ?_ | refine wp_add ?_ | refine wp_sub ?_ | refine wp_int ?_ | refine wp_bif ?_ | refine wp_irs ?_ | refine wp_irs0 ?_ | refine wx_sts ?_ | refine wx_sts0 ?_ | refine wx_set ?_ | refine wx_ret ?_ | refine wx_setIx ?_ | refine wx_if ?_ | refine wp_and ?_ | refine wp_or ?_ | refine wp_not ?_ | refine wp_neg ?_ | refine wp_cmp ?_ | refine wp_call ?_ | refine wp_callK ?_ | refine wp_ite ?_ | refine wp_tup ?_ | refine wp_lst ?_ | refine wp_inst ?_ | refine wx_setT ?_ | refine wx_expr ?_ | refine wp_sl ?_ | refine wp_onon ?_ | refine wp_osome ?_ | refine wp_fz ?_ | refine wp_nil ?_ | refine wx_raise ?_ | refine wx_pass ?_ | refine ex_int ?_ | refine wp_slt ?_)
    exact ⟨.inl ⟨by decide, fun _ h => by cases h⟩, rfl⟩
  · repeat (first | ((with_reducible refine wp_vr ?_); refine ⟨_, rfl, ?_⟩) | with_reducible first | refine wp_cst ?_ | refine wp_bin ?_ | refine wp_ix ?_ | refine wp_add ?_ | refine wp_sub ?_ | refine wp_int ?_ | refine wp_bif ?_ | refine wp_irs ?_ | refine wp_irs0 ?_ | refine wx_sts ?_ | refine wx_sts0 ?_ | refine wx_set ?_ | refine wx_ret ?_ | refine wx_setIx ?_ | refine wx_if ?_ | refine wp_and ?_ | refine wp_or ?_ | refine wp_not ?_ | refine wp_neg ?_ | refine wp_cmp ?_ | refine wp_call ?_ | refine wp_callK ?_ | refine wp_ite ?_ | refine wp_tup ?_ | refine wp_lst ?_ | refine wp_inst ?_ | refine wx_setT ?_ | refine wx_expr ?_ | refine wp_sl ?_ | refine wp_onon ?_ | refine wp_osome ?_ | refine wp_fz ?_ | refine wp_nil ?_ | refine wx_raise ?_ | refine wx_pass ?_ | refine ex_int ?_ | refine wp_slt ?_)
    exact ⟨.inl trivial, rfl⟩
  · repeat (first | ((with_reducible refine wp_vr ?_); refine ⟨_, rfl, ?_⟩) | with_reducible first | refine wp_cst ?_ | refine wp_bin ?_ | refine wp_ix ?_ | refine wp_add ?_ | refine wp_sub ?_ | refine wp_int ?_ | refine wp_bif ?_ | refine wp_irs ?_ | refine wp_irs0 ?_ | refine wx_sts ?_ | refine wx_sts0 ?_ | refine wx_set ?_ | refine wx_ret ?_ | refine wx_setIx ?_ | refine wx_if ?_ | refine wp_and ?_ | refine wp_or ?_ | refine wp_not ?_ | refine wp_neg ?_ | refine wp_cmp ?_ | refine wp_call ?_ | refine wp_callK ?_ | refine wp_ite ?_ | refine wp_tup ?_ | refine wp_lst ?_ | refine wp_inst ?_ | refine wx_setT ?_ | refine wx_expr ?_ | refine wp_sl ?_ | refine wp_onon ?_ | refine wp_osome ?_ | refine wp_fz ?_ | refine wp_nil ?_ | refine wx_raise ?_ | refine wx_pass ?_ | refine ex_int ?_ | refine wp_slt ?_)
    exact ⟨by decide, (Tq.ints (ns := [1]) (q := 1) (by decide) (by decide)).val (by decide), rfl⟩
  · repeat (first | ((with_reducible refine wp_vr ?_); refine ⟨_, rfl, ?_⟩) | with_reducible first | refine wp_cst ?_ | refine wp_bin ?_ | refine wp_ix ?_ | refine wp_add ?_ | refine wp_sub ?_ | refine wp_int ?_ | refine wp_bif ?_ | refine wp_irs ?_ | refine wp_irs0 ?_ | refine wx_sts ?_ | refine wx_sts0 ?_ | refine wx_set ?_ | refine wx_ret ?_ | refine wx_setIx ?_ | refine wx_if ?_ | refine wp_and ?_ | refine wp_or ?_ | refine wp_not ?_ | refine wp_neg ?_ | refine wp_cmp ?_ | refine wp_call ?_ | refine wp_callK ?_ | refine wp_ite ?_ | refine wp_tup ?_ | refine wp_lst ?_ | refine wp_inst ?_ | refine wx_setT ?_ | refine wx_expr ?_ | refine wp_sl ?_ | refine wp_onon ?_ | refine wp_osome ?_ | refine wp_fz ?_ | refine wp_nil ?_ | refine wx_raise ?_ | refine wx_pass ?_ | refine ex_int ?_ | refine wp_slt ?_)
    exact ⟨by decide, (Tq.ints (ns := [1, 2]) (q := 2) (by decide) (by decide)).val (by decide), rfl⟩
  · repeat (first | ((with_reducible refine wp_vr ?_); refine ⟨_, rfl, ?_⟩) | with_reducible first | refine wp_cst ?_ | refine wp_bin ?_ | refine wp_ix ?_ | refine wp_add ?_ | refine wp_sub ?_ | refine wp_int ?_ | refine wp_bif ?_ | refine wp_irs ?_ | refine wp_irs0 ?_ | refine wx_sts ?_ | refine wx_sts0 ?_ | refine wx_set ?_ | refine wx_ret ?_ | refine wx_setIx ?_ | refine wx_if ?_ | refine wp_and ?_ | refine wp_or ?_ | refine wp_not ?_ | refine wp_neg ?_ | refine wp_cmp ?_ | refine wp_call ?_ | refine wp_callK ?_ | refine wp_ite ?_ | refine wp_tup ?_ | refine wp_lst ?_ | refine wp_inst ?_ | refine wx_setT ?_ | refine wx_expr ?_ | refine wp_sl ?_ | refine wp_onon ?_ | refine wp_osome ?_ | refine wp_fz ?_ | refine wp_nil ?_ | refine wx_raise ?_ | refine wx_pass ?_ | refine ex_int ?_ | refine wp_slt ?_)
    exact ⟨by decide, (Tq.ints (ns := [1, 2, 3, 4, 5]) (q := 5) (by decide) (by decide)).val (by decide), rfl⟩
theorem near_ok {p q r : Int} (dd : Draws fs p q r) {big : IR} (hbig : ∀ (Γ : Fns) (b : Nat) (ρ : Env) (S : Store) (E : Exn → Store → Prop), Wp (IR.run G Γ b false big ρ S) (fun d S' => D.f1 d ∧ S' = S) E) (dn : Def fs "_law_near" 2 6 (nearB big nearL)) {k : Nat} {S : Store} {n m : Nat} {ns : List Int} (hl : ns.length = 3 ∨ ns.length = 4) (hb : ∀ i ∈ ns, i.natAbs < 2 ^ 200) (hx : BoxAt S n m) (hm : m + 2 < 2 ^ 20) :
    Wp (fns G fs es (k + 2) "_law_near" [.ref n, .tup (ns.map D.int)] S) (fun d S' => (∃ rows, d = .lst rows ∧ rows.length ≤ LIM ∧ ∀ v ∈ rows, Val v) ∧ Dr n (m + 2) S S') E := by
  refine wp_def dn rfl ?_
  unfold nearB
  have hb2 : ∀ i ∈ ns, small i := fun i hi => Nat.lt_trans (hb i hi) (by decide)
  have hT : Tq 4 (ns.map D.int) := Tq.ints (by omega) hb2
  have hlen : (ns.map D.int).length = ns.length := List.length_map _
  obtain ⟨l, hlast⟩ : ∃ l, ns.getLast? = some l := by
    cases e : ns.getLast? with
    | some l => exact ⟨l, rfl⟩
    | none =>
      have := List.getLast?_eq_none_iff.mp e
      rw [this] at hl
      simp at hl
  have hls : small (0 - l) := by
    have := hb l (List.mem_of_getLast? hlast)
    have h3 : (0 - l).natAbs = l.natAbs := by omega
    show (0 - l).natAbs < 2 ^ 250
    rw [h3]
    exact Nat.lt_trans this (by decide)
  repeat (first | ((with_reducible refine wp_vr ?_); refine ⟨_, rfl, ?_⟩) | with_reducible first | refine wp_cst ?_ | refine wp_bin ?_ | refine wp_ix ?_ | refine wp_add ?_ | refine wp_sub ?_ | refine wp_int ?_ | refine wp_bif ?_ | refine wp_irs ?_ | refine wp_irs0 ?_ | refine wx_sts ?_ | refine wx_sts0 ?_ | refine wx_set ?_ | refine wx_ret ?_ | refine wx_setIx ?_ | refine wx_if ?_ | refine wp_and ?_ | refine wp_or ?_ | refine wp_not ?_ | refine wp_neg ?_ | refine wp_cmp ?_ | refine wp_call ?_ | refine wp_callK ?_ | refine wp_ite ?_ | refine wp_tup ?_ | refine wp_lst ?_ | refine wp_inst ?_ | refine wx_setT ?_ | refine wx_expr ?_ | refine wp_sl ?_ | refine wp_onon ?_ | refine wp_osome ?_ | refine wp_fz ?_ | refine wp_nil ?_ | refine wx_raise ?_ | refine wx_pass ?_ | refine ex_int ?_ | refine wp_slt ?_)
  refine wp_some rfl ?_
  repeat (first | ((with_reducible refine wp_vr ?_); refine ⟨_, rfl, ?_⟩) | with_reducible first | refine wp_cst ?_ | refine wp_bin ?_ | refine wp_ix ?_ | refine wp_add ?_ | refine wp_sub ?_ | refine wp_int ?_ | refine wp_bif ?_ | refine wp_irs ?_ | refine wp_irs0 ?_ | refine wx_sts ?_ | refine wx_sts0 ?_ | refine wx_set ?_ | refine wx_ret ?_ | refine wx_setIx ?_ | refine wx_if ?_ | refine wp_and ?_ | refine wp_or ?_ | refine wp_not ?_ | refine wp_neg ?_ | refine wp_cmp ?_ | refine wp_call ?_ | refine wp_callK ?_ | refine wp_ite ?_ | refine wp_tup ?_ | refine wp_lst ?_ | refine wp_inst ?_ | refine wx_setT ?_ | refine wx_expr ?_ | refine wp_sl ?_ | refine wp_onon ?_ | refine wp_osome ?_ | refine wp_fz ?_ | refine wp_nil ?_ | refine wx_raise ?_ | refine wx_pass ?_ | refine ex_int ?_ | refine wp_slt ?_)
  refine wp_imp (take_ok dd.take dd.nums hx (by omega) ⟨by omega, by omega⟩) ?_
  rintro d S1 ⟨a, rfl, a1, a2, hd1⟩
  repeat (first | ((with_reducible refine wp_vr ?_); refine ⟨_, rfl, ?_⟩) | with_reducible first | refine wp_cst ?_ | refine wp_bin ?_ | refine wp_ix ?_ | refine wp_add ?_ | refine wp_sub ?_ | refine wp_int ?_ | refine wp_bif ?_ | refine wp_irs ?_ | refine wp_irs0 ?_ | refine wx_sts ?_ | refine wx_sts0 ?_ | refine wx_set ?_ | refine wx_ret ?_ | refine wx_setIx ?_ | refine wx_if ?_ | refine wp_and ?_ | refine wp_or ?_ | refine wp_not ?_ | refine wp_neg ?_ | refine wp_cmp ?_ | refine wp_call ?_ | refine wp_callK ?_ | refine wp_ite ?_ | refine wp_tup ?_ | refine wp_lst ?_ | refine wp_inst ?_ | refine wx_setT ?_ | refine wx_expr ?_ | refine wp_sl ?_ | refine wp_onon ?_ | refine wp_osome ?_ | refine wp_fz ?_ | refine wp_nil ?_ | refine wx_raise ?_ | refine wx_pass ?_ | refine ex_int ?_ | refine wp_slt ?_)
  refine wp_imp (take_ok dd.take dd.nums hd1.box (by omega) ⟨by decide, by decide⟩) ?_
  rintro d S2 ⟨c, rfl, c1, c2, hd2⟩
  have hd := hd1.trans hd2
  repeat (first | ((with_reducible refine wp_vr ?_); refine ⟨_, rfl, ?_⟩) | with_reducible first | refine wp_cst ?_ | refine wp_bin ?_ | refine wp_ix ?_ | refine wp_add ?_ | refine wp_sub ?_ | refine wp_int ?_ | refine wp_bif ?_ | refine wp_irs ?_ | refine wp_irs0 ?_ | refine wx_sts ?_ | refine wx_sts0 ?_ | refine wx_set ?_ | refine wx_ret ?_ | refine wx_setIx ?_ | refine wx_if ?_ | refine wp_and ?_ | refine wp_or ?_ | refine wp_not ?_ | refine wp_neg ?_ | refine wp_cmp ?_ | refine wp_call ?_ | refine wp_callK ?_ | refine wp_ite ?_ | refine wp_tup ?_ | refine wp_lst ?_ | refine wp_inst ?_ | refine wx_setT ?_ | refine wx_expr ?_ | refine wp_sl ?_ | refine wp_onon ?_ | refine wp_osome ?_ | refine wp_fz ?_ | refine wp_nil ?_ | refine wx_raise ?_ | refine wx_pass ?_ | refine ex_int ?_ | refine wp_slt ?_)
  refine ⟨two_lim, ⟨_, rfl, ?_⟩⟩
  refine wx_sts (wx_set (wp_lst (wp_imp (wa_cons (P := Val) ?_ (wa_cons ?_ (wa_cons ?_ (wa_cons ?_ (wa_cons ?_ (wa_cons ?_ (wa_cons ?_ wa_nil))))))) ?_)))
  · repeat (first | ((with_reducible refine wp_vr ?_); refine ⟨_, rfl, ?_⟩) | with_reducible first | refine wp_cst ?_ | refine wp_bin ?_ | refine wp_ix ?_ | refine wp_add ?_ | refine wp_sub ?_ | refine wp_int ?_ | refine wp_bif ?_ | refine wp_irs ?_ | refine wp_irs0 ?_ | refine wx_sts ?_ | refine wx_sts0 ?_ | refine wx_set ?_ | refine wx_ret ?_ | refine wx_setIx ?_ | refine wx_if ?_ | refine wp_and ?_ | refine wp_or ?_ | refine wp_not ?_ | refine wp_neg ?_ | refine wp_cmp ?_ | refine wp_call ?_ | refine wp_callK ?_ | refine wp_ite ?_ | refine wp_tup ?_ | refine wp_lst ?_ | refine wp_inst ?_ | refine wx_setT ?_ | refine wx_expr ?_ | refine wp_sl ?_ | refine wp_onon ?_ | refine wp_osome ?_ | refine wp_fz ?_ | refine wp_nil ?_ | refine wx_raise ?_ | refine wx_pass ?_ | refine ex_int ?_ | refine wp_slt ?_)
    exact ⟨hT.val (by decide), rfl⟩
  · repeat (first | ((with_reducible refine wp_vr ?_); refine ⟨_, rfl, ?_⟩) | with_reducible first | refine wp_cst ?_ | refine wp_bin ?_ | refine wp_ix ?_ | refine wp_add ?_ | refine wp_sub ?_ | refine wp_int ?_ | refine wp_bif ?_ | refine wp_irs ?_ | refine wp_irs0 ?_ | refine wx_sts ?_ | refine wx_sts0 ?_ | refine wx_set ?_ | refine wx_ret ?_ | refine wx_setIx ?_ | refine wx_if ?_ | refine wp_and ?_ | refine wp_or ?_ | refine wp_not ?_ | refine wp_neg ?_ | refine wp_cmp ?_ | refine wp_call ?_ | refine wp_callK ?_ | refine wp_ite ?_ | refine wp_tup ?_ | refine wp_lst ?_ | refine wp_inst ?_ | refine wx_setT ?_ | refine wx_expr ?_ | refine wp_sl ?_ | refine wp_onon ?_ | refine wp_osome ?_ | refine wp_fz ?_ | refine wp_nil ?_ | refine wx_raise ?_ | refine wx_pass ?_ | refine ex_int ?_ | refine wp_slt ?_)
    refine wp_map (f := fun d => match d with
      | .int i => .int ((2 + c) * i)
      | d => d) (d := .tup (ns.map D.int)) (by rw [IR.run]; rfl) rfl (by rw [hlen]; unfold LIM; omega) ?_ ?_
    · intro x hx
      obtain ⟨i, hi, rfl⟩ := List.mem_map.mp hx
      repeat (first | ((with_reducible refine wp_vr ?_); refine ⟨_, rfl, ?_⟩) | with_reducible first | refine wp_cst ?_ | refine wp_bin ?_ | refine wp_ix ?_ | refine wp_add ?_ | refine wp_sub ?_ | refine wp_int ?_ | refine wp_bif ?_ | refine wp_irs ?_ | refine wp_irs0 ?_ | refine wx_sts ?_ | refine wx_sts0 ?_ | refine wx_set ?_ | refine wx_ret ?_ | refine wx_setIx ?_ | refine wx_if ?_ | refine wp_and ?_ | refine wp_or ?_ | refine wp_not ?_ | refine wp_neg ?_ | refine wp_cmp ?_ | refine wp_call ?_ | refine wp_callK ?_ | refine wp_ite ?_ | refine wp_tup ?_ | refine wp_lst ?_ | refine wp_inst ?_ | refine wx_setT ?_ | refine wx_expr ?_ | refine wp_sl ?_ | refine wp_onon ?_ | refine wp_osome ?_ | refine wp_fz ?_ | refine wp_nil ?_ | refine wx_raise ?_ | refine wx_pass ?_ | refine ex_int ?_ | refine wp_slt ?_)
      exact wp_mul (bits_of (k := 10) (l := 200) (by omega) (hb i hi) (by decide)) ⟨rfl, rfl⟩
    · repeat (first | ((with_reducible refine wp_vr ?_); refine ⟨_, rfl, ?_⟩) | with_reducible first | refine wp_cst ?_ | refine wp_bin ?_ | refine wp_ix ?_ | refine wp_add ?_ | refine wp_sub ?_ | refine wp_int ?_ | refine wp_bif ?_ | refine wp_irs ?_ | refine wp_irs0 ?_ | refine wx_sts ?_ | refine wx_sts0 ?_ | refine wx_set ?_ | refine wx_ret ?_ | refine wx_setIx ?_ | refine wx_if ?_ | refine wp_and ?_ | refine wp_or ?_ | refine wp_not ?_ | refine wp_neg ?_ | refine wp_cmp ?_ | refine wp_call ?_ | refine wp_callK ?_ | refine wp_ite ?_ | refine wp_tup ?_ | refine wp_lst ?_ | refine wp_inst ?_ | refine wx_setT ?_ | refine wx_expr ?_ | refine wp_sl ?_ | refine wp_onon ?_ | refine wp_osome ?_ | refine wp_fz ?_ | refine wp_nil ?_ | refine wx_raise ?_ | refine wx_pass ?_ | refine ex_int ?_ | refine wp_slt ?_)
      rw [List.map_map]
      refine wp_some rfl ⟨.inl ⟨by rw [List.length_map]; omega, fun x hx => ?_⟩, rfl⟩
      obtain ⟨i, hi, rfl⟩ := List.mem_map.mp hx
      show ((2 + c) * i).natAbs < 2 ^ 250
      rw [Int.natAbs_mul]
      exact Nat.lt_trans (Nat.mul_lt_mul_of_lt_of_le (show (2 + c).natAbs < 2 ^ 10 by omega) (Nat.le_of_lt (hb i hi)) (Nat.two_pow_pos _)) (by decide)
  · repeat (first | ((with_reducible refine wp_vr ?_); refine ⟨_, rfl, ?_⟩) | with_reducible first | refine wp_cst ?_ | refine wp_bin ?_ | refine wp_ix ?_ | refine wp_add ?_ | refine wp_sub ?_ | refine wp_int ?_ | refine wp_bif ?_ | refine wp_irs ?_ | refine wp_irs0 ?_ | refine wx_sts ?_ | refine wx_sts0 ?_ | refine wx_set ?_ | refine wx_ret ?_ | refine wx_setIx ?_ | refine wx_if ?_ | refine wp_and ?_ | refine wp_or ?_ | refine wp_not ?_ | refine wp_neg ?_ | refine wp_cmp ?_ | refine wp_call ?_ | refine wp_callK ?_ | refine wp_ite ?_ | refine wp_tup ?_ | refine wp_lst ?_ | refine wp_inst ?_ | refine wx_setT ?_ | refine wx_expr ?_ | refine wp_sl ?_ | refine wp_onon ?_ | refine wp_osome ?_ | refine wp_fz ?_ | refine wp_nil ?_ | refine wx_raise ?_ | refine wx_pass ?_ | refine ex_int ?_ | refine wp_slt ?_)
    exact wp_ok ⟨hT.lval (by decide), rfl⟩
  · repeat (first | ((with_reducible refine wp_vr ?_); refine ⟨_, rfl, ?_⟩) | with_reducible first | refine wp_cst ?_ | refine wp_bin ?_ | refine wp_ix ?_ | refine wp_add ?_ | refine wp_sub ?_ | refine wp_int ?_ | refine wp_bif ?_ | refine wp_irs ?_ | refine wp_irs0 ?_ | refine wx_sts ?_ | refine wx_sts0 ?_ | refine wx_set ?_ | refine wx_ret ?_ | refine wx_setIx ?_ | refine wx_if ?_ | refine wp_and ?_ | refine wp_or ?_ | refine wp_not ?_ | refine wp_neg ?_ | refine wp_cmp ?_ | refine wp_call ?_ | refine wp_callK ?_ | refine wp_ite ?_ | refine wp_tup ?_ | refine wp_lst ?_ | refine wp_inst ?_ | refine wx_setT ?_ | refine wx_expr ?_ | refine wp_sl ?_ | refine wp_onon ?_ | refine wp_osome ?_ | refine wp_fz ?_ | refine wp_nil ?_ | refine wx_raise ?_ | refine wx_pass ?_ | refine ex_int ?_ | refine wp_slt ?_)
    exact ⟨hT.cut.val (by decide), rfl⟩
  · repeat (first | ((with_reducible refine wp_vr ?_); refine ⟨_, rfl, ?_⟩) | with_reducible first | refine wp_cst ?_ | refine wp_bin ?_ | refine wp_ix ?_ | refine wp_add ?_ | refine wp_sub ?_ | refine wp_int ?_ | refine wp_bif ?_ | refine wp_irs ?_ | refine wp_irs0 ?_ | refine wx_sts ?_ | refine wx_sts0 ?_ | refine wx_set ?_ | refine wx_ret ?_ | refine wx_setIx ?_ | refine wx_if ?_ | refine wp_and ?_ | refine wp_or ?_ | refine wp_not ?_ | refine wp_neg ?_ | refine wp_cmp ?_ | refine wp_call ?_ | refine wp_callK ?_ | refine wp_ite ?_ | refine wp_tup ?_ | refine wp_lst ?_ | refine wp_inst ?_ | refine wx_setT ?_ | refine wx_expr ?_ | refine wp_sl ?_ | refine wp_onon ?_ | refine wp_osome ?_ | refine wp_fz ?_ | refine wp_nil ?_ | refine wx_raise ?_ | refine wx_pass ?_ | refine ex_int ?_ | refine wp_slt ?_)
    refine ⟨by decide, ?_⟩
    refine wp_addt (by rw [hlen]; show _ + 1 ≤ LIM; unfold LIM; omega) ⟨?_, rfl⟩
    exact (hT.app (Tq.int (show small 1 by decide))).val (by decide)
  · repeat (first | ((with_reducible refine wp_vr ?_); refine ⟨_, rfl, ?_⟩) | with_reducible first | refine wp_cst ?_ | refine wp_bin ?_ | refine wp_ix ?_ | refine wp_add ?_ | refine wp_sub ?_ | refine wp_int ?_ | refine wp_bif ?_ | refine wp_irs ?_ | refine wp_irs0 ?_ | refine wx_sts ?_ | refine wx_sts0 ?_ | refine wx_set ?_ | refine wx_ret ?_ | refine wx_setIx ?_ | refine wx_if ?_ | refine wp_and ?_ | refine wp_or ?_ | refine wp_not ?_ | refine wp_neg ?_ | refine wp_cmp ?_ | refine wp_call ?_ | refine wp_callK ?_ | refine wp_ite ?_ | refine wp_tup ?_ | refine wp_lst ?_ | refine wp_inst ?_ | refine wx_setT ?_ | refine wx_expr ?_ | refine wp_sl ?_ | refine wp_onon ?_ | refine wp_osome ?_ | refine wp_fz ?_ | refine wp_nil ?_ | refine wx_raise ?_ | refine wx_pass ?_ | refine ex_int ?_ | refine wp_slt ?_)
    refine ⟨by decide, ?_⟩
    refine wp_addt ?_ ⟨(hT.cut.app (Tq.int (show small 0 by decide))).val (by decide), rfl⟩
    have := (hT.cut (l := none) (h := some (-1))).len
    show _ + 1 ≤ LIM
    unfold LIM
    omega
  · repeat (first | ((with_reducible refine wp_vr ?_); refine ⟨_, rfl, ?_⟩) | with_reducible first | refine wp_cst ?_ | refine wp_bin ?_ | refine wp_ix ?_ | refine wp_add ?_ | refine wp_sub ?_ | refine wp_int ?_ | refine wp_bif ?_ | refine wp_irs ?_ | refine wp_irs0 ?_ | refine wx_sts ?_ | refine wx_sts0 ?_ | refine wx_set ?_ | refine wx_ret ?_ | refine wx_setIx ?_ | refine wx_if ?_ | refine wp_and ?_ | refine wp_or ?_ | refine wp_not ?_ | refine wp_neg ?_ | refine wp_cmp ?_ | refine wp_call ?_ | refine wp_callK ?_ | refine wp_ite ?_ | refine wp_tup ?_ | refine wp_lst ?_ | refine wp_inst ?_ | refine wx_setT ?_ | refine wx_expr ?_ | refine wp_sl ?_ | refine wp_onon ?_ | refine wp_osome ?_ | refine wp_fz ?_ | refine wp_nil ?_ | refine wx_raise ?_ | refine wx_pass ?_ | refine ex_int ?_ | refine wp_slt ?_)
    refine wp_ixs rfl (last_at hlast) ?_
    repeat (first | ((with_reducible refine wp_vr ?_); refine ⟨_, rfl, ?_⟩) | with_reducible first | refine wp_cst ?_ | refine wp_bin ?_ | refine wp_ix ?_ | refine wp_add ?_ | refine wp_sub ?_ | refine wp_int ?_ | refine wp_bif ?_ | refine wp_irs ?_ | refine wp_irs0 ?_ | refine wx_sts ?_ | refine wx_sts0 ?_ | refine wx_set ?_ | refine wx_ret ?_ | refine wx_setIx ?_ | refine wx_if ?_ | refine wp_and ?_ | refine wp_or ?_ | refine wp_not ?_ | refine wp_neg ?_ | refine wp_cmp ?_ | refine wp_call ?_ | refine wp_callK ?_ | refine wp_ite ?_ | refine wp_tup ?_ | refine wp_lst ?_ | refine wp_inst ?_ | refine wx_setT ?_ | refine wx_expr ?_ | refine wp_sl ?_ | refine wp_onon ?_ | refine wp_osome ?_ | refine wp_fz ?_ | refine wp_nil ?_ | refine wx_raise ?_ | refine wx_pass ?_ | refine ex_int ?_ | refine wp_slt ?_)
    refine ⟨show 1 ≤ LIM by decide, ?_⟩
    refine wp_addt ?_ ⟨(hT.cut.app (Tq.int hls)).val (by decide), rfl⟩
    have := (hT.cut (l := none) (h := some (-1))).len
    show _ + 1 ≤ LIM
    unfold LIM
    omega
  rintro rows S3 ⟨hr, hrl, rfl⟩
  refine ⟨by rw [hrl]; decide, wp_fz ?_⟩
  refine wx_sts (wx_set (wp_bin (wp_var rfl ?_)))
  refine wp_comp (ws_it (wp_lst (wp_imp (wa_cons (P := D.f1) ?_ (wa_cons ?_ (wa_cons ?_ (wa_cons ?_ (wa_cons ?_ (wa_cons ?_ wa_nil)))))) ?_)))
  · repeat (first | ((with_reducible refine wp_vr ?_); refine ⟨_, rfl, ?_⟩) | with_reducible first | refine wp_cst ?_ | refine wp_bin ?_ | refine wp_ix ?_ | refine wp_add ?_ | refine wp_sub ?_ | refine wp_int ?_ | refine wp_bif ?_ | refine wp_irs ?_ | refine wp_irs0 ?_ | refine wx_sts ?_ | refine wx_sts0 ?_ | refine wx_set ?_ | refine wx_ret ?_ | refine wx_setIx ?_ | refine wx_if ?_ | refine wp_and ?_ | refine wp_or ?_ | refine wp_not ?_ | refine wp_neg ?_ | refine wp_cmp ?_ | refine wp_call ?_ | refine wp_callK ?_ | refine wp_ite ?_ | refine wp_tup ?_ | refine wp_lst ?_ | refine wp_inst ?_ | refine wx_setT ?_ | refine wx_expr ?_ | refine wp_sl ?_ | refine wp_onon ?_ | refine wp_osome ?_ | refine wp_fz ?_ | refine wp_nil ?_ | refine wx_raise ?_ | refine wx_pass ?_ | refine ex_int ?_ | refine wp_slt ?_)
    exact ⟨trivial, rfl⟩
  · repeat (first | ((with_reducible refine wp_vr ?_); refine ⟨_, rfl, ?_⟩) | with_reducible first | refine wp_cst ?_ | refine wp_bin ?_ | refine wp_ix ?_ | refine wp_add ?_ | refine wp_sub ?_ | refine wp_int ?_ | refine wp_bif ?_ | refine wp_irs ?_ | refine wp_irs0 ?_ | refine wx_sts ?_ | refine wx_sts0 ?_ | refine wx_set ?_ | refine wx_ret ?_ | refine wx_setIx ?_ | refine wx_if ?_ | refine wp_and ?_ | refine wp_or ?_ | refine wp_not ?_ | refine wp_neg ?_ | refine wp_cmp ?_ | refine wp_call ?_ | refine wp_callK ?_ | refine wp_ite ?_ | refine wp_tup ?_ | refine wp_lst ?_ | refine wp_inst ?_ | refine wx_setT ?_ | refine wx_expr ?_ | refine wp_sl ?_ | refine wp_onon ?_ | refine wp_osome ?_ | refine wp_fz ?_ | refine wp_nil ?_ | refine wx_raise ?_ | refine wx_pass ?_ | refine ex_int ?_ | refine wp_slt ?_)
    exact ⟨trivial, rfl⟩
  · repeat (first | ((with_reducible refine wp_vr ?_); refine ⟨_, rfl, ?_⟩) | with_reducible first | refine wp_cst ?_ | refine wp_bin ?_ | refine wp_ix ?_ | refine wp_add ?_ | refine wp_sub ?_ | refine wp_int ?_ | refine wp_bif ?_ | refine wp_irs ?_ | refine wp_irs0 ?_ | refine wx_sts ?_ | refine wx_sts0 ?_ | refine wx_set ?_ | refine wx_ret ?_ | refine wx_setIx ?_ | refine wx_if ?_ | refine wp_and ?_ | refine wp_or ?_ | refine wp_not ?_ | refine wp_neg ?_ | refine wp_cmp ?_ | refine wp_call ?_ | refine wp_callK ?_ | refine wp_ite ?_ | refine wp_tup ?_ | refine wp_lst ?_ | refine wp_inst ?_ | refine wx_setT ?_ | refine wx_expr ?_ | refine wp_sl ?_ | refine wp_onon ?_ | refine wp_osome ?_ | refine wp_fz ?_ | refine wp_nil ?_ | refine wx_raise ?_ | refine wx_pass ?_ | refine ex_int ?_ | refine wp_slt ?_)
    exact ⟨show PyData.strOk "1" = true by decide +kernel, rfl⟩
  · repeat (first | ((with_reducible refine wp_vr ?_); refine ⟨_, rfl, ?_⟩) | with_reducible first | refine wp_cst ?_ | refine wp_bin ?_ | refine wp_ix ?_ | refine wp_add ?_ | refine wp_sub ?_ | refine wp_int ?_ | refine wp_bif ?_ | refine wp_irs ?_ | refine wp_irs0 ?_ | refine wx_sts ?_ | refine wx_sts0 ?_ | refine wx_set ?_ | refine wx_ret ?_ | refine wx_setIx ?_ | refine wx_if ?_ | refine wp_and ?_ | refine wp_or ?_ | refine wp_not ?_ | refine wp_neg ?_ | refine wp_cmp ?_ | refine wp_call ?_ | refine wp_callK ?_ | refine wp_ite ?_ | refine wp_tup ?_ | refine wp_lst ?_ | refine wp_inst ?_ | refine wx_setT ?_ | refine wx_expr ?_ | refine wp_sl ?_ | refine wp_onon ?_ | refine wp_osome ?_ | refine wp_fz ?_ | refine wp_nil ?_ | refine wx_raise ?_ | refine wx_pass ?_ | refine ex_int ?_ | refine wp_slt ?_)
    exact ⟨by decide, ⟨by decide, fun x hx => by rcases List.mem_cons.mp hx with rfl | hx; exact (show small 1 by decide); cases hx⟩, rfl⟩
  · repeat (first | ((with_reducible refine wp_vr ?_); refine ⟨_, rfl, ?_⟩) | with_reducible first | refine wp_cst ?_ | refine wp_bin ?_ | refine wp_ix ?_ | refine wp_add ?_ | refine wp_sub ?_ | refine wp_int ?_ | refine wp_bif ?_ | refine wp_irs ?_ | refine wp_irs0 ?_ | refine wx_sts ?_ | refine wx_sts0 ?_ | refine wx_set ?_ | refine wx_ret ?_ | refine wx_setIx ?_ | refine wx_if ?_ | refine wp_and ?_ | refine wp_or ?_ | refine wp_not ?_ | refine wp_neg ?_ | refine wp_cmp ?_ | refine wp_call ?_ | refine wp_callK ?_ | refine wp_ite ?_ | refine wp_tup ?_ | refine wp_lst ?_ | refine wp_inst ?_ | refine wx_setT ?_ | refine wx_expr ?_ | refine wp_sl ?_ | refine wp_onon ?_ | refine wp_osome ?_ | refine wp_fz ?_ | refine wp_nil ?_ | refine wx_raise ?_ | refine wx_pass ?_ | refine ex_int ?_ | refine wp_slt ?_)
    refine ⟨by decide, ?_⟩
    repeat (first | ((with_reducible refine wp_vr ?_); refine ⟨_, rfl, ?_⟩) | with_reducible first | refine wp_cst ?_ | refine wp_bin ?_ | refine wp_ix ?_ | refine wp_add ?_ | refine wp_sub ?_ | refine wp_int ?_ | refine wp_bif ?_ | refine wp_irs ?_ | refine wp_irs0 ?_ | refine wx_sts ?_ | refine wx_sts0 ?_ | refine wx_set ?_ | refine wx_ret ?_ | refine wx_setIx ?_ | refine wx_if ?_ | refine wp_and ?_ | refine wp_or ?_ | refine wp_not ?_ | refine wp_neg ?_ | refine wp_cmp ?_ | refine wp_call ?_ | refine wp_callK ?_ | refine wp_ite ?_ | refine wp_tup ?_ | refine wp_lst ?_ | refine wp_inst ?_ | refine wx_setT ?_ | refine wx_expr ?_ | refine wp_sl ?_ | refine wp_onon ?_ | refine wp_osome ?_ | refine wp_fz ?_ | refine wp_nil ?_ | refine wx_raise ?_ | refine wx_pass ?_ | refine ex_int ?_ | refine wp_slt ?_)
    exact ⟨⟨by decide, fun x hx => by rcases List.mem_cons.mp hx with rfl | hx; exact (show small 1 by decide); cases hx⟩, rfl⟩
  · exact hbig _ _ _ _ _
  rintro its S4 ⟨hi, hil, rfl⟩
  refine ⟨by rw [hil]; decide, wp_fz ⟨_, rfl, its, rfl, by rw [hil]; decide, ?_⟩⟩
  refine ⟨fun i acc S' => acc.length = i ∧ (∀ x ∈ acc, Val x) ∧ S' = S4, ⟨rfl, fun _ h => (by cases h), rfl⟩, ?_, ?_⟩
  · rintro i x acc S5 hx5 ⟨ha, hv, rfl⟩
    have hx1 := hi x (List.mem_of_getElem? hx5)
    refine ⟨_, rfl, wt_nil ⟨fun _ => ?_, fun z => Bool.noConfusion z⟩⟩
    have q1 := hT.cut (l := none) (h := some a)
    have q2 := q1.app (Tq.one hx1)
    have q3 := hT.cut (l := some (a + 1)) (h := none)
    repeat (first | ((with_reducible refine wp_vr ?_); refine ⟨_, rfl, ?_⟩) | with_reducible first | refine wp_cst ?_ | refine wp_bin ?_ | refine wp_ix ?_ | refine wp_add ?_ | refine wp_sub ?_ | refine wp_int ?_ | refine wp_bif ?_ | refine wp_irs ?_ | refine wp_irs0 ?_ | refine wx_sts ?_ | refine wx_sts0 ?_ | refine wx_set ?_ | refine wx_ret ?_ | refine wx_setIx ?_ | refine wx_if ?_ | refine wp_and ?_ | refine wp_or ?_ | refine wp_not ?_ | refine wp_neg ?_ | refine wp_cmp ?_ | refine wp_call ?_ | refine wp_callK ?_ | refine wp_ite ?_ | refine wp_tup ?_ | refine wp_lst ?_ | refine wp_inst ?_ | refine wx_setT ?_ | refine wx_expr ?_ | refine wp_sl ?_ | refine wp_onon ?_ | refine wp_osome ?_ | refine wp_fz ?_ | refine wp_nil ?_ | refine wx_raise ?_ | refine wx_pass ?_ | refine ex_int ?_ | refine wp_slt ?_)
    refine ⟨show 1 ≤ LIM by decide, ?_⟩
    refine wp_addt ?_ ?_
    · have := q1.len
      show _ + 1 ≤ LIM
      unfold LIM
      omega
    repeat (first | ((with_reducible refine wp_vr ?_); refine ⟨_, rfl, ?_⟩) | with_reducible first | refine wp_cst ?_ | refine wp_bin ?_ | refine wp_ix ?_ | refine wp_add ?_ | refine wp_sub ?_ | refine wp_int ?_ | refine wp_bif ?_ | refine wp_irs ?_ | refine wp_irs0 ?_ | refine wx_sts ?_ | refine wx_sts0 ?_ | refine wx_set ?_ | refine wx_ret ?_ | refine wx_setIx ?_ | refine wx_if ?_ | refine wp_and ?_ | refine wp_or ?_ | refine wp_not ?_ | refine wp_neg ?_ | refine wp_cmp ?_ | refine wp_call ?_ | refine wp_callK ?_ | refine wp_ite ?_ | refine wp_tup ?_ | refine wp_lst ?_ | refine wp_inst ?_ | refine wx_setT ?_ | refine wx_expr ?_ | refine wp_sl ?_ | refine wp_onon ?_ | refine wp_osome ?_ | refine wp_fz ?_ | refine wp_nil ?_ | refine wx_raise ?_ | refine wx_pass ?_ | refine ex_int ?_ | refine wp_slt ?_)
    refine wp_addt ?_ ?_
    · have := q2.len
      have := q3.len
      unfold LIM
      omega
    refine ⟨by rw [List.length_append, ha]; rfl, fun y hy => ?_, rfl⟩
    rcases List.mem_append.mp hy with h | h
    · exact hv y h
    · rcases List.mem_cons.mp h with rfl | h
      · exact (q2.app q3).val (by decide)
      · cases h
  · rintro acc S5 ⟨ha, hv, rfl⟩
    refine wp_fz ?_
    refine add_lst (by rw [hrl, ha, hil]; decide) (wp_fz ?_)
    refine wx_sts (wx_ret (wp_bin (wp_var rfl (wp_lst (wp_imp (near_rest hl) ?_)))))
    rintro rest S6 ⟨hr2, hrl2, rfl⟩
    refine ⟨by rw [hrl2]; decide, wp_fz ?_⟩
    refine add_lst (by rw [List.length_append, hrl, ha, hil, hrl2]; decide) (wp_fz ?_)
    have hall : ∀ v ∈ rows ++ acc ++ rest, Val v := by
      intro v hv2
      rcases List.mem_append.mp hv2 with h | h
      · rcases List.mem_append.mp h with h | h
        · exact hr v h
        · exact hv v h
      · exact hr2 v h
    have hu : ∀ xs : List D, (∀ v ∈ xs, Val v) → D.undAll S.length xs = true := by
      intro xs
      induction xs with
      | nil => intro _; rw [D.undAll]
      | cons x xs ih =>
        intro h
        rw [D.undAll, ih fun y hy => h y (.tail _ hy)]
        rcases h x (.head _) with h | rfl
        · rw [h.und]
          rfl
        · rfl
    refine ⟨_, rfl, by rw [D.und]; exact hu _ hall, ⟨_, rfl, ?_, hall⟩, ?_⟩
    · rw [List.length_append, List.length_append, hrl, ha, hil, hrl2]
      decide
    · rw [hd.take rfl]
      exact hd
end
end Pv

/-! the law: judging. -/
namespace Pv
open PySem
def judB : STs := sts [.for (.name 3) (.it (.call "_law_near" (irs [.var 0, .var 1]))) (sts [.set 4 false (.lst (irs [.or (.call "_law_is_point" (irs [.var 3, .cst (.int 2)])) (.call "_law_is_point" (irs [.var 3, .cst (.int 3)])), .or (.call "_law_is_side" (irs [.var 3, .cst (.int 2)])) (.call "_law_is_side" (irs [.var 3, .cst (.int 3)]))])), .set 5 false (.ite (.var 2) (.lst (irs [.callK "is_point" (irs []) ["value"] (irs [.var 3]), .callK "is_side" (irs []) ["value"] (irs [.var 3])])) (.lst (irs [.call "is_point" (irs [.var 3]), .call "is_side" (irs [.var 3])]))), .iff (.not (.call "_law_same" (irs [.var 5, .var 4]))) (sts [.ret false (.cst (.bl false))]) (sts []), .iff (.not (.ix (.var 4) (.cst (.int 0)))) (sts [.set 6 false (.call "_law_copy" (irs [.var 3])), .set 5 false (.call "_law_asked" (irs [.cst (.int 1), .var 6, .var 2])), .iff (.or (.cmp .ne (.ix (.var 5) (.cst (.int 0))) (.cst (.str "point"))) (.not (.call "_law_blamed" (irs [.ix (.var 5) (.cst (.int 1)), .var 6])))) (sts [.ret false (.cst (.bl false))]) (sts [])]) (sts []), .set 2 false (.not (.var 2))]), .ret false (.cst (.bl true))]
/-- all defs of the first law -/
structure K1 (G : Sig) (fs : List Fn) (es : List Ec) (p q r : Int) (big : IR) : Prop where
  md : Mod fs es
  dd : Draws fs p q r
  same : Def fs "_law_same" 2 4 sameB
  copy : DefO fs "_law_copy" 1 1 copyB
  blam : Def fs "_law_blamed" 2 2 blamB
  asked : Def fs "_law_asked" 3 4 askB
  near : Def fs "_law_near" 2 6 (nearB big nearL)
  big : ∀ (Γ : Fns) (b : Nat) (ρ : Env) (S : Store) (E : Exn → Store → Prop), Wp (IR.run G Γ b false big ρ S) (fun d S' => D.f1 d ∧ S' = S) E
  anyPt : Def fs "_law_any_point" 4 6 anyPtB
  anySd : Def fs "_law_any_side" 2 5 anySdB
  whole : Def fs "_law_whole" 1 1 intB
  lpt : Def fs "_law_is_point" 2 3 lawPtB
  lsd : Def fs "_law_is_side" 2 3 lawSidB
  frac : Def fs "_law_fraction" 2 3 fracB
  g : Named G
  g1 : G.ps "is_point" = ([("value" : Str)] : List Str)
  g2 : G.ps "is_side" = ([("value" : Str)] : List Str)
theorem bindK_one {kw : Str} {d : D} : bindK [kw] ([] : List D) [kw] [d] = [d] := by
  unfold bindK
  simp [List.lookup]
theorem ne_str {S : Store} {x : Str} : cmpOf S .ne (.str x) (.str x) = some false := by
  show Option.map _ (some (decide (x = x))) = _
  simp
section
variable {G : Sig} {fs : List Fn} {es : List Ec} {E : Exn → Store → Prop}
theorem or_bl {Γ : Fns} {b : Nat} {md : Bool} {ρ : Env} {S : Store} {Q : D → Store → Prop} {a c : IR} {x y : Bool} (h1 : Wp (a.run G Γ b md ρ S) (fun d S' => d = .bl x ∧ S' = S) E) (h2 : Wp (c.run G Γ b md ρ S) (fun d S' => d = .bl y ∧ S' = S) E) (h : Q (.bl (x || y)) S) : Wp (IR.run G Γ b md (.or a c) ρ S) Q E := by
  refine wp_or (wp_imp h1 ?_)
  rintro d S1 ⟨rfl, rfl⟩
  refine ⟨x, rfl, fun hx => ?_, fun hx => ?_⟩
  · refine wp_imp h2 ?_
    rintro d S2 ⟨rfl, rfl⟩
    rw [hx, Bool.false_or] at h
    exact h
  · rw [hx, Bool.true_or] at h
    rw [hx]
    exact h
theorem jud_ok {p q r : Int} {big : IR} (K : K1 G fs es p q r big) (dj : Def fs "_law_judged_right" 3 7 judB) {k : Nat} {S : Store} {n m : Nat} {ns : List Int} {by_ : Bool} (hl : ns.length = 3 ∨ ns.length = 4) (hb : ∀ i ∈ ns, i.natAbs < 2 ^ 200) (hx : BoxAt S n m) (hm : m + 2 < 2 ^ 20) :
    Wp (fns G fs es (k + 10) "_law_judged_right" [.ref n, .tup (ns.map D.int), .bl by_] S) (fun d S' => d = .bl true ∧ Dr n (m + 2) S S') E := by
  refine wp_def dj rfl ?_
  unfold judB
  refine wx_sts (wx_for (ws_it ?_))
  repeat (first | ((with_reducible refine wp_vr ?_); refine ⟨_, rfl, ?_⟩) | with_reducible first | refine wp_cst ?_ | refine wp_bin ?_ | refine wp_ix ?_ | refine wp_add ?_ | refine wp_sub ?_ | refine wp_int ?_ | refine wp_bif ?_ | refine wp_irs ?_ | refine wp_irs0 ?_ | refine wx_sts ?_ | refine wx_sts0 ?_ | refine wx_set ?_ | refine wx_ret ?_ | refine wx_setIx ?_ | refine wx_if ?_ | refine wp_and ?_ | refine wp_or ?_ | refine wp_not ?_ | refine wp_neg ?_ | refine wp_cmp ?_ | refine wp_call ?_ | refine wp_callK ?_ | refine wp_ite ?_ | refine wp_tup ?_ | refine wp_lst ?_ | refine wp_inst ?_ | refine wx_setT ?_ | refine wx_expr ?_ | refine wp_sl ?_ | refine wp_onon ?_ | refine wp_osome ?_ | refine wp_fz ?_ | refine wp_nil ?_ | refine wx_raise ?_ | refine wx_pass ?_ | refine ex_int ?_ | refine wp_slt ?_)
  refine wp_imp (near_ok K.dd K.big K.near hl hb hx hm) ?_
  rintro d S0 ⟨⟨rows, rfl, hrl, hv⟩, hd0⟩
  refine ⟨_, rfl, rows, rfl, fun i ρ S' => Gr n (m + 2) S S' ∧ ∃ (u : Bool) (a b c e : Option D), ρ = [some (.ref n), some (.tup (ns.map D.int)), some (.bl u), a, b, c, e], ⟨hd0.gr hx.lt, by_, none, none, none, none, rfl⟩, ?_, ?_⟩
  · rintro i v ρ S1 hv1 ⟨hg, u, a, b, c, e, rfl⟩
    have val : Val v := hv v (List.mem_of_getElem? hv1)
    have fit : Fit S1 v := val.fit
    refine ⟨_, rfl, ?_⟩
    have lp : ∀ mm : Int, 0 ≤ mm → Wp (fns G fs es (k + 9) "_law_is_point" [v, .int mm] S1) (fun r S' => r = .bl (v.point mm) ∧ S' = S1) (fun _ _ => False) := fun mm h0 => law_pt_ok K.whole K.dd.fac K.lpt h0 fit.known fit.hi (fun xs e => fit.flt xs e _) fit.hz
    have ls : ∀ mm : Int, 0 ≤ mm → Wp (fns G fs es (k + 9) "_law_is_side" [v, .int mm] S1) (fun r S' => r = .bl (v.side mm) ∧ S' = S1) (fun _ _ => False) := fun mm h0 => law_sid_ok K.whole K.dd.fac K.lsd h0 fit.known fit.hi (fun xs e => fit.flt xs e _) fit.hz
    have ip : Wp (fns G fs es (k + 9) "is_point" [v] S1) (fun r S' => r = .bl (v.point 2 || v.point 3) ∧ S' = S1) (fun _ _ => False) := pt_ok K.md.p K.md.pt fit.known fit.hi
    have is : Wp (fns G fs es (k + 9) "is_side" [v] S1) (fun r S' => r = .bl (v.side 2 || v.side 3) ∧ S' = S1) (fun _ _ => False) := is_side_ok K.md.p K.md.sof K.md.sd fit.known fit.hi
    refine wx_sts (wx_set (wp_lst (wp_irs (or_bl (wp_call (wp_irs (wp_var rfl (wp_irs (wp_cst (wp_irs0 (lp 2 (by decide)))))))) (wp_call (wp_irs (wp_var rfl (wp_irs (wp_cst (wp_irs0 (lp 3 (by decide)))))))) ?_))))
    refine wp_irs (or_bl (wp_call (wp_irs (wp_var rfl (wp_irs (wp_cst (wp_irs0 (ls 2 (by decide)))))))) (wp_call (wp_irs (wp_var rfl (wp_irs (wp_cst (wp_irs0 (ls 3 (by decide)))))))) ?_)
    refine wp_irs0 ⟨two_lim, wp_fz ?_⟩
    generalize hP : (v.point 2 || v.point 3) = P at ip ⊢
    generalize (v.side 2 || v.side 3) = Z at is ⊢
    have told : Wp (IR.run G (fns G fs es (k + 9)) S.length false (.ite (.var 2) (.lst (irs [.callK "is_point" (irs []) ["value"] (irs [.var 3]), .callK "is_side" (irs []) ["value"] (irs [.var 3])])) (.lst (irs [.call "is_point" (irs [.var 3]), .call "is_side" (irs [.var 3])]))) [some (.ref n), some (.tup (ns.map D.int)), some (.bl u), some v, some (.lst [.bl P, .bl Z]), c, e] S1) (fun d S' => d = .lst [.bl P, .bl Z] ∧ S' = S1) (fun _ _ => False) := by
      refine wp_ite (wp_var rfl ⟨u, rfl, fun _ => ?_, fun _ => ?_⟩)
      · refine wp_lst (wp_irs (wp_callK (wp_irs0 (wp_irs (wp_var rfl (wp_irs0 ?_))))))
        rw [K.g1, bindK_one]
        refine wp_imp ip ?_
        rintro d S2 ⟨rfl, rfl⟩
        refine wp_irs (wp_callK (wp_irs0 (wp_irs (wp_var rfl (wp_irs0 ?_)))))
        rw [K.g2, bindK_one]
        refine wp_imp is ?_
        rintro d S3 ⟨rfl, rfl⟩
        exact wp_irs0 ⟨two_lim, wp_fz ⟨rfl, rfl⟩⟩
      · repeat (first | ((with_reducible refine wp_vr ?_); refine ⟨_, rfl, ?_⟩) | with_reducible first | refine wp_cst ?_ | refine wp_bin ?_ | refine wp_ix ?_ | refine wp_add ?_ | refine wp_sub ?_ | refine wp_int ?_ | refine wp_bif ?_ | refine wp_irs ?_ | refine wp_irs0 ?_ | refine wx_sts ?_ | refine wx_sts0 ?_ | refine wx_set ?_ | refine wx_ret ?_ | refine wx_setIx ?_ | refine wx_if ?_ | refine wp_and ?_ | refine wp_or ?_ | refine wp_not ?_ | refine wp_neg ?_ | refine wp_cmp ?_ | refine wp_call ?_ | refine wp_callK ?_ | refine wp_ite ?_ | refine wp_tup ?_ | refine wp_lst ?_ | refine wp_inst ?_ | refine wx_setT ?_ | refine wx_expr ?_ | refine wp_sl ?_ | refine wp_onon ?_ | refine wp_osome ?_ | refine wp_fz ?_ | refine wp_nil ?_ | refine wx_raise ?_ | refine wx_pass ?_ | refine ex_int ?_ | refine wp_slt ?_)
        refine wp_imp ip ?_
        rintro d S2 ⟨rfl, rfl⟩
        repeat (first | ((with_reducible refine wp_vr ?_); refine ⟨_, rfl, ?_⟩) | with_reducible first | refine wp_cst ?_ | refine wp_bin ?_ | refine wp_ix ?_ | refine wp_add ?_ | refine wp_sub ?_ | refine wp_int ?_ | refine wp_bif ?_ | refine wp_irs ?_ | refine wp_irs0 ?_ | refine wx_sts ?_ | refine wx_sts0 ?_ | refine wx_set ?_ | refine wx_ret ?_ | refine wx_setIx ?_ | refine wx_if ?_ | refine wp_and ?_ | refine wp_or ?_ | refine wp_not ?_ | refine wp_neg ?_ | refine wp_cmp ?_ | refine wp_call ?_ | refine wp_callK ?_ | refine wp_ite ?_ | refine wp_tup ?_ | refine wp_lst ?_ | refine wp_inst ?_ | refine wx_setT ?_ | refine wx_expr ?_ | refine wp_sl ?_ | refine wp_onon ?_ | refine wp_osome ?_ | refine wp_fz ?_ | refine wp_nil ?_ | refine wx_raise ?_ | refine wx_pass ?_ | refine ex_int ?_ | refine wp_slt ?_)
        refine wp_imp is ?_
        rintro d S3 ⟨rfl, rfl⟩
        exact wp_irs0 ⟨two_lim, wp_fz ⟨rfl, rfl⟩⟩
    refine wx_sts (wx_set (wp_imp told ?_))
    rintro d S2 ⟨rfl, rfl⟩
    repeat (first | ((with_reducible refine wp_vr ?_); refine ⟨_, rfl, ?_⟩) | with_reducible first | refine wp_cst ?_ | refine wp_bin ?_ | refine wp_ix ?_ | refine wp_add ?_ | refine wp_sub ?_ | refine wp_int ?_ | refine wp_bif ?_ | refine wp_irs ?_ | refine wp_irs0 ?_ | refine wx_sts ?_ | refine wx_sts0 ?_ | refine wx_set ?_ | refine wx_ret ?_ | refine wx_setIx ?_ | refine wx_if ?_ | refine wp_and ?_ | refine wp_or ?_ | refine wp_not ?_ | refine wp_neg ?_ | refine wp_cmp ?_ | refine wp_call ?_ | refine wp_callK ?_ | refine wp_ite ?_ | refine wp_tup ?_ | refine wp_lst ?_ | refine wp_inst ?_ | refine wx_setT ?_ | refine wx_expr ?_ | refine wp_sl ?_ | refine wp_onon ?_ | refine wp_osome ?_ | refine wp_fz ?_ | refine wp_nil ?_ | refine wx_raise ?_ | refine wx_pass ?_ | refine ex_int ?_ | refine wp_slt ?_)
    refine wp_imp (same_refl K.same 1 _ (k + 8) _ _ rfl (by omega)) ?_
    rintro d S3 ⟨rfl, rfl⟩
    refine ⟨_, rfl, _, rfl, fun z => Bool.noConfusion z, fun _ => ?_⟩
    repeat (first | ((with_reducible refine wp_vr ?_); refine ⟨_, rfl, ?_⟩) | with_reducible first | refine wp_cst ?_ | refine wp_bin ?_ | refine wp_ix ?_ | refine wp_add ?_ | refine wp_sub ?_ | refine wp_int ?_ | refine wp_bif ?_ | refine wp_irs ?_ | refine wp_irs0 ?_ | refine wx_sts ?_ | refine wx_sts0 ?_ | refine wx_set ?_ | refine wx_ret ?_ | refine wx_setIx ?_ | refine wx_if ?_ | refine wp_and ?_ | refine wp_or ?_ | refine wp_not ?_ | refine wp_neg ?_ | refine wp_cmp ?_ | refine wp_call ?_ | refine wp_callK ?_ | refine wp_ite ?_ | refine wp_tup ?_ | refine wp_lst ?_ | refine wp_inst ?_ | refine wx_setT ?_ | refine wx_expr ?_ | refine wp_sl ?_ | refine wp_onon ?_ | refine wp_osome ?_ | refine wp_fz ?_ | refine wp_nil ?_ | refine wx_raise ?_ | refine wx_pass ?_ | refine ex_int ?_ | refine wp_slt ?_)
    refine wp_ixs rfl (d := .bl P) rfl ?_
    refine ⟨P, rfl, _, rfl, fun h1 => ?_, fun h1 => ?_⟩
    · have h2 : P = false := by simpa using h1
      subst h2
      repeat (first | ((with_reducible refine wp_vr ?_); refine ⟨_, rfl, ?_⟩) | with_reducible first | refine wp_cst ?_ | refine wp_bin ?_ | refine wp_ix ?_ | refine wp_add ?_ | refine wp_sub ?_ | refine wp_int ?_ | refine wp_bif ?_ | refine wp_irs ?_ | refine wp_irs0 ?_ | refine wx_sts ?_ | refine wx_sts0 ?_ | refine wx_set ?_ | refine wx_ret ?_ | refine wx_setIx ?_ | refine wx_if ?_ | refine wp_and ?_ | refine wp_or ?_ | refine wp_not ?_ | refine wp_neg ?_ | refine wp_cmp ?_ | refine wp_call ?_ | refine wp_callK ?_ | refine wp_ite ?_ | refine wp_tup ?_ | refine wp_lst ?_ | refine wp_inst ?_ | refine wx_setT ?_ | refine wx_expr ?_ | refine wp_sl ?_ | refine wp_onon ?_ | refine wp_osome ?_ | refine wp_fz ?_ | refine wp_nil ?_ | refine wx_raise ?_ | refine wx_pass ?_ | refine ex_int ?_ | refine wp_slt ?_)
      refine wp_imp (copy_ok K.copy val) ?_
      intro gv S4 hgv
      repeat (first | ((with_reducible refine wp_vr ?_); refine ⟨_, rfl, ?_⟩) | with_reducible first | refine wp_cst ?_ | refine wp_bin ?_ | refine wp_ix ?_ | refine wp_add ?_ | refine wp_sub ?_ | refine wp_int ?_ | refine wp_bif ?_ | refine wp_irs ?_ | refine wp_irs0 ?_ | refine wx_sts ?_ | refine wx_sts0 ?_ | refine wx_set ?_ | refine wx_ret ?_ | refine wx_setIx ?_ | refine wx_if ?_ | refine wp_and ?_ | refine wp_or ?_ | refine wp_not ?_ | refine wp_neg ?_ | refine wp_cmp ?_ | refine wp_call ?_ | refine wp_callK ?_ | refine wp_ite ?_ | refine wp_tup ?_ | refine wp_lst ?_ | refine wp_inst ?_ | refine wx_setT ?_ | refine wx_expr ?_ | refine wp_sl ?_ | refine wp_onon ?_ | refine wp_osome ?_ | refine wp_fz ?_ | refine wp_nil ?_ | refine wx_raise ?_ | refine wx_pass ?_ | refine ex_int ?_ | refine wp_slt ?_)
      have gfit := hgv.fit
      have gund := hgv.und rfl
      have gbad : (gv.point 2 || gv.point 3) = false := hgv.pass (f := fun d => d.point 2 || d.point 3) hP fun _ => rfl
      refine wp_imp (asked_bad K.asked K.g (.inr (.inl ⟨rfl, rfl, rfl, rfl⟩)) gund (pof_bad K.md gfit gund gbad)) ?_
      rintro d S5 ⟨rfl, rfl⟩
      repeat (first | ((with_reducible refine wp_vr ?_); refine ⟨_, rfl, ?_⟩) | with_reducible first | refine wp_cst ?_ | refine wp_bin ?_ | refine wp_ix ?_ | refine wp_add ?_ | refine wp_sub ?_ | refine wp_int ?_ | refine wp_bif ?_ | refine wp_irs ?_ | refine wp_irs0 ?_ | refine wx_sts ?_ | refine wx_sts0 ?_ | refine wx_set ?_ | refine wx_ret ?_ | refine wx_setIx ?_ | refine wx_if ?_ | refine wp_and ?_ | refine wp_or ?_ | refine wp_not ?_ | refine wp_neg ?_ | refine wp_cmp ?_ | refine wp_call ?_ | refine wp_callK ?_ | refine wp_ite ?_ | refine wp_tup ?_ | refine wp_lst ?_ | refine wp_inst ?_ | refine wx_setT ?_ | refine wx_expr ?_ | refine wp_sl ?_ | refine wp_onon ?_ | refine wp_osome ?_ | refine wp_fz ?_ | refine wp_nil ?_ | refine wx_raise ?_ | refine wx_pass ?_ | refine ex_int ?_ | refine wp_slt ?_)
      refine wp_ixs rfl (d := .str "point") rfl ?_
      repeat (first | ((with_reducible refine wp_vr ?_); refine ⟨_, rfl, ?_⟩) | with_reducible first | refine wp_cst ?_ | refine wp_bin ?_ | refine wp_ix ?_ | refine wp_add ?_ | refine wp_sub ?_ | refine wp_int ?_ | refine wp_bif ?_ | refine wp_irs ?_ | refine wp_irs0 ?_ | refine wx_sts ?_ | refine wx_sts0 ?_ | refine wx_set ?_ | refine wx_ret ?_ | refine wx_setIx ?_ | refine wx_if ?_ | refine wp_and ?_ | refine wp_or ?_ | refine wp_not ?_ | refine wp_neg ?_ | refine wp_cmp ?_ | refine wp_call ?_ | refine wp_callK ?_ | refine wp_ite ?_ | refine wp_tup ?_ | refine wp_lst ?_ | refine wp_inst ?_ | refine wx_setT ?_ | refine wx_expr ?_ | refine wp_sl ?_ | refine wp_onon ?_ | refine wp_osome ?_ | refine wp_fz ?_ | refine wp_nil ?_ | refine wx_raise ?_ | refine wx_pass ?_ | refine ex_int ?_ | refine wp_slt ?_)
      refine ⟨_, ne_str, _, rfl, fun _ => ?_, fun z => Bool.noConfusion z⟩
      repeat (first | ((with_reducible refine wp_vr ?_); refine ⟨_, rfl, ?_⟩) | with_reducible first | refine wp_cst ?_ | refine wp_bin ?_ | refine wp_ix ?_ | refine wp_add ?_ | refine wp_sub ?_ | refine wp_int ?_ | refine wp_bif ?_ | refine wp_irs ?_ | refine wp_irs0 ?_ | refine wx_sts ?_ | refine wx_sts0 ?_ | refine wx_set ?_ | refine wx_ret ?_ | refine wx_setIx ?_ | refine wx_if ?_ | refine wp_and ?_ | refine wp_or ?_ | refine wp_not ?_ | refine wp_neg ?_ | refine wp_cmp ?_ | refine wp_call ?_ | refine wp_callK ?_ | refine wp_ite ?_ | refine wp_tup ?_ | refine wp_lst ?_ | refine wp_inst ?_ | refine wx_setT ?_ | refine wx_expr ?_ | refine wp_sl ?_ | refine wp_onon ?_ | refine wp_osome ?_ | refine wp_fz ?_ | refine wp_nil ?_ | refine wx_raise ?_ | refine wx_pass ?_ | refine ex_int ?_ | refine wp_slt ?_)
      refine wp_ixs rfl (d := gv) rfl ?_
      repeat (first | ((with_reducible refine wp_vr ?_); refine ⟨_, rfl, ?_⟩) | with_reducible first | refine wp_cst ?_ | refine wp_bin ?_ | refine wp_ix ?_ | refine wp_add ?_ | refine wp_sub ?_ | refine wp_int ?_ | refine wp_bif ?_ | refine wp_irs ?_ | refine wp_irs0 ?_ | refine wx_sts ?_ | refine wx_sts0 ?_ | refine wx_set ?_ | refine wx_ret ?_ | refine wx_setIx ?_ | refine wx_if ?_ | refine wp_and ?_ | refine wp_or ?_ | refine wp_not ?_ | refine wp_neg ?_ | refine wp_cmp ?_ | refine wp_call ?_ | refine wp_callK ?_ | refine wp_ite ?_ | refine wp_tup ?_ | refine wp_lst ?_ | refine wp_inst ?_ | refine wx_setT ?_ | refine wx_expr ?_ | refine wp_sl ?_ | refine wp_onon ?_ | refine wp_osome ?_ | refine wp_fz ?_ | refine wp_nil ?_ | refine wx_raise ?_ | refine wx_pass ?_ | refine ex_int ?_ | refine wp_slt ?_)
      refine wp_imp (blam_ok K.same K.blam hgv) ?_
      rintro d S6 ⟨rfl, ho⟩
      refine ⟨_, rfl, _, rfl, fun z => Bool.noConfusion z, fun _ => ?_⟩
      repeat (first | ((with_reducible refine wp_vr ?_); refine ⟨_, rfl, ?_⟩) | with_reducible first | refine wp_cst ?_ | refine wp_bin ?_ | refine wp_ix ?_ | refine wp_add ?_ | refine wp_sub ?_ | refine wp_int ?_ | refine wp_bif ?_ | refine wp_irs ?_ | refine wp_irs0 ?_ | refine wx_sts ?_ | refine wx_sts0 ?_ | refine wx_set ?_ | refine wx_ret ?_ | refine wx_setIx ?_ | refine wx_if ?_ | refine wp_and ?_ | refine wp_or ?_ | refine wp_not ?_ | refine wp_neg ?_ | refine wp_cmp ?_ | refine wp_call ?_ | refine wp_callK ?_ | refine wp_ite ?_ | refine wp_tup ?_ | refine wp_lst ?_ | refine wp_inst ?_ | refine wx_setT ?_ | refine wx_expr ?_ | refine wp_sl ?_ | refine wp_onon ?_ | refine wp_osome ?_ | refine wp_fz ?_ | refine wp_nil ?_ | refine wx_raise ?_ | refine wx_pass ?_ | refine ex_int ?_ | refine wp_slt ?_)
      refine ⟨_, rfl, ?_⟩
      repeat (first | ((with_reducible refine wp_vr ?_); refine ⟨_, rfl, ?_⟩) | with_reducible first | refine wp_cst ?_ | refine wp_bin ?_ | refine wp_ix ?_ | refine wp_add ?_ | refine wp_sub ?_ | refine wp_int ?_ | refine wp_bif ?_ | refine wp_irs ?_ | refine wp_irs0 ?_ | refine wx_sts ?_ | refine wx_sts0 ?_ | refine wx_set ?_ | refine wx_ret ?_ | refine wx_setIx ?_ | refine wx_if ?_ | refine wp_and ?_ | refine wp_or ?_ | refine wp_not ?_ | refine wp_neg ?_ | refine wp_cmp ?_ | refine wp_call ?_ | refine wp_callK ?_ | refine wp_ite ?_ | refine wp_tup ?_ | refine wp_lst ?_ | refine wp_inst ?_ | refine wx_setT ?_ | refine wx_expr ?_ | refine wp_sl ?_ | refine wp_onon ?_ | refine wp_osome ?_ | refine wp_fz ?_ | refine wp_nil ?_ | refine wx_raise ?_ | refine wx_pass ?_ | refine ex_int ?_ | refine wp_slt ?_)
      refine ⟨?_, !u, _, _, _, _, rfl⟩
      have hS6 : ∀ j, j < S.length → S6[j]? = S5[j]? := by
        intro j hj
        refine ho.2 j ?_
        have hgl := hg.len
        cases hgv with
        | same h hl => intro z; subst z; exact (show False from h).elim
        | list xs e h => intro z; cases z; omega
        | dict e => intro z; cases z; omega
      refine Gr.upd (S1 := S5) ?_ ho.1 hS6
      cases hgv with
      | same h hl => exact hg
      | list xs e h => exact hg.push _
      | dict e => exact hg.push _
    · repeat (first | ((with_reducible refine wp_vr ?_); refine ⟨_, rfl, ?_⟩) | with_reducible first | refine wp_cst ?_ | refine wp_bin ?_ | refine wp_ix ?_ | refine wp_add ?_ | refine wp_sub ?_ | refine wp_int ?_ | refine wp_bif ?_ | refine wp_irs ?_ | refine wp_irs0 ?_ | refine wx_sts ?_ | refine wx_sts0 ?_ | refine wx_set ?_ | refine wx_ret ?_ | refine wx_setIx ?_ | refine wx_if ?_ | refine wp_and ?_ | refine wp_or ?_ | refine wp_not ?_ | refine wp_neg ?_ | refine wp_cmp ?_ | refine wp_call ?_ | refine wp_callK ?_ | refine wp_ite ?_ | refine wp_tup ?_ | refine wp_lst ?_ | refine wp_inst ?_ | refine wx_setT ?_ | refine wx_expr ?_ | refine wp_sl ?_ | refine wp_onon ?_ | refine wp_osome ?_ | refine wp_fz ?_ | refine wp_nil ?_ | refine wx_raise ?_ | refine wx_pass ?_ | refine ex_int ?_ | refine wp_slt ?_)
      refine ⟨_, rfl, ?_⟩
      repeat (first | ((with_reducible refine wp_vr ?_); refine ⟨_, rfl, ?_⟩) | with_reducible first | refine wp_cst ?_ | refine wp_bin ?_ | refine wp_ix ?_ | refine wp_add ?_ | refine wp_sub ?_ | refine wp_int ?_ | refine wp_bif ?_ | refine wp_irs ?_ | refine wp_irs0 ?_ | refine wx_sts ?_ | refine wx_sts0 ?_ | refine wx_set ?_ | refine wx_ret ?_ | refine wx_setIx ?_ | refine wx_if ?_ | refine wp_and ?_ | refine wp_or ?_ | refine wp_not ?_ | refine wp_neg ?_ | refine wp_cmp ?_ | refine wp_call ?_ | refine wp_callK ?_ | refine wp_ite ?_ | refine wp_tup ?_ | refine wp_lst ?_ | refine wp_inst ?_ | refine wx_setT ?_ | refine wx_expr ?_ | refine wp_sl ?_ | refine wp_onon ?_ | refine wp_osome ?_ | refine wp_fz ?_ | refine wp_nil ?_ | refine wx_raise ?_ | refine wx_pass ?_ | refine ex_int ?_ | refine wp_slt ?_)
      exact ⟨hg, !u, _, _, _, _, rfl⟩
  · rintro ρ S1 ⟨hg, u, a, b, c, e, rfl⟩
    repeat (first | ((with_reducible refine wp_vr ?_); refine ⟨_, rfl, ?_⟩) | with_reducible first | refine wp_cst ?_ | refine wp_bin ?_ | refine wp_ix ?_ | refine wp_add ?_ | refine wp_sub ?_ | refine wp_int ?_ | refine wp_bif ?_ | refine wp_irs ?_ | refine wp_irs0 ?_ | refine wx_sts ?_ | refine wx_sts0 ?_ | refine wx_set ?_ | refine wx_ret ?_ | refine wx_setIx ?_ | refine wx_if ?_ | refine wp_and ?_ | refine wp_or ?_ | refine wp_not ?_ | refine wp_neg ?_ | refine wp_cmp ?_ | refine wp_call ?_ | refine wp_callK ?_ | refine wp_ite ?_ | refine wp_tup ?_ | refine wp_lst ?_ | refine wp_inst ?_ | refine wx_setT ?_ | refine wx_expr ?_ | refine wp_sl ?_ | refine wp_onon ?_ | refine wp_osome ?_ | refine wp_fz ?_ | refine wp_nil ?_ | refine wx_raise ?_ | refine wx_pass ?_ | refine ex_int ?_ | refine wp_slt ?_)
    exact ⟨_, rfl, rfl, rfl, hg.cut⟩
end
end Pv

/-! Points, coordinates, sides: there and back. -/
namespace Pv
open PySem
/-- a fraction of two integers, in its lowest terms -/
def lowP (l x : Int) : Int × Int := (x.fdiv (gcds [x, l] : Nat), l.fdiv (gcds [x, l] : Nat))
theorem lowP_frac {l x : Int} (h : 0 < l) : fracD x l = pairD (lowP l x) := by
  have hs : sgn l = 1 := if_pos h
  unfold fracD
  rw [hs, Int.mul_one]
  rfl
/-- its parts -/
theorem lowP_parts {l x : Int} (h : 0 < l) : ∃ g : Nat, g ≠ 0 ∧ x = (lowP l x).1 * g ∧ l = (lowP l x).2 * g ∧ Frac (lowP l x).1 (lowP l x).2 := by
  obtain ⟨t', c', g, e, f, h0, h1, h2, h3⟩ := frac_low (t := x) h
  rw [lowP_frac h] at e
  have e1 : (lowP l x).1 = t' ∧ (lowP l x).2 = c' := by
    unfold pairD at e
    injection e with e
    injection e with e1 e2
    injection e1 with e1
    injection e2 with e2 _
    injection e2 with e2
    exact ⟨e1, e2⟩
  refine ⟨g, h0, ?_, ?_, ?_⟩
  · rw [e1.1]
    exact h1
  · rw [e1.2]
    exact h2
  · rw [e1.1, e1.2]
    exact f
theorem mul_le_abs {a : Int} {g : Nat} (h : g ≠ 0) : a.natAbs ≤ (a * g).natAbs := by
  rw [Int.natAbs_mul]
  exact Nat.le_mul_of_pos_right _ (by omega)
theorem lowP_lim {l x : Int} {e : Nat} (h : 0 < l) (hx : x.natAbs < 2 ^ e) (hl : l < 2 ^ e) : (lowP l x).1.natAbs < 2 ^ e ∧ (lowP l x).2 < 2 ^ e := by
  obtain ⟨g, h0, h1, h2, f⟩ := lowP_parts (x := x) h
  refine ⟨Nat.lt_of_le_of_lt ?_ hx, Int.lt_of_le_of_lt ?_ hl⟩
  · have := mul_le_abs (a := (lowP l x).1) h0
    rw [← h1] at this
    exact this
  · have h3 := mul_le_abs (a := (lowP l x).2) h0
    rw [← h2] at h3
    have := f.pos
    omega
/-- from coordinates back to the point -/
theorem nums_back {xs : List Int} {l : Int} (h0 : 0 < l) (hc : gcds (xs ++ [l]) = 1) : numsOf (xs.map (lowP l)) = xs ++ [l] := by
  have hb : ∀ b ∈ (xs.map (lowP l)).map (·.2), 0 < b := by
    intro b hb
    obtain ⟨p, hp, rfl⟩ := List.mem_map.mp hb
    obtain ⟨x, _, rfl⟩ := List.mem_map.mp hp
    obtain ⟨g, _, _, _, f⟩ := lowP_parts (x := x) h0
    exact f.pos
  have hw : lcms ((xs.map (lowP l)).map (·.2)) 1 = l := by
    have d1 := dvd_lcms (q := l.natAbs) (w := 1) (by decide) hb (Nat.one_dvd _) fun b hb => by
      obtain ⟨p, hp, rfl⟩ := List.mem_map.mp hb
      obtain ⟨x, _, rfl⟩ := List.mem_map.mp hp
      obtain ⟨g, _, _, h2, _⟩ := lowP_parts (x := x) h0
      have := congrArg Int.natAbs h2
      rw [Int.natAbs_mul] at this
      rw [this]
      exact Nat.dvd_mul_right _ _
    have d2 := (lcms_dvd (w := 1) (by decide) hb).2
    have hp := lcms_pos (w := 1) (by decide) hb
    generalize lcms ((xs.map (lowP l)).map (·.2)) 1 = L at d1 d2 hp ⊢
    obtain ⟨q, hq⟩ := d1
    have hq1 : q ∣ 1 := by
      rw [← hc]
      refine dvd_gcds fun n hn => ?_
      rcases List.mem_append.mp hn with hn | hn
      · obtain ⟨g, g0, h1, h2, f⟩ := lowP_parts (x := n) h0
        have h3 := d2 (lowP l n).2 (List.mem_map.mpr ⟨lowP l n, List.mem_map.mpr ⟨n, hn, rfl⟩, rfl⟩)
        obtain ⟨m, hm⟩ := h3
        have h4 := congrArg Int.natAbs h2
        rw [Int.natAbs_mul, hq, hm, Int.natAbs_natCast, Nat.mul_assoc] at h4
        have h5 := Nat.eq_of_mul_eq_mul_left (by have := f.pos; omega) h4
        have h6 := congrArg Int.natAbs h1
        rw [Int.natAbs_mul, Int.natAbs_natCast, ← h5] at h6
        rw [h6, ← Nat.mul_assoc]
        exact Nat.dvd_mul_left _ _
      · rcases List.mem_cons.mp hn with rfl | hn
        · rw [hq]
          exact Nat.dvd_mul_left _ _
        · cases hn
    have hq2 : q = 1 := Nat.dvd_one.mp hq1
    rw [hq2, Nat.mul_one] at hq
    omega
  unfold numsOf
  rw [hw, List.map_map]
  congr 1
  have : ∀ x ∈ xs, ((fun p : Int × Int => p.1 * l.fdiv p.2) ∘ lowP l) x = x := by
    intro x _
    obtain ⟨g, g0, h1, h2, f⟩ := lowP_parts (x := x) h0
    show (lowP l x).1 * l.fdiv (lowP l x).2 = x
    have h3 : l.fdiv (lowP l x).2 = g := fdiv_of_mul (by have := f.pos; omega) (by rw [Int.mul_comm]; exact h2)
    rw [h3]
    exact h1.symm
  rw [List.map_congr_left this, List.map_id']
/-- a common factor changes no fraction -/
theorem fracD_scale {u v : Int} {g : Nat} (hv : 0 < v) (hg : g ≠ 0) : fracD (u * g) (v * g) = fracD u v := by
  obtain ⟨k, k0, h1, h2, f⟩ := lowP_parts (x := u) hv
  have e := lowP_frac (x := u) hv
  have h3 : u * g = (lowP v u).1 * (k * g : Int) := by rw [← Int.mul_assoc, ← h1]
  have h4 : v * g = (lowP v u).2 * (k * g : Int) := by rw [← Int.mul_assoc, ← h2]
  rw [h3, h4, frac_scale f (Int.mul_pos (by omega) (by omega)), e]
  rfl
/-- .. and the coordinates of a point that coordinates make -/
theorem back_places {ps : List (Int × Int)} (h : ∀ p ∈ ps, Frac p.1 p.2) {g : Nat} (hg : g ≠ 0) (hd : ∀ n ∈ numsOf ps, g ∣ n.natAbs) {w : Int} (hw : w = lcms (ps.map (·.2)) 1) (h0 : 0 < w) :
    (ps.map fun p => fracD ((p.1 * w.fdiv p.2).fdiv g) (w.fdiv g)) = ps.map pairD := by
  refine List.map_congr_left fun p hp => ?_
  have f := h p hp
  have hb : ∀ b ∈ ps.map (·.2), 0 < b := by
    intro b hb
    obtain ⟨p, hp, rfl⟩ := List.mem_map.mp hb
    exact (h p hp).pos
  have d2 := (lcms_dvd (w := 1) (by decide) hb).2 p.2 (List.mem_map.mpr ⟨p, hp, rfl⟩)
  rw [← hw] at d2
  have h1 := fdiv_mul (g := p.2.natAbs) (n := w) (by have := f.pos; omega) d2
  rw [show ((p.2.natAbs : Nat) : Int) = p.2 by have := f.pos; omega] at h1
  have m1 : p.1 * w.fdiv p.2 ∈ numsOf ps := by
    unfold numsOf
    rw [← hw]
    exact List.mem_append_left _ (List.mem_map.mpr ⟨p, hp, rfl⟩)
  have m2 : w ∈ numsOf ps := by
    unfold numsOf
    rw [← hw]
    exact List.mem_append_right _ (.head _)
  have e1 := fdiv_mul hg (hd _ m1)
  have e2 := fdiv_mul hg (hd _ m2)
  have v0 : 0 < w.fdiv g := by
    by_cases hc : 0 < w.fdiv g
    · exact hc
    · exfalso
      have : w.fdiv g * g ≤ 0 := Int.mul_nonpos_of_nonpos_of_nonneg (by omega) (by omega)
      omega
  have q0 : 0 < w.fdiv p.2 := by
    by_cases hc : 0 < w.fdiv p.2
    · exact hc
    · exfalso
      have := f.pos
      have : w.fdiv p.2 * p.2 ≤ 0 := Int.mul_nonpos_of_nonpos_of_nonneg (by omega) (by omega)
      omega
  rw [← fracD_scale (u := (p.1 * w.fdiv p.2).fdiv g) v0 hg, e1, e2]
  have h2 : w = p.2 * w.fdiv p.2 := by rw [Int.mul_comm]; exact h1.symm
  have h3 := frac_scale f q0
  rw [← h2] at h3
  exact h3
end Pv

/-! the law: made right. -/
namespace Pv
open PySem
def madB : STs := sts [.set 3 false (.bif .tuple (irs [.comp [13] (.name 13) (.it (.sl (.var 1) .non (.some (.neg (.cst (.int 1)))))) (irs []) (.call "_law_fraction" (irs [.var 13, .ix (.var 1) (.neg (.cst (.int 1)))]))])), .for (.name 4) (.it (.tup (irs [.var 2, .not (.var 2)]))) (sts [.iff (.not (.call "_law_same" (irs [.lst (irs [.call "_law_asked" (irs [.cst (.int 0), .var 3, .var 4]), .call "_law_asked" (irs [.cst (.int 1), .var 1, .var 4])]), .lst (irs [.lst (irs [.cst (.str "told"), .var 1]), .lst (irs [.cst (.str "told"), .var 3])])]))) (sts [.ret false (.cst (.bl false))]) (sts [])]), .set 5 false (.bif .tuple (irs [.comp [13] (.name 13) (.it (.var 3)) (irs []) (.call "_law_fraction" (irs [.bin .sub (.call "_law_take" (irs [.var 0, .cst (.int 31)])) (.cst (.int 15)), .bin .add (.cst (.int 1)) (.call "_law_take" (irs [.var 0, .cst (.int 9)]))]))])), .set 6 false (.cst (.int 1)), .for (.tup (tgs [.name 9, .name 10])) (.it (.var 5)) (sts [.set 6 false (.bin .fdiv (.bin .mul (.var 6) (.var 10)) (.call "_law_factor" (irs [.lst (irs [.var 6, .var 10])])))]), .set 7 false (.call "_law_point" (irs [.bin .add (.comp [9, 10] (.tup (tgs [.name 9, .name 10])) (.it (.var 5)) (irs []) (.bin .mul (.var 9) (.bin .fdiv (.var 6) (.var 10)))) (.lst (irs [.var 6]))])), .iff (.not (.call "_law_same" (irs [.lst (irs [.call "_law_asked" (irs [.cst (.int 0), .var 5, .var 2]), .call "_law_asked" (irs [.cst (.int 1), .var 7, .not (.var 2)])]), .lst (irs [.lst (irs [.cst (.str "told"), .var 7]), .lst (irs [.cst (.str "told"), .var 5])])]))) (sts [.ret false (.cst (.bl false))]) (sts []), .setT (.tup (tgs [.name 11, .name 12])) false (.tup (irs [.call "_law_any_side" (irs [.var 0, .bif .len (irs [.var 3])]), .bin .add (.cst (.int 1)) (.call "_law_take" (irs [.var 0, .cst (.int 6)]))])), .set 8 false (.bif .tuple (irs [.comp [13] (.name 13) (.it (.var 11)) (irs []) (.bin .mul (.var 12) (.var 13))])), .ret false (.call "_law_same" (irs [.lst (irs [.call "_law_asked" (irs [.cst (.int 2), .var 8, .var 2]), .call "_law_asked" (irs [.cst (.int 2), .var 11, .not (.var 2)])]), .lst (irs [.lst (irs [.cst (.str "told"), .var 11]), .lst (irs [.cst (.str "told"), .var 11])])]))]
/-- small coordinates -/
structure Smalls (z : Nat) (ps : List (Int × Int)) : Prop where
  len : ps.length = z
  low : ∀ p ∈ ps, Frac p.1 p.2
  lim : ∀ p ∈ ps, p.1.natAbs < 2 ^ 4 ∧ p.2 < 2 ^ 4
theorem Smalls.places {z : Nat} {ps : List (Int × Int)} (h : Smalls z ps) (hz : z = 2 ∨ z = 3) : Places ps := by
  refine ⟨by rw [h.len]; exact hz, h.low, fun p hp => ⟨Nat.lt_trans (h.lim p hp).1 (by decide), Int.lt_trans (h.lim p hp).2 (by decide)⟩⟩
theorem Smalls.nums {z : Nat} {ps : List (Int × Int)} (h : Smalls z ps) (hz : z = 2 ∨ z = 3) : 0 < lcms (ps.map (·.2)) 1 ∧ (∀ n ∈ numsOf ps, n.natAbs < 2 ^ 200) ∧ (numsOf ps).getLast? = some (lcms (ps.map (·.2)) 1) ∧ (numsOf ps).length = z + 1 := by
  have hb : ∀ b ∈ ps.map (·.2), 0 < b ∧ b < 2 ^ 4 := by
    intro b hb
    obtain ⟨p, hp, rfl⟩ := List.mem_map.mp hb
    exact ⟨(h.low p hp).pos, (h.lim p hp).2⟩
  have h0 := lcms_pos (bs := ps.map (·.2)) (w := 1) (by decide) fun b h => (hb b h).1
  have h1 := lcms_lt (e := 4) (bs := ps.map (·.2)) (w := 1) (k := 1) (by decide) hb (by decide)
  have h2 := (lcms_dvd (bs := ps.map (·.2)) (w := 1) (by decide) fun b h => (hb b h).1).2
  rw [List.length_map, h.len] at h1
  have h3 : lcms (ps.map (·.2)) 1 < 2 ^ 20 := Int.lt_of_lt_of_le h1 (by rcases hz with rfl | rfl <;> decide)
  refine ⟨h0, fun n hn => ?_, last_snoc, by unfold numsOf; rw [List.length_append, List.length_map, h.len]; rfl⟩
  unfold numsOf at hn
  generalize lcms (ps.map (·.2)) 1 = w at h0 h2 h3 hn
  have hw : w.natAbs < 2 ^ 20 := by omega
  rcases List.mem_append.mp hn with hn | hn
  · obtain ⟨p, hp, rfl⟩ := List.mem_map.mp hn
    have f := (h.low p hp).pos
    have h4 := fdiv_le (n := w) (g := p.2.natAbs) (by omega) (h2 p.2 (List.mem_map.mpr ⟨p, hp, rfl⟩))
    rw [show ((p.2.natAbs : Nat) : Int) = p.2 by omega] at h4
    rw [Int.natAbs_mul]
    exact Nat.lt_trans (Nat.mul_lt_mul_of_lt_of_le (h.lim p hp).1 (show (w.fdiv p.2).natAbs ≤ 2 ^ 20 by omega) (by decide)) (by decide)
  · rcases List.mem_cons.mp hn with rfl | hn
    · exact Nat.lt_trans hw (by decide)
    · cases hn
theorem Pt.places {xs : List Int} {l : Int} {z : Nat} (h : Pt (xs ++ [l]) z) (hz : z = 2 ∨ z = 3) (h0 : 0 < l) : Places (xs.map (lowP l)) := by
  have hlen : xs.length = z := by
    have := h.len
    rw [List.length_append] at this
    exact Nat.add_right_cancel this
  have hl : l < 2 ^ 200 := by
    have h1 := h.lim l (by simp)
    have h2 : ((l.natAbs : Nat) : Int) < ((2 ^ 200 : Nat) : Int) := Int.ofNat_lt.mpr h1
    rw [Int.natCast_pow, show (l.natAbs : Int) = l by omega] at h2
    exact h2
  refine ⟨by rw [List.length_map, hlen]; exact hz, fun p hp => ?_, fun p hp => ?_⟩
  · obtain ⟨x, _, rfl⟩ := List.mem_map.mp hp
    obtain ⟨g, _, _, _, f⟩ := lowP_parts (x := x) h0
    exact f
  · obtain ⟨x, hx, rfl⟩ := List.mem_map.mp hp
    exact lowP_lim h0 (h.lim x (List.mem_append_left _ hx)) hl
theorem told_pl {p q : D} {w : Str} (hp : p.pl 2 = true) (hq : q.pl 2 = true) : (D.lst [.lst [.str w, p], .lst [.str w, q]]).pl 4 = true := by
  have e : (D.lst [.lst [.str w, p], .lst [.str w, q]]).pl 4 = (decide (2 ≤ LIM) && ((decide (2 ≤ LIM) && (true && (p.pl 2 && true))) && ((decide (2 ≤ LIM) && (true && (q.pl 2 && true))) && true))) := rfl
  rw [e, hp, hq]
  decide
section
variable {G : Sig} {fs : List Fn} {es : List Ec} {E : Exn → Store → Prop}
theorem frac_map {p q r : Int} {big : IR} (K : K1 G fs es p q r big) {k b i j : Nat} {ρ : Env} {S : Store} {Q : D → Store → Prop} {xs : List Int} {l : Int} {z : Nat} (h : Pt (xs ++ [l]) z) (h0 : 0 < l) (hz : z ≤ 3) (ei : ρ[i]? = some (some (.tup ((xs ++ [l]).map D.int)))) (e1 : ∀ x, ((wipeE ρ [j]).set j (some x))[j]? = some (some x)) (e2 : ∀ x, ((wipeE ρ [j]).set j (some x))[i]? = some (some (.tup ((xs ++ [l]).map D.int))))
    (hq : Q (.tup ((xs.map (lowP l)).map pairD)) S) : Wp (IR.run G (fns G fs es (k + 2)) b false (.bif .tuple (irs [.comp [j] (.name j) (.it (.sl (.var i) .non (.some (.neg (.cst (.int 1)))))) (irs []) (.call "_law_fraction" (irs [.var j, .ix (.var i) (.neg (.cst (.int 1)))]))])) ρ S) Q E := by
  have hlen : xs.length = z := by
    have := h.len
    rw [List.length_append] at this
    exact Nat.add_right_cancel this
  have hx : ∀ x ∈ xs ++ [l], x.natAbs < 2 ^ 4000 := fun x hx => Nat.lt_of_lt_of_le (h.lim x hx) (Nat.pow_le_pow_right (by decide) (by decide))
  refine wp_bif (wp_irs (wp_map (f := fun d => match d with
    | .int x => fracD x l
    | d => d) (d := .tup (cutOf ((xs ++ [l]).map D.int) none (some (-1)))) ?_ rfl (by rw [cut_snoc, List.length_map, hlen]; unfold LIM; omega) ?_ ?_))
  · rw [IR.run, IR.run, ei]
    rfl
  · intro x hx'
    rw [cut_snoc] at hx'
    obtain ⟨n, hn, rfl⟩ := List.mem_map.mp hx'
    refine wp_call (wp_irs (wp_var (e1 _) (wp_irs (wp_ix (wp_var (e2 _) (wp_neg (wp_cst ⟨_, rfl, wp_ixs rfl (last_at last_snoc) (wp_irs0 ?_)⟩)))))))
    exact frac_ok K.dd.fac K.frac (hx n (List.mem_append_left _ hn)) (hx l (by simp)) (by omega)
  · rw [cut_snoc, List.map_map]
    refine wp_irs0 (wp_eqk (a := D.tup ((xs.map (lowP l)).map pairD)) (S := S) ?_ hq)
    have : (xs.map fun x => fracD x l) = (xs.map (lowP l)).map pairD := by
      rw [List.map_map]
      exact List.map_congr_left fun x _ => lowP_frac h0
    rw [← this]
    rfl
theorem mad_ok {p q r : Int} {big : IR} (K : K1 G fs es p q r big) (dj : Def fs "_law_made_right" 3 14 madB) {k : Nat} {S : Store} {n m z : Nat} {xs : List Int} {l : Int} {by_ : Bool} (hz : z = 2 ∨ z = 3) (h : Pt (xs ++ [l]) z) (hx : BoxAt S n m) (hm : m + 30 < 2 ^ 20) :
    Wp (fns G fs es (k + 10) "_law_made_right" [.ref n, .tup ((xs ++ [l]).map D.int), .bl by_] S) (fun d S' => d = .bl true ∧ Dr n (m + 30) S S') E := by
  have h0 : 0 < l := by
    obtain ⟨l', h1, h2⟩ := h.last
    rw [last_snoc] at h1
    cases h1
    exact h2
  have hlen : xs.length = z := by
    have := h.len
    rw [List.length_append] at this
    exact Nat.add_right_cancel this
  have hpl := h.places hz h0
  have hback := nums_back h0 h.cop
  have hone : divs (gcds (xs ++ [l]) : Nat) (xs ++ [l]) = (xs ++ [l]).map D.int := by
    rw [h.cop]
    exact divs_one
  have hpt := h.fine (by omega)
  have asP : ∀ (S : Store) (u : Bool) (E : Exn → Store → Prop), Wp (fns G fs es (k + 9) "_law_asked" [.int 0, .tup ((xs.map (lowP l)).map pairD), .bl u] S) (fun r S' => r = .lst [.str "told", .tup ((xs ++ [l]).map D.int)] ∧ S' = S) E := fun S u E => asked_ok K.asked K.g (.inl ⟨rfl, rfl, rfl, rfl⟩) (hpt.und _) (wp_imp (pat_ok K.md hpl) fun r S1 hr => by
      obtain ⟨rfl, rfl⟩ := hr
      rw [hback, hone]
      exact ⟨rfl, rfl⟩)
  have asQ : ∀ (S : Store) (u : Bool) (E : Exn → Store → Prop), Wp (fns G fs es (k + 9) "_law_asked" [.int 1, .tup ((xs ++ [l]).map D.int), .bl u] S) (fun r S' => r = .lst [.str "told", .tup ((xs.map (lowP l)).map pairD)] ∧ S' = S) E := fun S u E => asked_ok K.asked K.g (.inr (.inl ⟨rfl, rfl, rfl, rfl⟩)) (hpl.fine.und _) (wp_imp (pof_ok K.md hz h) fun r S1 hr => by
      obtain ⟨rfl, rfl⟩ := hr
      have : (xs.map fun x => fracD x l) = (xs.map (lowP l)).map pairD := by
        rw [List.map_map]
        exact List.map_congr_left fun x _ => lowP_frac h0
      rw [this]
      exact ⟨rfl, rfl⟩)
  refine wp_def dj rfl ?_
  unfold madB
  refine wx_sts (wx_set (frac_map K h h0 (by omega) rfl (fun _ => rfl) (fun _ => rfl) ?_))
  generalize hP : D.tup ((xs.map (lowP l)).map pairD) = P at asP asQ ⊢
  have pP : P.pl 2 = true := by
    rw [← hP]
    exact hpl.fine.pl
  generalize hT : D.tup ((xs ++ [l]).map D.int) = T at asP asQ ⊢
  have pT : T.pl 2 = true := by
    rw [← hT]
    exact hpt.pl
  refine wx_sts (wx_for (ws_it ?_))
  repeat (first | ((with_reducible refine wp_vr ?_); refine ⟨_, rfl, ?_⟩) | with_reducible first | refine wp_cst ?_ | refine wp_bin ?_ | refine wp_ix ?_ | refine wp_add ?_ | refine wp_sub ?_ | refine wp_int ?_ | refine wp_bif ?_ | refine wp_irs ?_ | refine wp_irs0 ?_ | refine wx_sts ?_ | refine wx_sts0 ?_ | refine wx_set ?_ | refine wx_ret ?_ | refine wx_setIx ?_ | refine wx_if ?_ | refine wp_and ?_ | refine wp_or ?_ | refine wp_not ?_ | refine wp_neg ?_ | refine wp_cmp ?_ | refine wp_call ?_ | refine wp_callK ?_ | refine wp_ite ?_ | refine wp_tup ?_ | refine wp_lst ?_ | refine wp_inst ?_ | refine wx_setT ?_ | refine wx_expr ?_ | refine wp_sl ?_ | refine wp_onon ?_ | refine wp_osome ?_ | refine wp_fz ?_ | refine wp_nil ?_ | refine wx_raise ?_ | refine wx_pass ?_ | refine ex_int ?_ | refine wp_slt ?_)
  refine ⟨_, rfl, ?_⟩
  repeat (first | ((with_reducible refine wp_vr ?_); refine ⟨_, rfl, ?_⟩) | with_reducible first | refine wp_cst ?_ | refine wp_bin ?_ | refine wp_ix ?_ | refine wp_add ?_ | refine wp_sub ?_ | refine wp_int ?_ | refine wp_bif ?_ | refine wp_irs ?_ | refine wp_irs0 ?_ | refine wx_sts ?_ | refine wx_sts0 ?_ | refine wx_set ?_ | refine wx_ret ?_ | refine wx_setIx ?_ | refine wx_if ?_ | refine wp_and ?_ | refine wp_or ?_ | refine wp_not ?_ | refine wp_neg ?_ | refine wp_cmp ?_ | refine wp_call ?_ | refine wp_callK ?_ | refine wp_ite ?_ | refine wp_tup ?_ | refine wp_lst ?_ | refine wp_inst ?_ | refine wx_setT ?_ | refine wx_expr ?_ | refine wp_sl ?_ | refine wp_onon ?_ | refine wp_osome ?_ | refine wp_fz ?_ | refine wp_nil ?_ | refine wx_raise ?_ | refine wx_pass ?_ | refine ex_int ?_ | refine wp_slt ?_)
  refine ⟨two_lim, _, rfl, [.bl by_, .bl (!by_)], rfl, fun i ρ S' => S' = S ∧ ∃ w : Option D, ρ = [some (.ref n), some T, some (.bl by_), some P, w, none, none, none, none, none, none, none, none, none], ⟨rfl, none, rfl⟩, ?_, ?_⟩
  · rintro i x ρ S1 hx1 ⟨rfl, w, rfl⟩
    have hu : ∃ u, x = .bl u := by
      rcases List.mem_cons.mp (List.mem_of_getElem? hx1) with rfl | h1
      · exact ⟨_, rfl⟩
      · rcases List.mem_cons.mp h1 with rfl | h1
        · exact ⟨_, rfl⟩
        · cases h1
    obtain ⟨u, rfl⟩ := hu
    refine ⟨_, rfl, ?_⟩
    repeat (first | ((with_reducible refine wp_vr ?_); refine ⟨_, rfl, ?_⟩) | with_reducible first | refine wp_cst ?_ | refine wp_bin ?_ | refine wp_ix ?_ | refine wp_add ?_ | refine wp_sub ?_ | refine wp_int ?_ | refine wp_bif ?_ | refine wp_irs ?_ | refine wp_irs0 ?_ | refine wx_sts ?_ | refine wx_sts0 ?_ | refine wx_set ?_ | refine wx_ret ?_ | refine wx_setIx ?_ | refine wx_if ?_ | refine wp_and ?_ | refine wp_or ?_ | refine wp_not ?_ | refine wp_neg ?_ | refine wp_cmp ?_ | refine wp_call ?_ | refine wp_callK ?_ | refine wp_ite ?_ | refine wp_tup ?_ | refine wp_lst ?_ | refine wp_inst ?_ | refine wx_setT ?_ | refine wx_expr ?_ | refine wp_sl ?_ | refine wp_onon ?_ | refine wp_osome ?_ | refine wp_fz ?_ | refine wp_nil ?_ | refine wx_raise ?_ | refine wx_pass ?_ | refine ex_int ?_ | refine wp_slt ?_)
    refine wp_imp (asP _ _ _) ?_
    rintro d S2 ⟨rfl, rfl⟩
    repeat (first | ((with_reducible refine wp_vr ?_); refine ⟨_, rfl, ?_⟩) | with_reducible first | refine wp_cst ?_ | refine wp_bin ?_ | refine wp_ix ?_ | refine wp_add ?_ | refine wp_sub ?_ | refine wp_int ?_ | refine wp_bif ?_ | refine wp_irs ?_ | refine wp_irs0 ?_ | refine wx_sts ?_ | refine wx_sts0 ?_ | refine wx_set ?_ | refine wx_ret ?_ | refine wx_setIx ?_ | refine wx_if ?_ | refine wp_and ?_ | refine wp_or ?_ | refine wp_not ?_ | refine wp_neg ?_ | refine wp_cmp ?_ | refine wp_call ?_ | refine wp_callK ?_ | refine wp_ite ?_ | refine wp_tup ?_ | refine wp_lst ?_ | refine wp_inst ?_ | refine wx_setT ?_ | refine wx_expr ?_ | refine wp_sl ?_ | refine wp_onon ?_ | refine wp_osome ?_ | refine wp_fz ?_ | refine wp_nil ?_ | refine wx_raise ?_ | refine wx_pass ?_ | refine ex_int ?_ | refine wp_slt ?_)
    refine wp_imp (asQ _ _ _) ?_
    rintro d S3 ⟨rfl, rfl⟩
    repeat (first | ((with_reducible refine wp_vr ?_); refine ⟨_, rfl, ?_⟩) | with_reducible first | refine wp_cst ?_ | refine wp_bin ?_ | refine wp_ix ?_ | refine wp_add ?_ | refine wp_sub ?_ | refine wp_int ?_ | refine wp_bif ?_ | refine wp_irs ?_ | refine wp_irs0 ?_ | refine wx_sts ?_ | refine wx_sts0 ?_ | refine wx_set ?_ | refine wx_ret ?_ | refine wx_setIx ?_ | refine wx_if ?_ | refine wp_and ?_ | refine wp_or ?_ | refine wp_not ?_ | refine wp_neg ?_ | refine wp_cmp ?_ | refine wp_call ?_ | refine wp_callK ?_ | refine wp_ite ?_ | refine wp_tup ?_ | refine wp_lst ?_ | refine wp_inst ?_ | refine wx_setT ?_ | refine wx_expr ?_ | refine wp_sl ?_ | refine wp_onon ?_ | refine wp_osome ?_ | refine wp_fz ?_ | refine wp_nil ?_ | refine wx_raise ?_ | refine wx_pass ?_ | refine ex_int ?_ | refine wp_slt ?_)
    refine ⟨two_lim, ?_⟩
    repeat (first | ((with_reducible refine wp_vr ?_); refine ⟨_, rfl, ?_⟩) | with_reducible first | refine wp_cst ?_ | refine wp_bin ?_ | refine wp_ix ?_ | refine wp_add ?_ | refine wp_sub ?_ | refine wp_int ?_ | refine wp_bif ?_ | refine wp_irs ?_ | refine wp_irs0 ?_ | refine wx_sts ?_ | refine wx_sts0 ?_ | refine wx_set ?_ | refine wx_ret ?_ | refine wx_setIx ?_ | refine wx_if ?_ | refine wp_and ?_ | refine wp_or ?_ | refine wp_not ?_ | refine wp_neg ?_ | refine wp_cmp ?_ | refine wp_call ?_ | refine wp_callK ?_ | refine wp_ite ?_ | refine wp_tup ?_ | refine wp_lst ?_ | refine wp_inst ?_ | refine wx_setT ?_ | refine wx_expr ?_ | refine wp_sl ?_ | refine wp_onon ?_ | refine wp_osome ?_ | refine wp_fz ?_ | refine wp_nil ?_ | refine wx_raise ?_ | refine wx_pass ?_ | refine ex_int ?_ | refine wp_slt ?_)
    refine ⟨two_lim, ?_⟩
    repeat (first | ((with_reducible refine wp_vr ?_); refine ⟨_, rfl, ?_⟩) | with_reducible first | refine wp_cst ?_ | refine wp_bin ?_ | refine wp_ix ?_ | refine wp_add ?_ | refine wp_sub ?_ | refine wp_int ?_ | refine wp_bif ?_ | refine wp_irs ?_ | refine wp_irs0 ?_ | refine wx_sts ?_ | refine wx_sts0 ?_ | refine wx_set ?_ | refine wx_ret ?_ | refine wx_setIx ?_ | refine wx_if ?_ | refine wp_and ?_ | refine wp_or ?_ | refine wp_not ?_ | refine wp_neg ?_ | refine wp_cmp ?_ | refine wp_call ?_ | refine wp_callK ?_ | refine wp_ite ?_ | refine wp_tup ?_ | refine wp_lst ?_ | refine wp_inst ?_ | refine wx_setT ?_ | refine wx_expr ?_ | refine wp_sl ?_ | refine wp_onon ?_ | refine wp_osome ?_ | refine wp_fz ?_ | refine wp_nil ?_ | refine wx_raise ?_ | refine wx_pass ?_ | refine ex_int ?_ | refine wp_slt ?_)
    refine ⟨two_lim, ?_⟩
    repeat (first | ((with_reducible refine wp_vr ?_); refine ⟨_, rfl, ?_⟩) | with_reducible first | refine wp_cst ?_ | refine wp_bin ?_ | refine wp_ix ?_ | refine wp_add ?_ | refine wp_sub ?_ | refine wp_int ?_ | refine wp_bif ?_ | refine wp_irs ?_ | refine wp_irs0 ?_ | refine wx_sts ?_ | refine wx_sts0 ?_ | refine wx_set ?_ | refine wx_ret ?_ | refine wx_setIx ?_ | refine wx_if ?_ | refine wp_and ?_ | refine wp_or ?_ | refine wp_not ?_ | refine wp_neg ?_ | refine wp_cmp ?_ | refine wp_call ?_ | refine wp_callK ?_ | refine wp_ite ?_ | refine wp_tup ?_ | refine wp_lst ?_ | refine wp_inst ?_ | refine wx_setT ?_ | refine wx_expr ?_ | refine wp_sl ?_ | refine wp_onon ?_ | refine wp_osome ?_ | refine wp_fz ?_ | refine wp_nil ?_ | refine wx_raise ?_ | refine wx_pass ?_ | refine ex_int ?_ | refine wp_slt ?_)
    refine ⟨two_lim, ?_⟩
    repeat (first | ((with_reducible refine wp_vr ?_); refine ⟨_, rfl, ?_⟩) | with_reducible first | refine wp_cst ?_ | refine wp_bin ?_ | refine wp_ix ?_ | refine wp_add ?_ | refine wp_sub ?_ | refine wp_int ?_ | refine wp_bif ?_ | refine wp_irs ?_ | refine wp_irs0 ?_ | refine wx_sts ?_ | refine wx_sts0 ?_ | refine wx_set ?_ | refine wx_ret ?_ | refine wx_setIx ?_ | refine wx_if ?_ | refine wp_and ?_ | refine wp_or ?_ | refine wp_not ?_ | refine wp_neg ?_ | refine wp_cmp ?_ | refine wp_call ?_ | refine wp_callK ?_ | refine wp_ite ?_ | refine wp_tup ?_ | refine wp_lst ?_ | refine wp_inst ?_ | refine wx_setT ?_ | refine wx_expr ?_ | refine wp_sl ?_ | refine wp_onon ?_ | refine wp_osome ?_ | refine wp_fz ?_ | refine wp_nil ?_ | refine wx_raise ?_ | refine wx_pass ?_ | refine ex_int ?_ | refine wp_slt ?_)
    refine wp_imp (same_refl K.same 4 _ (k + 8) _ _ (told_pl pT pP) (by omega)) ?_
    rintro d S4 ⟨rfl, rfl⟩
    refine ⟨_, rfl, _, rfl, fun z => Bool.noConfusion z, fun _ => ?_⟩
    repeat (first | ((with_reducible refine wp_vr ?_); refine ⟨_, rfl, ?_⟩) | with_reducible first | refine wp_cst ?_ | refine wp_bin ?_ | refine wp_ix ?_ | refine wp_add ?_ | refine wp_sub ?_ | refine wp_int ?_ | refine wp_bif ?_ | refine wp_irs ?_ | refine wp_irs0 ?_ | refine wx_sts ?_ | refine wx_sts0 ?_ | refine wx_set ?_ | refine wx_ret ?_ | refine wx_setIx ?_ | refine wx_if ?_ | refine wp_and ?_ | refine wp_or ?_ | refine wp_not ?_ | refine wp_neg ?_ | refine wp_cmp ?_ | refine wp_call ?_ | refine wp_callK ?_ | refine wp_ite ?_ | refine wp_tup ?_ | refine wp_lst ?_ | refine wp_inst ?_ | refine wx_setT ?_ | refine wx_expr ?_ | refine wp_sl ?_ | refine wp_onon ?_ | refine wp_osome ?_ | refine wp_fz ?_ | refine wp_nil ?_ | refine wx_raise ?_ | refine wx_pass ?_ | refine ex_int ?_ | refine wp_slt ?_)
    exact ⟨rfl, _, rfl⟩
  rintro ρ S1 ⟨rfl, w, rfl⟩
  refine wx_sts (wx_set (wp_bif (wp_irs (wp_comp (ws_it ?_)))))
  repeat (first | ((with_reducible refine wp_vr ?_); refine ⟨_, rfl, ?_⟩) | with_reducible first | refine wp_cst ?_ | refine wp_bin ?_ | refine wp_ix ?_ | refine wp_add ?_ | refine wp_sub ?_ | refine wp_int ?_ | refine wp_bif ?_ | refine wp_irs ?_ | refine wp_irs0 ?_ | refine wx_sts ?_ | refine wx_sts0 ?_ | refine wx_set ?_ | refine wx_ret ?_ | refine wx_setIx ?_ | refine wx_if ?_ | refine wp_and ?_ | refine wp_or ?_ | refine wp_not ?_ | refine wp_neg ?_ | refine wp_cmp ?_ | refine wp_call ?_ | refine wp_callK ?_ | refine wp_ite ?_ | refine wp_tup ?_ | refine wp_lst ?_ | refine wp_inst ?_ | refine wx_setT ?_ | refine wx_expr ?_ | refine wp_sl ?_ | refine wp_onon ?_ | refine wp_osome ?_ | refine wp_fz ?_ | refine wp_nil ?_ | refine wx_raise ?_ | refine wx_pass ?_ | refine ex_int ?_ | refine wp_slt ?_)
  have hPs : P = .tup ((xs.map (lowP l)).map pairD) := hP.symm
  refine ⟨.fix ((xs.map (lowP l)).map pairD), by rw [hPs]; rfl, (xs.map (lowP l)).map pairD, rfl, by rw [List.length_map, List.length_map, hlen]; unfold LIM; omega, fun i acc S' => ∃ bs : List (Int × Int), acc = bs.map pairD ∧ bs.length = i ∧ (∀ p ∈ bs, Frac p.1 p.2 ∧ p.1.natAbs < 2 ^ 4 ∧ p.2 < 2 ^ 4) ∧ Dr n (m + 2 * i) S1 S', ⟨[], rfl, rfl, fun _ h => (by cases h), Dr.refl hx⟩, ?_, ?_⟩
  · rintro i x acc S2 hx2 ⟨bs, rfl, hbl, hb, hd⟩
    have hi : i < z := by
      have := (List.getElem?_eq_some_iff.mp hx2).1
      rw [List.length_map, List.length_map, hlen] at this
      exact this
    refine ⟨_, rfl, wt_nil ⟨fun _ => ?_, fun z => Bool.noConfusion z⟩⟩
    repeat (first | ((with_reducible refine wp_vr ?_); refine ⟨_, rfl, ?_⟩) | with_reducible first | refine wp_cst ?_ | refine wp_bin ?_ | refine wp_ix ?_ | refine wp_add ?_ | refine wp_sub ?_ | refine wp_int ?_ | refine wp_bif ?_ | refine wp_irs ?_ | refine wp_irs0 ?_ | refine wx_sts ?_ | refine wx_sts0 ?_ | refine wx_set ?_ | refine wx_ret ?_ | refine wx_setIx ?_ | refine wx_if ?_ | refine wp_and ?_ | refine wp_or ?_ | refine wp_not ?_ | refine wp_neg ?_ | refine wp_cmp ?_ | refine wp_call ?_ | refine wp_callK ?_ | refine wp_ite ?_ | refine wp_tup ?_ | refine wp_lst ?_ | refine wp_inst ?_ | refine wx_setT ?_ | refine wx_expr ?_ | refine wp_sl ?_ | refine wp_onon ?_ | refine wp_osome ?_ | refine wp_fz ?_ | refine wp_nil ?_ | refine wx_raise ?_ | refine wx_pass ?_ | refine ex_int ?_ | refine wp_slt ?_)
    refine wp_imp (take_ok K.dd.take K.dd.nums hd.box (by omega) ⟨by decide, by decide⟩) ?_
    rintro d S3 ⟨a, rfl, a1, a2, hd3⟩
    repeat (first | ((with_reducible refine wp_vr ?_); refine ⟨_, rfl, ?_⟩) | with_reducible first | refine wp_cst ?_ | refine wp_bin ?_ | refine wp_ix ?_ | refine wp_add ?_ | refine wp_sub ?_ | refine wp_int ?_ | refine wp_bif ?_ | refine wp_irs ?_ | refine wp_irs0 ?_ | refine wx_sts ?_ | refine wx_sts0 ?_ | refine wx_set ?_ | refine wx_ret ?_ | refine wx_setIx ?_ | refine wx_if ?_ | refine wp_and ?_ | refine wp_or ?_ | refine wp_not ?_ | refine wp_neg ?_ | refine wp_cmp ?_ | refine wp_call ?_ | refine wp_callK ?_ | refine wp_ite ?_ | refine wp_tup ?_ | refine wp_lst ?_ | refine wp_inst ?_ | refine wx_setT ?_ | refine wx_expr ?_ | refine wp_sl ?_ | refine wp_onon ?_ | refine wp_osome ?_ | refine wp_fz ?_ | refine wp_nil ?_ | refine wx_raise ?_ | refine wx_pass ?_ | refine ex_int ?_ | refine wp_slt ?_)
    refine wp_imp (take_ok K.dd.take K.dd.nums hd3.box (by omega) ⟨by decide, by decide⟩) ?_
    rintro d S4 ⟨c, rfl, c1, c2, hd4⟩
    repeat (first | ((with_reducible refine wp_vr ?_); refine ⟨_, rfl, ?_⟩) | with_reducible first | refine wp_cst ?_ | refine wp_bin ?_ | refine wp_ix ?_ | refine wp_add ?_ | refine wp_sub ?_ | refine wp_int ?_ | refine wp_bif ?_ | refine wp_irs ?_ | refine wp_irs0 ?_ | refine wx_sts ?_ | refine wx_sts0 ?_ | refine wx_set ?_ | refine wx_ret ?_ | refine wx_setIx ?_ | refine wx_if ?_ | refine wp_and ?_ | refine wp_or ?_ | refine wp_not ?_ | refine wp_neg ?_ | refine wp_cmp ?_ | refine wp_call ?_ | refine wp_callK ?_ | refine wp_ite ?_ | refine wp_tup ?_ | refine wp_lst ?_ | refine wp_inst ?_ | refine wx_setT ?_ | refine wx_expr ?_ | refine wp_sl ?_ | refine wp_onon ?_ | refine wp_osome ?_ | refine wp_fz ?_ | refine wp_nil ?_ | refine wx_raise ?_ | refine wx_pass ?_ | refine ex_int ?_ | refine wp_slt ?_)
    refine wp_imp (frac_ok K.dd.fac K.frac (Nat.lt_of_lt_of_le (show (a - 15).natAbs < 2 ^ 4 by omega) (Nat.pow_le_pow_right (by decide) (by decide))) (Nat.lt_of_lt_of_le (show (1 + c).natAbs < 2 ^ 4 by omega) (Nat.pow_le_pow_right (by decide) (by decide))) (by omega)) ?_
    rintro d S5 ⟨rfl, rfl⟩
    refine ⟨bs ++ [lowP (1 + c) (a - 15)], ?_, by rw [List.length_append, hbl]; rfl, fun p hp => ?_, (hd.trans (hd3.trans hd4)).mono (by omega)⟩
    · rw [List.map_append, lowP_frac (by omega)]
      rfl
    · rcases List.mem_append.mp hp with hp | hp
      · exact hb p hp
      · rcases List.mem_cons.mp hp with rfl | hp
        · obtain ⟨g, _, _, _, f⟩ := lowP_parts (l := 1 + c) (x := a - 15) (by omega)
          exact ⟨f, lowP_lim (by omega) (by omega) (by omega)⟩
        · cases hp
  rintro acc S2 ⟨bs, rfl, hbl, hb, hd⟩
  rw [List.length_map, List.length_map, hlen] at hbl hd
  have sm : Smalls z bs := ⟨hbl, fun p hp => (hb p hp).1, fun p hp => (hb p hp).2⟩
  have smp := sm.places hz
  obtain ⟨n0, n1, n2, n3⟩ := sm.nums hz
  refine wp_fz ?_
  repeat (first | ((with_reducible refine wp_vr ?_); refine ⟨_, rfl, ?_⟩) | with_reducible first | refine wp_cst ?_ | refine wp_bin ?_ | refine wp_ix ?_ | refine wp_add ?_ | refine wp_sub ?_ | refine wp_int ?_ | refine wp_bif ?_ | refine wp_irs ?_ | refine wp_irs0 ?_ | refine wx_sts ?_ | refine wx_sts0 ?_ | refine wx_set ?_ | refine wx_ret ?_ | refine wx_setIx ?_ | refine wx_if ?_ | refine wp_and ?_ | refine wp_or ?_ | refine wp_not ?_ | refine wp_neg ?_ | refine wp_cmp ?_ | refine wp_call ?_ | refine wp_callK ?_ | refine wp_ite ?_ | refine wp_tup ?_ | refine wp_lst ?_ | refine wp_inst ?_ | refine wx_setT ?_ | refine wx_expr ?_ | refine wp_sl ?_ | refine wp_onon ?_ | refine wp_osome ?_ | refine wp_fz ?_ | refine wp_nil ?_ | refine wx_raise ?_ | refine wx_pass ?_ | refine ex_int ?_ | refine wp_slt ?_)
  refine wp_some rfl ?_
  repeat (first | ((with_reducible refine wp_vr ?_); refine ⟨_, rfl, ?_⟩) | with_reducible first | refine wp_cst ?_ | refine wp_bin ?_ | refine wp_ix ?_ | refine wp_add ?_ | refine wp_sub ?_ | refine wp_int ?_ | refine wp_bif ?_ | refine wp_irs ?_ | refine wp_irs0 ?_ | refine wx_sts ?_ | refine wx_sts0 ?_ | refine wx_set ?_ | refine wx_ret ?_ | refine wx_setIx ?_ | refine wx_if ?_ | refine wp_and ?_ | refine wp_or ?_ | refine wp_not ?_ | refine wp_neg ?_ | refine wp_cmp ?_ | refine wp_call ?_ | refine wp_callK ?_ | refine wp_ite ?_ | refine wp_tup ?_ | refine wp_lst ?_ | refine wp_inst ?_ | refine wx_setT ?_ | refine wx_expr ?_ | refine wp_sl ?_ | refine wp_onon ?_ | refine wp_osome ?_ | refine wp_fz ?_ | refine wp_nil ?_ | refine wx_raise ?_ | refine wx_pass ?_ | refine ex_int ?_ | refine wp_slt ?_)
  refine wx_for (ws_it ?_)
  repeat (first | ((with_reducible refine wp_vr ?_); refine ⟨_, rfl, ?_⟩) | with_reducible first | refine wp_cst ?_ | refine wp_bin ?_ | refine wp_ix ?_ | refine wp_add ?_ | refine wp_sub ?_ | refine wp_int ?_ | refine wp_bif ?_ | refine wp_irs ?_ | refine wp_irs0 ?_ | refine wx_sts ?_ | refine wx_sts0 ?_ | refine wx_set ?_ | refine wx_ret ?_ | refine wx_setIx ?_ | refine wx_if ?_ | refine wp_and ?_ | refine wp_or ?_ | refine wp_not ?_ | refine wp_neg ?_ | refine wp_cmp ?_ | refine wp_call ?_ | refine wp_callK ?_ | refine wp_ite ?_ | refine wp_tup ?_ | refine wp_lst ?_ | refine wp_inst ?_ | refine wx_setT ?_ | refine wx_expr ?_ | refine wp_sl ?_ | refine wp_onon ?_ | refine wp_osome ?_ | refine wp_fz ?_ | refine wp_nil ?_ | refine wx_raise ?_ | refine wx_pass ?_ | refine ex_int ?_ | refine wp_slt ?_)
  refine ⟨.fix (bs.map pairD), rfl, bs.map pairD, rfl, fun i ρ S' => S' = S2 ∧ ∃ u v : Option D, ρ = [some (.ref n), some T, some (.bl by_), some P, w, some (.tup (bs.map pairD)), some (.int (lcms ((bs.take i).map (·.2)) 1)), none, none, u, v, none, none, none], ⟨rfl, none, none, rfl⟩, ?_, ?_⟩
  · rintro i y ρ S' hy ⟨rfl, u, v, rfl⟩
    rw [List.getElem?_map] at hy
    cases hn : bs[i]? with
    | none => rw [hn] at hy; cases hy
    | some q =>
      rw [hn] at hy
      cases hy
      obtain ⟨w1, w2⟩ := smp.upTo i
      have hq : q ∈ bs := List.mem_of_getElem? hn
      have q1 := (smp.low q hq).pos
      have q2 := (smp.lim q hq).2
      have htk : lcms ((bs.take (i + 1)).map (·.2)) 1 = lcmStep (lcms ((bs.take i).map (·.2)) 1) q.2 := by
        rw [List.take_succ, hn, List.map_append]
        unfold lcms
        rw [List.foldl_append]
        rfl
      generalize lcms ((bs.take i).map (·.2)) 1 = w5 at w1 w2 htk ⊢
      refine ⟨[some (.ref n), some T, some (.bl by_), some P, w, some (.tup (bs.map pairD)), some (.int w5), none, none, some (.int q.1), some (.int q.2), none, none, none], rfl, ?_⟩
      repeat (first | ((with_reducible refine wp_vr ?_); refine ⟨_, rfl, ?_⟩) | with_reducible first | refine wp_cst ?_ | refine wp_bin ?_ | refine wp_ix ?_ | refine wp_add ?_ | refine wp_sub ?_ | refine wp_int ?_ | refine wp_bif ?_ | refine wp_irs ?_ | refine wp_irs0 ?_ | refine wx_sts ?_ | refine wx_sts0 ?_ | refine wx_set ?_ | refine wx_ret ?_ | refine wx_setIx ?_ | refine wx_if ?_ | refine wp_and ?_ | refine wp_or ?_ | refine wp_not ?_ | refine wp_neg ?_ | refine wp_cmp ?_ | refine wp_call ?_ | refine wp_callK ?_ | refine wp_ite ?_ | refine wp_tup ?_ | refine wp_lst ?_ | refine wp_inst ?_ | refine wx_setT ?_ | refine wx_expr ?_ | refine wp_sl ?_ | refine wp_onon ?_ | refine wp_osome ?_ | refine wp_fz ?_ | refine wp_nil ?_ | refine wx_raise ?_ | refine wx_pass ?_ | refine ex_int ?_ | refine wp_slt ?_)
      refine wp_mul (bits_of (k := 700) (l := 200) (natAbs_lt w1 w2) (natAbs_lt q1 q2) (by decide)) ?_
      repeat (first | ((with_reducible refine wp_vr ?_); refine ⟨_, rfl, ?_⟩) | with_reducible first | refine wp_cst ?_ | refine wp_bin ?_ | refine wp_ix ?_ | refine wp_add ?_ | refine wp_sub ?_ | refine wp_int ?_ | refine wp_bif ?_ | refine wp_irs ?_ | refine wp_irs0 ?_ | refine wx_sts ?_ | refine wx_sts0 ?_ | refine wx_set ?_ | refine wx_ret ?_ | refine wx_setIx ?_ | refine wx_if ?_ | refine wp_and ?_ | refine wp_or ?_ | refine wp_not ?_ | refine wp_neg ?_ | refine wp_cmp ?_ | refine wp_call ?_ | refine wp_callK ?_ | refine wp_ite ?_ | refine wp_tup ?_ | refine wp_lst ?_ | refine wp_inst ?_ | refine wx_setT ?_ | refine wx_expr ?_ | refine wp_sl ?_ | refine wp_onon ?_ | refine wp_osome ?_ | refine wp_fz ?_ | refine wp_nil ?_ | refine wx_raise ?_ | refine wx_pass ?_ | refine ex_int ?_ | refine wp_slt ?_)
      refine ⟨two_lim, ?_⟩
      repeat (first | ((with_reducible refine wp_vr ?_); refine ⟨_, rfl, ?_⟩) | with_reducible first | refine wp_cst ?_ | refine wp_bin ?_ | refine wp_ix ?_ | refine wp_add ?_ | refine wp_sub ?_ | refine wp_int ?_ | refine wp_bif ?_ | refine wp_irs ?_ | refine wp_irs0 ?_ | refine wx_sts ?_ | refine wx_sts0 ?_ | refine wx_set ?_ | refine wx_ret ?_ | refine wx_setIx ?_ | refine wx_if ?_ | refine wp_and ?_ | refine wp_or ?_ | refine wp_not ?_ | refine wp_neg ?_ | refine wp_cmp ?_ | refine wp_call ?_ | refine wp_callK ?_ | refine wp_ite ?_ | refine wp_tup ?_ | refine wp_lst ?_ | refine wp_inst ?_ | refine wx_setT ?_ | refine wx_expr ?_ | refine wp_sl ?_ | refine wp_onon ?_ | refine wp_osome ?_ | refine wp_fz ?_ | refine wp_nil ?_ | refine wx_raise ?_ | refine wx_pass ?_ | refine ex_int ?_ | refine wp_slt ?_)
      refine wp_imp (factor_lst (ns := [w5, q.2]) K.dd.fac ?_) ?_
      · intro n hn
        rcases List.mem_cons.mp hn with rfl | hn
        · exact Nat.lt_of_lt_of_le (natAbs_lt w1 w2) (Nat.pow_le_pow_right (by decide) (by decide))
        · rcases List.mem_cons.mp hn with rfl | hn
          · exact Nat.lt_of_lt_of_le (natAbs_lt q1 q2) (Nat.pow_le_pow_right (by decide) (by decide))
          · cases hn
      rintro d S3 ⟨rfl, rfl⟩
      rw [gcds_two]
      have hg : Nat.gcd w5.natAbs q.2.natAbs ≠ 0 := by
        have := Nat.gcd_pos_of_pos_left q.2.natAbs (show 0 < w5.natAbs by omega)
        omega
      have hg2 : Nat.gcd w5.natAbs q.2.natAbs < 2 ^ 200 := Nat.lt_of_le_of_lt (Nat.le_of_dvd (by omega) (Nat.gcd_dvd_right _ _)) (natAbs_lt q1 q2)
      refine wp_fdiv ⟨by omega, Nat.lt_of_le_of_lt (log2_le (k := 200) (by simpa using hg2)) (by decide)⟩ ?_
      repeat (first | ((with_reducible refine wp_vr ?_); refine ⟨_, rfl, ?_⟩) | with_reducible first | refine wp_cst ?_ | refine wp_bin ?_ | refine wp_ix ?_ | refine wp_add ?_ | refine wp_sub ?_ | refine wp_int ?_ | refine wp_bif ?_ | refine wp_irs ?_ | refine wp_irs0 ?_ | refine wx_sts ?_ | refine wx_sts0 ?_ | refine wx_set ?_ | refine wx_ret ?_ | refine wx_setIx ?_ | refine wx_if ?_ | refine wp_and ?_ | refine wp_or ?_ | refine wp_not ?_ | refine wp_neg ?_ | refine wp_cmp ?_ | refine wp_call ?_ | refine wp_callK ?_ | refine wp_ite ?_ | refine wp_tup ?_ | refine wp_lst ?_ | refine wp_inst ?_ | refine wx_setT ?_ | refine wx_expr ?_ | refine wp_sl ?_ | refine wp_onon ?_ | refine wp_osome ?_ | refine wp_fz ?_ | refine wp_nil ?_ | refine wx_raise ?_ | refine wx_pass ?_ | refine ex_int ?_ | refine wp_slt ?_)
      exact ⟨rfl, some (.int q.1), some (.int q.2), by rw [htk]; rfl⟩
  rintro ρ S' ⟨rfl, u, v, rfl⟩
  rw [List.length_map, List.take_length]
  obtain ⟨w1, w2⟩ := smp.all
  have hdv := (lcms_dvd (bs := bs.map (·.2)) (w := 1) (by decide) fun b hb => (smp.bs b hb).1).2
  have hdue := back_places (ps := bs) sm.low (g := gcds (numsOf bs)) (gcds_ne (List.mem_of_getLast? n2) (by omega)) gcds_dvd rfl n0
  have hw : lcms (bs.map (·.2)) 1 = lcms (bs.map (·.2)) 1 := rfl
  have hnums : numsOf bs = bs.map (fun p => p.1 * (lcms (bs.map (·.2)) 1).fdiv p.2) ++ [lcms (bs.map (·.2)) 1] := rfl
  generalize lcms (bs.map (·.2)) 1 = wh at w1 w2 hdv n0 n2 hdue hnums ⊢
  repeat (first | ((with_reducible refine wp_vr ?_); refine ⟨_, rfl, ?_⟩) | with_reducible first | refine wp_cst ?_ | refine wp_bin ?_ | refine wp_ix ?_ | refine wp_add ?_ | refine wp_sub ?_ | refine wp_int ?_ | refine wp_bif ?_ | refine wp_irs ?_ | refine wp_irs0 ?_ | refine wx_sts ?_ | refine wx_sts0 ?_ | refine wx_set ?_ | refine wx_ret ?_ | refine wx_setIx ?_ | refine wx_if ?_ | refine wp_and ?_ | refine wp_or ?_ | refine wp_not ?_ | refine wp_neg ?_ | refine wp_cmp ?_ | refine wp_call ?_ | refine wp_callK ?_ | refine wp_ite ?_ | refine wp_tup ?_ | refine wp_lst ?_ | refine wp_inst ?_ | refine wx_setT ?_ | refine wx_expr ?_ | refine wp_sl ?_ | refine wp_onon ?_ | refine wp_osome ?_ | refine wp_fz ?_ | refine wp_nil ?_ | refine wx_raise ?_ | refine wx_pass ?_ | refine ex_int ?_ | refine wp_slt ?_)
  refine wp_mapG (f := topOf wh) (d := .tup (bs.map pairD)) (w := .fix (bs.map pairD)) (by rw [IR.run]; rfl) rfl rfl rfl (by rw [List.length_map, hbl]; unfold LIM; omega) ?_ ?_
  · intro x hx
    obtain ⟨q, hq, rfl⟩ := List.mem_map.mp hx
    have q1 := (smp.low q hq).pos
    have q2 := (smp.lim q hq).2
    have q3 := (smp.lim q hq).1
    refine ⟨[some (.ref n), some T, some (.bl by_), some P, w, some (.tup (bs.map pairD)), some (.int wh), none, none, some (.int q.1), some (.int q.2), none, none, none], rfl, ?_⟩
    repeat (first | ((with_reducible refine wp_vr ?_); refine ⟨_, rfl, ?_⟩) | with_reducible first | refine wp_cst ?_ | refine wp_bin ?_ | refine wp_ix ?_ | refine wp_add ?_ | refine wp_sub ?_ | refine wp_int ?_ | refine wp_bif ?_ | refine wp_irs ?_ | refine wp_irs0 ?_ | refine wx_sts ?_ | refine wx_sts0 ?_ | refine wx_set ?_ | refine wx_ret ?_ | refine wx_setIx ?_ | refine wx_if ?_ | refine wp_and ?_ | refine wp_or ?_ | refine wp_not ?_ | refine wp_neg ?_ | refine wp_cmp ?_ | refine wp_call ?_ | refine wp_callK ?_ | refine wp_ite ?_ | refine wp_tup ?_ | refine wp_lst ?_ | refine wp_inst ?_ | refine wx_setT ?_ | refine wx_expr ?_ | refine wp_sl ?_ | refine wp_onon ?_ | refine wp_osome ?_ | refine wp_fz ?_ | refine wp_nil ?_ | refine wx_raise ?_ | refine wx_pass ?_ | refine ex_int ?_ | refine wp_slt ?_)
    refine wp_fdiv ⟨by omega, Nat.lt_of_le_of_lt (log2_le (k := 200) (natAbs_lt q1 q2)) (by decide)⟩ ?_
    have h4 : (wh.fdiv q.2).natAbs < 2 ^ 700 := by
      have h5 := fdiv_le (n := wh) (g := q.2.natAbs) (by omega) (hdv q.2 (List.mem_map.mpr ⟨q, hq, rfl⟩))
      rw [show ((q.2.natAbs : Nat) : Int) = q.2 by omega] at h5
      exact Nat.lt_of_le_of_lt h5 (natAbs_lt w1 w2)
    exact wp_mul (bits_of (k := 200) (l := 700) q3 h4 (by decide)) ⟨rfl, rfl⟩
  have e : (bs.map pairD).map (topOf wh) ++ [D.int wh] = (numsOf bs).map D.int := by
    rw [hnums, List.map_append, List.map_map, List.map_map]
    rfl
  repeat (first | ((with_reducible refine wp_vr ?_); refine ⟨_, rfl, ?_⟩) | with_reducible first | refine wp_cst ?_ | refine wp_bin ?_ | refine wp_ix ?_ | refine wp_add ?_ | refine wp_sub ?_ | refine wp_int ?_ | refine wp_bif ?_ | refine wp_irs ?_ | refine wp_irs0 ?_ | refine wx_sts ?_ | refine wx_sts0 ?_ | refine wx_set ?_ | refine wx_ret ?_ | refine wx_setIx ?_ | refine wx_if ?_ | refine wp_and ?_ | refine wp_or ?_ | refine wp_not ?_ | refine wp_neg ?_ | refine wp_cmp ?_ | refine wp_call ?_ | refine wp_callK ?_ | refine wp_ite ?_ | refine wp_tup ?_ | refine wp_lst ?_ | refine wp_inst ?_ | refine wx_setT ?_ | refine wx_expr ?_ | refine wp_sl ?_ | refine wp_onon ?_ | refine wp_osome ?_ | refine wp_fz ?_ | refine wp_nil ?_ | refine wx_raise ?_ | refine wx_pass ?_ | refine ex_int ?_ | refine wp_slt ?_)
  refine ⟨show 1 ≤ LIM by decide, ?_⟩
  repeat (first | ((with_reducible refine wp_vr ?_); refine ⟨_, rfl, ?_⟩) | with_reducible first | refine wp_cst ?_ | refine wp_bin ?_ | refine wp_ix ?_ | refine wp_add ?_ | refine wp_sub ?_ | refine wp_int ?_ | refine wp_bif ?_ | refine wp_irs ?_ | refine wp_irs0 ?_ | refine wx_sts ?_ | refine wx_sts0 ?_ | refine wx_set ?_ | refine wx_ret ?_ | refine wx_setIx ?_ | refine wx_if ?_ | refine wp_and ?_ | refine wp_or ?_ | refine wp_not ?_ | refine wp_neg ?_ | refine wp_cmp ?_ | refine wp_call ?_ | refine wp_callK ?_ | refine wp_ite ?_ | refine wp_tup ?_ | refine wp_lst ?_ | refine wp_inst ?_ | refine wx_setT ?_ | refine wx_expr ?_ | refine wp_sl ?_ | refine wp_onon ?_ | refine wp_osome ?_ | refine wp_fz ?_ | refine wp_nil ?_ | refine wx_raise ?_ | refine wx_pass ?_ | refine ex_int ?_ | refine wp_slt ?_)
  refine add_lst (by rw [List.length_map, List.length_map, hbl]; show z + 1 ≤ LIM; unfold LIM; omega) ?_
  rw [e]
  repeat (first | ((with_reducible refine wp_vr ?_); refine ⟨_, rfl, ?_⟩) | with_reducible first | refine wp_cst ?_ | refine wp_bin ?_ | refine wp_ix ?_ | refine wp_add ?_ | refine wp_sub ?_ | refine wp_int ?_ | refine wp_bif ?_ | refine wp_irs ?_ | refine wp_irs0 ?_ | refine wx_sts ?_ | refine wx_sts0 ?_ | refine wx_set ?_ | refine wx_ret ?_ | refine wx_setIx ?_ | refine wx_if ?_ | refine wp_and ?_ | refine wp_or ?_ | refine wp_not ?_ | refine wp_neg ?_ | refine wp_cmp ?_ | refine wp_call ?_ | refine wp_callK ?_ | refine wp_ite ?_ | refine wp_tup ?_ | refine wp_lst ?_ | refine wp_inst ?_ | refine wx_setT ?_ | refine wx_expr ?_ | refine wp_sl ?_ | refine wp_onon ?_ | refine wp_osome ?_ | refine wp_fz ?_ | refine wp_nil ?_ | refine wx_raise ?_ | refine wx_pass ?_ | refine ex_int ?_ | refine wp_slt ?_)
  refine wp_imp (point_ok K.dd.fac K.dd.point (l := wh) (fun i hi => Nat.lt_of_lt_of_le (n1 i hi) (Nat.pow_le_pow_right (by decide) (by decide))) (by rw [n3]; unfold LIM; omega) (last_at n2) (List.mem_of_getLast? n2) (by omega)) ?_
  rintro d S3 ⟨rfl, rfl⟩
  have hsg : sgn wh = 1 := if_pos n0
  rw [hsg, Int.mul_one]
  have hdp : Pt ((numsOf bs).map fun n => n.fdiv (gcds (numsOf bs) : Nat)) z := pt_made n3 n2 n0 n1
  have hsplit : (numsOf bs).map (fun n => n.fdiv (gcds (numsOf bs) : Nat)) = (bs.map fun p => (p.1 * wh.fdiv p.2).fdiv (gcds (numsOf bs) : Nat)) ++ [wh.fdiv (gcds (numsOf bs) : Nat)] := by
    generalize gcds (numsOf bs) = g
    rw [hnums, List.map_append, List.map_map]
    rfl
  have asB : ∀ (S : Store) (u : Bool) (E : Exn → Store → Prop), Wp (fns G fs es (k + 9) "_law_asked" [.int 0, .tup (bs.map pairD), .bl u] S) (fun r S' => r = .lst [.str "told", .tup (divs (gcds (numsOf bs)) (numsOf bs))] ∧ S' = S) E := fun S u E => asked_ok K.asked K.g (.inl ⟨rfl, rfl, rfl, rfl⟩) divs_und (pat_ok K.md smp)
  have asD : ∀ (S : Store) (u : Bool) (E : Exn → Store → Prop), Wp (fns G fs es (k + 9) "_law_asked" [.int 1, .tup (divs (gcds (numsOf bs)) (numsOf bs)), .bl u] S) (fun r S' => r = .lst [.str "told", .tup (bs.map pairD)] ∧ S' = S) E := fun S u E => asked_ok K.asked K.g (.inr (.inl ⟨rfl, rfl, rfl, rfl⟩)) (smp.fine.und _) (by
      rw [divs_nat, hsplit]
      rw [hsplit] at hdp
      refine wp_imp (pof_ok K.md hz hdp) ?_
      rintro r S1 ⟨rfl, rfl⟩
      refine ⟨?_, rfl⟩
      rw [List.map_map, ← hdue]
      rfl)
  have pD : (D.tup (divs (gcds (numsOf bs)) (numsOf bs))).pl 2 = true := by
    rw [divs_nat]
    exact (hdp.fine (by omega)).pl
  have pB := smp.fine.pl
  have hPs2 : ∀ S : Store, lenOf S P = some (z : Int) := fun S => by
    rw [hPs]
    show some (((xs.map (lowP l)).map pairD).length : Int) = _
    rw [List.length_map, List.length_map, hlen]
  generalize D.tup (divs (gcds (numsOf bs)) (numsOf bs)) = due at asB asD pD ⊢
  generalize D.tup (bs.map pairD) = bases at asB asD pB ⊢
  repeat (first | ((with_reducible refine wp_vr ?_); refine ⟨_, rfl, ?_⟩) | with_reducible first | refine wp_cst ?_ | refine wp_bin ?_ | refine wp_ix ?_ | refine wp_add ?_ | refine wp_sub ?_ | refine wp_int ?_ | refine wp_bif ?_ | refine wp_irs ?_ | refine wp_irs0 ?_ | refine wx_sts ?_ | refine wx_sts0 ?_ | refine wx_set ?_ | refine wx_ret ?_ | refine wx_setIx ?_ | refine wx_if ?_ | refine wp_and ?_ | refine wp_or ?_ | refine wp_not ?_ | refine wp_neg ?_ | refine wp_cmp ?_ | refine wp_call ?_ | refine wp_callK ?_ | refine wp_ite ?_ | refine wp_tup ?_ | refine wp_lst ?_ | refine wp_inst ?_ | refine wx_setT ?_ | refine wx_expr ?_ | refine wp_sl ?_ | refine wp_onon ?_ | refine wp_osome ?_ | refine wp_fz ?_ | refine wp_nil ?_ | refine wx_raise ?_ | refine wx_pass ?_ | refine ex_int ?_ | refine wp_slt ?_)
  refine wp_imp (asB _ _ _) ?_
  rintro d S4 ⟨rfl, rfl⟩
  repeat (first | ((with_reducible refine wp_vr ?_); refine ⟨_, rfl, ?_⟩) | with_reducible first | refine wp_cst ?_ | refine wp_bin ?_ | refine wp_ix ?_ | refine wp_add ?_ | refine wp_sub ?_ | refine wp_int ?_ | refine wp_bif ?_ | refine wp_irs ?_ | refine wp_irs0 ?_ | refine wx_sts ?_ | refine wx_sts0 ?_ | refine wx_set ?_ | refine wx_ret ?_ | refine wx_setIx ?_ | refine wx_if ?_ | refine wp_and ?_ | refine wp_or ?_ | refine wp_not ?_ | refine wp_neg ?_ | refine wp_cmp ?_ | refine wp_call ?_ | refine wp_callK ?_ | refine wp_ite ?_ | refine wp_tup ?_ | refine wp_lst ?_ | refine wp_inst ?_ | refine wx_setT ?_ | refine wx_expr ?_ | refine wp_sl ?_ | refine wp_onon ?_ | refine wp_osome ?_ | refine wp_fz ?_ | refine wp_nil ?_ | refine wx_raise ?_ | refine wx_pass ?_ | refine ex_int ?_ | refine wp_slt ?_)
  refine ⟨_, rfl, ?_⟩
  repeat (first | ((with_reducible refine wp_vr ?_); refine ⟨_, rfl, ?_⟩) | with_reducible first | refine wp_cst ?_ | refine wp_bin ?_ | refine wp_ix ?_ | refine wp_add ?_ | refine wp_sub ?_ | refine wp_int ?_ | refine wp_bif ?_ | refine wp_irs ?_ | refine wp_irs0 ?_ | refine wx_sts ?_ | refine wx_sts0 ?_ | refine wx_set ?_ | refine wx_ret ?_ | refine wx_setIx ?_ | refine wx_if ?_ | refine wp_and ?_ | refine wp_or ?_ | refine wp_not ?_ | refine wp_neg ?_ | refine wp_cmp ?_ | refine wp_call ?_ | refine wp_callK ?_ | refine wp_ite ?_ | refine wp_tup ?_ | refine wp_lst ?_ | refine wp_inst ?_ | refine wx_setT ?_ | refine wx_expr ?_ | refine wp_sl ?_ | refine wp_onon ?_ | refine wp_osome ?_ | refine wp_fz ?_ | refine wp_nil ?_ | refine wx_raise ?_ | refine wx_pass ?_ | refine ex_int ?_ | refine wp_slt ?_)
  refine wp_imp (asD _ _ _) ?_
  rintro d S5 ⟨rfl, rfl⟩
  repeat (first | ((with_reducible refine wp_vr ?_); refine ⟨_, rfl, ?_⟩) | with_reducible first | refine wp_cst ?_ | refine wp_bin ?_ | refine wp_ix ?_ | refine wp_add ?_ | refine wp_sub ?_ | refine wp_int ?_ | refine wp_bif ?_ | refine wp_irs ?_ | refine wp_irs0 ?_ | refine wx_sts ?_ | refine wx_sts0 ?_ | refine wx_set ?_ | refine wx_ret ?_ | refine wx_setIx ?_ | refine wx_if ?_ | refine wp_and ?_ | refine wp_or ?_ | refine wp_not ?_ | refine wp_neg ?_ | refine wp_cmp ?_ | refine wp_call ?_ | refine wp_callK ?_ | refine wp_ite ?_ | refine wp_tup ?_ | refine wp_lst ?_ | refine wp_inst ?_ | refine wx_setT ?_ | refine wx_expr ?_ | refine wp_sl ?_ | refine wp_onon ?_ | refine wp_osome ?_ | refine wp_fz ?_ | refine wp_nil ?_ | refine wx_raise ?_ | refine wx_pass ?_ | refine ex_int ?_ | refine wp_slt ?_)
  refine ⟨two_lim, ?_⟩
  repeat (first | ((with_reducible refine wp_vr ?_); refine ⟨_, rfl, ?_⟩) | with_reducible first | refine wp_cst ?_ | refine wp_bin ?_ | refine wp_ix ?_ | refine wp_add ?_ | refine wp_sub ?_ | refine wp_int ?_ | refine wp_bif ?_ | refine wp_irs ?_ | refine wp_irs0 ?_ | refine wx_sts ?_ | refine wx_sts0 ?_ | refine wx_set ?_ | refine wx_ret ?_ | refine wx_setIx ?_ | refine wx_if ?_ | refine wp_and ?_ | refine wp_or ?_ | refine wp_not ?_ | refine wp_neg ?_ | refine wp_cmp ?_ | refine wp_call ?_ | refine wp_callK ?_ | refine wp_ite ?_ | refine wp_tup ?_ | refine wp_lst ?_ | refine wp_inst ?_ | refine wx_setT ?_ | refine wx_expr ?_ | refine wp_sl ?_ | refine wp_onon ?_ | refine wp_osome ?_ | refine wp_fz ?_ | refine wp_nil ?_ | refine wx_raise ?_ | refine wx_pass ?_ | refine ex_int ?_ | refine wp_slt ?_)
  refine ⟨two_lim, ?_⟩
  repeat (first | ((with_reducible refine wp_vr ?_); refine ⟨_, rfl, ?_⟩) | with_reducible first | refine wp_cst ?_ | refine wp_bin ?_ | refine wp_ix ?_ | refine wp_add ?_ | refine wp_sub ?_ | refine wp_int ?_ | refine wp_bif ?_ | refine wp_irs ?_ | refine wp_irs0 ?_ | refine wx_sts ?_ | refine wx_sts0 ?_ | refine wx_set ?_ | refine wx_ret ?_ | refine wx_setIx ?_ | refine wx_if ?_ | refine wp_and ?_ | refine wp_or ?_ | refine wp_not ?_ | refine wp_neg ?_ | refine wp_cmp ?_ | refine wp_call ?_ | refine wp_callK ?_ | refine wp_ite ?_ | refine wp_tup ?_ | refine wp_lst ?_ | refine wp_inst ?_ | refine wx_setT ?_ | refine wx_expr ?_ | refine wp_sl ?_ | refine wp_onon ?_ | refine wp_osome ?_ | refine wp_fz ?_ | refine wp_nil ?_ | refine wx_raise ?_ | refine wx_pass ?_ | refine ex_int ?_ | refine wp_slt ?_)
  refine ⟨two_lim, ?_⟩
  repeat (first | ((with_reducible refine wp_vr ?_); refine ⟨_, rfl, ?_⟩) | with_reducible first | refine wp_cst ?_ | refine wp_bin ?_ | refine wp_ix ?_ | refine wp_add ?_ | refine wp_sub ?_ | refine wp_int ?_ | refine wp_bif ?_ | refine wp_irs ?_ | refine wp_irs0 ?_ | refine wx_sts ?_ | refine wx_sts0 ?_ | refine wx_set ?_ | refine wx_ret ?_ | refine wx_setIx ?_ | refine wx_if ?_ | refine wp_and ?_ | refine wp_or ?_ | refine wp_not ?_ | refine wp_neg ?_ | refine wp_cmp ?_ | refine wp_call ?_ | refine wp_callK ?_ | refine wp_ite ?_ | refine wp_tup ?_ | refine wp_lst ?_ | refine wp_inst ?_ | refine wx_setT ?_ | refine wx_expr ?_ | refine wp_sl ?_ | refine wp_onon ?_ | refine wp_osome ?_ | refine wp_fz ?_ | refine wp_nil ?_ | refine wx_raise ?_ | refine wx_pass ?_ | refine ex_int ?_ | refine wp_slt ?_)
  refine ⟨two_lim, ?_⟩
  repeat (first | ((with_reducible refine wp_vr ?_); refine ⟨_, rfl, ?_⟩) | with_reducible first | refine wp_cst ?_ | refine wp_bin ?_ | refine wp_ix ?_ | refine wp_add ?_ | refine wp_sub ?_ | refine wp_int ?_ | refine wp_bif ?_ | refine wp_irs ?_ | refine wp_irs0 ?_ | refine wx_sts ?_ | refine wx_sts0 ?_ | refine wx_set ?_ | refine wx_ret ?_ | refine wx_setIx ?_ | refine wx_if ?_ | refine wp_and ?_ | refine wp_or ?_ | refine wp_not ?_ | refine wp_neg ?_ | refine wp_cmp ?_ | refine wp_call ?_ | refine wp_callK ?_ | refine wp_ite ?_ | refine wp_tup ?_ | refine wp_lst ?_ | refine wp_inst ?_ | refine wx_setT ?_ | refine wx_expr ?_ | refine wp_sl ?_ | refine wp_onon ?_ | refine wp_osome ?_ | refine wp_fz ?_ | refine wp_nil ?_ | refine wx_raise ?_ | refine wx_pass ?_ | refine ex_int ?_ | refine wp_slt ?_)
  refine wp_imp (same_refl K.same 4 _ (k + 8) _ _ (told_pl pD pB) (by omega)) ?_
  rintro d S6 ⟨rfl, rfl⟩
  refine ⟨_, rfl, _, rfl, fun z => Bool.noConfusion z, fun _ => ?_⟩
  repeat (first | ((with_reducible refine wp_vr ?_); refine ⟨_, rfl, ?_⟩) | with_reducible first | refine wp_cst ?_ | refine wp_bin ?_ | refine wp_ix ?_ | refine wp_add ?_ | refine wp_sub ?_ | refine wp_int ?_ | refine wp_bif ?_ | refine wp_irs ?_ | refine wp_irs0 ?_ | refine wx_sts ?_ | refine wx_sts0 ?_ | refine wx_set ?_ | refine wx_ret ?_ | refine wx_setIx ?_ | refine wx_if ?_ | refine wp_and ?_ | refine wp_or ?_ | refine wp_not ?_ | refine wp_neg ?_ | refine wp_cmp ?_ | refine wp_call ?_ | refine wp_callK ?_ | refine wp_ite ?_ | refine wp_tup ?_ | refine wp_lst ?_ | refine wp_inst ?_ | refine wx_setT ?_ | refine wx_expr ?_ | refine wp_sl ?_ | refine wp_onon ?_ | refine wp_osome ?_ | refine wp_fz ?_ | refine wp_nil ?_ | refine wx_raise ?_ | refine wx_pass ?_ | refine ex_int ?_ | refine wp_slt ?_)
  have ln : bifOf false S6 .len [P] = .ok (.int z) S6 := by
    show lift S6 ((lenOf S6 P).map D.int) = _
    rw [hPs2]
    rfl
  refine wp_eqk ln ?_
  repeat (first | ((with_reducible refine wp_vr ?_); refine ⟨_, rfl, ?_⟩) | with_reducible first | refine wp_cst ?_ | refine wp_bin ?_ | refine wp_ix ?_ | refine wp_add ?_ | refine wp_sub ?_ | refine wp_int ?_ | refine wp_bif ?_ | refine wp_irs ?_ | refine wp_irs0 ?_ | refine wx_sts ?_ | refine wx_sts0 ?_ | refine wx_set ?_ | refine wx_ret ?_ | refine wx_setIx ?_ | refine wx_if ?_ | refine wp_and ?_ | refine wp_or ?_ | refine wp_not ?_ | refine wp_neg ?_ | refine wp_cmp ?_ | refine wp_call ?_ | refine wp_callK ?_ | refine wp_ite ?_ | refine wp_tup ?_ | refine wp_lst ?_ | refine wp_inst ?_ | refine wx_setT ?_ | refine wx_expr ?_ | refine wp_sl ?_ | refine wp_onon ?_ | refine wp_osome ?_ | refine wp_fz ?_ | refine wp_nil ?_ | refine wx_raise ?_ | refine wx_pass ?_ | refine ex_int ?_ | refine wp_slt ?_)
  refine wp_imp (any_sd_ok K.dd K.anySd rfl hz hd.box (by omega)) ?_
  rintro d S7 ⟨⟨ss, rfl, hss⟩, hd7⟩
  repeat (first | ((with_reducible refine wp_vr ?_); refine ⟨_, rfl, ?_⟩) | with_reducible first | refine wp_cst ?_ | refine wp_bin ?_ | refine wp_ix ?_ | refine wp_add ?_ | refine wp_sub ?_ | refine wp_int ?_ | refine wp_bif ?_ | refine wp_irs ?_ | refine wp_irs0 ?_ | refine wx_sts ?_ | refine wx_sts0 ?_ | refine wx_set ?_ | refine wx_ret ?_ | refine wx_setIx ?_ | refine wx_if ?_ | refine wp_and ?_ | refine wp_or ?_ | refine wp_not ?_ | refine wp_neg ?_ | refine wp_cmp ?_ | refine wp_call ?_ | refine wp_callK ?_ | refine wp_ite ?_ | refine wp_tup ?_ | refine wp_lst ?_ | refine wp_inst ?_ | refine wx_setT ?_ | refine wx_expr ?_ | refine wp_sl ?_ | refine wp_onon ?_ | refine wp_osome ?_ | refine wp_fz ?_ | refine wp_nil ?_ | refine wx_raise ?_ | refine wx_pass ?_ | refine ex_int ?_ | refine wp_slt ?_)
  refine wp_imp (take_ok K.dd.take K.dd.nums hd7.box (by omega) ⟨by decide, by decide⟩) ?_
  rintro d S8 ⟨c, rfl, c1, c2, hd8⟩
  repeat (first | ((with_reducible refine wp_vr ?_); refine ⟨_, rfl, ?_⟩) | with_reducible first | refine wp_cst ?_ | refine wp_bin ?_ | refine wp_ix ?_ | refine wp_add ?_ | refine wp_sub ?_ | refine wp_int ?_ | refine wp_bif ?_ | refine wp_irs ?_ | refine wp_irs0 ?_ | refine wx_sts ?_ | refine wx_sts0 ?_ | refine wx_set ?_ | refine wx_ret ?_ | refine wx_setIx ?_ | refine wx_if ?_ | refine wp_and ?_ | refine wp_or ?_ | refine wp_not ?_ | refine wp_neg ?_ | refine wp_cmp ?_ | refine wp_call ?_ | refine wp_callK ?_ | refine wp_ite ?_ | refine wp_tup ?_ | refine wp_lst ?_ | refine wp_inst ?_ | refine wx_setT ?_ | refine wx_expr ?_ | refine wp_sl ?_ | refine wp_onon ?_ | refine wp_osome ?_ | refine wp_fz ?_ | refine wp_nil ?_ | refine wx_raise ?_ | refine wx_pass ?_ | refine ex_int ?_ | refine wp_slt ?_)
  refine ⟨two_lim, ⟨_, rfl, ?_⟩⟩
  have hq0 : (1 + c).toNat ≠ 0 := by omega
  have hqc : (((1 + c).toNat : Nat) : Int) = 1 + c := by omega
  repeat (first | ((with_reducible refine wp_vr ?_); refine ⟨_, rfl, ?_⟩) | with_reducible first | refine wp_cst ?_ | refine wp_bin ?_ | refine wp_ix ?_ | refine wp_add ?_ | refine wp_sub ?_ | refine wp_int ?_ | refine wp_bif ?_ | refine wp_irs ?_ | refine wp_irs0 ?_ | refine wx_sts ?_ | refine wx_sts0 ?_ | refine wx_set ?_ | refine wx_ret ?_ | refine wx_setIx ?_ | refine wx_if ?_ | refine wp_and ?_ | refine wp_or ?_ | refine wp_not ?_ | refine wp_neg ?_ | refine wp_cmp ?_ | refine wp_call ?_ | refine wp_callK ?_ | refine wp_ite ?_ | refine wp_tup ?_ | refine wp_lst ?_ | refine wp_inst ?_ | refine wx_setT ?_ | refine wx_expr ?_ | refine wp_sl ?_ | refine wp_onon ?_ | refine wp_osome ?_ | refine wp_fz ?_ | refine wp_nil ?_ | refine wx_raise ?_ | refine wx_pass ?_ | refine ex_int ?_ | refine wp_slt ?_)
  refine wp_map (f := fun d => match d with
    | .int i => .int ((1 + c) * i)
    | d => d) (d := .tup (ss.map D.int)) (by rw [IR.run]; rfl) rfl (by rw [List.length_map, hss.len]; unfold LIM; omega) ?_ ?_
  · intro x hx
    obtain ⟨i, hi, rfl⟩ := List.mem_map.mp hx
    repeat (first | ((with_reducible refine wp_vr ?_); refine ⟨_, rfl, ?_⟩) | with_reducible first | refine wp_cst ?_ | refine wp_bin ?_ | refine wp_ix ?_ | refine wp_add ?_ | refine wp_sub ?_ | refine wp_int ?_ | refine wp_bif ?_ | refine wp_irs ?_ | refine wp_irs0 ?_ | refine wx_sts ?_ | refine wx_sts0 ?_ | refine wx_set ?_ | refine wx_ret ?_ | refine wx_setIx ?_ | refine wx_if ?_ | refine wp_and ?_ | refine wp_or ?_ | refine wp_not ?_ | refine wp_neg ?_ | refine wp_cmp ?_ | refine wp_call ?_ | refine wp_callK ?_ | refine wp_ite ?_ | refine wp_tup ?_ | refine wp_lst ?_ | refine wp_inst ?_ | refine wx_setT ?_ | refine wx_expr ?_ | refine wp_sl ?_ | refine wp_onon ?_ | refine wp_osome ?_ | refine wp_fz ?_ | refine wp_nil ?_ | refine wx_raise ?_ | refine wx_pass ?_ | refine ex_int ?_ | refine wp_slt ?_)
    exact wp_mul (bits_of (k := 10) (l := 200) (by omega) (hss.lim i hi) (by decide)) ⟨rfl, rfl⟩
  have eN : (ss.map D.int).map (fun d => match d with
    | .int i => .int ((1 + c) * i)
    | d => d) = (ss.map fun i => (((1 + c).toNat : Nat) : Int) * i).map D.int := by
    rw [List.map_map, List.map_map, hqc]
    rfl
  rw [eN]
  repeat (first | ((with_reducible refine wp_vr ?_); refine ⟨_, rfl, ?_⟩) | with_reducible first | refine wp_cst ?_ | refine wp_bin ?_ | refine wp_ix ?_ | refine wp_add ?_ | refine wp_sub ?_ | refine wp_int ?_ | refine wp_bif ?_ | refine wp_irs ?_ | refine wp_irs0 ?_ | refine wx_sts ?_ | refine wx_sts0 ?_ | refine wx_set ?_ | refine wx_ret ?_ | refine wx_setIx ?_ | refine wx_if ?_ | refine wp_and ?_ | refine wp_or ?_ | refine wp_not ?_ | refine wp_neg ?_ | refine wp_cmp ?_ | refine wp_call ?_ | refine wp_callK ?_ | refine wp_ite ?_ | refine wp_tup ?_ | refine wp_lst ?_ | refine wp_inst ?_ | refine wx_setT ?_ | refine wx_expr ?_ | refine wp_sl ?_ | refine wp_onon ?_ | refine wp_osome ?_ | refine wp_fz ?_ | refine wp_nil ?_ | refine wx_raise ?_ | refine wx_pass ?_ | refine ex_int ?_ | refine wp_slt ?_)
  refine wp_eqk (a := .tup ((ss.map fun i => (((1 + c).toNat : Nat) : Int) * i).map D.int)) rfl ?_
  obtain ⟨l9, hl9, hl0⟩ := hss.nz
  have sl4 : ss.length = 3 ∨ ss.length = 4 := by rw [hss.len]; omega
  have asS : ∀ (S : Store) (u : Bool) (E : Exn → Store → Prop), Wp (fns G fs es (k + 9) "_law_asked" [.int 2, .tup (ss.map D.int), .bl u] S) (fun r S' => r = .lst [.str "told", .tup (ss.map D.int)] ∧ S' = S) E := fun S u E => asked_ok K.asked K.g (.inr (.inr ⟨rfl, rfl, rfl, rfl⟩)) ((hss.fine (by omega)).und _) (wp_imp (sdo_ok K.md (l := l9) sl4 (fun i hi => Nat.lt_trans (hss.lim i hi) (by decide)) (by rw [hss.len]; exact hl9) hl0) fun r S1 hr => by
      obtain ⟨rfl, rfl⟩ := hr
      rw [hss.cop]
      exact ⟨by rw [← divs_one]; rfl, rfl⟩)
  have asN : ∀ (S : Store) (u : Bool) (E : Exn → Store → Prop), Wp (fns G fs es (k + 9) "_law_asked" [.int 2, .tup ((ss.map fun i => (((1 + c).toNat : Nat) : Int) * i).map D.int), .bl u] S) (fun r S' => r = .lst [.str "told", .tup (ss.map D.int)] ∧ S' = S) E := fun S u E => asked_ok K.asked K.g (.inr (.inr ⟨rfl, rfl, rfl, rfl⟩)) ((hss.fine (by omega)).und _) (wp_imp (sdo_ok K.md (l := (((1 + c).toNat : Nat) : Int) * l9) (by rw [List.length_map]; exact sl4) (fun i hi => by
        obtain ⟨j, hj, rfl⟩ := List.mem_map.mp hi
        rw [Int.natAbs_mul]
        exact Nat.lt_trans (Nat.mul_lt_mul_of_lt_of_le (show (((1 + c).toNat : Nat) : Int).natAbs < 2 ^ 10 by omega) (Nat.le_of_lt (hss.lim j hj)) (Nat.two_pow_pos _)) (by decide)) (by
        rw [List.length_map, hss.len, ← List.map_take]
        exact List.mem_map.mpr ⟨l9, hl9, rfl⟩) (Int.mul_ne_zero (by omega) hl0)) fun r S1 hr => by
      obtain ⟨rfl, rfl⟩ := hr
      rw [divs_back hq0 hss.cop]
      exact ⟨rfl, rfl⟩)
  have pS := (hss.fine (by omega)).pl
  generalize D.tup (ss.map D.int) = sd at asS asN pS ⊢
  generalize D.tup ((ss.map fun i => (((1 + c).toNat : Nat) : Int) * i).map D.int) = nu at asN ⊢
  repeat (first | ((with_reducible refine wp_vr ?_); refine ⟨_, rfl, ?_⟩) | with_reducible first | refine wp_cst ?_ | refine wp_bin ?_ | refine wp_ix ?_ | refine wp_add ?_ | refine wp_sub ?_ | refine wp_int ?_ | refine wp_bif ?_ | refine wp_irs ?_ | refine wp_irs0 ?_ | refine wx_sts ?_ | refine wx_sts0 ?_ | refine wx_set ?_ | refine wx_ret ?_ | refine wx_setIx ?_ | refine wx_if ?_ | refine wp_and ?_ | refine wp_or ?_ | refine wp_not ?_ | refine wp_neg ?_ | refine wp_cmp ?_ | refine wp_call ?_ | refine wp_callK ?_ | refine wp_ite ?_ | refine wp_tup ?_ | refine wp_lst ?_ | refine wp_inst ?_ | refine wx_setT ?_ | refine wx_expr ?_ | refine wp_sl ?_ | refine wp_onon ?_ | refine wp_osome ?_ | refine wp_fz ?_ | refine wp_nil ?_ | refine wx_raise ?_ | refine wx_pass ?_ | refine ex_int ?_ | refine wp_slt ?_)
  refine wp_imp (asN _ _ _) ?_
  rintro d S9 ⟨rfl, rfl⟩
  repeat (first | ((with_reducible refine wp_vr ?_); refine ⟨_, rfl, ?_⟩) | with_reducible first | refine wp_cst ?_ | refine wp_bin ?_ | refine wp_ix ?_ | refine wp_add ?_ | refine wp_sub ?_ | refine wp_int ?_ | refine wp_bif ?_ | refine wp_irs ?_ | refine wp_irs0 ?_ | refine wx_sts ?_ | refine wx_sts0 ?_ | refine wx_set ?_ | refine wx_ret ?_ | refine wx_setIx ?_ | refine wx_if ?_ | refine wp_and ?_ | refine wp_or ?_ | refine wp_not ?_ | refine wp_neg ?_ | refine wp_cmp ?_ | refine wp_call ?_ | refine wp_callK ?_ | refine wp_ite ?_ | refine wp_tup ?_ | refine wp_lst ?_ | refine wp_inst ?_ | refine wx_setT ?_ | refine wx_expr ?_ | refine wp_sl ?_ | refine wp_onon ?_ | refine wp_osome ?_ | refine wp_fz ?_ | refine wp_nil ?_ | refine wx_raise ?_ | refine wx_pass ?_ | refine ex_int ?_ | refine wp_slt ?_)
  refine ⟨_, rfl, ?_⟩
  repeat (first | ((with_reducible refine wp_vr ?_); refine ⟨_, rfl, ?_⟩) | with_reducible first | refine wp_cst ?_ | refine wp_bin ?_ | refine wp_ix ?_ | refine wp_add ?_ | refine wp_sub ?_ | refine wp_int ?_ | refine wp_bif ?_ | refine wp_irs ?_ | refine wp_irs0 ?_ | refine wx_sts ?_ | refine wx_sts0 ?_ | refine wx_set ?_ | refine wx_ret ?_ | refine wx_setIx ?_ | refine wx_if ?_ | refine wp_and ?_ | refine wp_or ?_ | refine wp_not ?_ | refine wp_neg ?_ | refine wp_cmp ?_ | refine wp_call ?_ | refine wp_callK ?_ | refine wp_ite ?_ | refine wp_tup ?_ | refine wp_lst ?_ | refine wp_inst ?_ | refine wx_setT ?_ | refine wx_expr ?_ | refine wp_sl ?_ | refine wp_onon ?_ | refine wp_osome ?_ | refine wp_fz ?_ | refine wp_nil ?_ | refine wx_raise ?_ | refine wx_pass ?_ | refine ex_int ?_ | refine wp_slt ?_)
  refine wp_imp (asS _ _ _) ?_
  rintro d S10 ⟨rfl, rfl⟩
  repeat (first | ((with_reducible refine wp_vr ?_); refine ⟨_, rfl, ?_⟩) | with_reducible first | refine wp_cst ?_ | refine wp_bin ?_ | refine wp_ix ?_ | refine wp_add ?_ | refine wp_sub ?_ | refine wp_int ?_ | refine wp_bif ?_ | refine wp_irs ?_ | refine wp_irs0 ?_ | refine wx_sts ?_ | refine wx_sts0 ?_ | refine wx_set ?_ | refine wx_ret ?_ | refine wx_setIx ?_ | refine wx_if ?_ | refine wp_and ?_ | refine wp_or ?_ | refine wp_not ?_ | refine wp_neg ?_ | refine wp_cmp ?_ | refine wp_call ?_ | refine wp_callK ?_ | refine wp_ite ?_ | refine wp_tup ?_ | refine wp_lst ?_ | refine wp_inst ?_ | refine wx_setT ?_ | refine wx_expr ?_ | refine wp_sl ?_ | refine wp_onon ?_ | refine wp_osome ?_ | refine wp_fz ?_ | refine wp_nil ?_ | refine wx_raise ?_ | refine wx_pass ?_ | refine ex_int ?_ | refine wp_slt ?_)
  refine ⟨two_lim, ?_⟩
  repeat (first | ((with_reducible refine wp_vr ?_); refine ⟨_, rfl, ?_⟩) | with_reducible first | refine wp_cst ?_ | refine wp_bin ?_ | refine wp_ix ?_ | refine wp_add ?_ | refine wp_sub ?_ | refine wp_int ?_ | refine wp_bif ?_ | refine wp_irs ?_ | refine wp_irs0 ?_ | refine wx_sts ?_ | refine wx_sts0 ?_ | refine wx_set ?_ | refine wx_ret ?_ | refine wx_setIx ?_ | refine wx_if ?_ | refine wp_and ?_ | refine wp_or ?_ | refine wp_not ?_ | refine wp_neg ?_ | refine wp_cmp ?_ | refine wp_call ?_ | refine wp_callK ?_ | refine wp_ite ?_ | refine wp_tup ?_ | refine wp_lst ?_ | refine wp_inst ?_ | refine wx_setT ?_ | refine wx_expr ?_ | refine wp_sl ?_ | refine wp_onon ?_ | refine wp_osome ?_ | refine wp_fz ?_ | refine wp_nil ?_ | refine wx_raise ?_ | refine wx_pass ?_ | refine ex_int ?_ | refine wp_slt ?_)
  refine ⟨two_lim, ?_⟩
  repeat (first | ((with_reducible refine wp_vr ?_); refine ⟨_, rfl, ?_⟩) | with_reducible first | refine wp_cst ?_ | refine wp_bin ?_ | refine wp_ix ?_ | refine wp_add ?_ | refine wp_sub ?_ | refine wp_int ?_ | refine wp_bif ?_ | refine wp_irs ?_ | refine wp_irs0 ?_ | refine wx_sts ?_ | refine wx_sts0 ?_ | refine wx_set ?_ | refine wx_ret ?_ | refine wx_setIx ?_ | refine wx_if ?_ | refine wp_and ?_ | refine wp_or ?_ | refine wp_not ?_ | refine wp_neg ?_ | refine wp_cmp ?_ | refine wp_call ?_ | refine wp_callK ?_ | refine wp_ite ?_ | refine wp_tup ?_ | refine wp_lst ?_ | refine wp_inst ?_ | refine wx_setT ?_ | refine wx_expr ?_ | refine wp_sl ?_ | refine wp_onon ?_ | refine wp_osome ?_ | refine wp_fz ?_ | refine wp_nil ?_ | refine wx_raise ?_ | refine wx_pass ?_ | refine ex_int ?_ | refine wp_slt ?_)
  refine ⟨two_lim, ?_⟩
  repeat (first | ((with_reducible refine wp_vr ?_); refine ⟨_, rfl, ?_⟩) | with_reducible first | refine wp_cst ?_ | refine wp_bin ?_ | refine wp_ix ?_ | refine wp_add ?_ | refine wp_sub ?_ | refine wp_int ?_ | refine wp_bif ?_ | refine wp_irs ?_ | refine wp_irs0 ?_ | refine wx_sts ?_ | refine wx_sts0 ?_ | refine wx_set ?_ | refine wx_ret ?_ | refine wx_setIx ?_ | refine wx_if ?_ | refine wp_and ?_ | refine wp_or ?_ | refine wp_not ?_ | refine wp_neg ?_ | refine wp_cmp ?_ | refine wp_call ?_ | refine wp_callK ?_ | refine wp_ite ?_ | refine wp_tup ?_ | refine wp_lst ?_ | refine wp_inst ?_ | refine wx_setT ?_ | refine wx_expr ?_ | refine wp_sl ?_ | refine wp_onon ?_ | refine wp_osome ?_ | refine wp_fz ?_ | refine wp_nil ?_ | refine wx_raise ?_ | refine wx_pass ?_ | refine ex_int ?_ | refine wp_slt ?_)
  refine ⟨two_lim, ?_⟩
  repeat (first | ((with_reducible refine wp_vr ?_); refine ⟨_, rfl, ?_⟩) | with_reducible first | refine wp_cst ?_ | refine wp_bin ?_ | refine wp_ix ?_ | refine wp_add ?_ | refine wp_sub ?_ | refine wp_int ?_ | refine wp_bif ?_ | refine wp_irs ?_ | refine wp_irs0 ?_ | refine wx_sts ?_ | refine wx_sts0 ?_ | refine wx_set ?_ | refine wx_ret ?_ | refine wx_setIx ?_ | refine wx_if ?_ | refine wp_and ?_ | refine wp_or ?_ | refine wp_not ?_ | refine wp_neg ?_ | refine wp_cmp ?_ | refine wp_call ?_ | refine wp_callK ?_ | refine wp_ite ?_ | refine wp_tup ?_ | refine wp_lst ?_ | refine wp_inst ?_ | refine wx_setT ?_ | refine wx_expr ?_ | refine wp_sl ?_ | refine wp_onon ?_ | refine wp_osome ?_ | refine wp_fz ?_ | refine wp_nil ?_ | refine wx_raise ?_ | refine wx_pass ?_ | refine ex_int ?_ | refine wp_slt ?_)
  refine wp_imp (same_refl K.same 4 _ (k + 8) _ _ (told_pl pS pS) (by omega)) ?_
  rintro d S11 ⟨rfl, rfl⟩
  have hD := hd.trans (hd7.trans hd8)
  refine ⟨_, rfl, rfl, rfl, ?_⟩
  rw [hD.take rfl]
  exact hD.mono (by omega)
end
end Pv

/-! the law: refused right. -/
namespace Pv
open PySem
def turnB : STs := sts [.for (.name 10) (.rng1 (.cst (.int 6))) (sts [.set 11 false (.call "_law_copy" (irs [.ix (.var 9) (.call "_law_take" (irs [.var 0, .bif .len (irs [.var 9])]))])), .set 12 false (.call "_law_asked" (irs [.var 7, .var 11, .var 3])), .iff (.or (.cmp .ne (.ix (.var 12) (.cst (.int 0))) (.var 8)) (.not (.call "_law_blamed" (irs [.ix (.var 12) (.cst (.int 1)), .var 11])))) (sts [.ret false (.cst (.bl false))]) (sts []), .set 3 false (.not (.var 3))])]
def oddA : List IR := [.cst .non, .cst (.int 5), .tup (irs []), .sl (.var 1) .non (.some (.cst (.int 1))), .bin .add (.var 1) (.bin .mul (.sl (.var 1) .non (.some (.cst (.int 1)))) (.cst (.int 2))), .bif .list (irs [.var 1]), .cst (.str "places"), .dct [] .nil, .bin .add (.var 4) (.tup (irs [.tup (irs [.cst (.int 2), .cst (.int 4)])])), .bin .add (.var 4) (.tup (irs [.tup (irs [.cst (.int 1), .cst (.int 0)])])), .bin .add (.var 4) (.tup (irs [.tup (irs [.cst (.int 1), .neg (.cst (.int 2))])])), .bin .add (.var 4) (.tup (irs [.lst (irs [.cst (.int 1), .cst (.int 2)])])), .bin .add (.var 4) (.tup (irs [.tup (irs [.cst (.bl true), .cst (.int 1)])]))]
def oddB : List IR := [.bin .add (.var 4) (.tup (irs [.cst (.int 1)])), .bin .add (.var 4) (.tup (irs [.tup (irs [.cst (.int 1), .cst (.int 2), .cst (.int 3)])])), .bin .add (.var 4) (.tup (irs [.cst .non]))]
def wrongA : List IR := [.cst .non, .cst (.int 5), .tup (irs []), .sl (.var 2) .non (.some (.cst (.int 2))), .bin .add (.var 2) (.bin .mul (.tup (irs [.cst (.int 1)])) (.cst (.int 3))), .bif .list (irs [.var 2]), .cst (.str "numbers"), .dct [] .nil, .bin .mul (.tup (irs [.cst (.int 0)])) (.bif .len (irs [.var 2])), .bin .add (.bin .mul (.tup (irs [.cst (.int 0)])) (.bin .sub (.bif .len (irs [.var 2])) (.cst (.int 1)))) (.tup (irs [.cst (.int 4)])), .bin .add (.sl (.var 2) .non (.some (.neg (.cst (.int 1))))) (.tup (irs [.cst (.bl true)])), .bin .add (.sl (.var 2) .non (.some (.neg (.cst (.int 1))))) (.tup (irs [.cst .non]))]
def wrongB : List IR := [.bin .add (.sl (.var 2) .non (.some (.neg (.cst (.int 1))))) (.tup (irs [.cst (.str "1")])), .bin .add (.sl (.var 2) .non (.some (.neg (.cst (.int 1))))) (.tup (irs [.tup (irs [.cst (.int 1), .cst (.int 2)])]))]
def refB : STs := sts [.set 4 false (.sl (.var 1) .non (.some (.neg (.cst (.int 1))))), .set 5 false (.lst (irs oddA)), .set 5 false (.bin .add (.var 5) (.lst (irs oddB))), .set 6 false (.lst (irs wrongA)), .set 6 false (.bin .add (.var 6) (.lst (irs wrongB))), .for (.tup (tgs [.name 7, .name 8, .name 9])) (.it (.lst (irs [.tup (irs [.cst (.int 0), .cst (.str "places"), .var 5]), .tup (irs [.cst (.int 2), .cst (.str "numbers"), .var 6])]))) turnB, .ret false (.cst (.bl true))]
/-- no coordinates: so many, or one of them no fraction -/
theorem places_len {xs : List D} (h : xs.length ≠ 2 ∧ xs.length ≠ 3) : D.places (.tup xs) = false := by
  have h2 : (((xs.length : Int) == 2) || ((xs.length : Int) == 3)) = false := by
    simp
    omega
  show (_ && xs.all D.frac) = false
  rw [h2, Bool.false_and]
theorem places_last {xs : List D} {y : D} (h : y.frac = false) : D.places (.tup (xs ++ [y])) = false := by
  show (_ && (xs ++ [y]).all D.frac) = false
  have : (xs ++ [y]).all D.frac = false := by
    rw [List.all_append]
    show (xs.all D.frac && (y.frac && true)) = false
    rw [h, Bool.false_and, Bool.and_false]
  rw [this, Bool.and_false]
theorem sided_len {xs : List D} (h : xs.length ≠ 3 ∧ xs.length ≠ 4) : D.sided (.tup xs) = false := by
  have h2 : ∀ m : Int, (xs.length : Int) ≠ m → D.ints (.tup xs) m = false := fun m hm => by
    show ((xs.length : Int) == m && xs.all D.isInt) = false
    have : ((xs.length : Int) == m) = false := by simpa using hm
    rw [this, Bool.false_and]
  show ((D.ints (.tup xs) 3 || D.ints (.tup xs) 4) && _) = false
  rw [h2 3 (by omega), h2 4 (by omega)]
  rfl
theorem sided_last {xs : List D} {y : D} (h : y.isInt = false) : D.sided (.tup (xs ++ [y])) = false := by
  have h2 : ∀ m : Int, D.ints (.tup (xs ++ [y])) m = false := fun m => by
    show (_ && (xs ++ [y]).all D.isInt) = false
    have : (xs ++ [y]).all D.isInt = false := by
      rw [List.all_append]
      show (xs.all D.isInt && (y.isInt && true)) = false
      rw [h, Bool.false_and, Bool.and_false]
    rw [this, Bool.and_false]
  show ((D.ints _ 3 || D.ints _ 4) && _) = false
  rw [h2 3, h2 4]
  rfl
theorem zeros_eq {k : Nat} : (List.replicate k [D.int 0]).flatten = List.replicate k (D.int 0) := by
  induction k with
  | zero => rfl
  | succ k ih =>
    rw [List.replicate_succ, List.flatten_cons, ih]
    rfl
theorem sided_zeros {k : Nat} {xs : List D} (h : xs.take (xs.length - 1) = List.replicate k (D.int 0)) : D.sided (.tup xs) = false := by
  have h2 : (List.replicate k (D.int 0)).any D.nz = false := by
    induction k generalizing xs with
    | zero => rfl
    | succ k ih =>
      rw [List.replicate_succ]
      show (D.nz (.int 0) || (List.replicate k (D.int 0)).any D.nz) = false
      have : (List.replicate k (D.int 0)).any D.nz = false := by
        refine List.any_eq_false.mpr fun x hx => ?_
        rw [(List.mem_replicate.mp hx).2]
        decide
      rw [this]
      rfl
  show (_ && (xs.take (xs.length - 1)).any D.nz) = false
  rw [h, h2, Bool.and_false]
theorem ints_f1 {ns : List Int} (hl : ns.length ≤ 40) (h : ∀ n ∈ ns, small n) : D.f1 (.tup (ns.map D.int)) := ⟨by rw [List.length_map]; exact hl, fun x hx => by
  obtain ⟨n, hn, rfl⟩ := List.mem_map.mp hx
  exact h n hn⟩
theorem cut_to {α : Type} {xs : List α} {j : Nat} : (cutOf xs none (some (j : Int))).length = min j xs.length := by
  have h0 : HT.sIx xs.length 0 none = 0 := rfl
  have h1 : HT.sIx xs.length xs.length (some (j : Int)) = min j xs.length := by
    show (if (j : Int) < 0 then ((j : Int) + (xs.length : Int)).toNat else min (j : Int).toNat xs.length) = _
    rw [if_neg (by omega), Int.toNat_natCast]
  unfold cutOf
  rw [h0, h1, List.length_take, List.drop_zero]
  omega
section
variable {G : Sig} {fs : List Fn} {es : List Ec} {E : Exn → Store → Prop}
/-- what is asked of an odd value -/
def Odd (bad : D → Bool) (v : D) : Prop := Val v ∧ bad v = false
theorem odd_a {Γ : Fns} {b : Nat} {S : Store} {PL : List D} {x side by_ o5 o6 o7 o8 o9 o10 o11 o12 : Option D} (hT : Tq 3 PL) (hl : PL.length = 2 ∨ PL.length = 3) : Wp (IRs.runs G Γ b false (irs oddA) [x, some (.tup PL), side, by_, some (.tup (cutOf PL none (some (-1)))), o5, o6, o7, o8, o9, o10, o11, o12] S) (fun xs S' => (∀ x ∈ xs, Odd D.places x) ∧ xs.length = 13 ∧ S' = S) E := by
  unfold oddA
  have hG := hT.cut (l := none) (h := some (-1))
  generalize cutOf PL none (some (-1)) = GD at hG ⊢
  have h1 := cut_to (xs := PL) (j := 1)
  have h1T := hT.cut (l := none) (h := some 1)
  have gl : ∀ y : D, GD.length + [y].length ≤ LIM := fun y => by
    have := hG.len
    show _ + 1 ≤ LIM
    unfold LIM
    omega
  have pr : ∀ a c : D, D.f0 a → D.f0 c → D.f1 (.tup [a, c]) := fun a c ha hc => ⟨show 2 ≤ 40 by decide, fun y hy => by
    rcases List.mem_cons.mp hy with rfl | hy
    · exact ha
    · rcases List.mem_cons.mp hy with rfl | hy
      · exact hc
      · cases hy⟩
  refine wa_cons ?_ (wa_cons ?_ (wa_cons ?_ (wa_cons ?_ (wa_cons ?_ (wa_cons ?_ (wa_cons ?_ (wa_cons ?_ (wa_cons ?_ (wa_cons ?_ (wa_cons ?_ (wa_cons ?_ (wa_cons ?_ wa_nil))))))))))))
  · repeat (first | ((with_reducible refine wp_vr ?_); refine ⟨_, rfl, ?_⟩) | with_reducible first | refine wp_cst ?_ | refine wp_bin ?_ | refine wp_ix ?_ | refine wp_add ?_ | refine wp_sub ?_ | refine wp_int ?_ | refine wp_bif ?_ | refine wp_irs ?_ | refine wp_irs0 ?_ | refine wx_sts ?_ | refine wx_sts0 ?_ | refine wx_set ?_ | refine wx_ret ?_ | refine wx_setIx ?_ | refine wx_if ?_ | refine wp_and ?_ | refine wp_or ?_ | refine wp_not ?_ | refine wp_neg ?_ | refine wp_cmp ?_ | refine wp_call ?_ | refine wp_callK ?_ | refine wp_ite ?_ | refine wp_tup ?_ | refine wp_lst ?_ | refine wp_inst ?_ | refine wx_setT ?_ | refine wx_expr ?_ | refine wp_sl ?_ | refine wp_onon ?_ | refine wp_osome ?_ | refine wp_fz ?_ | refine wp_nil ?_ | refine wx_raise ?_ | refine wx_pass ?_ | refine ex_int ?_ | refine wp_slt ?_)
    exact ⟨⟨.inl trivial, rfl⟩, rfl⟩
  · repeat (first | ((with_reducible refine wp_vr ?_); refine ⟨_, rfl, ?_⟩) | with_reducible first | refine wp_cst ?_ | refine wp_bin ?_ | refine wp_ix ?_ | refine wp_add ?_ | refine wp_sub ?_ | refine wp_int ?_ | refine wp_bif ?_ | refine wp_irs ?_ | refine wp_irs0 ?_ | refine wx_sts ?_ | refine wx_sts0 ?_ | refine wx_set ?_ | refine wx_ret ?_ | refine wx_setIx ?_ | refine wx_if ?_ | refine wp_and ?_ | refine wp_or ?_ | refine wp_not ?_ | refine wp_neg ?_ | refine wp_cmp ?_ | refine wp_call ?_ | refine wp_callK ?_ | refine wp_ite ?_ | refine wp_tup ?_ | refine wp_lst ?_ | refine wp_inst ?_ | refine wx_setT ?_ | refine wx_expr ?_ | refine wp_sl ?_ | refine wp_onon ?_ | refine wp_osome ?_ | refine wp_fz ?_ | refine wp_nil ?_ | refine wx_raise ?_ | refine wx_pass ?_ | refine ex_int ?_ | refine wp_slt ?_)
    exact ⟨⟨.inl (show small 5 by decide), rfl⟩, rfl⟩
  · repeat (first | ((with_reducible refine wp_vr ?_); refine ⟨_, rfl, ?_⟩) | with_reducible first | refine wp_cst ?_ | refine wp_bin ?_ | refine wp_ix ?_ | refine wp_add ?_ | refine wp_sub ?_ | refine wp_int ?_ | refine wp_bif ?_ | refine wp_irs ?_ | refine wp_irs0 ?_ | refine wx_sts ?_ | refine wx_sts0 ?_ | refine wx_set ?_ | refine wx_ret ?_ | refine wx_setIx ?_ | refine wx_if ?_ | refine wp_and ?_ | refine wp_or ?_ | refine wp_not ?_ | refine wp_neg ?_ | refine wp_cmp ?_ | refine wp_call ?_ | refine wp_callK ?_ | refine wp_ite ?_ | refine wp_tup ?_ | refine wp_lst ?_ | refine wp_inst ?_ | refine wx_setT ?_ | refine wx_expr ?_ | refine wp_sl ?_ | refine wp_onon ?_ | refine wp_osome ?_ | refine wp_fz ?_ | refine wp_nil ?_ | refine wx_raise ?_ | refine wx_pass ?_ | refine ex_int ?_ | refine wp_slt ?_)
    exact ⟨by decide, ⟨val_tup ⟨by decide, fun _ h => by cases h⟩, rfl⟩, rfl⟩
  · repeat (first | ((with_reducible refine wp_vr ?_); refine ⟨_, rfl, ?_⟩) | with_reducible first | refine wp_cst ?_ | refine wp_bin ?_ | refine wp_ix ?_ | refine wp_add ?_ | refine wp_sub ?_ | refine wp_int ?_ | refine wp_bif ?_ | refine wp_irs ?_ | refine wp_irs0 ?_ | refine wx_sts ?_ | refine wx_sts0 ?_ | refine wx_set ?_ | refine wx_ret ?_ | refine wx_setIx ?_ | refine wx_if ?_ | refine wp_and ?_ | refine wp_or ?_ | refine wp_not ?_ | refine wp_neg ?_ | refine wp_cmp ?_ | refine wp_call ?_ | refine wp_callK ?_ | refine wp_ite ?_ | refine wp_tup ?_ | refine wp_lst ?_ | refine wp_inst ?_ | refine wx_setT ?_ | refine wx_expr ?_ | refine wp_sl ?_ | refine wp_onon ?_ | refine wp_osome ?_ | refine wp_fz ?_ | refine wp_nil ?_ | refine wx_raise ?_ | refine wx_pass ?_ | refine ex_int ?_ | refine wp_slt ?_)
    refine ⟨⟨h1T.val (by decide), places_len ?_⟩, rfl⟩
    have h1' : (cutOf PL none (some 1)).length = min 1 PL.length := h1
    omega
  · repeat (first | ((with_reducible refine wp_vr ?_); refine ⟨_, rfl, ?_⟩) | with_reducible first | refine wp_cst ?_ | refine wp_bin ?_ | refine wp_ix ?_ | refine wp_add ?_ | refine wp_sub ?_ | refine wp_int ?_ | refine wp_bif ?_ | refine wp_irs ?_ | refine wp_irs0 ?_ | refine wx_sts ?_ | refine wx_sts0 ?_ | refine wx_set ?_ | refine wx_ret ?_ | refine wx_setIx ?_ | refine wx_if ?_ | refine wp_and ?_ | refine wp_or ?_ | refine wp_not ?_ | refine wp_neg ?_ | refine wp_cmp ?_ | refine wp_call ?_ | refine wp_callK ?_ | refine wp_ite ?_ | refine wp_tup ?_ | refine wp_lst ?_ | refine wp_inst ?_ | refine wx_setT ?_ | refine wx_expr ?_ | refine wp_sl ?_ | refine wp_onon ?_ | refine wp_osome ?_ | refine wp_fz ?_ | refine wp_nil ?_ | refine wx_raise ?_ | refine wx_pass ?_ | refine ex_int ?_ | refine wp_slt ?_)
    have h1' : (cutOf PL none (some 1)).length = min 1 PL.length := h1
    have hfl : ∀ xs : List D, xs.length = 1 → (List.replicate (2 : Int).toNat xs).flatten = xs ++ xs := fun xs _ => by
      show (xs :: xs :: []).flatten = _
      simp
    refine wp_mult ⟨by decide, by decide, by omega, fun z => ?_⟩ ?_
    · rw [z] at h1'
      simp at h1'
      omega
    rw [hfl _ (by omega)]
    refine wp_addt (by rw [List.length_append]; unfold LIM; omega) ⟨⟨(hT.app (h1T.app h1T)).val (by decide), places_len ?_⟩, rfl⟩
    rw [List.length_append, List.length_append]
    omega
  · repeat (first | ((with_reducible refine wp_vr ?_); refine ⟨_, rfl, ?_⟩) | with_reducible first | refine wp_cst ?_ | refine wp_bin ?_ | refine wp_ix ?_ | refine wp_add ?_ | refine wp_sub ?_ | refine wp_int ?_ | refine wp_bif ?_ | refine wp_irs ?_ | refine wp_irs0 ?_ | refine wx_sts ?_ | refine wx_sts0 ?_ | refine wx_set ?_ | refine wx_ret ?_ | refine wx_setIx ?_ | refine wx_if ?_ | refine wp_and ?_ | refine wp_or ?_ | refine wp_not ?_ | refine wp_neg ?_ | refine wp_cmp ?_ | refine wp_call ?_ | refine wp_callK ?_ | refine wp_ite ?_ | refine wp_tup ?_ | refine wp_lst ?_ | refine wp_inst ?_ | refine wx_setT ?_ | refine wx_expr ?_ | refine wp_sl ?_ | refine wp_onon ?_ | refine wp_osome ?_ | refine wp_fz ?_ | refine wp_nil ?_ | refine wx_raise ?_ | refine wx_pass ?_ | refine ex_int ?_ | refine wp_slt ?_)
    exact wp_ok ⟨⟨hT.lval (by decide), rfl⟩, rfl⟩
  · repeat (first | ((with_reducible refine wp_vr ?_); refine ⟨_, rfl, ?_⟩) | with_reducible first | refine wp_cst ?_ | refine wp_bin ?_ | refine wp_ix ?_ | refine wp_add ?_ | refine wp_sub ?_ | refine wp_int ?_ | refine wp_bif ?_ | refine wp_irs ?_ | refine wp_irs0 ?_ | refine wx_sts ?_ | refine wx_sts0 ?_ | refine wx_set ?_ | refine wx_ret ?_ | refine wx_setIx ?_ | refine wx_if ?_ | refine wp_and ?_ | refine wp_or ?_ | refine wp_not ?_ | refine wp_neg ?_ | refine wp_cmp ?_ | refine wp_call ?_ | refine wp_callK ?_ | refine wp_ite ?_ | refine wp_tup ?_ | refine wp_lst ?_ | refine wp_inst ?_ | refine wx_setT ?_ | refine wx_expr ?_ | refine wp_sl ?_ | refine wp_onon ?_ | refine wp_osome ?_ | refine wp_fz ?_ | refine wp_nil ?_ | refine wx_raise ?_ | refine wx_pass ?_ | refine ex_int ?_ | refine wp_slt ?_)
    exact ⟨⟨.inl (show PyData.strOk "places" = true by decide +kernel), rfl⟩, rfl⟩
  · refine wp_dct ?_
    repeat (first | ((with_reducible refine wp_vr ?_); refine ⟨_, rfl, ?_⟩) | with_reducible first | refine wp_cst ?_ | refine wp_bin ?_ | refine wp_ix ?_ | refine wp_add ?_ | refine wp_sub ?_ | refine wp_int ?_ | refine wp_bif ?_ | refine wp_irs ?_ | refine wp_irs0 ?_ | refine wx_sts ?_ | refine wx_sts0 ?_ | refine wx_set ?_ | refine wx_ret ?_ | refine wx_setIx ?_ | refine wx_if ?_ | refine wp_and ?_ | refine wp_or ?_ | refine wp_not ?_ | refine wp_neg ?_ | refine wp_cmp ?_ | refine wp_call ?_ | refine wp_callK ?_ | refine wp_ite ?_ | refine wp_tup ?_ | refine wp_lst ?_ | refine wp_inst ?_ | refine wx_setT ?_ | refine wx_expr ?_ | refine wp_sl ?_ | refine wp_onon ?_ | refine wp_osome ?_ | refine wp_fz ?_ | refine wp_nil ?_ | refine wx_raise ?_ | refine wx_pass ?_ | refine ex_int ?_ | refine wp_slt ?_)
    exact ⟨⟨by decide, List.nodup_nil, rfl⟩, wp_fzd ⟨⟨.inr rfl, rfl⟩, rfl⟩⟩
  · repeat (first | ((with_reducible refine wp_vr ?_); refine ⟨_, rfl, ?_⟩) | with_reducible first | refine wp_cst ?_ | refine wp_bin ?_ | refine wp_ix ?_ | refine wp_add ?_ | refine wp_sub ?_ | refine wp_int ?_ | refine wp_bif ?_ | refine wp_irs ?_ | refine wp_irs0 ?_ | refine wx_sts ?_ | refine wx_sts0 ?_ | refine wx_set ?_ | refine wx_ret ?_ | refine wx_setIx ?_ | refine wx_if ?_ | refine wp_and ?_ | refine wp_or ?_ | refine wp_not ?_ | refine wp_neg ?_ | refine wp_cmp ?_ | refine wp_call ?_ | refine wp_callK ?_ | refine wp_ite ?_ | refine wp_tup ?_ | refine wp_lst ?_ | refine wp_inst ?_ | refine wx_setT ?_ | refine wx_expr ?_ | refine wp_sl ?_ | refine wp_onon ?_ | refine wp_osome ?_ | refine wp_fz ?_ | refine wp_nil ?_ | refine wx_raise ?_ | refine wx_pass ?_ | refine ex_int ?_ | refine wp_slt ?_)
    refine ⟨two_lim, ?_⟩
    repeat (first | ((with_reducible refine wp_vr ?_); refine ⟨_, rfl, ?_⟩) | with_reducible first | refine wp_cst ?_ | refine wp_bin ?_ | refine wp_ix ?_ | refine wp_add ?_ | refine wp_sub ?_ | refine wp_int ?_ | refine wp_bif ?_ | refine wp_irs ?_ | refine wp_irs0 ?_ | refine wx_sts ?_ | refine wx_sts0 ?_ | refine wx_set ?_ | refine wx_ret ?_ | refine wx_setIx ?_ | refine wx_if ?_ | refine wp_and ?_ | refine wp_or ?_ | refine wp_not ?_ | refine wp_neg ?_ | refine wp_cmp ?_ | refine wp_call ?_ | refine wp_callK ?_ | refine wp_ite ?_ | refine wp_tup ?_ | refine wp_lst ?_ | refine wp_inst ?_ | refine wx_setT ?_ | refine wx_expr ?_ | refine wp_sl ?_ | refine wp_onon ?_ | refine wp_osome ?_ | refine wp_fz ?_ | refine wp_nil ?_ | refine wx_raise ?_ | refine wx_pass ?_ | refine ex_int ?_ | refine wp_slt ?_)
    refine ⟨show 1 ≤ LIM by decide, ?_⟩
    exact wp_addt (gl _) ⟨⟨(hG.app (Tq.one (pr (.int 2) (.int 4) (show small 2 by decide) (show small 4 by decide)))).val (by decide), places_last (by decide +kernel)⟩, rfl⟩
  · repeat (first | ((with_reducible refine wp_vr ?_); refine ⟨_, rfl, ?_⟩) | with_reducible first | refine wp_cst ?_ | refine wp_bin ?_ | refine wp_ix ?_ | refine wp_add ?_ | refine wp_sub ?_ | refine wp_int ?_ | refine wp_bif ?_ | refine wp_irs ?_ | refine wp_irs0 ?_ | refine wx_sts ?_ | refine wx_sts0 ?_ | refine wx_set ?_ | refine wx_ret ?_ | refine wx_setIx ?_ | refine wx_if ?_ | refine wp_and ?_ | refine wp_or ?_ | refine wp_not ?_ | refine wp_neg ?_ | refine wp_cmp ?_ | refine wp_call ?_ | refine wp_callK ?_ | refine wp_ite ?_ | refine wp_tup ?_ | refine wp_lst ?_ | refine wp_inst ?_ | refine wx_setT ?_ | refine wx_expr ?_ | refine wp_sl ?_ | refine wp_onon ?_ | refine wp_osome ?_ | refine wp_fz ?_ | refine wp_nil ?_ | refine wx_raise ?_ | refine wx_pass ?_ | refine ex_int ?_ | refine wp_slt ?_)
    refine ⟨two_lim, ?_⟩
    repeat (first | ((with_reducible refine wp_vr ?_); refine ⟨_, rfl, ?_⟩) | with_reducible first | refine wp_cst ?_ | refine wp_bin ?_ | refine wp_ix ?_ | refine wp_add ?_ | refine wp_sub ?_ | refine wp_int ?_ | refine wp_bif ?_ | refine wp_irs ?_ | refine wp_irs0 ?_ | refine wx_sts ?_ | refine wx_sts0 ?_ | refine wx_set ?_ | refine wx_ret ?_ | refine wx_setIx ?_ | refine wx_if ?_ | refine wp_and ?_ | refine wp_or ?_ | refine wp_not ?_ | refine wp_neg ?_ | refine wp_cmp ?_ | refine wp_call ?_ | refine wp_callK ?_ | refine wp_ite ?_ | refine wp_tup ?_ | refine wp_lst ?_ | refine wp_inst ?_ | refine wx_setT ?_ | refine wx_expr ?_ | refine wp_sl ?_ | refine wp_onon ?_ | refine wp_osome ?_ | refine wp_fz ?_ | refine wp_nil ?_ | refine wx_raise ?_ | refine wx_pass ?_ | refine ex_int ?_ | refine wp_slt ?_)
    refine ⟨show 1 ≤ LIM by decide, ?_⟩
    exact wp_addt (gl _) ⟨⟨(hG.app (Tq.one (pr (.int 1) (.int 0) (show small 1 by decide) (show small 0 by decide)))).val (by decide), places_last (by decide +kernel)⟩, rfl⟩
  · repeat (first | ((with_reducible refine wp_vr ?_); refine ⟨_, rfl, ?_⟩) | with_reducible first | refine wp_cst ?_ | refine wp_bin ?_ | refine wp_ix ?_ | refine wp_add ?_ | refine wp_sub ?_ | refine wp_int ?_ | refine wp_bif ?_ | refine wp_irs ?_ | refine wp_irs0 ?_ | refine wx_sts ?_ | refine wx_sts0 ?_ | refine wx_set ?_ | refine wx_ret ?_ | refine wx_setIx ?_ | refine wx_if ?_ | refine wp_and ?_ | refine wp_or ?_ | refine wp_not ?_ | refine wp_neg ?_ | refine wp_cmp ?_ | refine wp_call ?_ | refine wp_callK ?_ | refine wp_ite ?_ | refine wp_tup ?_ | refine wp_lst ?_ | refine wp_inst ?_ | refine wx_setT ?_ | refine wx_expr ?_ | refine wp_sl ?_ | refine wp_onon ?_ | refine wp_osome ?_ | refine wp_fz ?_ | refine wp_nil ?_ | refine wx_raise ?_ | refine wx_pass ?_ | refine ex_int ?_ | refine wp_slt ?_)
    refine ⟨two_lim, ?_⟩
    repeat (first | ((with_reducible refine wp_vr ?_); refine ⟨_, rfl, ?_⟩) | with_reducible first | refine wp_cst ?_ | refine wp_bin ?_ | refine wp_ix ?_ | refine wp_add ?_ | refine wp_sub ?_ | refine wp_int ?_ | refine wp_bif ?_ | refine wp_irs ?_ | refine wp_irs0 ?_ | refine wx_sts ?_ | refine wx_sts0 ?_ | refine wx_set ?_ | refine wx_ret ?_ | refine wx_setIx ?_ | refine wx_if ?_ | refine wp_and ?_ | refine wp_or ?_ | refine wp_not ?_ | refine wp_neg ?_ | refine wp_cmp ?_ | refine wp_call ?_ | refine wp_callK ?_ | refine wp_ite ?_ | refine wp_tup ?_ | refine wp_lst ?_ | refine wp_inst ?_ | refine wx_setT ?_ | refine wx_expr ?_ | refine wp_sl ?_ | refine wp_onon ?_ | refine wp_osome ?_ | refine wp_fz ?_ | refine wp_nil ?_ | refine wx_raise ?_ | refine wx_pass ?_ | refine ex_int ?_ | refine wp_slt ?_)
    refine ⟨show 1 ≤ LIM by decide, ?_⟩
    exact wp_addt (gl _) ⟨⟨(hG.app (Tq.one (pr (.int 1) (.int (-2)) (show small 1 by decide) (show small (-2) by decide)))).val (by decide), places_last (by decide +kernel)⟩, rfl⟩
  · repeat (first | ((with_reducible refine wp_vr ?_); refine ⟨_, rfl, ?_⟩) | with_reducible first | refine wp_cst ?_ | refine wp_bin ?_ | refine wp_ix ?_ | refine wp_add ?_ | refine wp_sub ?_ | refine wp_int ?_ | refine wp_bif ?_ | refine wp_irs ?_ | refine wp_irs0 ?_ | refine wx_sts ?_ | refine wx_sts0 ?_ | refine wx_set ?_ | refine wx_ret ?_ | refine wx_setIx ?_ | refine wx_if ?_ | refine wp_and ?_ | refine wp_or ?_ | refine wp_not ?_ | refine wp_neg ?_ | refine wp_cmp ?_ | refine wp_call ?_ | refine wp_callK ?_ | refine wp_ite ?_ | refine wp_tup ?_ | refine wp_lst ?_ | refine wp_inst ?_ | refine wx_setT ?_ | refine wx_expr ?_ | refine wp_sl ?_ | refine wp_onon ?_ | refine wp_osome ?_ | refine wp_fz ?_ | refine wp_nil ?_ | refine wx_raise ?_ | refine wx_pass ?_ | refine ex_int ?_ | refine wp_slt ?_)
    refine ⟨two_lim, ?_⟩
    repeat (first | ((with_reducible refine wp_vr ?_); refine ⟨_, rfl, ?_⟩) | with_reducible first | refine wp_cst ?_ | refine wp_bin ?_ | refine wp_ix ?_ | refine wp_add ?_ | refine wp_sub ?_ | refine wp_int ?_ | refine wp_bif ?_ | refine wp_irs ?_ | refine wp_irs0 ?_ | refine wx_sts ?_ | refine wx_sts0 ?_ | refine wx_set ?_ | refine wx_ret ?_ | refine wx_setIx ?_ | refine wx_if ?_ | refine wp_and ?_ | refine wp_or ?_ | refine wp_not ?_ | refine wp_neg ?_ | refine wp_cmp ?_ | refine wp_call ?_ | refine wp_callK ?_ | refine wp_ite ?_ | refine wp_tup ?_ | refine wp_lst ?_ | refine wp_inst ?_ | refine wx_setT ?_ | refine wx_expr ?_ | refine wp_sl ?_ | refine wp_onon ?_ | refine wp_osome ?_ | refine wp_fz ?_ | refine wp_nil ?_ | refine wx_raise ?_ | refine wx_pass ?_ | refine ex_int ?_ | refine wp_slt ?_)
    refine ⟨show 1 ≤ LIM by decide, ?_⟩
    have f : D.f1 (.lst [.int 1, .int 2]) := pr (.int 1) (.int 2) (show small 1 by decide) (show small 2 by decide)
    exact wp_addt (gl _) ⟨⟨(hG.app (Tq.one f)).val (by decide), places_last rfl⟩, rfl⟩
  · repeat (first | ((with_reducible refine wp_vr ?_); refine ⟨_, rfl, ?_⟩) | with_reducible first | refine wp_cst ?_ | refine wp_bin ?_ | refine wp_ix ?_ | refine wp_add ?_ | refine wp_sub ?_ | refine wp_int ?_ | refine wp_bif ?_ | refine wp_irs ?_ | refine wp_irs0 ?_ | refine wx_sts ?_ | refine wx_sts0 ?_ | refine wx_set ?_ | refine wx_ret ?_ | refine wx_setIx ?_ | refine wx_if ?_ | refine wp_and ?_ | refine wp_or ?_ | refine wp_not ?_ | refine wp_neg ?_ | refine wp_cmp ?_ | refine wp_call ?_ | refine wp_callK ?_ | refine wp_ite ?_ | refine wp_tup ?_ | refine wp_lst ?_ | refine wp_inst ?_ | refine wx_setT ?_ | refine wx_expr ?_ | refine wp_sl ?_ | refine wp_onon ?_ | refine wp_osome ?_ | refine wp_fz ?_ | refine wp_nil ?_ | refine wx_raise ?_ | refine wx_pass ?_ | refine ex_int ?_ | refine wp_slt ?_)
    refine ⟨two_lim, ?_⟩
    repeat (first | ((with_reducible refine wp_vr ?_); refine ⟨_, rfl, ?_⟩) | with_reducible first | refine wp_cst ?_ | refine wp_bin ?_ | refine wp_ix ?_ | refine wp_add ?_ | refine wp_sub ?_ | refine wp_int ?_ | refine wp_bif ?_ | refine wp_irs ?_ | refine wp_irs0 ?_ | refine wx_sts ?_ | refine wx_sts0 ?_ | refine wx_set ?_ | refine wx_ret ?_ | refine wx_setIx ?_ | refine wx_if ?_ | refine wp_and ?_ | refine wp_or ?_ | refine wp_not ?_ | refine wp_neg ?_ | refine wp_cmp ?_ | refine wp_call ?_ | refine wp_callK ?_ | refine wp_ite ?_ | refine wp_tup ?_ | refine wp_lst ?_ | refine wp_inst ?_ | refine wx_setT ?_ | refine wx_expr ?_ | refine wp_sl ?_ | refine wp_onon ?_ | refine wp_osome ?_ | refine wp_fz ?_ | refine wp_nil ?_ | refine wx_raise ?_ | refine wx_pass ?_ | refine ex_int ?_ | refine wp_slt ?_)
    refine ⟨show 1 ≤ LIM by decide, ?_⟩
    exact wp_addt (gl _) ⟨⟨(hG.app (Tq.one (pr (.bl true) (.int 1) trivial (show small 1 by decide)))).val (by decide), places_last rfl⟩, rfl⟩
theorem odd_b {Γ : Fns} {b : Nat} {S : Store} {GD : List D} {x pl side by_ o5 o6 o7 o8 o9 o10 o11 o12 : Option D} (hG : Tq 3 GD) : Wp (IRs.runs G Γ b false (irs oddB) [x, pl, side, by_, some (.tup GD), o5, o6, o7, o8, o9, o10, o11, o12] S) (fun xs S' => (∀ x ∈ xs, Odd D.places x) ∧ xs.length = 3 ∧ S' = S) E := by
  unfold oddB
  have gl : ∀ y : D, GD.length + [y].length ≤ LIM := fun y => by
    have := hG.len
    show _ + 1 ≤ LIM
    unfold LIM
    omega
  refine wa_cons ?_ (wa_cons ?_ (wa_cons ?_ wa_nil))
  · repeat (first | ((with_reducible refine wp_vr ?_); refine ⟨_, rfl, ?_⟩) | with_reducible first | refine wp_cst ?_ | refine wp_bin ?_ | refine wp_ix ?_ | refine wp_add ?_ | refine wp_sub ?_ | refine wp_int ?_ | refine wp_bif ?_ | refine wp_irs ?_ | refine wp_irs0 ?_ | refine wx_sts ?_ | refine wx_sts0 ?_ | refine wx_set ?_ | refine wx_ret ?_ | refine wx_setIx ?_ | refine wx_if ?_ | refine wp_and ?_ | refine wp_or ?_ | refine wp_not ?_ | refine wp_neg ?_ | refine wp_cmp ?_ | refine wp_call ?_ | refine wp_callK ?_ | refine wp_ite ?_ | refine wp_tup ?_ | refine wp_lst ?_ | refine wp_inst ?_ | refine wx_setT ?_ | refine wx_expr ?_ | refine wp_sl ?_ | refine wp_onon ?_ | refine wp_osome ?_ | refine wp_fz ?_ | refine wp_nil ?_ | refine wx_raise ?_ | refine wx_pass ?_ | refine ex_int ?_ | refine wp_slt ?_)
    refine ⟨show 1 ≤ LIM by decide, ?_⟩
    exact wp_addt (gl _) ⟨⟨(hG.app (Tq.int (show small 1 by decide))).val (by decide), places_last rfl⟩, rfl⟩
  · repeat (first | ((with_reducible refine wp_vr ?_); refine ⟨_, rfl, ?_⟩) | with_reducible first | refine wp_cst ?_ | refine wp_bin ?_ | refine wp_ix ?_ | refine wp_add ?_ | refine wp_sub ?_ | refine wp_int ?_ | refine wp_bif ?_ | refine wp_irs ?_ | refine wp_irs0 ?_ | refine wx_sts ?_ | refine wx_sts0 ?_ | refine wx_set ?_ | refine wx_ret ?_ | refine wx_setIx ?_ | refine wx_if ?_ | refine wp_and ?_ | refine wp_or ?_ | refine wp_not ?_ | refine wp_neg ?_ | refine wp_cmp ?_ | refine wp_call ?_ | refine wp_callK ?_ | refine wp_ite ?_ | refine wp_tup ?_ | refine wp_lst ?_ | refine wp_inst ?_ | refine wx_setT ?_ | refine wx_expr ?_ | refine wp_sl ?_ | refine wp_onon ?_ | refine wp_osome ?_ | refine wp_fz ?_ | refine wp_nil ?_ | refine wx_raise ?_ | refine wx_pass ?_ | refine ex_int ?_ | refine wp_slt ?_)
    refine ⟨by decide, ?_⟩
    repeat (first | ((with_reducible refine wp_vr ?_); refine ⟨_, rfl, ?_⟩) | with_reducible first | refine wp_cst ?_ | refine wp_bin ?_ | refine wp_ix ?_ | refine wp_add ?_ | refine wp_sub ?_ | refine wp_int ?_ | refine wp_bif ?_ | refine wp_irs ?_ | refine wp_irs0 ?_ | refine wx_sts ?_ | refine wx_sts0 ?_ | refine wx_set ?_ | refine wx_ret ?_ | refine wx_setIx ?_ | refine wx_if ?_ | refine wp_and ?_ | refine wp_or ?_ | refine wp_not ?_ | refine wp_neg ?_ | refine wp_cmp ?_ | refine wp_call ?_ | refine wp_callK ?_ | refine wp_ite ?_ | refine wp_tup ?_ | refine wp_lst ?_ | refine wp_inst ?_ | refine wx_setT ?_ | refine wx_expr ?_ | refine wp_sl ?_ | refine wp_onon ?_ | refine wp_osome ?_ | refine wp_fz ?_ | refine wp_nil ?_ | refine wx_raise ?_ | refine wx_pass ?_ | refine ex_int ?_ | refine wp_slt ?_)
    refine ⟨show 1 ≤ LIM by decide, ?_⟩
    have f : D.f1 (.tup [.int 1, .int 2, .int 3]) := ints_f1 (ns := [1, 2, 3]) (by decide) (by decide)
    exact wp_addt (gl _) ⟨⟨(hG.app (Tq.one f)).val (by decide), places_last rfl⟩, rfl⟩
  · repeat (first | ((with_reducible refine wp_vr ?_); refine ⟨_, rfl, ?_⟩) | with_reducible first | refine wp_cst ?_ | refine wp_bin ?_ | refine wp_ix ?_ | refine wp_add ?_ | refine wp_sub ?_ | refine wp_int ?_ | refine wp_bif ?_ | refine wp_irs ?_ | refine wp_irs0 ?_ | refine wx_sts ?_ | refine wx_sts0 ?_ | refine wx_set ?_ | refine wx_ret ?_ | refine wx_setIx ?_ | refine wx_if ?_ | refine wp_and ?_ | refine wp_or ?_ | refine wp_not ?_ | refine wp_neg ?_ | refine wp_cmp ?_ | refine wp_call ?_ | refine wp_callK ?_ | refine wp_ite ?_ | refine wp_tup ?_ | refine wp_lst ?_ | refine wp_inst ?_ | refine wx_setT ?_ | refine wx_expr ?_ | refine wp_sl ?_ | refine wp_onon ?_ | refine wp_osome ?_ | refine wp_fz ?_ | refine wp_nil ?_ | refine wx_raise ?_ | refine wx_pass ?_ | refine ex_int ?_ | refine wp_slt ?_)
    refine ⟨show 1 ≤ LIM by decide, ?_⟩
    exact wp_addt (gl _) ⟨⟨(hG.app (Tq.one (x := .non) trivial)).val (by decide), places_last rfl⟩, rfl⟩
theorem wrong_a {Γ : Fns} {b : Nat} {S : Store} {SD : List D} {x pl by_ o4 o5 o6 o7 o8 o9 o10 o11 o12 : Option D} (hT : Tq 4 SD) (hl : SD.length = 3 ∨ SD.length = 4) : Wp (IRs.runs G Γ b false (irs wrongA) [x, pl, some (.tup SD), by_, o4, o5, o6, o7, o8, o9, o10, o11, o12] S) (fun xs S' => (∀ x ∈ xs, Odd D.sided x) ∧ xs.length = 12 ∧ S' = S) E := by
  unfold wrongA
  have hG := hT.cut (l := none) (h := some (-1))
  have h1 : (cutOf SD none (some 2)).length = min 2 SD.length := cut_to (xs := SD) (j := 2)
  have h1T := hT.cut (l := none) (h := some 2)
  have gl : ∀ y : D, (cutOf SD none (some (-1))).length + [y].length ≤ LIM := fun y => by
    have := hG.len
    show _ + 1 ≤ LIM
    unfold LIM
    omega
  refine wa_cons ?_ (wa_cons ?_ (wa_cons ?_ (wa_cons ?_ (wa_cons ?_ (wa_cons ?_ (wa_cons ?_ (wa_cons ?_ (wa_cons ?_ (wa_cons ?_ (wa_cons ?_ (wa_cons ?_ wa_nil)))))))))))
  · repeat (first | ((with_reducible refine wp_vr ?_); refine ⟨_, rfl, ?_⟩) | with_reducible first | refine wp_cst ?_ | refine wp_bin ?_ | refine wp_ix ?_ | refine wp_add ?_ | refine wp_sub ?_ | refine wp_int ?_ | refine wp_bif ?_ | refine wp_irs ?_ | refine wp_irs0 ?_ | refine wx_sts ?_ | refine wx_sts0 ?_ | refine wx_set ?_ | refine wx_ret ?_ | refine wx_setIx ?_ | refine wx_if ?_ | refine wp_and ?_ | refine wp_or ?_ | refine wp_not ?_ | refine wp_neg ?_ | refine wp_cmp ?_ | refine wp_call ?_ | refine wp_callK ?_ | refine wp_ite ?_ | refine wp_tup ?_ | refine wp_lst ?_ | refine wp_inst ?_ | refine wx_setT ?_ | refine wx_expr ?_ | refine wp_sl ?_ | refine wp_onon ?_ | refine wp_osome ?_ | refine wp_fz ?_ | refine wp_nil ?_ | refine wx_raise ?_ | refine wx_pass ?_ | refine ex_int ?_ | refine wp_slt ?_)
    exact ⟨⟨.inl trivial, rfl⟩, rfl⟩
  · repeat (first | ((with_reducible refine wp_vr ?_); refine ⟨_, rfl, ?_⟩) | with_reducible first | refine wp_cst ?_ | refine wp_bin ?_ | refine wp_ix ?_ | refine wp_add ?_ | refine wp_sub ?_ | refine wp_int ?_ | refine wp_bif ?_ | refine wp_irs ?_ | refine wp_irs0 ?_ | refine wx_sts ?_ | refine wx_sts0 ?_ | refine wx_set ?_ | refine wx_ret ?_ | refine wx_setIx ?_ | refine wx_if ?_ | refine wp_and ?_ | refine wp_or ?_ | refine wp_not ?_ | refine wp_neg ?_ | refine wp_cmp ?_ | refine wp_call ?_ | refine wp_callK ?_ | refine wp_ite ?_ | refine wp_tup ?_ | refine wp_lst ?_ | refine wp_inst ?_ | refine wx_setT ?_ | refine wx_expr ?_ | refine wp_sl ?_ | refine wp_onon ?_ | refine wp_osome ?_ | refine wp_fz ?_ | refine wp_nil ?_ | refine wx_raise ?_ | refine wx_pass ?_ | refine ex_int ?_ | refine wp_slt ?_)
    exact ⟨⟨.inl (show small 5 by decide), rfl⟩, rfl⟩
  · repeat (first | ((with_reducible refine wp_vr ?_); refine ⟨_, rfl, ?_⟩) | with_reducible first | refine wp_cst ?_ | refine wp_bin ?_ | refine wp_ix ?_ | refine wp_add ?_ | refine wp_sub ?_ | refine wp_int ?_ | refine wp_bif ?_ | refine wp_irs ?_ | refine wp_irs0 ?_ | refine wx_sts ?_ | refine wx_sts0 ?_ | refine wx_set ?_ | refine wx_ret ?_ | refine wx_setIx ?_ | refine wx_if ?_ | refine wp_and ?_ | refine wp_or ?_ | refine wp_not ?_ | refine wp_neg ?_ | refine wp_cmp ?_ | refine wp_call ?_ | refine wp_callK ?_ | refine wp_ite ?_ | refine wp_tup ?_ | refine wp_lst ?_ | refine wp_inst ?_ | refine wx_setT ?_ | refine wx_expr ?_ | refine wp_sl ?_ | refine wp_onon ?_ | refine wp_osome ?_ | refine wp_fz ?_ | refine wp_nil ?_ | refine wx_raise ?_ | refine wx_pass ?_ | refine ex_int ?_ | refine wp_slt ?_)
    exact ⟨by decide, ⟨val_tup ⟨by decide, fun _ h => by cases h⟩, rfl⟩, rfl⟩
  · repeat (first | ((with_reducible refine wp_vr ?_); refine ⟨_, rfl, ?_⟩) | with_reducible first | refine wp_cst ?_ | refine wp_bin ?_ | refine wp_ix ?_ | refine wp_add ?_ | refine wp_sub ?_ | refine wp_int ?_ | refine wp_bif ?_ | refine wp_irs ?_ | refine wp_irs0 ?_ | refine wx_sts ?_ | refine wx_sts0 ?_ | refine wx_set ?_ | refine wx_ret ?_ | refine wx_setIx ?_ | refine wx_if ?_ | refine wp_and ?_ | refine wp_or ?_ | refine wp_not ?_ | refine wp_neg ?_ | refine wp_cmp ?_ | refine wp_call ?_ | refine wp_callK ?_ | refine wp_ite ?_ | refine wp_tup ?_ | refine wp_lst ?_ | refine wp_inst ?_ | refine wx_setT ?_ | refine wx_expr ?_ | refine wp_sl ?_ | refine wp_onon ?_ | refine wp_osome ?_ | refine wp_fz ?_ | refine wp_nil ?_ | refine wx_raise ?_ | refine wx_pass ?_ | refine ex_int ?_ | refine wp_slt ?_)
    exact ⟨⟨h1T.val (by decide), sided_len (by omega)⟩, rfl⟩
  · repeat (first | ((with_reducible refine wp_vr ?_); refine ⟨_, rfl, ?_⟩) | with_reducible first | refine wp_cst ?_ | refine wp_bin ?_ | refine wp_ix ?_ | refine wp_add ?_ | refine wp_sub ?_ | refine wp_int ?_ | refine wp_bif ?_ | refine wp_irs ?_ | refine wp_irs0 ?_ | refine wx_sts ?_ | refine wx_sts0 ?_ | refine wx_set ?_ | refine wx_ret ?_ | refine wx_setIx ?_ | refine wx_if ?_ | refine wp_and ?_ | refine wp_or ?_ | refine wp_not ?_ | refine wp_neg ?_ | refine wp_cmp ?_ | refine wp_call ?_ | refine wp_callK ?_ | refine wp_ite ?_ | refine wp_tup ?_ | refine wp_lst ?_ | refine wp_inst ?_ | refine wx_setT ?_ | refine wx_expr ?_ | refine wp_sl ?_ | refine wp_onon ?_ | refine wp_osome ?_ | refine wp_fz ?_ | refine wp_nil ?_ | refine wx_raise ?_ | refine wx_pass ?_ | refine ex_int ?_ | refine wp_slt ?_)
    refine ⟨show 1 ≤ LIM by decide, ?_⟩
    repeat (first | ((with_reducible refine wp_vr ?_); refine ⟨_, rfl, ?_⟩) | with_reducible first | refine wp_cst ?_ | refine wp_bin ?_ | refine wp_ix ?_ | refine wp_add ?_ | refine wp_sub ?_ | refine wp_int ?_ | refine wp_bif ?_ | refine wp_irs ?_ | refine wp_irs0 ?_ | refine wx_sts ?_ | refine wx_sts0 ?_ | refine wx_set ?_ | refine wx_ret ?_ | refine wx_setIx ?_ | refine wx_if ?_ | refine wp_and ?_ | refine wp_or ?_ | refine wp_not ?_ | refine wp_neg ?_ | refine wp_cmp ?_ | refine wp_call ?_ | refine wp_callK ?_ | refine wp_ite ?_ | refine wp_tup ?_ | refine wp_lst ?_ | refine wp_inst ?_ | refine wx_setT ?_ | refine wx_expr ?_ | refine wp_sl ?_ | refine wp_onon ?_ | refine wp_osome ?_ | refine wp_fz ?_ | refine wp_nil ?_ | refine wx_raise ?_ | refine wx_pass ?_ | refine ex_int ?_ | refine wp_slt ?_)
    refine wp_mult ⟨by decide, by decide, by decide, by decide⟩ ?_
    have h3 : Tq 3 [D.int 1, .int 1, .int 1] := Tq.ints (ns := [1, 1, 1]) (q := 3) (by decide) (by decide)
    show Wp (binOf false S .add (.tup SD) (.tup [D.int 1, .int 1, .int 1])) _ _
    refine wp_addt (by show _ + 3 ≤ LIM; unfold LIM; omega) ⟨⟨(hT.app h3).val (by decide), sided_len ?_⟩, rfl⟩
    rw [List.length_append]
    show SD.length + 3 ≠ 3 ∧ SD.length + 3 ≠ 4
    omega
  · repeat (first | ((with_reducible refine wp_vr ?_); refine ⟨_, rfl, ?_⟩) | with_reducible first | refine wp_cst ?_ | refine wp_bin ?_ | refine wp_ix ?_ | refine wp_add ?_ | refine wp_sub ?_ | refine wp_int ?_ | refine wp_bif ?_ | refine wp_irs ?_ | refine wp_irs0 ?_ | refine wx_sts ?_ | refine wx_sts0 ?_ | refine wx_set ?_ | refine wx_ret ?_ | refine wx_setIx ?_ | refine wx_if ?_ | refine wp_and ?_ | refine wp_or ?_ | refine wp_not ?_ | refine wp_neg ?_ | refine wp_cmp ?_ | refine wp_call ?_ | refine wp_callK ?_ | refine wp_ite ?_ | refine wp_tup ?_ | refine wp_lst ?_ | refine wp_inst ?_ | refine wx_setT ?_ | refine wx_expr ?_ | refine wp_sl ?_ | refine wp_onon ?_ | refine wp_osome ?_ | refine wp_fz ?_ | refine wp_nil ?_ | refine wx_raise ?_ | refine wx_pass ?_ | refine ex_int ?_ | refine wp_slt ?_)
    exact wp_ok ⟨⟨hT.lval (by decide), rfl⟩, rfl⟩
  · repeat (first | ((with_reducible refine wp_vr ?_); refine ⟨_, rfl, ?_⟩) | with_reducible first | refine wp_cst ?_ | refine wp_bin ?_ | refine wp_ix ?_ | refine wp_add ?_ | refine wp_sub ?_ | refine wp_int ?_ | refine wp_bif ?_ | refine wp_irs ?_ | refine wp_irs0 ?_ | refine wx_sts ?_ | refine wx_sts0 ?_ | refine wx_set ?_ | refine wx_ret ?_ | refine wx_setIx ?_ | refine wx_if ?_ | refine wp_and ?_ | refine wp_or ?_ | refine wp_not ?_ | refine wp_neg ?_ | refine wp_cmp ?_ | refine wp_call ?_ | refine wp_callK ?_ | refine wp_ite ?_ | refine wp_tup ?_ | refine wp_lst ?_ | refine wp_inst ?_ | refine wx_setT ?_ | refine wx_expr ?_ | refine wp_sl ?_ | refine wp_onon ?_ | refine wp_osome ?_ | refine wp_fz ?_ | refine wp_nil ?_ | refine wx_raise ?_ | refine wx_pass ?_ | refine ex_int ?_ | refine wp_slt ?_)
    exact ⟨⟨.inl (show PyData.strOk "numbers" = true by decide +kernel), rfl⟩, rfl⟩
  · refine wp_dct ?_
    repeat (first | ((with_reducible refine wp_vr ?_); refine ⟨_, rfl, ?_⟩) | with_reducible first | refine wp_cst ?_ | refine wp_bin ?_ | refine wp_ix ?_ | refine wp_add ?_ | refine wp_sub ?_ | refine wp_int ?_ | refine wp_bif ?_ | refine wp_irs ?_ | refine wp_irs0 ?_ | refine wx_sts ?_ | refine wx_sts0 ?_ | refine wx_set ?_ | refine wx_ret ?_ | refine wx_setIx ?_ | refine wx_if ?_ | refine wp_and ?_ | refine wp_or ?_ | refine wp_not ?_ | refine wp_neg ?_ | refine wp_cmp ?_ | refine wp_call ?_ | refine wp_callK ?_ | refine wp_ite ?_ | refine wp_tup ?_ | refine wp_lst ?_ | refine wp_inst ?_ | refine wx_setT ?_ | refine wx_expr ?_ | refine wp_sl ?_ | refine wp_onon ?_ | refine wp_osome ?_ | refine wp_fz ?_ | refine wp_nil ?_ | refine wx_raise ?_ | refine wx_pass ?_ | refine ex_int ?_ | refine wp_slt ?_)
    exact ⟨⟨by decide, List.nodup_nil, rfl⟩, wp_fzd ⟨⟨.inr rfl, rfl⟩, rfl⟩⟩
  · repeat (first | ((with_reducible refine wp_vr ?_); refine ⟨_, rfl, ?_⟩) | with_reducible first | refine wp_cst ?_ | refine wp_bin ?_ | refine wp_ix ?_ | refine wp_add ?_ | refine wp_sub ?_ | refine wp_int ?_ | refine wp_bif ?_ | refine wp_irs ?_ | refine wp_irs0 ?_ | refine wx_sts ?_ | refine wx_sts0 ?_ | refine wx_set ?_ | refine wx_ret ?_ | refine wx_setIx ?_ | refine wx_if ?_ | refine wp_and ?_ | refine wp_or ?_ | refine wp_not ?_ | refine wp_neg ?_ | refine wp_cmp ?_ | refine wp_call ?_ | refine wp_callK ?_ | refine wp_ite ?_ | refine wp_tup ?_ | refine wp_lst ?_ | refine wp_inst ?_ | refine wx_setT ?_ | refine wx_expr ?_ | refine wp_sl ?_ | refine wp_onon ?_ | refine wp_osome ?_ | refine wp_fz ?_ | refine wp_nil ?_ | refine wx_raise ?_ | refine wx_pass ?_ | refine ex_int ?_ | refine wp_slt ?_)
    refine ⟨show 1 ≤ LIM by decide, ?_⟩
    repeat (first | ((with_reducible refine wp_vr ?_); refine ⟨_, rfl, ?_⟩) | with_reducible first | refine wp_cst ?_ | refine wp_bin ?_ | refine wp_ix ?_ | refine wp_add ?_ | refine wp_sub ?_ | refine wp_int ?_ | refine wp_bif ?_ | refine wp_irs ?_ | refine wp_irs0 ?_ | refine wx_sts ?_ | refine wx_sts0 ?_ | refine wx_set ?_ | refine wx_ret ?_ | refine wx_setIx ?_ | refine wx_if ?_ | refine wp_and ?_ | refine wp_or ?_ | refine wp_not ?_ | refine wp_neg ?_ | refine wp_cmp ?_ | refine wp_call ?_ | refine wp_callK ?_ | refine wp_ite ?_ | refine wp_tup ?_ | refine wp_lst ?_ | refine wp_inst ?_ | refine wx_setT ?_ | refine wx_expr ?_ | refine wp_sl ?_ | refine wp_onon ?_ | refine wp_osome ?_ | refine wp_fz ?_ | refine wp_nil ?_ | refine wx_raise ?_ | refine wx_pass ?_ | refine ex_int ?_ | refine wp_slt ?_)
    refine wp_some rfl ?_
    refine wp_mult ⟨by omega, by omega, by decide, by decide⟩ ⟨⟨Tq.zeros.val (by omega), ?_⟩, rfl⟩
    rw [zeros_eq]
    refine sided_zeros (k := ((SD.length : Nat) : Int).toNat - 1) ?_
    rw [List.take_replicate, List.length_replicate]
    congr 1
    omega
  · repeat (first | ((with_reducible refine wp_vr ?_); refine ⟨_, rfl, ?_⟩) | with_reducible first | refine wp_cst ?_ | refine wp_bin ?_ | refine wp_ix ?_ | refine wp_add ?_ | refine wp_sub ?_ | refine wp_int ?_ | refine wp_bif ?_ | refine wp_irs ?_ | refine wp_irs0 ?_ | refine wx_sts ?_ | refine wx_sts0 ?_ | refine wx_set ?_ | refine wx_ret ?_ | refine wx_setIx ?_ | refine wx_if ?_ | refine wp_and ?_ | refine wp_or ?_ | refine wp_not ?_ | refine wp_neg ?_ | refine wp_cmp ?_ | refine wp_call ?_ | refine wp_callK ?_ | refine wp_ite ?_ | refine wp_tup ?_ | refine wp_lst ?_ | refine wp_inst ?_ | refine wx_setT ?_ | refine wx_expr ?_ | refine wp_sl ?_ | refine wp_onon ?_ | refine wp_osome ?_ | refine wp_fz ?_ | refine wp_nil ?_ | refine wx_raise ?_ | refine wx_pass ?_ | refine ex_int ?_ | refine wp_slt ?_)
    refine ⟨show 1 ≤ LIM by decide, ?_⟩
    repeat (first | ((with_reducible refine wp_vr ?_); refine ⟨_, rfl, ?_⟩) | with_reducible first | refine wp_cst ?_ | refine wp_bin ?_ | refine wp_ix ?_ | refine wp_add ?_ | refine wp_sub ?_ | refine wp_int ?_ | refine wp_bif ?_ | refine wp_irs ?_ | refine wp_irs0 ?_ | refine wx_sts ?_ | refine wx_sts0 ?_ | refine wx_set ?_ | refine wx_ret ?_ | refine wx_setIx ?_ | refine wx_if ?_ | refine wp_and ?_ | refine wp_or ?_ | refine wp_not ?_ | refine wp_neg ?_ | refine wp_cmp ?_ | refine wp_call ?_ | refine wp_callK ?_ | refine wp_ite ?_ | refine wp_tup ?_ | refine wp_lst ?_ | refine wp_inst ?_ | refine wx_setT ?_ | refine wx_expr ?_ | refine wp_sl ?_ | refine wp_onon ?_ | refine wp_osome ?_ | refine wp_fz ?_ | refine wp_nil ?_ | refine wx_raise ?_ | refine wx_pass ?_ | refine ex_int ?_ | refine wp_slt ?_)
    refine wp_some rfl ?_
    repeat (first | ((with_reducible refine wp_vr ?_); refine ⟨_, rfl, ?_⟩) | with_reducible first | refine wp_cst ?_ | refine wp_bin ?_ | refine wp_ix ?_ | refine wp_add ?_ | refine wp_sub ?_ | refine wp_int ?_ | refine wp_bif ?_ | refine wp_irs ?_ | refine wp_irs0 ?_ | refine wx_sts ?_ | refine wx_sts0 ?_ | refine wx_set ?_ | refine wx_ret ?_ | refine wx_setIx ?_ | refine wx_if ?_ | refine wp_and ?_ | refine wp_or ?_ | refine wp_not ?_ | refine wp_neg ?_ | refine wp_cmp ?_ | refine wp_call ?_ | refine wp_callK ?_ | refine wp_ite ?_ | refine wp_tup ?_ | refine wp_lst ?_ | refine wp_inst ?_ | refine wx_setT ?_ | refine wx_expr ?_ | refine wp_sl ?_ | refine wp_onon ?_ | refine wp_osome ?_ | refine wp_fz ?_ | refine wp_nil ?_ | refine wx_raise ?_ | refine wx_pass ?_ | refine ex_int ?_ | refine wp_slt ?_)
    refine wp_mult ⟨by omega, by omega, by decide, by decide⟩ ?_
    repeat (first | ((with_reducible refine wp_vr ?_); refine ⟨_, rfl, ?_⟩) | with_reducible first | refine wp_cst ?_ | refine wp_bin ?_ | refine wp_ix ?_ | refine wp_add ?_ | refine wp_sub ?_ | refine wp_int ?_ | refine wp_bif ?_ | refine wp_irs ?_ | refine wp_irs0 ?_ | refine wx_sts ?_ | refine wx_sts0 ?_ | refine wx_set ?_ | refine wx_ret ?_ | refine wx_setIx ?_ | refine wx_if ?_ | refine wp_and ?_ | refine wp_or ?_ | refine wp_not ?_ | refine wp_neg ?_ | refine wp_cmp ?_ | refine wp_call ?_ | refine wp_callK ?_ | refine wp_ite ?_ | refine wp_tup ?_ | refine wp_lst ?_ | refine wp_inst ?_ | refine wx_setT ?_ | refine wx_expr ?_ | refine wp_sl ?_ | refine wp_onon ?_ | refine wp_osome ?_ | refine wp_fz ?_ | refine wp_nil ?_ | refine wx_raise ?_ | refine wx_pass ?_ | refine ex_int ?_ | refine wp_slt ?_)
    refine ⟨show 1 ≤ LIM by decide, ?_⟩
    refine wp_addt ?_ ⟨⟨(Tq.zeros.app (Tq.int (show small 4 by decide))).val (by omega), ?_⟩, rfl⟩
    · have := (Tq.zeros (k := (((SD.length : Nat) : Int) - 1).toNat)).len
      show _ + 1 ≤ LIM
      unfold LIM
      omega
    · rw [zeros_eq]
      refine sided_zeros (k := (((SD.length : Nat) : Int) - 1).toNat) ?_
      rw [List.length_append]
      show List.take (_ + 1 - 1) _ = _
      rw [Nat.add_sub_cancel]
      exact List.take_left
  · repeat (first | ((with_reducible refine wp_vr ?_); refine ⟨_, rfl, ?_⟩) | with_reducible first | refine wp_cst ?_ | refine wp_bin ?_ | refine wp_ix ?_ | refine wp_add ?_ | refine wp_sub ?_ | refine wp_int ?_ | refine wp_bif ?_ | refine wp_irs ?_ | refine wp_irs0 ?_ | refine wx_sts ?_ | refine wx_sts0 ?_ | refine wx_set ?_ | refine wx_ret ?_ | refine wx_setIx ?_ | refine wx_if ?_ | refine wp_and ?_ | refine wp_or ?_ | refine wp_not ?_ | refine wp_neg ?_ | refine wp_cmp ?_ | refine wp_call ?_ | refine wp_callK ?_ | refine wp_ite ?_ | refine wp_tup ?_ | refine wp_lst ?_ | refine wp_inst ?_ | refine wx_setT ?_ | refine wx_expr ?_ | refine wp_sl ?_ | refine wp_onon ?_ | refine wp_osome ?_ | refine wp_fz ?_ | refine wp_nil ?_ | refine wx_raise ?_ | refine wx_pass ?_ | refine ex_int ?_ | refine wp_slt ?_)
    refine ⟨show 1 ≤ LIM by decide, ?_⟩
    exact wp_addt (gl _) ⟨⟨(hG.app (Tq.one (x := .bl true) trivial)).val (by decide), sided_last rfl⟩, rfl⟩
  · repeat (first | ((with_reducible refine wp_vr ?_); refine ⟨_, rfl, ?_⟩) | with_reducible first | refine wp_cst ?_ | refine wp_bin ?_ | refine wp_ix ?_ | refine wp_add ?_ | refine wp_sub ?_ | refine wp_int ?_ | refine wp_bif ?_ | refine wp_irs ?_ | refine wp_irs0 ?_ | refine wx_sts ?_ | refine wx_sts0 ?_ | refine wx_set ?_ | refine wx_ret ?_ | refine wx_setIx ?_ | refine wx_if ?_ | refine wp_and ?_ | refine wp_or ?_ | refine wp_not ?_ | refine wp_neg ?_ | refine wp_cmp ?_ | refine wp_call ?_ | refine wp_callK ?_ | refine wp_ite ?_ | refine wp_tup ?_ | refine wp_lst ?_ | refine wp_inst ?_ | refine wx_setT ?_ | refine wx_expr ?_ | refine wp_sl ?_ | refine wp_onon ?_ | refine wp_osome ?_ | refine wp_fz ?_ | refine wp_nil ?_ | refine wx_raise ?_ | refine wx_pass ?_ | refine ex_int ?_ | refine wp_slt ?_)
    refine ⟨show 1 ≤ LIM by decide, ?_⟩
    exact wp_addt (gl _) ⟨⟨(hG.app (Tq.one (x := .non) trivial)).val (by decide), sided_last rfl⟩, rfl⟩
theorem wrong_b {Γ : Fns} {b : Nat} {S : Store} {SD : List D} {x pl by_ o4 o5 o6 o7 o8 o9 o10 o11 o12 : Option D} (hT : Tq 4 SD) : Wp (IRs.runs G Γ b false (irs wrongB) [x, pl, some (.tup SD), by_, o4, o5, o6, o7, o8, o9, o10, o11, o12] S) (fun xs S' => (∀ x ∈ xs, Odd D.sided x) ∧ xs.length = 2 ∧ S' = S) E := by
  unfold wrongB
  have hG := hT.cut (l := none) (h := some (-1))
  have gl : ∀ y : D, (cutOf SD none (some (-1))).length + [y].length ≤ LIM := fun y => by
    have := hG.len
    show _ + 1 ≤ LIM
    unfold LIM
    omega
  refine wa_cons ?_ (wa_cons ?_ wa_nil)
  · repeat (first | ((with_reducible refine wp_vr ?_); refine ⟨_, rfl, ?_⟩) | with_reducible first | refine wp_cst ?_ | refine wp_bin ?_ | refine wp_ix ?_ | refine wp_add ?_ | refine wp_sub ?_ | refine wp_int ?_ | refine wp_bif ?_ | refine wp_irs ?_ | refine wp_irs0 ?_ | refine wx_sts ?_ | refine wx_sts0 ?_ | refine wx_set ?_ | refine wx_ret ?_ | refine wx_setIx ?_ | refine wx_if ?_ | refine wp_and ?_ | refine wp_or ?_ | refine wp_not ?_ | refine wp_neg ?_ | refine wp_cmp ?_ | refine wp_call ?_ | refine wp_callK ?_ | refine wp_ite ?_ | refine wp_tup ?_ | refine wp_lst ?_ | refine wp_inst ?_ | refine wx_setT ?_ | refine wx_expr ?_ | refine wp_sl ?_ | refine wp_onon ?_ | refine wp_osome ?_ | refine wp_fz ?_ | refine wp_nil ?_ | refine wx_raise ?_ | refine wx_pass ?_ | refine ex_int ?_ | refine wp_slt ?_)
    refine ⟨show 1 ≤ LIM by decide, ?_⟩
    exact wp_addt (gl _) ⟨⟨(hG.app (Tq.one (x := .str "1") (show PyData.strOk "1" = true by decide +kernel))).val (by decide), sided_last rfl⟩, rfl⟩
  · repeat (first | ((with_reducible refine wp_vr ?_); refine ⟨_, rfl, ?_⟩) | with_reducible first | refine wp_cst ?_ | refine wp_bin ?_ | refine wp_ix ?_ | refine wp_add ?_ | refine wp_sub ?_ | refine wp_int ?_ | refine wp_bif ?_ | refine wp_irs ?_ | refine wp_irs0 ?_ | refine wx_sts ?_ | refine wx_sts0 ?_ | refine wx_set ?_ | refine wx_ret ?_ | refine wx_setIx ?_ | refine wx_if ?_ | refine wp_and ?_ | refine wp_or ?_ | refine wp_not ?_ | refine wp_neg ?_ | refine wp_cmp ?_ | refine wp_call ?_ | refine wp_callK ?_ | refine wp_ite ?_ | refine wp_tup ?_ | refine wp_lst ?_ | refine wp_inst ?_ | refine wx_setT ?_ | refine wx_expr ?_ | refine wp_sl ?_ | refine wp_onon ?_ | refine wp_osome ?_ | refine wp_fz ?_ | refine wp_nil ?_ | refine wx_raise ?_ | refine wx_pass ?_ | refine ex_int ?_ | refine wp_slt ?_)
    refine ⟨two_lim, ?_⟩
    repeat (first | ((with_reducible refine wp_vr ?_); refine ⟨_, rfl, ?_⟩) | with_reducible first | refine wp_cst ?_ | refine wp_bin ?_ | refine wp_ix ?_ | refine wp_add ?_ | refine wp_sub ?_ | refine wp_int ?_ | refine wp_bif ?_ | refine wp_irs ?_ | refine wp_irs0 ?_ | refine wx_sts ?_ | refine wx_sts0 ?_ | refine wx_set ?_ | refine wx_ret ?_ | refine wx_setIx ?_ | refine wx_if ?_ | refine wp_and ?_ | refine wp_or ?_ | refine wp_not ?_ | refine wp_neg ?_ | refine wp_cmp ?_ | refine wp_call ?_ | refine wp_callK ?_ | refine wp_ite ?_ | refine wp_tup ?_ | refine wp_lst ?_ | refine wp_inst ?_ | refine wx_setT ?_ | refine wx_expr ?_ | refine wp_sl ?_ | refine wp_onon ?_ | refine wp_osome ?_ | refine wp_fz ?_ | refine wp_nil ?_ | refine wx_raise ?_ | refine wx_pass ?_ | refine ex_int ?_ | refine wp_slt ?_)
    refine ⟨show 1 ≤ LIM by decide, ?_⟩
    have f : D.f1 (.tup [.int 1, .int 2]) := ints_f1 (ns := [1, 2]) (by decide) (by decide)
    exact wp_addt (gl _) ⟨⟨(hG.app (Tq.one f)).val (by decide), sided_last rfl⟩, rfl⟩
end
end Pv

/-! the law: refused right, and the law. -/
namespace Pv
open PySem
section
variable {G : Sig} {fs : List Fn} {es : List Ec} {E : Exn → Store → Prop}
theorem turn_ok {p q r : Int} {big : IR} (K : K1 G fs es p q r big) {k : Nat} {S0 S : Store} {n m : Nat} {w : Int} {word : Str} {vals : List D} {u : Bool} {a1 a2 a4 a5 a6 a10 a11 a12 : Option D} {Q : Fl → Store → Prop} (hg : Gr n m S0 S) (hm : m + 6 < 2 ^ 20) (hl : 0 < vals.length ∧ vals.length ≤ 1000) (hv : ∀ v ∈ vals, Val v)
    (ha : ∀ v ∈ vals, ∀ (Sa Sb : Store) (d : D) (u : Bool) (E : Exn → Store → Prop), Given Sa v d Sb → Wp (fns G fs es (k + 9) "_law_asked" [.int w, d, .bl u] Sb) (fun r S' => r = .lst [.str word, d] ∧ S' = Sb) E)
    (hq : ∀ S1 (u : Bool) (a10 a11 a12 : Option D), Gr n (m + 6) S0 S1 → Q (.nx [some (.ref n), a1, a2, some (.bl u), a4, a5, a6, some (.int w), some (.str word), some (.lst vals), a10, a11, a12]) S1) : Wp (turnB.execs G (fns G fs es (k + 9)) S0.length [some (.ref n), a1, a2, some (.bl u), a4, a5, a6, some (.int w), some (.str word), some (.lst vals), a10, a11, a12] S) Q E := by
  unfold turnB
  refine wx_sts (wx_for (ws_rng1 (wp_cst ⟨6, rfl, by decide, rngOf 0 6, rfl, ?_⟩)))
  have hr : (rngOf 0 6).length = 6 := by decide
  refine ⟨fun i ρ S' => Gr n (m + i) S0 S' ∧ ∃ (u : Bool) (a10 a11 a12 : Option D), ρ = [some (.ref n), a1, a2, some (.bl u), a4, a5, a6, some (.int w), some (.str word), some (.lst vals), a10, a11, a12], ⟨hg, u, a10, a11, a12, rfl⟩, ?_, ?_⟩
  · rintro i x ρ S1 hx ⟨hg1, u, b10, b11, b12, rfl⟩
    have hi : i < 6 := by
      have := (List.getElem?_eq_some_iff.mp hx).1
      omega
    refine ⟨_, rfl, ?_⟩
    repeat (first | ((with_reducible refine wp_vr ?_); refine ⟨_, rfl, ?_⟩) | with_reducible first | refine wp_cst ?_ | refine wp_bin ?_ | refine wp_ix ?_ | refine wp_add ?_ | refine wp_sub ?_ | refine wp_int ?_ | refine wp_bif ?_ | refine wp_irs ?_ | refine wp_irs0 ?_ | refine wx_sts ?_ | refine wx_sts0 ?_ | refine wx_set ?_ | refine wx_ret ?_ | refine wx_setIx ?_ | refine wx_if ?_ | refine wp_and ?_ | refine wp_or ?_ | refine wp_not ?_ | refine wp_neg ?_ | refine wp_cmp ?_ | refine wp_call ?_ | refine wp_callK ?_ | refine wp_ite ?_ | refine wp_tup ?_ | refine wp_lst ?_ | refine wp_inst ?_ | refine wx_setT ?_ | refine wx_expr ?_ | refine wp_sl ?_ | refine wp_onon ?_ | refine wp_osome ?_ | refine wp_fz ?_ | refine wp_nil ?_ | refine wx_raise ?_ | refine wx_pass ?_ | refine ex_int ?_ | refine wp_slt ?_)
    refine wp_some rfl ?_
    repeat (first | ((with_reducible refine wp_vr ?_); refine ⟨_, rfl, ?_⟩) | with_reducible first | refine wp_cst ?_ | refine wp_bin ?_ | refine wp_ix ?_ | refine wp_add ?_ | refine wp_sub ?_ | refine wp_int ?_ | refine wp_bif ?_ | refine wp_irs ?_ | refine wp_irs0 ?_ | refine wx_sts ?_ | refine wx_sts0 ?_ | refine wx_set ?_ | refine wx_ret ?_ | refine wx_setIx ?_ | refine wx_if ?_ | refine wp_and ?_ | refine wp_or ?_ | refine wp_not ?_ | refine wp_neg ?_ | refine wp_cmp ?_ | refine wp_call ?_ | refine wp_callK ?_ | refine wp_ite ?_ | refine wp_tup ?_ | refine wp_lst ?_ | refine wp_inst ?_ | refine wx_setT ?_ | refine wx_expr ?_ | refine wp_sl ?_ | refine wp_onon ?_ | refine wp_osome ?_ | refine wp_fz ?_ | refine wp_nil ?_ | refine wx_raise ?_ | refine wx_pass ?_ | refine ex_int ?_ | refine wp_slt ?_)
    refine wp_imp (take_ok K.dd.take K.dd.nums hg1.box (by omega) ⟨by omega, by omega⟩) ?_
    rintro d S2 ⟨j, rfl, j1, j2, hd2⟩
    have hg2 := hg1.dr hd2
    have hjl : j.toNat < vals.length := by omega
    have hat : atOf vals j = some vals[j.toNat] := by
      unfold atOf ixOf
      rw [if_pos j1, if_pos (by omega)]
      show vals[j.toNat]? = _
      rw [List.getElem?_eq_getElem hjl]
    have hmem := List.getElem_mem hjl
    refine wp_ixs rfl hat ?_
    repeat (first | ((with_reducible refine wp_vr ?_); refine ⟨_, rfl, ?_⟩) | with_reducible first | refine wp_cst ?_ | refine wp_bin ?_ | refine wp_ix ?_ | refine wp_add ?_ | refine wp_sub ?_ | refine wp_int ?_ | refine wp_bif ?_ | refine wp_irs ?_ | refine wp_irs0 ?_ | refine wx_sts ?_ | refine wx_sts0 ?_ | refine wx_set ?_ | refine wx_ret ?_ | refine wx_setIx ?_ | refine wx_if ?_ | refine wp_and ?_ | refine wp_or ?_ | refine wp_not ?_ | refine wp_neg ?_ | refine wp_cmp ?_ | refine wp_call ?_ | refine wp_callK ?_ | refine wp_ite ?_ | refine wp_tup ?_ | refine wp_lst ?_ | refine wp_inst ?_ | refine wx_setT ?_ | refine wx_expr ?_ | refine wp_sl ?_ | refine wp_onon ?_ | refine wp_osome ?_ | refine wp_fz ?_ | refine wp_nil ?_ | refine wx_raise ?_ | refine wx_pass ?_ | refine ex_int ?_ | refine wp_slt ?_)
    refine wp_imp (copy_ok K.copy (hv _ hmem)) ?_
    intro gv S3 hgv
    repeat (first | ((with_reducible refine wp_vr ?_); refine ⟨_, rfl, ?_⟩) | with_reducible first | refine wp_cst ?_ | refine wp_bin ?_ | refine wp_ix ?_ | refine wp_add ?_ | refine wp_sub ?_ | refine wp_int ?_ | refine wp_bif ?_ | refine wp_irs ?_ | refine wp_irs0 ?_ | refine wx_sts ?_ | refine wx_sts0 ?_ | refine wx_set ?_ | refine wx_ret ?_ | refine wx_setIx ?_ | refine wx_if ?_ | refine wp_and ?_ | refine wp_or ?_ | refine wp_not ?_ | refine wp_neg ?_ | refine wp_cmp ?_ | refine wp_call ?_ | refine wp_callK ?_ | refine wp_ite ?_ | refine wp_tup ?_ | refine wp_lst ?_ | refine wp_inst ?_ | refine wx_setT ?_ | refine wx_expr ?_ | refine wp_sl ?_ | refine wp_onon ?_ | refine wp_osome ?_ | refine wp_fz ?_ | refine wp_nil ?_ | refine wx_raise ?_ | refine wx_pass ?_ | refine ex_int ?_ | refine wp_slt ?_)
    refine wp_imp (ha _ hmem _ _ _ _ _ hgv) ?_
    rintro d S4 ⟨rfl, rfl⟩
    repeat (first | ((with_reducible refine wp_vr ?_); refine ⟨_, rfl, ?_⟩) | with_reducible first | refine wp_cst ?_ | refine wp_bin ?_ | refine wp_ix ?_ | refine wp_add ?_ | refine wp_sub ?_ | refine wp_int ?_ | refine wp_bif ?_ | refine wp_irs ?_ | refine wp_irs0 ?_ | refine wx_sts ?_ | refine wx_sts0 ?_ | refine wx_set ?_ | refine wx_ret ?_ | refine wx_setIx ?_ | refine wx_if ?_ | refine wp_and ?_ | refine wp_or ?_ | refine wp_not ?_ | refine wp_neg ?_ | refine wp_cmp ?_ | refine wp_call ?_ | refine wp_callK ?_ | refine wp_ite ?_ | refine wp_tup ?_ | refine wp_lst ?_ | refine wp_inst ?_ | refine wx_setT ?_ | refine wx_expr ?_ | refine wp_sl ?_ | refine wp_onon ?_ | refine wp_osome ?_ | refine wp_fz ?_ | refine wp_nil ?_ | refine wx_raise ?_ | refine wx_pass ?_ | refine ex_int ?_ | refine wp_slt ?_)
    refine wp_ixs rfl (d := .str word) rfl ?_
    repeat (first | ((with_reducible refine wp_vr ?_); refine ⟨_, rfl, ?_⟩) | with_reducible first | refine wp_cst ?_ | refine wp_bin ?_ | refine wp_ix ?_ | refine wp_add ?_ | refine wp_sub ?_ | refine wp_int ?_ | refine wp_bif ?_ | refine wp_irs ?_ | refine wp_irs0 ?_ | refine wx_sts ?_ | refine wx_sts0 ?_ | refine wx_set ?_ | refine wx_ret ?_ | refine wx_setIx ?_ | refine wx_if ?_ | refine wp_and ?_ | refine wp_or ?_ | refine wp_not ?_ | refine wp_neg ?_ | refine wp_cmp ?_ | refine wp_call ?_ | refine wp_callK ?_ | refine wp_ite ?_ | refine wp_tup ?_ | refine wp_lst ?_ | refine wp_inst ?_ | refine wx_setT ?_ | refine wx_expr ?_ | refine wp_sl ?_ | refine wp_onon ?_ | refine wp_osome ?_ | refine wp_fz ?_ | refine wp_nil ?_ | refine wx_raise ?_ | refine wx_pass ?_ | refine ex_int ?_ | refine wp_slt ?_)
    refine ⟨_, ne_str, _, rfl, fun _ => ?_, fun z => Bool.noConfusion z⟩
    repeat (first | ((with_reducible refine wp_vr ?_); refine ⟨_, rfl, ?_⟩) | with_reducible first | refine wp_cst ?_ | refine wp_bin ?_ | refine wp_ix ?_ | refine wp_add ?_ | refine wp_sub ?_ | refine wp_int ?_ | refine wp_bif ?_ | refine wp_irs ?_ | refine wp_irs0 ?_ | refine wx_sts ?_ | refine wx_sts0 ?_ | refine wx_set ?_ | refine wx_ret ?_ | refine wx_setIx ?_ | refine wx_if ?_ | refine wp_and ?_ | refine wp_or ?_ | refine wp_not ?_ | refine wp_neg ?_ | refine wp_cmp ?_ | refine wp_call ?_ | refine wp_callK ?_ | refine wp_ite ?_ | refine wp_tup ?_ | refine wp_lst ?_ | refine wp_inst ?_ | refine wx_setT ?_ | refine wx_expr ?_ | refine wp_sl ?_ | refine wp_onon ?_ | refine wp_osome ?_ | refine wp_fz ?_ | refine wp_nil ?_ | refine wx_raise ?_ | refine wx_pass ?_ | refine ex_int ?_ | refine wp_slt ?_)
    refine wp_ixs rfl (d := gv) rfl ?_
    repeat (first | ((with_reducible refine wp_vr ?_); refine ⟨_, rfl, ?_⟩) | with_reducible first | refine wp_cst ?_ | refine wp_bin ?_ | refine wp_ix ?_ | refine wp_add ?_ | refine wp_sub ?_ | refine wp_int ?_ | refine wp_bif ?_ | refine wp_irs ?_ | refine wp_irs0 ?_ | refine wx_sts ?_ | refine wx_sts0 ?_ | refine wx_set ?_ | refine wx_ret ?_ | refine wx_setIx ?_ | refine wx_if ?_ | refine wp_and ?_ | refine wp_or ?_ | refine wp_not ?_ | refine wp_neg ?_ | refine wp_cmp ?_ | refine wp_call ?_ | refine wp_callK ?_ | refine wp_ite ?_ | refine wp_tup ?_ | refine wp_lst ?_ | refine wp_inst ?_ | refine wx_setT ?_ | refine wx_expr ?_ | refine wp_sl ?_ | refine wp_onon ?_ | refine wp_osome ?_ | refine wp_fz ?_ | refine wp_nil ?_ | refine wx_raise ?_ | refine wx_pass ?_ | refine ex_int ?_ | refine wp_slt ?_)
    refine wp_imp (blam_ok K.same K.blam hgv) ?_
    rintro d S5 ⟨rfl, ho⟩
    refine ⟨_, rfl, _, rfl, fun z => Bool.noConfusion z, fun _ => ?_⟩
    repeat (first | ((with_reducible refine wp_vr ?_); refine ⟨_, rfl, ?_⟩) | with_reducible first | refine wp_cst ?_ | refine wp_bin ?_ | refine wp_ix ?_ | refine wp_add ?_ | refine wp_sub ?_ | refine wp_int ?_ | refine wp_bif ?_ | refine wp_irs ?_ | refine wp_irs0 ?_ | refine wx_sts ?_ | refine wx_sts0 ?_ | refine wx_set ?_ | refine wx_ret ?_ | refine wx_setIx ?_ | refine wx_if ?_ | refine wp_and ?_ | refine wp_or ?_ | refine wp_not ?_ | refine wp_neg ?_ | refine wp_cmp ?_ | refine wp_call ?_ | refine wp_callK ?_ | refine wp_ite ?_ | refine wp_tup ?_ | refine wp_lst ?_ | refine wp_inst ?_ | refine wx_setT ?_ | refine wx_expr ?_ | refine wp_sl ?_ | refine wp_onon ?_ | refine wp_osome ?_ | refine wp_fz ?_ | refine wp_nil ?_ | refine wx_raise ?_ | refine wx_pass ?_ | refine ex_int ?_ | refine wp_slt ?_)
    refine ⟨_, rfl, ?_⟩
    repeat (first | ((with_reducible refine wp_vr ?_); refine ⟨_, rfl, ?_⟩) | with_reducible first | refine wp_cst ?_ | refine wp_bin ?_ | refine wp_ix ?_ | refine wp_add ?_ | refine wp_sub ?_ | refine wp_int ?_ | refine wp_bif ?_ | refine wp_irs ?_ | refine wp_irs0 ?_ | refine wx_sts ?_ | refine wx_sts0 ?_ | refine wx_set ?_ | refine wx_ret ?_ | refine wx_setIx ?_ | refine wx_if ?_ | refine wp_and ?_ | refine wp_or ?_ | refine wp_not ?_ | refine wp_neg ?_ | refine wp_cmp ?_ | refine wp_call ?_ | refine wp_callK ?_ | refine wp_ite ?_ | refine wp_tup ?_ | refine wp_lst ?_ | refine wp_inst ?_ | refine wx_setT ?_ | refine wx_expr ?_ | refine wp_sl ?_ | refine wp_onon ?_ | refine wp_osome ?_ | refine wp_fz ?_ | refine wp_nil ?_ | refine wx_raise ?_ | refine wx_pass ?_ | refine ex_int ?_ | refine wp_slt ?_)
    refine ⟨?_, !u, _, _, _, rfl⟩
    have hS5 : ∀ j, j < S0.length → S5[j]? = S4[j]? := by
      intro j hj
      refine ho.2 j ?_
      have hgl := hg2.len
      cases hgv with
      | same h hl => intro z; rw [z] at h; exact (show False from h).elim
      | list xs e h => intro z; cases z; omega
      | dict e => intro z; cases z; omega
    refine Gr.upd (S1 := S4) ?_ ho.1 hS5
    cases hgv with
    | same h hl => exact hg2
    | list xs e h => exact hg2.push _
    | dict e => exact hg2.push _
  · rintro ρ S1 ⟨hg1, u, b10, b11, b12, rfl⟩
    rw [hr] at hg1
    exact wx_sts0 (hq S1 u b10 b11 b12 hg1)
theorem odd_ask {p q r : Int} {big : IR} (K : K1 G fs es p q r big) {k : Nat} {v : D} (h : Odd D.places v) (Sa Sb : Store) (d : D) (u : Bool) (E : Exn → Store → Prop) (hg : Given Sa v d Sb) : Wp (fns G fs es (k + 9) "_law_asked" [.int 0, d, .bl u] Sb) (fun r S' => r = .lst [.str "places", d] ∧ S' = Sb) E :=
  asked_bad K.asked K.g (.inl ⟨rfl, rfl, rfl, rfl⟩) (hg.und rfl) (pat_bad K.md hg.fit (hg.und rfl) (hg.pass h.2 fun _ => rfl))
theorem wrong_ask {p q r : Int} {big : IR} (K : K1 G fs es p q r big) {k : Nat} {v : D} (h : Odd D.sided v) (Sa Sb : Store) (d : D) (u : Bool) (E : Exn → Store → Prop) (hg : Given Sa v d Sb) : Wp (fns G fs es (k + 9) "_law_asked" [.int 2, d, .bl u] Sb) (fun r S' => r = .lst [.str "numbers", d] ∧ S' = Sb) E :=
  asked_bad K.asked K.g (.inr (.inr ⟨rfl, rfl, rfl, rfl⟩)) (hg.und rfl) (sdo_bad K.md hg.fit (hg.und rfl) (hg.pass h.2 fun _ => rfl))
theorem ref_ok {p q r : Int} {big : IR} (K : K1 G fs es p q r big) (dj : Def fs "_law_refused_right" 4 13 refB) {k : Nat} {S : Store} {n m z : Nat} {PL SD : List D} {by_ : Bool} (hP : Tq 3 PL) (hPl : PL.length = 2 ∨ PL.length = 3) (hS : Tq 4 SD) (hSl : SD.length = 3 ∨ SD.length = 4) (hx : BoxAt S n m) (hm : m + 20 < 2 ^ 20) :
    Wp (fns G fs es (k + 10) "_law_refused_right" [.ref n, .tup PL, .tup SD, .bl by_] S) (fun d S' => d = .bl true ∧ Dr n (m + 20) S S') E := by
  refine wp_def dj rfl ?_
  unfold refB
  refine wx_sts (wx_set (wp_sl (wp_var rfl (wp_onon (wp_osome (wp_neg (wp_cst ⟨_, rfl, _, rfl, wp_slt ?_⟩)))))))
  refine wx_sts (wx_set (wp_lst (wp_imp (odd_a hP hPl) ?_)))
  rintro odd S1 ⟨ho, hol, rfl⟩
  refine ⟨by rw [hol]; decide, wp_fz ?_⟩
  refine wx_sts (wx_set (wp_bin (wp_var rfl (wp_lst (wp_imp (odd_b hP.cut) ?_)))))
  rintro odd2 S2 ⟨ho2, hol2, rfl⟩
  refine ⟨by rw [hol2]; decide, wp_fz (add_lst (by rw [hol, hol2]; decide) (wp_fz ?_))⟩
  refine wx_sts (wx_set (wp_lst (wp_imp (wrong_a hS hSl) ?_)))
  rintro wr S3 ⟨hw, hwl, rfl⟩
  refine ⟨by rw [hwl]; decide, wp_fz ?_⟩
  refine wx_sts (wx_set (wp_bin (wp_var rfl (wp_lst (wp_imp (wrong_b hS) ?_)))))
  rintro wr2 S4 ⟨hw2, hwl2, rfl⟩
  refine ⟨by rw [hwl2]; decide, wp_fz (add_lst (by rw [hwl, hwl2]; decide) (wp_fz ?_))⟩
  have oA : ∀ v ∈ odd ++ odd2, Odd D.places v := fun v hv => by
    rcases List.mem_append.mp hv with h | h
    · exact ho v h
    · exact ho2 v h
  have wA : ∀ v ∈ wr ++ wr2, Odd D.sided v := fun v hv => by
    rcases List.mem_append.mp hv with h | h
    · exact hw v h
    · exact hw2 v h
  have oL : (odd ++ odd2).length = 16 := by rw [List.length_append, hol, hol2]
  have wL : (wr ++ wr2).length = 14 := by rw [List.length_append, hwl, hwl2]
  generalize odd ++ odd2 = os at oA oL ⊢
  generalize wr ++ wr2 = ws at wA wL ⊢
  refine wx_sts (wx_for (ws_it ?_))
  repeat (first | ((with_reducible refine wp_vr ?_); refine ⟨_, rfl, ?_⟩) | with_reducible first | refine wp_cst ?_ | refine wp_bin ?_ | refine wp_ix ?_ | refine wp_add ?_ | refine wp_sub ?_ | refine wp_int ?_ | refine wp_bif ?_ | refine wp_irs ?_ | refine wp_irs0 ?_ | refine wx_sts ?_ | refine wx_sts0 ?_ | refine wx_set ?_ | refine wx_ret ?_ | refine wx_setIx ?_ | refine wx_if ?_ | refine wp_and ?_ | refine wp_or ?_ | refine wp_not ?_ | refine wp_neg ?_ | refine wp_cmp ?_ | refine wp_call ?_ | refine wp_callK ?_ | refine wp_ite ?_ | refine wp_tup ?_ | refine wp_lst ?_ | refine wp_inst ?_ | refine wx_setT ?_ | refine wx_expr ?_ | refine wp_sl ?_ | refine wp_onon ?_ | refine wp_osome ?_ | refine wp_fz ?_ | refine wp_nil ?_ | refine wx_raise ?_ | refine wx_pass ?_ | refine ex_int ?_ | refine wp_slt ?_)
  refine ⟨show 3 ≤ LIM by decide, ?_⟩
  repeat (first | ((with_reducible refine wp_vr ?_); refine ⟨_, rfl, ?_⟩) | with_reducible first | refine wp_cst ?_ | refine wp_bin ?_ | refine wp_ix ?_ | refine wp_add ?_ | refine wp_sub ?_ | refine wp_int ?_ | refine wp_bif ?_ | refine wp_irs ?_ | refine wp_irs0 ?_ | refine wx_sts ?_ | refine wx_sts0 ?_ | refine wx_set ?_ | refine wx_ret ?_ | refine wx_setIx ?_ | refine wx_if ?_ | refine wp_and ?_ | refine wp_or ?_ | refine wp_not ?_ | refine wp_neg ?_ | refine wp_cmp ?_ | refine wp_call ?_ | refine wp_callK ?_ | refine wp_ite ?_ | refine wp_tup ?_ | refine wp_lst ?_ | refine wp_inst ?_ | refine wx_setT ?_ | refine wx_expr ?_ | refine wp_sl ?_ | refine wp_onon ?_ | refine wp_osome ?_ | refine wp_fz ?_ | refine wp_nil ?_ | refine wx_raise ?_ | refine wx_pass ?_ | refine ex_int ?_ | refine wp_slt ?_)
  refine ⟨show 3 ≤ LIM by decide, ?_⟩
  repeat (first | ((with_reducible refine wp_vr ?_); refine ⟨_, rfl, ?_⟩) | with_reducible first | refine wp_cst ?_ | refine wp_bin ?_ | refine wp_ix ?_ | refine wp_add ?_ | refine wp_sub ?_ | refine wp_int ?_ | refine wp_bif ?_ | refine wp_irs ?_ | refine wp_irs0 ?_ | refine wx_sts ?_ | refine wx_sts0 ?_ | refine wx_set ?_ | refine wx_ret ?_ | refine wx_setIx ?_ | refine wx_if ?_ | refine wp_and ?_ | refine wp_or ?_ | refine wp_not ?_ | refine wp_neg ?_ | refine wp_cmp ?_ | refine wp_call ?_ | refine wp_callK ?_ | refine wp_ite ?_ | refine wp_tup ?_ | refine wp_lst ?_ | refine wp_inst ?_ | refine wx_setT ?_ | refine wx_expr ?_ | refine wp_sl ?_ | refine wp_onon ?_ | refine wp_osome ?_ | refine wp_fz ?_ | refine wp_nil ?_ | refine wx_raise ?_ | refine wx_pass ?_ | refine ex_int ?_ | refine wp_slt ?_)
  refine ⟨two_lim, ?_⟩
  repeat (first | ((with_reducible refine wp_vr ?_); refine ⟨_, rfl, ?_⟩) | with_reducible first | refine wp_cst ?_ | refine wp_bin ?_ | refine wp_ix ?_ | refine wp_add ?_ | refine wp_sub ?_ | refine wp_int ?_ | refine wp_bif ?_ | refine wp_irs ?_ | refine wp_irs0 ?_ | refine wx_sts ?_ | refine wx_sts0 ?_ | refine wx_set ?_ | refine wx_ret ?_ | refine wx_setIx ?_ | refine wx_if ?_ | refine wp_and ?_ | refine wp_or ?_ | refine wp_not ?_ | refine wp_neg ?_ | refine wp_cmp ?_ | refine wp_call ?_ | refine wp_callK ?_ | refine wp_ite ?_ | refine wp_tup ?_ | refine wp_lst ?_ | refine wp_inst ?_ | refine wx_setT ?_ | refine wx_expr ?_ | refine wp_sl ?_ | refine wp_onon ?_ | refine wp_osome ?_ | refine wp_fz ?_ | refine wp_nil ?_ | refine wx_raise ?_ | refine wx_pass ?_ | refine ex_int ?_ | refine wp_slt ?_)
  refine ⟨_, rfl, _, rfl, fun i ρ S' => Gr n (m + 6 * i) S4 S' ∧ ∃ (u : Bool) (a7 a8 a9 a10 a11 a12 : Option D), ρ = [some (.ref n), some (.tup PL), some (.tup SD), some (.bl u), some (.tup (cutOf PL none (some (-1)))), some (.lst os), some (.lst ws), a7, a8, a9, a10, a11, a12], ⟨Gr.refl hx, by_, none, none, none, none, none, none, rfl⟩, ?_, ?_⟩
  · rintro i x ρ S5 hx5 ⟨hg, u, a7, a8, a9, a10, a11, a12, rfl⟩
    match i, hx5, hg with
    | 0, hx5, hg =>
      cases hx5
      refine ⟨_, rfl, ?_⟩
      refine turn_ok K hg (by omega) (by omega) (fun v h => (oA v h).1) (fun v h => odd_ask K (oA v h)) ?_
      intro S6 u b10 b11 b12 hg6
      exact ⟨hg6, u, _, _, _, _, _, _, rfl⟩
    | 1, hx5, hg =>
      cases hx5
      refine ⟨_, rfl, ?_⟩
      refine turn_ok K hg (by omega) (by omega) (fun v h => (wA v h).1) (fun v h => wrong_ask K (wA v h)) ?_
      intro S6 u b10 b11 b12 hg6
      exact ⟨hg6, u, _, _, _, _, _, _, rfl⟩
    | i + 2, hx5, hg => cases hx5
  · rintro ρ S5 ⟨hg, u, a7, a8, a9, a10, a11, a12, rfl⟩
    repeat (first | ((with_reducible refine wp_vr ?_); refine ⟨_, rfl, ?_⟩) | with_reducible first | refine wp_cst ?_ | refine wp_bin ?_ | refine wp_ix ?_ | refine wp_add ?_ | refine wp_sub ?_ | refine wp_int ?_ | refine wp_bif ?_ | refine wp_irs ?_ | refine wp_irs0 ?_ | refine wx_sts ?_ | refine wx_sts0 ?_ | refine wx_set ?_ | refine wx_ret ?_ | refine wx_setIx ?_ | refine wx_if ?_ | refine wp_and ?_ | refine wp_or ?_ | refine wp_not ?_ | refine wp_neg ?_ | refine wp_cmp ?_ | refine wp_call ?_ | refine wp_callK ?_ | refine wp_ite ?_ | refine wp_tup ?_ | refine wp_lst ?_ | refine wp_inst ?_ | refine wx_setT ?_ | refine wx_expr ?_ | refine wp_sl ?_ | refine wp_onon ?_ | refine wp_osome ?_ | refine wp_fz ?_ | refine wp_nil ?_ | refine wx_raise ?_ | refine wx_pass ?_ | refine ex_int ?_ | refine wp_slt ?_)
    exact ⟨_, rfl, rfl, rfl, (hg.mono (show m + 6 * 2 ≤ m + 20 by omega)).cut⟩
def lawB : STs := sts [.for (.name 1) (.rng1 (.bif .max2 (irs [.cst (.int 2), .bif .min2 (irs [.cst (.int 5), .bif .len (irs [.var 0])])]))) (sts [.set 2 false (.call "_law_box" (irs [.call "_law_cell" (irs [.var 0, .var 1])])), .set 3 false (.cmp .eq (.call "_law_take" (irs [.var 2, .cst (.int 2)])) (.cst (.int 0))), .for (.name 4) (.it (.tup (irs [.cst (.int 2), .cst (.int 3)]))) (sts [.setT (.tup (tgs [.name 6, .name 7])) false (.tup (irs [.call "_law_any_point" (irs [.var 2, .var 4, .cst (.int 9), .cmp .eq (.call "_law_take" (irs [.var 2, .cst (.int 3)])) (.cst (.int 0))]), .call "_law_any_side" (irs [.var 2, .var 4])])), .iff (.or (.not (.call "_law_judged_right" (irs [.var 2, .var 6, .var 3]))) (.or (.not (.call "_law_judged_right" (irs [.var 2, .var 7, .not (.var 3)]))) (.not (.call "_law_made_right" (irs [.var 2, .var 6, .var 3]))))) (sts [.ret false (.cst (.bl false))]) (sts []), .set 5 false (.bif .tuple (irs [.comp [8] (.name 8) (.it (.sl (.var 6) .non (.some (.neg (.cst (.int 1)))))) (irs []) (.call "_law_fraction" (irs [.var 8, .ix (.var 6) (.neg (.cst (.int 1)))]))])), .iff (.not (.call "_law_refused_right" (irs [.var 2, .var 5, .var 7, .var 3]))) (sts [.ret false (.cst (.bl false))]) (sts []), .set 3 false (.not (.var 3))])]), .ret false (.cst (.bl true))]
theorem law_ok {p q r c1 c2 : Int} {big : IR} (K : K1 G fs es p q r big) (dj : Def fs "_law_judged_right" 3 7 judB) (dm : Def fs "_law_made_right" 3 14 madB) (dr : Def fs "_law_refused_right" 4 13 refB) (dc : Def fs "_law_cell" 2 2 (cellB c1 c2)) (hc1 : c1.natAbs < 2 ^ 100) (hc2 : c2 ≠ 0) (db : DefO fs "_law_box" 1 1 boxB) (dl : Def fs "law" 1 9 lawB) {k : Nat} {S : Store} {ns : List Int} (hn : ns.length ≤ 63) :
    Wp (fns G fs es (k + 12) "law" [.lst (ns.map D.int)] S) (fun d _ => d = .bl true) E := by
  refine wp_def dl rfl ?_
  unfold lawB
  refine wx_sts (wx_for (ws_rng1 ?_))
  repeat (first | ((with_reducible refine wp_vr ?_); refine ⟨_, rfl, ?_⟩) | with_reducible first | refine wp_cst ?_ | refine wp_bin ?_ | refine wp_ix ?_ | refine wp_add ?_ | refine wp_sub ?_ | refine wp_int ?_ | refine wp_bif ?_ | refine wp_irs ?_ | refine wp_irs0 ?_ | refine wx_sts ?_ | refine wx_sts0 ?_ | refine wx_set ?_ | refine wx_ret ?_ | refine wx_setIx ?_ | refine wx_if ?_ | refine wp_and ?_ | refine wp_or ?_ | refine wp_not ?_ | refine wp_neg ?_ | refine wp_cmp ?_ | refine wp_call ?_ | refine wp_callK ?_ | refine wp_ite ?_ | refine wp_tup ?_ | refine wp_lst ?_ | refine wp_inst ?_ | refine wx_setT ?_ | refine wx_expr ?_ | refine wp_sl ?_ | refine wp_onon ?_ | refine wp_osome ?_ | refine wp_fz ?_ | refine wp_nil ?_ | refine wx_raise ?_ | refine wx_pass ?_ | refine ex_int ?_ | refine wp_slt ?_)
  refine wp_some rfl ?_
  repeat (first | ((with_reducible refine wp_vr ?_); refine ⟨_, rfl, ?_⟩) | with_reducible first | refine wp_cst ?_ | refine wp_bin ?_ | refine wp_ix ?_ | refine wp_add ?_ | refine wp_sub ?_ | refine wp_int ?_ | refine wp_bif ?_ | refine wp_irs ?_ | refine wp_irs0 ?_ | refine wx_sts ?_ | refine wx_sts0 ?_ | refine wx_set ?_ | refine wx_ret ?_ | refine wx_setIx ?_ | refine wx_if ?_ | refine wp_and ?_ | refine wp_or ?_ | refine wp_not ?_ | refine wp_neg ?_ | refine wp_cmp ?_ | refine wp_call ?_ | refine wp_callK ?_ | refine wp_ite ?_ | refine wp_tup ?_ | refine wp_lst ?_ | refine wp_inst ?_ | refine wx_setT ?_ | refine wx_expr ?_ | refine wp_sl ?_ | refine wp_onon ?_ | refine wp_osome ?_ | refine wp_fz ?_ | refine wp_nil ?_ | refine wx_raise ?_ | refine wx_pass ?_ | refine ex_int ?_ | refine wp_slt ?_)
  refine wp_some rfl ?_
  repeat (first | ((with_reducible refine wp_vr ?_); refine ⟨_, rfl, ?_⟩) | with_reducible first | refine wp_cst ?_ | refine wp_bin ?_ | refine wp_ix ?_ | refine wp_add ?_ | refine wp_sub ?_ | refine wp_int ?_ | refine wp_bif ?_ | refine wp_irs ?_ | refine wp_irs0 ?_ | refine wx_sts ?_ | refine wx_sts0 ?_ | refine wx_set ?_ | refine wx_ret ?_ | refine wx_setIx ?_ | refine wx_if ?_ | refine wp_and ?_ | refine wp_or ?_ | refine wp_not ?_ | refine wp_neg ?_ | refine wp_cmp ?_ | refine wp_call ?_ | refine wp_callK ?_ | refine wp_ite ?_ | refine wp_tup ?_ | refine wp_lst ?_ | refine wp_inst ?_ | refine wx_setT ?_ | refine wx_expr ?_ | refine wp_sl ?_ | refine wp_onon ?_ | refine wp_osome ?_ | refine wp_fz ?_ | refine wp_nil ?_ | refine wx_raise ?_ | refine wx_pass ?_ | refine ex_int ?_ | refine wp_slt ?_)
  refine wp_some rfl ?_
  have hmax : ∃ c : Nat, (if (if ((ns.map D.int).length : Int) < 5 then ((ns.map D.int).length : Int) else 5) > 2 then (if ((ns.map D.int).length : Int) < 5 then ((ns.map D.int).length : Int) else 5) else 2) = (c : Int) ∧ c ≤ 5 := by
    generalize (ns.map D.int).length = a
    by_cases h : (a : Int) < 5
    · rw [if_pos h]
      by_cases h2 : (a : Int) > 2
      · rw [if_pos h2]
        exact ⟨a, rfl, by omega⟩
      · rw [if_neg h2]
        exact ⟨2, rfl, by omega⟩
    · rw [if_neg h]
      exact ⟨5, rfl, by omega⟩
  obtain ⟨c, hc, hc5⟩ := hmax
  refine ⟨_, rfl, ?_⟩
  rw [hc]
  refine ⟨by unfold rngOk; exact decide_eq_true (by omega), rngOf 0 c, rfl, fun i ρ S' => ∃ a1 a2 a3 a4 a5 a6 a7 a8 : Option D, ρ = [some (.lst (ns.map D.int)), a1, a2, a3, a4, a5, a6, a7, a8], ⟨_, _, _, _, _, _, _, _, rfl⟩, ?_, ?_⟩
  · rintro i x ρ S1 hx1 ⟨a1, a2, a3, a4, a5, a6, a7, a8, rfl⟩
    have hr : (rngOf 0 (c : Int)).length = c := by
      unfold rngOf
      rw [List.length_map, List.length_range]
      omega
    have hi : i < c := by
      have := (List.getElem?_eq_some_iff.mp hx1).1
      omega
    have ex : x = .int (i : Nat) := by
      unfold rngOf at hx1
      rw [List.getElem?_map, List.getElem?_range (by omega)] at hx1
      simp at hx1
      exact hx1.symm
    subst ex
    refine ⟨_, rfl, ?_⟩
    repeat (first | ((with_reducible refine wp_vr ?_); refine ⟨_, rfl, ?_⟩) | with_reducible first | refine wp_cst ?_ | refine wp_bin ?_ | refine wp_ix ?_ | refine wp_add ?_ | refine wp_sub ?_ | refine wp_int ?_ | refine wp_bif ?_ | refine wp_irs ?_ | refine wp_irs0 ?_ | refine wx_sts ?_ | refine wx_sts0 ?_ | refine wx_set ?_ | refine wx_ret ?_ | refine wx_setIx ?_ | refine wx_if ?_ | refine wp_and ?_ | refine wp_or ?_ | refine wp_not ?_ | refine wp_neg ?_ | refine wp_cmp ?_ | refine wp_call ?_ | refine wp_callK ?_ | refine wp_ite ?_ | refine wp_tup ?_ | refine wp_lst ?_ | refine wp_inst ?_ | refine wx_setT ?_ | refine wx_expr ?_ | refine wp_sl ?_ | refine wp_onon ?_ | refine wp_osome ?_ | refine wp_fz ?_ | refine wp_nil ?_ | refine wx_raise ?_ | refine wx_pass ?_ | refine ex_int ?_ | refine wp_slt ?_)
    refine wp_imp (cell_ok dc hc1 hc2 ⟨by omega, by omega⟩) ?_
    rintro d S2 ⟨⟨zc, rfl⟩, rfl⟩
    repeat (first | ((with_reducible refine wp_vr ?_); refine ⟨_, rfl, ?_⟩) | with_reducible first | refine wp_cst ?_ | refine wp_bin ?_ | refine wp_ix ?_ | refine wp_add ?_ | refine wp_sub ?_ | refine wp_int ?_ | refine wp_bif ?_ | refine wp_irs ?_ | refine wp_irs0 ?_ | refine wx_sts ?_ | refine wx_sts0 ?_ | refine wx_set ?_ | refine wx_ret ?_ | refine wx_setIx ?_ | refine wx_if ?_ | refine wp_and ?_ | refine wp_or ?_ | refine wp_not ?_ | refine wp_neg ?_ | refine wp_cmp ?_ | refine wp_call ?_ | refine wp_callK ?_ | refine wp_ite ?_ | refine wp_tup ?_ | refine wp_lst ?_ | refine wp_inst ?_ | refine wx_setT ?_ | refine wx_expr ?_ | refine wp_sl ?_ | refine wp_onon ?_ | refine wp_osome ?_ | refine wp_fz ?_ | refine wp_nil ?_ | refine wx_raise ?_ | refine wx_pass ?_ | refine ex_int ?_ | refine wp_slt ?_)
    refine wp_imp (box_ok db) ?_
    rintro d S3 ⟨rfl, bx, rfl, hb⟩
    have hB : BoxAt (S2 ++ [bx.o]) S2.length 0 := ⟨bx, get_new, hb⟩
    generalize S2.length = n at hB ⊢
    generalize S2 ++ [bx.o] = S3 at hB ⊢
    repeat (first | ((with_reducible refine wp_vr ?_); refine ⟨_, rfl, ?_⟩) | with_reducible first | refine wp_cst ?_ | refine wp_bin ?_ | refine wp_ix ?_ | refine wp_add ?_ | refine wp_sub ?_ | refine wp_int ?_ | refine wp_bif ?_ | refine wp_irs ?_ | refine wp_irs0 ?_ | refine wx_sts ?_ | refine wx_sts0 ?_ | refine wx_set ?_ | refine wx_ret ?_ | refine wx_setIx ?_ | refine wx_if ?_ | refine wp_and ?_ | refine wp_or ?_ | refine wp_not ?_ | refine wp_neg ?_ | refine wp_cmp ?_ | refine wp_call ?_ | refine wp_callK ?_ | refine wp_ite ?_ | refine wp_tup ?_ | refine wp_lst ?_ | refine wp_inst ?_ | refine wx_setT ?_ | refine wx_expr ?_ | refine wp_sl ?_ | refine wp_onon ?_ | refine wp_osome ?_ | refine wp_fz ?_ | refine wp_nil ?_ | refine wx_raise ?_ | refine wx_pass ?_ | refine ex_int ?_ | refine wp_slt ?_)
    refine wp_imp (take_ok K.dd.take K.dd.nums hB (by decide) ⟨by decide, by decide⟩) ?_
    rintro d S4 ⟨t, rfl, t1, t2, hd4⟩
    repeat (first | ((with_reducible refine wp_vr ?_); refine ⟨_, rfl, ?_⟩) | with_reducible first | refine wp_cst ?_ | refine wp_bin ?_ | refine wp_ix ?_ | refine wp_add ?_ | refine wp_sub ?_ | refine wp_int ?_ | refine wp_bif ?_ | refine wp_irs ?_ | refine wp_irs0 ?_ | refine wx_sts ?_ | refine wx_sts0 ?_ | refine wx_set ?_ | refine wx_ret ?_ | refine wx_setIx ?_ | refine wx_if ?_ | refine wp_and ?_ | refine wp_or ?_ | refine wp_not ?_ | refine wp_neg ?_ | refine wp_cmp ?_ | refine wp_call ?_ | refine wp_callK ?_ | refine wp_ite ?_ | refine wp_tup ?_ | refine wp_lst ?_ | refine wp_inst ?_ | refine wx_setT ?_ | refine wx_expr ?_ | refine wp_sl ?_ | refine wp_onon ?_ | refine wp_osome ?_ | refine wp_fz ?_ | refine wp_nil ?_ | refine wx_raise ?_ | refine wx_pass ?_ | refine ex_int ?_ | refine wp_slt ?_)
    refine ⟨_, rfl, ?_⟩
    repeat (first | ((with_reducible refine wp_vr ?_); refine ⟨_, rfl, ?_⟩) | with_reducible first | refine wp_cst ?_ | refine wp_bin ?_ | refine wp_ix ?_ | refine wp_add ?_ | refine wp_sub ?_ | refine wp_int ?_ | refine wp_bif ?_ | refine wp_irs ?_ | refine wp_irs0 ?_ | refine wx_sts ?_ | refine wx_sts0 ?_ | refine wx_set ?_ | refine wx_ret ?_ | refine wx_setIx ?_ | refine wx_if ?_ | refine wp_and ?_ | refine wp_or ?_ | refine wp_not ?_ | refine wp_neg ?_ | refine wp_cmp ?_ | refine wp_call ?_ | refine wp_callK ?_ | refine wp_ite ?_ | refine wp_tup ?_ | refine wp_lst ?_ | refine wp_inst ?_ | refine wx_setT ?_ | refine wx_expr ?_ | refine wp_sl ?_ | refine wp_onon ?_ | refine wp_osome ?_ | refine wp_fz ?_ | refine wp_nil ?_ | refine wx_raise ?_ | refine wx_pass ?_ | refine ex_int ?_ | refine wp_slt ?_)
    refine wx_for (ws_it ?_)
    repeat (first | ((with_reducible refine wp_vr ?_); refine ⟨_, rfl, ?_⟩) | with_reducible first | refine wp_cst ?_ | refine wp_bin ?_ | refine wp_ix ?_ | refine wp_add ?_ | refine wp_sub ?_ | refine wp_int ?_ | refine wp_bif ?_ | refine wp_irs ?_ | refine wp_irs0 ?_ | refine wx_sts ?_ | refine wx_sts0 ?_ | refine wx_set ?_ | refine wx_ret ?_ | refine wx_setIx ?_ | refine wx_if ?_ | refine wp_and ?_ | refine wp_or ?_ | refine wp_not ?_ | refine wp_neg ?_ | refine wp_cmp ?_ | refine wp_call ?_ | refine wp_callK ?_ | refine wp_ite ?_ | refine wp_tup ?_ | refine wp_lst ?_ | refine wp_inst ?_ | refine wx_setT ?_ | refine wx_expr ?_ | refine wp_sl ?_ | refine wp_onon ?_ | refine wp_osome ?_ | refine wp_fz ?_ | refine wp_nil ?_ | refine wx_raise ?_ | refine wx_pass ?_ | refine ex_int ?_ | refine wp_slt ?_)
    refine ⟨two_lim, _, rfl, _, rfl, fun i2 ρ S' => BoxAt S' n (1 + 100 * i2) ∧ ∃ (u : Bool) (b4 b5 b6 b7 b8 : Option D), ρ = [some (.lst (ns.map D.int)), some (.int (i : Nat)), some (.ref n), some (.bl u), b4, b5, b6, b7, b8], ⟨hd4.box, _, _, _, _, _, _, rfl⟩, ?_, ?_⟩
    · rintro i2 x ρ S5 hx5 ⟨hB5, u, b4, b5, b6, b7, b8, rfl⟩
      have hz : ∃ z : Nat, x = .int z ∧ (z = 2 ∨ z = 3) ∧ i2 < 2 := by
        match i2, hx5 with
        | 0, hx5 => cases hx5; exact ⟨2, rfl, .inl rfl, by omega⟩
        | 1, hx5 => cases hx5; exact ⟨3, rfl, .inr rfl, by omega⟩
        | i + 2, hx5 => cases hx5
      obtain ⟨z, rfl, hz, hi2⟩ := hz
      refine ⟨_, rfl, ?_⟩
      repeat (first | ((with_reducible refine wp_vr ?_); refine ⟨_, rfl, ?_⟩) | with_reducible first | refine wp_cst ?_ | refine wp_bin ?_ | refine wp_ix ?_ | refine wp_add ?_ | refine wp_sub ?_ | refine wp_int ?_ | refine wp_bif ?_ | refine wp_irs ?_ | refine wp_irs0 ?_ | refine wx_sts ?_ | refine wx_sts0 ?_ | refine wx_set ?_ | refine wx_ret ?_ | refine wx_setIx ?_ | refine wx_if ?_ | refine wp_and ?_ | refine wp_or ?_ | refine wp_not ?_ | refine wp_neg ?_ | refine wp_cmp ?_ | refine wp_call ?_ | refine wp_callK ?_ | refine wp_ite ?_ | refine wp_tup ?_ | refine wp_lst ?_ | refine wp_inst ?_ | refine wx_setT ?_ | refine wx_expr ?_ | refine wp_sl ?_ | refine wp_onon ?_ | refine wp_osome ?_ | refine wp_fz ?_ | refine wp_nil ?_ | refine wx_raise ?_ | refine wx_pass ?_ | refine ex_int ?_ | refine wp_slt ?_)
      refine wp_imp (take_ok K.dd.take K.dd.nums hB5 (by omega) ⟨by decide, by decide⟩) ?_
      rintro d S6 ⟨t3, rfl, t31, t32, hd6⟩
      repeat (first | ((with_reducible refine wp_vr ?_); refine ⟨_, rfl, ?_⟩) | with_reducible first | refine wp_cst ?_ | refine wp_bin ?_ | refine wp_ix ?_ | refine wp_add ?_ | refine wp_sub ?_ | refine wp_int ?_ | refine wp_bif ?_ | refine wp_irs ?_ | refine wp_irs0 ?_ | refine wx_sts ?_ | refine wx_sts0 ?_ | refine wx_set ?_ | refine wx_ret ?_ | refine wx_setIx ?_ | refine wx_if ?_ | refine wp_and ?_ | refine wp_or ?_ | refine wp_not ?_ | refine wp_neg ?_ | refine wp_cmp ?_ | refine wp_call ?_ | refine wp_callK ?_ | refine wp_ite ?_ | refine wp_tup ?_ | refine wp_lst ?_ | refine wp_inst ?_ | refine wx_setT ?_ | refine wx_expr ?_ | refine wp_sl ?_ | refine wp_onon ?_ | refine wp_osome ?_ | refine wp_fz ?_ | refine wp_nil ?_ | refine wx_raise ?_ | refine wx_pass ?_ | refine ex_int ?_ | refine wp_slt ?_)
      refine ⟨_, rfl, ?_⟩
      repeat (first | ((with_reducible refine wp_vr ?_); refine ⟨_, rfl, ?_⟩) | with_reducible first | refine wp_cst ?_ | refine wp_bin ?_ | refine wp_ix ?_ | refine wp_add ?_ | refine wp_sub ?_ | refine wp_int ?_ | refine wp_bif ?_ | refine wp_irs ?_ | refine wp_irs0 ?_ | refine wx_sts ?_ | refine wx_sts0 ?_ | refine wx_set ?_ | refine wx_ret ?_ | refine wx_setIx ?_ | refine wx_if ?_ | refine wp_and ?_ | refine wp_or ?_ | refine wp_not ?_ | refine wp_neg ?_ | refine wp_cmp ?_ | refine wp_call ?_ | refine wp_callK ?_ | refine wp_ite ?_ | refine wp_tup ?_ | refine wp_lst ?_ | refine wp_inst ?_ | refine wx_setT ?_ | refine wx_expr ?_ | refine wp_sl ?_ | refine wp_onon ?_ | refine wp_osome ?_ | refine wp_fz ?_ | refine wp_nil ?_ | refine wx_raise ?_ | refine wx_pass ?_ | refine ex_int ?_ | refine wp_slt ?_)
      refine wp_imp (any_pt_ok K.dd K.anyPt rfl hz ⟨by decide, by decide⟩ hd6.box (by omega)) ?_
      rintro d S7 ⟨⟨pn, rfl, hpn⟩, hd7⟩
      repeat (first | ((with_reducible refine wp_vr ?_); refine ⟨_, rfl, ?_⟩) | with_reducible first | refine wp_cst ?_ | refine wp_bin ?_ | refine wp_ix ?_ | refine wp_add ?_ | refine wp_sub ?_ | refine wp_int ?_ | refine wp_bif ?_ | refine wp_irs ?_ | refine wp_irs0 ?_ | refine wx_sts ?_ | refine wx_sts0 ?_ | refine wx_set ?_ | refine wx_ret ?_ | refine wx_setIx ?_ | refine wx_if ?_ | refine wp_and ?_ | refine wp_or ?_ | refine wp_not ?_ | refine wp_neg ?_ | refine wp_cmp ?_ | refine wp_call ?_ | refine wp_callK ?_ | refine wp_ite ?_ | refine wp_tup ?_ | refine wp_lst ?_ | refine wp_inst ?_ | refine wx_setT ?_ | refine wx_expr ?_ | refine wp_sl ?_ | refine wp_onon ?_ | refine wp_osome ?_ | refine wp_fz ?_ | refine wp_nil ?_ | refine wx_raise ?_ | refine wx_pass ?_ | refine ex_int ?_ | refine wp_slt ?_)
      refine wp_imp (any_sd_ok K.dd K.anySd rfl hz hd7.box (by omega)) ?_
      rintro d S8 ⟨⟨sn, rfl, hsn⟩, hd8⟩
      repeat (first | ((with_reducible refine wp_vr ?_); refine ⟨_, rfl, ?_⟩) | with_reducible first | refine wp_cst ?_ | refine wp_bin ?_ | refine wp_ix ?_ | refine wp_add ?_ | refine wp_sub ?_ | refine wp_int ?_ | refine wp_bif ?_ | refine wp_irs ?_ | refine wp_irs0 ?_ | refine wx_sts ?_ | refine wx_sts0 ?_ | refine wx_set ?_ | refine wx_ret ?_ | refine wx_setIx ?_ | refine wx_if ?_ | refine wp_and ?_ | refine wp_or ?_ | refine wp_not ?_ | refine wp_neg ?_ | refine wp_cmp ?_ | refine wp_call ?_ | refine wp_callK ?_ | refine wp_ite ?_ | refine wp_tup ?_ | refine wp_lst ?_ | refine wp_inst ?_ | refine wx_setT ?_ | refine wx_expr ?_ | refine wp_sl ?_ | refine wp_onon ?_ | refine wp_osome ?_ | refine wp_fz ?_ | refine wp_nil ?_ | refine wx_raise ?_ | refine wx_pass ?_ | refine ex_int ?_ | refine wp_slt ?_)
      refine ⟨two_lim, ⟨_, rfl, ?_⟩⟩
      obtain ⟨l, hlast, hl0⟩ := hpn.last
      obtain ⟨xs, rfl⟩ := List.getLast?_eq_some_iff.mp hlast
      have hlen : xs.length = z := by
        have := hpn.len
        rw [List.length_append] at this
        exact Nat.add_right_cancel this
      repeat (first | ((with_reducible refine wp_vr ?_); refine ⟨_, rfl, ?_⟩) | with_reducible first | refine wp_cst ?_ | refine wp_bin ?_ | refine wp_ix ?_ | refine wp_add ?_ | refine wp_sub ?_ | refine wp_int ?_ | refine wp_bif ?_ | refine wp_irs ?_ | refine wp_irs0 ?_ | refine wx_sts ?_ | refine wx_sts0 ?_ | refine wx_set ?_ | refine wx_ret ?_ | refine wx_setIx ?_ | refine wx_if ?_ | refine wp_and ?_ | refine wp_or ?_ | refine wp_not ?_ | refine wp_neg ?_ | refine wp_cmp ?_ | refine wp_call ?_ | refine wp_callK ?_ | refine wp_ite ?_ | refine wp_tup ?_ | refine wp_lst ?_ | refine wp_inst ?_ | refine wx_setT ?_ | refine wx_expr ?_ | refine wp_sl ?_ | refine wp_onon ?_ | refine wp_osome ?_ | refine wp_fz ?_ | refine wp_nil ?_ | refine wx_raise ?_ | refine wx_pass ?_ | refine ex_int ?_ | refine wp_slt ?_)
      refine wp_imp (jud_ok K dj (by rw [hpn.len]; omega) hpn.lim hd8.box (by omega)) ?_
      rintro d S9 ⟨rfl, hd9⟩
      refine ⟨_, rfl, _, rfl, fun _ => ?_, fun z => Bool.noConfusion z⟩
      repeat (first | ((with_reducible refine wp_vr ?_); refine ⟨_, rfl, ?_⟩) | with_reducible first | refine wp_cst ?_ | refine wp_bin ?_ | refine wp_ix ?_ | refine wp_add ?_ | refine wp_sub ?_ | refine wp_int ?_ | refine wp_bif ?_ | refine wp_irs ?_ | refine wp_irs0 ?_ | refine wx_sts ?_ | refine wx_sts0 ?_ | refine wx_set ?_ | refine wx_ret ?_ | refine wx_setIx ?_ | refine wx_if ?_ | refine wp_and ?_ | refine wp_or ?_ | refine wp_not ?_ | refine wp_neg ?_ | refine wp_cmp ?_ | refine wp_call ?_ | refine wp_callK ?_ | refine wp_ite ?_ | refine wp_tup ?_ | refine wp_lst ?_ | refine wp_inst ?_ | refine wx_setT ?_ | refine wx_expr ?_ | refine wp_sl ?_ | refine wp_onon ?_ | refine wp_osome ?_ | refine wp_fz ?_ | refine wp_nil ?_ | refine wx_raise ?_ | refine wx_pass ?_ | refine ex_int ?_ | refine wp_slt ?_)
      refine ⟨_, rfl, ?_⟩
      repeat (first | ((with_reducible refine wp_vr ?_); refine ⟨_, rfl, ?_⟩) | with_reducible first | refine wp_cst ?_ | refine wp_bin ?_ | refine wp_ix ?_ | refine wp_add ?_ | refine wp_sub ?_ | refine wp_int ?_ | refine wp_bif ?_ | refine wp_irs ?_ | refine wp_irs0 ?_ | refine wx_sts ?_ | refine wx_sts0 ?_ | refine wx_set ?_ | refine wx_ret ?_ | refine wx_setIx ?_ | refine wx_if ?_ | refine wp_and ?_ | refine wp_or ?_ | refine wp_not ?_ | refine wp_neg ?_ | refine wp_cmp ?_ | refine wp_call ?_ | refine wp_callK ?_ | refine wp_ite ?_ | refine wp_tup ?_ | refine wp_lst ?_ | refine wp_inst ?_ | refine wx_setT ?_ | refine wx_expr ?_ | refine wp_sl ?_ | refine wp_onon ?_ | refine wp_osome ?_ | refine wp_fz ?_ | refine wp_nil ?_ | refine wx_raise ?_ | refine wx_pass ?_ | refine ex_int ?_ | refine wp_slt ?_)
      refine wp_imp (jud_ok K dj (by rw [hsn.len]; omega) hsn.lim hd9.box (by omega)) ?_
      rintro d S10 ⟨rfl, hd10⟩
      refine ⟨_, rfl, _, rfl, fun _ => ?_, fun z => Bool.noConfusion z⟩
      repeat (first | ((with_reducible refine wp_vr ?_); refine ⟨_, rfl, ?_⟩) | with_reducible first | refine wp_cst ?_ | refine wp_bin ?_ | refine wp_ix ?_ | refine wp_add ?_ | refine wp_sub ?_ | refine wp_int ?_ | refine wp_bif ?_ | refine wp_irs ?_ | refine wp_irs0 ?_ | refine wx_sts ?_ | refine wx_sts0 ?_ | refine wx_set ?_ | refine wx_ret ?_ | refine wx_setIx ?_ | refine wx_if ?_ | refine wp_and ?_ | refine wp_or ?_ | refine wp_not ?_ | refine wp_neg ?_ | refine wp_cmp ?_ | refine wp_call ?_ | refine wp_callK ?_ | refine wp_ite ?_ | refine wp_tup ?_ | refine wp_lst ?_ | refine wp_inst ?_ | refine wx_setT ?_ | refine wx_expr ?_ | refine wp_sl ?_ | refine wp_onon ?_ | refine wp_osome ?_ | refine wp_fz ?_ | refine wp_nil ?_ | refine wx_raise ?_ | refine wx_pass ?_ | refine ex_int ?_ | refine wp_slt ?_)
      refine wp_imp (mad_ok K dm hz hpn hd10.box (by omega)) ?_
      rintro d S11 ⟨rfl, hd11⟩
      refine ⟨_, rfl, _, rfl, fun z => Bool.noConfusion z, fun _ => wx_sts0 ?_⟩
      refine wx_sts (wx_set (frac_map K hpn hl0 (by omega) rfl (fun _ => rfl) (fun _ => rfl) ?_))
      have hpl := hpn.places hz hl0
      have hTP : Tq 3 ((xs.map (lowP l)).map pairD) := ⟨by rw [List.length_map, List.length_map, hlen]; omega, (show _ ∧ _ from hpl.fine).2⟩
      have hTS : Tq 4 (sn.map D.int) := Tq.ints (by rw [hsn.len]; omega) fun i hi => Nat.lt_trans (hsn.lim i hi) (by decide)
      repeat (first | ((with_reducible refine wp_vr ?_); refine ⟨_, rfl, ?_⟩) | with_reducible first | refine wp_cst ?_ | refine wp_bin ?_ | refine wp_ix ?_ | refine wp_add ?_ | refine wp_sub ?_ | refine wp_int ?_ | refine wp_bif ?_ | refine wp_irs ?_ | refine wp_irs0 ?_ | refine wx_sts ?_ | refine wx_sts0 ?_ | refine wx_set ?_ | refine wx_ret ?_ | refine wx_setIx ?_ | refine wx_if ?_ | refine wp_and ?_ | refine wp_or ?_ | refine wp_not ?_ | refine wp_neg ?_ | refine wp_cmp ?_ | refine wp_call ?_ | refine wp_callK ?_ | refine wp_ite ?_ | refine wp_tup ?_ | refine wp_lst ?_ | refine wp_inst ?_ | refine wx_setT ?_ | refine wx_expr ?_ | refine wp_sl ?_ | refine wp_onon ?_ | refine wp_osome ?_ | refine wp_fz ?_ | refine wp_nil ?_ | refine wx_raise ?_ | refine wx_pass ?_ | refine ex_int ?_ | refine wp_slt ?_)
      refine wp_imp (ref_ok (z := z) K dr hTP (by rw [List.length_map, List.length_map, hlen]; omega) hTS (by rw [List.length_map, hsn.len]; omega) hd11.box (by omega)) ?_
      rintro d S12 ⟨rfl, hd12⟩
      refine ⟨_, rfl, _, rfl, fun z => Bool.noConfusion z, fun _ => ?_⟩
      repeat (first | ((with_reducible refine wp_vr ?_); refine ⟨_, rfl, ?_⟩) | with_reducible first | refine wp_cst ?_ | refine wp_bin ?_ | refine wp_ix ?_ | refine wp_add ?_ | refine wp_sub ?_ | refine wp_int ?_ | refine wp_bif ?_ | refine wp_irs ?_ | refine wp_irs0 ?_ | refine wx_sts ?_ | refine wx_sts0 ?_ | refine wx_set ?_ | refine wx_ret ?_ | refine wx_setIx ?_ | refine wx_if ?_ | refine wp_and ?_ | refine wp_or ?_ | refine wp_not ?_ | refine wp_neg ?_ | refine wp_cmp ?_ | refine wp_call ?_ | refine wp_callK ?_ | refine wp_ite ?_ | refine wp_tup ?_ | refine wp_lst ?_ | refine wp_inst ?_ | refine wx_setT ?_ | refine wx_expr ?_ | refine wp_sl ?_ | refine wp_onon ?_ | refine wp_osome ?_ | refine wp_fz ?_ | refine wp_nil ?_ | refine wx_raise ?_ | refine wx_pass ?_ | refine ex_int ?_ | refine wp_slt ?_)
      refine ⟨_, rfl, ?_⟩
      repeat (first | ((with_reducible refine wp_vr ?_); refine ⟨_, rfl, ?_⟩) | with_reducible first | refine wp_cst ?_ | refine wp_bin ?_ | refine wp_ix ?_ | refine wp_add ?_ | refine wp_sub ?_ | refine wp_int ?_ | refine wp_bif ?_ | refine wp_irs ?_ | refine wp_irs0 ?_ | refine wx_sts ?_ | refine wx_sts0 ?_ | refine wx_set ?_ | refine wx_ret ?_ | refine wx_setIx ?_ | refine wx_if ?_ | refine wp_and ?_ | refine wp_or ?_ | refine wp_not ?_ | refine wp_neg ?_ | refine wp_cmp ?_ | refine wp_call ?_ | refine wp_callK ?_ | refine wp_ite ?_ | refine wp_tup ?_ | refine wp_lst ?_ | refine wp_inst ?_ | refine wx_setT ?_ | refine wx_expr ?_ | refine wp_sl ?_ | refine wp_onon ?_ | refine wp_osome ?_ | refine wp_fz ?_ | refine wp_nil ?_ | refine wx_raise ?_ | refine wx_pass ?_ | refine ex_int ?_ | refine wp_slt ?_)
      exact ⟨hd12.box.mono (by omega), _, _, _, _, _, _, rfl⟩
    · rintro ρ S5 ⟨hB5, u, b4, b5, b6, b7, b8, rfl⟩
      exact wx_sts0 ⟨_, _, _, _, _, _, _, _, rfl⟩
  · rintro ρ S1 ⟨a1, a2, a3, a4, a5, a6, a7, a8, rfl⟩
    repeat (first | ((with_reducible refine wp_vr ?_); refine ⟨_, rfl, ?_⟩) | with_reducible first | refine wp_cst ?_ | refine wp_bin ?_ | refine wp_ix ?_ | refine wp_add ?_ | refine wp_sub ?_ | refine wp_int ?_ | refine wp_bif ?_ | refine wp_irs ?_ | refine wp_irs0 ?_ | refine wx_sts ?_ | refine wx_sts0 ?_ | refine wx_set ?_ | refine wx_ret ?_ | refine wx_setIx ?_ | refine wx_if ?_ | refine wp_and ?_ | refine wp_or ?_ | refine wp_not ?_ | refine wp_neg ?_ | refine wp_cmp ?_ | refine wp_call ?_ | refine wp_callK ?_ | refine wp_ite ?_ | refine wp_tup ?_ | refine wp_lst ?_ | refine wp_inst ?_ | refine wx_setT ?_ | refine wx_expr ?_ | refine wp_sl ?_ | refine wp_onon ?_ | refine wp_osome ?_ | refine wp_fz ?_ | refine wp_nil ?_ | refine wx_raise ?_ | refine wx_pass ?_ | refine ex_int ?_ | refine wp_slt ?_)
    exact ⟨_, rfl, rfl, rfl⟩
end
end Pv

set_option maxHeartbeats 0
namespace Hd
open PySem PySem.Spec PyProof.Rows L2 Pv
def top (i : Nat) : Stmt := PySem.Challenge.pw_polytopebench_k01_judged_made.main.body.getD i (.Pass ⟨0, 0, 0, 0⟩)

def f7 : Fn := ⟨"is_integer", ["value"], ["value"], sts [.ret false (.and (.inst (.var 0) [.int]) (.not (.inst (.var 0) [.bool])))], false⟩
def f8 : Fn := ⟨"is_tuple", ["value", "many"], ["value", "many"], sts [.ret false (.and (.inst (.var 0) [.tuple]) (.cmp .eq (.bif .len (irs [.var 0])) (.var 1)))], false⟩
def f9 : Fn := ⟨"are_integers", ["value", "many"], ["value", "many", "item"], sts [.ret false (.and (.call "is_tuple" (irs [.var 0, .var 1])) (.bif .all (irs [.comp [2] (.name 2) (.it (.var 0)) (irs []) (.call "is_integer" (irs [.var 2]))])))], false⟩
def f11 : Fn := ⟨"lowest", ["top", "base"], ["top", "base", "shared"], sts [.set 2 false (.bif .gcd (irs [.var 0, .var 1])), .iff (.cmp .lt (.var 1) (.cst (.int 0))) (sts [.set 2 false (.bin .sub (.cst (.int 0)) (.var 2))]) (sts []), .ret false (.tup (irs [.bin .fdiv (.var 0) (.var 2), .bin .fdiv (.var 1) (.var 2)]))], false⟩
def f12 : Fn := ⟨"is_fraction", ["value"], ["value"], sts [.ret false (.and (.call "are_integers" (irs [.var 0, .cst (.int 2)])) (.and (.cmp .gt (.ix (.var 0) (.cst (.int 1))) (.cst (.int 0))) (.cmp .eq (.bif .gcd (irs [.ix (.var 0) (.cst (.int 0)), .ix (.var 0) (.cst (.int 1))])) (.cst (.int 1)))))], false⟩
def f14 : Fn := ⟨"shared_factor", ["numbers"], ["numbers", "found", "number"], sts [.set 1 false (.cst (.int 0)), .for (.name 2) (.it (.var 0)) (sts [.set 1 false (.bif .gcd (irs [.var 1, .var 2]))]), .ret false (.var 1)], false⟩
def f15 : Fn := ⟨"is_of_size", ["value", "size"], ["value", "size"], sts [.ret false (.and (.call "are_integers" (irs [.var 0, .bin .add (.var 1) (.cst (.int 1))])) (.and (.cmp .gt (.ix (.var 0) (.neg (.cst (.int 1)))) (.cst (.int 0))) (.cmp .eq (.call "shared_factor" (irs [.var 0])) (.cst (.int 1)))))], false⟩
def f16 : Fn := ⟨"is_point", ["value"], ["value"], sts [.ret false (.or (.call "is_of_size" (irs [.var 0, .cst (.int 2)])) (.call "is_of_size" (irs [.var 0, .cst (.int 3)])))], false⟩
def f17 : Fn := ⟨"is_side_of", ["value", "size"], ["value", "size", "number"], sts [.iff (.or (.not (.call "are_integers" (irs [.var 0, .bin .add (.var 1) (.cst (.int 1))]))) (.cmp .ne (.call "shared_factor" (irs [.var 0])) (.cst (.int 1)))) (sts [.ret false (.cst (.bl false))]) (sts []), .ret false (.bif .any (irs [.comp [2] (.name 2) (.it (.sl (.var 0) .non (.some (.neg (.cst (.int 1)))))) (irs []) (.cmp .ne (.var 2) (.cst (.int 0)))]))], false⟩
def f18 : Fn := ⟨"is_side", ["value"], ["value"], sts [.ret false (.or (.call "is_side_of" (irs [.var 0, .cst (.int 2)])) (.call "is_side_of" (irs [.var 0, .cst (.int 3)])))], false⟩
def f19 : Fn := ⟨"point_from", ["numbers"], ["numbers", "shared", "number"], sts [.set 1 false (.call "shared_factor" (irs [.var 0])), .iff (.cmp .lt (.ix (.var 0) (.neg (.cst (.int 1)))) (.cst (.int 0))) (sts [.set 1 false (.bin .sub (.cst (.int 0)) (.var 1))]) (sts []), .ret false (.bif .tuple (irs [.comp [2] (.name 2) (.it (.var 0)) (irs []) (.bin .fdiv (.var 2) (.var 1))]))], false⟩
def f20 : Fn := ⟨"side_from", ["numbers"], ["numbers", "shared", "number"], sts [.set 1 false (.call "shared_factor" (irs [.var 0])), .ret false (.bif .tuple (irs [.comp [2] (.name 2) (.it (.var 0)) (irs []) (.bin .fdiv (.var 2) (.var 1))]))], false⟩
def f21 : Fn := ⟨"check_point", ["point"], ["point"], sts [.iff (.not (.call "is_point" (irs [.var 0]))) (sts [.raise "InvalidPoint" (irs [.var 0])]) (sts [])], false⟩
def f22 : Fn := ⟨"from_places", ["places"], ["places", "base", "top", "bottom"], sts [.set 1 false (.cst (.int 1)), .for (.tup (tgs [.name 2, .name 3])) (.it (.var 0)) (sts [.set 1 false (.bin .fdiv (.bin .mul (.var 1) (.var 3)) (.bif .gcd (irs [.var 1, .var 3])))]), .ret false (.call "point_from" (irs [.bin .add (.comp [2, 3] (.tup (tgs [.name 2, .name 3])) (.it (.var 0)) (irs []) (.bin .mul (.var 2) (.bin .fdiv (.var 1) (.var 3)))) (.lst (irs [.var 1]))]))], false⟩
def f23 : Fn := ⟨"point_at", ["places"], ["places", "item"], sts [.iff (.or (.not (.inst (.var 0) [.tuple])) (.or (.cmp .notInC (.bif .len (irs [.var 0])) (.tup (irs [.cst (.int 2), .cst (.int 3)]))) (.not (.bif .all (irs [.comp [1] (.name 1) (.it (.var 0)) (irs []) (.call "is_fraction" (irs [.var 1]))]))))) (sts [.raise "InvalidPlaces" (irs [.var 0])]) (sts []), .ret false (.call "from_places" (irs [.var 0]))], false⟩
def f24 : Fn := ⟨"places_in", ["point"], ["point", "number"], sts [.ret false (.bif .tuple (irs [.comp [1] (.name 1) (.it (.sl (.var 0) .non (.some (.neg (.cst (.int 1)))))) (irs []) (.call "lowest" (irs [.var 1, .ix (.var 0) (.neg (.cst (.int 1)))]))]))], false⟩
def f25 : Fn := ⟨"places_of", ["point"], ["point"], sts [.expr (.call "check_point" (irs [.var 0])), .ret false (.call "places_in" (irs [.var 0]))], false⟩
def f26 : Fn := ⟨"side_of", ["numbers"], ["numbers", "number"], sts [.iff (.and (.not (.call "are_integers" (irs [.var 0, .cst (.int 3)]))) (.not (.call "are_integers" (irs [.var 0, .cst (.int 4)])))) (sts [.raise "InvalidNumbers" (irs [.var 0])]) (sts []), .iff (.not (.bif .any (irs [.comp [1] (.name 1) (.it (.sl (.var 0) .non (.some (.neg (.cst (.int 1)))))) (irs []) (.cmp .ne (.var 1) (.cst (.int 0)))]))) (sts [.raise "InvalidNumbers" (irs [.var 0])]) (sts []), .ret false (.call "side_from" (irs [.var 0]))], false⟩
def f28 : Fn := ⟨"_law_cell", ["script", "k"], ["script", "k"], sts [.ret false (.ite (.cmp .lt (.var 1) (.bif .len (irs [.var 0]))) (.ix (.var 0) (.var 1)) (.bin .add (.bin .mul (.cst (.int 6203)) (.var 1)) (.bin .mod (.bif .int (irs [.bif .sum (irs [.sl (.var 0) .non (.some (.cst (.int 1)))])])) (.cst (.int 1000033)))))], false⟩
def f29 : Fn := ⟨"_law_box", ["great"], ["great"], sts [.ret true (.lst (irs [.bif .abs (irs [.var 0]), .cmp .ge (.bif .abs (irs [.var 0])) (.bin .pow (.cst (.int 10)) (.cst (.int 18))), .bin .mod (.bif .int (irs [.bif .abs (irs [.var 0])])) (.cst (.int 2147483629)), .cst (.int 0)]))], true⟩
def f30 : Fn := ⟨"_law_take", ["box", "many"], ["box", "many", "mixed", "digit"], sts [.iff (.and (.ix (.var 0) (.cst (.int 1))) (.cmp .gt (.ix (.var 0) (.cst (.int 0))) (.cst (.int 0)))) (sts [.set 3 false (.bin .mod (.bif .int (irs [.ix (.var 0) (.cst (.int 0))])) (.var 1)), .setIx (.var 0) (.cst (.int 0)) (.bin .fdiv (.ix (.var 0) (.cst (.int 0))) (.var 1)), .ret false (.var 3)]) (sts []), .setIx (.var 0) (.cst (.int 3)) (.bin .add (.ix (.var 0) (.cst (.int 3))) (.cst (.int 1))), .set 2 false (.bin .mod (.bif .int (irs [.bin .pow (.bin .add (.bin .add (.ix (.var 0) (.cst (.int 2))) (.bin .mul (.cst (.int 15486181)) (.ix (.var 0) (.cst (.int 3))))) (.cst (.int 179425019))) (.cst (.int 5))])) (.cst (.int 2147483647))), .ret false (.bin .mod (.bif .int (irs [.bin .fdiv (.bin .mod (.bif .int (irs [.bin .pow (.bin .add (.bin .mul (.var 2) (.cst (.int 48271))) (.bin .mul (.cst (.int 104801)) (.ix (.var 0) (.cst (.int 3))))) (.cst (.int 3))])) (.cst (.int 2147483587))) (.cst (.int 64))])) (.var 1))], false⟩
def f31 : Fn := ⟨"_law_same", ["given", "due"], ["given", "due", "k", "key"], sts [.iff (.or (.cmp .isC (.var 1) (.cst .non)) (.inst (.var 1) [.bool])) (sts [.ret false (.ite (.cmp .isC (.var 1) (.cst .non)) (.cmp .isC (.var 0) (.cst .non)) (.and (.inst (.var 0) [.bool]) (.cmp .eq (.cmp .isC (.var 0) (.cst (.bl true))) (.cmp .isC (.var 1) (.cst (.bl true))))))]) (sts []), .iff (.inst (.var 1) [.int]) (sts [.ret false (.and (.inst (.var 0) [.int]) (.and (.not (.inst (.var 0) [.bool])) (.cmp .eq (.bin .sub (.bif .int (irs [.var 0])) (.var 1)) (.cst (.int 0)))))]) (sts []), .iff (.inst (.var 1) [.str]) (sts [.ret false (.and (.inst (.var 0) [.str]) (.cmp .eq (.var 0) (.var 1)))]) (sts []), .iff (.inst (.var 1) [.dict]) (sts [.iff (.or (.not (.inst (.var 0) [.dict])) (.cmp .ne (.bif .len (irs [.var 0])) (.bif .len (irs [.var 1])))) (sts [.ret false (.cst (.bl false))]) (sts []), .ret false (.cmp .eq (.compD [3] (.name 3) 1 (irs [.or (.cmp .notInC (.var 3) (.var 0)) (.not (.call "_law_same" (irs [.ix (.var 0) (.var 3), .ix (.var 1) (.var 3)])))]) (.var 3)) (.lst (irs [])))]) (sts []), .iff (.or (.not (.inst (.var 1) [.list, .tuple])) (.not (.inst (.var 0) [.list, .tuple]))) (sts [.ret false (.cst (.bl false))]) (sts []), .iff (.or (.cmp .ne (.inst (.var 0) [.list]) (.inst (.var 1) [.list])) (.cmp .ne (.bif .len (irs [.var 0])) (.bif .len (irs [.var 1])))) (sts [.ret false (.cst (.bl false))]) (sts []), .ret false (.cmp .eq (.comp [2] (.name 2) (.rng1 (.bif .len (irs [.var 1]))) (irs [.not (.call "_law_same" (irs [.ix (.var 0) (.var 2), .ix (.var 1) (.var 2)]))]) (.var 2)) (.lst (irs [])))], false⟩
def f32 : Fn := ⟨"_law_factor", ["items"], ["items", "found", "item", "one", "other"], sts [.set 1 false (.cst (.int 0)), .for (.name 2) (.it (.var 0)) (sts [.par 3 4 false (.var 1) (.bif .abs (irs [.var 2])), .whl (.cmp .gt (.var 4) (.cst (.int 0))) (sts [.par 3 4 false (.var 4) (.bin .mod (.bif .int (irs [.var 3])) (.var 4))]), .set 1 false (.var 3)]), .ret false (.var 1)], false⟩
def f33 : Fn := ⟨"_law_fraction", ["top", "base"], ["top", "base", "shared"], sts [.set 2 false (.bin .mul (.call "_law_factor" (irs [.lst (irs [.var 0, .var 1])])) (.ite (.cmp .gt (.var 1) (.cst (.int 0))) (.cst (.int 1)) (.neg (.cst (.int 1))))), .ret false (.tup (irs [.bin .fdiv (.var 0) (.var 2), .bin .fdiv (.var 1) (.var 2)]))], false⟩
def f34 : Fn := ⟨"_law_point", ["numbers"], ["numbers", "shared", "item"], sts [.set 1 false (.bin .mul (.call "_law_factor" (irs [.var 0])) (.ite (.cmp .gt (.ix (.var 0) (.neg (.cst (.int 1)))) (.cst (.int 0))) (.cst (.int 1)) (.neg (.cst (.int 1))))), .ret false (.bif .tuple (irs [.comp [2] (.name 2) (.it (.var 0)) (irs []) (.bin .fdiv (.var 2) (.var 1))]))], false⟩
def f35 : Fn := ⟨"_law_side", ["numbers"], ["numbers", "shared", "item"], sts [.set 1 false (.call "_law_factor" (irs [.var 0])), .ret false (.bif .tuple (irs [.comp [2] (.name 2) (.it (.var 0)) (irs []) (.bin .fdiv (.var 2) (.var 1))]))], false⟩
def f36 : Fn := ⟨"_law_any_point", ["box", "size", "wide", "whole"], ["box", "size", "wide", "whole", "base", "k"], sts [.set 4 false (.ite (.var 3) (.cst (.int 1)) (.ix (.lst (irs [.cst (.int 1), .cst (.int 1), .cst (.int 2), .cst (.int 3)])) (.call "_law_take" (irs [.var 0, .cst (.int 4)])))), .ret false (.call "_law_point" (irs [.bin .add (.comp [5] (.name 5) (.rng1 (.var 1)) (irs []) (.bin .sub (.call "_law_take" (irs [.var 0, .bin .add (.bin .mul (.bin .mul (.cst (.int 2)) (.var 2)) (.var 4)) (.cst (.int 1))])) (.bin .mul (.var 2) (.var 4)))) (.lst (irs [.var 4]))]))], false⟩
def f37 : Fn := ⟨"_law_whole", ["value"], ["value"], sts [.ret false (.and (.inst (.var 0) [.int]) (.not (.inst (.var 0) [.bool])))], false⟩
def f38 : Fn := ⟨"_law_is_point", ["value", "size"], ["value", "size", "item"], sts [.iff (.or (.not (.inst (.var 0) [.tuple])) (.or (.cmp .ne (.bif .len (irs [.var 0])) (.bin .add (.var 1) (.cst (.int 1)))) (.cmp .ne (.comp [2] (.name 2) (.it (.var 0)) (irs [.not (.call "_law_whole" (irs [.var 2]))]) (.var 2)) (.lst (irs []))))) (sts [.ret false (.cst (.bl false))]) (sts []), .ret false (.and (.cmp .gt (.ix (.var 0) (.neg (.cst (.int 1)))) (.cst (.int 0))) (.cmp .eq (.call "_law_factor" (irs [.var 0])) (.cst (.int 1))))], false⟩
def f39 : Fn := ⟨"_law_is_side", ["value", "size"], ["value", "size", "item"], sts [.iff (.or (.not (.inst (.var 0) [.tuple])) (.or (.cmp .ne (.bif .len (irs [.var 0])) (.bin .add (.var 1) (.cst (.int 1)))) (.cmp .ne (.comp [2] (.name 2) (.it (.var 0)) (irs [.not (.call "_law_whole" (irs [.var 2]))]) (.var 2)) (.lst (irs []))))) (sts [.ret false (.cst (.bl false))]) (sts []), .ret false (.and (.cmp .ne (.comp [2] (.name 2) (.it (.sl (.var 0) .non (.some (.neg (.cst (.int 1)))))) (irs [.cmp .ne (.var 2) (.cst (.int 0))]) (.var 2)) (.lst (irs []))) (.cmp .eq (.call "_law_factor" (irs [.var 0])) (.cst (.int 1))))], false⟩
def f40 : Fn := ⟨"_law_blamed", ["given", "value"], ["given", "value"], sts [.iff (.not (.call "_law_same" (irs [.var 0, .var 1]))) (sts [.ret false (.cst (.bl false))]) (sts []), .iff (.inst (.var 1) [.list]) (sts [.expr (.app (.var 1) (.cst (.int 7)))]) (sts []), .iff (.inst (.var 1) [.dict]) (sts [.setIx (.var 1) (.cst (.str "more")) (.cst (.int 7))]) (sts []), .ret false (.call "_law_same" (irs [.var 0, .var 1]))], false⟩
def f41 : Fn := ⟨"_law_copy", ["value"], ["value"], sts [.ret true (.ite (.inst (.var 0) [.list]) (.bif .list (irs [.var 0])) (.ite (.inst (.var 0) [.dict]) (.bif .dict (irs [.var 0])) (.var 0)))], true⟩
def f42 : Fn := ⟨"_law_asked", ["which", "value", "by_name"], ["which", "value", "by_name", "e"], sts [.tri (sts [.iff (.cmp .eq (.var 0) (.cst (.int 0))) (sts [.ret false (.lst (irs [.cst (.str "told"), .ite (.var 2) (.callK "point_at" (irs []) ["places"] (irs [.var 1])) (.call "point_at" (irs [.var 1]))]))]) (sts []), .iff (.cmp .eq (.var 0) (.cst (.int 1))) (sts [.ret false (.lst (irs [.cst (.str "told"), .ite (.var 2) (.callK "places_of" (irs []) ["point"] (irs [.var 1])) (.call "places_of" (irs [.var 1]))]))]) (sts []), .ret false (.lst (irs [.cst (.str "told"), .ite (.var 2) (.callK "side_of" (irs []) ["numbers"] (irs [.var 1])) (.call "side_of" (irs [.var 1]))]))]) [⟨"InvalidPlaces", ["InvalidPoint", "InvalidNumbers"], some (true, [.str "places", .fld "given"])⟩, ⟨"InvalidPoint", ["InvalidPlaces", "InvalidNumbers"], some (true, [.str "point", .fld "given"])⟩, ⟨"InvalidNumbers", ["InvalidPlaces", "InvalidPoint"], some (true, [.str "numbers", .fld "given"])⟩, ⟨"PolytopeError", [], none⟩]], false⟩
def f43 : Fn := ⟨"_law_any_side", ["box", "size"], ["box", "size", "numbers", "k", "item"], sts [.set 2 true (.comp [3] (.name 3) (.rng1 (.bin .add (.var 1) (.cst (.int 1)))) (irs []) (.bin .sub (.call "_law_take" (irs [.var 0, .cst (.int 13)])) (.cst (.int 6)))), .iff (.cmp .eq (.comp [4] (.name 4) (.it (.sl (.var 2) .non (.some (.neg (.cst (.int 1)))))) (irs [.cmp .ne (.var 4) (.cst (.int 0))]) (.var 4)) (.lst (irs []))) (sts [.setIx (.var 2) (.call "_law_take" (irs [.var 0, .var 1])) (.bin .add (.cst (.int 1)) (.call "_law_take" (irs [.var 0, .cst (.int 3)])))]) (sts []), .ret false (.call "_law_side" (irs [.var 2]))], false⟩
def f44 : Fn := ⟨"_law_near", ["box", "thing"], ["box", "thing", "rows", "at", "by", "item"], sts [.setT (.tup (tgs [.name 3, .name 4])) false (.tup (irs [.call "_law_take" (irs [.var 0, .bif .len (irs [.var 1])]), .bin .add (.cst (.int 2)) (.call "_law_take" (irs [.var 0, .cst (.int 3)]))])), .set 2 false (.lst (irs [.var 1, .bif .tuple (irs [.comp [5] (.name 5) (.it (.var 1)) (irs []) (.bin .mul (.var 4) (.var 5))]), .bif .list (irs [.var 1]), .sl (.var 1) .non (.some (.neg (.cst (.int 1)))), .bin .add (.var 1) (.tup (irs [.cst (.int 1)])), .bin .add (.sl (.var 1) .non (.some (.neg (.cst (.int 1))))) (.tup (irs [.cst (.int 0)])), .bin .add (.sl (.var 1) .non (.some (.neg (.cst (.int 1))))) (.tup (irs [.bin .sub (.cst (.int 0)) (.ix (.var 1) (.neg (.cst (.int 1))))]))])), .set 2 false (.bin .add (.var 2) (.comp [5] (.name 5) (.it (.lst (irs [.cst (.bl true), .cst .non, .cst (.str "1"), .tup (irs [.cst (.int 1)]), .lst (irs [.cst (.int 1)]), .bin .add (.bin .pow (.cst (.int 10)) (.cst (.int 20))) (.cst (.int 1))]))) (irs []) (.bin .add (.bin .add (.sl (.var 1) .non (.some (.var 3))) (.tup (irs [.var 5]))) (.sl (.var 1) (.some (.bin .add (.var 3) (.cst (.int 1)))) .non)))), .ret false (.bin .add (.var 2) (.lst (irs [.bin .mul (.tup (irs [.cst (.int 0)])) (.bif .len (irs [.var 1])), .bin .add (.bin .mul (.tup (irs [.cst (.int 0)])) (.bin .sub (.bif .len (irs [.var 1])) (.cst (.int 1)))) (.tup (irs [.cst (.int 1)])), .cst .non, .cst (.int 5), .cst (.str "point"), .dct [] .nil, .tup (irs []), .lst (irs []), .cst (.bl true), .tup (irs [.cst (.int 1)]), .tup (irs [.cst (.int 1), .cst (.int 2)]), .tup (irs [.cst (.int 1), .cst (.int 2), .cst (.int 3), .cst (.int 4), .cst (.int 5)])])))], false⟩
def f45 : Fn := ⟨"_law_judged_right", ["box", "thing", "by_name"], ["box", "thing", "by_name", "value", "dues", "told", "given"], sts [.for (.name 3) (.it (.call "_law_near" (irs [.var 0, .var 1]))) (sts [.set 4 false (.lst (irs [.or (.call "_law_is_point" (irs [.var 3, .cst (.int 2)])) (.call "_law_is_point" (irs [.var 3, .cst (.int 3)])), .or (.call "_law_is_side" (irs [.var 3, .cst (.int 2)])) (.call "_law_is_side" (irs [.var 3, .cst (.int 3)]))])), .set 5 false (.ite (.var 2) (.lst (irs [.callK "is_point" (irs []) ["value"] (irs [.var 3]), .callK "is_side" (irs []) ["value"] (irs [.var 3])])) (.lst (irs [.call "is_point" (irs [.var 3]), .call "is_side" (irs [.var 3])]))), .iff (.not (.call "_law_same" (irs [.var 5, .var 4]))) (sts [.ret false (.cst (.bl false))]) (sts []), .iff (.not (.ix (.var 4) (.cst (.int 0)))) (sts [.set 6 false (.call "_law_copy" (irs [.var 3])), .set 5 false (.call "_law_asked" (irs [.cst (.int 1), .var 6, .var 2])), .iff (.or (.cmp .ne (.ix (.var 5) (.cst (.int 0))) (.cst (.str "point"))) (.not (.call "_law_blamed" (irs [.ix (.var 5) (.cst (.int 1)), .var 6])))) (sts [.ret false (.cst (.bl false))]) (sts [])]) (sts []), .set 2 false (.not (.var 2))]), .ret false (.cst (.bl true))], false⟩
def f46 : Fn := ⟨"_law_made_right", ["box", "point", "by_name"], ["box", "point", "by_name", "places", "way", "bases", "whole", "due", "numbers", "top", "base", "side", "by", "item"], sts [.set 3 false (.bif .tuple (irs [.comp [13] (.name 13) (.it (.sl (.var 1) .non (.some (.neg (.cst (.int 1)))))) (irs []) (.call "_law_fraction" (irs [.var 13, .ix (.var 1) (.neg (.cst (.int 1)))]))])), .for (.name 4) (.it (.tup (irs [.var 2, .not (.var 2)]))) (sts [.iff (.not (.call "_law_same" (irs [.lst (irs [.call "_law_asked" (irs [.cst (.int 0), .var 3, .var 4]), .call "_law_asked" (irs [.cst (.int 1), .var 1, .var 4])]), .lst (irs [.lst (irs [.cst (.str "told"), .var 1]), .lst (irs [.cst (.str "told"), .var 3])])]))) (sts [.ret false (.cst (.bl false))]) (sts [])]), .set 5 false (.bif .tuple (irs [.comp [13] (.name 13) (.it (.var 3)) (irs []) (.call "_law_fraction" (irs [.bin .sub (.call "_law_take" (irs [.var 0, .cst (.int 31)])) (.cst (.int 15)), .bin .add (.cst (.int 1)) (.call "_law_take" (irs [.var 0, .cst (.int 9)]))]))])), .set 6 false (.cst (.int 1)), .for (.tup (tgs [.name 9, .name 10])) (.it (.var 5)) (sts [.set 6 false (.bin .fdiv (.bin .mul (.var 6) (.var 10)) (.call "_law_factor" (irs [.lst (irs [.var 6, .var 10])])))]), .set 7 false (.call "_law_point" (irs [.bin .add (.comp [9, 10] (.tup (tgs [.name 9, .name 10])) (.it (.var 5)) (irs []) (.bin .mul (.var 9) (.bin .fdiv (.var 6) (.var 10)))) (.lst (irs [.var 6]))])), .iff (.not (.call "_law_same" (irs [.lst (irs [.call "_law_asked" (irs [.cst (.int 0), .var 5, .var 2]), .call "_law_asked" (irs [.cst (.int 1), .var 7, .not (.var 2)])]), .lst (irs [.lst (irs [.cst (.str "told"), .var 7]), .lst (irs [.cst (.str "told"), .var 5])])]))) (sts [.ret false (.cst (.bl false))]) (sts []), .setT (.tup (tgs [.name 11, .name 12])) false (.tup (irs [.call "_law_any_side" (irs [.var 0, .bif .len (irs [.var 3])]), .bin .add (.cst (.int 1)) (.call "_law_take" (irs [.var 0, .cst (.int 6)]))])), .set 8 false (.bif .tuple (irs [.comp [13] (.name 13) (.it (.var 11)) (irs []) (.bin .mul (.var 12) (.var 13))])), .ret false (.call "_law_same" (irs [.lst (irs [.call "_law_asked" (irs [.cst (.int 2), .var 8, .var 2]), .call "_law_asked" (irs [.cst (.int 2), .var 11, .not (.var 2)])]), .lst (irs [.lst (irs [.cst (.str "told"), .var 11]), .lst (irs [.cst (.str "told"), .var 11])])]))], false⟩
def f47 : Fn := ⟨"_law_refused_right", ["box", "places", "side", "by_name"], ["box", "places", "side", "by_name", "good", "odd", "wrong", "which", "word", "values", "turn", "given", "told"], sts [.set 4 false (.sl (.var 1) .non (.some (.neg (.cst (.int 1))))), .set 5 false (.lst (irs [.cst .non, .cst (.int 5), .tup (irs []), .sl (.var 1) .non (.some (.cst (.int 1))), .bin .add (.var 1) (.bin .mul (.sl (.var 1) .non (.some (.cst (.int 1)))) (.cst (.int 2))), .bif .list (irs [.var 1]), .cst (.str "places"), .dct [] .nil, .bin .add (.var 4) (.tup (irs [.tup (irs [.cst (.int 2), .cst (.int 4)])])), .bin .add (.var 4) (.tup (irs [.tup (irs [.cst (.int 1), .cst (.int 0)])])), .bin .add (.var 4) (.tup (irs [.tup (irs [.cst (.int 1), .neg (.cst (.int 2))])])), .bin .add (.var 4) (.tup (irs [.lst (irs [.cst (.int 1), .cst (.int 2)])])), .bin .add (.var 4) (.tup (irs [.tup (irs [.cst (.bl true), .cst (.int 1)])]))])), .set 5 false (.bin .add (.var 5) (.lst (irs [.bin .add (.var 4) (.tup (irs [.cst (.int 1)])), .bin .add (.var 4) (.tup (irs [.tup (irs [.cst (.int 1), .cst (.int 2), .cst (.int 3)])])), .bin .add (.var 4) (.tup (irs [.cst .non]))]))), .set 6 false (.lst (irs [.cst .non, .cst (.int 5), .tup (irs []), .sl (.var 2) .non (.some (.cst (.int 2))), .bin .add (.var 2) (.bin .mul (.tup (irs [.cst (.int 1)])) (.cst (.int 3))), .bif .list (irs [.var 2]), .cst (.str "numbers"), .dct [] .nil, .bin .mul (.tup (irs [.cst (.int 0)])) (.bif .len (irs [.var 2])), .bin .add (.bin .mul (.tup (irs [.cst (.int 0)])) (.bin .sub (.bif .len (irs [.var 2])) (.cst (.int 1)))) (.tup (irs [.cst (.int 4)])), .bin .add (.sl (.var 2) .non (.some (.neg (.cst (.int 1))))) (.tup (irs [.cst (.bl true)])), .bin .add (.sl (.var 2) .non (.some (.neg (.cst (.int 1))))) (.tup (irs [.cst .non]))])), .set 6 false (.bin .add (.var 6) (.lst (irs [.bin .add (.sl (.var 2) .non (.some (.neg (.cst (.int 1))))) (.tup (irs [.cst (.str "1")])), .bin .add (.sl (.var 2) .non (.some (.neg (.cst (.int 1))))) (.tup (irs [.tup (irs [.cst (.int 1), .cst (.int 2)])]))]))), .for (.tup (tgs [.name 7, .name 8, .name 9])) (.it (.lst (irs [.tup (irs [.cst (.int 0), .cst (.str "places"), .var 5]), .tup (irs [.cst (.int 2), .cst (.str "numbers"), .var 6])]))) (sts [.for (.name 10) (.rng1 (.cst (.int 6))) (sts [.set 11 false (.call "_law_copy" (irs [.ix (.var 9) (.call "_law_take" (irs [.var 0, .bif .len (irs [.var 9])]))])), .set 12 false (.call "_law_asked" (irs [.var 7, .var 11, .var 3])), .iff (.or (.cmp .ne (.ix (.var 12) (.cst (.int 0))) (.var 8)) (.not (.call "_law_blamed" (irs [.ix (.var 12) (.cst (.int 1)), .var 11])))) (sts [.ret false (.cst (.bl false))]) (sts []), .set 3 false (.not (.var 3))])]), .ret false (.cst (.bl true))], false⟩
def f48 : Fn := ⟨"law", ["script"], ["script", "k", "box", "by_name", "size", "places", "point", "side", "item"], sts [.for (.name 1) (.rng1 (.bif .max2 (irs [.cst (.int 2), .bif .min2 (irs [.cst (.int 5), .bif .len (irs [.var 0])])]))) (sts [.set 2 false (.call "_law_box" (irs [.call "_law_cell" (irs [.var 0, .var 1])])), .set 3 false (.cmp .eq (.call "_law_take" (irs [.var 2, .cst (.int 2)])) (.cst (.int 0))), .for (.name 4) (.it (.tup (irs [.cst (.int 2), .cst (.int 3)]))) (sts [.setT (.tup (tgs [.name 6, .name 7])) false (.tup (irs [.call "_law_any_point" (irs [.var 2, .var 4, .cst (.int 9), .cmp .eq (.call "_law_take" (irs [.var 2, .cst (.int 3)])) (.cst (.int 0))]), .call "_law_any_side" (irs [.var 2, .var 4])])), .iff (.or (.not (.call "_law_judged_right" (irs [.var 2, .var 6, .var 3]))) (.or (.not (.call "_law_judged_right" (irs [.var 2, .var 7, .not (.var 3)]))) (.not (.call "_law_made_right" (irs [.var 2, .var 6, .var 3]))))) (sts [.ret false (.cst (.bl false))]) (sts []), .set 5 false (.bif .tuple (irs [.comp [8] (.name 8) (.it (.sl (.var 6) .non (.some (.neg (.cst (.int 1)))))) (irs []) (.call "_law_fraction" (irs [.var 8, .ix (.var 6) (.neg (.cst (.int 1)))]))])), .iff (.not (.call "_law_refused_right" (irs [.var 2, .var 5, .var 7, .var 3]))) (sts [.ret false (.cst (.bl false))]) (sts []), .set 3 false (.not (.var 3))])]), .ret false (.cst (.bl true))], false⟩
def fs_0 : List Fn := [f7, f8, f9, f11, f12, f14, f15, f16, f17, f18, f19, f20, f21, f22, f23, f24, f25, f26, f28, f29, f30, f31, f32, f33, f34]
def fs_1 : List Fn := [f35, f36, f37, f38, f39, f40, f41, f42, f43, f44, f45, f46, f47, f48]
def fs : List Fn := fs_0 ++ fs_1
def q7 : Str × List Str × List (Nat × List Str) := ("is_integer", ["value"], [])
def q8 : Str × List Str × List (Nat × List Str) := ("is_tuple", ["value", "many"], [])
def q9 : Str × List Str × List (Nat × List Str) := ("are_integers", ["value", "many"], [])
def q11 : Str × List Str × List (Nat × List Str) := ("lowest", ["top", "base"], [])
def q12 : Str × List Str × List (Nat × List Str) := ("is_fraction", ["value"], [])
def q14 : Str × List Str × List (Nat × List Str) := ("shared_factor", ["numbers"], [])
def q15 : Str × List Str × List (Nat × List Str) := ("is_of_size", ["value", "size"], [])
def q16 : Str × List Str × List (Nat × List Str) := ("is_point", ["value"], [(0, ["value"])])
def q17 : Str × List Str × List (Nat × List Str) := ("is_side_of", ["value", "size"], [])
def q18 : Str × List Str × List (Nat × List Str) := ("is_side", ["value"], [(0, ["value"])])
def q19 : Str × List Str × List (Nat × List Str) := ("point_from", ["numbers"], [])
def q20 : Str × List Str × List (Nat × List Str) := ("side_from", ["numbers"], [])
def q21 : Str × List Str × List (Nat × List Str) := ("check_point", ["point"], [])
def q22 : Str × List Str × List (Nat × List Str) := ("from_places", ["places"], [])
def q23 : Str × List Str × List (Nat × List Str) := ("point_at", ["places"], [(0, ["places"])])
def q24 : Str × List Str × List (Nat × List Str) := ("places_in", ["point"], [])
def q25 : Str × List Str × List (Nat × List Str) := ("places_of", ["point"], [(0, ["point"])])
def q26 : Str × List Str × List (Nat × List Str) := ("side_of", ["numbers"], [(0, ["numbers"])])
def q28 : Str × List Str × List (Nat × List Str) := ("_law_cell", ["script", "k"], [])
def q29 : Str × List Str × List (Nat × List Str) := ("_law_box", ["great"], [])
def q30 : Str × List Str × List (Nat × List Str) := ("_law_take", ["box", "many"], [])
def q31 : Str × List Str × List (Nat × List Str) := ("_law_same", ["given", "due"], [])
def q32 : Str × List Str × List (Nat × List Str) := ("_law_factor", ["items"], [])
def q33 : Str × List Str × List (Nat × List Str) := ("_law_fraction", ["top", "base"], [])
def q34 : Str × List Str × List (Nat × List Str) := ("_law_point", ["numbers"], [])
def q35 : Str × List Str × List (Nat × List Str) := ("_law_side", ["numbers"], [])
def q36 : Str × List Str × List (Nat × List Str) := ("_law_any_point", ["box", "size", "wide", "whole"], [])
def q37 : Str × List Str × List (Nat × List Str) := ("_law_whole", ["value"], [])
def q38 : Str × List Str × List (Nat × List Str) := ("_law_is_point", ["value", "size"], [])
def q39 : Str × List Str × List (Nat × List Str) := ("_law_is_side", ["value", "size"], [])
def q40 : Str × List Str × List (Nat × List Str) := ("_law_blamed", ["given", "value"], [])
def q41 : Str × List Str × List (Nat × List Str) := ("_law_copy", ["value"], [])
def q42 : Str × List Str × List (Nat × List Str) := ("_law_asked", ["which", "value", "by_name"], [])
def q43 : Str × List Str × List (Nat × List Str) := ("_law_any_side", ["box", "size"], [])
def q44 : Str × List Str × List (Nat × List Str) := ("_law_near", ["box", "thing"], [])
def q45 : Str × List Str × List (Nat × List Str) := ("_law_judged_right", ["box", "thing", "by_name"], [])
def q46 : Str × List Str × List (Nat × List Str) := ("_law_made_right", ["box", "point", "by_name"], [])
def q47 : Str × List Str × List (Nat × List Str) := ("_law_refused_right", ["box", "places", "side", "by_name"], [])
def q48 : Str × List Str × List (Nat × List Str) := ("law", ["script"], [])
def funs_0 : List (Str × List Str × List (Nat × List Str)) := [q7, q8, q9, q11, q12, q14, q15, q16, q17, q18, q19, q20, q21, q22, q23, q24, q25, q26, q28, q29, q30, q31, q32, q33, q34]
def funs_1 : List (Str × List Str × List (Nat × List Str)) := [q35, q36, q37, q38, q39, q40, q41, q42, q43, q44, q45, q46, q47, q48]
def funs : List (Str × List Str × List (Nat × List Str)) := funs_0 ++ funs_1
def ecl : List (Str × Str) := [("InvalidPlaces", "given"), ("InvalidPoint", "given"), ("InvalidNumbers", "given")]
def es : List Ec := [⟨"InvalidPlaces", some "given"⟩, ⟨"InvalidPoint", some "given"⟩, ⟨"InvalidNumbers", some "given"⟩]
def blts : List Str := ["abs", "all", "any", "bool", "dict", "int", "isinstance", "len", "list", "max", "min", "range", "str", "sum", "tuple"]
def hds : List (Str × Str × List Str) := [("InvalidPlaces", "given", ["InvalidPoint", "InvalidNumbers"]), ("InvalidPoint", "given", ["InvalidPlaces", "InvalidNumbers"]), ("InvalidNumbers", "given", ["InvalidPlaces", "InvalidPoint"])]
def skp : List (Str × List Str) := [("PolytopeError", [])]
def tb : Tab := ⟨funs, ecl, blts, true, [], hds, skp⟩
def G : Sig := sigOf tb
def d7 : He.DefD := ⟨("is_integer", none), "is_integer", "is_integer", defArgs (top 7), defBody (top 7), defScope (top 7), [], []⟩
def d8 : He.DefD := ⟨("is_tuple", none), "is_tuple", "is_tuple", defArgs (top 8), defBody (top 8), defScope (top 8), [], []⟩
def d9 : He.DefD := ⟨("are_integers", none), "are_integers", "are_integers", defArgs (top 9), defBody (top 9), defScope (top 9), [], []⟩
def d11 : He.DefD := ⟨("lowest", none), "lowest", "lowest", defArgs (top 11), defBody (top 11), defScope (top 11), [], []⟩
def d12 : He.DefD := ⟨("is_fraction", none), "is_fraction", "is_fraction", defArgs (top 12), defBody (top 12), defScope (top 12), [], []⟩
def d14 : He.DefD := ⟨("shared_factor", none), "shared_factor", "shared_factor", defArgs (top 14), defBody (top 14), defScope (top 14), [], []⟩
def d15 : He.DefD := ⟨("is_of_size", none), "is_of_size", "is_of_size", defArgs (top 15), defBody (top 15), defScope (top 15), [], []⟩
def d16 : He.DefD := ⟨("is_point", none), "is_point", "is_point", defArgs (top 16), defBody (top 16), defScope (top 16), [], []⟩
def d17 : He.DefD := ⟨("is_side_of", none), "is_side_of", "is_side_of", defArgs (top 17), defBody (top 17), defScope (top 17), [], []⟩
def d18 : He.DefD := ⟨("is_side", none), "is_side", "is_side", defArgs (top 18), defBody (top 18), defScope (top 18), [], []⟩
def d19 : He.DefD := ⟨("point_from", none), "point_from", "point_from", defArgs (top 19), defBody (top 19), defScope (top 19), [], []⟩
def d20 : He.DefD := ⟨("side_from", none), "side_from", "side_from", defArgs (top 20), defBody (top 20), defScope (top 20), [], []⟩
def d21 : He.DefD := ⟨("check_point", none), "check_point", "check_point", defArgs (top 21), defBody (top 21), defScope (top 21), [], []⟩
def d22 : He.DefD := ⟨("from_places", none), "from_places", "from_places", defArgs (top 22), defBody (top 22), defScope (top 22), [], []⟩
def d23 : He.DefD := ⟨("point_at", none), "point_at", "point_at", defArgs (top 23), defBody (top 23), defScope (top 23), [], []⟩
def d24 : He.DefD := ⟨("places_in", none), "places_in", "places_in", defArgs (top 24), defBody (top 24), defScope (top 24), [], []⟩
def d25 : He.DefD := ⟨("places_of", none), "places_of", "places_of", defArgs (top 25), defBody (top 25), defScope (top 25), [], []⟩
def d26 : He.DefD := ⟨("side_of", none), "side_of", "side_of", defArgs (top 26), defBody (top 26), defScope (top 26), [], []⟩
def d28 : He.DefD := ⟨("_law_cell", none), "_law_cell", "_law_cell", defArgs (top 28), defBody (top 28), defScope (top 28), [], []⟩
def d29 : He.DefD := ⟨("_law_box", none), "_law_box", "_law_box", defArgs (top 29), defBody (top 29), defScope (top 29), [], []⟩
def d30 : He.DefD := ⟨("_law_take", none), "_law_take", "_law_take", defArgs (top 30), defBody (top 30), defScope (top 30), [], []⟩
def d31 : He.DefD := ⟨("_law_same", none), "_law_same", "_law_same", defArgs (top 31), defBody (top 31), defScope (top 31), [], []⟩
def d32 : He.DefD := ⟨("_law_factor", none), "_law_factor", "_law_factor", defArgs (top 32), defBody (top 32), defScope (top 32), [], []⟩
def d33 : He.DefD := ⟨("_law_fraction", none), "_law_fraction", "_law_fraction", defArgs (top 33), defBody (top 33), defScope (top 33), [], []⟩
def d34 : He.DefD := ⟨("_law_point", none), "_law_point", "_law_point", defArgs (top 34), defBody (top 34), defScope (top 34), [], []⟩
def d35 : He.DefD := ⟨("_law_side", none), "_law_side", "_law_side", defArgs (top 35), defBody (top 35), defScope (top 35), [], []⟩
def d36 : He.DefD := ⟨("_law_any_point", none), "_law_any_point", "_law_any_point", defArgs (top 36), defBody (top 36), defScope (top 36), [], []⟩
def d37 : He.DefD := ⟨("_law_whole", none), "_law_whole", "_law_whole", defArgs (top 37), defBody (top 37), defScope (top 37), [], []⟩
def d38 : He.DefD := ⟨("_law_is_point", none), "_law_is_point", "_law_is_point", defArgs (top 38), defBody (top 38), defScope (top 38), [], []⟩
def d39 : He.DefD := ⟨("_law_is_side", none), "_law_is_side", "_law_is_side", defArgs (top 39), defBody (top 39), defScope (top 39), [], []⟩
def d40 : He.DefD := ⟨("_law_blamed", none), "_law_blamed", "_law_blamed", defArgs (top 40), defBody (top 40), defScope (top 40), [], []⟩
def d41 : He.DefD := ⟨("_law_copy", none), "_law_copy", "_law_copy", defArgs (top 41), defBody (top 41), defScope (top 41), [], []⟩
def d42 : He.DefD := ⟨("_law_asked", none), "_law_asked", "_law_asked", defArgs (top 42), defBody (top 42), defScope (top 42), [], []⟩
def d43 : He.DefD := ⟨("_law_any_side", none), "_law_any_side", "_law_any_side", defArgs (top 43), defBody (top 43), defScope (top 43), [], []⟩
def d44 : He.DefD := ⟨("_law_near", none), "_law_near", "_law_near", defArgs (top 44), defBody (top 44), defScope (top 44), [], []⟩
def d45 : He.DefD := ⟨("_law_judged_right", none), "_law_judged_right", "_law_judged_right", defArgs (top 45), defBody (top 45), defScope (top 45), [], []⟩
def d46 : He.DefD := ⟨("_law_made_right", none), "_law_made_right", "_law_made_right", defArgs (top 46), defBody (top 46), defScope (top 46), [], []⟩
def d47 : He.DefD := ⟨("_law_refused_right", none), "_law_refused_right", "_law_refused_right", defArgs (top 47), defBody (top 47), defScope (top 47), [], []⟩
def d48 : He.DefD := ⟨("law", none), "law", "law", defArgs (top 48), defBody (top 48), defScope (top 48), [], []⟩
def m3 : Stmt := clsInit (top 3)
def d3 : He.DefD := ⟨("InvalidPlaces", some "__init__"), "__init__", "InvalidPlaces.__init__", defArgs m3, defBody m3, defScope m3, [], []⟩
def m4 : Stmt := clsInit (top 4)
def d4 : He.DefD := ⟨("InvalidPoint", some "__init__"), "__init__", "InvalidPoint.__init__", defArgs m4, defBody m4, defScope m4, [], []⟩
def m5 : Stmt := clsInit (top 5)
def d5 : He.DefD := ⟨("InvalidNumbers", some "__init__"), "__init__", "InvalidNumbers.__init__", defArgs m5, defBody m5, defScope m5, [], []⟩
def fn_0 : List He.DefD := [d7, d8, d9, d11, d12, d14, d15, d16, d17, d18, d19, d20, d21, d22, d23, d24, d25, d26, d28, d29, d30, d31, d32, d33, d34]
def fn_1 : List He.DefD := [d35, d36, d37, d38, d39, d40, d41, d42, d43, d44, d45, d46, d47, d48, d3, d4, d5]
def fn : List He.DefD := fn_0 ++ fn_1
def fa_0 : List He.Fa := [.glo "is_integer", .glo "is_tuple", .glo "are_integers", .glo "lowest", .glo "is_fraction", .glo "shared_factor", .glo "is_of_size", .glo "is_point", .glo "is_side_of", .glo "is_side", .glo "point_from", .glo "side_from", .glo "check_point", .glo "from_places", .glo "point_at", .glo "places_in", .glo "places_of", .glo "side_of", .glo "_law_cell", .glo "_law_box", .glo "_law_take", .glo "_law_same", .glo "_law_factor", .glo "_law_fraction", .glo "_law_point"]
def fa_1 : List He.Fa := [.glo "_law_side", .glo "_law_any_point", .glo "_law_whole", .glo "_law_is_point", .glo "_law_is_side", .glo "_law_blamed", .glo "_law_copy", .glo "_law_asked", .glo "_law_any_side", .glo "_law_near", .glo "_law_judged_right", .glo "_law_made_right", .glo "_law_refused_right", .glo "law", .glo "PolytopeError", .glo "InvalidPlaces", .glo "InvalidPoint", .glo "InvalidNumbers", .free "abs", .free "all", .free "any", .free "bool", .free "dict", .free "int", .free "isinstance"]
def fa_2 : List He.Fa := [.free "len", .free "list", .free "max", .free "min", .free "range", .free "str", .free "sum", .free "tuple"]
def fa : List He.Fa := fa_0 ++ fa_1 ++ fa_2
def loose_0 : List Str := ["__name__", "PolytopeError", "InvalidPlaces", "InvalidPoint", "InvalidNumbers", "is_integer", "is_tuple", "are_integers", "lowest", "is_fraction", "shared_factor", "is_of_size", "is_point", "is_side_of", "is_side", "point_from", "side_from", "check_point", "from_places", "point_at", "places_in", "places_of", "side_of", "_law_cell", "_law_box"]
def loose_1 : List Str := ["_law_take", "_law_same", "_law_factor", "_law_fraction", "_law_point", "_law_side", "_law_any_point", "_law_whole", "_law_is_point", "_law_is_side", "_law_blamed", "_law_copy", "_law_asked", "_law_any_side", "_law_near", "_law_judged_right", "_law_made_right", "_law_refused_right"]
def loose : List Str := loose_0 ++ loose_1
def exl : List (Str × Str) := [("InvalidPoint", "InvalidPlaces"), ("InvalidNumbers", "InvalidPlaces"), ("InvalidPlaces", "InvalidPoint"), ("InvalidNumbers", "InvalidPoint"), ("InvalidPlaces", "InvalidNumbers"), ("InvalidPoint", "InvalidNumbers")]
def ecx : List (Str × Str × Str) := [("InvalidPlaces", "PolytopeError", "given"), ("InvalidPoint", "PolytopeError", "given"), ("InvalidNumbers", "PolytopeError", "given")]
def cb : PySem.W.Frag → Bool := factsB fa tb.gcd ecx exl
abbrev R : PySem.W.OpenRow := PySem.W.OpenLaw.row PySem.Challenge.rw_polytopebench_k01_judged_made
abbrev hk : PySem.W.Hook := hookC 6 cb fn
abbrev vw : Program := PySem.W.view R.prog [0, 48]
theorem run (w : World) : HandSHeadRun.RunEqI R vw hk (obC 6 cb fn) 6000 loose w := by
  unfold HandSHeadRun.RunEqI
  kernel_rfl

theorem s7 : FnScope f7.N f7.ps (defScope (top 7)) := ⟨rfl, rfl, rfl, by decide +kernel, rfl, by decide +kernel, by decide +kernel⟩
theorem c7 : chkL (chkS (chk 60) 60 ⟨f7.N, defScope (top 7), none, tb⟩) (defBody (top 7)) f7.body = true := by kernel_rfl
theorem s8 : FnScope f8.N f8.ps (defScope (top 8)) := ⟨rfl, rfl, rfl, by decide +kernel, rfl, by decide +kernel, by decide +kernel⟩
theorem c8 : chkL (chkS (chk 60) 60 ⟨f8.N, defScope (top 8), none, tb⟩) (defBody (top 8)) f8.body = true := by kernel_rfl
theorem s9 : FnScope f9.N f9.ps (defScope (top 9)) := ⟨rfl, rfl, rfl, by decide +kernel, rfl, by decide +kernel, by decide +kernel⟩
theorem c9 : chkL (chkS (chk 60) 60 ⟨f9.N, defScope (top 9), none, tb⟩) (defBody (top 9)) f9.body = true := by kernel_rfl
theorem s11 : FnScope f11.N f11.ps (defScope (top 11)) := ⟨rfl, rfl, rfl, by decide +kernel, rfl, by decide +kernel, by decide +kernel⟩
theorem c11 : chkL (chkS (chk 60) 60 ⟨f11.N, defScope (top 11), none, tb⟩) (defBody (top 11)) f11.body = true := by kernel_rfl
theorem s12 : FnScope f12.N f12.ps (defScope (top 12)) := ⟨rfl, rfl, rfl, by decide +kernel, rfl, by decide +kernel, by decide +kernel⟩
theorem c12 : chkL (chkS (chk 60) 60 ⟨f12.N, defScope (top 12), none, tb⟩) (defBody (top 12)) f12.body = true := by kernel_rfl
theorem s14 : FnScope f14.N f14.ps (defScope (top 14)) := ⟨rfl, rfl, rfl, by decide +kernel, rfl, by decide +kernel, by decide +kernel⟩
theorem c14 : chkL (chkS (chk 60) 60 ⟨f14.N, defScope (top 14), none, tb⟩) (defBody (top 14)) f14.body = true := by kernel_rfl
theorem s15 : FnScope f15.N f15.ps (defScope (top 15)) := ⟨rfl, rfl, rfl, by decide +kernel, rfl, by decide +kernel, by decide +kernel⟩
theorem c15 : chkL (chkS (chk 60) 60 ⟨f15.N, defScope (top 15), none, tb⟩) (defBody (top 15)) f15.body = true := by kernel_rfl
theorem s16 : FnScope f16.N f16.ps (defScope (top 16)) := ⟨rfl, rfl, rfl, by decide +kernel, rfl, by decide +kernel, by decide +kernel⟩
theorem c16 : chkL (chkS (chk 60) 60 ⟨f16.N, defScope (top 16), none, tb⟩) (defBody (top 16)) f16.body = true := by kernel_rfl
theorem s17 : FnScope f17.N f17.ps (defScope (top 17)) := ⟨rfl, rfl, rfl, by decide +kernel, rfl, by decide +kernel, by decide +kernel⟩
theorem c17 : chkL (chkS (chk 60) 60 ⟨f17.N, defScope (top 17), none, tb⟩) (defBody (top 17)) f17.body = true := by kernel_rfl
theorem s18 : FnScope f18.N f18.ps (defScope (top 18)) := ⟨rfl, rfl, rfl, by decide +kernel, rfl, by decide +kernel, by decide +kernel⟩
theorem c18 : chkL (chkS (chk 60) 60 ⟨f18.N, defScope (top 18), none, tb⟩) (defBody (top 18)) f18.body = true := by kernel_rfl
theorem s19 : FnScope f19.N f19.ps (defScope (top 19)) := ⟨rfl, rfl, rfl, by decide +kernel, rfl, by decide +kernel, by decide +kernel⟩
theorem c19 : chkL (chkS (chk 60) 60 ⟨f19.N, defScope (top 19), none, tb⟩) (defBody (top 19)) f19.body = true := by kernel_rfl
theorem s20 : FnScope f20.N f20.ps (defScope (top 20)) := ⟨rfl, rfl, rfl, by decide +kernel, rfl, by decide +kernel, by decide +kernel⟩
theorem c20 : chkL (chkS (chk 60) 60 ⟨f20.N, defScope (top 20), none, tb⟩) (defBody (top 20)) f20.body = true := by kernel_rfl
theorem s21 : FnScope f21.N f21.ps (defScope (top 21)) := ⟨rfl, rfl, rfl, by decide +kernel, rfl, by decide +kernel, by decide +kernel⟩
theorem c21 : chkL (chkS (chk 60) 60 ⟨f21.N, defScope (top 21), none, tb⟩) (defBody (top 21)) f21.body = true := by kernel_rfl
theorem s22 : FnScope f22.N f22.ps (defScope (top 22)) := ⟨rfl, rfl, rfl, by decide +kernel, rfl, by decide +kernel, by decide +kernel⟩
theorem c22 : chkL (chkS (chk 60) 60 ⟨f22.N, defScope (top 22), none, tb⟩) (defBody (top 22)) f22.body = true := by kernel_rfl
theorem s23 : FnScope f23.N f23.ps (defScope (top 23)) := ⟨rfl, rfl, rfl, by decide +kernel, rfl, by decide +kernel, by decide +kernel⟩
theorem c23 : chkL (chkS (chk 60) 60 ⟨f23.N, defScope (top 23), none, tb⟩) (defBody (top 23)) f23.body = true := by kernel_rfl
theorem s24 : FnScope f24.N f24.ps (defScope (top 24)) := ⟨rfl, rfl, rfl, by decide +kernel, rfl, by decide +kernel, by decide +kernel⟩
theorem c24 : chkL (chkS (chk 60) 60 ⟨f24.N, defScope (top 24), none, tb⟩) (defBody (top 24)) f24.body = true := by kernel_rfl
theorem s25 : FnScope f25.N f25.ps (defScope (top 25)) := ⟨rfl, rfl, rfl, by decide +kernel, rfl, by decide +kernel, by decide +kernel⟩
theorem c25 : chkL (chkS (chk 60) 60 ⟨f25.N, defScope (top 25), none, tb⟩) (defBody (top 25)) f25.body = true := by kernel_rfl
theorem s26 : FnScope f26.N f26.ps (defScope (top 26)) := ⟨rfl, rfl, rfl, by decide +kernel, rfl, by decide +kernel, by decide +kernel⟩
theorem c26 : chkL (chkS (chk 60) 60 ⟨f26.N, defScope (top 26), none, tb⟩) (defBody (top 26)) f26.body = true := by kernel_rfl
theorem s28 : FnScope f28.N f28.ps (defScope (top 28)) := ⟨rfl, rfl, rfl, by decide +kernel, rfl, by decide +kernel, by decide +kernel⟩
theorem c28 : chkL (chkS (chk 60) 60 ⟨f28.N, defScope (top 28), none, tb⟩) (defBody (top 28)) f28.body = true := by kernel_rfl
theorem s29 : FnScope f29.N f29.ps (defScope (top 29)) := ⟨rfl, rfl, rfl, by decide +kernel, rfl, by decide +kernel, by decide +kernel⟩
theorem c29 : chkL (chkS (chk 60) 60 ⟨f29.N, defScope (top 29), none, tb⟩) (defBody (top 29)) f29.body = true := by kernel_rfl
theorem s30 : FnScope f30.N f30.ps (defScope (top 30)) := ⟨rfl, rfl, rfl, by decide +kernel, rfl, by decide +kernel, by decide +kernel⟩
theorem c30 : chkL (chkS (chk 60) 60 ⟨f30.N, defScope (top 30), none, tb⟩) (defBody (top 30)) f30.body = true := by kernel_rfl
theorem s31 : FnScope f31.N f31.ps (defScope (top 31)) := ⟨rfl, rfl, rfl, by decide +kernel, rfl, by decide +kernel, by decide +kernel⟩
theorem c31 : chkL (chkS (chk 60) 60 ⟨f31.N, defScope (top 31), none, tb⟩) (defBody (top 31)) f31.body = true := by kernel_rfl
theorem s32 : FnScope f32.N f32.ps (defScope (top 32)) := ⟨rfl, rfl, rfl, by decide +kernel, rfl, by decide +kernel, by decide +kernel⟩
theorem c32 : chkL (chkS (chk 60) 60 ⟨f32.N, defScope (top 32), none, tb⟩) (defBody (top 32)) f32.body = true := by kernel_rfl
theorem s33 : FnScope f33.N f33.ps (defScope (top 33)) := ⟨rfl, rfl, rfl, by decide +kernel, rfl, by decide +kernel, by decide +kernel⟩
theorem c33 : chkL (chkS (chk 60) 60 ⟨f33.N, defScope (top 33), none, tb⟩) (defBody (top 33)) f33.body = true := by kernel_rfl
theorem s34 : FnScope f34.N f34.ps (defScope (top 34)) := ⟨rfl, rfl, rfl, by decide +kernel, rfl, by decide +kernel, by decide +kernel⟩
theorem c34 : chkL (chkS (chk 60) 60 ⟨f34.N, defScope (top 34), none, tb⟩) (defBody (top 34)) f34.body = true := by kernel_rfl
theorem s35 : FnScope f35.N f35.ps (defScope (top 35)) := ⟨rfl, rfl, rfl, by decide +kernel, rfl, by decide +kernel, by decide +kernel⟩
theorem c35 : chkL (chkS (chk 60) 60 ⟨f35.N, defScope (top 35), none, tb⟩) (defBody (top 35)) f35.body = true := by kernel_rfl
theorem s36 : FnScope f36.N f36.ps (defScope (top 36)) := ⟨rfl, rfl, rfl, by decide +kernel, rfl, by decide +kernel, by decide +kernel⟩
theorem c36 : chkL (chkS (chk 60) 60 ⟨f36.N, defScope (top 36), none, tb⟩) (defBody (top 36)) f36.body = true := by kernel_rfl
theorem s37 : FnScope f37.N f37.ps (defScope (top 37)) := ⟨rfl, rfl, rfl, by decide +kernel, rfl, by decide +kernel, by decide +kernel⟩
theorem c37 : chkL (chkS (chk 60) 60 ⟨f37.N, defScope (top 37), none, tb⟩) (defBody (top 37)) f37.body = true := by kernel_rfl
theorem s38 : FnScope f38.N f38.ps (defScope (top 38)) := ⟨rfl, rfl, rfl, by decide +kernel, rfl, by decide +kernel, by decide +kernel⟩
theorem c38 : chkL (chkS (chk 60) 60 ⟨f38.N, defScope (top 38), none, tb⟩) (defBody (top 38)) f38.body = true := by kernel_rfl
theorem s39 : FnScope f39.N f39.ps (defScope (top 39)) := ⟨rfl, rfl, rfl, by decide +kernel, rfl, by decide +kernel, by decide +kernel⟩
theorem c39 : chkL (chkS (chk 60) 60 ⟨f39.N, defScope (top 39), none, tb⟩) (defBody (top 39)) f39.body = true := by kernel_rfl
theorem s40 : FnScope f40.N f40.ps (defScope (top 40)) := ⟨rfl, rfl, rfl, by decide +kernel, rfl, by decide +kernel, by decide +kernel⟩
theorem c40 : chkL (chkS (chk 60) 60 ⟨f40.N, defScope (top 40), none, tb⟩) (defBody (top 40)) f40.body = true := by kernel_rfl
theorem s41 : FnScope f41.N f41.ps (defScope (top 41)) := ⟨rfl, rfl, rfl, by decide +kernel, rfl, by decide +kernel, by decide +kernel⟩
theorem c41 : chkL (chkS (chk 60) 60 ⟨f41.N, defScope (top 41), none, tb⟩) (defBody (top 41)) f41.body = true := by kernel_rfl
theorem s42 : FnScope f42.N f42.ps (defScope (top 42)) := ⟨rfl, rfl, rfl, by decide +kernel, rfl, by decide +kernel, by decide +kernel⟩
theorem c42 : chkL (chkS (chk 60) 60 ⟨f42.N, defScope (top 42), none, tb⟩) (defBody (top 42)) f42.body = true := by kernel_rfl
theorem s43 : FnScope f43.N f43.ps (defScope (top 43)) := ⟨rfl, rfl, rfl, by decide +kernel, rfl, by decide +kernel, by decide +kernel⟩
theorem c43 : chkL (chkS (chk 60) 60 ⟨f43.N, defScope (top 43), none, tb⟩) (defBody (top 43)) f43.body = true := by kernel_rfl
theorem s44 : FnScope f44.N f44.ps (defScope (top 44)) := ⟨rfl, rfl, rfl, by decide +kernel, rfl, by decide +kernel, by decide +kernel⟩
theorem c44 : chkL (chkS (chk 60) 60 ⟨f44.N, defScope (top 44), none, tb⟩) (defBody (top 44)) f44.body = true := by kernel_rfl
theorem s45 : FnScope f45.N f45.ps (defScope (top 45)) := ⟨rfl, rfl, rfl, by decide +kernel, rfl, by decide +kernel, by decide +kernel⟩
theorem c45 : chkL (chkS (chk 60) 60 ⟨f45.N, defScope (top 45), none, tb⟩) (defBody (top 45)) f45.body = true := by kernel_rfl
theorem s46 : FnScope f46.N f46.ps (defScope (top 46)) := ⟨rfl, rfl, rfl, by decide +kernel, rfl, by decide +kernel, by decide +kernel⟩
theorem c46 : chkL (chkS (chk 60) 60 ⟨f46.N, defScope (top 46), none, tb⟩) (defBody (top 46)) f46.body = true := by kernel_rfl
theorem s47 : FnScope f47.N f47.ps (defScope (top 47)) := ⟨rfl, rfl, rfl, by decide +kernel, rfl, by decide +kernel, by decide +kernel⟩
theorem c47 : chkL (chkS (chk 60) 60 ⟨f47.N, defScope (top 47), none, tb⟩) (defBody (top 47)) f47.body = true := by kernel_rfl
theorem s48 : FnScope f48.N f48.ps (defScope (top 48)) := ⟨rfl, rfl, rfl, by decide +kernel, rfl, by decide +kernel, by decide +kernel⟩
theorem c48 : chkL (chkS (chk 60) 60 ⟨f48.N, defScope (top 48), none, tb⟩) (defBody (top 48)) f48.body = true := by kernel_rfl
theorem a7 {K : PySem.W.Frag} {mg : Str → Option Value} (c : SaysC cb fn K) (F : Facts fa tb.gcd ecx exl K mg) : DefAt K mg G fs tb q7 := by
  obtain ⟨fd, D⟩ := c.def_ 0 (d := d7) (by kernel_rfl)
  exact ⟨by kernel_rfl, f7, "is_integer", defArgs (top 7), defBody (top 7), defScope (top 7), He.ga K "is_integer", fd, by kernel_rfl, rfl, D, s7, ⟨60, 60, c7⟩, F.glo' (by kernel_rfl), fun _ _ _ _ _ _ us hl => match us, hl with | [_], _ => rfl, all_nil⟩
theorem a8 {K : PySem.W.Frag} {mg : Str → Option Value} (c : SaysC cb fn K) (F : Facts fa tb.gcd ecx exl K mg) : DefAt K mg G fs tb q8 := by
  obtain ⟨fd, D⟩ := c.def_ 1 (d := d8) (by kernel_rfl)
  exact ⟨by kernel_rfl, f8, "is_tuple", defArgs (top 8), defBody (top 8), defScope (top 8), He.ga K "is_tuple", fd, by kernel_rfl, rfl, D, s8, ⟨60, 60, c8⟩, F.glo' (by kernel_rfl), fun _ _ _ _ _ _ us hl => match us, hl with | [_, _], _ => rfl, all_nil⟩
theorem a9 {K : PySem.W.Frag} {mg : Str → Option Value} (c : SaysC cb fn K) (F : Facts fa tb.gcd ecx exl K mg) : DefAt K mg G fs tb q9 := by
  obtain ⟨fd, D⟩ := c.def_ 2 (d := d9) (by kernel_rfl)
  exact ⟨by kernel_rfl, f9, "are_integers", defArgs (top 9), defBody (top 9), defScope (top 9), He.ga K "are_integers", fd, by kernel_rfl, rfl, D, s9, ⟨60, 60, c9⟩, F.glo' (by kernel_rfl), fun _ _ _ _ _ _ us hl => match us, hl with | [_, _], _ => rfl, all_nil⟩
theorem a11 {K : PySem.W.Frag} {mg : Str → Option Value} (c : SaysC cb fn K) (F : Facts fa tb.gcd ecx exl K mg) : DefAt K mg G fs tb q11 := by
  obtain ⟨fd, D⟩ := c.def_ 3 (d := d11) (by kernel_rfl)
  exact ⟨by kernel_rfl, f11, "lowest", defArgs (top 11), defBody (top 11), defScope (top 11), He.ga K "lowest", fd, by kernel_rfl, rfl, D, s11, ⟨60, 60, c11⟩, F.glo' (by kernel_rfl), fun _ _ _ _ _ _ us hl => match us, hl with | [_, _], _ => rfl, all_nil⟩
theorem a12 {K : PySem.W.Frag} {mg : Str → Option Value} (c : SaysC cb fn K) (F : Facts fa tb.gcd ecx exl K mg) : DefAt K mg G fs tb q12 := by
  obtain ⟨fd, D⟩ := c.def_ 4 (d := d12) (by kernel_rfl)
  exact ⟨by kernel_rfl, f12, "is_fraction", defArgs (top 12), defBody (top 12), defScope (top 12), He.ga K "is_fraction", fd, by kernel_rfl, rfl, D, s12, ⟨60, 60, c12⟩, F.glo' (by kernel_rfl), fun _ _ _ _ _ _ us hl => match us, hl with | [_], _ => rfl, all_nil⟩
theorem a14 {K : PySem.W.Frag} {mg : Str → Option Value} (c : SaysC cb fn K) (F : Facts fa tb.gcd ecx exl K mg) : DefAt K mg G fs tb q14 := by
  obtain ⟨fd, D⟩ := c.def_ 5 (d := d14) (by kernel_rfl)
  exact ⟨by kernel_rfl, f14, "shared_factor", defArgs (top 14), defBody (top 14), defScope (top 14), He.ga K "shared_factor", fd, by kernel_rfl, rfl, D, s14, ⟨60, 60, c14⟩, F.glo' (by kernel_rfl), fun _ _ _ _ _ _ us hl => match us, hl with | [_], _ => rfl, all_nil⟩
theorem a15 {K : PySem.W.Frag} {mg : Str → Option Value} (c : SaysC cb fn K) (F : Facts fa tb.gcd ecx exl K mg) : DefAt K mg G fs tb q15 := by
  obtain ⟨fd, D⟩ := c.def_ 6 (d := d15) (by kernel_rfl)
  exact ⟨by kernel_rfl, f15, "is_of_size", defArgs (top 15), defBody (top 15), defScope (top 15), He.ga K "is_of_size", fd, by kernel_rfl, rfl, D, s15, ⟨60, 60, c15⟩, F.glo' (by kernel_rfl), fun _ _ _ _ _ _ us hl => match us, hl with | [_, _], _ => rfl, all_nil⟩
theorem a16 {K : PySem.W.Frag} {mg : Str → Option Value} (c : SaysC cb fn K) (F : Facts fa tb.gcd ecx exl K mg) : DefAt K mg G fs tb q16 := by
  obtain ⟨fd, D⟩ := c.def_ 7 (d := d16) (by kernel_rfl)
  exact ⟨by kernel_rfl, f16, "is_point", defArgs (top 16), defBody (top 16), defScope (top 16), He.ga K "is_point", fd, by kernel_rfl, rfl, D, s16, ⟨60, 60, c16⟩, F.glo' (by kernel_rfl), fun _ _ _ _ _ _ us hl => match us, hl with | [_], _ => rfl, all_cons (α := Nat × List Str) (p := fun p : Nat × List Str => BindK "is_point" "is_point" (defArgs (top 16)) (defBody (top 16)) (defScope (top 16)) q16.2.1 p.1 p.2) (fun _ _ _ _ _ _ us ws h1 h2 => match us, ws, h1, h2 with | [], [_], _, _ => rfl) (all_nil)⟩
theorem a17 {K : PySem.W.Frag} {mg : Str → Option Value} (c : SaysC cb fn K) (F : Facts fa tb.gcd ecx exl K mg) : DefAt K mg G fs tb q17 := by
  obtain ⟨fd, D⟩ := c.def_ 8 (d := d17) (by kernel_rfl)
  exact ⟨by kernel_rfl, f17, "is_side_of", defArgs (top 17), defBody (top 17), defScope (top 17), He.ga K "is_side_of", fd, by kernel_rfl, rfl, D, s17, ⟨60, 60, c17⟩, F.glo' (by kernel_rfl), fun _ _ _ _ _ _ us hl => match us, hl with | [_, _], _ => rfl, all_nil⟩
theorem a18 {K : PySem.W.Frag} {mg : Str → Option Value} (c : SaysC cb fn K) (F : Facts fa tb.gcd ecx exl K mg) : DefAt K mg G fs tb q18 := by
  obtain ⟨fd, D⟩ := c.def_ 9 (d := d18) (by kernel_rfl)
  exact ⟨by kernel_rfl, f18, "is_side", defArgs (top 18), defBody (top 18), defScope (top 18), He.ga K "is_side", fd, by kernel_rfl, rfl, D, s18, ⟨60, 60, c18⟩, F.glo' (by kernel_rfl), fun _ _ _ _ _ _ us hl => match us, hl with | [_], _ => rfl, all_cons (α := Nat × List Str) (p := fun p : Nat × List Str => BindK "is_side" "is_side" (defArgs (top 18)) (defBody (top 18)) (defScope (top 18)) q18.2.1 p.1 p.2) (fun _ _ _ _ _ _ us ws h1 h2 => match us, ws, h1, h2 with | [], [_], _, _ => rfl) (all_nil)⟩
theorem a19 {K : PySem.W.Frag} {mg : Str → Option Value} (c : SaysC cb fn K) (F : Facts fa tb.gcd ecx exl K mg) : DefAt K mg G fs tb q19 := by
  obtain ⟨fd, D⟩ := c.def_ 10 (d := d19) (by kernel_rfl)
  exact ⟨by kernel_rfl, f19, "point_from", defArgs (top 19), defBody (top 19), defScope (top 19), He.ga K "point_from", fd, by kernel_rfl, rfl, D, s19, ⟨60, 60, c19⟩, F.glo' (by kernel_rfl), fun _ _ _ _ _ _ us hl => match us, hl with | [_], _ => rfl, all_nil⟩
theorem a20 {K : PySem.W.Frag} {mg : Str → Option Value} (c : SaysC cb fn K) (F : Facts fa tb.gcd ecx exl K mg) : DefAt K mg G fs tb q20 := by
  obtain ⟨fd, D⟩ := c.def_ 11 (d := d20) (by kernel_rfl)
  exact ⟨by kernel_rfl, f20, "side_from", defArgs (top 20), defBody (top 20), defScope (top 20), He.ga K "side_from", fd, by kernel_rfl, rfl, D, s20, ⟨60, 60, c20⟩, F.glo' (by kernel_rfl), fun _ _ _ _ _ _ us hl => match us, hl with | [_], _ => rfl, all_nil⟩
theorem a21 {K : PySem.W.Frag} {mg : Str → Option Value} (c : SaysC cb fn K) (F : Facts fa tb.gcd ecx exl K mg) : DefAt K mg G fs tb q21 := by
  obtain ⟨fd, D⟩ := c.def_ 12 (d := d21) (by kernel_rfl)
  exact ⟨by kernel_rfl, f21, "check_point", defArgs (top 21), defBody (top 21), defScope (top 21), He.ga K "check_point", fd, by kernel_rfl, rfl, D, s21, ⟨60, 60, c21⟩, F.glo' (by kernel_rfl), fun _ _ _ _ _ _ us hl => match us, hl with | [_], _ => rfl, all_nil⟩
theorem a22 {K : PySem.W.Frag} {mg : Str → Option Value} (c : SaysC cb fn K) (F : Facts fa tb.gcd ecx exl K mg) : DefAt K mg G fs tb q22 := by
  obtain ⟨fd, D⟩ := c.def_ 13 (d := d22) (by kernel_rfl)
  exact ⟨by kernel_rfl, f22, "from_places", defArgs (top 22), defBody (top 22), defScope (top 22), He.ga K "from_places", fd, by kernel_rfl, rfl, D, s22, ⟨60, 60, c22⟩, F.glo' (by kernel_rfl), fun _ _ _ _ _ _ us hl => match us, hl with | [_], _ => rfl, all_nil⟩
theorem a23 {K : PySem.W.Frag} {mg : Str → Option Value} (c : SaysC cb fn K) (F : Facts fa tb.gcd ecx exl K mg) : DefAt K mg G fs tb q23 := by
  obtain ⟨fd, D⟩ := c.def_ 14 (d := d23) (by kernel_rfl)
  exact ⟨by kernel_rfl, f23, "point_at", defArgs (top 23), defBody (top 23), defScope (top 23), He.ga K "point_at", fd, by kernel_rfl, rfl, D, s23, ⟨60, 60, c23⟩, F.glo' (by kernel_rfl), fun _ _ _ _ _ _ us hl => match us, hl with | [_], _ => rfl, all_cons (α := Nat × List Str) (p := fun p : Nat × List Str => BindK "point_at" "point_at" (defArgs (top 23)) (defBody (top 23)) (defScope (top 23)) q23.2.1 p.1 p.2) (fun _ _ _ _ _ _ us ws h1 h2 => match us, ws, h1, h2 with | [], [_], _, _ => rfl) (all_nil)⟩
theorem a24 {K : PySem.W.Frag} {mg : Str → Option Value} (c : SaysC cb fn K) (F : Facts fa tb.gcd ecx exl K mg) : DefAt K mg G fs tb q24 := by
  obtain ⟨fd, D⟩ := c.def_ 15 (d := d24) (by kernel_rfl)
  exact ⟨by kernel_rfl, f24, "places_in", defArgs (top 24), defBody (top 24), defScope (top 24), He.ga K "places_in", fd, by kernel_rfl, rfl, D, s24, ⟨60, 60, c24⟩, F.glo' (by kernel_rfl), fun _ _ _ _ _ _ us hl => match us, hl with | [_], _ => rfl, all_nil⟩
theorem a25 {K : PySem.W.Frag} {mg : Str → Option Value} (c : SaysC cb fn K) (F : Facts fa tb.gcd ecx exl K mg) : DefAt K mg G fs tb q25 := by
  obtain ⟨fd, D⟩ := c.def_ 16 (d := d25) (by kernel_rfl)
  exact ⟨by kernel_rfl, f25, "places_of", defArgs (top 25), defBody (top 25), defScope (top 25), He.ga K "places_of", fd, by kernel_rfl, rfl, D, s25, ⟨60, 60, c25⟩, F.glo' (by kernel_rfl), fun _ _ _ _ _ _ us hl => match us, hl with | [_], _ => rfl, all_cons (α := Nat × List Str) (p := fun p : Nat × List Str => BindK "places_of" "places_of" (defArgs (top 25)) (defBody (top 25)) (defScope (top 25)) q25.2.1 p.1 p.2) (fun _ _ _ _ _ _ us ws h1 h2 => match us, ws, h1, h2 with | [], [_], _, _ => rfl) (all_nil)⟩
theorem a26 {K : PySem.W.Frag} {mg : Str → Option Value} (c : SaysC cb fn K) (F : Facts fa tb.gcd ecx exl K mg) : DefAt K mg G fs tb q26 := by
  obtain ⟨fd, D⟩ := c.def_ 17 (d := d26) (by kernel_rfl)
  exact ⟨by kernel_rfl, f26, "side_of", defArgs (top 26), defBody (top 26), defScope (top 26), He.ga K "side_of", fd, by kernel_rfl, rfl, D, s26, ⟨60, 60, c26⟩, F.glo' (by kernel_rfl), fun _ _ _ _ _ _ us hl => match us, hl with | [_], _ => rfl, all_cons (α := Nat × List Str) (p := fun p : Nat × List Str => BindK "side_of" "side_of" (defArgs (top 26)) (defBody (top 26)) (defScope (top 26)) q26.2.1 p.1 p.2) (fun _ _ _ _ _ _ us ws h1 h2 => match us, ws, h1, h2 with | [], [_], _, _ => rfl) (all_nil)⟩
theorem a28 {K : PySem.W.Frag} {mg : Str → Option Value} (c : SaysC cb fn K) (F : Facts fa tb.gcd ecx exl K mg) : DefAt K mg G fs tb q28 := by
  obtain ⟨fd, D⟩ := c.def_ 18 (d := d28) (by kernel_rfl)
  exact ⟨by kernel_rfl, f28, "_law_cell", defArgs (top 28), defBody (top 28), defScope (top 28), He.ga K "_law_cell", fd, by kernel_rfl, rfl, D, s28, ⟨60, 60, c28⟩, F.glo' (by kernel_rfl), fun _ _ _ _ _ _ us hl => match us, hl with | [_, _], _ => rfl, all_nil⟩
theorem a29 {K : PySem.W.Frag} {mg : Str → Option Value} (c : SaysC cb fn K) (F : Facts fa tb.gcd ecx exl K mg) : DefAt K mg G fs tb q29 := by
  obtain ⟨fd, D⟩ := c.def_ 19 (d := d29) (by kernel_rfl)
  exact ⟨by kernel_rfl, f29, "_law_box", defArgs (top 29), defBody (top 29), defScope (top 29), He.ga K "_law_box", fd, by kernel_rfl, rfl, D, s29, ⟨60, 60, c29⟩, F.glo' (by kernel_rfl), fun _ _ _ _ _ _ us hl => match us, hl with | [_], _ => rfl, all_nil⟩
theorem a30 {K : PySem.W.Frag} {mg : Str → Option Value} (c : SaysC cb fn K) (F : Facts fa tb.gcd ecx exl K mg) : DefAt K mg G fs tb q30 := by
  obtain ⟨fd, D⟩ := c.def_ 20 (d := d30) (by kernel_rfl)
  exact ⟨by kernel_rfl, f30, "_law_take", defArgs (top 30), defBody (top 30), defScope (top 30), He.ga K "_law_take", fd, by kernel_rfl, rfl, D, s30, ⟨60, 60, c30⟩, F.glo' (by kernel_rfl), fun _ _ _ _ _ _ us hl => match us, hl with | [_, _], _ => rfl, all_nil⟩
theorem a31 {K : PySem.W.Frag} {mg : Str → Option Value} (c : SaysC cb fn K) (F : Facts fa tb.gcd ecx exl K mg) : DefAt K mg G fs tb q31 := by
  obtain ⟨fd, D⟩ := c.def_ 21 (d := d31) (by kernel_rfl)
  exact ⟨by kernel_rfl, f31, "_law_same", defArgs (top 31), defBody (top 31), defScope (top 31), He.ga K "_law_same", fd, by kernel_rfl, rfl, D, s31, ⟨60, 60, c31⟩, F.glo' (by kernel_rfl), fun _ _ _ _ _ _ us hl => match us, hl with | [_, _], _ => rfl, all_nil⟩
theorem a32 {K : PySem.W.Frag} {mg : Str → Option Value} (c : SaysC cb fn K) (F : Facts fa tb.gcd ecx exl K mg) : DefAt K mg G fs tb q32 := by
  obtain ⟨fd, D⟩ := c.def_ 22 (d := d32) (by kernel_rfl)
  exact ⟨by kernel_rfl, f32, "_law_factor", defArgs (top 32), defBody (top 32), defScope (top 32), He.ga K "_law_factor", fd, by kernel_rfl, rfl, D, s32, ⟨60, 60, c32⟩, F.glo' (by kernel_rfl), fun _ _ _ _ _ _ us hl => match us, hl with | [_], _ => rfl, all_nil⟩
theorem a33 {K : PySem.W.Frag} {mg : Str → Option Value} (c : SaysC cb fn K) (F : Facts fa tb.gcd ecx exl K mg) : DefAt K mg G fs tb q33 := by
  obtain ⟨fd, D⟩ := c.def_ 23 (d := d33) (by kernel_rfl)
  exact ⟨by kernel_rfl, f33, "_law_fraction", defArgs (top 33), defBody (top 33), defScope (top 33), He.ga K "_law_fraction", fd, by kernel_rfl, rfl, D, s33, ⟨60, 60, c33⟩, F.glo' (by kernel_rfl), fun _ _ _ _ _ _ us hl => match us, hl with | [_, _], _ => rfl, all_nil⟩
theorem a34 {K : PySem.W.Frag} {mg : Str → Option Value} (c : SaysC cb fn K) (F : Facts fa tb.gcd ecx exl K mg) : DefAt K mg G fs tb q34 := by
  obtain ⟨fd, D⟩ := c.def_ 24 (d := d34) (by kernel_rfl)
  exact ⟨by kernel_rfl, f34, "_law_point", defArgs (top 34), defBody (top 34), defScope (top 34), He.ga K "_law_point", fd, by kernel_rfl, rfl, D, s34, ⟨60, 60, c34⟩, F.glo' (by kernel_rfl), fun _ _ _ _ _ _ us hl => match us, hl with | [_], _ => rfl, all_nil⟩
theorem a35 {K : PySem.W.Frag} {mg : Str → Option Value} (c : SaysC cb fn K) (F : Facts fa tb.gcd ecx exl K mg) : DefAt K mg G fs tb q35 := by
  obtain ⟨fd, D⟩ := c.def_ 25 (d := d35) (by kernel_rfl)
  exact ⟨by kernel_rfl, f35, "_law_side", defArgs (top 35), defBody (top 35), defScope (top 35), He.ga K "_law_side", fd, by kernel_rfl, rfl, D, s35, ⟨60, 60, c35⟩, F.glo' (by kernel_rfl), fun _ _ _ _ _ _ us hl => match us, hl with | [_], _ => rfl, all_nil⟩
theorem a36 {K : PySem.W.Frag} {mg : Str → Option Value} (c : SaysC cb fn K) (F : Facts fa tb.gcd ecx exl K mg) : DefAt K mg G fs tb q36 := by
  obtain ⟨fd, D⟩ := c.def_ 26 (d := d36) (by kernel_rfl)
  exact ⟨by kernel_rfl, f36, "_law_any_point", defArgs (top 36), defBody (top 36), defScope (top 36), He.ga K "_law_any_point", fd, by kernel_rfl, rfl, D, s36, ⟨60, 60, c36⟩, F.glo' (by kernel_rfl), fun _ _ _ _ _ _ us hl => match us, hl with | [_, _, _, _], _ => rfl, all_nil⟩
theorem a37 {K : PySem.W.Frag} {mg : Str → Option Value} (c : SaysC cb fn K) (F : Facts fa tb.gcd ecx exl K mg) : DefAt K mg G fs tb q37 := by
  obtain ⟨fd, D⟩ := c.def_ 27 (d := d37) (by kernel_rfl)
  exact ⟨by kernel_rfl, f37, "_law_whole", defArgs (top 37), defBody (top 37), defScope (top 37), He.ga K "_law_whole", fd, by kernel_rfl, rfl, D, s37, ⟨60, 60, c37⟩, F.glo' (by kernel_rfl), fun _ _ _ _ _ _ us hl => match us, hl with | [_], _ => rfl, all_nil⟩
theorem a38 {K : PySem.W.Frag} {mg : Str → Option Value} (c : SaysC cb fn K) (F : Facts fa tb.gcd ecx exl K mg) : DefAt K mg G fs tb q38 := by
  obtain ⟨fd, D⟩ := c.def_ 28 (d := d38) (by kernel_rfl)
  exact ⟨by kernel_rfl, f38, "_law_is_point", defArgs (top 38), defBody (top 38), defScope (top 38), He.ga K "_law_is_point", fd, by kernel_rfl, rfl, D, s38, ⟨60, 60, c38⟩, F.glo' (by kernel_rfl), fun _ _ _ _ _ _ us hl => match us, hl with | [_, _], _ => rfl, all_nil⟩
theorem a39 {K : PySem.W.Frag} {mg : Str → Option Value} (c : SaysC cb fn K) (F : Facts fa tb.gcd ecx exl K mg) : DefAt K mg G fs tb q39 := by
  obtain ⟨fd, D⟩ := c.def_ 29 (d := d39) (by kernel_rfl)
  exact ⟨by kernel_rfl, f39, "_law_is_side", defArgs (top 39), defBody (top 39), defScope (top 39), He.ga K "_law_is_side", fd, by kernel_rfl, rfl, D, s39, ⟨60, 60, c39⟩, F.glo' (by kernel_rfl), fun _ _ _ _ _ _ us hl => match us, hl with | [_, _], _ => rfl, all_nil⟩
theorem a40 {K : PySem.W.Frag} {mg : Str → Option Value} (c : SaysC cb fn K) (F : Facts fa tb.gcd ecx exl K mg) : DefAt K mg G fs tb q40 := by
  obtain ⟨fd, D⟩ := c.def_ 30 (d := d40) (by kernel_rfl)
  exact ⟨by kernel_rfl, f40, "_law_blamed", defArgs (top 40), defBody (top 40), defScope (top 40), He.ga K "_law_blamed", fd, by kernel_rfl, rfl, D, s40, ⟨60, 60, c40⟩, F.glo' (by kernel_rfl), fun _ _ _ _ _ _ us hl => match us, hl with | [_, _], _ => rfl, all_nil⟩
theorem a41 {K : PySem.W.Frag} {mg : Str → Option Value} (c : SaysC cb fn K) (F : Facts fa tb.gcd ecx exl K mg) : DefAt K mg G fs tb q41 := by
  obtain ⟨fd, D⟩ := c.def_ 31 (d := d41) (by kernel_rfl)
  exact ⟨by kernel_rfl, f41, "_law_copy", defArgs (top 41), defBody (top 41), defScope (top 41), He.ga K "_law_copy", fd, by kernel_rfl, rfl, D, s41, ⟨60, 60, c41⟩, F.glo' (by kernel_rfl), fun _ _ _ _ _ _ us hl => match us, hl with | [_], _ => rfl, all_nil⟩
theorem a42 {K : PySem.W.Frag} {mg : Str → Option Value} (c : SaysC cb fn K) (F : Facts fa tb.gcd ecx exl K mg) : DefAt K mg G fs tb q42 := by
  obtain ⟨fd, D⟩ := c.def_ 32 (d := d42) (by kernel_rfl)
  exact ⟨by kernel_rfl, f42, "_law_asked", defArgs (top 42), defBody (top 42), defScope (top 42), He.ga K "_law_asked", fd, by kernel_rfl, rfl, D, s42, ⟨60, 60, c42⟩, F.glo' (by kernel_rfl), fun _ _ _ _ _ _ us hl => match us, hl with | [_, _, _], _ => rfl, all_nil⟩
theorem a43 {K : PySem.W.Frag} {mg : Str → Option Value} (c : SaysC cb fn K) (F : Facts fa tb.gcd ecx exl K mg) : DefAt K mg G fs tb q43 := by
  obtain ⟨fd, D⟩ := c.def_ 33 (d := d43) (by kernel_rfl)
  exact ⟨by kernel_rfl, f43, "_law_any_side", defArgs (top 43), defBody (top 43), defScope (top 43), He.ga K "_law_any_side", fd, by kernel_rfl, rfl, D, s43, ⟨60, 60, c43⟩, F.glo' (by kernel_rfl), fun _ _ _ _ _ _ us hl => match us, hl with | [_, _], _ => rfl, all_nil⟩
theorem a44 {K : PySem.W.Frag} {mg : Str → Option Value} (c : SaysC cb fn K) (F : Facts fa tb.gcd ecx exl K mg) : DefAt K mg G fs tb q44 := by
  obtain ⟨fd, D⟩ := c.def_ 34 (d := d44) (by kernel_rfl)
  exact ⟨by kernel_rfl, f44, "_law_near", defArgs (top 44), defBody (top 44), defScope (top 44), He.ga K "_law_near", fd, by kernel_rfl, rfl, D, s44, ⟨60, 60, c44⟩, F.glo' (by kernel_rfl), fun _ _ _ _ _ _ us hl => match us, hl with | [_, _], _ => rfl, all_nil⟩
theorem a45 {K : PySem.W.Frag} {mg : Str → Option Value} (c : SaysC cb fn K) (F : Facts fa tb.gcd ecx exl K mg) : DefAt K mg G fs tb q45 := by
  obtain ⟨fd, D⟩ := c.def_ 35 (d := d45) (by kernel_rfl)
  exact ⟨by kernel_rfl, f45, "_law_judged_right", defArgs (top 45), defBody (top 45), defScope (top 45), He.ga K "_law_judged_right", fd, by kernel_rfl, rfl, D, s45, ⟨60, 60, c45⟩, F.glo' (by kernel_rfl), fun _ _ _ _ _ _ us hl => match us, hl with | [_, _, _], _ => rfl, all_nil⟩
theorem a46 {K : PySem.W.Frag} {mg : Str → Option Value} (c : SaysC cb fn K) (F : Facts fa tb.gcd ecx exl K mg) : DefAt K mg G fs tb q46 := by
  obtain ⟨fd, D⟩ := c.def_ 36 (d := d46) (by kernel_rfl)
  exact ⟨by kernel_rfl, f46, "_law_made_right", defArgs (top 46), defBody (top 46), defScope (top 46), He.ga K "_law_made_right", fd, by kernel_rfl, rfl, D, s46, ⟨60, 60, c46⟩, F.glo' (by kernel_rfl), fun _ _ _ _ _ _ us hl => match us, hl with | [_, _, _], _ => rfl, all_nil⟩
theorem a47 {K : PySem.W.Frag} {mg : Str → Option Value} (c : SaysC cb fn K) (F : Facts fa tb.gcd ecx exl K mg) : DefAt K mg G fs tb q47 := by
  obtain ⟨fd, D⟩ := c.def_ 37 (d := d47) (by kernel_rfl)
  exact ⟨by kernel_rfl, f47, "_law_refused_right", defArgs (top 47), defBody (top 47), defScope (top 47), He.ga K "_law_refused_right", fd, by kernel_rfl, rfl, D, s47, ⟨60, 60, c47⟩, F.glo' (by kernel_rfl), fun _ _ _ _ _ _ us hl => match us, hl with | [_, _, _, _], _ => rfl, all_nil⟩
theorem a48 {K : PySem.W.Frag} {mg : Str → Option Value} (c : SaysC cb fn K) (F : Facts fa tb.gcd ecx exl K mg) : DefAt K mg G fs tb q48 := by
  obtain ⟨fd, D⟩ := c.def_ 38 (d := d48) (by kernel_rfl)
  exact ⟨by kernel_rfl, f48, "law", defArgs (top 48), defBody (top 48), defScope (top 48), He.ga K "law", fd, by kernel_rfl, rfl, D, s48, ⟨60, 60, c48⟩, F.glo' (by kernel_rfl), fun _ _ _ _ _ _ us hl => match us, hl with | [_], _ => rfl, all_nil⟩
theorem u3 : FnScope ["self", "given"] ["self", "given"] (defScope m3) := ⟨rfl, rfl, rfl, by decide +kernel, rfl, by decide +kernel, by decide +kernel⟩
theorem i3 : initB ["self", "given"] (defScope m3) "PolytopeError" "given" (defBody m3) = true := by kernel_rfl
theorem e3 {P : Program} {w : World} {K : PySem.W.Frag} {mg : Str → Option Value} {base : Heap} (c : SaysC cb fn K) (F : Facts fa tb.gcd ecx exl K mg) : Nonempty (ClAt P w K mg base 1 "InvalidPlaces" "given") := by
  obtain ⟨fd, D⟩ := c.def_ 39 (d := d3) (by kernel_rfl)
  obtain ⟨k1, k2⟩ := F.cls ("InvalidPlaces", "PolytopeError", "given") (List.mem_of_getElem? (i := 0) (by kernel_rfl))
  exact cl_at k1 (F.glo' (by kernel_rfl)) (F.glo' (by kernel_rfl)) k2 D u3 i3 (fun _ _ _ _ _ _ us hl => match us, hl with | [_, _], _ => rfl)
theorem u4 : FnScope ["self", "given"] ["self", "given"] (defScope m4) := ⟨rfl, rfl, rfl, by decide +kernel, rfl, by decide +kernel, by decide +kernel⟩
theorem i4 : initB ["self", "given"] (defScope m4) "PolytopeError" "given" (defBody m4) = true := by kernel_rfl
theorem e4 {P : Program} {w : World} {K : PySem.W.Frag} {mg : Str → Option Value} {base : Heap} (c : SaysC cb fn K) (F : Facts fa tb.gcd ecx exl K mg) : Nonempty (ClAt P w K mg base 1 "InvalidPoint" "given") := by
  obtain ⟨fd, D⟩ := c.def_ 40 (d := d4) (by kernel_rfl)
  obtain ⟨k1, k2⟩ := F.cls ("InvalidPoint", "PolytopeError", "given") (List.mem_of_getElem? (i := 1) (by kernel_rfl))
  exact cl_at k1 (F.glo' (by kernel_rfl)) (F.glo' (by kernel_rfl)) k2 D u4 i4 (fun _ _ _ _ _ _ us hl => match us, hl with | [_, _], _ => rfl)
theorem u5 : FnScope ["self", "given"] ["self", "given"] (defScope m5) := ⟨rfl, rfl, rfl, by decide +kernel, rfl, by decide +kernel, by decide +kernel⟩
theorem i5 : initB ["self", "given"] (defScope m5) "PolytopeError" "given" (defBody m5) = true := by kernel_rfl
theorem e5 {P : Program} {w : World} {K : PySem.W.Frag} {mg : Str → Option Value} {base : Heap} (c : SaysC cb fn K) (F : Facts fa tb.gcd ecx exl K mg) : Nonempty (ClAt P w K mg base 1 "InvalidNumbers" "given") := by
  obtain ⟨fd, D⟩ := c.def_ 41 (d := d5) (by kernel_rfl)
  obtain ⟨k1, k2⟩ := F.cls ("InvalidNumbers", "PolytopeError", "given") (List.mem_of_getElem? (i := 2) (by kernel_rfl))
  exact cl_at k1 (F.glo' (by kernel_rfl)) (F.glo' (by kernel_rfl)) k2 D u5 i5 (fun _ _ _ _ _ _ us hl => match us, hl with | [_, _], _ => rfl)
theorem tab_b : tabB fa ecx exl es fs tb = true := by kernel_rfl
theorem txt {P : Program} {w : World} {K : PySem.W.Frag} {mg : Str → Option Value} (c : SaysC cb fn K) (F : Facts fa tb.gcd ecx exl K mg) (base : Heap) : TxtOk P w K mg base G fs es tb :=
  have T := F.tab tab_b
  { defs := all_app (all_cons (a7 c F) (all_cons (a8 c F) (all_cons (a9 c F) (all_cons (a11 c F) (all_cons (a12 c F) (all_cons (a14 c F) (all_cons (a15 c F) (all_cons (a16 c F) (all_cons (a17 c F) (all_cons (a18 c F) (all_cons (a19 c F) (all_cons (a20 c F) (all_cons (a21 c F) (all_cons (a22 c F) (all_cons (a23 c F) (all_cons (a24 c F) (all_cons (a25 c F) (all_cons (a26 c F) (all_cons (a28 c F) (all_cons (a29 c F) (all_cons (a30 c F) (all_cons (a31 c F) (all_cons (a32 c F) (all_cons (a33 c F) (all_cons (a34 c F) (all_nil)))))))))))))))))))))))))) (all_cons (a35 c F) (all_cons (a36 c F) (all_cons (a37 c F) (all_cons (a38 c F) (all_cons (a39 c F) (all_cons (a40 c F) (all_cons (a41 c F) (all_cons (a42 c F) (all_cons (a43 c F) (all_cons (a44 c F) (all_cons (a45 c F) (all_cons (a46 c F) (all_cons (a47 c F) (all_cons (a48 c F) (all_nil)))))))))))))))
    ecs := all_cons ⟨e3 c F, by kernel_rfl, ⟨⟨"InvalidPlaces", some "given"⟩, by kernel_rfl, rfl⟩⟩ (all_cons ⟨e4 c F, by kernel_rfl, ⟨⟨"InvalidPoint", some "given"⟩, by kernel_rfl, rfl⟩⟩ (all_cons ⟨e5 c F, by kernel_rfl, ⟨⟨"InvalidNumbers", some "given"⟩, by kernel_rfl, rfl⟩⟩ (all_nil)))
    noec := T.noec
    bok := T.bok
    gok := F.gcd
    vok := all_nil
    hok := T.hok
    sok := T.sok }
end Hd

open PySem PySem.W PySem.Calls PyProof.Rows
theorem law_ends (law : ∀ ns : List Int, ns.length ≤ 63 → (∀ z ∈ ns, Builtin.Int.intBits z ≤ 1048576) → ∃ S, Pv.fns Hd.G Hd.fs Hd.es 25 "law" [.lst (ns.map Pv.D.int)] [] = .ok (.bl true) S) : PySem.Challenge.rw_polytopebench_k01_judged_made.Holds := by
  w_on; o_law
  refine HandSHeadRun.head_imp (r := OpenLaw.row PySem.Challenge.rw_polytopebench_k01_judged_made) (q := Hd.vw) (H := Hd.hk) (ob := Pv.obC 6 Hd.cb Hd.fn) (M := 6000) (loose := Hd.loose) (d := HandSHeadRun.topDef (OpenLaw.row PySem.Challenge.rw_polytopebench_k01_judged_made).prog 48) (kwd := []) Pv.obC_eq
    Hd.run (by kernel_rfl) (by kernel_rfl) (by kernel_rfl) (by rfl) (by first | assumption | decide +kernel) (by decide +kernel) ⟨rfl, rfl, rfl, rfl, rfl, by decide +kernel⟩ ?hw ?hc
  case hw => w_witness2
  case hc =>
    refine Pv.walk_pv (l := PySem.Challenge.rw_polytopebench_k01_judged_made) (n := 63) (k := 27) (x := "script") rfl (by decide) (by kernel_rfl) ⟨rfl, by decide, by decide⟩ ?F law
    intro w mg fa h Y G hmg0
    obtain ⟨K, KX, c⟩ := Y
    have F := Pv.facts_ok KX G (Pv.SaysC.fact c)
    have hmg : mg ("law" : PySem.Str) = some (.ref fa) := by
      have e : (HandSHeadRun.topDef (OpenLaw.row PySem.Challenge.rw_polytopebench_k01_judged_made).prog 48).name = ("law" : PySem.Str) := by kernel_rfl
      rw [← e]
      exact hmg0
    obtain ⟨fd, hb, hF⟩ := Pv.law_fn (P := (PySem.Challenge.rw_polytopebench_k01_judged_made).prog) (w := w) (n := 24) (Hd.a48 c F) rfl hmg (Hd.txt c F)
    exact ⟨K, fd, KX, hb, fun base _ _ => hF base⟩

namespace Hd
open PySem Pv
theorem big_ok : ∀ (Γ : Fns) (b : Nat) (ρ : Pv.Env) (S : Store) (E : Exn → Store → Prop), Wp (IR.run G Γ b false (.bin .add (.bin .pow (.cst (.int 10)) (.cst (.int 20))) (.cst (.int 1))) ρ S) (fun d S' => D.f1 d ∧ S' = S) E := by
  intro Γ b ρ S E
  repeat (first | ((with_reducible refine wp_vr ?_); refine ⟨_, rfl, ?_⟩) | with_reducible first | refine wp_cst ?_ | refine wp_bin ?_ | refine wp_ix ?_ | refine wp_add ?_ | refine wp_sub ?_ | refine wp_int ?_ | refine wp_bif ?_ | refine wp_irs ?_ | refine wp_irs0 ?_ | refine wx_sts ?_ | refine wx_sts0 ?_ | refine wx_set ?_ | refine wx_ret ?_ | refine wx_setIx ?_ | refine wx_if ?_ | refine wp_and ?_ | refine wp_or ?_ | refine wp_not ?_ | refine wp_neg ?_ | refine wp_cmp ?_ | refine wp_call ?_ | refine wp_callK ?_ | refine wp_ite ?_ | refine wp_tup ?_ | refine wp_lst ?_ | refine wp_inst ?_ | refine wx_setT ?_ | refine wx_expr ?_ | refine wp_sl ?_ | refine wp_onon ?_ | refine wp_osome ?_ | refine wp_fz ?_ | refine wp_nil ?_ | refine wx_raise ?_ | refine wx_pass ?_ | refine ex_int ?_ | refine wp_slt ?_)
  refine wp_pow ⟨by decide, by decide, by decide⟩ ?_
  repeat (first | ((with_reducible refine wp_vr ?_); refine ⟨_, rfl, ?_⟩) | with_reducible first | refine wp_cst ?_ | refine wp_bin ?_ | refine wp_ix ?_ | refine wp_add ?_ | refine wp_sub ?_ | refine wp_int ?_ | refine wp_bif ?_ | refine wp_irs ?_ | refine wp_irs0 ?_ | refine wx_sts ?_ | refine wx_sts0 ?_ | refine wx_set ?_ | refine wx_ret ?_ | refine wx_setIx ?_ | refine wx_if ?_ | refine wp_and ?_ | refine wp_or ?_ | refine wp_not ?_ | refine wp_neg ?_ | refine wp_cmp ?_ | refine wp_call ?_ | refine wp_callK ?_ | refine wp_ite ?_ | refine wp_tup ?_ | refine wp_lst ?_ | refine wp_inst ?_ | refine wx_setT ?_ | refine wx_expr ?_ | refine wp_sl ?_ | refine wp_onon ?_ | refine wp_osome ?_ | refine wp_fz ?_ | refine wp_nil ?_ | refine wx_raise ?_ | refine wx_pass ?_ | refine ex_int ?_ | refine wp_slt ?_)
  exact ⟨show small (10 ^ (20 : Int).toNat + 1) by decide, rfl⟩
theorem pts : Points fs := ⟨⟨f7, by kernel_rfl, rfl, rfl, rfl, rfl⟩, ⟨f8, by kernel_rfl, rfl, rfl, rfl, rfl⟩, ⟨f9, by kernel_rfl, rfl, rfl, rfl, rfl⟩, ⟨f14, by kernel_rfl, rfl, rfl, rfl, rfl⟩, ⟨f15, by kernel_rfl, rfl, rfl, rfl, rfl⟩⟩
theorem mod : Mod fs es where
  p := pts
  pt := ⟨f16, by kernel_rfl, rfl, rfl, rfl, rfl⟩
  sof := ⟨f17, by kernel_rfl, rfl, rfl, rfl, rfl⟩
  sd := ⟨f18, by kernel_rfl, rfl, rfl, rfl, rfl⟩
  low := ⟨f11, by kernel_rfl, rfl, rfl, rfl, rfl⟩
  fra := ⟨f12, by kernel_rfl, rfl, rfl, rfl, rfl⟩
  pf := ⟨f19, by kernel_rfl, rfl, rfl, rfl, rfl⟩
  sf := ⟨f20, by kernel_rfl, rfl, rfl, rfl, rfl⟩
  frp := ⟨f22, by kernel_rfl, rfl, rfl, rfl, rfl⟩
  chk := ⟨f21, by kernel_rfl, rfl, rfl, rfl, rfl⟩
  pat := ⟨f23, by kernel_rfl, rfl, rfl, rfl, rfl⟩
  pin := ⟨f24, by kernel_rfl, rfl, rfl, rfl, rfl⟩
  pof := ⟨f25, by kernel_rfl, rfl, rfl, rfl, rfl⟩
  sdo := ⟨f26, by kernel_rfl, rfl, rfl, rfl, rfl⟩
  e1 := ⟨by kernel_rfl, ⟨"InvalidPoint", some "given"⟩, by kernel_rfl, rfl⟩
  e2 := ⟨by kernel_rfl, ⟨"InvalidPlaces", some "given"⟩, by kernel_rfl, rfl⟩
  e3 := ⟨by kernel_rfl, ⟨"InvalidNumbers", some "given"⟩, by kernel_rfl, rfl⟩
theorem drw : Draws fs 15486181 179425019 104801 := ⟨⟨f30, by kernel_rfl, rfl, rfl, rfl, rfl⟩, ⟨by decide, by decide, by decide⟩, ⟨f32, by kernel_rfl, rfl, rfl, rfl, rfl⟩, ⟨f34, by kernel_rfl, rfl, rfl, rfl, rfl⟩, ⟨f35, by kernel_rfl, rfl, rfl, rfl, rfl⟩⟩
theorem k1 : K1 G fs es 15486181 179425019 104801 (.bin .add (.bin .pow (.cst (.int 10)) (.cst (.int 20))) (.cst (.int 1))) where
  md := mod
  dd := drw
  same := ⟨f31, by kernel_rfl, rfl, rfl, rfl, rfl⟩
  copy := ⟨f41, by kernel_rfl, rfl, rfl, rfl, rfl⟩
  blam := ⟨f40, by kernel_rfl, rfl, rfl, rfl, rfl⟩
  asked := ⟨f42, by kernel_rfl, rfl, rfl, rfl, rfl⟩
  near := ⟨f44, by kernel_rfl, rfl, rfl, rfl, rfl⟩
  big := big_ok
  anyPt := ⟨f36, by kernel_rfl, rfl, rfl, rfl, rfl⟩
  anySd := ⟨f43, by kernel_rfl, rfl, rfl, rfl, rfl⟩
  whole := ⟨f37, by kernel_rfl, rfl, rfl, rfl, rfl⟩
  lpt := ⟨f38, by kernel_rfl, rfl, rfl, rfl, rfl⟩
  lsd := ⟨f39, by kernel_rfl, rfl, rfl, rfl, rfl⟩
  frac := ⟨f33, by kernel_rfl, rfl, rfl, rfl, rfl⟩
  g := ⟨by kernel_rfl, by kernel_rfl, by kernel_rfl⟩
  g1 := by kernel_rfl
  g2 := by kernel_rfl
theorem law_all (ns : List Int) (hn : ns.length ≤ 63) : ∃ S, Pv.fns G fs es 25 "law" [.lst (ns.map Pv.D.int)] [] = .ok (.bl true) S := by
  have w := law_ok (c1 := 6203) (c2 := 1000033) k1 ⟨f45, by kernel_rfl, rfl, rfl, rfl, rfl⟩ ⟨f46, by kernel_rfl, rfl, rfl, rfl, rfl⟩ ⟨f47, by kernel_rfl, rfl, rfl, rfl, rfl⟩ ⟨f28, by kernel_rfl, rfl, rfl, rfl, rfl⟩ (by decide) (by decide) ⟨f29, by kernel_rfl, rfl, rfl, rfl, rfl⟩ ⟨f48, by kernel_rfl, rfl, rfl, rfl, rfl⟩ (k := 13) (S := []) (E := fun _ _ => False) hn
  obtain ⟨d, S, e, h⟩ := wp_out w
  rw [h] at e
  exact ⟨S, e⟩
end Hd
theorem PySem.Challenge.cw_polytopebench_k01_judged_made_holds : PySem.Challenge.rw_polytopebench_k01_judged_made.Holds := by
  exact law_ends fun ns hn _ => Hd.law_all ns hn
